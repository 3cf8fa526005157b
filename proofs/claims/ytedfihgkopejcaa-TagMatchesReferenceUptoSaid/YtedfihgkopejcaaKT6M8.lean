/-
  TAGS, plain: tags by their lookups; what tag.Set does to them. Conditions: none.
  THE LAW planispherelaw09.TagSets: it answers true. Conditions: sizes below 2^36.
  WHAT THE ARGUMENTS OF THE LAWS ABOUT TAGS HOLD. Conditions: none.
  TAGS MERGED, plain: tag.Merge by lookups. Conditions: none.
  THE LAW planispherelaw09.TagMerges: it answers true. Conditions: sizes below 2^36.
  THE TEXT OF TAGS IS LEXED BACK, plain. Conditions: none.
  THE LAW planispherelaw09.TagTexts: it answers true. Conditions: sizes below 2^36.
  CONTRACTS: the reference: letters, names, points, words, tags. Conditions: lengths below 2^62.
  CONTRACTS: planisphereref09's Get, Valid, put, Set: the same as tag's. Conditions: lengths below 2^38.
-/
import Derived.Test.YtedfihgkopejcaaKT6M7
section
set_option linter.unusedVariables false
set_option linter.unusedSimpArgs false
namespace Go.Proofs.Ytedfihgkopejcaa
open Go.Abs
def vOf (l : List GTag) (k : ByteArray) : ByteArray := (gGet l k).getD sNil
theorem asc_inj {l : List GTag} (ha : asc GTag.key l) {a b : GTag} (h1 : a ∈ l) (h2 : b ∈ l) (e : a.key = b.key) : a = b := by
  obtain ⟨i, hi⟩ := List.mem_iff_getElem?.1 h1
  obtain ⟨j, hj⟩ := List.mem_iff_getElem?.1 h2
  rcases Nat.lt_trichotomy i j with h | h | h
  · have := asc_get ha h hi hj
    rw [e, slt_irr] at this; cases this
  · subst h
    rw [hi] at hj; exact Option.some.inj hj
  · have := asc_get ha h hj hi
    rw [e, slt_irr] at this; cases this
theorem gGet_mem {l : List GTag} {k v : ByteArray} (h : gGet l k = some v) : (⟨k, v⟩ : GTag) ∈ l := by
  rw [gGet, Option.map_eq_some_iff] at h
  obtain ⟨t, ht, rfl⟩ := h
  have h1 := List.find?_some ht
  have h2 := List.mem_of_find?_eq_some ht
  have e := of_decide_eq_true h1
  obtain ⟨a, b⟩ := t
  subst e
  exact h2
theorem gGet_of {l : List GTag} (ha : asc GTag.key l) {k v : ByteArray} (h : (⟨k, v⟩ : GTag) ∈ l) : gGet l k = some v := by
  cases hf : l.find? (fun t => decide (t.key = k)) with
  | none =>
    have := List.find?_eq_none.1 hf _ h
    simp at this
  | some t =>
    have h0 := List.find?_some hf
    have h1 : t.key = k := of_decide_eq_true h0
    have h2 := List.mem_of_find?_eq_some hf
    have := asc_inj ha h2 h h1
    subst this
    rw [gGet, hf]
    rfl
theorem gGet_iff {l : List GTag} (ha : asc GTag.key l) {k v : ByteArray} : gGet l k = some v ↔ (⟨k, v⟩ : GTag) ∈ l := ⟨gGet_mem, gGet_of ha⟩
theorem gGet_none {l : List GTag} {k : ByteArray} (h : ∀ t, t ∈ l → t.key ≠ k) : gGet l k = none := by
  cases e : gGet l k with
  | none => rfl
  | some v => exact absurd rfl (h _ (gGet_mem e))
theorem opt_ext {a b : Option ByteArray} (h : ∀ v, a = some v ↔ b = some v) : a = b := by
  cases a with
  | none => cases b with
    | none => rfl
    | some v => exact absurd ((h v).2 rfl) (by simp)
  | some v => exact ((h v).1 rfl).symm
theorem cut9 {α : Type} {l : List α} {i : Nat} {x : α} (h : l[i]? = some x) : l = l.take i ++ x :: l.drop (i + 1) := by
  obtain ⟨h1, h2⟩ := List.getElem?_eq_some_iff.1 h
  conv => lhs; rw [← List.take_append_drop i l]
  rw [List.drop_eq_getElem_cons h1, h2]
theorem asc_app {l1 l2 : List GTag} {y : GTag} (h : asc GTag.key (l1 ++ y :: l2)) : (∀ a, a ∈ l1 → slt a.key y.key = true) ∧ (∀ b, b ∈ l2 → slt y.key b.key = true) ∧ asc GTag.key l1 ∧ asc GTag.key l2 ∧ (∀ a, a ∈ l1 → ∀ b, b ∈ l2 → slt a.key b.key = true) := by
  rw [asc, List.pairwise_append] at h
  obtain ⟨h1, h2, h3⟩ := h
  rw [List.pairwise_cons] at h2
  exact ⟨fun a ha => h3 a ha y List.mem_cons_self, h2.1, h1, h2.2, fun a ha b hb => h3 a ha b (List.mem_cons_of_mem _ hb)⟩
theorem asc_mk {l1 l2 : List GTag} {y : GTag} (h1 : asc GTag.key l1) (h2 : asc GTag.key l2) (ha : ∀ a, a ∈ l1 → slt a.key y.key = true) (hb : ∀ b, b ∈ l2 → slt y.key b.key = true) : asc GTag.key (l1 ++ y :: l2) := by
  rw [asc, List.pairwise_append, List.pairwise_cons]
  refine ⟨h1, ⟨hb, h2⟩, fun a h b h' => ?_⟩
  rcases List.mem_cons.1 h' with rfl | h'
  · exact ha a h
  · exact slt_trans (ha a h) (hb b h')
theorem asc_del {l1 l2 : List GTag} {y : GTag} (h : asc GTag.key (l1 ++ y :: l2)) : asc GTag.key (l1 ++ l2) := by
  obtain ⟨_, _, h1, h2, h3⟩ := asc_app h
  exact List.pairwise_append.2 ⟨h1, h2, h3⟩
theorem noK {l : List GTag} {k : ByteArray} (h : hasK GTag.key l k = false) : ∀ t, t ∈ l → t.key ≠ k := fun t ht e => by
  have : hasK GTag.key l k = true := List.any_eq_true.2 ⟨t, ht, decide_eq_true e⟩
  rw [h] at this; cases this
/-- What tag.Set asks for. -/
def canSet (l : List GTag) (key val : ByteArray) : Prop := gTags l = true ∧ gName key = true ∧ val.size ≤ 200 ∧ (hasK GTag.key l key = false → val ≠ sNil → l.length ≠ 60)
theorem gSet_cases (l : List GTag) (key val : ByteArray) :
    (¬ canSet l key val ∧ (gSet l key val).1 = [] ∧ ((gSet l key val).2 = 1 ∨ ((gSet l key val).2 = 2 ∧ l.length = 60))) ∨
    (canSet l key val ∧ (gSet l key val).2 = 0 ∧ gTags (gSet l key val).1 = true ∧ (∀ k, gGet (gSet l key val).1 k = if k = key then (if val = sNil then none else some val) else gGet l k) ∧ (gSet l key val).1.length ≤ l.length + 1 ∧ (hasK GTag.key l key = true → val = sNil → (gSet l key val).1.length + 1 = l.length)) := by
  unfold gSet
  by_cases h1 : (!gTags l || !gName key || decide (200 < (val.size : Int))) = true
  · rw [if_pos h1]
    left
    refine ⟨fun h => ?_, rfl, .inl rfl⟩
    obtain ⟨a, b, c, _⟩ := h
    rw [a, b] at h1
    simp only [Bool.not_true, Bool.false_or, decide_eq_true_eq] at h1
    omega
  · rw [if_neg h1]
    have h1' := h1
    simp only [Bool.or_eq_true, not_or, Bool.not_eq_true', Bool.not_eq_false, decide_eq_true_eq] at h1'
    obtain ⟨⟨hg, hn⟩, hv⟩ := h1'
    have hv2 : val.size ≤ 200 := by omega
    obtain ⟨g1, g2, g3⟩ := gTags_iff.1 hg
    by_cases h2 : hasK GTag.key l key = true
    · rw [if_pos h2]
      right
      obtain ⟨y, hy, hye⟩ := hasK_get (f := GTag.key) g2 h2
      have hcan : canSet l key val := ⟨hg, hn, hv2, fun h => by rw [h2] at h; cases h⟩
      have hlt := (List.getElem?_eq_some_iff.1 hy).1
      have hcut := cut9 hy
      obtain ⟨A, hA⟩ : ∃ A, A = l.take (lbI GTag.key l key) := ⟨_, rfl⟩
      obtain ⟨B, hB⟩ : ∃ B, B = l.drop (lbI GTag.key l key + 1) := ⟨_, rfl⟩
      have hset : l.set (lbI GTag.key l key) ⟨key, val⟩ = A ++ ⟨key, val⟩ :: B := by rw [List.set_eq_take_append_cons_drop, if_pos hlt, hA, hB]
      rw [← hA, ← hB] at hcut
      rw [← hA, ← hB, hset]
      have g2' := g2
      rw [hcut] at g2'
      obtain ⟨p1, p2, p3, p4, p5⟩ := asc_app g2'
      have hlen : l.length = A.length + B.length + 1 := by rw [hcut, List.length_append, List.length_cons]; omega
      have hmem : ∀ t, t ∈ l ↔ t ∈ A ∨ t = y ∨ t ∈ B := fun t => by rw [hcut]; simp
      have hne : ∀ t, t ∈ A ∨ t ∈ B → t.key ≠ key := fun t ht e => by
        rcases ht with h | h
        · have := p1 t h
          rw [e, hye, slt_irr] at this; cases this
        · have := p2 t h
          rw [e, hye, slt_irr] at this; cases this
      by_cases h3 : val = sNil
      · rw [if_pos h3]
        have hasc : asc GTag.key (A ++ B) := asc_del g2'
        refine ⟨hcan, rfl, gTags_iff.2 ⟨fun t ht => g1 t ((hmem t).2 ?_), hasc, by show (A ++ B).length ≤ 60; rw [List.length_append]; omega⟩, fun k => ?_, by show (A ++ B).length ≤ _; rw [List.length_append]; omega, fun _ _ => by show (A ++ B).length + 1 = _; rw [List.length_append]; omega⟩
        · rcases List.mem_append.1 ht with h | h
          · exact .inl h
          · exact .inr (.inr h)
        · show gGet (A ++ B) k = _
          by_cases hk : k = key
          · rw [if_pos hk, if_pos h3]
            exact gGet_none fun t ht => by rw [hk]; exact hne t (List.mem_append.1 ht)
          · rw [if_neg hk]
            refine opt_ext fun v => ?_
            rw [gGet_iff hasc, gGet_iff g2, hmem, List.mem_append]
            constructor
            · rintro (h | h)
              · exact .inl h
              · exact .inr (.inr h)
            · rintro (h | h | h)
              · exact .inl h
              · rw [← h] at hye; exact absurd hye hk
              · exact .inr h
      · rw [if_neg h3]
        have hasc : asc GTag.key (A ++ ⟨key, val⟩ :: B) := asc_mk p3 p4 (fun a ha => by have := p1 a ha; rwa [hye] at this) (fun b hb => by have := p2 b hb; rwa [hye] at this)
        refine ⟨hcan, rfl, gTags_iff.2 ⟨fun t ht => ?_, hasc, by show (A ++ ⟨key, val⟩ :: B).length ≤ 60; rw [List.length_append, List.length_cons]; omega⟩, fun k => ?_, by show (A ++ ⟨key, val⟩ :: B).length ≤ _; rw [List.length_append, List.length_cons]; omega, fun _ h => absurd h h3⟩
        · rcases List.mem_append.1 ht with h | h
          · exact g1 t ((hmem t).2 (.inl h))
          · rcases List.mem_cons.1 h with rfl | h
            · exact ⟨hn, h3, hv2⟩
            · exact g1 t ((hmem t).2 (.inr (.inr h)))
        · show gGet (A ++ ⟨key, val⟩ :: B) k = _
          by_cases hk : k = key
          · rw [if_pos hk, if_neg h3, hk]
            exact gGet_of hasc (by simp)
          · rw [if_neg hk]
            refine opt_ext fun v => ?_
            rw [gGet_iff hasc, gGet_iff g2, hmem, List.mem_append, List.mem_cons]
            constructor
            · rintro (h | h | h)
              · exact .inl h
              · exact absurd (congrArg GTag.key h) hk
              · exact .inr (.inr h)
            · rintro (h | h | h)
              · exact .inl h
              · rw [← h] at hye; exact absurd hye hk
              · exact .inr (.inr h)
    · rw [if_neg h2]
      have h2f : hasK GTag.key l key = false := by simpa using h2
      have hno := noK h2f
      by_cases h3 : val = sNil
      · rw [if_pos h3]
        right
        refine ⟨⟨hg, hn, hv2, fun _ h => absurd h3 h⟩, rfl, hg, fun k => ?_, Nat.le_succ _, fun h => absurd h h2⟩
        by_cases hk : k = key
        · rw [if_pos hk, if_pos h3, hk]
          exact gGet_none hno
        · rw [if_neg hk]
      · rw [if_neg h3]
        by_cases h4 : l.length = 60
        · rw [if_pos h4]
          left
          exact ⟨fun h => h.2.2.2 h2f h3 h4, rfl, .inr ⟨rfl, h4⟩⟩
        · rw [if_neg h4]
          right
          have hasc : asc GTag.key (l.take (lbI GTag.key l key) ++ ⟨key, val⟩ :: l.drop (lbI GTag.key l key)) := asc_ins (f := GTag.key) (o := ⟨key, val⟩) g2 h2f
          have hmem : ∀ t, t ∈ l ↔ t ∈ l.take (lbI GTag.key l key) ∨ t ∈ l.drop (lbI GTag.key l key) := fun t => by
            rw [← List.mem_append, List.take_append_drop]
          have hlen : (l.take (lbI GTag.key l key)).length + (l.drop (lbI GTag.key l key)).length = l.length := by rw [← List.length_append, List.take_append_drop]
          refine ⟨⟨hg, hn, hv2, fun _ _ => h4⟩, rfl, gTags_iff.2 ⟨fun t ht => ?_, hasc, by show (l.take (lbI GTag.key l key) ++ ⟨key, val⟩ :: l.drop (lbI GTag.key l key)).length ≤ 60; rw [List.length_append, List.length_cons]; omega⟩, fun k => ?_, by show (l.take (lbI GTag.key l key) ++ ⟨key, val⟩ :: l.drop (lbI GTag.key l key)).length ≤ _; rw [List.length_append, List.length_cons]; omega, fun h => absurd h h2⟩
          · rcases List.mem_append.1 ht with h | h
            · exact g1 t ((hmem t).2 (.inl h))
            · rcases List.mem_cons.1 h with rfl | h
              · exact ⟨hn, h3, hv2⟩
              · exact g1 t ((hmem t).2 (.inr h))
          · show gGet (l.take (lbI GTag.key l key) ++ ⟨key, val⟩ :: l.drop (lbI GTag.key l key)) k = _
            by_cases hk : k = key
            · rw [if_pos hk, if_neg h3, hk]
              exact gGet_of hasc (by simp)
            · rw [if_neg hk]
              refine opt_ext fun v => ?_
              rw [gGet_iff hasc, gGet_iff g2, hmem, List.mem_append, List.mem_cons]
              constructor
              · rintro (h | h | h)
                · exact .inl h
                · exact absurd (congrArg GTag.key h) hk
                · exact .inr h
              · rintro (h | h)
                · exact .inl h
                · exact .inr (.inr h)
end Go.Proofs.Ytedfihgkopejcaa
end
section
set_option linter.unusedVariables false
set_option linter.unusedSimpArgs false
set_option maxRecDepth 100000
namespace Go.Proofs.Ytedfihgkopejcaa
open Go.Abs
/-- Tags of a moderate size. -/
def szT (l : List GTag) : Prop := okTags l ∧ l.length < 68719476736
theorem gSet_sz {l : List GTag} {key val : ByteArray} (hl : szT l) (hk : key.size < 4611686018427387904) (hv : val.size < 4611686018427387904) : szT (gSet l key val).1 := by
  rcases gSet_cases l key val with ⟨_, h, _⟩ | ⟨_, _, h3, h4, _, _⟩
  · rw [h]
    exact ⟨⟨by show 0 < _; omega, fun t ht => by cases ht⟩, by show 0 < _; omega⟩
  · obtain ⟨x1, x2, x3⟩ := gTags_iff.1 h3
    refine ⟨⟨by omega, fun t ht => ?_⟩, by omega⟩
    obtain ⟨a, b, c⟩ := x1 t ht
    exact ⟨by have := gName_size a; omega, by omega⟩
theorem get9v {l : List GTag} {k v : ByteArray} {b : Bool} (h : (gGet l k).getD sNil = v) (h2 : (gGet l k).isSome = b) (H : Heap) (hl : l.length < 4611686018427387904) : ACalls Try.prog 19 [.pv (slTags l), sv k] H (fun r H' => r = .tup [sv v, bv b] ∧ H' = H) := by
  have := tagGet_c l k H hl
  rwa [h, h2] at this
end Go.Proofs.Ytedfihgkopejcaa
end
section
set_option linter.unusedVariables false
set_option linter.unusedSimpArgs false
namespace Go.Proofs.Ytedfihgkopejcaa
open Go.Abs
theorem szT_of {l : List GTag} (h : szTags 1048576 l) : szT l := ⟨okTags_of (by decide) h, by have := h.1; omega⟩
end Go.Proofs.Ytedfihgkopejcaa
end
section
set_option linter.unusedVariables false
set_option linter.unusedSimpArgs false
namespace Go.Proofs.Ytedfihgkopejcaa
open Go.Abs
/-! ### names in order -/
theorem toU_ofU9 (l : List UInt8) : toU (ofU l) = l := by simp [toU, ofU]
theorem slt_toU9 (a b : ByteArray) : slt a b = decide (toU a < toU b) := by
  unfold slt
  rw [bytesLess_eq, ByteArray.toList_eq, ByteArray.toList_eq]
  rfl
theorem sortS_up {l : List ByteArray} (hn : l.Nodup) : (sortS l).Pairwise (fun a b => slt a b = true) := by
  have hle : (sortS l).Pairwise (fun a b => slt b a = false) := by
    unfold sortS
    rw [List.pairwise_map]
    refine List.Pairwise.imp (R := fun (x y : List UInt8) => decide (x ≤ y) = true) (fun {x y} h => ?_) (List.pairwise_mergeSort (le := fun (x y : List UInt8) => decide (x ≤ y)) (fun a b c h1 h2 => decide_eq_true (List.le_trans (of_decide_eq_true h1) (of_decide_eq_true h2))) u8_le_total _)
    rw [slt_toU9, toU_ofU9, toU_ofU9]
    exact decide_eq_false (List.not_lt.2 (of_decide_eq_true h))
  have hp : (sortS l).Pairwise (fun a b => a ≠ b) := (sortS_perm l).symm.pairwise hn (fun {a b} h => h.symm)
  refine (hp.and hle).imp fun {a b} h => ?_
  obtain ⟨h1, h2⟩ := h
  cases hc : slt a b with
  | true => rfl
  | false => exact absurd (slt_tri hc h2) h1
theorem up_nodup {l : List ByteArray} (h : l.Pairwise (fun a b => slt a b = true)) : l.Nodup := by
  refine List.Pairwise.imp (fun {a b} h e => ?_) h
  subst e
  rw [slt_irr] at h; cases h
/-! ### what the three sides have for a key -/
theorem ent3_add (L : List M3) (s k : ByteArray) : ent3 (addK L s) k = ent3 L k := by
  unfold addK
  split
  · rfl
  · rw [ent3, ent3, List.find?_append]
    cases L.find? fun p => decide (p.k = k) with
    | some p => rfl
    | none =>
      by_cases h : s = k
      · subst h
        simp [M3.nil]
      · simp [M3.nil, h]
theorem find_set (i : Nat) (s v k : ByteArray) : ∀ (L : List M3), (setK i s v L).find? (fun p => decide (p.k = k)) = (L.find? fun p => decide (p.k = k)).map fun p => if p.k = s then p.up i v else p
  | [] => rfl
  | p :: L => by
    have ih := find_set i s v k L
    rw [setK, List.map_cons, List.find?_cons, List.find?_cons]
    have hk : (if p.k = s then p.up i v else p).k = p.k := by
      split
      · exact up_k i v p
      · rfl
    rw [hk]
    by_cases h : p.k = k
    · rw [decide_eq_true h]
      rfl
    · rw [decide_eq_false h]
      exact ih
theorem ent3_ins (i : Nat) (L : List M3) (t : GTag) (k : ByteArray) : ent3 (insK i L t) k = if t.key = k then (ent3 L k).up i t.val else ent3 L k := by
  have hin : t.key ∈ (addK L t.key).map M3.k := addK_has L t.key
  rw [insK, ent3, find_set, ← ent3_add L t.key k]
  obtain ⟨M, hM⟩ : ∃ M, M = addK L t.key := ⟨_, rfl⟩
  rw [← hM] at hin ⊢
  rw [ent3]
  cases hf : M.find? fun p => decide (p.k = k) with
  | none =>
    have hne : ¬ t.key = k := fun e => by
      obtain ⟨p, hp, hpk⟩ := List.mem_map.1 hin
      have := List.find?_eq_none.1 hf p hp
      rw [hpk, decide_eq_true e] at this
      exact this rfl
    rw [if_neg hne]
    rfl
  | some p =>
    have h := List.find?_some hf
    have hpk : p.k = k := of_decide_eq_true h
    show (if p.k = t.key then p.up i t.val else p) = if t.key = k then p.up i t.val else p
    rw [hpk]
    by_cases e : k = t.key
    · rw [if_pos e, if_pos e.symm]
    · rw [if_neg e, if_neg (Ne.symm e)]
theorem ent3_side (i : Nat) (k : ByteArray) : ∀ (l : List GTag) (L : List M3), asc GTag.key l → ent3 (sideK i L l) k = match gGet l k with
    | some v => (ent3 L k).up i v
    | none => ent3 L k
  | [], L, _ => rfl
  | t :: r, L, ha => by
    rw [asc, List.pairwise_cons] at ha
    have ih := ent3_side i k r (insK i L t) ha.2
    show ent3 (sideK i (insK i L t) r) k = _
    rw [ih, ent3_ins]
    by_cases e : t.key = k
    · have hr : gGet r k = none := gGet_none fun x hx h => by
        have := ha.1 x hx
        rw [e, h, slt_irr] at this; cases this
      have hg : gGet (t :: r) k = some t.val := by rw [gGet, List.find?_cons, decide_eq_true e]; rfl
      rw [hr, hg, if_pos e]
    · have hg : gGet (t :: r) k = gGet r k := by rw [gGet, List.find?_cons, decide_eq_false e]; rfl
      rw [hg, if_neg e]
theorem up_or (i : Nat) (p : M3) (l : List GTag) (k : ByteArray) (h0 : i = 0 → p.b = sNil) (h1 : i = 1 → p.o = sNil) (h2 : i = 2 → p.t = sNil) (hi : i < 3) : (match gGet l k with
    | some v => p.up i v
    | none => p) = p.up i (vOf l k) := by
  rw [vOf]
  cases gGet l k with
  | some v => rfl
  | none =>
    obtain ⟨pk, pb, po, pt⟩ := p
    match i, hi with
    | 0, _ => have := h0 rfl; subst this; rfl
    | 1, _ => have := h1 rfl; subst this; rfl
    | 2, _ => have := h2 rfl; subst this; rfl
theorem ent3_all {b o t : List GTag} (hb : asc GTag.key b) (ho : asc GTag.key o) (ht : asc GTag.key t) (k : ByteArray) : ent3 (all3 b o t) k = ⟨k, vOf b k, vOf o k, vOf t k⟩ := by
  rw [all3, ent3_side 2 k t _ ht, ent3_side 1 k o _ ho, ent3_side 0 k b _ hb]
  have e0 : ent3 [] k = M3.nil k := rfl
  rw [e0, up_or 0 (M3.nil k) b k (fun _ => rfl) (fun h => by cases h) (fun h => by cases h) (by decide),
    up_or 1 _ o k (fun h => by cases h) (fun _ => rfl) (fun h => by cases h) (by decide),
    up_or 2 _ t k (fun h => by cases h) (fun h => by cases h) (fun _ => rfl) (by decide)]
  rfl
theorem key_side (i : Nat) (k : ByteArray) : ∀ (l : List GTag) (L : List M3), k ∈ (sideK i L l).map M3.k ↔ k ∈ L.map M3.k ∨ k ∈ l.map GTag.key
  | [], L => by simp [sideK]
  | t :: r, L => by
    show k ∈ (sideK i (insK i L t) r).map M3.k ↔ _
    rw [key_side i k r, insK, setK_k, List.map_cons, List.mem_cons]
    have : k ∈ (addK L t.key).map M3.k ↔ k ∈ L.map M3.k ∨ k = t.key := by
      by_cases h : t.key ∈ L.map M3.k
      · rw [addK_in h]
        exact ⟨.inl, fun h' => by rcases h' with h' | rfl; exact h'; exact h⟩
      · rw [addK_new h, List.map_append, List.mem_append]
        simp [M3.nil]
    rw [this, or_assoc]
/-- The keys of three sides, in order. -/
def keys3 (b o t : List GTag) : List ByteArray := sortS ((all3 b o t).map M3.k)
theorem keys3_mem {b o t : List GTag} {k : ByteArray} : k ∈ keys3 b o t ↔ k ∈ b.map GTag.key ∨ k ∈ o.map GTag.key ∨ k ∈ t.map GTag.key := by
  rw [keys3, (sortS_perm _).mem_iff, all3, key_side, key_side, key_side]
  simp [or_assoc]
theorem keys3_up (b o t : List GTag) : (keys3 b o t).Pairwise (fun a b => slt a b = true) := sortS_up (all3_nodup b o t)
theorem keys3_len (b o t : List GTag) : (keys3 b o t).length ≤ b.length + o.length + t.length := by
  rw [keys3, sortS_length, List.length_map]
  have h1 := sideK_len 2 t (sideK 1 (sideK 0 [] b) o)
  have h2 := sideK_len 1 o (sideK 0 [] b)
  have h3 := sideK_len 0 b []
  rw [List.length_nil] at h3
  show (sideK 2 (sideK 1 (sideK 0 [] b) o) t).length ≤ _
  omega
def at3 (b o t : List GTag) (k : ByteArray) : M3 := ⟨k, vOf b k, vOf o k, vOf t k⟩
theorem srt3_eq {b o t : List GTag} (hb : asc GTag.key b) (ho : asc GTag.key o) (ht : asc GTag.key t) : srt3 (all3 b o t) = (keys3 b o t).map (at3 b o t) :=
  List.map_congr_left fun k _ => ent3_all hb ho ht k
/-! ### the merge -/
def neB (p : M3) : Bool := !decide ((m1 p).1 = ⟨#[]⟩)
def mv (b o t : List GTag) (k : ByteArray) : ByteArray := (m1 (at3 b o t k)).1
def mc (b o t : List GTag) (k : ByteArray) : Bool := (m1 (at3 b o t k)).2
end Go.Proofs.Ytedfihgkopejcaa
end
section
set_option linter.unusedVariables false
set_option linter.unusedSimpArgs false
set_option maxRecDepth 100000
namespace Go.Proofs.Ytedfihgkopejcaa
open Go.Abs
theorem merge_bad {b o t : List GTag} (h : (gTags b && gTags o && gTags t) = false) : gMerge b o t = ([], []) := by rw [gMerge, if_neg (by rw [h]; simp)]
theorem encTs_rl (ls : List (List GTag)) : ∀ r ∈ ls.map encTs, r.length = 1 := fun r hr => by
  obtain ⟨l, _, rfl⟩ := List.mem_map.1 hr
  rfl
theorem fold_len : ∀ (P : List M3) (a : List GTag × List ByteArray), (P.foldl mStep a).1.length ≤ a.1.length + P.length ∧ (P.foldl mStep a).2.length ≤ a.2.length + 2 * P.length
  | [], a => by simp
  | p :: P, a => by
    have h1 := mStep_len a p
    have h2 := fold_len P (mStep a p)
    rw [List.foldl_cons, List.length_cons]
    omega
theorem gMerge_len (b o t : List GTag) : (gMerge b o t).1.length ≤ b.length + o.length + t.length ∧ (gMerge b o t).2.length ≤ 2 * (b.length + o.length + t.length) := by
  unfold gMerge
  split
  · have h := fold_len (srt3 (all3 b o t)) ([], [])
    have h2 := keys3_len b o t
    have h3 : (srt3 (all3 b o t)).length = (keys3 b o t).length := by rw [srt3, List.length_map]; rfl
    rw [h3] at h
    simp only [List.length_nil, Nat.zero_add] at h
    omega
  · simp
end Go.Proofs.Ytedfihgkopejcaa
end
section
set_option linter.unusedVariables false
set_option linter.unusedSimpArgs false
set_option maxRecDepth 100000
namespace Go.Proofs.Ytedfihgkopejcaa
open Go.Abs
theorem size_list (s : ByteArray) : s.data.toList.length = s.size := by simp
theorem ba_ext {a b : ByteArray} (h : a.data.toList = b.data.toList) : a = b := by
  cases a with | mk a => cases b with | mk b => cases a; cases b; simp at h; rw [h]
theorem extract_list (s : ByteArray) (i j : Nat) : (s.extract i j).data.toList = (s.data.toList.drop i).take (j - i) := by
  rw [ByteArray.data_extract, Array.toList_extract, List.extract_eq_take_drop]
theorem at_of {s : ByteArray} {i : Nat} {c : UInt8} {r : List UInt8} (h : s.data.toList.drop i = c :: r) : i < s.size ∧ byteAt s i = (c.toNat : Int) ∧ s.data.toList.drop (i + 1) = r := by
  obtain ⟨h1, h2⟩ := head_of h
  refine ⟨by rw [← size_list]; exact (List.getElem?_eq_some_iff.1 h1).1, by rw [byteAt, h1]; rfl, h2⟩
theorem atC_of {s : ByteArray} {i : Nat} {c : UInt8} {r : List UInt8} (h : s.data.toList.drop i = c :: r) : atC s i = cls (c.toNat : Int) := by
  obtain ⟨h1, h2, _⟩ := at_of h
  rw [atC, if_pos h1, h2]
theorem atC_end {s : ByteArray} {i : Nat} (h : s.data.toList.drop i = []) : atC s i = 0 := by
  have := List.drop_eq_nil_iff.1 h
  rw [size_list] at this
  rw [atC, if_neg (by omega)]
theorem drop_app {s : ByteArray} {i : Nat} {w r : List UInt8} (h : s.data.toList.drop i = w ++ r) : s.data.toList.drop (i + w.length) = r := by
  rw [← List.drop_drop, h, List.drop_left]
theorem drop_at {s : ByteArray} {i k : Nat} {w r : List UInt8} {c : UInt8} (h : s.data.toList.drop i = w ++ r) (hk : w[k]? = some c) : s.data.toList.drop (i + k) = c :: ((w.drop (k + 1)) ++ r) := by
  have hlt := (List.getElem?_eq_some_iff.1 hk).1
  have e : w = w.take k ++ c :: w.drop (k + 1) := by
    conv => lhs; rw [← List.take_append_drop k w]
    rw [List.drop_eq_getElem_cons hlt, (List.getElem?_eq_some_iff.1 hk).2]
  have h2 : s.data.toList.drop i = w.take k ++ (c :: w.drop (k + 1) ++ r) := by
    rw [h]
    exact (congrArg (· ++ r) e).trans (List.append_assoc _ _ _)
  have h3 := drop_app h2
  rw [List.length_take, Nat.min_eq_left (by omega)] at h3
  exact h3
theorem extract_app {s : ByteArray} {i : Nat} {w r : List UInt8} (h : s.data.toList.drop i = w ++ r) : s.extract i (i + w.length) = ⟨w.toArray⟩ := by
  refine ba_ext ?_
  rw [extract_list, h, Nat.add_sub_cancel_left, List.take_left]
theorem extract_end {s : ByteArray} {i : Nat} : (s.extract i s.size).data.toList = s.data.toList.drop i := by
  rw [extract_list]
  exact List.take_of_length_le (by rw [List.length_drop, size_list]; exact Nat.le_refl _)
/-! ### one word -/
theorem name_chars {k : ByteArray} (h : gName k = true) : 0 < k.size ∧ k.size ≤ 24 ∧ cls (byteAt k 0) = 3 ∧ ∀ j, j < k.size → (cls (byteAt k j) = 3 ∨ cls (byteAt k j) = 4 ∨ cls (byteAt k j) = 5) := by
  rw [gName, Bool.and_eq_true, Bool.and_eq_true, Bool.not_eq_true', Bool.not_eq_true', List.any_eq_false, decide_eq_false_iff_not, decide_eq_true_eq] at h
  obtain ⟨h1, h2, h3⟩ := h
  have hpos : 0 < k.size := by
    rcases Nat.eq_zero_or_pos k.size with e | e
    · refine absurd (ba_ext ?_) h2
      rw [← size_list] at e
      rw [List.length_eq_zero_iff.1 e]
    · exact e
  have hb : ∀ j, j < k.size → badC k j = false := fun j hj => by
    have := h1 j (List.mem_range.2 hj)
    simpa using this
  refine ⟨hpos, by omega, ?_, fun j hj => ?_⟩
  · have := hb 0 hpos
    simpa [badC] using this
  · have := hb j hj
    rw [badC] at this
    by_cases e1 : cls (byteAt k j) = 3
    · exact .inl e1
    · by_cases e2 : cls (byteAt k j) = 4
      · exact .inr (.inl e2)
      · by_cases e3 : cls (byteAt k j) = 5
        · exact .inr (.inr e3)
        · simp [e1, e2, e3] at this
theorem list_at {k : ByteArray} {j : Nat} (h : j < k.size) : ∃ c, k.data.toList[j]? = some c ∧ byteAt k j = (c.toNat : Int) := by
  rw [← size_list] at h
  exact ⟨_, List.getElem?_eq_getElem h, by rw [byteAt, List.getElem?_eq_getElem h]; rfl⟩
theorem step_word {s k : ByteArray} {i : Nat} {r : List UInt8} (h : s.data.toList.drop i = k.data.toList ++ r) (hk : gName k = true) (hr : ∀ c r', r = c :: r' → cls (c.toNat : Int) ≠ 3 ∧ cls (c.toNat : Int) ≠ 4 ∧ cls (c.toNat : Int) ≠ 5) :
    gStep s i = (some ⟨1, k, i, 0⟩, i + k.size) := by
  obtain ⟨hpos, hle, h0, hall⟩ := name_chars hk
  have hat : ∀ j, j < k.size → atC s (i + j) = cls (byteAt k j) := fun j hj => by
    obtain ⟨c, hc, e⟩ := list_at hj
    rw [atC_of (drop_at h hc), e]
  have hlen : i + k.size ≤ s.size := by
    have := congrArg List.length h
    rw [List.length_drop, List.length_append, size_list, size_list] at this
    omega
  have ha0 : atC s i = 3 := by
    have := hat 0 hpos
    rw [Nat.add_zero, h0] at this
    exact this
  have hend : wordEnd s i = i + k.size := by
    refine scan_eq (pWord s) (by omega) (by omega) (fun j h1 h2 => ?_) ?_
    · have := hat (j - i) (by omega)
      rw [show i + (j - i) = j by omega] at this
      rw [pWord, this]
      rcases hall (j - i) (by omega) with e | e | e <;> rw [e] <;> rfl
    · left
      have hd := drop_app h
      rw [size_list] at hd
      cases r with
      | nil => rw [pWord, atC_end hd]; rfl
      | cons c r' =>
        obtain ⟨e1, e2, e3⟩ := hr c r' rfl
        rw [pWord, atC_of hd, decide_eq_false e1, decide_eq_false e2, decide_eq_false e3]; rfl
  have hex := extract_app h
  rw [size_list] at hex
  have hkk : (⟨k.data.toList.toArray⟩ : ByteArray) = k := ba_ext (by simp)
  rw [gStep, if_neg (by rw [ha0]; decide), if_neg (by rw [ha0]; decide), if_pos ha0, hend, gWordT, hex, hkk, if_neg (by omega)]
theorem step_eq {s : ByteArray} {i : Nat} {r : List UInt8} (h : s.data.toList.drop i = 61 :: r) : ∃ x, gStep s i = (some ⟨4, x, i, 0⟩, i + 1) := by
  have ha : atC s i = 6 := by rw [atC_of h]; rfl
  exact ⟨s.extract i (i + 1), by rw [gStep, if_neg (by rw [ha]; decide), if_neg (by rw [ha]; decide), if_neg (by rw [ha]; decide), if_neg (by rw [ha]; decide), if_neg (by rw [ha]; decide), if_pos ha]⟩
theorem step_sp {s : ByteArray} {i : Nat} {r : List UInt8} (h : s.data.toList.drop i = 32 :: r) : gStep s i = (none, i + 1) := by
  have ha : atC s i = 1 := by rw [atC_of h]; rfl
  rw [gStep, if_pos ha]
theorem unqL_esc : ∀ (v r : List UInt8), unqL (v.flatMap gEsc ++ 34 :: r) = some (v, (v.flatMap gEsc).length + 1)
  | [], r => unqL_quote
  | b :: v, r => by
    have ih := unqL_esc v r
    rw [List.flatMap_cons, List.append_assoc, List.length_append]
    by_cases h1 : b = 10
    · have e : gEsc b = [92, 110] := by rw [gEsc, if_pos h1]
      rw [e]
      show unqL (92 :: 110 :: (v.flatMap gEsc ++ 34 :: r)) = _
      rw [unqL_bs, ih, h1]
      show some (10 :: v, _) = some (10 :: v, _)
      congr 2
      show (v.flatMap gEsc).length + 1 + 2 = 2 + _ + 1
      omega
    · by_cases h2 : b = 34 ∨ b = 92
      · have e : gEsc b = [92, b] := by rw [gEsc, if_neg h1, if_pos h2]
        have hu : gUnesc b = some b := by
          rcases h2 with e | e <;> subst e <;> rfl
        rw [e]
        show unqL (92 :: b :: (v.flatMap gEsc ++ 34 :: r)) = _
        rw [unqL_bs, ih, hu]
        show some (b :: v, _) = some (b :: v, _)
        congr 2
        show (v.flatMap gEsc).length + 1 + 2 = 2 + _ + 1
        omega
      · have e : gEsc b = [b] := by rw [gEsc, if_neg h1, if_neg h2]
        have h3 : b ≠ 34 ∧ b ≠ 92 := ⟨fun e => h2 (.inl e), fun e => h2 (.inr e)⟩
        rw [e]
        show unqL (b :: (v.flatMap gEsc ++ 34 :: r)) = _
        rw [unqL_other h3.1 h1 h3.2, ih]
        show some (b :: v, _) = some (b :: v, _)
        congr 2
        show (v.flatMap gEsc).length + 1 + 1 = 1 + _ + 1
        omega
theorem step_str {s v : ByteArray} {i : Nat} {r : List UInt8} (h : s.data.toList.drop i = gQuote v.data.toList ++ r) : gStep s i = (some ⟨3, v, i, 0⟩, i + (gQuote v.data.toList).length) := by
  have h' : s.data.toList.drop i = 34 :: (v.data.toList.flatMap gEsc ++ 34 :: r) := by rw [h, gQuote]; simp
  have ha : atC s i = 7 := by rw [atC_of h']; rfl
  have hu : gUnq (s.extract i s.size) = (v, (((v.data.toList.flatMap gEsc).length + 1 + 1 : Nat) : Int)) := by
    rw [gUnq, extract_end, h', List.drop_succ_cons, List.drop_zero, unqL_esc]
  have hs : gStr s i = (⟨3, v, i, 0⟩, i + (gQuote v.data.toList).length) := by
    rw [gStr, hu, if_pos (by show (0 : Int) < ((_ : Nat) : Int); omega)]
    congr 1
    show i + _ = i + _
    congr 1
    rw [Int.toNat_natCast, gQuote, List.length_cons, List.length_append, List.length_singleton]
  rw [gStep, if_neg (by rw [ha]; decide), if_neg (by rw [ha]; decide), if_neg (by rw [ha]; decide), if_neg (by rw [ha]; decide), if_pos ha, hs]
/-! ### the text -/
def lineL (t : GTag) : List UInt8 := t.key.data.toList ++ 61 :: gQuote t.val.data.toList
theorem line_list (t : GTag) : (gLine t).data.toList = lineL t := by
  rw [gLine, lineL]
  simp
def moreL (l : List GTag) : List UInt8 := l.flatMap fun t => 32 :: lineL t
/-- What has been read: tags, one by one, without an error. -/
def Reads (T : List GFound) (l : List GTag) : Prop := tagsOf T = some l ∧ (∀ f, f ∈ T → f.err = 0) ∧ T.length = 3 * l.length
theorem Reads.cons {T : List GFound} {l : List GTag} {a b c : GFound} (h : Reads T l) (ha : a.err = 0) (hb : b.err = 0) (hc : c.err = 0) : Reads (a :: b :: c :: T) (⟨a.text, c.text⟩ :: l) := by
  obtain ⟨h1, h2, h3⟩ := h
  refine ⟨by rw [tagsOf, h1]; rfl, fun f hf => ?_, by rw [List.length_cons, List.length_cons, List.length_cons, List.length_cons, h3]; omega⟩
  rcases List.mem_cons.1 hf with rfl | hf
  · exact ha
  · rcases List.mem_cons.1 hf with rfl | hf
    · exact hb
    · rcases List.mem_cons.1 hf with rfl | hf
      · exact hc
      · exact h2 f hf
theorem toks_line {s : ByteArray} {t : GTag} {i n : Nat} {r : List UInt8} (h : s.data.toList.drop i = lineL t ++ r) (hk : gName t.key = true) :
    ∃ x, gToks s (n + 3) i = ⟨1, t.key, i, 0⟩ :: ⟨4, x, i + t.key.size, 0⟩ :: ⟨3, t.val, i + t.key.size + 1, 0⟩ :: gToks s n (i + (lineL t).length) := by
  have h1 : s.data.toList.drop i = t.key.data.toList ++ (61 :: (gQuote t.val.data.toList ++ r)) := by rw [h, lineL]; simp
  have hpos := (name_chars hk).1
  have e1 := step_word h1 hk (fun c r' e => by cases e; exact ⟨by decide, by decide, by decide⟩)
  have h2 := drop_app h1
  rw [size_list] at h2
  obtain ⟨x, e2⟩ := step_eq h2
  obtain ⟨l2, _, h3⟩ := at_of h2
  have e3 := step_str h3
  have l3 : i + t.key.size + 1 < s.size := by
    have h3' : s.data.toList.drop (i + t.key.size + 1) = 34 :: (t.val.data.toList.flatMap gEsc ++ [34] ++ r) := by rw [h3, gQuote]; simp
    exact (at_of h3').1
  have hl : i + t.key.size + 1 + (gQuote t.val.data.toList).length = i + (lineL t).length := by
    rw [lineL, List.length_append, List.length_cons, size_list]; omega
  refine ⟨x, ?_⟩
  rw [gToks, if_pos (by omega), e1]
  show _ :: (if (0 : Int) = 0 then gToks s (n + 2) (i + t.key.size) else []) = _
  rw [if_pos rfl, gToks, if_pos l2, e2]
  show _ :: _ :: (if (0 : Int) = 0 then gToks s (n + 1) (i + t.key.size + 1) else []) = _
  rw [if_pos rfl, gToks, if_pos l3, e3]
  show _ :: _ :: _ :: (if (0 : Int) = 0 then gToks s n _ else []) = _
  rw [if_pos rfl, hl]
theorem line_pos (t : GTag) : 3 ≤ (lineL t).length := by
  rw [lineL, List.length_append, List.length_cons, gQuote, List.length_cons, List.length_append, List.length_singleton]
  omega
theorem toks_more {s : ByteArray} : ∀ (l : List GTag) (i n : Nat), (∀ t, t ∈ l → gName t.key = true) → s.data.toList.drop i = moreL l → (moreL l).length ≤ n → Reads (gToks s n i) l
  | [], i, n, _, h, _ => by
    have hge : ¬ i < s.size := by
      have := List.drop_eq_nil_iff.1 h
      rw [size_list] at this
      omega
    have e : gToks s n i = [] := by
      cases n with
      | zero => rfl
      | succ n => rw [gToks, if_neg hge]
    rw [e]
    exact ⟨rfl, (by intro f hf; cases hf), rfl⟩
  | t :: l, i, n, hk, h, hn => by
    have hm : moreL (t :: l) = 32 :: (lineL t ++ moreL l) := by rw [moreL, List.flatMap_cons]; rfl
    rw [hm] at h hn
    obtain ⟨l1, _, h2⟩ := at_of h
    have hp := line_pos t
    rw [List.length_cons, List.length_append] at hn
    obtain ⟨m, rfl⟩ : ∃ m, n = m + 3 + 1 := ⟨n - 4, by omega⟩
    obtain ⟨x, e⟩ := toks_line (n := m) h2 (hk t List.mem_cons_self)
    have h3 := drop_app h2
    have ih := toks_more l _ m (fun t ht => hk t (List.mem_cons_of_mem _ ht)) h3 (by omega)
    have e1 : gToks s (m + 3 + 1) i = gToks s (m + 3) (i + 1) := by rw [gToks, if_pos l1, step_sp h]
    rw [e1, e]
    exact Reads.cons ih rfl rfl rfl
theorem tagS_list (t : GTag) (l : List GTag) : (gTagS (t :: l)).data.toList = lineL t ++ moreL l := by
  show gJoin [32] (bs ((t :: l).map gLine)) = _
  rw [bs, List.map_map, List.map_cons, gJoin]
  show (gLine t).data.toList ++ _ = _
  rw [line_list, moreL, List.flatMap_map]
  congr 1
  congr 1
  funext x
  show [32] ++ (gLine x).data.toList = _
  rw [line_list]
  rfl
theorem toks_tags {l : List GTag} (hk : ∀ t, t ∈ l → gName t.key = true) : Reads (gToks (gTagS l) ((gTagS l).size + 1) 0) l := by
  cases l with
  | nil => exact ⟨rfl, (by intro f hf; cases hf), rfl⟩
  | cons t l =>
    have hs := tagS_list t l
    have hsz : (gTagS (t :: l)).size = (lineL t).length + (moreL l).length := by rw [← size_list, hs, List.length_append]
    have hp := line_pos t
    obtain ⟨m, hm⟩ : ∃ m, (gTagS (t :: l)).size + 1 = m + 3 := ⟨(gTagS (t :: l)).size - 2, by omega⟩
    have hd : (gTagS (t :: l)).data.toList.drop 0 = lineL t ++ moreL l := hs
    obtain ⟨x, e⟩ := toks_line (n := m) hd (hk t List.mem_cons_self)
    have h3 := drop_app hd
    have ih := toks_more l _ m (fun t ht => hk t (List.mem_cons_of_mem _ ht)) h3 (by omega)
    rw [hm, e]
    exact Reads.cons ih rfl rfl rfl
theorem lexRun_ok : ∀ (T acc : List GFound), (∀ f, f ∈ T → f.err = 0) → acc.length + T.length ≤ 5000 → lexRun acc T = (acc ++ T, 0, 0)
  | [], acc, _, _ => by rw [lexRun, List.append_nil]
  | f :: T, acc, h, hl => by
    rw [List.length_cons] at hl
    rw [lexRun, if_neg (fun e => e (h f List.mem_cons_self)), if_neg (by omega), lexRun_ok T (acc ++ [f]) (fun g hg => h g (List.mem_cons_of_mem _ hg)) (by rw [List.length_append, List.length_singleton]; omega), List.append_assoc]
    rfl
/-- The text of tags is parsed as the tags. -/
theorem parse_text {l : List GTag} (h : (gText l).2 = 0) : gParse (gText l).1 = (l, 0) ∧ tagsOf (gLex (gText l).1).1 = some l := by
  have hg : gTags l = true := by
    rw [gText] at h
    split at h
    · assumption
    · cases h
  have hsz : ¬ 20000 < (gTagS l).size := by
    rw [gText, if_pos hg] at h
    split at h
    · cases h
    · assumption
  have ht : gText l = (gTagS l, 0) := by rw [gText, if_pos hg, if_neg hsz]
  obtain ⟨g1, g2, g3⟩ := gTags_iff.1 hg
  obtain ⟨r1, r2, r3⟩ := toks_tags fun t ht => (g1 t ht).1
  have hlex : gLex (gTagS l) = (gToks (gTagS l) ((gTagS l).size + 1) 0, 0, 0) := by
    rw [gLex, if_neg hsz, lexRun_ok _ [] r2 (by rw [List.length_nil]; omega), List.nil_append]
  rw [ht]
  have htags : tagsOf (gLex (gTagS l)).1 = some l := by rw [hlex]; exact r1
  refine ⟨?_, htags⟩
  rw [gParse, if_neg hsz, htags]
  show (if _ then _ else _) = _
  rw [if_neg]
  rw [hlex, ht]
  rintro (h | h | h)
  · exact h rfl
  · exact h rfl
  · exact h rfl
end Go.Proofs.Ytedfihgkopejcaa
end
section
set_option linter.unusedVariables false
set_option linter.unusedSimpArgs false
set_option maxRecDepth 100000
namespace Go.Abs
theorem OpD.val {P : Program} {N : Nat} {o : Oper} {E : Env} {H H' : Heap} {b b' : Bool} (h : OpD P N o E H (.pv (.bool b)) H') (e : b = b') : OpD P N o E H (.pv (.bool b')) H' := e ▸ h
end Go.Abs
namespace Go.Proofs.Ytedfihgkopejcaa
open Go.Abs
theorem unqL_dat : ∀ (l : List UInt8) (p : List UInt8 × Nat), unqL l = some p → p.1.length ≤ l.length
  | [], p, h => by cases h
  | [c], p, h => by
    rw [unqL] at h
    split at h
    · cases h; exact Nat.zero_le _
    · cases h
  | c :: e :: r, p, h => by
    rw [unqL] at h
    split at h
    · cases h; exact Nat.zero_le _
    · split at h
      · cases h
      · split at h
        · cases hg : gUnesc e with
          | none => rw [hg] at h; cases h
          | some b =>
            rw [hg] at h
            cases hu : unqL r with
            | none => rw [hu] at h; cases h
            | some q =>
              rw [hu] at h; cases h
              have := unqL_dat r q hu
              show q.1.length + 1 ≤ r.length + 1 + 1
              omega
        · cases hu : unqL (e :: r) with
          | none => rw [hu] at h; cases h
          | some q =>
            rw [hu] at h; cases h
            have := unqL_dat (e :: r) q hu
            show q.1.length + 1 ≤ r.length + 1 + 1
            rw [List.length_cons] at this
            omega
theorem extract_size (s : ByteArray) (i j : Nat) : (s.extract i j).size ≤ s.size := by
  rw [← size_list, extract_list, List.length_take, List.length_drop, size_list]
  omega
theorem unq_size (s : ByteArray) : (gUnq s).1.size ≤ s.size := by
  rw [gUnq]
  cases h : unqL (s.data.toList.drop 1) with
  | none => exact Nat.zero_le _
  | some p =>
    have := unqL_dat _ _ h
    rw [List.length_drop, size_list] at this
    show (⟨p.1.toArray⟩ : ByteArray).size ≤ _
    rw [← size_list]
    show p.1.length ≤ _
    omega
theorem step_size {s : ByteArray} {i : Nat} {f : GFound} {j : Nat} (h : gStep s i = (some f, j)) : f.text.size ≤ s.size := by
  rw [gStep] at h
  split at h
  · cases h
  · split at h
    · cases h
    · split at h
      · cases h; exact extract_size _ _ _
      · split at h
        · cases h; exact extract_size _ _ _
        · split at h
          · cases h
            rw [gStr]
            split
            · have h1 := unq_size (s.extract i s.size)
              have h2 := extract_size s i s.size
              show (gUnq (s.extract i s.size)).1.size ≤ _
              omega
            · exact Nat.zero_le _
          · split at h
            · cases h; exact extract_size _ _ _
            · cases h; exact Nat.zero_le _
theorem toks_size (s : ByteArray) : ∀ (n i : Nat) (f : GFound), f ∈ gToks s n i → f.text.size ≤ s.size
  | 0, _, _, h => by cases h
  | n + 1, i, f, h => by
    rw [gToks] at h
    split at h
    · split at h
      · exact toks_size s n _ f h
      · rename_i g j hg
        rcases List.mem_cons.1 h with rfl | h
        · exact step_size hg
        · split at h
          · exact toks_size s n _ f h
          · cases h
    · cases h
theorem run_mem : ∀ (ds acc : List GFound) (f : GFound), f ∈ (lexRun acc ds).1 → f ∈ acc ∨ f ∈ ds
  | [], acc, f, h => .inl h
  | d :: ds, acc, f, h => by
    rw [lexRun] at h
    split at h
    · cases h
    · split at h
      · cases h
      · rcases run_mem ds _ f h with h | h
        · rcases List.mem_append.1 h with h | h
          · exact .inl h
          · rw [List.mem_singleton] at h
            subst h
            exact .inr List.mem_cons_self
        · exact .inr (List.mem_cons_of_mem _ h)
theorem lex_size (s : ByteArray) (f : GFound) (h : f ∈ (gLex s).1) : f.text.size ≤ s.size := by
  rw [gLex] at h
  split at h
  · cases h
  · rcases run_mem _ _ f h with h | h
    · cases h
    · exact toks_size s _ _ f h
theorem tagsOf_mem : ∀ (T : List GFound) (l : List GTag), tagsOf T = some l → l.length ≤ T.length ∧ ∀ t, t ∈ l → (∃ f, f ∈ T ∧ f.text = t.key) ∧ (∃ f, f ∈ T ∧ f.text = t.val)
  | [], l, h => by cases h; exact ⟨Nat.le_refl _, fun t ht => by cases ht⟩
  | [a], l, h => by cases h
  | [a, b], l, h => by cases h
  | a :: b :: c :: r, l, h => by
    rw [tagsOf] at h
    cases hr : tagsOf r with
    | none => rw [hr] at h; cases h
    | some m =>
      rw [hr] at h
      cases h
      obtain ⟨h1, h2⟩ := tagsOf_mem r m hr
      refine ⟨by simp only [List.length_cons]; omega, fun t ht => ?_⟩
      rcases List.mem_cons.1 ht with rfl | ht
      · exact ⟨⟨a, by simp, rfl⟩, ⟨c, by simp, rfl⟩⟩
      · obtain ⟨⟨f, hf, e⟩, ⟨g, hg, e'⟩⟩ := h2 t ht
        exact ⟨⟨f, by simp [hf], e⟩, ⟨g, by simp [hg], e'⟩⟩
theorem lex_ok {s : ByteArray} (hs : s.size < 1099511627776) {l : List GTag} (h : tagsOf (gLex s).1 = some l) : okTags l := by
  obtain ⟨h1, h2⟩ := tagsOf_mem _ _ h
  have h3 := lex_toks_len s hs
  refine ⟨by omega, fun t ht => ?_⟩
  obtain ⟨⟨f, hf, e⟩, ⟨g, hg, e'⟩⟩ := h2 t ht
  have a := lex_size s f hf
  have b := lex_size s g hg
  rw [e] at a
  rw [e'] at b
  omega
theorem parse_cases {s : ByteArray} (hs : ¬ 20000 < s.size) : gParse s = ([], 5) ∨ ∃ l, gParse s = (l, 0) ∧ gText l = (s, 0) ∧ gTags l = true := by
  rw [gParse, if_neg hs]
  cases h : tagsOf (gLex s).1 with
  | none => exact .inl rfl
  | some l =>
    show (if _ then _ else _) = _ ∨ _
    by_cases hc : (gLex s).2.1 ≠ 0 ∨ (gText l).2 ≠ 0 ∨ (gText l).1 ≠ s
    · left
      rw [if_pos hc]
    · right
      have hc' := hc
      simp only [not_or, Decidable.not_not] at hc'
      obtain ⟨h1, h2, h3⟩ := hc'
      refine ⟨l, ?_, Prod.ext h3 h2, ?_⟩
      · show (if _ then _ else _) = _
        rw [if_neg hc]
      · rw [gText] at h2
        split at h2
        · assumption
        · cases h2
end Go.Proofs.Ytedfihgkopejcaa
end
section
set_option linter.unusedVariables false
set_option linter.unusedSimpArgs false
set_option maxRecDepth 100000
namespace Go.Proofs.Ytedfihgkopejcaa
open Go.Abs
theorem rLetter_c (n : Int) (H : Heap) : ACalls Try.prog 51 [.pv (.int .u8 n)] H (fun r H' => r = bv (isLet n) ∧ H' = H) := by
  refine ACalls.pure ?_ (by simp) H
  refine ACalls.body Try.func51 rfl Try.ntmps51 (Nat.le_of_ble_eq_true rfl) ?_
  refine awp_seq ?_
  refine awp_region ?_
  refine al_d rfl rfl rfl (by exact opd_assign rfl rfl) ?_
  refine al_nil ?_
  refine awp_seq ?_
  refine awp_bool (t := 2) (n := 18) (X := isLet n) ?_ ?_
  · all_goals (refine al_d rfl rfl rfl (by exact opd_move rfl rfl) ?_)
    all_goals (refine al_d rfl rfl rfl (by exact opd_geq rfl rfl rfl) ?_)
    all_goals (refine al_d rfl rfl rfl (by exact opd_move rfl rfl) ?_)
    all_goals (refine al_split (t := 5) rfl (fun h5 => ?_) (fun h5 => ?_))
    all_goals (try contradiction)
    all_goals (first | refine al_off rfl rfl rfl rfl rfl ?_ | refine al_ond rfl rfl rfl rfl rfl rfl (by exact opd_move rfl rfl) ?_)
    all_goals (first | refine al_off rfl rfl rfl rfl rfl ?_ | refine al_ond rfl rfl rfl rfl rfl rfl (by exact opd_leq rfl rfl rfl) ?_)
    all_goals (refine al_d rfl rfl rfl (by exact (by first | exact opd_pick_t rfl rfl rfl | exact opd_pick_f rfl rfl rfl)) ?_)
    all_goals (refine al_d rfl rfl rfl (by exact opd_move rfl rfl) ?_)
    all_goals (refine al_split (t := 9) rfl (fun h9 => ?_) (fun h9 => ?_))
    all_goals (try contradiction)
    all_goals (first | refine al_off rfl rfl rfl rfl rfl ?_ | refine al_ond rfl rfl rfl rfl rfl rfl (by exact opd_move rfl rfl) ?_)
    all_goals (first | refine al_off rfl rfl rfl rfl rfl ?_ | refine al_ond rfl rfl rfl rfl rfl rfl (by exact opd_geq rfl rfl rfl) ?_)
    all_goals (first | refine al_off rfl rfl rfl rfl rfl ?_ | refine al_ond rfl rfl rfl rfl rfl rfl (by exact opd_move rfl rfl) ?_)
    all_goals (first | refine al_split (t := 12) rfl (fun h12 => ?_) (fun h12 => ?_) | refine al_dup (t := 12) rfl ?_)
    all_goals (try contradiction)
    all_goals (first | refine al_off rfl rfl rfl rfl rfl ?_ | refine al_offu rfl rfl rfl rfl ?_ | refine al_ond rfl rfl rfl rfl rfl rfl (by exact opd_move rfl rfl) ?_)
    all_goals (first | refine al_off rfl rfl rfl rfl rfl ?_ | refine al_offu rfl rfl rfl rfl ?_ | refine al_ond rfl rfl rfl rfl rfl rfl (by exact opd_leq rfl rfl rfl) ?_)
    all_goals (first | refine al_off rfl rfl rfl rfl rfl ?_ | refine al_ond rfl rfl rfl rfl rfl rfl (by exact (by first | exact opd_pick_t rfl rfl rfl | exact opd_pick_f rfl rfl rfl)) ?_)
    all_goals (refine al_d rfl rfl rfl (by exact (by first | exact opd_pick_t rfl rfl rfl | exact opd_pick_f rfl rfl rfl)) ?_)
    all_goals (refine al_d rfl rfl rfl (by exact opd_assign rfl rfl) ?_)
    all_goals (refine al_nil ?_)
    all_goals (exact ⟨⟨_, rfl, by (simp only [isLet, *]; rfl)⟩, rfl, rfl, rfl⟩)
  refine awp_ret ?_
  -- return
  refine aret1 (H' := []) (by exact .inr rfl) rfl (rval_tmp rfl) (Fin.wk (by simp) trivial trivial) ?_
  exact ⟨rfl, rfl⟩
theorem rDigit_c (n : Int) (H : Heap) : ACalls Try.prog 67 [.pv (.int .u8 n)] H (fun r H' => r = bv (isDig n) ∧ H' = H) := by
  refine ACalls.pure ?_ (by simp) H
  refine ACalls.body Try.func67 rfl Try.ntmps67 (Nat.le_of_ble_eq_true rfl) ?_
  refine awp_seq ?_
  refine awp_region ?_
  refine al_d rfl rfl rfl (by exact opd_assign rfl rfl) ?_
  refine al_nil ?_
  refine awp_seq ?_
  refine awp_bool (t := 2) (n := 8) (X := isDig n) ?_ ?_
  · all_goals (refine al_d rfl rfl rfl (by exact opd_move rfl rfl) ?_)
    all_goals (refine al_d rfl rfl rfl (by exact opd_geq rfl rfl rfl) ?_)
    all_goals (refine al_d rfl rfl rfl (by exact opd_move rfl rfl) ?_)
    all_goals (refine al_split (t := 5) rfl (fun h5 => ?_) (fun h5 => ?_))
    all_goals (try contradiction)
    all_goals (first | refine al_off rfl rfl rfl rfl rfl ?_ | refine al_ond rfl rfl rfl rfl rfl rfl (by exact opd_move rfl rfl) ?_)
    all_goals (first | refine al_off rfl rfl rfl rfl rfl ?_ | refine al_ond rfl rfl rfl rfl rfl rfl (by exact opd_leq rfl rfl rfl) ?_)
    all_goals (refine al_d rfl rfl rfl (by exact (by first | exact opd_pick_t rfl rfl rfl | exact opd_pick_f rfl rfl rfl)) ?_)
    all_goals (refine al_d rfl rfl rfl (by exact opd_assign rfl rfl) ?_)
    all_goals (refine al_nil ?_)
    all_goals (exact ⟨⟨_, rfl, by (simp only [isDig, *]; rfl)⟩, rfl, rfl, rfl⟩)
  refine awp_ret ?_
  -- return
  refine aret1 (H' := []) (by exact .inr rfl) rfl (rval_tmp rfl) (Fin.wk (by simp) trivial trivial) ?_
  exact ⟨rfl, rfl⟩
def isW (n : Int) : Bool := (isLet n || isDig n) || decide (n = 95)
theorem rWord_c (n : Int) (H : Heap) : ACalls Try.prog 50 [.pv (.int .u8 n)] H (fun r H' => r = bv (isW n) ∧ H' = H) := by
  refine ACalls.pure ?_ (by simp) H
  refine ACalls.body Try.func50 rfl Try.ntmps50 (Nat.le_of_ble_eq_true rfl) ?_
  refine awp_seq ?_
  refine awp_region ?_
  refine al_d rfl rfl rfl (by exact opd_assign rfl rfl) ?_
  refine al_nil ?_
  refine awp_seq ?_
  refine awp_bool (t := 2) (n := 13) (X := isW n) ?_ ?_
  · all_goals (refine al_d rfl rfl rfl (by exact opd_move rfl rfl) ?_)
    all_goals (refine al_d rfl rfl rfl (by exact opr_call rfl rfl Try.call51 rfl (rLetter_c n _)) ?_)
    all_goals (refine al_d rfl rfl rfl (by exact opd_move rfl rfl) ?_)
    all_goals (refine al_split (t := 5) rfl (fun h5 => ?_) (fun h5 => ?_))
    all_goals (try contradiction)
    all_goals (first | refine al_off rfl rfl rfl rfl rfl ?_ | refine al_ond rfl rfl rfl rfl rfl rfl (by exact opd_move rfl rfl) ?_)
    all_goals (first | refine al_off rfl rfl rfl rfl rfl ?_ | refine al_ond rfl rfl rfl rfl rfl rfl (by exact opr_call rfl rfl Try.call67 rfl (rDigit_c n _)) ?_)
    all_goals (refine al_d rfl rfl rfl (by exact (by first | exact opd_pick_t rfl rfl rfl | exact opd_pick_f rfl rfl rfl)) ?_)
    all_goals (refine al_d rfl rfl rfl (by exact opd_move rfl rfl) ?_)
    all_goals (refine al_split (t := 9) rfl (fun h9 => ?_) (fun h9 => ?_))
    all_goals (try contradiction)
    all_goals (first | refine al_off rfl rfl rfl rfl rfl ?_ | refine al_ond rfl rfl rfl rfl rfl rfl (by exact opd_move rfl rfl) ?_)
    all_goals (first | refine al_off rfl rfl rfl rfl rfl ?_ | refine al_ond rfl rfl rfl rfl rfl rfl (by exact opd_eql rfl rfl rfl) ?_)
    all_goals (refine al_d rfl rfl rfl (by exact (by first | exact opd_pick_t rfl rfl rfl | exact opd_pick_f rfl rfl rfl)) ?_)
    all_goals (refine al_d rfl rfl rfl (by exact opd_assign rfl rfl) ?_)
    all_goals (refine al_nil ?_)
    all_goals (exact ⟨⟨_, rfl, by (simp only [isW, *]; rfl)⟩, rfl, rfl, rfl⟩)
  refine awp_ret ?_
  -- return
  refine aret1 (H' := []) (by exact .inr rfl) rfl (rval_tmp rfl) (Fin.wk (by simp) trivial trivial) ?_
  exact ⟨rfl, rfl⟩
theorem cls_all : ∀ n : Fin 256, (decide (cls (n.val : Int) = 3) = isLet (n.val : Int)) ∧ (decide (cls (n.val : Int) = 4) = isDig (n.val : Int)) ∧ (decide (cls (n.val : Int) = 5) = decide ((n.val : Int) = 95)) := by decide +kernel
theorem cls_eq (s : ByteArray) (k : Nat) : (decide (cls (byteAt s k) = 3) = isLet (byteAt s k)) ∧ (decide (cls (byteAt s k) = 4) = isDig (byteAt s k)) ∧ (decide (cls (byteAt s k) = 5) = decide (byteAt s k = 95)) := by
  have h := cls_all ⟨(byteAt s k).toNat, byteAt_lt s k⟩
  simp only [Int.toNat_of_nonneg (byteAt_nn s k)] at h
  exact h
def badW (s : ByteArray) (k : Nat) : Bool := !isW (byteAt s k)
def rName (s : ByteArray) : Bool := !((List.range s.size).any (badW s)) && (decide ((0 : Int) < (s.size : Int)) && decide ((s.size : Int) ≤ 24) && isLet (byteAt s 0))
theorem sNil_iff {s : ByteArray} : s = sNil ↔ s.size = 0 := by
  constructor
  · rintro rfl; rfl
  · intro h; exact ByteArray.ext (Array.eq_empty_of_size_eq_zero h)
theorem rName_eq (s : ByteArray) : rName s = gName s := by
  have hb : ∀ k, badC s k = (!isLet (byteAt s k) && (decide ((k : Int) = 0) || (!isDig (byteAt s k) && !decide (byteAt s k = 95)))) := fun k => by
    obtain ⟨a, b, c⟩ := cls_eq s k
    rw [badC, a, b, c]
  rw [Bool.eq_iff_iff, rName, gName]
  simp only [Bool.and_eq_true, Bool.not_eq_true', decide_eq_true_eq, decide_eq_false_iff_not, List.any_eq_false, List.mem_range, sNil_iff, badW, hb]
  constructor
  · rintro ⟨h1, ⟨h2, h3⟩, h4⟩
    refine ⟨fun k hk => ?_, by omega, h3⟩
    have := h1 k hk
    by_cases k0 : k = 0
    · subst k0; simp [h4]
    · have hw : isW (byteAt s k) = true := by
        cases e : isW (byteAt s k) with
        | true => rfl
        | false => exact absurd e this
      simp only [isW, Bool.or_eq_true, decide_eq_true_eq] at hw
      rcases hw with (h | h) | h
      · simp [h]
      · simp [h, k0]
      · simp [h, k0]
  · rintro ⟨h1, h2, h3⟩
    refine ⟨fun k hk => ?_, ⟨by omega, h3⟩, ?_⟩
    · have := h1 k hk
      intro hw
      apply this
      simp only [isW, Bool.not_eq_true', Bool.or_eq_false_iff] at hw
      simp [hw.1.1, hw.1.2, hw.2]
    · have := h1 0 (by omega)
      cases hl : isLet (byteAt s 0) with
      | true => rfl
      | false => exact absurd (by simp [hl]) this
theorem rName0_c (s : ByteArray) (H : Heap) (hs : s.size < 4611686018427387904) : ACalls Try.prog 33 [sv s] H (fun r H' => r = bv (rName s) ∧ H' = H) := by
  refine ACalls.pure ?_ (by simp) H
  refine ACalls.body Try.func33 rfl Try.ntmps33 (Nat.le_of_ble_eq_true rfl) ?_
  refine awp_seq ?_
  refine awp_region ?_
  refine al_d rfl rfl rfl (by exact opd_assign rfl rfl) ?_
  refine al_nil ?_
  refine awp_seq ?_
  refine awp_seq ?_
  refine awp_region ?_
  refine al_d rfl rfl rfl (by exact opd_assign rfl rfl) ?_
  refine al_nil ?_
  refine awp_block ?_
  -- loop
  refine awp_loop (σ := Nat) (fun k => ([(0, sv s), (3, iv (k : Int))], [])) (fun k => k ≤ s.size ∧ ∀ j, j < k → badW s j = false) (fun k => s.size - k) 0 ⟨by omega, by omega⟩ ?_ ?_
  · exact Ent.e0 ⟨⟨_, rfl, rfl⟩, ⟨_, rfl, rfl⟩, trivial⟩
  · rintro k ⟨hk, hno⟩
    refine awp_seq ?_
    refine awp_seq ?_
    refine awp_region ?_
    refine al_d rfl rfl rfl (by exact opd_move rfl rfl) ?_
    refine al_d rfl rfl rfl (by exact opd_move rfl rfl) ?_
    refine al_d rfl rfl rfl (by exact opd_len_str rfl Try.underlying9 rfl) ?_
    refine al_d rfl rfl rfl (by exact opd_lss rfl rfl rfl) ?_
    refine al_nil ?_
    refine awp_cond rfl (fun hc1 => ?_) (fun hc1 => ?_)
    -- cond 1
    · have hlt : k < s.size := by have := of_decide_eq_true hc1; omega
      refine awp_skip ?_
      refine awp_seq ?_
      refine awp_block ?_
      refine awp_seq ?_
      refine awp_region ?_
      refine al_d rfl rfl rfl (by exact opd_move rfl rfl) ?_
      refine al_d rfl rfl rfl (by exact opd_move rfl rfl) ?_
      refine al_d rfl rfl rfl (by exact opd_index_str rfl Try.underlying9 rfl rfl (by omega) (by exact Int.toNat_natCast _) (by omega) rfl) ?_
      refine al_d rfl rfl rfl (by exact opr_call rfl rfl Try.call50 rfl (rWord_c (byteAt s k) _)) ?_
      refine al_d rfl rfl rfl (by exact opd_not rfl rfl) ?_
      refine al_nil ?_
      refine awp_cond rfl (fun hc2 => ?_) (fun hc2 => ?_)
      -- cond 2
      · have hb : badW s k = true := hc2
        refine awp_seq ?_
        refine awp_region ?_
        refine al_d rfl rfl rfl (by exact opd_assign rfl rfl) ?_
        refine al_nil ?_
        refine awp_ret ?_
        -- return
        refine aret1 (H' := []) (by exact .inr rfl) rfl (rval_tmp rfl) (Fin.wk (by simp) trivial trivial) ?_
        exact ⟨by rw [rName, range_some hlt hb]; rfl, rfl⟩
      · skip
        refine awp_skip ?_
        refine awp_region ?_
        refine al_d rfl rfl rfl (by exact opd_move rfl rfl) ?_
        refine al_d rfl rfl rfl (by exact opd_add rfl rfl rfl (by exact w64 (by omega) (by omega))) ?_
        refine al_d rfl rfl rfl (by exact opd_assign rfl rfl) ?_
        refine al_nil ?_
        -- end of a round
        refine ⟨k + 1, ⟨by omega, fun j hj => ?_⟩, by omega, Ent.e0 ⟨⟨_, rfl, rfl⟩, ⟨_, rfl, rfl⟩, trivial⟩⟩
        by_cases e : j = k
        · subst e; exact hc2
        · exact hno j (by omega)
    · have hge : k = s.size := by have := of_decide_eq_false hc1; omega
      have hr : rName s = (decide ((0 : Int) < (s.size : Int)) && decide ((s.size : Int) ≤ 24) && isLet (byteAt s 0)) := by
        subst hge
        rw [rName, range_any hno]; rfl
      rw [hr]
      clear hr
      by_cases h0 : (0 : Int) < (s.size : Int)
      · have d0 := decide_eq_true h0
        have h00 : 0 < s.size := by omega
        rw [d0, Bool.true_and]
        by_cases h24 : (s.size : Int) ≤ 24
        · have d1 := decide_eq_true h24
          rw [d1, Bool.true_and]
          refine awp_exit ?_
          refine awp_seq ?_
          refine awp_region ?_
          refine al_d rfl rfl rfl (by exact opd_move rfl rfl) ?_
          refine al_d rfl rfl rfl (by exact opd_len_str rfl Try.underlying9 rfl) ?_
          refine al_d rfl rfl rfl (by exact opd_gtr rfl rfl rfl) ?_
          refine al_d rfl rfl rfl (by exact opd_move rfl rfl) ?_
          refine al_ond rfl rfl rfl (by assumption) rfl rfl (by exact opd_move rfl rfl) ?_
          refine al_ond rfl rfl rfl (by assumption) rfl rfl (by exact opd_len_str rfl Try.underlying9 rfl) ?_
          refine al_ond rfl rfl rfl (by assumption) rfl rfl (by exact opd_leq rfl rfl rfl) ?_
          refine al_d rfl rfl rfl (by exact (by exact opd_pickt rfl rfl (by assumption) rfl)) ?_
          refine al_d rfl rfl rfl (by exact opd_move rfl rfl) ?_
          refine al_ond rfl rfl rfl (by assumption) rfl rfl (by exact opd_move rfl rfl) ?_
          refine al_ond rfl rfl rfl (by assumption) rfl rfl (by exact opd_index_str rfl Try.underlying9 rfl rfl (by omega) (by exact Int.toNat_natCast _) (by omega) rfl) ?_
          refine al_ond rfl rfl rfl (by assumption) rfl rfl (by exact opr_call rfl rfl Try.call51 rfl (rLetter_c (byteAt s 0) _)) ?_
          refine al_d rfl rfl rfl (by exact (by exact opd_pickt rfl rfl (by assumption) rfl)) ?_
          refine al_d rfl rfl rfl (by exact opd_assign rfl rfl) ?_
          refine al_nil ?_
          refine awp_ret ?_
          -- return
          refine aret1 (H' := []) (by exact .inr rfl) rfl (rval_tmp rfl) (Fin.wk (by simp) trivial trivial) ?_
          exact ⟨rfl, rfl⟩
        · have d1 := decide_eq_false h24
          rw [d1]
          refine awp_exit ?_
          refine awp_seq ?_
          refine awp_region ?_
          refine al_d rfl rfl rfl (by exact opd_move rfl rfl) ?_
          refine al_d rfl rfl rfl (by exact opd_len_str rfl Try.underlying9 rfl) ?_
          refine al_d rfl rfl rfl (by exact opd_gtr rfl rfl rfl) ?_
          refine al_d rfl rfl rfl (by exact opd_move rfl rfl) ?_
          refine al_ond rfl rfl rfl (by assumption) rfl rfl (by exact opd_move rfl rfl) ?_
          refine al_ond rfl rfl rfl (by assumption) rfl rfl (by exact opd_len_str rfl Try.underlying9 rfl) ?_
          refine al_ond rfl rfl rfl (by assumption) rfl rfl (by exact opd_leq rfl rfl rfl) ?_
          refine al_d rfl rfl rfl (by exact (by exact opd_pickt rfl rfl (by assumption) rfl)) ?_
          refine al_d rfl rfl rfl (by exact opd_move rfl rfl) ?_
          refine al_off rfl rfl rfl (by assumption) rfl ?_
          refine al_off rfl rfl rfl (by assumption) rfl ?_
          refine al_off rfl rfl rfl (by assumption) rfl ?_
          refine al_d rfl rfl rfl (by exact (by exact opd_pickf rfl rfl (by assumption) rfl)) ?_
          refine al_d rfl rfl rfl (by exact opd_assign rfl rfl) ?_
          refine al_nil ?_
          refine awp_ret ?_
          -- return
          refine aret1 (H' := []) (by exact .inr rfl) rfl (rval_tmp rfl) (Fin.wk (by simp) trivial trivial) ?_
          exact ⟨rfl, rfl⟩
      · have d0 := decide_eq_false h0
        rw [d0]
        refine awp_exit ?_
        refine awp_seq ?_
        refine awp_region ?_
        refine al_d rfl rfl rfl (by exact opd_move rfl rfl) ?_
        refine al_d rfl rfl rfl (by exact opd_len_str rfl Try.underlying9 rfl) ?_
        refine al_d rfl rfl rfl (by exact opd_gtr rfl rfl rfl) ?_
        refine al_d rfl rfl rfl (by exact opd_move rfl rfl) ?_
        refine al_off rfl rfl rfl (by assumption) rfl ?_
        refine al_off rfl rfl rfl (by assumption) rfl ?_
        refine al_off rfl rfl rfl (by assumption) rfl ?_
        refine al_d rfl rfl rfl (by exact (by exact opd_pickf rfl rfl (by assumption) rfl)) ?_
        refine al_d rfl rfl rfl (by exact opd_move rfl rfl) ?_
        refine al_off rfl rfl rfl (by rfl) rfl ?_
        refine al_off rfl rfl rfl (by rfl) rfl ?_
        refine al_off rfl rfl rfl (by rfl) rfl ?_
        refine al_d rfl rfl rfl (by exact (by exact opd_pick_f rfl rfl rfl)) ?_
        refine al_d rfl rfl rfl (by exact opd_assign rfl rfl) ?_
        refine al_nil ?_
        refine awp_ret ?_
        -- return
        refine aret1 (H' := []) (by exact .inr rfl) rfl (rval_tmp rfl) (Fin.wk (by simp) trivial trivial) ?_
        exact ⟨rfl, rfl⟩
theorem rName_c (s : ByteArray) (H : Heap) (hs : s.size < 4611686018427387904) : ACalls Try.prog 33 [sv s] H (fun r H' => r = bv (gName s) ∧ H' = H) := by
  rw [← rName_eq]
  exact rName0_c s H hs
theorem badTag_eq (l : List GTag) (k : Nat) (t pt : GTag) (hp : 0 < k → l[k - 1]? = some pt) : (((!gName t.key || decide ((t.val.size : Int) < 1)) || decide (200 < (t.val.size : Int))) || (decide ((0 : Int) < (k : Int)) && !slt pt.key t.key)) = badTag (before GTag.key l k) t := by
  have hv : decide ((t.val.size : Int) < 1) = decide (t.val = sNil) := decide_eq_decide.2 (by rw [sNil_iff]; omega)
  rw [hv, badTag]
  cases hg : gName t.key with
  | false => simp
  | true =>
    have hs : sle t.key (before GTag.key l k) = (decide ((0 : Int) < (k : Int)) && !slt pt.key t.key) := by
      cases k with
      | zero =>
        have : slt sNil t.key = true := by
          cases e : slt sNil t.key with
          | true => rfl
          | false => exact absurd (slt_tri (slt_nil _) e) (gName_ne hg)
        rw [before, sle_iff.2 this]; rfl
      | succ k =>
        have h := hp (by omega)
        rw [show k + 1 - 1 = k from rfl] at h
        rw [before_succ h, decide_eq_true (show (0 : Int) < ((k + 1 : Nat) : Int) by omega), Bool.true_and]
        cases e : slt pt.key t.key with
        | true => rw [sle_iff.2 e]; rfl
        | false =>
          cases e2 : sle t.key pt.key with
          | true => rfl
          | false => rw [sle_iff] at e2; rw [e] at e2; cases e2
    rw [← hs]
    cases sle t.key (before GTag.key l k) <;> cases decide (t.val = sNil) <;> cases decide (200 < (t.val.size : Int)) <;> rfl
end Go.Proofs.Ytedfihgkopejcaa
end
section
set_option linter.unusedVariables false
set_option linter.unusedSimpArgs false
set_option maxRecDepth 100000
namespace Go.Proofs.Ytedfihgkopejcaa
open Go.Abs
theorem rows_of {α : Type} (f : α → List PV) (l : List α) : l.map (fun e => (f e).map AV.pv) = (l.map f).map (·.map .pv) := by rw [List.map_map]; rfl
theorem len_snoc {α : Type} (l : List α) (a : α) : l.length + 1 = (l ++ [a]).length := by simp
theorem rGet_c (l : List GTag) (key : ByteArray) (H : Heap) (hl : l.length < 4611686018427387904) : ACalls Try.prog 20 [.pv (slTags l), sv key] H (fun r H' => r = .tup [sv ((gGet l key).getD sNil), bv (gGet l key).isSome] ∧ H' = H) := by
  refine ACalls.pure ?_ (by simp) H
  have hml : (l.map encTag).length = l.length := List.length_map _
  refine ACalls.body Try.func20 rfl Try.ntmps20 (Nat.le_of_ble_eq_true rfl) ?_
  refine awp_seq ?_
  refine awp_region ?_
  refine al_d rfl rfl rfl (by exact opd_assign rfl rfl) ?_
  refine al_d rfl rfl rfl (by exact opd_assign rfl rfl) ?_
  refine al_nil ?_
  refine awp_seq ?_
  refine awp_seq ?_
  refine awp_region ?_
  refine al_d rfl rfl rfl (by exact opd_assign rfl rfl) ?_
  refine al_nil ?_
  refine awp_block ?_
  -- loop
  refine awp_loop (σ := Nat) (fun k => ([(0, .pv (slTags l)), (1, sv key), (6, iv (k : Int))], [])) (fun k => k ≤ l.length ∧ ∀ j, j < k → ∀ b, l[j]? = some b → decide (b.key = key) = false) (fun k => l.length - k) 0 ⟨by omega, by omega⟩ ?_ ?_
  · exact Ent.e0 ⟨⟨_, rfl, rfl⟩, ⟨_, rfl, rfl⟩, ⟨_, rfl, rfl⟩, trivial⟩
  · rintro k ⟨hk, hno⟩
    refine awp_seq ?_
    refine awp_seq ?_
    refine awp_region ?_
    refine al_d rfl rfl rfl (by exact opd_move rfl rfl) ?_
    refine al_d rfl rfl rfl (by exact opd_move rfl rfl) ?_
    refine al_d rfl rfl rfl (by exact (by exact opd_len_sl rfl Try.underlying22 rfl)) ?_
    refine al_d rfl rfl rfl (by exact opd_lss rfl rfl rfl) ?_
    refine al_nil ?_
    refine awp_cond rfl (fun hc1 => ?_) (fun hc1 => ?_)
    -- cond 1
    · have hlt : k < l.length := by have := of_decide_eq_true hc1; omega
      obtain ⟨o, ho⟩ := get_of_lt hlt
      have hi := map_get (f := encTag) ho
      refine awp_skip ?_
      refine awp_seq ?_
      refine awp_block ?_
      refine awp_seq ?_
      refine awp_region ?_
      refine al_d rfl rfl rfl (by exact opd_move rfl rfl) ?_
      refine al_d rfl rfl rfl (by exact opd_move rfl rfl) ?_
      refine al_d rfl rfl rfl (by exact (by exact x_index_pad rfl so22 rfl rfl (by omega) (by exact Int.toNat_natCast _) (by assumption) rfl)) ?_
      refine al_d rfl rfl rfl (by exact (by exact opd_field_pad rfl fo46_0 rfl rfl)) ?_
      refine al_d rfl rfl rfl (by exact (by exact opd_load1_pad rfl Try.isAgg9 rfl (by omega) rfl)) ?_
      refine al_d rfl rfl rfl (by exact opd_move rfl rfl) ?_
      refine al_d rfl rfl rfl (by exact opd_seql rfl rfl rfl) ?_
      refine al_nil ?_
      refine awp_cond rfl (fun hc2 => ?_) (fun hc2 => ?_)
      -- cond 2
      · skip
        refine awp_seq ?_
        refine awp_region ?_
        refine al_d rfl rfl rfl (by exact opd_move rfl rfl) ?_
        refine al_d rfl rfl rfl (by exact opd_move rfl rfl) ?_
        refine al_d rfl rfl rfl (by exact (by exact x_index_pad rfl so22 rfl rfl (by omega) (by exact Int.toNat_natCast _) (by assumption) rfl)) ?_
        refine al_d rfl rfl rfl (by exact (by exact opd_field_pad rfl fo46_1 rfl rfl)) ?_
        refine al_d rfl rfl rfl (by exact (by exact opd_load1_pad rfl Try.isAgg9 rfl (by omega) rfl)) ?_
        refine al_d rfl rfl rfl (by exact opd_assign rfl rfl) ?_
        refine al_d rfl rfl rfl (by exact opd_assign rfl rfl) ?_
        refine al_nil ?_
        refine awp_ret ?_
        -- return
        refine aret2 (H' := []) (by exact .inr rfl) rfl (rval_tmp rfl) (rval_tmp rfl) (Fin.wk (by simp) trivial trivial) ?_
        exact ⟨by rw [gGet, find_some hno ho hc2]; rfl, rfl⟩
      · skip
        refine awp_skip ?_
        refine awp_region ?_
        refine al_d rfl rfl rfl (by exact opd_move rfl rfl) ?_
        refine al_d rfl rfl rfl (by exact opd_add rfl rfl rfl (by exact w64 (by omega) (by omega))) ?_
        refine al_d rfl rfl rfl (by exact opd_assign rfl rfl) ?_
        refine al_nil ?_
        -- end of a round
        exact ⟨k + 1, ⟨by omega, pre_succ hno ho hc2⟩, by omega, Ent.e0 ⟨⟨_, rfl, rfl⟩, ⟨_, rfl, rfl⟩, ⟨_, rfl, rfl⟩, trivial⟩⟩
    · have hge : k = l.length := by have := of_decide_eq_false hc1; omega
      subst hge
      refine awp_exit ?_
      refine awp_seq ?_
      refine awp_region ?_
      refine al_d rfl rfl rfl (by exact opd_assign rfl rfl) ?_
      refine al_d rfl rfl rfl (by exact opd_assign rfl rfl) ?_
      refine al_nil ?_
      refine awp_ret ?_
      -- return
      refine aret2 (H' := []) (by exact .inr rfl) rfl (rval_tmp rfl) (rval_tmp rfl) (Fin.wk (by simp) trivial trivial) ?_
      exact ⟨by rw [gGet, find_none hno]; rfl, rfl⟩
theorem rValid09_c (l : List GTag) (H : Heap) (hl : okTags l) : ACalls Try.prog 24 [.pv (slTags l)] H (fun r H' => r = bv (gTags l) ∧ H' = H) := by
  refine ACalls.pure ?_ (by simp) H
  obtain ⟨hl, hks⟩ := hl
  have hml : (l.map encTag).length = l.length := List.length_map _
  refine ACalls.body Try.func24 rfl Try.ntmps24 (Nat.le_of_ble_eq_true rfl) ?_
  refine awp_seq ?_
  refine awp_region ?_
  refine al_d rfl rfl rfl (by exact opd_assign rfl rfl) ?_
  refine al_nil ?_
  refine awp_seq ?_
  refine awp_seq ?_
  refine awp_region ?_
  refine al_d rfl rfl rfl (by exact opd_move rfl rfl) ?_
  refine al_d rfl rfl rfl (by exact (by exact opd_len_sl rfl Try.underlying22 rfl)) ?_
  refine al_d rfl rfl rfl (by exact opd_gtr rfl rfl rfl) ?_
  refine al_nil ?_
  refine awp_cond rfl (fun hc1 => ?_) (fun hc1 => ?_)
  -- cond 1
  · have h60 : decide ((l.length : Int) ≤ 60) = false := by
      have := of_decide_eq_true hc1
      exact decide_eq_false (by omega)
    refine awp_seq ?_
    refine awp_region ?_
    refine al_d rfl rfl rfl (by exact opd_assign rfl rfl) ?_
    refine al_nil ?_
    refine awp_ret ?_
    -- return
    refine aret1 (H' := []) (by exact .inr rfl) rfl (rval_tmp rfl) (Fin.wk (by simp) trivial trivial) ?_
    exact ⟨by rw [gTags, h60, Bool.and_false], rfl⟩
  · have h60 : decide ((l.length : Int) ≤ 60) = true := by
      have := of_decide_eq_false hc1
      exact decide_eq_true (by omega)
    rw [gTags, h60, Bool.and_true]
    refine awp_skip ?_
    refine awp_seq ?_
    refine awp_seq ?_
    refine awp_region ?_
    refine al_d rfl rfl rfl (by exact opd_assign rfl rfl) ?_
    refine al_nil ?_
    refine awp_block ?_
    -- loop
    refine awp_loop (σ := Nat) (fun k => ([(0, .pv (slTags l)), (3, iv (k : Int))], [])) (fun k => k ≤ l.length ∧ ∀ j, j < k → badAt badTag GTag.key l j = false) (fun k => l.length - k) 0 ⟨by omega, by omega⟩ ?_ ?_
    · exact Ent.e0 ⟨⟨_, rfl, rfl⟩, ⟨_, rfl, rfl⟩, trivial⟩
    · rintro k ⟨hk, hno⟩
      refine awp_seq ?_
      refine awp_seq ?_
      refine awp_region ?_
      refine al_d rfl rfl rfl (by exact opd_move rfl rfl) ?_
      refine al_d rfl rfl rfl (by exact opd_move rfl rfl) ?_
      refine al_d rfl rfl rfl (by exact (by exact opd_len_sl rfl Try.underlying22 rfl)) ?_
      refine al_d rfl rfl rfl (by exact opd_lss rfl rfl rfl) ?_
      refine al_nil ?_
      refine awp_cond rfl (fun hc2 => ?_) (fun hc2 => ?_)
      -- cond 2
      · have hlt : k < l.length := by have := of_decide_eq_true hc2; omega
        obtain ⟨t, ht⟩ := get_of_lt hlt
        have hi := map_get (f := encTag) ht
        have hkt := hks t (List.mem_of_getElem? ht)
        obtain ⟨pt, hp⟩ : ∃ pt, 0 < k → l[k - 1]? = some pt := by
          by_cases k0 : 0 < k
          · obtain ⟨pt, hp⟩ := get_of_lt (l := l) (k := k - 1) (by omega)
            exact ⟨pt, fun _ => hp⟩
          · exact ⟨t, fun h => absurd h k0⟩
        have hpv : 0 < k → (l.map encTag)[k - 1]? = some (encTag pt) := fun h => map_get (f := encTag) (hp h)
        have hbe := badTag_eq l k t pt hp
        refine awp_skip ?_
        refine awp_seq ?_
        refine awp_block ?_
        refine awp_seq ?_
        refine awp_mergeR (t := 55) (n := 43) (X := ((!gName t.key || decide ((t.val.size : Int) < 1)) || decide (200 < (t.val.size : Int))) || (decide ((0 : Int) < (k : Int)) && !slt pt.key t.key)) ?_ ?_
        · cases hg20 : (!gName t.key : Bool)
          · cases hg29 : (decide ((t.val.size : Int) < 1) : Bool)
            · cases hg38 : (decide (200 < (t.val.size : Int)) : Bool)
              · cases hg41 : (decide ((0 : Int) < (k : Int)) : Bool)
                · refine awp_drawc follows ?_
                  refine dc_cons (DStep.q rfl (by exact opd_move rfl rfl)) rfl ?_
                  refine dc_cons (DStep.q rfl (by exact opd_move rfl rfl)) rfl ?_
                  refine dc_cons (DStep.q rfl (by exact (by exact x_index_pad rfl so22 rfl rfl (by omega) (by exact Int.toNat_natCast _) (by assumption) rfl))) rfl ?_
                  refine dc_cons (DStep.q rfl (by exact (by exact opd_field_pad rfl fo46_0 rfl rfl))) rfl ?_
                  refine dc_cons (DStep.q rfl (by exact (by exact opd_load1_pad rfl Try.isAgg9 rfl (by omega) rfl))) rfl ?_
                  refine dc_cons (DStep.q rfl (by exact opr_call rfl rfl Try.call33 rfl (rName_c t.key _ hkt.1))) rfl ?_
                  refine dc_cons (DStep.q rfl (by exact opd_not rfl rfl)) rfl ?_
                  refine dc_cons (DStep.q rfl (by exact opd_move rfl rfl)) rfl ?_
                  refine dc_cons (q_on_f rfl rfl rfl (by assumption) (by exact opd_move rfl rfl)) rfl ?_
                  refine dc_cons (q_on_f rfl rfl rfl (by assumption) (by exact opd_move rfl rfl)) rfl ?_
                  refine dc_cons (q_on_f rfl rfl rfl (by assumption) (by exact (by exact x_index_pad rfl so22 rfl rfl (by omega) (by exact Int.toNat_natCast _) (by assumption) rfl))) rfl ?_
                  refine dc_cons (q_on_f rfl rfl rfl (by assumption) (by exact (by exact opd_field_pad rfl fo46_1 rfl rfl))) rfl ?_
                  refine dc_cons (q_on_f rfl rfl rfl (by assumption) (by exact (by exact opd_load1_pad rfl Try.isAgg9 rfl (by omega) rfl))) rfl ?_
                  refine dc_cons (q_on_f rfl rfl rfl (by assumption) (by exact opd_len_str rfl Try.underlying9 rfl)) rfl ?_
                  refine dc_cons (q_on_f rfl rfl rfl (by assumption) (by exact opd_lss rfl rfl rfl)) rfl ?_
                  refine dc_cons (DStep.q rfl (by exact (by exact opd_pickf rfl rfl (by assumption) rfl))) rfl ?_
                  refine dc_cons (DStep.q rfl (by exact opd_move rfl rfl)) rfl ?_
                  refine dc_cons (q_on_f rfl rfl rfl (by assumption) (by exact opd_move rfl rfl)) rfl ?_
                  refine dc_cons (q_on_f rfl rfl rfl (by assumption) (by exact opd_move rfl rfl)) rfl ?_
                  refine dc_cons (q_on_f rfl rfl rfl (by assumption) (by exact (by exact x_index_pad rfl so22 rfl rfl (by omega) (by exact Int.toNat_natCast _) (by assumption) rfl))) rfl ?_
                  refine dc_cons (q_on_f rfl rfl rfl (by assumption) (by exact (by exact opd_field_pad rfl fo46_1 rfl rfl))) rfl ?_
                  refine dc_cons (q_on_f rfl rfl rfl (by assumption) (by exact (by exact opd_load1_pad rfl Try.isAgg9 rfl (by omega) rfl))) rfl ?_
                  refine dc_cons (q_on_f rfl rfl rfl (by assumption) (by exact opd_len_str rfl Try.underlying9 rfl)) rfl ?_
                  refine dc_cons (q_on_f rfl rfl rfl (by assumption) (by exact opd_gtr rfl rfl rfl)) rfl ?_
                  refine dc_cons (DStep.q rfl (by exact (by exact opd_pickf rfl rfl (by assumption) rfl))) rfl ?_
                  refine dc_cons (DStep.q rfl (by exact opd_move rfl rfl)) rfl ?_
                  refine dc_cons (q_on_f rfl rfl rfl (by assumption) (by exact opd_move rfl rfl)) rfl ?_
                  refine dc_cons (q_on_f rfl rfl rfl (by assumption) (by exact opd_gtr rfl rfl rfl)) rfl ?_
                  refine dc_cons (q_on_f rfl rfl rfl (by assumption) (by exact opd_move rfl rfl)) rfl ?_
                  refine dc_cons (q_off_t rfl rfl rfl (by assumption)) rfl ?_
                  refine dc_cons (q_off_t rfl rfl rfl (by assumption)) rfl ?_
                  refine dc_cons (q_off_t rfl rfl rfl (by assumption)) rfl ?_
                  refine dc_cons (q_off_t rfl rfl rfl (by assumption)) rfl ?_
                  refine dc_cons (q_off_t rfl rfl rfl (by assumption)) rfl ?_
                  refine dc_cons (q_off_t rfl rfl rfl (by assumption)) rfl ?_
                  refine dc_cons (q_off_t rfl rfl rfl (by assumption)) rfl ?_
                  refine dc_cons (q_off_t rfl rfl rfl (by assumption)) rfl ?_
                  refine dc_cons (q_off_t rfl rfl rfl (by assumption)) rfl ?_
                  refine dc_cons (q_off_t rfl rfl rfl (by assumption)) rfl ?_
                  refine dc_cons (q_off_t rfl rfl rfl (by assumption)) rfl ?_
                  refine dc_cons (q_off_t rfl rfl rfl (by assumption)) rfl ?_
                  refine dc_cons (q_on_f rfl rfl rfl (by assumption) (by exact (by exact opd_pickf rfl rfl (by assumption) rfl))) rfl ?_
                  refine dc_cons (DStep.q rfl (by exact (by exact opd_pickf rfl rfl (by assumption) rfl))) rfl ?_
                  refine dc_nil ⟨by kernel_rfl, ?_⟩
                  exact ⟨rfl, ⟨_, rfl, by rfl⟩, rfl, rfl, rfl⟩
                · refine awp_drawc follows ?_
                  refine dc_cons (DStep.q rfl (by exact opd_move rfl rfl)) rfl ?_
                  refine dc_cons (DStep.q rfl (by exact opd_move rfl rfl)) rfl ?_
                  refine dc_cons (DStep.q rfl (by exact (by exact x_index_pad rfl so22 rfl rfl (by omega) (by exact Int.toNat_natCast _) (by assumption) rfl))) rfl ?_
                  refine dc_cons (DStep.q rfl (by exact (by exact opd_field_pad rfl fo46_0 rfl rfl))) rfl ?_
                  refine dc_cons (DStep.q rfl (by exact (by exact opd_load1_pad rfl Try.isAgg9 rfl (by omega) rfl))) rfl ?_
                  refine dc_cons (DStep.q rfl (by exact opr_call rfl rfl Try.call33 rfl (rName_c t.key _ hkt.1))) rfl ?_
                  refine dc_cons (DStep.q rfl (by exact opd_not rfl rfl)) rfl ?_
                  refine dc_cons (DStep.q rfl (by exact opd_move rfl rfl)) rfl ?_
                  refine dc_cons (q_on_f rfl rfl rfl (by assumption) (by exact opd_move rfl rfl)) rfl ?_
                  refine dc_cons (q_on_f rfl rfl rfl (by assumption) (by exact opd_move rfl rfl)) rfl ?_
                  refine dc_cons (q_on_f rfl rfl rfl (by assumption) (by exact (by exact x_index_pad rfl so22 rfl rfl (by omega) (by exact Int.toNat_natCast _) (by assumption) rfl))) rfl ?_
                  refine dc_cons (q_on_f rfl rfl rfl (by assumption) (by exact (by exact opd_field_pad rfl fo46_1 rfl rfl))) rfl ?_
                  refine dc_cons (q_on_f rfl rfl rfl (by assumption) (by exact (by exact opd_load1_pad rfl Try.isAgg9 rfl (by omega) rfl))) rfl ?_
                  refine dc_cons (q_on_f rfl rfl rfl (by assumption) (by exact opd_len_str rfl Try.underlying9 rfl)) rfl ?_
                  refine dc_cons (q_on_f rfl rfl rfl (by assumption) (by exact opd_lss rfl rfl rfl)) rfl ?_
                  refine dc_cons (DStep.q rfl (by exact (by exact opd_pickf rfl rfl (by assumption) rfl))) rfl ?_
                  refine dc_cons (DStep.q rfl (by exact opd_move rfl rfl)) rfl ?_
                  refine dc_cons (q_on_f rfl rfl rfl (by assumption) (by exact opd_move rfl rfl)) rfl ?_
                  refine dc_cons (q_on_f rfl rfl rfl (by assumption) (by exact opd_move rfl rfl)) rfl ?_
                  refine dc_cons (q_on_f rfl rfl rfl (by assumption) (by exact (by exact x_index_pad rfl so22 rfl rfl (by omega) (by exact Int.toNat_natCast _) (by assumption) rfl))) rfl ?_
                  refine dc_cons (q_on_f rfl rfl rfl (by assumption) (by exact (by exact opd_field_pad rfl fo46_1 rfl rfl))) rfl ?_
                  refine dc_cons (q_on_f rfl rfl rfl (by assumption) (by exact (by exact opd_load1_pad rfl Try.isAgg9 rfl (by omega) rfl))) rfl ?_
                  refine dc_cons (q_on_f rfl rfl rfl (by assumption) (by exact opd_len_str rfl Try.underlying9 rfl)) rfl ?_
                  refine dc_cons (q_on_f rfl rfl rfl (by assumption) (by exact opd_gtr rfl rfl rfl)) rfl ?_
                  refine dc_cons (DStep.q rfl (by exact (by exact opd_pickf rfl rfl (by assumption) rfl))) rfl ?_
                  refine dc_cons (DStep.q rfl (by exact opd_move rfl rfl)) rfl ?_
                  refine dc_cons (q_on_f rfl rfl rfl (by assumption) (by exact opd_move rfl rfl)) rfl ?_
                  refine dc_cons (q_on_f rfl rfl rfl (by assumption) (by exact opd_gtr rfl rfl rfl)) rfl ?_
                  refine dc_cons (q_on_f rfl rfl rfl (by assumption) (by exact opd_move rfl rfl)) rfl ?_
                  refine dc_cons (q_on_t rfl rfl rfl (by assumption) (by exact opd_move rfl rfl)) rfl ?_
                  refine dc_cons (q_on_t rfl rfl rfl (by assumption) (by exact opd_move rfl rfl)) rfl ?_
                  refine dc_cons (q_on_t rfl rfl rfl (by assumption) (by exact opd_sub rfl rfl rfl (by exact w64 (by omega) (by omega)))) rfl ?_
                  refine dc_cons (q_on_t rfl rfl rfl (by assumption) (by exact x_index_pad rfl so22 rfl rfl (by have := of_decide_eq_true hg41; omega) (show ((k : Int) - 1).toNat = k - 1 by omega) (hpv (by have := of_decide_eq_true hg41; omega)) rfl)) rfl ?_
                  refine dc_cons (q_on_t rfl rfl rfl (by assumption) (by exact (by exact opd_field_pad rfl fo46_0 rfl rfl))) rfl ?_
                  refine dc_cons (q_on_t rfl rfl rfl (by assumption) (by exact opd_load1_pad rfl Try.isAgg9 rfl (hpv (by have := of_decide_eq_true hg41; omega)) rfl)) rfl ?_
                  refine dc_cons (q_on_t rfl rfl rfl (by assumption) (by exact opd_move rfl rfl)) rfl ?_
                  refine dc_cons (q_on_t rfl rfl rfl (by assumption) (by exact opd_move rfl rfl)) rfl ?_
                  refine dc_cons (q_on_t rfl rfl rfl (by assumption) (by exact (by exact x_index_pad rfl so22 rfl rfl (by omega) (by exact Int.toNat_natCast _) (by assumption) rfl))) rfl ?_
                  refine dc_cons (q_on_t rfl rfl rfl (by assumption) (by exact (by exact opd_field_pad rfl fo46_0 rfl rfl))) rfl ?_
                  refine dc_cons (q_on_t rfl rfl rfl (by assumption) (by exact (by exact opd_load1_pad rfl Try.isAgg9 rfl (by omega) rfl))) rfl ?_
                  refine dc_cons (q_on_t rfl rfl rfl (by assumption) (by exact opd_sgeq rfl rfl rfl)) rfl ?_
                  refine dc_cons (q_on_f rfl rfl rfl (by assumption) (by exact (by exact opd_pickt rfl rfl (by assumption) rfl))) rfl ?_
                  refine dc_cons (DStep.q rfl (by exact (by exact opd_pickf rfl rfl (by assumption) rfl))) rfl ?_
                  refine dc_nil ⟨by kernel_rfl, ?_⟩
                  exact ⟨rfl, ⟨_, rfl, by rfl⟩, rfl, rfl, rfl⟩
              · refine awp_drawc follows ?_
                refine dc_cons (DStep.q rfl (by exact opd_move rfl rfl)) rfl ?_
                refine dc_cons (DStep.q rfl (by exact opd_move rfl rfl)) rfl ?_
                refine dc_cons (DStep.q rfl (by exact (by exact x_index_pad rfl so22 rfl rfl (by omega) (by exact Int.toNat_natCast _) (by assumption) rfl))) rfl ?_
                refine dc_cons (DStep.q rfl (by exact (by exact opd_field_pad rfl fo46_0 rfl rfl))) rfl ?_
                refine dc_cons (DStep.q rfl (by exact (by exact opd_load1_pad rfl Try.isAgg9 rfl (by omega) rfl))) rfl ?_
                refine dc_cons (DStep.q rfl (by exact opr_call rfl rfl Try.call33 rfl (rName_c t.key _ hkt.1))) rfl ?_
                refine dc_cons (DStep.q rfl (by exact opd_not rfl rfl)) rfl ?_
                refine dc_cons (DStep.q rfl (by exact opd_move rfl rfl)) rfl ?_
                refine dc_cons (q_on_f rfl rfl rfl (by assumption) (by exact opd_move rfl rfl)) rfl ?_
                refine dc_cons (q_on_f rfl rfl rfl (by assumption) (by exact opd_move rfl rfl)) rfl ?_
                refine dc_cons (q_on_f rfl rfl rfl (by assumption) (by exact (by exact x_index_pad rfl so22 rfl rfl (by omega) (by exact Int.toNat_natCast _) (by assumption) rfl))) rfl ?_
                refine dc_cons (q_on_f rfl rfl rfl (by assumption) (by exact (by exact opd_field_pad rfl fo46_1 rfl rfl))) rfl ?_
                refine dc_cons (q_on_f rfl rfl rfl (by assumption) (by exact (by exact opd_load1_pad rfl Try.isAgg9 rfl (by omega) rfl))) rfl ?_
                refine dc_cons (q_on_f rfl rfl rfl (by assumption) (by exact opd_len_str rfl Try.underlying9 rfl)) rfl ?_
                refine dc_cons (q_on_f rfl rfl rfl (by assumption) (by exact opd_lss rfl rfl rfl)) rfl ?_
                refine dc_cons (DStep.q rfl (by exact (by exact opd_pickf rfl rfl (by assumption) rfl))) rfl ?_
                refine dc_cons (DStep.q rfl (by exact opd_move rfl rfl)) rfl ?_
                refine dc_cons (q_on_f rfl rfl rfl (by assumption) (by exact opd_move rfl rfl)) rfl ?_
                refine dc_cons (q_on_f rfl rfl rfl (by assumption) (by exact opd_move rfl rfl)) rfl ?_
                refine dc_cons (q_on_f rfl rfl rfl (by assumption) (by exact (by exact x_index_pad rfl so22 rfl rfl (by omega) (by exact Int.toNat_natCast _) (by assumption) rfl))) rfl ?_
                refine dc_cons (q_on_f rfl rfl rfl (by assumption) (by exact (by exact opd_field_pad rfl fo46_1 rfl rfl))) rfl ?_
                refine dc_cons (q_on_f rfl rfl rfl (by assumption) (by exact (by exact opd_load1_pad rfl Try.isAgg9 rfl (by omega) rfl))) rfl ?_
                refine dc_cons (q_on_f rfl rfl rfl (by assumption) (by exact opd_len_str rfl Try.underlying9 rfl)) rfl ?_
                refine dc_cons (q_on_f rfl rfl rfl (by assumption) (by exact opd_gtr rfl rfl rfl)) rfl ?_
                refine dc_cons (DStep.q rfl (by exact (by exact opd_pickf rfl rfl (by assumption) rfl))) rfl ?_
                refine dc_cons (DStep.q rfl (by exact opd_move rfl rfl)) rfl ?_
                refine dc_cons (q_off_f rfl rfl rfl (by assumption)) rfl ?_
                refine dc_cons (q_off_f rfl rfl rfl (by assumption)) rfl ?_
                refine dc_cons (q_off_f rfl rfl rfl (by assumption)) rfl ?_
                refine dc_cons (q_off_u rfl rfl rfl) rfl ?_
                refine dc_cons (q_off_u rfl rfl rfl) rfl ?_
                refine dc_cons (q_off_u rfl rfl rfl) rfl ?_
                refine dc_cons (q_off_u rfl rfl rfl) rfl ?_
                refine dc_cons (q_off_u rfl rfl rfl) rfl ?_
                refine dc_cons (q_off_u rfl rfl rfl) rfl ?_
                refine dc_cons (q_off_u rfl rfl rfl) rfl ?_
                refine dc_cons (q_off_u rfl rfl rfl) rfl ?_
                refine dc_cons (q_off_u rfl rfl rfl) rfl ?_
                refine dc_cons (q_off_u rfl rfl rfl) rfl ?_
                refine dc_cons (q_off_u rfl rfl rfl) rfl ?_
                refine dc_cons (q_off_u rfl rfl rfl) rfl ?_
                refine dc_cons (q_off_f rfl rfl rfl (by assumption)) rfl ?_
                refine dc_cons (DStep.q rfl (by exact (by exact opd_pickt rfl rfl (by assumption) rfl))) rfl ?_
                refine dc_nil ⟨by kernel_rfl, ?_⟩
                exact ⟨rfl, ⟨_, rfl, by rfl⟩, rfl, rfl, rfl⟩
            · refine awp_drawc follows ?_
              refine dc_cons (DStep.q rfl (by exact opd_move rfl rfl)) rfl ?_
              refine dc_cons (DStep.q rfl (by exact opd_move rfl rfl)) rfl ?_
              refine dc_cons (DStep.q rfl (by exact (by exact x_index_pad rfl so22 rfl rfl (by omega) (by exact Int.toNat_natCast _) (by assumption) rfl))) rfl ?_
              refine dc_cons (DStep.q rfl (by exact (by exact opd_field_pad rfl fo46_0 rfl rfl))) rfl ?_
              refine dc_cons (DStep.q rfl (by exact (by exact opd_load1_pad rfl Try.isAgg9 rfl (by omega) rfl))) rfl ?_
              refine dc_cons (DStep.q rfl (by exact opr_call rfl rfl Try.call33 rfl (rName_c t.key _ hkt.1))) rfl ?_
              refine dc_cons (DStep.q rfl (by exact opd_not rfl rfl)) rfl ?_
              refine dc_cons (DStep.q rfl (by exact opd_move rfl rfl)) rfl ?_
              refine dc_cons (q_on_f rfl rfl rfl (by assumption) (by exact opd_move rfl rfl)) rfl ?_
              refine dc_cons (q_on_f rfl rfl rfl (by assumption) (by exact opd_move rfl rfl)) rfl ?_
              refine dc_cons (q_on_f rfl rfl rfl (by assumption) (by exact (by exact x_index_pad rfl so22 rfl rfl (by omega) (by exact Int.toNat_natCast _) (by assumption) rfl))) rfl ?_
              refine dc_cons (q_on_f rfl rfl rfl (by assumption) (by exact (by exact opd_field_pad rfl fo46_1 rfl rfl))) rfl ?_
              refine dc_cons (q_on_f rfl rfl rfl (by assumption) (by exact (by exact opd_load1_pad rfl Try.isAgg9 rfl (by omega) rfl))) rfl ?_
              refine dc_cons (q_on_f rfl rfl rfl (by assumption) (by exact opd_len_str rfl Try.underlying9 rfl)) rfl ?_
              refine dc_cons (q_on_f rfl rfl rfl (by assumption) (by exact opd_lss rfl rfl rfl)) rfl ?_
              refine dc_cons (DStep.q rfl (by exact (by exact opd_pickf rfl rfl (by assumption) rfl))) rfl ?_
              refine dc_cons (DStep.q rfl (by exact opd_move rfl rfl)) rfl ?_
              refine dc_cons (q_off_f rfl rfl rfl (by assumption)) rfl ?_
              refine dc_cons (q_off_f rfl rfl rfl (by assumption)) rfl ?_
              refine dc_cons (q_off_f rfl rfl rfl (by assumption)) rfl ?_
              refine dc_cons (q_off_f rfl rfl rfl (by assumption)) rfl ?_
              refine dc_cons (q_off_f rfl rfl rfl (by assumption)) rfl ?_
              refine dc_cons (q_off_f rfl rfl rfl (by assumption)) rfl ?_
              refine dc_cons (q_off_f rfl rfl rfl (by assumption)) rfl ?_
              refine dc_cons (DStep.q rfl (by exact (by exact opd_pickt rfl rfl (by assumption) rfl))) rfl ?_
              refine dc_cons (DStep.q rfl (by exact opd_move rfl rfl)) rfl ?_
              refine dc_cons (q_off_f rfl rfl rfl (by rfl)) rfl ?_
              refine dc_cons (q_off_f rfl rfl rfl (by rfl)) rfl ?_
              refine dc_cons (q_off_f rfl rfl rfl (by rfl)) rfl ?_
              refine dc_cons (q_off_u rfl rfl rfl) rfl ?_
              refine dc_cons (q_off_u rfl rfl rfl) rfl ?_
              refine dc_cons (q_off_u rfl rfl rfl) rfl ?_
              refine dc_cons (q_off_u rfl rfl rfl) rfl ?_
              refine dc_cons (q_off_u rfl rfl rfl) rfl ?_
              refine dc_cons (q_off_u rfl rfl rfl) rfl ?_
              refine dc_cons (q_off_u rfl rfl rfl) rfl ?_
              refine dc_cons (q_off_u rfl rfl rfl) rfl ?_
              refine dc_cons (q_off_u rfl rfl rfl) rfl ?_
              refine dc_cons (q_off_u rfl rfl rfl) rfl ?_
              refine dc_cons (q_off_u rfl rfl rfl) rfl ?_
              refine dc_cons (q_off_u rfl rfl rfl) rfl ?_
              refine dc_cons (q_off_f rfl rfl rfl (by rfl)) rfl ?_
              refine dc_cons (DStep.q rfl (by exact (by exact opd_pick_t rfl rfl rfl))) rfl ?_
              refine dc_nil ⟨by kernel_rfl, ?_⟩
              exact ⟨rfl, ⟨_, rfl, by rfl⟩, rfl, rfl, rfl⟩
          · refine awp_drawc follows ?_
            refine dc_cons (DStep.q rfl (by exact opd_move rfl rfl)) rfl ?_
            refine dc_cons (DStep.q rfl (by exact opd_move rfl rfl)) rfl ?_
            refine dc_cons (DStep.q rfl (by exact (by exact x_index_pad rfl so22 rfl rfl (by omega) (by exact Int.toNat_natCast _) (by assumption) rfl))) rfl ?_
            refine dc_cons (DStep.q rfl (by exact (by exact opd_field_pad rfl fo46_0 rfl rfl))) rfl ?_
            refine dc_cons (DStep.q rfl (by exact (by exact opd_load1_pad rfl Try.isAgg9 rfl (by omega) rfl))) rfl ?_
            refine dc_cons (DStep.q rfl (by exact opr_call rfl rfl Try.call33 rfl (rName_c t.key _ hkt.1))) rfl ?_
            refine dc_cons (DStep.q rfl (by exact opd_not rfl rfl)) rfl ?_
            refine dc_cons (DStep.q rfl (by exact opd_move rfl rfl)) rfl ?_
            refine dc_cons (q_off_f rfl rfl rfl (by assumption)) rfl ?_
            refine dc_cons (q_off_f rfl rfl rfl (by assumption)) rfl ?_
            refine dc_cons (q_off_f rfl rfl rfl (by assumption)) rfl ?_
            refine dc_cons (q_off_f rfl rfl rfl (by assumption)) rfl ?_
            refine dc_cons (q_off_f rfl rfl rfl (by assumption)) rfl ?_
            refine dc_cons (q_off_f rfl rfl rfl (by assumption)) rfl ?_
            refine dc_cons (q_off_f rfl rfl rfl (by assumption)) rfl ?_
            refine dc_cons (DStep.q rfl (by exact (by exact opd_pickt rfl rfl (by assumption) rfl))) rfl ?_
            refine dc_cons (DStep.q rfl (by exact opd_move rfl rfl)) rfl ?_
            refine dc_cons (q_off_f rfl rfl rfl (by rfl)) rfl ?_
            refine dc_cons (q_off_f rfl rfl rfl (by rfl)) rfl ?_
            refine dc_cons (q_off_f rfl rfl rfl (by rfl)) rfl ?_
            refine dc_cons (q_off_f rfl rfl rfl (by rfl)) rfl ?_
            refine dc_cons (q_off_f rfl rfl rfl (by rfl)) rfl ?_
            refine dc_cons (q_off_f rfl rfl rfl (by rfl)) rfl ?_
            refine dc_cons (q_off_f rfl rfl rfl (by rfl)) rfl ?_
            refine dc_cons (DStep.q rfl (by exact (by exact opd_pick_t rfl rfl rfl))) rfl ?_
            refine dc_cons (DStep.q rfl (by exact opd_move rfl rfl)) rfl ?_
            refine dc_cons (q_off_f rfl rfl rfl (by rfl)) rfl ?_
            refine dc_cons (q_off_f rfl rfl rfl (by rfl)) rfl ?_
            refine dc_cons (q_off_f rfl rfl rfl (by rfl)) rfl ?_
            refine dc_cons (q_off_u rfl rfl rfl) rfl ?_
            refine dc_cons (q_off_u rfl rfl rfl) rfl ?_
            refine dc_cons (q_off_u rfl rfl rfl) rfl ?_
            refine dc_cons (q_off_u rfl rfl rfl) rfl ?_
            refine dc_cons (q_off_u rfl rfl rfl) rfl ?_
            refine dc_cons (q_off_u rfl rfl rfl) rfl ?_
            refine dc_cons (q_off_u rfl rfl rfl) rfl ?_
            refine dc_cons (q_off_u rfl rfl rfl) rfl ?_
            refine dc_cons (q_off_u rfl rfl rfl) rfl ?_
            refine dc_cons (q_off_u rfl rfl rfl) rfl ?_
            refine dc_cons (q_off_u rfl rfl rfl) rfl ?_
            refine dc_cons (q_off_u rfl rfl rfl) rfl ?_
            refine dc_cons (q_off_f rfl rfl rfl (by rfl)) rfl ?_
            refine dc_cons (DStep.q rfl (by exact (by exact opd_pick_t rfl rfl rfl))) rfl ?_
            refine dc_nil ⟨by kernel_rfl, ?_⟩
            exact ⟨rfl, ⟨_, rfl, by rfl⟩, rfl, rfl, rfl⟩
        refine awp_cond rfl (fun hc3 => ?_) (fun hc3 => ?_)
        -- cond 3
        · rw [hbe] at hc3
          refine awp_seq ?_
          refine awp_region ?_
          refine al_d rfl rfl rfl (by exact opd_assign rfl rfl) ?_
          refine al_nil ?_
          refine awp_ret ?_
          -- return
          refine aret1 (H' := []) (by exact .inr rfl) rfl (rval_tmp rfl) (Fin.wk (by simp) trivial trivial) ?_
          exact ⟨by rw [range_some hlt ((badAt_some ht).trans hc3)]; rfl, rfl⟩
        · rw [hbe] at hc3
          refine awp_skip ?_
          refine awp_region ?_
          refine al_d rfl rfl rfl (by exact opd_move rfl rfl) ?_
          refine al_d rfl rfl rfl (by exact opd_add rfl rfl rfl (by exact w64 (by omega) (by omega))) ?_
          refine al_d rfl rfl rfl (by exact opd_assign rfl rfl) ?_
          refine al_nil ?_
          -- end of a round
          refine ⟨k + 1, ⟨by omega, fun j hj => ?_⟩, by omega, Ent.e0 ⟨⟨_, rfl, rfl⟩, ⟨_, rfl, rfl⟩, trivial⟩⟩
          by_cases e : j = k
          · subst e; exact (badAt_some ht).trans hc3
          · exact hno j (by omega)
      · have hge : k = l.length := by have := of_decide_eq_false hc2; omega
        subst hge
        refine awp_exit ?_
        refine awp_seq ?_
        refine awp_region ?_
        refine al_d rfl rfl rfl (by exact opd_assign rfl rfl) ?_
        refine al_nil ?_
        refine awp_ret ?_
        -- return
        refine aret1 (H' := []) (by exact .inr rfl) rfl (rval_tmp rfl) (Fin.wk (by simp) trivial trivial) ?_
        exact ⟨by rw [range_any hno]; rfl, rfl⟩
def pStep (key val : ByteArray) (s : List GTag × Bool) (t : GTag) : List GTag × Bool :=
  (if !decide (t.key = key) then (if !s.2 && !slt t.key key then s.1 ++ [⟨key, val⟩] else s.1) ++ [t] else (if !s.2 && !slt t.key key then s.1 ++ [⟨key, val⟩] else s.1), s.2 || !slt t.key key)
def pFold (l : List GTag) (key val : ByteArray) : List GTag × Bool := l.foldl (pStep key val) ([], decide (val = sNil))
def rPut09 (l : List GTag) (key val : ByteArray) : List GTag := if (pFold l key val).2 then (pFold l key val).1 else (pFold l key val).1 ++ [⟨key, val⟩]
theorem pFold_snoc {l : List GTag} {i : Nat} {t : GTag} (key val : ByteArray) (h : l[i]? = some t) : pFold (l.take (i + 1)) key val = pStep key val (pFold (l.take i) key val) t := by
  rw [pFold, List.take_add_one, h, List.foldl_append]; rfl
theorem pStep_len (key val : ByteArray) (s : List GTag × Bool) (t : GTag) : (pStep key val s t).1.length ≤ s.1.length + 2 := by
  unfold pStep
  dsimp only
  split <;> split <;> (try simp only [List.length_append, List.length_singleton, List.length_cons, List.length_nil]) <;> omega
theorem pFold_len (l : List GTag) (key val : ByteArray) : (pFold l key val).1.length ≤ 2 * l.length := by
  unfold pFold
  suffices ∀ (l : List GTag) (s : List GTag × Bool), (l.foldl (pStep key val) s).1.length ≤ s.1.length + 2 * l.length by
    have := this l ([], decide (val = sNil))
    simpa using this
  intro l
  induction l with
  | nil => intro s; simp
  | cons t l ih =>
    intro s
    have h1 := ih (pStep key val s t)
    have h2 := pStep_len key val s t
    rw [List.foldl_cons, List.length_cons]
    omega
abbrev tgR9 (l : List GTag) : List (List AV) := l.map (fun e => (encTag e).map .pv)
theorem takeT (l : List GTag) {n : Nat} (hn : n = l.length) : ((l.map encTag).take (0 + n)).drop 0 = l.map encTag := by rw [hn, Nat.zero_add, List.drop_zero, ← List.length_map (f := encTag), List.take_length]
theorem Fin.tagsO {H1 : Heap} {id g n : Nat} {ob : Ob} (l : List GTag) (hH : H1.get id = some ob) (hg : ob.g = g) (hps : ob.rows = tgR9 l) (hn : n = l.length) :
    Fin [] H1 (.osl id g 0 n) [] (.pv (slTags l)) := by
  subst hg
  exact Fin.fz (id := id) (ob := ob) (l.map encTag) hH (hps.trans (rows_of encTag l)) (.osl (takeT l hn)) rfl trivial trivial
theorem rPut09_c (l : List GTag) (key val : ByteArray) (H : Heap) (hl : l.length < 274877906944) : ACalls Try.prog 34 [.pv (slTags l), sv key, sv val] H (fun r H' => r = .pv (slTags (rPut09 l key val)) ∧ H' = H) := by
  refine ACalls.pure ?_ (by simp) H
  have hml : (l.map encTag).length = l.length := List.length_map _
  refine ACalls.body Try.func34 rfl Try.ntmps34 (Nat.le_of_ble_eq_true rfl) ?_
  refine awp_seq ?_
  refine awp_region ?_
  refine al_d rfl rfl rfl (by exact opd_assign rfl rfl) ?_
  refine al_nil ?_
  refine awp_seq ?_
  refine awp_region ?_
  refine al_d rfl rfl rfl (by exact opd_assign_own (id := 7) (sz := 2) (ty := 46) rfl rfl rfl) ?_
  refine al_nil ?_
  refine awp_seq ?_
  refine awp_region ?_
  refine al_d rfl rfl rfl (by exact opd_move rfl rfl) ?_
  refine al_d rfl rfl rfl (by exact opd_seql rfl rfl rfl) ?_
  refine al_d rfl rfl rfl (by exact opd_assign rfl rfl) ?_
  refine al_nil ?_
  refine awp_seq ?_
  refine awp_seq ?_
  refine awp_region ?_
  refine al_d rfl rfl rfl (by exact opd_assign rfl rfl) ?_
  refine al_nil ?_
  refine awp_block ?_
  -- loop
  refine awp_loop2 (fun (i : Nat) (g : Nat) => ([(0, .pv (slTags l)), (1, sv key), (2, sv val), (7, .osl 7 g 0 (pFold (l.take i) key val).1.length), (8, bv (pFold (l.take i) key val).2), (9, iv (i : Int))], [(7, ⟨g, 2, 46, tgR9 (pFold (l.take i) key val).1⟩)])) (fun i g => i ≤ l.length) (fun i g => l.length - i) 0 0 (by omega) ?_ ?_
  · exact (Ent.wk ⟨⟨_, rfl, rfl⟩, (by (simp; done)), ⟨_, rfl, rfl⟩, (by (simp; done)), ⟨_, rfl, rfl⟩, (by (simp; done)), ⟨_, rfl, rfl⟩, (by (simp; rfl)), ⟨_, rfl, rfl⟩, (by (simp; done)), ⟨_, rfl, rfl⟩, (by (simp; done)), trivial⟩ ⟨⟨_, rfl, rfl⟩, (by (simp; done)), trivial⟩ trivial)
  · rintro i g hi
    have hfl : (pFold (l.take i) key val).1.length ≤ 2 * i := by have := pFold_len (l.take i) key val; rw [List.length_take] at this; omega
    refine awp_seq ?_
    refine awp_seq ?_
    refine awp_region ?_
    refine al_d rfl rfl rfl (by exact opd_move rfl rfl) ?_
    refine al_d rfl rfl rfl (by exact opd_move rfl rfl) ?_
    refine al_d rfl rfl rfl (by exact (by exact opd_len_sl rfl Try.underlying22 rfl)) ?_
    refine al_d rfl rfl rfl (by exact opd_lss rfl rfl rfl) ?_
    refine al_nil ?_
    refine awp_cond rfl (fun hc1 => ?_) (fun hc1 => ?_)
    -- cond 1
    · have hil : i < l.length := by have := of_decide_eq_true hc1; omega
      obtain ⟨t, ht⟩ := get_of_lt hil
      have hi1 := map_get (f := encTag) ht
      have hsn := pFold_snoc key val ht
      obtain ⟨s, hs⟩ : ∃ s, s = pFold (l.take i) key val := ⟨_, rfl⟩
      rw [← hs] at hsn hfl ⊢
      obtain ⟨out, done⟩ := s
      simp only at hfl
      dsimp only
      clear hs
      unfold pStep at hsn
      simp only at hsn
      cases hd : (!done && !slt t.key key)
      · simp only [hd, Bool.false_eq_true, if_false] at hsn
        have hdd : (done || !slt t.key key) = done := by
          cases done
          · cases h : slt t.key key
            · rw [h] at hd; cases hd
            · rfl
          · rfl
        rw [hdd] at hsn
        refine awp_skip ?_
        refine awp_seq ?_
        refine awp_block ?_
        refine awp_seq ?_
        refine awp_seq ?_
        refine awp_bool (t := 28) (n := 12) (X := !done && !slt t.key key) ?_ ?_
        · all_goals (refine al_d rfl rfl rfl (by exact opd_move rfl rfl) ?_)
          all_goals (refine al_d rfl rfl rfl (by exact opd_not rfl rfl) ?_)
          all_goals (refine al_d rfl rfl rfl (by exact opd_move rfl rfl) ?_)
          all_goals (refine al_split (t := 20) rfl (fun h20 => ?_) (fun h20 => ?_))
          all_goals (try contradiction)
          all_goals (first | refine al_off rfl rfl rfl rfl rfl ?_ | refine al_ond rfl rfl rfl rfl rfl rfl (by exact opd_move rfl rfl) ?_)
          all_goals (first | refine al_off rfl rfl rfl rfl rfl ?_ | refine al_ond rfl rfl rfl rfl rfl rfl (by exact opd_move rfl rfl) ?_)
          all_goals (first | refine al_off rfl rfl rfl rfl rfl ?_ | refine al_ond rfl rfl rfl rfl rfl rfl (by exact (by exact x_index_pad rfl so22 rfl rfl (by omega) (by exact Int.toNat_natCast _) hi1 rfl)) ?_)
          all_goals (first | refine al_off rfl rfl rfl rfl rfl ?_ | refine al_ond rfl rfl rfl rfl rfl rfl (by exact (by exact opd_field_pad rfl fo46_0 rfl rfl)) ?_)
          all_goals (first | refine al_off rfl rfl rfl rfl rfl ?_ | refine al_ond rfl rfl rfl rfl rfl rfl (by exact (by exact opd_load1_pad rfl Try.isAgg9 rfl hi1 rfl)) ?_)
          all_goals (first | refine al_off rfl rfl rfl rfl rfl ?_ | refine al_ond rfl rfl rfl rfl rfl rfl (by exact opd_move rfl rfl) ?_)
          all_goals (first | refine al_off rfl rfl rfl rfl rfl ?_ | refine al_ond rfl rfl rfl rfl rfl rfl (by exact opd_sgeq rfl rfl rfl) ?_)
          all_goals (refine al_d rfl rfl rfl (by exact (by first | exact opd_pick_t rfl rfl rfl | exact opd_pick_f rfl rfl rfl)) ?_)
          all_goals (refine al_nil ?_)
          all_goals (exact ⟨⟨_, rfl, by (simp only [*, Bool.false_and, Bool.true_and, Bool.and_false, Bool.and_true, Bool.true_or, Bool.false_or, Bool.or_true, Bool.or_false, Bool.not_true, Bool.not_false]; done)⟩, rfl, rfl, rfl⟩)
        refine awp_cond rfl (fun hc2 => ?_) (fun hc2 => ?_)
        -- cond 2
        · rw [hd] at hc2; cases hc2
        · skip
          refine awp_skip ?_
          refine awp_seq ?_
          refine awp_region ?_
          refine al_d rfl rfl rfl (by exact opd_move rfl rfl) ?_
          refine al_d rfl rfl rfl (by exact opd_move rfl rfl) ?_
          refine al_d rfl rfl rfl (by exact (by exact x_index_pad rfl so22 rfl rfl (by omega) (by exact Int.toNat_natCast _) hi1 rfl)) ?_
          refine al_d rfl rfl rfl (by exact (by exact opd_field_pad rfl fo46_0 rfl rfl)) ?_
          refine al_d rfl rfl rfl (by exact (by exact opd_load1_pad rfl Try.isAgg9 rfl hi1 rfl)) ?_
          refine al_d rfl rfl rfl (by exact opd_move rfl rfl) ?_
          refine al_d rfl rfl rfl (by exact opd_sneq rfl rfl rfl) ?_
          refine al_nil ?_
          refine awp_cond rfl (fun hc3 => ?_) (fun hc3 => ?_)
          -- cond 3
          · rw [hc3, if_pos rfl] at hsn
            refine awp_region ?_
            refine al_d rfl rfl rfl (by exact opd_move rfl rfl) ?_
            refine al_d rfl rfl rfl (by exact opd_move rfl rfl) ?_
            refine al_d rfl rfl rfl (by exact opd_move rfl rfl) ?_
            refine al_d rfl rfl rfl (by exact (by exact x_index_pad rfl so22 rfl rfl (by omega) (by exact Int.toNat_natCast _) hi1 rfl)) ?_
            refine al_d rfl rfl rfl (by exact (by exact opd_loadn_pad rfl Try.isAgg46 Try.sizeOf46 rfl hi1 (by simp only [List.drop_succ_cons, List.drop_zero, List.take_succ_cons, List.take_zero, List.take_nil, List.map_cons, List.map_nil, List.set_cons_zero, List.set_cons_succ, List.cons_append, List.nil_append, encTag, encStr]; rfl) rfl)) ?_
            refine al_d rfl rfl rfl (by exact (by exact x_buildSlice [encTag t] rfl so22 rfl rfl rfl rfl rfl (by simp [encTag]))) ?_
            refine al_d rfl rfl rfl (by exact (by exact x_append rfl so22 ei46 rfl rfl rfl rfl rfl (List.length_map _) rfl (by simp [encTag]) (rfl : _ = 1) (by omega) (len_snoc out t) (List.map_append (l₂ := [t])).symm)) ?_
            refine al_d rfl rfl rfl (by exact opd_assign rfl rfl) ?_
            refine al_nil ?_
            refine awp_region ?_
            refine al_d rfl rfl rfl (by exact opd_move rfl rfl) ?_
            refine al_d rfl rfl rfl (by exact opd_add rfl rfl rfl (by exact w64 (by omega) (by omega))) ?_
            refine al_d rfl rfl rfl (by exact opd_assign rfl rfl) ?_
            refine al_nil ?_
            -- end of a round
            refine ⟨i + 1, g + 1, by omega, by omega, ?_⟩
            rw [hsn]
            exact (Ent.wk ⟨⟨_, rfl, rfl⟩, (by (simp; done)), ⟨_, rfl, rfl⟩, (by (simp; done)), ⟨_, rfl, rfl⟩, (by (simp; done)), ⟨_, rfl, rfl⟩, (by (simp; rfl)), ⟨_, rfl, rfl⟩, (by (simp; done)), ⟨_, rfl, rfl⟩, (by (simp; done)), trivial⟩ ⟨⟨_, rfl, rfl⟩, (by exact clo_map _ _ _), trivial⟩ trivial)
          · rw [hc3, if_neg (by simp)] at hsn
            refine awp_skip ?_
            refine awp_region ?_
            refine al_d rfl rfl rfl (by exact opd_move rfl rfl) ?_
            refine al_d rfl rfl rfl (by exact opd_add rfl rfl rfl (by exact w64 (by omega) (by omega))) ?_
            refine al_d rfl rfl rfl (by exact opd_assign rfl rfl) ?_
            refine al_nil ?_
            -- end of a round
            refine ⟨i + 1, g, by omega, by omega, ?_⟩
            rw [hsn]
            exact (Ent.wk ⟨⟨_, rfl, rfl⟩, (by (simp; done)), ⟨_, rfl, rfl⟩, (by (simp; done)), ⟨_, rfl, rfl⟩, (by (simp; done)), ⟨_, rfl, rfl⟩, (by (simp; rfl)), ⟨_, rfl, rfl⟩, (by (simp; done)), ⟨_, rfl, rfl⟩, (by (simp; done)), trivial⟩ ⟨⟨_, rfl, rfl⟩, (by (simp; done)), trivial⟩ trivial)
      · simp only [hd, if_true] at hsn
        have hdd : (done || !slt t.key key) = true := by
          rw [Bool.and_eq_true] at hd
          rw [hd.2, Bool.or_true]
        rw [hdd] at hsn
        have hol : (out ++ [(⟨key, val⟩ : GTag)]).length = out.length + 1 := by simp
        refine awp_skip ?_
        refine awp_seq ?_
        refine awp_block ?_
        refine awp_seq ?_
        refine awp_seq ?_
        refine awp_bool (t := 28) (n := 12) (X := !done && !slt t.key key) ?_ ?_
        · all_goals (refine al_d rfl rfl rfl (by exact opd_move rfl rfl) ?_)
          all_goals (refine al_d rfl rfl rfl (by exact opd_not rfl rfl) ?_)
          all_goals (refine al_d rfl rfl rfl (by exact opd_move rfl rfl) ?_)
          all_goals (refine al_split (t := 20) rfl (fun h20 => ?_) (fun h20 => ?_))
          all_goals (try contradiction)
          all_goals (first | refine al_off rfl rfl rfl rfl rfl ?_ | refine al_ond rfl rfl rfl rfl rfl rfl (by exact opd_move rfl rfl) ?_)
          all_goals (first | refine al_off rfl rfl rfl rfl rfl ?_ | refine al_ond rfl rfl rfl rfl rfl rfl (by exact opd_move rfl rfl) ?_)
          all_goals (first | refine al_off rfl rfl rfl rfl rfl ?_ | refine al_ond rfl rfl rfl rfl rfl rfl (by exact (by exact x_index_pad rfl so22 rfl rfl (by omega) (by exact Int.toNat_natCast _) hi1 rfl)) ?_)
          all_goals (first | refine al_off rfl rfl rfl rfl rfl ?_ | refine al_ond rfl rfl rfl rfl rfl rfl (by exact (by exact opd_field_pad rfl fo46_0 rfl rfl)) ?_)
          all_goals (first | refine al_off rfl rfl rfl rfl rfl ?_ | refine al_ond rfl rfl rfl rfl rfl rfl (by exact (by exact opd_load1_pad rfl Try.isAgg9 rfl hi1 rfl)) ?_)
          all_goals (first | refine al_off rfl rfl rfl rfl rfl ?_ | refine al_ond rfl rfl rfl rfl rfl rfl (by exact opd_move rfl rfl) ?_)
          all_goals (first | refine al_off rfl rfl rfl rfl rfl ?_ | refine al_ond rfl rfl rfl rfl rfl rfl (by exact opd_sgeq rfl rfl rfl) ?_)
          all_goals (refine al_d rfl rfl rfl (by exact (by first | exact opd_pick_t rfl rfl rfl | exact opd_pick_f rfl rfl rfl)) ?_)
          all_goals (refine al_nil ?_)
          all_goals (exact ⟨⟨_, rfl, by (simp only [*, Bool.false_and, Bool.true_and, Bool.and_false, Bool.and_true, Bool.true_or, Bool.false_or, Bool.or_true, Bool.or_false, Bool.not_true, Bool.not_false]; done)⟩, rfl, rfl, rfl⟩)
        refine awp_cond rfl (fun hc4 => ?_) (fun hc4 => ?_)
        -- cond 4
        · skip
          refine awp_seq ?_
          refine awp_region ?_
          refine al_d rfl rfl rfl (by exact opd_move rfl rfl) ?_
          refine al_d rfl rfl rfl (by exact opd_move rfl rfl) ?_
          refine al_d rfl rfl rfl (by exact opd_move rfl rfl) ?_
          refine al_d rfl rfl rfl (by exact x_build rfl bo46 rfl rfl) ?_
          refine al_d rfl rfl rfl (by exact (by exact x_buildSlice [encTag ⟨key, val⟩] rfl so22 rfl rfl rfl rfl rfl (by simp [encTag]))) ?_
          refine al_d rfl rfl rfl (by exact (by exact x_append rfl so22 ei46 rfl rfl rfl rfl rfl (List.length_map _) rfl (by simp [encTag]) (rfl : _ = 1) (by omega) (len_snoc out (⟨key, val⟩ : GTag)) (List.map_append (l₂ := [(⟨key, val⟩ : GTag)])).symm)) ?_
          refine al_d rfl rfl rfl (by exact opd_assign rfl rfl) ?_
          refine al_nil ?_
          refine awp_region ?_
          refine al_d rfl rfl rfl (by exact opd_assign rfl rfl) ?_
          refine al_nil ?_
          refine awp_seq ?_
          refine awp_region ?_
          refine al_d rfl rfl rfl (by exact opd_move rfl rfl) ?_
          refine al_d rfl rfl rfl (by exact opd_move rfl rfl) ?_
          refine al_d rfl rfl rfl (by exact (by exact x_index_pad rfl so22 rfl rfl (by omega) (by exact Int.toNat_natCast _) hi1 rfl)) ?_
          refine al_d rfl rfl rfl (by exact (by exact opd_field_pad rfl fo46_0 rfl rfl)) ?_
          refine al_d rfl rfl rfl (by exact (by exact opd_load1_pad rfl Try.isAgg9 rfl hi1 rfl)) ?_
          refine al_d rfl rfl rfl (by exact opd_move rfl rfl) ?_
          refine al_d rfl rfl rfl (by exact opd_sneq rfl rfl rfl) ?_
          refine al_nil ?_
          refine awp_cond rfl (fun hc5 => ?_) (fun hc5 => ?_)
          -- cond 5
          · rw [hc5, if_pos rfl] at hsn
            refine awp_region ?_
            refine al_d rfl rfl rfl (by exact opd_move rfl rfl) ?_
            refine al_d rfl rfl rfl (by exact opd_move rfl rfl) ?_
            refine al_d rfl rfl rfl (by exact opd_move rfl rfl) ?_
            refine al_d rfl rfl rfl (by exact (by exact x_index_pad rfl so22 rfl rfl (by omega) (by exact Int.toNat_natCast _) hi1 rfl)) ?_
            refine al_d rfl rfl rfl (by exact (by exact opd_loadn_pad rfl Try.isAgg46 Try.sizeOf46 rfl hi1 (by simp only [List.drop_succ_cons, List.drop_zero, List.take_succ_cons, List.take_zero, List.take_nil, List.map_cons, List.map_nil, List.set_cons_zero, List.set_cons_succ, List.cons_append, List.nil_append, encTag, encStr]; rfl) rfl)) ?_
            refine al_d rfl rfl rfl (by exact (by exact x_buildSlice [encTag t] rfl so22 rfl rfl rfl rfl rfl (by simp [encTag]))) ?_
            refine al_d rfl rfl rfl (by exact (by exact x_append rfl so22 ei46 rfl rfl rfl rfl rfl (List.length_map _) rfl (by simp [encTag]) (rfl : _ = 1) (by omega) (len_snoc (out ++ [(⟨key, val⟩ : GTag)]) t) (List.map_append (l₂ := [t])).symm)) ?_
            refine al_d rfl rfl rfl (by exact opd_assign rfl rfl) ?_
            refine al_nil ?_
            refine awp_region ?_
            refine al_d rfl rfl rfl (by exact opd_move rfl rfl) ?_
            refine al_d rfl rfl rfl (by exact opd_add rfl rfl rfl (by exact w64 (by omega) (by omega))) ?_
            refine al_d rfl rfl rfl (by exact opd_assign rfl rfl) ?_
            refine al_nil ?_
            -- end of a round
            refine ⟨i + 1, g + 2, by omega, by omega, ?_⟩
            rw [hsn]
            exact (Ent.wk ⟨⟨_, rfl, rfl⟩, (by (simp; done)), ⟨_, rfl, rfl⟩, (by (simp; done)), ⟨_, rfl, rfl⟩, (by (simp; done)), ⟨_, rfl, rfl⟩, (by (simp; rfl)), ⟨_, rfl, rfl⟩, (by (simp; done)), ⟨_, rfl, rfl⟩, (by (simp; done)), trivial⟩ ⟨⟨_, rfl, rfl⟩, (by exact clo_map _ _ _), trivial⟩ trivial)
          · rw [hc5, if_neg (by simp)] at hsn
            refine awp_skip ?_
            refine awp_region ?_
            refine al_d rfl rfl rfl (by exact opd_move rfl rfl) ?_
            refine al_d rfl rfl rfl (by exact opd_add rfl rfl rfl (by exact w64 (by omega) (by omega))) ?_
            refine al_d rfl rfl rfl (by exact opd_assign rfl rfl) ?_
            refine al_nil ?_
            -- end of a round
            refine ⟨i + 1, g + 1, by omega, by omega, ?_⟩
            rw [hsn]
            exact (Ent.wk ⟨⟨_, rfl, rfl⟩, (by (simp; done)), ⟨_, rfl, rfl⟩, (by (simp; done)), ⟨_, rfl, rfl⟩, (by (simp; done)), ⟨_, rfl, rfl⟩, (by (simp; rfl)), ⟨_, rfl, rfl⟩, (by (simp; done)), ⟨_, rfl, rfl⟩, (by (simp; done)), trivial⟩ ⟨⟨_, rfl, rfl⟩, (by exact clo_map _ _ _), trivial⟩ trivial)
        · skip
          (rw [hd] at hc4; cases hc4)
    · have hge : i = l.length := by have := of_decide_eq_false hc1; omega
      subst hge
      rw [List.take_length] at hfl ⊢
      have hr : rPut09 l key val = if (pFold l key val).2 then (pFold l key val).1 else (pFold l key val).1 ++ [⟨key, val⟩] := rfl
      obtain ⟨s, hs⟩ : ∃ s, s = pFold l key val := ⟨_, rfl⟩
      rw [← hs] at hfl hr ⊢
      obtain ⟨out, done⟩ := s
      simp only at hfl hr
      dsimp only
      rw [hr]
      refine awp_exit ?_
      refine awp_seq ?_
      refine awp_seq ?_
      refine awp_region ?_
      refine al_d rfl rfl rfl (by exact opd_move rfl rfl) ?_
      refine al_d rfl rfl rfl (by exact opd_not rfl rfl) ?_
      refine al_nil ?_
      refine awp_cond rfl (fun hc6 => ?_) (fun hc6 => ?_)
      -- cond 6
      · have hdn : done = false := by
          have h := hc6
          simpa using h
        rw [hdn, if_neg (by decide)]
        refine awp_region ?_
        refine al_d rfl rfl rfl (by exact opd_move rfl rfl) ?_
        refine al_d rfl rfl rfl (by exact opd_move rfl rfl) ?_
        refine al_d rfl rfl rfl (by exact opd_move rfl rfl) ?_
        refine al_d rfl rfl rfl (by exact x_build rfl bo46 rfl rfl) ?_
        refine al_d rfl rfl rfl (by exact (by exact x_buildSlice [encTag ⟨key, val⟩] rfl so22 rfl rfl rfl rfl rfl (by simp [encTag]))) ?_
        refine al_d rfl rfl rfl (by exact (by exact x_append rfl so22 ei46 rfl rfl rfl rfl rfl (List.length_map _) rfl (by simp [encTag]) (rfl : _ = 1) (by omega) (len_snoc out (⟨key, val⟩ : GTag)) (List.map_append (l₂ := [(⟨key, val⟩ : GTag)])).symm)) ?_
        refine al_d rfl rfl rfl (by exact opd_assign rfl rfl) ?_
        refine al_nil ?_
        refine awp_seq ?_
        refine awp_region ?_
        refine al_d rfl rfl rfl (by exact opd_move rfl rfl) ?_
        refine al_d rfl rfl rfl (by exact opd_assign rfl rfl) ?_
        refine al_nil ?_
        refine awp_ret ?_
        -- return
        refine aret1 (H' := []) (by exact .inr rfl) rfl (rval_tmp rfl) (Fin.tagsO (id := 7) (out ++ [⟨key, val⟩]) rfl rfl rfl rfl) ?_
        exact ⟨rfl, rfl⟩
      · have hdn : done = true := by
          have h := hc6
          simpa using h
        rw [hdn, if_pos rfl]
        refine awp_skip ?_
        refine awp_seq ?_
        refine awp_region ?_
        refine al_d rfl rfl rfl (by exact opd_move rfl rfl) ?_
        refine al_d rfl rfl rfl (by exact opd_assign rfl rfl) ?_
        refine al_nil ?_
        refine awp_ret ?_
        -- return
        refine aret1 (H' := []) (by exact .inr rfl) rfl (rval_tmp rfl) (Fin.tagsO (id := 7) out rfl rfl rfl rfl) ?_
        exact ⟨rfl, rfl⟩
def rSet09 (l : List GTag) (key val : ByteArray) : List GTag × Int :=
  if !gTags l || !gName key || decide (200 < (val.size : Int)) then ([], 1) else if decide (60 < ((rPut09 l key val).length : Int)) then ([], 2) else (rPut09 l key val, 0)
theorem rSet09_c (l : List GTag) (key val : ByteArray) (H : Heap) (hl : okTags l) (hl2 : l.length < 274877906944) (hk : key.size < 4611686018427387904) :
    ACalls Try.prog 12 [.pv (slTags l), sv key, sv val] H (fun r H' => r = .tup [.pv (slTags (rSet09 l key val).1), iv (rSet09 l key val).2] ∧ H' = H) := by
  refine ACalls.pure ?_ (by simp) H
  have hpl : ((rPut09 l key val).map encTag).length = (rPut09 l key val).length := List.length_map _
  unfold rSet09
  refine ACalls.body Try.func12 rfl Try.ntmps12 (Nat.le_of_ble_eq_true rfl) ?_
  refine awp_seq ?_
  refine awp_region ?_
  refine al_d rfl rfl rfl (by exact opd_assign rfl rfl) ?_
  refine al_d rfl rfl rfl (by exact opd_assign rfl rfl) ?_
  refine al_nil ?_
  refine awp_seq ?_
  refine awp_seq ?_
  refine awp_bool (t := 21) (n := 15) (X := !gTags l || !gName key || decide (200 < (val.size : Int))) ?_ ?_
  · all_goals (refine al_d rfl rfl rfl (by exact opd_move rfl rfl) ?_)
    all_goals (refine al_d rfl rfl rfl (by exact opr_call rfl rfl Try.call24 rfl (rValid09_c l _ hl)) ?_)
    all_goals (refine al_d rfl rfl rfl (by exact opd_not rfl rfl) ?_)
    all_goals (refine al_d rfl rfl rfl (by exact opd_move rfl rfl) ?_)
    all_goals (refine al_split (t := 12) rfl (fun h12 => ?_) (fun h12 => ?_))
    all_goals (try contradiction)
    all_goals (first | refine al_off rfl rfl rfl rfl rfl ?_ | refine al_ond rfl rfl rfl rfl rfl rfl (by exact opd_move rfl rfl) ?_)
    all_goals (first | refine al_off rfl rfl rfl rfl rfl ?_ | refine al_ond rfl rfl rfl rfl rfl rfl (by exact opr_call rfl rfl Try.call33 rfl (rName_c key _ hk)) ?_)
    all_goals (first | refine al_off rfl rfl rfl rfl rfl ?_ | refine al_ond rfl rfl rfl rfl rfl rfl (by exact opd_not rfl rfl) ?_)
    all_goals (refine al_d rfl rfl rfl (by exact (by first | exact opd_pick_t rfl rfl rfl | exact opd_pick_f rfl rfl rfl)) ?_)
    all_goals (refine al_d rfl rfl rfl (by exact opd_move rfl rfl) ?_)
    all_goals (refine al_split (t := 17) rfl (fun h17 => ?_) (fun h17 => ?_))
    all_goals (try contradiction)
    all_goals (first | refine al_off rfl rfl rfl rfl rfl ?_ | refine al_ond rfl rfl rfl rfl rfl rfl (by exact opd_move rfl rfl) ?_)
    all_goals (first | refine al_off rfl rfl rfl rfl rfl ?_ | refine al_ond rfl rfl rfl rfl rfl rfl (by exact opd_len_str rfl Try.underlying9 rfl) ?_)
    all_goals (first | refine al_off rfl rfl rfl rfl rfl ?_ | refine al_ond rfl rfl rfl rfl rfl rfl (by exact opd_gtr rfl rfl rfl) ?_)
    all_goals (refine al_d rfl rfl rfl (by exact (by first | exact opd_pick_t rfl rfl rfl | exact opd_pick_f rfl rfl rfl)) ?_)
    all_goals (refine al_nil ?_)
    all_goals (exact ⟨⟨_, rfl, by (simp only [*, Bool.false_and, Bool.true_and, Bool.and_false, Bool.and_true, Bool.true_or, Bool.false_or, Bool.or_true, Bool.or_false, Bool.not_true, Bool.not_false]; done)⟩, rfl, rfl, rfl⟩)
  refine awp_cond rfl (fun hc1 => ?_) (fun hc1 => ?_)
  -- cond 1
  · rw [if_pos hc1]
    refine awp_seq ?_
    refine awp_region ?_
    refine al_d rfl rfl rfl (by exact opd_assign rfl rfl) ?_
    refine al_d rfl rfl rfl (by exact opd_assign rfl rfl) ?_
    refine al_nil ?_
    refine awp_ret ?_
    -- return
    refine aret2 (H' := []) (by exact .inr rfl) rfl (rval_tmp rfl) (rval_tmp rfl) (Fin.wk (by simp) trivial trivial) ?_
    exact ⟨rfl, rfl⟩
  · rw [if_neg (by rw [hc1]; decide)]
    refine awp_skip ?_
    refine awp_seq ?_
    refine awp_region ?_
    refine al_d rfl rfl rfl (by exact opd_move rfl rfl) ?_
    refine al_d rfl rfl rfl (by exact opd_move rfl rfl) ?_
    refine al_d rfl rfl rfl (by exact opd_move rfl rfl) ?_
    refine al_d rfl rfl rfl (by exact opr_call rfl rfl Try.call34 rfl (rPut09_c l key val _ hl2)) ?_
    refine al_d rfl rfl rfl (by exact opd_assign rfl rfl) ?_
    refine al_nil ?_
    refine awp_seq ?_
    refine awp_seq ?_
    refine awp_region ?_
    refine al_d rfl rfl rfl (by exact opd_move rfl rfl) ?_
    refine al_d rfl rfl rfl (by exact (by exact opd_len_sl rfl Try.underlying22 rfl)) ?_
    refine al_d rfl rfl rfl (by exact opd_gtr rfl rfl rfl) ?_
    refine al_nil ?_
    refine awp_cond rfl (fun hc2 => ?_) (fun hc2 => ?_)
    -- cond 2
    · have h := hc2
      rw [hpl] at h
      rw [if_pos h]
      refine awp_seq ?_
      refine awp_region ?_
      refine al_d rfl rfl rfl (by exact opd_assign rfl rfl) ?_
      refine al_d rfl rfl rfl (by exact opd_assign rfl rfl) ?_
      refine al_nil ?_
      refine awp_ret ?_
      -- return
      refine aret2 (H' := []) (by exact .inr rfl) rfl (rval_tmp rfl) (rval_tmp rfl) (Fin.wk (by simp) trivial trivial) ?_
      exact ⟨rfl, rfl⟩
    · have h := hc2
      rw [hpl] at h
      rw [if_neg (by rw [h]; decide)]
      refine awp_skip ?_
      refine awp_seq ?_
      refine awp_region ?_
      refine al_d rfl rfl rfl (by exact opd_move rfl rfl) ?_
      refine al_d rfl rfl rfl (by exact opd_assign rfl rfl) ?_
      refine al_d rfl rfl rfl (by exact opd_assign rfl rfl) ?_
      refine al_nil ?_
      refine awp_ret ?_
      -- return
      refine aret2 (H' := []) (by exact .inr rfl) rfl (rval_tmp rfl) (rval_tmp rfl) (Fin.wk (by simp) trivial trivial) ?_
      exact ⟨rfl, rfl⟩
/-! ### The same as the program's -/
theorem pf_low {key val : ByteArray} : ∀ {l : List GTag} {out : List GTag} {d : Bool}, (∀ t, t ∈ l → slt t.key key = true) → l.foldl (pStep key val) (out, d) = (out ++ l, d)
  | [], out, d, _ => by simp
  | t :: l, out, d, h => by
    have h1 := h t List.mem_cons_self
    have h2 : ¬ t.key = key := fun e => by rw [e, slt_irr] at h1; cases h1
    have hs : pStep key val (out, d) t = (out ++ [t], d) := by
      unfold pStep
      rw [decide_eq_false h2, h1]
      simp
    rw [List.foldl_cons, hs, pf_low fun x hx => h x (List.mem_cons_of_mem _ hx), List.append_assoc]
    rfl
theorem pf_done {key val : ByteArray} : ∀ {l : List GTag} {out : List GTag}, (∀ t, t ∈ l → t.key ≠ key) → l.foldl (pStep key val) (out, true) = (out ++ l, true)
  | [], out, _ => by simp
  | t :: l, out, h => by
    have hs : pStep key val (out, true) t = (out ++ [t], true) := by
      unfold pStep
      rw [decide_eq_false (h t List.mem_cons_self)]
      simp
    rw [List.foldl_cons, hs, pf_done fun x hx => h x (List.mem_cons_of_mem _ hx), List.append_assoc]
    rfl
theorem pf_first {key val : ByteArray} {t : GTag} {out : List GTag} {d : Bool} (h1 : slt t.key key = false) :
    pStep key val (out, d) t = ((if d then out else out ++ [⟨key, val⟩]) ++ (if t.key = key then [] else [t]), true) := by
  unfold pStep
  rw [h1]
  by_cases e : t.key = key
  · rw [decide_eq_true e, if_pos e]; cases d <;> simp
  · rw [decide_eq_false e, if_neg e]; cases d <;> simp
theorem put09_eq {l : List GTag} {key val : ByteArray} (ha : asc GTag.key l) :
    rPut09 l key val = if hasK GTag.key l key = true then (if val = sNil then l.take (lbI GTag.key l key) ++ l.drop (lbI GTag.key l key + 1) else l.set (lbI GTag.key l key) ⟨key, val⟩) else if val = sNil then l else l.take (lbI GTag.key l key) ++ ⟨key, val⟩ :: l.drop (lbI GTag.key l key) := by
  obtain ⟨n, hn⟩ : ∃ n, n = lbI GTag.key l key := ⟨_, rfl⟩
  have hle : n ≤ l.length := by rw [hn]; exact lbI_le _ _ _
  have hlow : ∀ t, t ∈ l.take n → slt t.key key = true := fun t ht => by
    obtain ⟨j, hj⟩ := List.mem_iff_getElem?.1 ht
    rw [List.getElem?_take] at hj
    split at hj
    · next hjn => exact lbI_lt (by rw [← hn]; exact hjn) hj
    · cases hj
  have hhigh : ∀ (j : Nat) (t : GTag), (l.drop n)[j]? = some t → slt t.key key = false := fun j t hj => by
    rw [List.getElem?_drop] at hj
    exact lbI_ge ha (by rw [← hn]; omega) hj
  have hcut : l = l.take n ++ l.drop n := (List.take_append_drop n l).symm
  have hfold : pFold l key val = (l.drop n).foldl (pStep key val) (l.take n, decide (val = sNil)) := by
    unfold pFold
    conv => lhs; rw [hcut]
    rw [List.foldl_append, pf_low hlow]
    rfl
  rw [← hn]
  cases hd : l.drop n with
  | nil =>
    have hK : hasK GTag.key l key = false := by
      cases h : hasK GTag.key l key with
      | false => rfl
      | true =>
        obtain ⟨y, hy, hye⟩ := hasK_get (f := GTag.key) ha h
        rw [← hn] at hy
        have := (List.getElem?_eq_some_iff.1 hy).1
        have h2 := congrArg List.length hd
        rw [List.length_drop, List.length_nil] at h2
        omega
    have htk : l.take n = l := by
      have h2 := congrArg List.length hd
      rw [List.length_drop, List.length_nil] at h2
      exact List.take_of_length_le (by omega)
    rw [hd, htk] at hfold
    rw [hK, if_neg (by decide), rPut09, hfold, htk]
    show (if decide (val = sNil) = true then l else l ++ [⟨key, val⟩]) = _
    by_cases hv : val = sNil
    · rw [if_pos (decide_eq_true hv), if_pos hv]
    · rw [if_neg (by simpa using hv), if_neg hv]
  | cons y r =>
    have hy0 : l[n]? = some y := by
      have : (l.drop n)[0]? = some y := by rw [hd]; rfl
      rwa [List.getElem?_drop, Nat.add_zero] at this
    have hr : l.drop (n + 1) = r := by
      rw [← List.drop_drop, hd]; rfl
    have hys := hhigh 0 y (by rw [hd]; rfl)
    have hrne : ∀ t, t ∈ r → t.key ≠ key := fun t ht e => by
      obtain ⟨j, hj⟩ := List.mem_iff_getElem?.1 ht
      have h1 : l[n + 1 + j]? = some t := by rw [← hr, List.getElem?_drop] at hj; exact hj
      have h2 := asc_get (f := GTag.key) ha (by omega : n < n + 1 + j) hy0 h1
      rw [e, hys] at h2
      cases h2
    rw [hd, List.foldl_cons, pf_first hys, pf_done hrne] at hfold
    rw [rPut09, hfold]
    show (if true = true then ((if decide (val = sNil) = true then l.take n else l.take n ++ [⟨key, val⟩]) ++ (if y.key = key then [] else [y])) ++ r else _) = _
    rw [if_pos rfl]
    have hset : ∀ z, l.set n z = l.take n ++ z :: r := fun z => by rw [set_cut hy0, hr]
    have hdr : l.drop n = y :: r := hd
    by_cases hk : hasK GTag.key l key = true
    · rw [if_pos hk]
      obtain ⟨z, hz, hze⟩ := hasK_get (f := GTag.key) ha hk
      rw [← hn, hy0] at hz
      cases hz
      rw [if_pos hze, hr, hset]
      by_cases hv : val = sNil
      · rw [if_pos (decide_eq_true hv), if_pos hv]; simp
      · rw [if_neg (by simpa using hv), if_neg hv]; simp
    · rw [if_neg hk]
      have hyk : ¬ y.key = key := fun e => hk (List.any_eq_true.2 ⟨y, List.mem_of_getElem? hy0, decide_eq_true e⟩)
      rw [if_neg hyk]
      by_cases hv : val = sNil
      · rw [if_pos (decide_eq_true hv), if_pos hv]
        conv => rhs; rw [hcut, hdr]
        simp
      · rw [if_neg (by simpa using hv), if_neg hv]; simp
theorem set09_eq (l : List GTag) (key val : ByteArray) : rSet09 l key val = gSet l key val := by
  unfold rSet09 gSet
  by_cases h1 : (!gTags l || !gName key || decide (200 < (val.size : Int))) = true
  · rw [if_pos h1, if_pos h1]
  · rw [if_neg h1, if_neg h1]
    have h1' := h1
    simp only [Bool.or_eq_true, not_or, Bool.not_eq_true', Bool.not_eq_false, decide_eq_true_eq] at h1'
    obtain ⟨⟨hg, _⟩, _⟩ := h1'
    obtain ⟨_, g2, g3⟩ := gTags_iff.1 hg
    rw [put09_eq g2]
    have hle := lbI_le GTag.key l key
    by_cases hk : hasK GTag.key l key = true
    · rw [if_pos hk, if_pos hk]
      by_cases hv : val = sNil
      · rw [if_pos hv, if_pos hv, if_neg]
        rw [decide_eq_true_eq, List.length_append, List.length_take, List.length_drop]
        omega
      · rw [if_neg hv, if_neg hv, if_neg]
        rw [decide_eq_true_eq, List.length_set]
        omega
    · rw [if_neg hk, if_neg hk]
      by_cases hv : val = sNil
      · rw [if_pos hv, if_pos hv, if_neg]
        rw [decide_eq_true_eq]
        omega
      · rw [if_neg hv, if_neg hv]
        have hlen : (l.take (lbI GTag.key l key) ++ (⟨key, val⟩ : GTag) :: l.drop (lbI GTag.key l key)).length = l.length + 1 := by
          rw [List.length_append, List.length_cons, List.length_take, List.length_drop]
          omega
        by_cases h60 : l.length = 60
        · rw [if_pos h60, if_pos]
          rw [decide_eq_true_eq, hlen]
          omega
        · rw [if_neg h60, if_neg]
          rw [decide_eq_true_eq, hlen]
          omega
theorem rSet_c (l : List GTag) (key val : ByteArray) (H : Heap) (hl : okTags l) (hl2 : l.length < 274877906944) (hk : key.size < 4611686018427387904) :
    ACalls Try.prog 12 [.pv (slTags l), sv key, sv val] H (fun r H' => r = .tup [.pv (slTags (gSet l key val).1), iv (gSet l key val).2] ∧ H' = H) := by
  rw [← set09_eq]
  exact rSet09_c l key val H hl hl2 hk
end Go.Proofs.Ytedfihgkopejcaa
end
