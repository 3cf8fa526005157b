/-
  PLAIN: a map with an object put in: valid, in order, and the same views. Conditions: none.
  TAGS, plain: tags by their lookups; what tag.Set does to them. Conditions: none.
  THE LAW planispherelaw09.TagSets: it answers true. Conditions: sizes below 2^36.
  WHAT THE ARGUMENTS OF THE LAWS ABOUT TAGS HOLD. Conditions: none.
-/
import Derived.Test.YtedfihgkopejcaaKT1M8
section
set_option linter.unusedVariables false
set_option linter.unusedSimpArgs false
set_option maxRecDepth 100000
namespace Go.Proofs.Ytedfihgkopejcaa
open Go.Abs
theorem lbI_lt {α : Type} {f : α → ByteArray} {l : List α} {s : ByteArray} {k : Nat} {o : α} (hk : k < lbI f l s) (ho : l[k]? = some o) : slt (f o) s = true := by
  unfold lbI at hk
  have := List.not_of_lt_findIdx hk
  obtain ⟨h1, h2⟩ := List.getElem?_eq_some_iff.1 ho
  rw [h2] at this
  simpa using this
theorem lbI_ge {α : Type} {f : α → ByteArray} {l : List α} {s : ByteArray} {k : Nat} {o : α} (ha : asc f l) (hk : lbI f l s ≤ k) (ho : l[k]? = some o) : slt (f o) s = false := by
  obtain ⟨h1, h2⟩ := List.getElem?_eq_some_iff.1 ho
  have hlt : lbI f l s < l.length := by omega
  obtain ⟨x, hx⟩ := get_of_lt hlt
  have h0 : slt (f x) s = false := by
    have hp : (fun o => !slt (f o) s) l[lbI f l s] = true := List.findIdx_getElem (p := fun o => !slt (f o) s) (xs := l) (w := hlt)
    rw [(List.getElem?_eq_some_iff.1 hx).2] at hp
    simpa using hp
  by_cases e : lbI f l s = k
  · subst e
    rw [hx] at ho; cases ho
    exact h0
  · cases h : slt (f o) s with
    | false => rfl
    | true =>
      have := slt_trans (asc_get ha (by omega) hx ho) h
      rw [h0] at this; cases this
theorem asc_ins {α : Type} {f : α → ByteArray} {l : List α} {o : α} (ha : asc f l) (hn : hasK f l (f o) = false) : asc f (l.take (lbI f l (f o)) ++ o :: l.drop (lbI f l (f o))) := by
  have hle := lbI_le f l (f o)
  have hno : ∀ x, x ∈ l → f x ≠ f o := fun x hx e => by
    have : hasK f l (f o) = true := List.any_eq_true.2 ⟨x, hx, decide_eq_true e⟩
    rw [hn] at this; cases this
  have h1 : ∀ x, x ∈ l.take (lbI f l (f o)) → slt (f x) (f o) = true := fun x hx => by
    obtain ⟨k, hk⟩ := List.mem_iff_getElem?.1 hx
    rw [List.getElem?_take] at hk
    split at hk
    · next hlt => exact lbI_lt hlt hk
    · cases hk
  have h2 : ∀ x, x ∈ l.drop (lbI f l (f o)) → slt (f o) (f x) = true := fun x hx => by
    obtain ⟨k, hk⟩ := List.mem_iff_getElem?.1 hx
    rw [List.getElem?_drop] at hk
    have h3 := lbI_ge ha (Nat.le_add_right _ k) hk
    cases h4 : slt (f o) (f x) with
    | true => rfl
    | false => exact absurd (slt_tri h3 h4) (hno x (List.mem_of_getElem? hk))
  rw [asc, List.pairwise_append]
  refine ⟨(List.Pairwise.sublist (List.take_sublist _ _) ha), List.pairwise_cons.2 ⟨h2, List.Pairwise.sublist (List.drop_sublist _ _) ha⟩, fun a hA b hB => ?_⟩
  rcases List.mem_cons.1 hB with rfl | hB
  · exact h1 a hA
  · exact slt_trans (h1 a hA) (h2 b hB)
end Go.Proofs.Ytedfihgkopejcaa
end
section
set_option linter.unusedVariables false
set_option linter.unusedSimpArgs false
namespace Go.Proofs.Ytedfihgkopejcaa
open Go.Abs
def vOf (l : List GTag) (k : ByteArray) : ByteArray := (gGet l k).getD sNil
theorem asc_inj {l : List GTag} (ha : asc GTag.key l) {a b : GTag} (h1 : a ∈ l) (h2 : b ∈ l) (e : a.key = b.key) : a = b := by
  obtain ⟨i, hi⟩ := List.mem_iff_getElem?.1 h1
  obtain ⟨j, hj⟩ := List.mem_iff_getElem?.1 h2
  rcases Nat.lt_trichotomy i j with h | h | h
  · have := asc_get ha h hi hj
    rw [e, slt_irr] at this; cases this
  · subst h
    rw [hi] at hj; exact Option.some.inj hj
  · have := asc_get ha h hj hi
    rw [e, slt_irr] at this; cases this
theorem gGet_mem {l : List GTag} {k v : ByteArray} (h : gGet l k = some v) : (⟨k, v⟩ : GTag) ∈ l := by
  rw [gGet, Option.map_eq_some_iff] at h
  obtain ⟨t, ht, rfl⟩ := h
  have h1 := List.find?_some ht
  have h2 := List.mem_of_find?_eq_some ht
  have e := of_decide_eq_true h1
  obtain ⟨a, b⟩ := t
  subst e
  exact h2
theorem gGet_of {l : List GTag} (ha : asc GTag.key l) {k v : ByteArray} (h : (⟨k, v⟩ : GTag) ∈ l) : gGet l k = some v := by
  cases hf : l.find? (fun t => decide (t.key = k)) with
  | none =>
    have := List.find?_eq_none.1 hf _ h
    simp at this
  | some t =>
    have h0 := List.find?_some hf
    have h1 : t.key = k := of_decide_eq_true h0
    have h2 := List.mem_of_find?_eq_some hf
    have := asc_inj ha h2 h h1
    subst this
    rw [gGet, hf]
    rfl
theorem gGet_iff {l : List GTag} (ha : asc GTag.key l) {k v : ByteArray} : gGet l k = some v ↔ (⟨k, v⟩ : GTag) ∈ l := ⟨gGet_mem, gGet_of ha⟩
theorem gGet_none {l : List GTag} {k : ByteArray} (h : ∀ t, t ∈ l → t.key ≠ k) : gGet l k = none := by
  cases e : gGet l k with
  | none => rfl
  | some v => exact absurd rfl (h _ (gGet_mem e))
theorem opt_ext {a b : Option ByteArray} (h : ∀ v, a = some v ↔ b = some v) : a = b := by
  cases a with
  | none => cases b with
    | none => rfl
    | some v => exact absurd ((h v).2 rfl) (by simp)
  | some v => exact ((h v).1 rfl).symm
theorem asc_nodup {l : List GTag} (ha : asc GTag.key l) : l.Nodup := by
  refine List.Pairwise.imp (fun {a b} h e => ?_) ha
  subst e
  rw [slt_irr] at h; cases h
/-- Tags with the same lookups are the same. -/
theorem tags_ext {a b : List GTag} (ha : asc GTag.key a) (hb : asc GTag.key b) (h : ∀ k, gGet a k = gGet b k) : a = b := by
  have hp : a.Perm b := (List.perm_ext_iff_of_nodup (asc_nodup ha) (asc_nodup hb)).2 fun t => by
    obtain ⟨k, v⟩ := t
    rw [← gGet_iff ha, ← gGet_iff hb, h k]
  refine List.Perm.eq_of_pairwise (fun x y _ _ h3 h4 => ?_) ha hb hp
  have := slt_trans h3 h4
  rw [slt_irr] at this; cases this
theorem cut9 {α : Type} {l : List α} {i : Nat} {x : α} (h : l[i]? = some x) : l = l.take i ++ x :: l.drop (i + 1) := by
  obtain ⟨h1, h2⟩ := List.getElem?_eq_some_iff.1 h
  conv => lhs; rw [← List.take_append_drop i l]
  rw [List.drop_eq_getElem_cons h1, h2]
theorem asc_app {l1 l2 : List GTag} {y : GTag} (h : asc GTag.key (l1 ++ y :: l2)) : (∀ a, a ∈ l1 → slt a.key y.key = true) ∧ (∀ b, b ∈ l2 → slt y.key b.key = true) ∧ asc GTag.key l1 ∧ asc GTag.key l2 ∧ (∀ a, a ∈ l1 → ∀ b, b ∈ l2 → slt a.key b.key = true) := by
  rw [asc, List.pairwise_append] at h
  obtain ⟨h1, h2, h3⟩ := h
  rw [List.pairwise_cons] at h2
  exact ⟨fun a ha => h3 a ha y List.mem_cons_self, h2.1, h1, h2.2, fun a ha b hb => h3 a ha b (List.mem_cons_of_mem _ hb)⟩
theorem asc_mk {l1 l2 : List GTag} {y : GTag} (h1 : asc GTag.key l1) (h2 : asc GTag.key l2) (ha : ∀ a, a ∈ l1 → slt a.key y.key = true) (hb : ∀ b, b ∈ l2 → slt y.key b.key = true) : asc GTag.key (l1 ++ y :: l2) := by
  rw [asc, List.pairwise_append, List.pairwise_cons]
  refine ⟨h1, ⟨hb, h2⟩, fun a h b h' => ?_⟩
  rcases List.mem_cons.1 h' with rfl | h'
  · exact ha a h
  · exact slt_trans (ha a h) (hb b h')
theorem asc_del {l1 l2 : List GTag} {y : GTag} (h : asc GTag.key (l1 ++ y :: l2)) : asc GTag.key (l1 ++ l2) := by
  obtain ⟨_, _, h1, h2, h3⟩ := asc_app h
  exact List.pairwise_append.2 ⟨h1, h2, h3⟩
theorem noK {l : List GTag} {k : ByteArray} (h : hasK GTag.key l k = false) : ∀ t, t ∈ l → t.key ≠ k := fun t ht e => by
  have : hasK GTag.key l k = true := List.any_eq_true.2 ⟨t, ht, decide_eq_true e⟩
  rw [h] at this; cases this
theorem hasK_of_get {l : List GTag} {k v : ByteArray} (h : gGet l k = some v) : hasK GTag.key l k = true := List.any_eq_true.2 ⟨_, gGet_mem h, decide_eq_true rfl⟩
/-- What tag.Set asks for. -/
def canSet (l : List GTag) (key val : ByteArray) : Prop := gTags l = true ∧ gName key = true ∧ val.size ≤ 200 ∧ (hasK GTag.key l key = false → val ≠ sNil → l.length ≠ 60)
theorem gSet_cases (l : List GTag) (key val : ByteArray) :
    (¬ canSet l key val ∧ (gSet l key val).1 = [] ∧ ((gSet l key val).2 = 1 ∨ ((gSet l key val).2 = 2 ∧ l.length = 60))) ∨
    (canSet l key val ∧ (gSet l key val).2 = 0 ∧ gTags (gSet l key val).1 = true ∧ (∀ k, gGet (gSet l key val).1 k = if k = key then (if val = sNil then none else some val) else gGet l k) ∧ (gSet l key val).1.length ≤ l.length + 1 ∧ (hasK GTag.key l key = true → val = sNil → (gSet l key val).1.length + 1 = l.length)) := by
  unfold gSet
  by_cases h1 : (!gTags l || !gName key || decide (200 < (val.size : Int))) = true
  · rw [if_pos h1]
    left
    refine ⟨fun h => ?_, rfl, .inl rfl⟩
    obtain ⟨a, b, c, _⟩ := h
    rw [a, b] at h1
    simp only [Bool.not_true, Bool.false_or, decide_eq_true_eq] at h1
    omega
  · rw [if_neg h1]
    have h1' := h1
    simp only [Bool.or_eq_true, not_or, Bool.not_eq_true', Bool.not_eq_false, decide_eq_true_eq] at h1'
    obtain ⟨⟨hg, hn⟩, hv⟩ := h1'
    have hv2 : val.size ≤ 200 := by omega
    obtain ⟨g1, g2, g3⟩ := gTags_iff.1 hg
    by_cases h2 : hasK GTag.key l key = true
    · rw [if_pos h2]
      right
      obtain ⟨y, hy, hye⟩ := hasK_get (f := GTag.key) g2 h2
      have hcan : canSet l key val := ⟨hg, hn, hv2, fun h => by rw [h2] at h; cases h⟩
      have hlt := (List.getElem?_eq_some_iff.1 hy).1
      have hcut := cut9 hy
      obtain ⟨A, hA⟩ : ∃ A, A = l.take (lbI GTag.key l key) := ⟨_, rfl⟩
      obtain ⟨B, hB⟩ : ∃ B, B = l.drop (lbI GTag.key l key + 1) := ⟨_, rfl⟩
      have hset : l.set (lbI GTag.key l key) ⟨key, val⟩ = A ++ ⟨key, val⟩ :: B := by rw [List.set_eq_take_append_cons_drop, if_pos hlt, hA, hB]
      rw [← hA, ← hB] at hcut
      rw [← hA, ← hB, hset]
      have g2' := g2
      rw [hcut] at g2'
      obtain ⟨p1, p2, p3, p4, p5⟩ := asc_app g2'
      have hlen : l.length = A.length + B.length + 1 := by rw [hcut, List.length_append, List.length_cons]; omega
      have hmem : ∀ t, t ∈ l ↔ t ∈ A ∨ t = y ∨ t ∈ B := fun t => by rw [hcut]; simp
      have hne : ∀ t, t ∈ A ∨ t ∈ B → t.key ≠ key := fun t ht e => by
        rcases ht with h | h
        · have := p1 t h
          rw [e, hye, slt_irr] at this; cases this
        · have := p2 t h
          rw [e, hye, slt_irr] at this; cases this
      by_cases h3 : val = sNil
      · rw [if_pos h3]
        have hasc : asc GTag.key (A ++ B) := asc_del g2'
        refine ⟨hcan, rfl, gTags_iff.2 ⟨fun t ht => g1 t ((hmem t).2 ?_), hasc, by show (A ++ B).length ≤ 60; rw [List.length_append]; omega⟩, fun k => ?_, by show (A ++ B).length ≤ _; rw [List.length_append]; omega, fun _ _ => by show (A ++ B).length + 1 = _; rw [List.length_append]; omega⟩
        · rcases List.mem_append.1 ht with h | h
          · exact .inl h
          · exact .inr (.inr h)
        · show gGet (A ++ B) k = _
          by_cases hk : k = key
          · rw [if_pos hk, if_pos h3]
            exact gGet_none fun t ht => by rw [hk]; exact hne t (List.mem_append.1 ht)
          · rw [if_neg hk]
            refine opt_ext fun v => ?_
            rw [gGet_iff hasc, gGet_iff g2, hmem, List.mem_append]
            constructor
            · rintro (h | h)
              · exact .inl h
              · exact .inr (.inr h)
            · rintro (h | h | h)
              · exact .inl h
              · rw [← h] at hye; exact absurd hye hk
              · exact .inr h
      · rw [if_neg h3]
        have hasc : asc GTag.key (A ++ ⟨key, val⟩ :: B) := asc_mk p3 p4 (fun a ha => by have := p1 a ha; rwa [hye] at this) (fun b hb => by have := p2 b hb; rwa [hye] at this)
        refine ⟨hcan, rfl, gTags_iff.2 ⟨fun t ht => ?_, hasc, by show (A ++ ⟨key, val⟩ :: B).length ≤ 60; rw [List.length_append, List.length_cons]; omega⟩, fun k => ?_, by show (A ++ ⟨key, val⟩ :: B).length ≤ _; rw [List.length_append, List.length_cons]; omega, fun _ h => absurd h h3⟩
        · rcases List.mem_append.1 ht with h | h
          · exact g1 t ((hmem t).2 (.inl h))
          · rcases List.mem_cons.1 h with rfl | h
            · exact ⟨hn, h3, hv2⟩
            · exact g1 t ((hmem t).2 (.inr (.inr h)))
        · show gGet (A ++ ⟨key, val⟩ :: B) k = _
          by_cases hk : k = key
          · rw [if_pos hk, if_neg h3, hk]
            exact gGet_of hasc (by simp)
          · rw [if_neg hk]
            refine opt_ext fun v => ?_
            rw [gGet_iff hasc, gGet_iff g2, hmem, List.mem_append, List.mem_cons]
            constructor
            · rintro (h | h | h)
              · exact .inl h
              · exact absurd (congrArg GTag.key h) hk
              · exact .inr (.inr h)
            · rintro (h | h | h)
              · exact .inl h
              · rw [← h] at hye; exact absurd hye hk
              · exact .inr (.inr h)
    · rw [if_neg h2]
      have h2f : hasK GTag.key l key = false := by simpa using h2
      have hno := noK h2f
      by_cases h3 : val = sNil
      · rw [if_pos h3]
        right
        refine ⟨⟨hg, hn, hv2, fun _ h => absurd h3 h⟩, rfl, hg, fun k => ?_, Nat.le_succ _, fun h => absurd h h2⟩
        by_cases hk : k = key
        · rw [if_pos hk, if_pos h3, hk]
          exact gGet_none hno
        · rw [if_neg hk]
      · rw [if_neg h3]
        by_cases h4 : l.length = 60
        · rw [if_pos h4]
          left
          exact ⟨fun h => h.2.2.2 h2f h3 h4, rfl, .inr ⟨rfl, h4⟩⟩
        · rw [if_neg h4]
          right
          have hasc : asc GTag.key (l.take (lbI GTag.key l key) ++ ⟨key, val⟩ :: l.drop (lbI GTag.key l key)) := asc_ins (f := GTag.key) (o := ⟨key, val⟩) g2 h2f
          have hmem : ∀ t, t ∈ l ↔ t ∈ l.take (lbI GTag.key l key) ∨ t ∈ l.drop (lbI GTag.key l key) := fun t => by
            rw [← List.mem_append, List.take_append_drop]
          have hlen : (l.take (lbI GTag.key l key)).length + (l.drop (lbI GTag.key l key)).length = l.length := by rw [← List.length_append, List.take_append_drop]
          refine ⟨⟨hg, hn, hv2, fun _ _ => h4⟩, rfl, gTags_iff.2 ⟨fun t ht => ?_, hasc, by show (l.take (lbI GTag.key l key) ++ ⟨key, val⟩ :: l.drop (lbI GTag.key l key)).length ≤ 60; rw [List.length_append, List.length_cons]; omega⟩, fun k => ?_, by show (l.take (lbI GTag.key l key) ++ ⟨key, val⟩ :: l.drop (lbI GTag.key l key)).length ≤ _; rw [List.length_append, List.length_cons]; omega, fun h => absurd h h2⟩
          · rcases List.mem_append.1 ht with h | h
            · exact g1 t ((hmem t).2 (.inl h))
            · rcases List.mem_cons.1 h with rfl | h
              · exact ⟨hn, h3, hv2⟩
              · exact g1 t ((hmem t).2 (.inr h))
          · show gGet (l.take (lbI GTag.key l key) ++ ⟨key, val⟩ :: l.drop (lbI GTag.key l key)) k = _
            by_cases hk : k = key
            · rw [if_pos hk, if_neg h3, hk]
              exact gGet_of hasc (by simp)
            · rw [if_neg hk]
              refine opt_ext fun v => ?_
              rw [gGet_iff hasc, gGet_iff g2, hmem, List.mem_append, List.mem_cons]
              constructor
              · rintro (h | h | h)
                · exact .inl h
                · exact absurd (congrArg GTag.key h) hk
                · exact .inr h
              · rintro (h | h)
                · exact .inl h
                · exact .inr (.inr h)
/-- Setting the key to what it was leads back. -/
theorem set_back {l : List GTag} {key val : ByteArray} (h : (gSet l key val).2 = 0) : gSet (gSet l key val).1 key (vOf l key) = (l, 0) := by
  rcases gSet_cases l key val with ⟨_, _, h1 | ⟨h1, _⟩⟩ | ⟨⟨c1, c2, c3, c4⟩, _, h3, h4, h5, h6⟩
  · rw [h1] at h; cases h
  · rw [h1] at h; cases h
  · obtain ⟨g1, g2, g3⟩ := gTags_iff.1 c1
    obtain ⟨x1, x2, x3⟩ := gTags_iff.1 h3
    obtain ⟨x, hx⟩ : ∃ x, x = (gSet l key val).1 := ⟨_, rfl⟩
    rw [← hx] at h3 h4 h5 h6 x1 x2 x3 ⊢
    have hcan : canSet x key (vOf l key) := by
      refine ⟨h3, c2, ?_, fun hh hv => ?_⟩
      · rw [vOf]
        cases hg : gGet l key with
        | none => show sNil.size ≤ 200; decide
        | some v => exact (g1 _ (gGet_mem hg)).2.2
      · rw [vOf] at hv
        cases hg : gGet l key with
        | none => rw [hg] at hv; exact absurd rfl hv
        | some v =>
          have hk := hasK_of_get hg
          by_cases hvn : val = sNil
          · have := h6 hk hvn
            omega
          · have : gGet x key = some val := by rw [h4, if_pos rfl, if_neg hvn]
            rw [hasK_of_get this] at hh; cases hh
    rcases gSet_cases x key (vOf l key) with ⟨hn, _⟩ | ⟨_, k2, k3, k4, _⟩
    · exact absurd hcan hn
    · have : (gSet x key (vOf l key)).1 = l := by
        refine tags_ext (gTags_iff.1 k3).2.1 g2 fun k => ?_
        rw [k4, h4]
        by_cases hk : k = key
        · rw [if_pos hk, hk, vOf]
          cases hg : gGet l key with
          | none => exact if_pos rfl
          | some v => exact if_neg (g1 _ (gGet_mem hg)).2.1
        · rw [if_neg hk, if_neg hk]
      exact Prod.ext this k2
end Go.Proofs.Ytedfihgkopejcaa
end
section
set_option linter.unusedVariables false
set_option linter.unusedSimpArgs false
set_option maxRecDepth 100000
namespace Go.Proofs.Ytedfihgkopejcaa
open Go.Abs
/-- Tags of a moderate size. -/
def szT (l : List GTag) : Prop := okTags l ∧ l.length < 68719476736
theorem gSet_sz {l : List GTag} {key val : ByteArray} (hl : szT l) (hk : key.size < 4611686018427387904) (hv : val.size < 4611686018427387904) : szT (gSet l key val).1 := by
  rcases gSet_cases l key val with ⟨_, h, _⟩ | ⟨_, _, h3, h4, _, _⟩
  · rw [h]
    exact ⟨⟨by show 0 < _; omega, fun t ht => by cases ht⟩, by show 0 < _; omega⟩
  · obtain ⟨x1, x2, x3⟩ := gTags_iff.1 h3
    refine ⟨⟨by omega, fun t ht => ?_⟩, by omega⟩
    obtain ⟨a, b, c⟩ := x1 t ht
    exact ⟨by have := gName_size a; omega, by omega⟩
theorem vOf_size {l : List GTag} (h : okTags l) (k : ByteArray) : (vOf l k).size < 4611686018427387904 := by
  rw [vOf]
  cases hg : gGet l k with
  | none => show 0 < _; omega
  | some v => exact (h.2 _ (gGet_mem hg)).2
theorem get9v {l : List GTag} {k v : ByteArray} {b : Bool} (h : (gGet l k).getD sNil = v) (h2 : (gGet l k).isSome = b) (H : Heap) (hl : l.length < 4611686018427387904) : ACalls Try.prog 19 [.pv (slTags l), sv k] H (fun r H' => r = .tup [sv v, bv b] ∧ H' = H) := by
  have := tagGet_c l k H hl
  rwa [h, h2] at this
theorem tagSets_c (l : List GTag) (key other val : ByteArray) (H : Heap) (hl : szT l) (hk : key.size < 4611686018427387904) (ho : other.size < 4611686018427387904) (hv : val.size < 4611686018427387904) : ACalls Try.prog 5 [.pv (slTags l), sv key, sv other, sv val] H (fun r H' => r = bv true ∧ H' = H) := by
  refine ACalls.pure ?_ (by simp) H
  have hl1 := hl.1
  have hll := hl.2
  have hx := gSet_sz hl hk hv
  refine ACalls.body Try.func5 rfl Try.ntmps5 (Nat.le_of_ble_eq_true rfl) ?_
  refine awp_seq ?_
  refine awp_region ?_
  refine al_d rfl rfl rfl (by exact opd_assign rfl rfl) ?_
  refine al_nil ?_
  refine awp_seq ?_
  refine awp_region ?_
  refine al_d rfl rfl rfl (by exact opr_call rfl rfl Try.call9 rfl (head9_c _)) ?_
  refine al_d rfl rfl rfl (by exact opd_assign rfl rfl) ?_
  refine al_nil ?_
  refine awp_seq ?_
  refine awp_seq ?_
  refine awp_bool (t := 41) (n := 22) (X := !fewAll [l] || decide (300 < (key.size : Int)) || decide (300 < (other.size : Int)) || decide (300 < (val.size : Int))) ?_ ?_
  · all_goals (refine al_d rfl rfl rfl (by exact opd_move rfl rfl) ?_)
    all_goals (refine al_d rfl rfl rfl (by exact (by first | exact x_buildSlice ([l].map encTs) rfl so47 rfl rfl rfl rfl rfl (by intro r hr; simp only [List.map_cons, List.map_nil, List.mem_singleton] at hr; subst hr; rfl) | (apply x_buildSlice (ps := ([l].map encTs)) (hS := so47) <;> first | rfl | exact (by intro r hr; simp only [List.map_cons, List.map_nil, List.mem_singleton] at hr; subst hr; rfl) | simp))) ?_)
    all_goals (refine al_d rfl rfl rfl (by exact opr_call rfl rfl Try.call10 rfl (fewLaw_c [l] _ (by show 1 < _; omega) (by intro a ha; rw [List.mem_singleton] at ha; subst ha; exact hl1))) ?_)
    all_goals (refine al_d rfl rfl rfl (by exact opd_not rfl rfl) ?_)
    all_goals (refine al_d rfl rfl rfl (by exact opd_move rfl rfl) ?_)
    all_goals (first | refine al_split (t := 27) rfl (fun h27 => ?_) (fun h27 => ?_) | refine al_dup (t := 27) rfl ?_ | skip)
    all_goals (try contradiction)
    all_goals (first | refine al_off rfl rfl rfl rfl rfl ?_ | refine al_offu rfl rfl rfl rfl ?_ | refine al_ond rfl rfl rfl rfl rfl rfl (by exact opd_move rfl rfl) ?_)
    all_goals (first | refine al_off rfl rfl rfl rfl rfl ?_ | refine al_offu rfl rfl rfl rfl ?_ | refine al_ond rfl rfl rfl rfl rfl rfl (by exact opd_len_str rfl Try.underlying9 rfl) ?_)
    all_goals (first | refine al_off rfl rfl rfl rfl rfl ?_ | refine al_offu rfl rfl rfl rfl ?_ | refine al_ond rfl rfl rfl rfl rfl rfl (by exact opd_gtr rfl rfl rfl) ?_)
    all_goals (refine al_d rfl rfl rfl (by exact (by first | exact opd_pick_t rfl rfl rfl | exact opd_pick_f rfl rfl rfl | exact opd_pickt rfl rfl (by assumption) rfl | exact opd_pickf rfl rfl (by assumption) rfl | exact opd_pick rfl rfl rfl)) ?_)
    all_goals (refine al_d rfl rfl rfl (by exact opd_move rfl rfl) ?_)
    all_goals (first | refine al_split (t := 32) rfl (fun h32 => ?_) (fun h32 => ?_) | refine al_dup (t := 32) rfl ?_ | skip)
    all_goals (try contradiction)
    all_goals (first | refine al_off rfl rfl rfl rfl rfl ?_ | refine al_offu rfl rfl rfl rfl ?_ | refine al_ond rfl rfl rfl rfl rfl rfl (by exact opd_move rfl rfl) ?_)
    all_goals (first | refine al_off rfl rfl rfl rfl rfl ?_ | refine al_offu rfl rfl rfl rfl ?_ | refine al_ond rfl rfl rfl rfl rfl rfl (by exact opd_len_str rfl Try.underlying9 rfl) ?_)
    all_goals (first | refine al_off rfl rfl rfl rfl rfl ?_ | refine al_offu rfl rfl rfl rfl ?_ | refine al_ond rfl rfl rfl rfl rfl rfl (by exact opd_gtr rfl rfl rfl) ?_)
    all_goals (refine al_d rfl rfl rfl (by exact (by first | exact opd_pick_t rfl rfl rfl | exact opd_pick_f rfl rfl rfl | exact opd_pickt rfl rfl (by assumption) rfl | exact opd_pickf rfl rfl (by assumption) rfl | exact opd_pick rfl rfl rfl)) ?_)
    all_goals (refine al_d rfl rfl rfl (by exact opd_move rfl rfl) ?_)
    all_goals (first | refine al_split (t := 37) rfl (fun h37 => ?_) (fun h37 => ?_) | refine al_dup (t := 37) rfl ?_ | skip)
    all_goals (try contradiction)
    all_goals (first | refine al_off rfl rfl rfl rfl rfl ?_ | refine al_offu rfl rfl rfl rfl ?_ | refine al_ond rfl rfl rfl rfl rfl rfl (by exact opd_move rfl rfl) ?_)
    all_goals (first | refine al_off rfl rfl rfl rfl rfl ?_ | refine al_offu rfl rfl rfl rfl ?_ | refine al_ond rfl rfl rfl rfl rfl rfl (by exact opd_len_str rfl Try.underlying9 rfl) ?_)
    all_goals (first | refine al_off rfl rfl rfl rfl rfl ?_ | refine al_offu rfl rfl rfl rfl ?_ | refine al_ond rfl rfl rfl rfl rfl rfl (by exact opd_gtr rfl rfl rfl) ?_)
    all_goals (refine al_d rfl rfl rfl (by exact (by first | exact opd_pick_t rfl rfl rfl | exact opd_pick_f rfl rfl rfl | exact opd_pickt rfl rfl (by assumption) rfl | exact opd_pickf rfl rfl (by assumption) rfl | exact opd_pick rfl rfl rfl)) ?_)
    all_goals (refine al_nil ?_)
    all_goals (exact ⟨⟨_, rfl, by first | rfl | (simp only [*, Bool.false_and, Bool.true_and, Bool.and_false, Bool.and_true, Bool.true_or, Bool.false_or, Bool.or_true, Bool.or_false, Bool.not_true, Bool.not_false]; done) | (simp_all; done) | (simp_all; omega)⟩, rfl, rfl, rfl⟩)
  refine awp_cond rfl (fun hc1 => ?_) (fun hc1 => ?_)
  -- cond 1
  · skip
    refine awp_seq ?_
    refine awp_region ?_
    refine al_d rfl rfl rfl (by exact opd_move rfl rfl) ?_
    refine al_d rfl rfl rfl (by exact opd_assign rfl rfl) ?_
    refine al_nil ?_
    refine awp_ret ?_
    -- return
    refine aret1 (H' := []) (by first | exact .inr rfl | exact .inl rfl) rfl (rval_tmp rfl) (Fin.wk (by simp) trivial trivial) ?_
    exact ⟨rfl, rfl⟩
  · skip
    rcases gSet_cases l key val with ⟨_, e1, e2 | ⟨e2, e3⟩⟩ | ⟨⟨c1, c2, c3, c4⟩, e2, h3, h4, _, _⟩
    · have hS : gSet l key val = ([], 1) := Prod.ext e1 e2
      refine awp_skip ?_
      refine awp_seq ?_
      refine awp_region ?_
      refine al_d rfl rfl rfl (by exact opd_move rfl rfl) ?_
      refine al_d rfl rfl rfl (by exact opd_move rfl rfl) ?_
      refine al_d rfl rfl rfl (by exact opd_move rfl rfl) ?_
      refine al_d rfl rfl rfl (by exact opr_call rfl rfl Try.call11 rfl (set9_t hS _ hl1 hk hv (by omega))) ?_
      refine al_d rfl rfl rfl (by exact opd_move rfl rfl) ?_
      refine al_d rfl rfl rfl (by exact opd_extract rfl rfl rfl) ?_
      refine al_d rfl rfl rfl (by exact opd_extract rfl rfl rfl) ?_
      refine al_d rfl rfl rfl (by exact opd_assign rfl rfl) ?_
      refine al_d rfl rfl rfl (by exact opd_assign rfl rfl) ?_
      refine al_nil ?_
      refine awp_seq ?_
      refine awp_seq ?_
      refine awp_region ?_
      refine al_d rfl rfl rfl (by exact opd_move rfl rfl) ?_
      refine al_d rfl rfl rfl (by exact opd_neq rfl rfl rfl) ?_
      refine al_nil ?_
      refine awp_cond rfl (fun hc2 => ?_) (fun hc2 => ?_)
      -- cond 2
      · skip
        refine awp_seq ?_
        refine awp_region ?_
        refine al_d rfl rfl rfl (by exact opd_move rfl rfl) ?_
        refine al_d rfl rfl rfl (by exact opd_move rfl rfl) ?_
        refine al_ond rfl rfl rfl (by first | rfl | assumption) rfl rfl (by exact opd_move rfl rfl) ?_
        refine al_ond rfl rfl rfl (by first | rfl | assumption) rfl rfl (by exact (by first | exact opd_len_sl rfl Try.underlying22 rfl | exact opd_len_osl rfl Try.underlying22 rfl rfl rfl)) ?_
        refine al_ond rfl rfl rfl (by first | rfl | assumption) rfl rfl (by exact opd_eql rfl rfl rfl) ?_
        refine al_d rfl rfl rfl (by exact (by first | exact opd_pick_t rfl rfl rfl | exact opd_pick_f rfl rfl rfl | exact opd_pickt rfl rfl (by assumption) rfl | exact opd_pickf rfl rfl (by assumption) rfl | exact opd_pick rfl rfl rfl)) ?_
        refine al_d rfl rfl rfl (by exact opd_move rfl rfl) ?_
        refine al_ond rfl rfl rfl (by first | rfl | assumption) rfl rfl (by exact opd_move rfl rfl) ?_
        refine al_ond rfl rfl rfl (by first | rfl | assumption) rfl rfl (by exact opd_eql rfl rfl rfl) ?_
        refine al_ond rfl rfl rfl (by first | rfl | assumption) rfl rfl (by exact opd_move rfl rfl) ?_
        refine al_off rfl rfl rfl (by first | rfl | assumption) rfl ?_
        refine al_off rfl rfl rfl (by first | rfl | assumption) rfl ?_
        refine al_off rfl rfl rfl (by first | rfl | assumption) rfl ?_
        refine al_offu rfl rfl rfl rfl ?_
        refine al_offu rfl rfl rfl rfl ?_
        refine al_offu rfl rfl rfl rfl ?_
        refine al_off rfl rfl rfl (by first | rfl | assumption) rfl ?_
        refine al_ond rfl rfl rfl (by first | rfl | assumption) rfl rfl (by exact (by first | exact opd_pick_t rfl rfl rfl | exact opd_pick_f rfl rfl rfl | exact opd_pickt rfl rfl (by assumption) rfl | exact opd_pickf rfl rfl (by assumption) rfl | exact opd_pick rfl rfl rfl)) ?_
        refine al_d rfl rfl rfl (by exact (by first | exact opd_pick_t rfl rfl rfl | exact opd_pick_f rfl rfl rfl | exact opd_pickt rfl rfl (by assumption) rfl | exact opd_pickf rfl rfl (by assumption) rfl | exact opd_pick rfl rfl rfl)) ?_
        refine al_d rfl rfl rfl (by exact opd_assign rfl rfl) ?_
        refine al_nil ?_
        refine awp_ret ?_
        -- return
        refine aret1 (H' := []) (by first | exact .inr rfl | exact .inl rfl) rfl (rval_tmp rfl) (Fin.wk (by simp) trivial trivial) ?_
        exact ⟨rfl, rfl⟩
      · skip
        (first | (cases hc2; done) | (revert hc2; simp; done) | (revert hc2; simp_all; done) | (revert hc2; simp_all; omega))
    · have hS : gSet l key val = ([], 2) := Prod.ext e1 e2
      have h60 : decide (((l.map encTag).length : Int) = 60) = true := by rw [List.length_map, e3]; rfl
      refine awp_skip ?_
      refine awp_seq ?_
      refine awp_region ?_
      refine al_d rfl rfl rfl (by exact opd_move rfl rfl) ?_
      refine al_d rfl rfl rfl (by exact opd_move rfl rfl) ?_
      refine al_d rfl rfl rfl (by exact opd_move rfl rfl) ?_
      refine al_d rfl rfl rfl (by exact opr_call rfl rfl Try.call11 rfl (set9_t hS _ hl1 hk hv (by omega))) ?_
      refine al_d rfl rfl rfl (by exact opd_move rfl rfl) ?_
      refine al_d rfl rfl rfl (by exact opd_extract rfl rfl rfl) ?_
      refine al_d rfl rfl rfl (by exact opd_extract rfl rfl rfl) ?_
      refine al_d rfl rfl rfl (by exact opd_assign rfl rfl) ?_
      refine al_d rfl rfl rfl (by exact opd_assign rfl rfl) ?_
      refine al_nil ?_
      refine awp_seq ?_
      refine awp_seq ?_
      refine awp_region ?_
      refine al_d rfl rfl rfl (by exact opd_move rfl rfl) ?_
      refine al_d rfl rfl rfl (by exact opd_neq rfl rfl rfl) ?_
      refine al_nil ?_
      refine awp_cond rfl (fun hc3 => ?_) (fun hc3 => ?_)
      -- cond 3
      · skip
        refine awp_seq ?_
        refine awp_region ?_
        refine al_d rfl rfl rfl (by exact opd_move rfl rfl) ?_
        refine al_d rfl rfl rfl (by exact opd_move rfl rfl) ?_
        refine al_ond rfl rfl rfl (by first | rfl | assumption) rfl rfl (by exact opd_move rfl rfl) ?_
        refine al_ond rfl rfl rfl (by first | rfl | assumption) rfl rfl (by exact (by first | exact opd_len_sl rfl Try.underlying22 rfl | exact opd_len_osl rfl Try.underlying22 rfl rfl rfl)) ?_
        refine al_ond rfl rfl rfl (by first | rfl | assumption) rfl rfl (by exact opd_eql rfl rfl rfl) ?_
        refine al_d rfl rfl rfl (by exact (by first | exact opd_pick_t rfl rfl rfl | exact opd_pick_f rfl rfl rfl | exact opd_pickt rfl rfl (by assumption) rfl | exact opd_pickf rfl rfl (by assumption) rfl | exact opd_pick rfl rfl rfl)) ?_
        refine al_d rfl rfl rfl (by exact opd_move rfl rfl) ?_
        refine al_ond rfl rfl rfl (by first | rfl | assumption) rfl rfl (by exact opd_move rfl rfl) ?_
        refine al_ond rfl rfl rfl (by first | rfl | assumption) rfl rfl (by exact opd_eql rfl rfl rfl) ?_
        refine al_ond rfl rfl rfl (by first | rfl | assumption) rfl rfl (by exact opd_move rfl rfl) ?_
        refine al_ond rfl rfl rfl (by first | rfl | assumption) rfl rfl (by exact opd_move rfl rfl) ?_
        refine al_ond rfl rfl rfl (by first | rfl | assumption) rfl rfl (by exact opd_eql rfl rfl rfl) ?_
        refine al_ond rfl rfl rfl (by first | rfl | assumption) rfl rfl (by exact opd_move rfl rfl) ?_
        refine al_ond rfl rfl rfl (by first | rfl | assumption) rfl rfl (by exact opd_move rfl rfl) ?_
        refine al_ond rfl rfl rfl (by first | rfl | assumption) rfl rfl (by exact (by first | exact opd_len_sl rfl Try.underlying22 rfl | exact opd_len_osl rfl Try.underlying22 rfl rfl rfl)) ?_
        refine al_ond rfl rfl rfl (by first | rfl | assumption) rfl rfl (by exact opd_eql rfl rfl rfl) ?_
        refine al_ond rfl rfl rfl (by first | rfl | assumption) rfl rfl (by exact (by first | exact opd_pick_t rfl rfl rfl | exact opd_pick_f rfl rfl rfl | exact opd_pickt rfl rfl (by assumption) rfl | exact opd_pickf rfl rfl (by assumption) rfl | exact opd_pick rfl rfl rfl)) ?_
        refine al_ond rfl rfl rfl (by first | rfl | assumption) rfl rfl (by exact (by first | exact opd_pick_t rfl rfl rfl | exact opd_pick_f rfl rfl rfl | exact opd_pickt rfl rfl (by assumption) rfl | exact opd_pickf rfl rfl (by assumption) rfl | exact opd_pick rfl rfl rfl)) ?_
        refine al_d rfl rfl rfl (by exact (by first | exact opd_pick_t rfl rfl rfl | exact opd_pick_f rfl rfl rfl | exact opd_pickt rfl rfl (by assumption) rfl | exact opd_pickf rfl rfl (by assumption) rfl | exact opd_pick rfl rfl rfl)) ?_
        refine al_d rfl rfl rfl (by exact opd_assign rfl rfl) ?_
        refine al_nil ?_
        refine awp_ret ?_
        -- return
        refine aret1 (H' := []) (by first | exact .inr rfl | exact .inl rfl) rfl (rval_tmp rfl) (Fin.wk (by simp) trivial trivial) ?_
        exact ⟨congrArg (fun b => bv b) h60, rfl⟩
      · skip
        (first | (cases hc3; done) | (revert hc3; simp; done) | (revert hc3; simp_all; done) | (revert hc3; simp_all; omega))
    · obtain ⟨x, hxe⟩ : ∃ x, x = (gSet l key val).1 := ⟨_, rfl⟩
      have hS : gSet l key val = (x, 0) := Prod.ext hxe.symm e2
      have hback := set_back e2
      rw [← hxe] at hx h3 h4 hback
      have hxk : gGet x key = if val = sNil then none else some val := by rw [h4, if_pos rfl]
      have hx1 : (gGet x key).getD sNil = val := by
        rw [hxk]
        by_cases h : val = sNil
        · rw [if_pos h, h]; rfl
        · rw [if_neg h]; rfl
      have hx2 : (gGet x key).isSome = !decide (val = ⟨#[]⟩) := by
        rw [hxk]
        by_cases h : val = sNil
        · rw [if_pos h, decide_eq_true h]; rfl
        · rw [if_neg h, decide_eq_false h]; rfl
      have hxo : ¬ key = other → gGet x other = gGet l other := fun h => by rw [h4, if_neg (Ne.symm h)]
      have f1 : (!decide (val = val)) = false := by simp
      have f2 : (!decide ((!decide (val = ⟨#[]⟩)) = !decide (val = ⟨#[]⟩))) = false := by simp
      by_cases hko : key = other
      · have f3 : (!decide (key = other)) = false := by rw [decide_eq_true hko]; rfl
        refine awp_skip ?_
        refine awp_seq ?_
        refine awp_region ?_
        refine al_d rfl rfl rfl (by exact opd_move rfl rfl) ?_
        refine al_d rfl rfl rfl (by exact opd_move rfl rfl) ?_
        refine al_d rfl rfl rfl (by exact opd_move rfl rfl) ?_
        refine al_d rfl rfl rfl (by exact opr_call rfl rfl Try.call11 rfl (set9_t hS _ hl1 hk hv (by omega))) ?_
        refine al_d rfl rfl rfl (by exact opd_move rfl rfl) ?_
        refine al_d rfl rfl rfl (by exact opd_extract rfl rfl rfl) ?_
        refine al_d rfl rfl rfl (by exact opd_extract rfl rfl rfl) ?_
        refine al_d rfl rfl rfl (by exact opd_assign rfl rfl) ?_
        refine al_d rfl rfl rfl (by exact opd_assign rfl rfl) ?_
        refine al_nil ?_
        refine awp_seq ?_
        refine awp_seq ?_
        refine awp_region ?_
        refine al_d rfl rfl rfl (by exact opd_move rfl rfl) ?_
        refine al_d rfl rfl rfl (by exact opd_neq rfl rfl rfl) ?_
        refine al_nil ?_
        refine awp_cond rfl (fun hc4 => ?_) (fun hc4 => ?_)
        -- cond 4
        · skip
          (first | (cases hc4; done) | (revert hc4; simp; done) | (revert hc4; simp_all; done) | (revert hc4; simp_all; omega))
        · skip
          refine awp_skip ?_
          refine awp_seq ?_
          refine awp_region ?_
          refine al_d rfl rfl rfl (by exact opd_move rfl rfl) ?_
          refine al_d rfl rfl rfl (by exact opd_move rfl rfl) ?_
          refine al_d rfl rfl rfl (by exact opr_call rfl rfl Try.call19 rfl (get9v hx1 hx2 _ (by have := hx.2; omega))) ?_
          refine al_d rfl rfl rfl (by exact opd_move rfl rfl) ?_
          refine al_d rfl rfl rfl (by exact opd_extract rfl rfl rfl) ?_
          refine al_d rfl rfl rfl (by exact opd_extract rfl rfl rfl) ?_
          refine al_d rfl rfl rfl (by exact opd_assign rfl rfl) ?_
          refine al_d rfl rfl rfl (by exact opd_assign rfl rfl) ?_
          refine al_nil ?_
          refine awp_seq ?_
          refine awp_region ?_
          refine al_d rfl rfl rfl (by exact opd_move rfl rfl) ?_
          refine al_d rfl rfl rfl (by exact opd_move rfl rfl) ?_
          refine al_d rfl rfl rfl (by exact opr_call rfl rfl Try.call19 rfl (tagGet_c l other _ (by omega))) ?_
          refine al_d rfl rfl rfl (by exact opd_move rfl rfl) ?_
          refine al_d rfl rfl rfl (by exact opd_extract rfl rfl rfl) ?_
          refine al_d rfl rfl rfl (by exact opd_extract rfl rfl rfl) ?_
          refine al_d rfl rfl rfl (by exact opd_assign rfl rfl) ?_
          refine al_d rfl rfl rfl (by exact opd_assign rfl rfl) ?_
          refine al_nil ?_
          refine awp_seq ?_
          refine awp_region ?_
          refine al_d rfl rfl rfl (by exact opd_move rfl rfl) ?_
          refine al_d rfl rfl rfl (by exact opd_move rfl rfl) ?_
          refine al_d rfl rfl rfl (by exact opr_call rfl rfl Try.call19 rfl (tagGet_c x other _ (by have := hx.2; omega))) ?_
          refine al_d rfl rfl rfl (by exact opd_move rfl rfl) ?_
          refine al_d rfl rfl rfl (by exact opd_extract rfl rfl rfl) ?_
          refine al_d rfl rfl rfl (by exact opd_extract rfl rfl rfl) ?_
          refine al_d rfl rfl rfl (by exact opd_assign rfl rfl) ?_
          refine al_d rfl rfl rfl (by exact opd_assign rfl rfl) ?_
          refine al_nil ?_
          refine awp_seq ?_
          refine awp_region ?_
          refine al_d rfl rfl rfl (by exact opd_move rfl rfl) ?_
          refine al_d rfl rfl rfl (by exact opd_move rfl rfl) ?_
          refine al_d rfl rfl rfl (by exact opr_call rfl rfl Try.call19 rfl (tagGet_c l key _ (by omega))) ?_
          refine al_d rfl rfl rfl (by exact opd_move rfl rfl) ?_
          refine al_d rfl rfl rfl (by exact opd_extract rfl rfl rfl) ?_
          refine al_d rfl rfl rfl (by exact opd_extract rfl rfl rfl) ?_
          refine al_d rfl rfl rfl (by exact opd_assign rfl rfl) ?_
          refine al_d rfl rfl rfl (by exact opd_assign rfl rfl) ?_
          refine al_nil ?_
          refine awp_seq ?_
          refine awp_region ?_
          refine al_d rfl rfl rfl (by exact opd_move rfl rfl) ?_
          refine al_d rfl rfl rfl (by exact opd_move rfl rfl) ?_
          refine al_d rfl rfl rfl (by exact opd_move rfl rfl) ?_
          refine al_d rfl rfl rfl (by exact opr_call rfl rfl Try.call11 rfl (set9_t hback _ hx.1 hk (vOf_size hl1 key) (by have := hx.2; omega))) ?_
          refine al_d rfl rfl rfl (by exact opd_move rfl rfl) ?_
          refine al_d rfl rfl rfl (by exact opd_extract rfl rfl rfl) ?_
          refine al_d rfl rfl rfl (by exact opd_extract rfl rfl rfl) ?_
          refine al_d rfl rfl rfl (by exact opd_assign rfl rfl) ?_
          refine al_d rfl rfl rfl (by exact opd_assign rfl rfl) ?_
          refine al_nil ?_
          refine awp_seq ?_
          refine awp_seq ?_
          refine awp_region ?_
          refine al_d rfl rfl rfl (by exact opd_move rfl rfl) ?_
          refine al_d rfl rfl rfl (by exact opr_call rfl rfl Try.call23 rfl (valid9_t c1 _ hl1)) ?_
          refine al_d rfl rfl rfl (by exact opd_not rfl rfl) ?_
          refine al_d rfl rfl rfl (by exact opd_move rfl rfl) ?_
          refine al_ond rfl rfl rfl (by first | rfl | assumption) rfl rfl (by exact opd_move rfl rfl) ?_
          refine al_ond rfl rfl rfl (by first | rfl | assumption) rfl rfl (by exact opr_call rfl rfl Try.call23 rfl (valid9_t h3 _ hx.1)) ?_
          refine al_ond rfl rfl rfl (by first | rfl | assumption) rfl rfl (by exact opd_not rfl rfl) ?_
          refine al_d rfl rfl rfl (by exact (by first | exact opd_pick_t rfl rfl rfl | exact opd_pick_f rfl rfl rfl | exact opd_pickt rfl rfl (by assumption) rfl | exact opd_pickf rfl rfl (by assumption) rfl | exact opd_pick rfl rfl rfl)) ?_
          refine al_d rfl rfl rfl (by exact opd_move rfl rfl) ?_
          refine al_ond rfl rfl rfl (by first | rfl | assumption) rfl rfl (by exact opd_move rfl rfl) ?_
          refine al_ond rfl rfl rfl (by first | rfl | assumption) rfl rfl (by exact opd_move rfl rfl) ?_
          refine al_ond rfl rfl rfl (by first | rfl | assumption) rfl rfl (by exact opd_sneq rfl rfl rfl) ?_
          refine al_d rfl rfl rfl (by exact (by first | exact opd_pick_t rfl rfl rfl | exact opd_pick_f rfl rfl rfl | exact opd_pickt rfl rfl (by assumption) rfl | exact opd_pickf rfl rfl (by assumption) rfl | exact opd_pick rfl rfl rfl)) ?_
          refine al_d rfl rfl rfl (by exact opd_move rfl rfl) ?_
          refine al_ond rfl rfl rfl (by first | rfl | assumption) rfl rfl (by exact opd_move rfl rfl) ?_
          refine al_ond rfl rfl rfl (by first | rfl | assumption) rfl rfl (by exact opd_move rfl rfl) ?_
          refine al_ond rfl rfl rfl (by first | rfl | assumption) rfl rfl (by exact opd_sneq rfl rfl rfl) ?_
          refine al_ond rfl rfl rfl (by first | rfl | assumption) rfl rfl (by exact opd_bneq rfl Try.underlying4 rfl rfl) ?_
          refine al_d rfl rfl rfl (by exact (by first | exact opd_pick_t rfl rfl rfl | exact opd_pick_f rfl rfl rfl | exact opd_pickt rfl rfl (by assumption) rfl | exact opd_pickf rfl rfl (by assumption) rfl | exact opd_pick rfl rfl rfl)) ?_
          refine al_d rfl rfl rfl (by exact opd_move rfl rfl) ?_
          refine al_ond rfl rfl rfl (by first | rfl | assumption) rfl rfl (by exact opd_move rfl rfl) ?_
          refine al_ond rfl rfl rfl (by first | rfl | assumption) rfl rfl (by exact opd_move rfl rfl) ?_
          refine al_ond rfl rfl rfl (by first | rfl | assumption) rfl rfl (by exact opd_sneq rfl rfl rfl) ?_
          refine al_ond rfl rfl rfl (by first | rfl | assumption) rfl rfl (by exact opd_move rfl rfl) ?_
          refine al_off rfl rfl rfl (by first | rfl | assumption) rfl ?_
          refine al_off rfl rfl rfl (by first | rfl | assumption) rfl ?_
          refine al_off rfl rfl rfl (by first | rfl | assumption) rfl ?_
          refine al_off rfl rfl rfl (by first | rfl | assumption) rfl ?_
          refine al_offu rfl rfl rfl rfl ?_
          refine al_offu rfl rfl rfl rfl ?_
          refine al_offu rfl rfl rfl rfl ?_
          refine al_off rfl rfl rfl (by first | rfl | assumption) rfl ?_
          refine al_ond rfl rfl rfl (by first | rfl | assumption) rfl rfl (by exact (by first | exact opd_pick_t rfl rfl rfl | exact opd_pick_f rfl rfl rfl | exact opd_pickt rfl rfl (by assumption) rfl | exact opd_pickf rfl rfl (by assumption) rfl | exact opd_pick rfl rfl rfl)) ?_
          refine al_d rfl rfl rfl (by exact (by first | exact opd_pick_t rfl rfl rfl | exact opd_pick_f rfl rfl rfl | exact opd_pickt rfl rfl (by assumption) rfl | exact opd_pickf rfl rfl (by assumption) rfl | exact opd_pick rfl rfl rfl)) ?_
          refine al_nil ?_
          refine awp_cond rfl (fun hc5 => ?_) (fun hc5 => ?_)
          -- cond 5
          · skip
            (first | (cases hc5; done) | (revert hc5; simp; done) | (revert hc5; simp_all; done) | (revert hc5; simp_all; omega))
          · skip
            refine awp_skip ?_
            refine awp_seq ?_
            refine awp_region ?_
            refine al_d rfl rfl rfl (by exact opd_move rfl rfl) ?_
            refine al_d rfl rfl rfl (by exact opd_move rfl rfl) ?_
            refine al_ond rfl rfl rfl (by first | rfl | assumption) rfl rfl (by exact opd_move rfl rfl) ?_
            refine al_ond rfl rfl rfl (by first | rfl | assumption) rfl rfl (by exact opd_eql rfl rfl rfl) ?_
            refine al_d rfl rfl rfl (by exact (by first | exact opd_pick_t rfl rfl rfl | exact opd_pick_f rfl rfl rfl | exact opd_pickt rfl rfl (by assumption) rfl | exact opd_pickf rfl rfl (by assumption) rfl | exact opd_pick rfl rfl rfl)) ?_
            refine al_d rfl rfl rfl (by exact opd_move rfl rfl) ?_
            refine al_ond rfl rfl rfl (by first | rfl | assumption) rfl rfl (by exact opd_move rfl rfl) ?_
            refine al_ond rfl rfl rfl (by first | rfl | assumption) rfl rfl (by exact opd_move rfl rfl) ?_
            refine al_ond rfl rfl rfl (by first | rfl | assumption) rfl rfl (by exact opr_call rfl rfl Try.call21 rfl (same9_t rfl _ (by omega))) ?_
            refine al_d rfl rfl rfl (by exact (by first | exact opd_pick_t rfl rfl rfl | exact opd_pick_f rfl rfl rfl | exact opd_pickt rfl rfl (by assumption) rfl | exact opd_pickf rfl rfl (by assumption) rfl | exact opd_pick rfl rfl rfl)) ?_
            refine al_d rfl rfl rfl (by exact opd_assign rfl rfl) ?_
            refine al_nil ?_
            refine awp_ret ?_
            -- return
            refine aret1 (H' := []) (by first | exact .inr rfl | exact .inl rfl) rfl (rval_tmp rfl) (Fin.wk (by simp) trivial trivial) ?_
            exact ⟨rfl, rfl⟩
      · have f3 : (!decide (key = other)) = true := by rw [decide_eq_false hko]; rfl
        have f4 : (!decide ((gGet l other).getD sNil = (gGet l other).getD sNil)) = false := by simp
        refine awp_skip ?_
        refine awp_seq ?_
        refine awp_region ?_
        refine al_d rfl rfl rfl (by exact opd_move rfl rfl) ?_
        refine al_d rfl rfl rfl (by exact opd_move rfl rfl) ?_
        refine al_d rfl rfl rfl (by exact opd_move rfl rfl) ?_
        refine al_d rfl rfl rfl (by exact opr_call rfl rfl Try.call11 rfl (set9_t hS _ hl1 hk hv (by omega))) ?_
        refine al_d rfl rfl rfl (by exact opd_move rfl rfl) ?_
        refine al_d rfl rfl rfl (by exact opd_extract rfl rfl rfl) ?_
        refine al_d rfl rfl rfl (by exact opd_extract rfl rfl rfl) ?_
        refine al_d rfl rfl rfl (by exact opd_assign rfl rfl) ?_
        refine al_d rfl rfl rfl (by exact opd_assign rfl rfl) ?_
        refine al_nil ?_
        refine awp_seq ?_
        refine awp_seq ?_
        refine awp_region ?_
        refine al_d rfl rfl rfl (by exact opd_move rfl rfl) ?_
        refine al_d rfl rfl rfl (by exact opd_neq rfl rfl rfl) ?_
        refine al_nil ?_
        refine awp_cond rfl (fun hc6 => ?_) (fun hc6 => ?_)
        -- cond 6
        · skip
          (first | (cases hc6; done) | (revert hc6; simp; done) | (revert hc6; simp_all; done) | (revert hc6; simp_all; omega))
        · skip
          refine awp_skip ?_
          refine awp_seq ?_
          refine awp_region ?_
          refine al_d rfl rfl rfl (by exact opd_move rfl rfl) ?_
          refine al_d rfl rfl rfl (by exact opd_move rfl rfl) ?_
          refine al_d rfl rfl rfl (by exact opr_call rfl rfl Try.call19 rfl (get9v hx1 hx2 _ (by have := hx.2; omega))) ?_
          refine al_d rfl rfl rfl (by exact opd_move rfl rfl) ?_
          refine al_d rfl rfl rfl (by exact opd_extract rfl rfl rfl) ?_
          refine al_d rfl rfl rfl (by exact opd_extract rfl rfl rfl) ?_
          refine al_d rfl rfl rfl (by exact opd_assign rfl rfl) ?_
          refine al_d rfl rfl rfl (by exact opd_assign rfl rfl) ?_
          refine al_nil ?_
          refine awp_seq ?_
          refine awp_region ?_
          refine al_d rfl rfl rfl (by exact opd_move rfl rfl) ?_
          refine al_d rfl rfl rfl (by exact opd_move rfl rfl) ?_
          refine al_d rfl rfl rfl (by exact opr_call rfl rfl Try.call19 rfl (tagGet_c l other _ (by omega))) ?_
          refine al_d rfl rfl rfl (by exact opd_move rfl rfl) ?_
          refine al_d rfl rfl rfl (by exact opd_extract rfl rfl rfl) ?_
          refine al_d rfl rfl rfl (by exact opd_extract rfl rfl rfl) ?_
          refine al_d rfl rfl rfl (by exact opd_assign rfl rfl) ?_
          refine al_d rfl rfl rfl (by exact opd_assign rfl rfl) ?_
          refine al_nil ?_
          refine awp_seq ?_
          refine awp_region ?_
          refine al_d rfl rfl rfl (by exact opd_move rfl rfl) ?_
          refine al_d rfl rfl rfl (by exact opd_move rfl rfl) ?_
          refine al_d rfl rfl rfl (by exact opr_call rfl rfl Try.call19 rfl (get9v (congrArg (fun o => o.getD sNil) (hxo hko)) (congrArg Option.isSome (hxo hko)) _ (by have := hx.2; omega))) ?_
          refine al_d rfl rfl rfl (by exact opd_move rfl rfl) ?_
          refine al_d rfl rfl rfl (by exact opd_extract rfl rfl rfl) ?_
          refine al_d rfl rfl rfl (by exact opd_extract rfl rfl rfl) ?_
          refine al_d rfl rfl rfl (by exact opd_assign rfl rfl) ?_
          refine al_d rfl rfl rfl (by exact opd_assign rfl rfl) ?_
          refine al_nil ?_
          refine awp_seq ?_
          refine awp_region ?_
          refine al_d rfl rfl rfl (by exact opd_move rfl rfl) ?_
          refine al_d rfl rfl rfl (by exact opd_move rfl rfl) ?_
          refine al_d rfl rfl rfl (by exact opr_call rfl rfl Try.call19 rfl (tagGet_c l key _ (by omega))) ?_
          refine al_d rfl rfl rfl (by exact opd_move rfl rfl) ?_
          refine al_d rfl rfl rfl (by exact opd_extract rfl rfl rfl) ?_
          refine al_d rfl rfl rfl (by exact opd_extract rfl rfl rfl) ?_
          refine al_d rfl rfl rfl (by exact opd_assign rfl rfl) ?_
          refine al_d rfl rfl rfl (by exact opd_assign rfl rfl) ?_
          refine al_nil ?_
          refine awp_seq ?_
          refine awp_region ?_
          refine al_d rfl rfl rfl (by exact opd_move rfl rfl) ?_
          refine al_d rfl rfl rfl (by exact opd_move rfl rfl) ?_
          refine al_d rfl rfl rfl (by exact opd_move rfl rfl) ?_
          refine al_d rfl rfl rfl (by exact opr_call rfl rfl Try.call11 rfl (set9_t hback _ hx.1 hk (vOf_size hl1 key) (by have := hx.2; omega))) ?_
          refine al_d rfl rfl rfl (by exact opd_move rfl rfl) ?_
          refine al_d rfl rfl rfl (by exact opd_extract rfl rfl rfl) ?_
          refine al_d rfl rfl rfl (by exact opd_extract rfl rfl rfl) ?_
          refine al_d rfl rfl rfl (by exact opd_assign rfl rfl) ?_
          refine al_d rfl rfl rfl (by exact opd_assign rfl rfl) ?_
          refine al_nil ?_
          refine awp_seq ?_
          refine awp_seq ?_
          refine awp_region ?_
          refine al_d rfl rfl rfl (by exact opd_move rfl rfl) ?_
          refine al_d rfl rfl rfl (by exact opr_call rfl rfl Try.call23 rfl (valid9_t c1 _ hl1)) ?_
          refine al_d rfl rfl rfl (by exact opd_not rfl rfl) ?_
          refine al_d rfl rfl rfl (by exact opd_move rfl rfl) ?_
          refine al_ond rfl rfl rfl (by first | rfl | assumption) rfl rfl (by exact opd_move rfl rfl) ?_
          refine al_ond rfl rfl rfl (by first | rfl | assumption) rfl rfl (by exact opr_call rfl rfl Try.call23 rfl (valid9_t h3 _ hx.1)) ?_
          refine al_ond rfl rfl rfl (by first | rfl | assumption) rfl rfl (by exact opd_not rfl rfl) ?_
          refine al_d rfl rfl rfl (by exact (by first | exact opd_pick_t rfl rfl rfl | exact opd_pick_f rfl rfl rfl | exact opd_pickt rfl rfl (by assumption) rfl | exact opd_pickf rfl rfl (by assumption) rfl | exact opd_pick rfl rfl rfl)) ?_
          refine al_d rfl rfl rfl (by exact opd_move rfl rfl) ?_
          refine al_ond rfl rfl rfl (by first | rfl | assumption) rfl rfl (by exact opd_move rfl rfl) ?_
          refine al_ond rfl rfl rfl (by first | rfl | assumption) rfl rfl (by exact opd_move rfl rfl) ?_
          refine al_ond rfl rfl rfl (by first | rfl | assumption) rfl rfl (by exact opd_sneq rfl rfl rfl) ?_
          refine al_d rfl rfl rfl (by exact (by first | exact opd_pick_t rfl rfl rfl | exact opd_pick_f rfl rfl rfl | exact opd_pickt rfl rfl (by assumption) rfl | exact opd_pickf rfl rfl (by assumption) rfl | exact opd_pick rfl rfl rfl)) ?_
          refine al_d rfl rfl rfl (by exact opd_move rfl rfl) ?_
          refine al_ond rfl rfl rfl (by first | rfl | assumption) rfl rfl (by exact opd_move rfl rfl) ?_
          refine al_ond rfl rfl rfl (by first | rfl | assumption) rfl rfl (by exact opd_move rfl rfl) ?_
          refine al_ond rfl rfl rfl (by first | rfl | assumption) rfl rfl (by exact opd_sneq rfl rfl rfl) ?_
          refine al_ond rfl rfl rfl (by first | rfl | assumption) rfl rfl (by exact opd_bneq rfl Try.underlying4 rfl rfl) ?_
          refine al_d rfl rfl rfl (by exact (by first | exact opd_pick_t rfl rfl rfl | exact opd_pick_f rfl rfl rfl | exact opd_pickt rfl rfl (by assumption) rfl | exact opd_pickf rfl rfl (by assumption) rfl | exact opd_pick rfl rfl rfl)) ?_
          refine al_d rfl rfl rfl (by exact opd_move rfl rfl) ?_
          refine al_ond rfl rfl rfl (by first | rfl | assumption) rfl rfl (by exact opd_move rfl rfl) ?_
          refine al_ond rfl rfl rfl (by first | rfl | assumption) rfl rfl (by exact opd_move rfl rfl) ?_
          refine al_ond rfl rfl rfl (by first | rfl | assumption) rfl rfl (by exact opd_sneq rfl rfl rfl) ?_
          refine al_ond rfl rfl rfl (by first | rfl | assumption) rfl rfl (by exact opd_move rfl rfl) ?_
          refine al_ond rfl rfl rfl (by first | rfl | assumption) rfl rfl (by exact opd_move rfl rfl) ?_
          refine al_ond rfl rfl rfl (by first | rfl | assumption) rfl rfl (by exact opd_move rfl rfl) ?_
          refine al_ond rfl rfl rfl (by first | rfl | assumption) rfl rfl (by exact opd_sneq rfl rfl rfl) ?_
          refine al_ond rfl rfl rfl (by first | rfl | assumption) rfl rfl (by exact opd_move rfl rfl) ?_
          refine al_ond rfl rfl rfl (by first | rfl | assumption) rfl rfl (by exact opd_move rfl rfl) ?_
          refine al_ond rfl rfl rfl (by first | rfl | assumption) rfl rfl (by exact opd_move rfl rfl) ?_
          refine al_ond rfl rfl rfl (by first | rfl | assumption) rfl rfl (by exact opd_bneq rfl Try.underlying4 rfl rfl) ?_
          refine al_ond rfl rfl rfl (by first | rfl | assumption) rfl rfl (by exact (by first | exact opd_pick_t rfl rfl rfl | exact opd_pick_f rfl rfl rfl | exact opd_pickt rfl rfl (by assumption) rfl | exact opd_pickf rfl rfl (by assumption) rfl | exact opd_pick rfl rfl rfl)) ?_
          refine al_ond rfl rfl rfl (by first | rfl | assumption) rfl rfl (by exact (by first | exact opd_pick_t rfl rfl rfl | exact opd_pick_f rfl rfl rfl | exact opd_pickt rfl rfl (by assumption) rfl | exact opd_pickf rfl rfl (by assumption) rfl | exact opd_pick rfl rfl rfl)) ?_
          refine al_d rfl rfl rfl (by exact (by first | exact opd_pick_t rfl rfl rfl | exact opd_pick_f rfl rfl rfl | exact opd_pickt rfl rfl (by assumption) rfl | exact opd_pickf rfl rfl (by assumption) rfl | exact opd_pick rfl rfl rfl)) ?_
          refine al_nil ?_
          refine awp_cond rfl (fun hc7 => ?_) (fun hc7 => ?_)
          -- cond 7
          · skip
            (first | (cases hc7; done) | (revert hc7; simp; done) | (revert hc7; simp_all; done) | (revert hc7; simp_all; omega))
          · skip
            refine awp_skip ?_
            refine awp_seq ?_
            refine awp_region ?_
            refine al_d rfl rfl rfl (by exact opd_move rfl rfl) ?_
            refine al_d rfl rfl rfl (by exact opd_move rfl rfl) ?_
            refine al_ond rfl rfl rfl (by first | rfl | assumption) rfl rfl (by exact opd_move rfl rfl) ?_
            refine al_ond rfl rfl rfl (by first | rfl | assumption) rfl rfl (by exact opd_eql rfl rfl rfl) ?_
            refine al_d rfl rfl rfl (by exact (by first | exact opd_pick_t rfl rfl rfl | exact opd_pick_f rfl rfl rfl | exact opd_pickt rfl rfl (by assumption) rfl | exact opd_pickf rfl rfl (by assumption) rfl | exact opd_pick rfl rfl rfl)) ?_
            refine al_d rfl rfl rfl (by exact opd_move rfl rfl) ?_
            refine al_ond rfl rfl rfl (by first | rfl | assumption) rfl rfl (by exact opd_move rfl rfl) ?_
            refine al_ond rfl rfl rfl (by first | rfl | assumption) rfl rfl (by exact opd_move rfl rfl) ?_
            refine al_ond rfl rfl rfl (by first | rfl | assumption) rfl rfl (by exact opr_call rfl rfl Try.call21 rfl (same9_t rfl _ (by omega))) ?_
            refine al_d rfl rfl rfl (by exact (by first | exact opd_pick_t rfl rfl rfl | exact opd_pick_f rfl rfl rfl | exact opd_pickt rfl rfl (by assumption) rfl | exact opd_pickf rfl rfl (by assumption) rfl | exact opd_pick rfl rfl rfl)) ?_
            refine al_d rfl rfl rfl (by exact opd_assign rfl rfl) ?_
            refine al_nil ?_
            refine awp_ret ?_
            -- return
            refine aret1 (H' := []) (by first | exact .inr rfl | exact .inl rfl) rfl (rval_tmp rfl) (Fin.wk (by simp) trivial trivial) ?_
            exact ⟨rfl, rfl⟩
end Go.Proofs.Ytedfihgkopejcaa
end
section
set_option linter.unusedVariables false
set_option linter.unusedSimpArgs false
namespace Go.Proofs.Ytedfihgkopejcaa
open Go.Abs
theorem szT_of {l : List GTag} (h : szTags 1048576 l) : szT l := ⟨okTags_of (by decide) h, by have := h.1; omega⟩
end Go.Proofs.Ytedfihgkopejcaa
end
