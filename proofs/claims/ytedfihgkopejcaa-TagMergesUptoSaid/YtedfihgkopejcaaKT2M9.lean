/-
  TAGS, plain: tags by their lookups; what tag.Set does to them. Conditions: none.
  THE LAW planispherelaw09.TagSets: it answers true. Conditions: sizes below 2^36.
  WHAT THE ARGUMENTS OF THE LAWS ABOUT TAGS HOLD. Conditions: none.
  TAGS MERGED, plain: tag.Merge by lookups. Conditions: none.
  THE LAW planispherelaw09.TagMerges: it answers true. Conditions: sizes below 2^36.
-/
import Derived.Test.YtedfihgkopejcaaKT2M8
section
set_option linter.unusedVariables false
set_option linter.unusedSimpArgs false
namespace Go.Proofs.Ytedfihgkopejcaa
open Go.Abs
def vOf (l : List GTag) (k : ByteArray) : ByteArray := (gGet l k).getD sNil
theorem asc_inj {l : List GTag} (ha : asc GTag.key l) {a b : GTag} (h1 : a ∈ l) (h2 : b ∈ l) (e : a.key = b.key) : a = b := by
  obtain ⟨i, hi⟩ := List.mem_iff_getElem?.1 h1
  obtain ⟨j, hj⟩ := List.mem_iff_getElem?.1 h2
  rcases Nat.lt_trichotomy i j with h | h | h
  · have := asc_get ha h hi hj
    rw [e, slt_irr] at this; cases this
  · subst h
    rw [hi] at hj; exact Option.some.inj hj
  · have := asc_get ha h hj hi
    rw [e, slt_irr] at this; cases this
theorem gGet_mem {l : List GTag} {k v : ByteArray} (h : gGet l k = some v) : (⟨k, v⟩ : GTag) ∈ l := by
  rw [gGet, Option.map_eq_some_iff] at h
  obtain ⟨t, ht, rfl⟩ := h
  have h1 := List.find?_some ht
  have h2 := List.mem_of_find?_eq_some ht
  have e := of_decide_eq_true h1
  obtain ⟨a, b⟩ := t
  subst e
  exact h2
theorem gGet_of {l : List GTag} (ha : asc GTag.key l) {k v : ByteArray} (h : (⟨k, v⟩ : GTag) ∈ l) : gGet l k = some v := by
  cases hf : l.find? (fun t => decide (t.key = k)) with
  | none =>
    have := List.find?_eq_none.1 hf _ h
    simp at this
  | some t =>
    have h0 := List.find?_some hf
    have h1 : t.key = k := of_decide_eq_true h0
    have h2 := List.mem_of_find?_eq_some hf
    have := asc_inj ha h2 h h1
    subst this
    rw [gGet, hf]
    rfl
theorem gGet_iff {l : List GTag} (ha : asc GTag.key l) {k v : ByteArray} : gGet l k = some v ↔ (⟨k, v⟩ : GTag) ∈ l := ⟨gGet_mem, gGet_of ha⟩
theorem gGet_none {l : List GTag} {k : ByteArray} (h : ∀ t, t ∈ l → t.key ≠ k) : gGet l k = none := by
  cases e : gGet l k with
  | none => rfl
  | some v => exact absurd rfl (h _ (gGet_mem e))
theorem asc_nodup {l : List GTag} (ha : asc GTag.key l) : l.Nodup := by
  refine List.Pairwise.imp (fun {a b} h e => ?_) ha
  subst e
  rw [slt_irr] at h; cases h
/-- Tags with the same lookups are the same. -/
theorem tags_ext {a b : List GTag} (ha : asc GTag.key a) (hb : asc GTag.key b) (h : ∀ k, gGet a k = gGet b k) : a = b := by
  have hp : a.Perm b := (List.perm_ext_iff_of_nodup (asc_nodup ha) (asc_nodup hb)).2 fun t => by
    obtain ⟨k, v⟩ := t
    rw [← gGet_iff ha, ← gGet_iff hb, h k]
  refine List.Perm.eq_of_pairwise (fun x y _ _ h3 h4 => ?_) ha hb hp
  have := slt_trans h3 h4
  rw [slt_irr] at this; cases this
/-- What tag.Set asks for. -/
def canSet (l : List GTag) (key val : ByteArray) : Prop := gTags l = true ∧ gName key = true ∧ val.size ≤ 200 ∧ (hasK GTag.key l key = false → val ≠ sNil → l.length ≠ 60)
end Go.Proofs.Ytedfihgkopejcaa
end
section
set_option linter.unusedVariables false
set_option linter.unusedSimpArgs false
set_option maxRecDepth 100000
namespace Go.Proofs.Ytedfihgkopejcaa
open Go.Abs
/-- Tags of a moderate size. -/
def szT (l : List GTag) : Prop := okTags l ∧ l.length < 68719476736
end Go.Proofs.Ytedfihgkopejcaa
end
section
set_option linter.unusedVariables false
set_option linter.unusedSimpArgs false
namespace Go.Proofs.Ytedfihgkopejcaa
open Go.Abs
theorem szT_of {l : List GTag} (h : szTags 1048576 l) : szT l := ⟨okTags_of (by decide) h, by have := h.1; omega⟩
end Go.Proofs.Ytedfihgkopejcaa
end
section
set_option linter.unusedVariables false
set_option linter.unusedSimpArgs false
namespace Go.Proofs.Ytedfihgkopejcaa
open Go.Abs
/-! ### names in order -/
theorem toU_ofU9 (l : List UInt8) : toU (ofU l) = l := by simp [toU, ofU]
theorem slt_toU9 (a b : ByteArray) : slt a b = decide (toU a < toU b) := by
  unfold slt
  rw [bytesLess_eq, ByteArray.toList_eq, ByteArray.toList_eq]
  rfl
theorem sortS_up {l : List ByteArray} (hn : l.Nodup) : (sortS l).Pairwise (fun a b => slt a b = true) := by
  have hle : (sortS l).Pairwise (fun a b => slt b a = false) := by
    unfold sortS
    rw [List.pairwise_map]
    refine List.Pairwise.imp (R := fun (x y : List UInt8) => decide (x ≤ y) = true) (fun {x y} h => ?_) (List.pairwise_mergeSort (le := fun (x y : List UInt8) => decide (x ≤ y)) (fun a b c h1 h2 => decide_eq_true (List.le_trans (of_decide_eq_true h1) (of_decide_eq_true h2))) u8_le_total _)
    rw [slt_toU9, toU_ofU9, toU_ofU9]
    exact decide_eq_false (List.not_lt.2 (of_decide_eq_true h))
  have hp : (sortS l).Pairwise (fun a b => a ≠ b) := (sortS_perm l).symm.pairwise hn (fun {a b} h => h.symm)
  refine (hp.and hle).imp fun {a b} h => ?_
  obtain ⟨h1, h2⟩ := h
  cases hc : slt a b with
  | true => rfl
  | false => exact absurd (slt_tri hc h2) h1
theorem up_nodup {l : List ByteArray} (h : l.Pairwise (fun a b => slt a b = true)) : l.Nodup := by
  refine List.Pairwise.imp (fun {a b} h e => ?_) h
  subst e
  rw [slt_irr] at h; cases h
theorem nd_le {α : Type} : ∀ {l m : List α}, l.Nodup → (∀ x, x ∈ l → x ∈ m) → l.length ≤ m.length
  | [], _, _, _ => Nat.zero_le _
  | a :: r, m, hd, h => by
    rw [List.nodup_cons] at hd
    obtain ⟨m1, m2, rfl⟩ := List.append_of_mem (h a List.mem_cons_self)
    have := nd_le (l := r) (m := m1 ++ m2) hd.2 fun x hx => by
      rcases List.mem_append.1 (h x (List.mem_cons_of_mem _ hx)) with h1 | h1
      · exact List.mem_append_left _ h1
      · rcases List.mem_cons.1 h1 with rfl | h1
        · exact absurd hx hd.1
        · exact List.mem_append_right _ h1
    rw [List.length_append] at this
    rw [List.length_append, List.length_cons, List.length_cons]
    omega
/-! ### what the three sides have for a key -/
theorem ent3_add (L : List M3) (s k : ByteArray) : ent3 (addK L s) k = ent3 L k := by
  unfold addK
  split
  · rfl
  · rw [ent3, ent3, List.find?_append]
    cases L.find? fun p => decide (p.k = k) with
    | some p => rfl
    | none =>
      by_cases h : s = k
      · subst h
        simp [M3.nil]
      · simp [M3.nil, h]
theorem find_set (i : Nat) (s v k : ByteArray) : ∀ (L : List M3), (setK i s v L).find? (fun p => decide (p.k = k)) = (L.find? fun p => decide (p.k = k)).map fun p => if p.k = s then p.up i v else p
  | [] => rfl
  | p :: L => by
    have ih := find_set i s v k L
    rw [setK, List.map_cons, List.find?_cons, List.find?_cons]
    have hk : (if p.k = s then p.up i v else p).k = p.k := by
      split
      · exact up_k i v p
      · rfl
    rw [hk]
    by_cases h : p.k = k
    · rw [decide_eq_true h]
      rfl
    · rw [decide_eq_false h]
      exact ih
theorem ent3_ins (i : Nat) (L : List M3) (t : GTag) (k : ByteArray) : ent3 (insK i L t) k = if t.key = k then (ent3 L k).up i t.val else ent3 L k := by
  have hin : t.key ∈ (addK L t.key).map M3.k := addK_has L t.key
  rw [insK, ent3, find_set, ← ent3_add L t.key k]
  obtain ⟨M, hM⟩ : ∃ M, M = addK L t.key := ⟨_, rfl⟩
  rw [← hM] at hin ⊢
  rw [ent3]
  cases hf : M.find? fun p => decide (p.k = k) with
  | none =>
    have hne : ¬ t.key = k := fun e => by
      obtain ⟨p, hp, hpk⟩ := List.mem_map.1 hin
      have := List.find?_eq_none.1 hf p hp
      rw [hpk, decide_eq_true e] at this
      exact this rfl
    rw [if_neg hne]
    rfl
  | some p =>
    have h := List.find?_some hf
    have hpk : p.k = k := of_decide_eq_true h
    show (if p.k = t.key then p.up i t.val else p) = if t.key = k then p.up i t.val else p
    rw [hpk]
    by_cases e : k = t.key
    · rw [if_pos e, if_pos e.symm]
    · rw [if_neg e, if_neg (Ne.symm e)]
theorem ent3_side (i : Nat) (k : ByteArray) : ∀ (l : List GTag) (L : List M3), asc GTag.key l → ent3 (sideK i L l) k = match gGet l k with
    | some v => (ent3 L k).up i v
    | none => ent3 L k
  | [], L, _ => rfl
  | t :: r, L, ha => by
    rw [asc, List.pairwise_cons] at ha
    have ih := ent3_side i k r (insK i L t) ha.2
    show ent3 (sideK i (insK i L t) r) k = _
    rw [ih, ent3_ins]
    by_cases e : t.key = k
    · have hr : gGet r k = none := gGet_none fun x hx h => by
        have := ha.1 x hx
        rw [e, h, slt_irr] at this; cases this
      have hg : gGet (t :: r) k = some t.val := by rw [gGet, List.find?_cons, decide_eq_true e]; rfl
      rw [hr, hg, if_pos e]
    · have hg : gGet (t :: r) k = gGet r k := by rw [gGet, List.find?_cons, decide_eq_false e]; rfl
      rw [hg, if_neg e]
theorem up_or (i : Nat) (p : M3) (l : List GTag) (k : ByteArray) (h0 : i = 0 → p.b = sNil) (h1 : i = 1 → p.o = sNil) (h2 : i = 2 → p.t = sNil) (hi : i < 3) : (match gGet l k with
    | some v => p.up i v
    | none => p) = p.up i (vOf l k) := by
  rw [vOf]
  cases gGet l k with
  | some v => rfl
  | none =>
    obtain ⟨pk, pb, po, pt⟩ := p
    match i, hi with
    | 0, _ => have := h0 rfl; subst this; rfl
    | 1, _ => have := h1 rfl; subst this; rfl
    | 2, _ => have := h2 rfl; subst this; rfl
theorem ent3_all {b o t : List GTag} (hb : asc GTag.key b) (ho : asc GTag.key o) (ht : asc GTag.key t) (k : ByteArray) : ent3 (all3 b o t) k = ⟨k, vOf b k, vOf o k, vOf t k⟩ := by
  rw [all3, ent3_side 2 k t _ ht, ent3_side 1 k o _ ho, ent3_side 0 k b _ hb]
  have e0 : ent3 [] k = M3.nil k := rfl
  rw [e0, up_or 0 (M3.nil k) b k (fun _ => rfl) (fun h => by cases h) (fun h => by cases h) (by decide),
    up_or 1 _ o k (fun h => by cases h) (fun _ => rfl) (fun h => by cases h) (by decide),
    up_or 2 _ t k (fun h => by cases h) (fun h => by cases h) (fun _ => rfl) (by decide)]
  rfl
theorem key_side (i : Nat) (k : ByteArray) : ∀ (l : List GTag) (L : List M3), k ∈ (sideK i L l).map M3.k ↔ k ∈ L.map M3.k ∨ k ∈ l.map GTag.key
  | [], L => by simp [sideK]
  | t :: r, L => by
    show k ∈ (sideK i (insK i L t) r).map M3.k ↔ _
    rw [key_side i k r, insK, setK_k, List.map_cons, List.mem_cons]
    have : k ∈ (addK L t.key).map M3.k ↔ k ∈ L.map M3.k ∨ k = t.key := by
      by_cases h : t.key ∈ L.map M3.k
      · rw [addK_in h]
        exact ⟨.inl, fun h' => by rcases h' with h' | rfl; exact h'; exact h⟩
      · rw [addK_new h, List.map_append, List.mem_append]
        simp [M3.nil]
    rw [this, or_assoc]
/-- The keys of three sides, in order. -/
def keys3 (b o t : List GTag) : List ByteArray := sortS ((all3 b o t).map M3.k)
theorem keys3_mem {b o t : List GTag} {k : ByteArray} : k ∈ keys3 b o t ↔ k ∈ b.map GTag.key ∨ k ∈ o.map GTag.key ∨ k ∈ t.map GTag.key := by
  rw [keys3, (sortS_perm _).mem_iff, all3, key_side, key_side, key_side]
  simp [or_assoc]
theorem keys3_up (b o t : List GTag) : (keys3 b o t).Pairwise (fun a b => slt a b = true) := sortS_up (all3_nodup b o t)
theorem keys3_len (b o t : List GTag) : (keys3 b o t).length ≤ b.length + o.length + t.length := by
  rw [keys3, sortS_length, List.length_map]
  have h1 := sideK_len 2 t (sideK 1 (sideK 0 [] b) o)
  have h2 := sideK_len 1 o (sideK 0 [] b)
  have h3 := sideK_len 0 b []
  rw [List.length_nil] at h3
  show (sideK 2 (sideK 1 (sideK 0 [] b) o) t).length ≤ _
  omega
def at3 (b o t : List GTag) (k : ByteArray) : M3 := ⟨k, vOf b k, vOf o k, vOf t k⟩
theorem srt3_eq {b o t : List GTag} (hb : asc GTag.key b) (ho : asc GTag.key o) (ht : asc GTag.key t) : srt3 (all3 b o t) = (keys3 b o t).map (at3 b o t) :=
  List.map_congr_left fun k _ => ent3_all hb ho ht k
/-! ### the merge -/
theorem mStep_congr {p q : M3} (hk : p.k = q.k) (h : m1 p = m1 q) (a : List GTag × List ByteArray) : mStep a p = mStep a q := by
  unfold mStep mConf
  rw [hk, h]
theorem fold_congr {f g : ByteArray → M3} : ∀ (S : List ByteArray) (a : List GTag × List ByteArray), (∀ k, (f k).k = (g k).k ∧ m1 (f k) = m1 (g k)) → (S.map f).foldl mStep a = (S.map g).foldl mStep a
  | [], _, _ => rfl
  | k :: S, a, h => by
    rw [List.map_cons, List.map_cons, List.foldl_cons, List.foldl_cons, mStep_congr (h k).1 (h k).2, fold_congr S _ h]
theorem m1_swap (k b o t : ByteArray) : m1 ⟨k, b, o, t⟩ = m1 ⟨k, b, t, o⟩ := by
  unfold m1
  dsimp only
  by_cases h1 : t = o
  · subst h1; rfl
  · rw [if_neg h1, if_neg (Ne.symm h1)]
    by_cases h2 : t = b
    · subst h2
      rw [if_pos rfl, if_neg (Ne.symm h1), if_pos rfl]
    · rw [if_neg h2, if_neg h2]
theorem merge_comm (b o t : List GTag) : gMerge b o t = gMerge b t o := by
  unfold gMerge
  by_cases h : (gTags b && gTags o && gTags t) = true
  · have h' := h
    rw [Bool.and_eq_true, Bool.and_eq_true] at h'
    obtain ⟨⟨hb, ho⟩, ht⟩ := h'
    have h2 : (gTags b && gTags t && gTags o) = true := by rw [hb, ho, ht]; rfl
    rw [if_pos h, if_pos h2, srt3_eq (gTags_iff.1 hb).2.1 (gTags_iff.1 ho).2.1 (gTags_iff.1 ht).2.1, srt3_eq (gTags_iff.1 hb).2.1 (gTags_iff.1 ht).2.1 (gTags_iff.1 ho).2.1]
    have hS : keys3 b o t = keys3 b t o := by
      rw [keys3, keys3]
      refine sortS_eq ((List.perm_ext_iff_of_nodup (all3_nodup b o t) (all3_nodup b t o)).2 fun k => ?_)
      have h1 := keys3_mem (b := b) (o := o) (t := t) (k := k)
      have h2 := keys3_mem (b := b) (o := t) (t := o) (k := k)
      rw [keys3, (sortS_perm _).mem_iff] at h1 h2
      rw [h1, h2]
      constructor
      · rintro (h | h | h)
        · exact .inl h
        · exact .inr (.inr h)
        · exact .inr (.inl h)
      · rintro (h | h | h)
        · exact .inl h
        · exact .inr (.inr h)
        · exact .inr (.inl h)
    rw [hS]
    exact fold_congr _ _ fun k => ⟨rfl, m1_swap _ _ _ _⟩
  · have h2 : ¬ (gTags b && gTags t && gTags o) = true := fun h' => h (by
      rw [Bool.and_eq_true, Bool.and_eq_true] at h' ⊢
      exact ⟨⟨h'.1.1, h'.2⟩, h'.1.2⟩)
    rw [if_neg h, if_neg h2]
def neB (p : M3) : Bool := !decide ((m1 p).1 = ⟨#[]⟩)
theorem fold_le : ∀ (P : List M3) (A : List GTag) (C : List ByteArray), A.length + (P.filter neB).length ≤ 60 → P.foldl mStep (A, C) = (A ++ (P.filter neB).map (fun p => ⟨p.k, (m1 p).1⟩), C ++ (P.filter fun p => (m1 p).2).map M3.k)
  | [], A, C, _ => by simp
  | p :: P, A, C, h => by
    rw [List.foldl_cons]
    have hC : mConf C p = C ++ (if (m1 p).2 then [p.k] else []) := by
      unfold mConf
      split
      · rfl
      · rw [List.append_nil]
    have hC2 : ((p :: P).filter fun p => (m1 p).2).map M3.k = (if (m1 p).2 then [p.k] else []) ++ (P.filter fun p => (m1 p).2).map M3.k := by
      rw [List.filter_cons]
      split <;> rfl
    rw [hC2, ← List.append_assoc, ← hC]
    by_cases hn : (m1 p).1 = ⟨#[]⟩
    · have hf : (p :: P).filter neB = P.filter neB := by rw [List.filter_cons, if_neg (by rw [neB, decide_eq_true hn]; simp)]
      rw [hf] at h ⊢
      have : mStep (A, C) p = (A, mConf C p) := by rw [mStep, if_pos hn]
      rw [this]
      exact fold_le P A (mConf C p) h
    · have hf : (p :: P).filter neB = p :: P.filter neB := by rw [List.filter_cons, if_pos (by rw [neB, decide_eq_false hn]; rfl)]
      rw [hf] at h ⊢
      rw [List.length_cons] at h
      have : mStep (A, C) p = (A ++ [⟨p.k, (m1 p).1⟩], mConf C p) := by rw [mStep, if_neg hn, if_pos (by show A.length < 60; omega)]
      rw [this, fold_le P (A ++ [(⟨p.k, (m1 p).1⟩ : GTag)]) (mConf C p) (by rw [List.length_append, List.length_singleton]; omega), List.map_cons, List.append_assoc]
      rfl
def mv (b o t : List GTag) (k : ByteArray) : ByteArray := (m1 (at3 b o t k)).1
def mc (b o t : List GTag) (k : ByteArray) : Bool := (m1 (at3 b o t k)).2
theorem mv_or (b o t : List GTag) (k : ByteArray) : mv b o t k = vOf b k ∨ mv b o t k = vOf o k ∨ mv b o t k = vOf t k := by
  unfold mv m1 at3
  dsimp only
  split
  · exact .inr (.inl rfl)
  · split
    · exact .inr (.inl rfl)
    · split
      · exact .inr (.inr rfl)
      · exact .inl rfl
theorem vOf_has {l : List GTag} {k : ByteArray} (h : vOf l k ≠ sNil) : (⟨k, vOf l k⟩ : GTag) ∈ l := by
  rw [vOf] at h ⊢
  cases hg : gGet l k with
  | none => rw [hg] at h; exact absurd rfl h
  | some v => exact gGet_mem hg
theorem vOf_get {l : List GTag} (h : gTags l = true) (k : ByteArray) : gGet l k = if vOf l k = sNil then none else some (vOf l k) := by
  rw [vOf]
  cases hg : gGet l k with
  | none => exact (if_pos rfl).symm
  | some v => exact (if_neg ((gTags_iff.1 h).1 _ (gGet_mem hg)).2.1).symm
theorem mv_key {b o t : List GTag} {k : ByteArray} (h : mv b o t k ≠ sNil) : k ∈ keys3 b o t := by
  rw [keys3_mem]
  rcases mv_or b o t k with e | e | e
  · exact .inl (List.mem_map.2 ⟨_, vOf_has (e ▸ h), rfl⟩)
  · exact .inr (.inl (List.mem_map.2 ⟨_, vOf_has (e ▸ h), rfl⟩))
  · exact .inr (.inr (List.mem_map.2 ⟨_, vOf_has (e ▸ h), rfl⟩))
/-- Tags merged, by lookups, where they are few. -/
theorem merge_get {b o t : List GTag} (hb : gTags b = true) (ho : gTags o = true) (ht : gTags t = true) (hn : ((keys3 b o t).filter fun k => !decide (mv b o t k = ⟨#[]⟩)).length ≤ 60) :
    (gMerge b o t).2 = (keys3 b o t).filter (mc b o t) ∧ gTags (gMerge b o t).1 = true ∧ ∀ k, gGet (gMerge b o t).1 k = if mv b o t k = sNil then none else some (mv b o t k) := by
  obtain ⟨b1, b2, b3⟩ := gTags_iff.1 hb
  obtain ⟨o1, o2, o3⟩ := gTags_iff.1 ho
  obtain ⟨t1, t2, t3⟩ := gTags_iff.1 ht
  have hall : (gTags b && gTags o && gTags t) = true := by rw [hb, ho, ht]; rfl
  have hfil : ((keys3 b o t).map (at3 b o t)).filter neB = ((keys3 b o t).filter fun k => !decide (mv b o t k = ⟨#[]⟩)).map (at3 b o t) := by
    rw [List.filter_map]
    rfl
  have hfil2 : (((keys3 b o t).map (at3 b o t)).filter fun p => (m1 p).2) = ((keys3 b o t).filter (mc b o t)).map (at3 b o t) := by
    rw [List.filter_map]
    rfl
  have hG : gMerge b o t = (((keys3 b o t).filter fun k => !decide (mv b o t k = ⟨#[]⟩)).map (fun k => ⟨k, mv b o t k⟩), (keys3 b o t).filter (mc b o t)) := by
    rw [gMerge, if_pos hall, srt3_eq b2 o2 t2, fold_le _ [] [] (by rw [hfil, List.length_map, List.length_nil]; omega), hfil, hfil2, List.map_map, List.map_map, List.nil_append, List.nil_append]
    congr 1
    exact List.map_id' _
  rw [hG]
  obtain ⟨F, hF⟩ : ∃ F, F = (keys3 b o t).filter fun k => !decide (mv b o t k = ⟨#[]⟩) := ⟨_, rfl⟩
  rw [← hF] at hn ⊢
  have hup : F.Pairwise (fun a b => slt a b = true) := by rw [hF]; exact List.Pairwise.sublist List.filter_sublist (keys3_up b o t)
  have hFm : ∀ k, k ∈ F ↔ mv b o t k ≠ sNil := fun k => by
    rw [hF, List.mem_filter]
    constructor
    · rintro ⟨_, h⟩ e
      have : mv b o t k = ⟨#[]⟩ := e
      rw [decide_eq_true this] at h; cases h
    · intro h
      refine ⟨mv_key h, ?_⟩
      have : ¬ mv b o t k = ⟨#[]⟩ := h
      rw [decide_eq_false this]; rfl
  have hasc : asc GTag.key (F.map fun k => (⟨k, mv b o t k⟩ : GTag)) := List.pairwise_map.2 hup
  refine ⟨rfl, gTags_iff.2 ⟨fun x hx => ?_, hasc, by show (F.map _).length ≤ 60; rw [List.length_map]; exact hn⟩, fun k => ?_⟩
  · obtain ⟨k, hk, rfl⟩ := List.mem_map.1 hx
    have hne := (hFm k).1 hk
    show gName k = true ∧ mv b o t k ≠ sNil ∧ (mv b o t k).size ≤ 200
    have hv := mv_or b o t k
    rcases hv with e | e | e
    · have h := b1 _ (vOf_has (e ▸ hne))
      exact ⟨h.1, hne, by rw [e]; exact h.2.2⟩
    · have h := o1 _ (vOf_has (e ▸ hne))
      exact ⟨h.1, hne, by rw [e]; exact h.2.2⟩
    · have h := t1 _ (vOf_has (e ▸ hne))
      exact ⟨h.1, hne, by rw [e]; exact h.2.2⟩
  · show gGet (F.map fun k => (⟨k, mv b o t k⟩ : GTag)) k = _
    by_cases h : mv b o t k = sNil
    · rw [if_pos h]
      refine gGet_none fun x hx e => ?_
      obtain ⟨k', hk', rfl⟩ := List.mem_map.1 hx
      have e' : k' = k := e
      subst e'
      exact (hFm k').1 hk' h
    · rw [if_neg h]
      exact gGet_of hasc (List.mem_map.2 ⟨k, (hFm k).2 h, rfl⟩)
/-- .. where the result's keys are those of valid tags. -/
theorem merge_count {b o t z : List GTag} (hz : gTags z = true) (h : ∀ k, mv b o t k ≠ sNil → vOf z k ≠ sNil) : ((keys3 b o t).filter fun k => !decide (mv b o t k = ⟨#[]⟩)).length ≤ 60 := by
  have h1 : ((keys3 b o t).filter fun k => !decide (mv b o t k = ⟨#[]⟩)).length ≤ (z.map GTag.key).length := by
    refine nd_le (up_nodup (List.Pairwise.sublist List.filter_sublist (keys3_up b o t))) fun k hk => ?_
    rw [List.mem_filter] at hk
    have hne : mv b o t k ≠ sNil := fun e => by
      have e' : mv b o t k = ⟨#[]⟩ := e
      rw [decide_eq_true e'] at hk
      cases hk.2
    exact List.mem_map.2 ⟨_, vOf_has (h k hne), rfl⟩
  rw [List.length_map] at h1
  have := (gTags_iff.1 hz).2.2
  omega
/-- A merge that is known by its lookups. -/
theorem merge_is {b o t z : List GTag} (hb : gTags b = true) (ho : gTags o = true) (ht : gTags t = true) (hz : gTags z = true) (h : ∀ k, m1 (at3 b o t k) = (vOf z k, false)) : gMerge b o t = (z, []) := by
  have hv : ∀ k, mv b o t k = vOf z k := fun k => by rw [mv, h]
  obtain ⟨h1, h2, h3⟩ := merge_get hb ho ht (merge_count hz fun k hk => by rw [← hv]; exact hk)
  refine Prod.ext ?_ ?_
  · refine tags_ext (gTags_iff.1 h2).2.1 (gTags_iff.1 hz).2.1 fun k => ?_
    rw [h3, vOf_get hz, hv]
  · rw [h1]
    exact List.filter_eq_nil_iff.2 fun k _ => by rw [mc, h]; simp
theorem merge_base {b o : List GTag} (hb : gTags b = true) (ho : gTags o = true) : gMerge b o b = (o, []) := merge_is hb ho hb ho fun k => by
  unfold m1 at3
  dsimp only
  split
  · rfl
  · rw [if_pos rfl]
theorem merge_same {b o : List GTag} (hb : gTags b = true) (ho : gTags o = true) : gMerge b o o = (o, []) := merge_is hb ho ho ho fun k => by
  unfold m1 at3
  dsimp only
  rw [if_pos rfl]
end Go.Proofs.Ytedfihgkopejcaa
end
section
set_option linter.unusedVariables false
set_option linter.unusedSimpArgs false
set_option maxRecDepth 100000
namespace Go.Proofs.Ytedfihgkopejcaa
open Go.Abs
theorem merge_bad {b o t : List GTag} (h : (gTags b && gTags o && gTags t) = false) : gMerge b o t = ([], []) := by rw [gMerge, if_neg (by rw [h]; simp)]
theorem valid9v {l : List GTag} {v : Bool} (h : gTags l = v) (H : Heap) (hl : okTags l) : ACalls Try.prog 23 [.pv (slTags l)] H (fun r H' => r = bv v ∧ H' = H) := by
  have := tagValid_c l H hl
  rwa [h] at this
theorem encTs_rl (ls : List (List GTag)) : ∀ r ∈ ls.map encTs, r.length = 1 := fun r hr => by
  obtain ⟨l, _, rfl⟩ := List.mem_map.1 hr
  rfl
theorem fold_len : ∀ (P : List M3) (a : List GTag × List ByteArray), (P.foldl mStep a).1.length ≤ a.1.length + P.length ∧ (P.foldl mStep a).2.length ≤ a.2.length + 2 * P.length
  | [], a => by simp
  | p :: P, a => by
    have h1 := mStep_len a p
    have h2 := fold_len P (mStep a p)
    rw [List.foldl_cons, List.length_cons]
    omega
theorem gMerge_len (b o t : List GTag) : (gMerge b o t).1.length ≤ b.length + o.length + t.length ∧ (gMerge b o t).2.length ≤ 2 * (b.length + o.length + t.length) := by
  unfold gMerge
  split
  · have h := fold_len (srt3 (all3 b o t)) ([], [])
    have h2 := keys3_len b o t
    have h3 : (srt3 (all3 b o t)).length = (keys3 b o t).length := by rw [srt3, List.length_map]; rfl
    rw [h3] at h
    simp only [List.length_nil, Nat.zero_add] at h
    omega
  · simp
theorem tagMerges_c (b o t : List GTag) (H : Heap) (hb : szT b) (ho : szT o) (ht : szT t) : ACalls Try.prog 6 [.pv (slTags b), .pv (slTags o), .pv (slTags t)] H (fun r H' => r = bv true ∧ H' = H) := by
  refine ACalls.pure ?_ (by simp) H
  obtain ⟨x, c, hxc⟩ : ∃ x c, gMerge b o t = (x, c) := ⟨_, _, rfl⟩
  have hyd : gMerge b t o = (x, c) := by rw [merge_comm, hxc]
  have hlen := gMerge_len b o t
  rw [hxc] at hlen
  dsimp only at hlen
  have hb2 := hb.2
  have ho2 := ho.2
  have ht2 := ht.2
  refine ACalls.body Try.func6 rfl Try.ntmps6 (Nat.le_of_ble_eq_true rfl) ?_
  refine awp_seq ?_
  refine awp_region ?_
  refine al_d rfl rfl rfl (by exact opd_assign rfl rfl) ?_
  refine al_nil ?_
  refine awp_seq ?_
  refine awp_region ?_
  refine al_d rfl rfl rfl (by exact opr_call rfl rfl Try.call9 rfl (head9_c _)) ?_
  refine al_d rfl rfl rfl (by exact opd_assign rfl rfl) ?_
  refine al_nil ?_
  refine awp_seq ?_
  refine awp_seq ?_
  refine awp_region ?_
  refine al_d rfl rfl rfl (by exact opd_move rfl rfl) ?_
  refine al_d rfl rfl rfl (by exact opd_move rfl rfl) ?_
  refine al_d rfl rfl rfl (by exact opd_move rfl rfl) ?_
  refine al_d rfl rfl rfl (by exact (by first | exact x_buildSlice ([b, o, t].map encTs) rfl so47 rfl rfl rfl rfl rfl (encTs_rl _) | (apply x_buildSlice (ps := ([b, o, t].map encTs)) (hS := so47) <;> first | rfl | exact (encTs_rl _) | simp))) ?_
  refine al_d rfl rfl rfl (by exact opr_call rfl rfl Try.call10 rfl (fewLaw_c [b, o, t] _ (by show 3 < _; omega) (by intro a ha; simp only [List.mem_cons, List.not_mem_nil, or_false] at ha; rcases ha with rfl | rfl | rfl; exact hb.1; exact ho.1; exact ht.1))) ?_
  refine al_d rfl rfl rfl (by exact opd_not rfl rfl) ?_
  refine al_nil ?_
  refine awp_cond rfl (fun hc1 => ?_) (fun hc1 => ?_)
  -- cond 1
  · skip
    refine awp_seq ?_
    refine awp_region ?_
    refine al_d rfl rfl rfl (by exact opd_move rfl rfl) ?_
    refine al_d rfl rfl rfl (by exact opd_assign rfl rfl) ?_
    refine al_nil ?_
    refine awp_ret ?_
    -- return
    refine aret1 (H' := []) (by first | exact .inr rfl | exact .inl rfl) rfl (rval_tmp rfl) (Fin.wk (by simp) trivial trivial) ?_
    exact ⟨rfl, rfl⟩
  · skip
    refine awp_skip ?_
    refine awp_seq ?_
    refine awp_region ?_
    refine al_d rfl rfl rfl (by exact opd_move rfl rfl) ?_
    refine al_d rfl rfl rfl (by exact opd_move rfl rfl) ?_
    refine al_d rfl rfl rfl (by exact opd_move rfl rfl) ?_
    refine al_d rfl rfl rfl (by exact opr_call rfl rfl Try.call13 rfl (merge9_t hxc _ hb.1 ho.1 ht.1 (by omega) (by omega) (by omega))) ?_
    refine al_d rfl rfl rfl (by exact opd_move rfl rfl) ?_
    refine al_d rfl rfl rfl (by exact opd_extract rfl rfl rfl) ?_
    refine al_d rfl rfl rfl (by exact opd_extract rfl rfl rfl) ?_
    refine al_d rfl rfl rfl (by exact opd_assign rfl rfl) ?_
    refine al_d rfl rfl rfl (by exact opd_assign rfl rfl) ?_
    refine al_nil ?_
    refine awp_seq ?_
    refine awp_region ?_
    refine al_d rfl rfl rfl (by exact opd_move rfl rfl) ?_
    refine al_d rfl rfl rfl (by exact opd_move rfl rfl) ?_
    refine al_d rfl rfl rfl (by exact opd_move rfl rfl) ?_
    refine al_d rfl rfl rfl (by exact opr_call rfl rfl Try.call13 rfl (merge9_t hyd _ hb.1 ht.1 ho.1 (by omega) (by omega) (by omega))) ?_
    refine al_d rfl rfl rfl (by exact opd_move rfl rfl) ?_
    refine al_d rfl rfl rfl (by exact opd_extract rfl rfl rfl) ?_
    refine al_d rfl rfl rfl (by exact opd_extract rfl rfl rfl) ?_
    refine al_d rfl rfl rfl (by exact opd_assign rfl rfl) ?_
    refine al_d rfl rfl rfl (by exact opd_assign rfl rfl) ?_
    refine al_nil ?_
    refine awp_seq ?_
    refine awp_seq ?_
    refine awp_region ?_
    refine al_d rfl rfl rfl (by exact opd_move rfl rfl) ?_
    refine al_d rfl rfl rfl (by exact opd_move rfl rfl) ?_
    refine al_d rfl rfl rfl (by exact opr_call rfl rfl Try.call21 rfl (same9_t rfl _ (by omega))) ?_
    refine al_d rfl rfl rfl (by exact opd_not rfl rfl) ?_
    refine al_d rfl rfl rfl (by exact opd_move rfl rfl) ?_
    refine al_ond rfl rfl rfl (by first | rfl | assumption) rfl rfl (by exact opd_move rfl rfl) ?_
    refine al_ond rfl rfl rfl (by first | rfl | assumption) rfl rfl (by exact opd_move rfl rfl) ?_
    refine al_ond rfl rfl rfl (by first | rfl | assumption) rfl rfl (by exact opr_call rfl rfl Try.call22 rfl (strings9_t rfl _ (by omega))) ?_
    refine al_ond rfl rfl rfl (by first | rfl | assumption) rfl rfl (by exact opd_not rfl rfl) ?_
    refine al_d rfl rfl rfl (by exact (by first | exact opd_pick_t rfl rfl rfl | exact opd_pick_f rfl rfl rfl | exact opd_pickt rfl rfl (by assumption) rfl | exact opd_pickf rfl rfl (by assumption) rfl | exact opd_pick rfl rfl rfl)) ?_
    refine al_nil ?_
    refine awp_cond rfl (fun hc2 => ?_) (fun hc2 => ?_)
    -- cond 2
    · skip
      (first | (cases hc2; done) | (revert hc2; simp; done) | (revert hc2; simp_all; done) | (revert hc2; simp_all; omega))
    · skip
      by_cases hB : gTags b = true
      · by_cases hO : gTags o = true
        · have hm1 := merge_base hB hO
          have hm2 := merge_same hB hO
          refine awp_skip ?_
          refine awp_seq ?_
          refine awp_seq ?_
          refine awp_region ?_
          refine al_d rfl rfl rfl (by exact opd_move rfl rfl) ?_
          refine al_d rfl rfl rfl (by exact opr_call rfl rfl Try.call23 rfl (valid9v hB _ hb.1)) ?_
          refine al_d rfl rfl rfl (by exact opd_not rfl rfl) ?_
          refine al_d rfl rfl rfl (by exact opd_move rfl rfl) ?_
          refine al_ond rfl rfl rfl (by first | rfl | assumption) rfl rfl (by exact opd_move rfl rfl) ?_
          refine al_ond rfl rfl rfl (by first | rfl | assumption) rfl rfl (by exact opr_call rfl rfl Try.call23 rfl (valid9v hO _ ho.1)) ?_
          refine al_ond rfl rfl rfl (by first | rfl | assumption) rfl rfl (by exact opd_not rfl rfl) ?_
          refine al_d rfl rfl rfl (by exact (by first | exact opd_pick_t rfl rfl rfl | exact opd_pick_f rfl rfl rfl | exact opd_pickt rfl rfl (by assumption) rfl | exact opd_pickf rfl rfl (by assumption) rfl | exact opd_pick rfl rfl rfl)) ?_
          refine al_nil ?_
          refine awp_cond rfl (fun hc3 => ?_) (fun hc3 => ?_)
          -- cond 3
          · skip
            (first | (cases hc3; done) | (revert hc3; simp; done) | (revert hc3; simp_all; done) | (revert hc3; simp_all; omega))
          · skip
            refine awp_skip ?_
            refine awp_seq ?_
            refine awp_region ?_
            refine al_d rfl rfl rfl (by exact opd_move rfl rfl) ?_
            refine al_d rfl rfl rfl (by exact opd_move rfl rfl) ?_
            refine al_d rfl rfl rfl (by exact opd_move rfl rfl) ?_
            refine al_d rfl rfl rfl (by exact opr_call rfl rfl Try.call13 rfl (merge9_t hm1 _ hb.1 ho.1 hb.1 (by omega) (by omega) (by omega))) ?_
            refine al_d rfl rfl rfl (by exact opd_move rfl rfl) ?_
            refine al_d rfl rfl rfl (by exact opd_extract rfl rfl rfl) ?_
            refine al_d rfl rfl rfl (by exact opd_extract rfl rfl rfl) ?_
            refine al_d rfl rfl rfl (by exact opd_assign rfl rfl) ?_
            refine al_d rfl rfl rfl (by exact opd_assign rfl rfl) ?_
            refine al_nil ?_
            refine awp_seq ?_
            refine awp_region ?_
            refine al_d rfl rfl rfl (by exact opd_move rfl rfl) ?_
            refine al_d rfl rfl rfl (by exact opd_move rfl rfl) ?_
            refine al_d rfl rfl rfl (by exact opd_move rfl rfl) ?_
            refine al_d rfl rfl rfl (by exact opr_call rfl rfl Try.call13 rfl (merge9_t hm2 _ hb.1 ho.1 ho.1 (by omega) (by omega) (by omega))) ?_
            refine al_d rfl rfl rfl (by exact opd_move rfl rfl) ?_
            refine al_d rfl rfl rfl (by exact opd_extract rfl rfl rfl) ?_
            refine al_d rfl rfl rfl (by exact opd_extract rfl rfl rfl) ?_
            refine al_d rfl rfl rfl (by exact opd_assign rfl rfl) ?_
            refine al_d rfl rfl rfl (by exact opd_assign rfl rfl) ?_
            refine al_nil ?_
            refine awp_seq ?_
            refine awp_region ?_
            refine al_d rfl rfl rfl (by exact opd_move rfl rfl) ?_
            refine al_d rfl rfl rfl (by exact opd_move rfl rfl) ?_
            refine al_ond rfl rfl rfl (by first | rfl | assumption) rfl rfl (by exact opd_move rfl rfl) ?_
            refine al_ond rfl rfl rfl (by first | rfl | assumption) rfl rfl (by exact opd_move rfl rfl) ?_
            refine al_ond rfl rfl rfl (by first | rfl | assumption) rfl rfl (by exact opr_call rfl rfl Try.call21 rfl (same9_t rfl _ (by omega))) ?_
            refine al_d rfl rfl rfl (by exact (by first | exact opd_pick_t rfl rfl rfl | exact opd_pick_f rfl rfl rfl | exact opd_pickt rfl rfl (by assumption) rfl | exact opd_pickf rfl rfl (by assumption) rfl | exact opd_pick rfl rfl rfl)) ?_
            refine al_d rfl rfl rfl (by exact opd_move rfl rfl) ?_
            refine al_ond rfl rfl rfl (by first | rfl | assumption) rfl rfl (by exact opd_move rfl rfl) ?_
            refine al_ond rfl rfl rfl (by first | rfl | assumption) rfl rfl (by exact opd_move rfl rfl) ?_
            refine al_ond rfl rfl rfl (by first | rfl | assumption) rfl rfl (by exact opr_call rfl rfl Try.call21 rfl (same9_t rfl _ (by omega))) ?_
            refine al_d rfl rfl rfl (by exact (by first | exact opd_pick_t rfl rfl rfl | exact opd_pick_f rfl rfl rfl | exact opd_pickt rfl rfl (by assumption) rfl | exact opd_pickf rfl rfl (by assumption) rfl | exact opd_pick rfl rfl rfl)) ?_
            refine al_d rfl rfl rfl (by exact opd_move rfl rfl) ?_
            refine al_ond rfl rfl rfl (by first | rfl | assumption) rfl rfl (by exact opd_move rfl rfl) ?_
            refine al_ond rfl rfl rfl (by first | rfl | assumption) rfl rfl (by exact (by first | exact opd_len_sl rfl Try.underlying28 rfl | exact opd_len_osl rfl Try.underlying28 rfl rfl rfl)) ?_
            refine al_ond rfl rfl rfl (by first | rfl | assumption) rfl rfl (by exact opd_eql rfl rfl rfl) ?_
            refine al_d rfl rfl rfl (by exact (by first | exact opd_pick_t rfl rfl rfl | exact opd_pick_f rfl rfl rfl | exact opd_pickt rfl rfl (by assumption) rfl | exact opd_pickf rfl rfl (by assumption) rfl | exact opd_pick rfl rfl rfl)) ?_
            refine al_d rfl rfl rfl (by exact opd_move rfl rfl) ?_
            refine al_ond rfl rfl rfl (by first | rfl | assumption) rfl rfl (by exact opd_move rfl rfl) ?_
            refine al_ond rfl rfl rfl (by first | rfl | assumption) rfl rfl (by exact (by first | exact opd_len_sl rfl Try.underlying28 rfl | exact opd_len_osl rfl Try.underlying28 rfl rfl rfl)) ?_
            refine al_ond rfl rfl rfl (by first | rfl | assumption) rfl rfl (by exact opd_eql rfl rfl rfl) ?_
            refine al_d rfl rfl rfl (by exact (by first | exact opd_pick_t rfl rfl rfl | exact opd_pick_f rfl rfl rfl | exact opd_pickt rfl rfl (by assumption) rfl | exact opd_pickf rfl rfl (by assumption) rfl | exact opd_pick rfl rfl rfl)) ?_
            refine al_d rfl rfl rfl (by exact opd_assign rfl rfl) ?_
            refine al_nil ?_
            refine awp_ret ?_
            -- return
            refine aret1 (H' := []) (by first | exact .inr rfl | exact .inl rfl) rfl (rval_tmp rfl) (Fin.wk (by simp) trivial trivial) ?_
            exact ⟨rfl, rfl⟩
        · have hOf : gTags o = false := by simpa using hO
          have hbad := merge_bad (b := b) (o := o) (t := t) (by rw [hOf]; simp)
          rw [hxc] at hbad
          cases hbad
          refine awp_skip ?_
          refine awp_seq ?_
          refine awp_seq ?_
          refine awp_region ?_
          refine al_d rfl rfl rfl (by exact opd_move rfl rfl) ?_
          refine al_d rfl rfl rfl (by exact opr_call rfl rfl Try.call23 rfl (valid9v hB _ hb.1)) ?_
          refine al_d rfl rfl rfl (by exact opd_not rfl rfl) ?_
          refine al_d rfl rfl rfl (by exact opd_move rfl rfl) ?_
          refine al_ond rfl rfl rfl (by first | rfl | assumption) rfl rfl (by exact opd_move rfl rfl) ?_
          refine al_ond rfl rfl rfl (by first | rfl | assumption) rfl rfl (by exact opr_call rfl rfl Try.call23 rfl (valid9v hOf _ ho.1)) ?_
          refine al_ond rfl rfl rfl (by first | rfl | assumption) rfl rfl (by exact opd_not rfl rfl) ?_
          refine al_d rfl rfl rfl (by exact (by first | exact opd_pick_t rfl rfl rfl | exact opd_pick_f rfl rfl rfl | exact opd_pickt rfl rfl (by assumption) rfl | exact opd_pickf rfl rfl (by assumption) rfl | exact opd_pick rfl rfl rfl)) ?_
          refine al_nil ?_
          refine awp_cond rfl (fun hc4 => ?_) (fun hc4 => ?_)
          -- cond 4
          · skip
            refine awp_seq ?_
            refine awp_region ?_
            refine al_d rfl rfl rfl (by exact opd_move rfl rfl) ?_
            refine al_d rfl rfl rfl (by exact opd_move rfl rfl) ?_
            refine al_ond rfl rfl rfl (by first | rfl | assumption) rfl rfl (by exact opd_move rfl rfl) ?_
            refine al_ond rfl rfl rfl (by first | rfl | assumption) rfl rfl (by exact (by first | exact opd_len_sl rfl Try.underlying22 rfl | exact opd_len_osl rfl Try.underlying22 rfl rfl rfl)) ?_
            refine al_ond rfl rfl rfl (by first | rfl | assumption) rfl rfl (by exact opd_eql rfl rfl rfl) ?_
            refine al_d rfl rfl rfl (by exact (by first | exact opd_pick_t rfl rfl rfl | exact opd_pick_f rfl rfl rfl | exact opd_pickt rfl rfl (by assumption) rfl | exact opd_pickf rfl rfl (by assumption) rfl | exact opd_pick rfl rfl rfl)) ?_
            refine al_d rfl rfl rfl (by exact opd_move rfl rfl) ?_
            refine al_ond rfl rfl rfl (by first | rfl | assumption) rfl rfl (by exact opd_move rfl rfl) ?_
            refine al_ond rfl rfl rfl (by first | rfl | assumption) rfl rfl (by exact (by first | exact opd_len_sl rfl Try.underlying28 rfl | exact opd_len_osl rfl Try.underlying28 rfl rfl rfl)) ?_
            refine al_ond rfl rfl rfl (by first | rfl | assumption) rfl rfl (by exact opd_eql rfl rfl rfl) ?_
            refine al_d rfl rfl rfl (by exact (by first | exact opd_pick_t rfl rfl rfl | exact opd_pick_f rfl rfl rfl | exact opd_pickt rfl rfl (by assumption) rfl | exact opd_pickf rfl rfl (by assumption) rfl | exact opd_pick rfl rfl rfl)) ?_
            refine al_d rfl rfl rfl (by exact opd_assign rfl rfl) ?_
            refine al_nil ?_
            refine awp_ret ?_
            -- return
            refine aret1 (H' := []) (by first | exact .inr rfl | exact .inl rfl) rfl (rval_tmp rfl) (Fin.wk (by simp) trivial trivial) ?_
            exact ⟨rfl, rfl⟩
          · skip
            (first | (cases hc4; done) | (revert hc4; simp; done) | (revert hc4; simp_all; done) | (revert hc4; simp_all; omega))
      · have hBf : gTags b = false := by simpa using hB
        have hbad := merge_bad (b := b) (o := o) (t := t) (by rw [hBf]; simp)
        rw [hxc] at hbad
        cases hbad
        refine awp_skip ?_
        refine awp_seq ?_
        refine awp_seq ?_
        refine awp_region ?_
        refine al_d rfl rfl rfl (by exact opd_move rfl rfl) ?_
        refine al_d rfl rfl rfl (by exact opr_call rfl rfl Try.call23 rfl (valid9v hBf _ hb.1)) ?_
        refine al_d rfl rfl rfl (by exact opd_not rfl rfl) ?_
        refine al_d rfl rfl rfl (by exact opd_move rfl rfl) ?_
        refine al_off rfl rfl rfl (by first | rfl | assumption) rfl ?_
        refine al_off rfl rfl rfl (by first | rfl | assumption) rfl ?_
        refine al_off rfl rfl rfl (by first | rfl | assumption) rfl ?_
        refine al_d rfl rfl rfl (by exact (by first | exact opd_pick_t rfl rfl rfl | exact opd_pick_f rfl rfl rfl | exact opd_pickt rfl rfl (by assumption) rfl | exact opd_pickf rfl rfl (by assumption) rfl | exact opd_pick rfl rfl rfl)) ?_
        refine al_nil ?_
        refine awp_cond rfl (fun hc5 => ?_) (fun hc5 => ?_)
        -- cond 5
        · skip
          refine awp_seq ?_
          refine awp_region ?_
          refine al_d rfl rfl rfl (by exact opd_move rfl rfl) ?_
          refine al_d rfl rfl rfl (by exact opd_move rfl rfl) ?_
          refine al_ond rfl rfl rfl (by first | rfl | assumption) rfl rfl (by exact opd_move rfl rfl) ?_
          refine al_ond rfl rfl rfl (by first | rfl | assumption) rfl rfl (by exact (by first | exact opd_len_sl rfl Try.underlying22 rfl | exact opd_len_osl rfl Try.underlying22 rfl rfl rfl)) ?_
          refine al_ond rfl rfl rfl (by first | rfl | assumption) rfl rfl (by exact opd_eql rfl rfl rfl) ?_
          refine al_d rfl rfl rfl (by exact (by first | exact opd_pick_t rfl rfl rfl | exact opd_pick_f rfl rfl rfl | exact opd_pickt rfl rfl (by assumption) rfl | exact opd_pickf rfl rfl (by assumption) rfl | exact opd_pick rfl rfl rfl)) ?_
          refine al_d rfl rfl rfl (by exact opd_move rfl rfl) ?_
          refine al_ond rfl rfl rfl (by first | rfl | assumption) rfl rfl (by exact opd_move rfl rfl) ?_
          refine al_ond rfl rfl rfl (by first | rfl | assumption) rfl rfl (by exact (by first | exact opd_len_sl rfl Try.underlying28 rfl | exact opd_len_osl rfl Try.underlying28 rfl rfl rfl)) ?_
          refine al_ond rfl rfl rfl (by first | rfl | assumption) rfl rfl (by exact opd_eql rfl rfl rfl) ?_
          refine al_d rfl rfl rfl (by exact (by first | exact opd_pick_t rfl rfl rfl | exact opd_pick_f rfl rfl rfl | exact opd_pickt rfl rfl (by assumption) rfl | exact opd_pickf rfl rfl (by assumption) rfl | exact opd_pick rfl rfl rfl)) ?_
          refine al_d rfl rfl rfl (by exact opd_assign rfl rfl) ?_
          refine al_nil ?_
          refine awp_ret ?_
          -- return
          refine aret1 (H' := []) (by first | exact .inr rfl | exact .inl rfl) rfl (rval_tmp rfl) (Fin.wk (by simp) trivial trivial) ?_
          exact ⟨rfl, rfl⟩
        · skip
          (first | (cases hc5; done) | (revert hc5; simp; done) | (revert hc5; simp_all; done) | (revert hc5; simp_all; omega))
end Go.Proofs.Ytedfihgkopejcaa
end
