/-
  TAGS, plain: tags by their lookups; what tag.Set does to them. Conditions: none.
  THE LAW planispherelaw09.TagSets: it answers true. Conditions: sizes below 2^36.
  WHAT THE ARGUMENTS OF THE LAWS ABOUT TAGS HOLD. Conditions: none.
  TAGS MERGED, plain: tag.Merge by lookups. Conditions: none.
  THE LAW planispherelaw09.TagMerges: it answers true. Conditions: sizes below 2^36.
  THE LAW planispherelaw09.TagConflicts: it answers true. Conditions: sizes below 2^36.
-/
import Derived.Test.YtedfihgkopejcaaKT4M8
section
set_option linter.unusedVariables false
set_option linter.unusedSimpArgs false
namespace Go.Proofs.Ytedfihgkopejcaa
open Go.Abs
def vOf (l : List GTag) (k : ByteArray) : ByteArray := (gGet l k).getD sNil
theorem asc_inj {l : List GTag} (ha : asc GTag.key l) {a b : GTag} (h1 : a ∈ l) (h2 : b ∈ l) (e : a.key = b.key) : a = b := by
  obtain ⟨i, hi⟩ := List.mem_iff_getElem?.1 h1
  obtain ⟨j, hj⟩ := List.mem_iff_getElem?.1 h2
  rcases Nat.lt_trichotomy i j with h | h | h
  · have := asc_get ha h hi hj
    rw [e, slt_irr] at this; cases this
  · subst h
    rw [hi] at hj; exact Option.some.inj hj
  · have := asc_get ha h hj hi
    rw [e, slt_irr] at this; cases this
theorem gGet_mem {l : List GTag} {k v : ByteArray} (h : gGet l k = some v) : (⟨k, v⟩ : GTag) ∈ l := by
  rw [gGet, Option.map_eq_some_iff] at h
  obtain ⟨t, ht, rfl⟩ := h
  have h1 := List.find?_some ht
  have h2 := List.mem_of_find?_eq_some ht
  have e := of_decide_eq_true h1
  obtain ⟨a, b⟩ := t
  subst e
  exact h2
theorem gGet_of {l : List GTag} (ha : asc GTag.key l) {k v : ByteArray} (h : (⟨k, v⟩ : GTag) ∈ l) : gGet l k = some v := by
  cases hf : l.find? (fun t => decide (t.key = k)) with
  | none =>
    have := List.find?_eq_none.1 hf _ h
    simp at this
  | some t =>
    have h0 := List.find?_some hf
    have h1 : t.key = k := of_decide_eq_true h0
    have h2 := List.mem_of_find?_eq_some hf
    have := asc_inj ha h2 h h1
    subst this
    rw [gGet, hf]
    rfl
theorem gGet_none {l : List GTag} {k : ByteArray} (h : ∀ t, t ∈ l → t.key ≠ k) : gGet l k = none := by
  cases e : gGet l k with
  | none => rfl
  | some v => exact absurd rfl (h _ (gGet_mem e))
/-- What tag.Set asks for. -/
def canSet (l : List GTag) (key val : ByteArray) : Prop := gTags l = true ∧ gName key = true ∧ val.size ≤ 200 ∧ (hasK GTag.key l key = false → val ≠ sNil → l.length ≠ 60)
end Go.Proofs.Ytedfihgkopejcaa
end
section
set_option linter.unusedVariables false
set_option linter.unusedSimpArgs false
set_option maxRecDepth 100000
namespace Go.Proofs.Ytedfihgkopejcaa
open Go.Abs
/-- Tags of a moderate size. -/
def szT (l : List GTag) : Prop := okTags l ∧ l.length < 68719476736
theorem get9v {l : List GTag} {k v : ByteArray} {b : Bool} (h : (gGet l k).getD sNil = v) (h2 : (gGet l k).isSome = b) (H : Heap) (hl : l.length < 4611686018427387904) : ACalls Try.prog 19 [.pv (slTags l), sv k] H (fun r H' => r = .tup [sv v, bv b] ∧ H' = H) := by
  have := tagGet_c l k H hl
  rwa [h, h2] at this
end Go.Proofs.Ytedfihgkopejcaa
end
section
set_option linter.unusedVariables false
set_option linter.unusedSimpArgs false
namespace Go.Proofs.Ytedfihgkopejcaa
open Go.Abs
theorem szT_of {l : List GTag} (h : szTags 1048576 l) : szT l := ⟨okTags_of (by decide) h, by have := h.1; omega⟩
end Go.Proofs.Ytedfihgkopejcaa
end
section
set_option linter.unusedVariables false
set_option linter.unusedSimpArgs false
namespace Go.Proofs.Ytedfihgkopejcaa
open Go.Abs
/-! ### names in order -/
theorem toU_ofU9 (l : List UInt8) : toU (ofU l) = l := by simp [toU, ofU]
theorem slt_toU9 (a b : ByteArray) : slt a b = decide (toU a < toU b) := by
  unfold slt
  rw [bytesLess_eq, ByteArray.toList_eq, ByteArray.toList_eq]
  rfl
theorem sortS_up {l : List ByteArray} (hn : l.Nodup) : (sortS l).Pairwise (fun a b => slt a b = true) := by
  have hle : (sortS l).Pairwise (fun a b => slt b a = false) := by
    unfold sortS
    rw [List.pairwise_map]
    refine List.Pairwise.imp (R := fun (x y : List UInt8) => decide (x ≤ y) = true) (fun {x y} h => ?_) (List.pairwise_mergeSort (le := fun (x y : List UInt8) => decide (x ≤ y)) (fun a b c h1 h2 => decide_eq_true (List.le_trans (of_decide_eq_true h1) (of_decide_eq_true h2))) u8_le_total _)
    rw [slt_toU9, toU_ofU9, toU_ofU9]
    exact decide_eq_false (List.not_lt.2 (of_decide_eq_true h))
  have hp : (sortS l).Pairwise (fun a b => a ≠ b) := (sortS_perm l).symm.pairwise hn (fun {a b} h => h.symm)
  refine (hp.and hle).imp fun {a b} h => ?_
  obtain ⟨h1, h2⟩ := h
  cases hc : slt a b with
  | true => rfl
  | false => exact absurd (slt_tri hc h2) h1
/-! ### what the three sides have for a key -/
theorem ent3_add (L : List M3) (s k : ByteArray) : ent3 (addK L s) k = ent3 L k := by
  unfold addK
  split
  · rfl
  · rw [ent3, ent3, List.find?_append]
    cases L.find? fun p => decide (p.k = k) with
    | some p => rfl
    | none =>
      by_cases h : s = k
      · subst h
        simp [M3.nil]
      · simp [M3.nil, h]
theorem find_set (i : Nat) (s v k : ByteArray) : ∀ (L : List M3), (setK i s v L).find? (fun p => decide (p.k = k)) = (L.find? fun p => decide (p.k = k)).map fun p => if p.k = s then p.up i v else p
  | [] => rfl
  | p :: L => by
    have ih := find_set i s v k L
    rw [setK, List.map_cons, List.find?_cons, List.find?_cons]
    have hk : (if p.k = s then p.up i v else p).k = p.k := by
      split
      · exact up_k i v p
      · rfl
    rw [hk]
    by_cases h : p.k = k
    · rw [decide_eq_true h]
      rfl
    · rw [decide_eq_false h]
      exact ih
theorem ent3_ins (i : Nat) (L : List M3) (t : GTag) (k : ByteArray) : ent3 (insK i L t) k = if t.key = k then (ent3 L k).up i t.val else ent3 L k := by
  have hin : t.key ∈ (addK L t.key).map M3.k := addK_has L t.key
  rw [insK, ent3, find_set, ← ent3_add L t.key k]
  obtain ⟨M, hM⟩ : ∃ M, M = addK L t.key := ⟨_, rfl⟩
  rw [← hM] at hin ⊢
  rw [ent3]
  cases hf : M.find? fun p => decide (p.k = k) with
  | none =>
    have hne : ¬ t.key = k := fun e => by
      obtain ⟨p, hp, hpk⟩ := List.mem_map.1 hin
      have := List.find?_eq_none.1 hf p hp
      rw [hpk, decide_eq_true e] at this
      exact this rfl
    rw [if_neg hne]
    rfl
  | some p =>
    have h := List.find?_some hf
    have hpk : p.k = k := of_decide_eq_true h
    show (if p.k = t.key then p.up i t.val else p) = if t.key = k then p.up i t.val else p
    rw [hpk]
    by_cases e : k = t.key
    · rw [if_pos e, if_pos e.symm]
    · rw [if_neg e, if_neg (Ne.symm e)]
theorem ent3_side (i : Nat) (k : ByteArray) : ∀ (l : List GTag) (L : List M3), asc GTag.key l → ent3 (sideK i L l) k = match gGet l k with
    | some v => (ent3 L k).up i v
    | none => ent3 L k
  | [], L, _ => rfl
  | t :: r, L, ha => by
    rw [asc, List.pairwise_cons] at ha
    have ih := ent3_side i k r (insK i L t) ha.2
    show ent3 (sideK i (insK i L t) r) k = _
    rw [ih, ent3_ins]
    by_cases e : t.key = k
    · have hr : gGet r k = none := gGet_none fun x hx h => by
        have := ha.1 x hx
        rw [e, h, slt_irr] at this; cases this
      have hg : gGet (t :: r) k = some t.val := by rw [gGet, List.find?_cons, decide_eq_true e]; rfl
      rw [hr, hg, if_pos e]
    · have hg : gGet (t :: r) k = gGet r k := by rw [gGet, List.find?_cons, decide_eq_false e]; rfl
      rw [hg, if_neg e]
theorem up_or (i : Nat) (p : M3) (l : List GTag) (k : ByteArray) (h0 : i = 0 → p.b = sNil) (h1 : i = 1 → p.o = sNil) (h2 : i = 2 → p.t = sNil) (hi : i < 3) : (match gGet l k with
    | some v => p.up i v
    | none => p) = p.up i (vOf l k) := by
  rw [vOf]
  cases gGet l k with
  | some v => rfl
  | none =>
    obtain ⟨pk, pb, po, pt⟩ := p
    match i, hi with
    | 0, _ => have := h0 rfl; subst this; rfl
    | 1, _ => have := h1 rfl; subst this; rfl
    | 2, _ => have := h2 rfl; subst this; rfl
theorem ent3_all {b o t : List GTag} (hb : asc GTag.key b) (ho : asc GTag.key o) (ht : asc GTag.key t) (k : ByteArray) : ent3 (all3 b o t) k = ⟨k, vOf b k, vOf o k, vOf t k⟩ := by
  rw [all3, ent3_side 2 k t _ ht, ent3_side 1 k o _ ho, ent3_side 0 k b _ hb]
  have e0 : ent3 [] k = M3.nil k := rfl
  rw [e0, up_or 0 (M3.nil k) b k (fun _ => rfl) (fun h => by cases h) (fun h => by cases h) (by decide),
    up_or 1 _ o k (fun h => by cases h) (fun _ => rfl) (fun h => by cases h) (by decide),
    up_or 2 _ t k (fun h => by cases h) (fun h => by cases h) (fun _ => rfl) (by decide)]
  rfl
theorem key_side (i : Nat) (k : ByteArray) : ∀ (l : List GTag) (L : List M3), k ∈ (sideK i L l).map M3.k ↔ k ∈ L.map M3.k ∨ k ∈ l.map GTag.key
  | [], L => by simp [sideK]
  | t :: r, L => by
    show k ∈ (sideK i (insK i L t) r).map M3.k ↔ _
    rw [key_side i k r, insK, setK_k, List.map_cons, List.mem_cons]
    have : k ∈ (addK L t.key).map M3.k ↔ k ∈ L.map M3.k ∨ k = t.key := by
      by_cases h : t.key ∈ L.map M3.k
      · rw [addK_in h]
        exact ⟨.inl, fun h' => by rcases h' with h' | rfl; exact h'; exact h⟩
      · rw [addK_new h, List.map_append, List.mem_append]
        simp [M3.nil]
    rw [this, or_assoc]
/-- The keys of three sides, in order. -/
def keys3 (b o t : List GTag) : List ByteArray := sortS ((all3 b o t).map M3.k)
theorem keys3_mem {b o t : List GTag} {k : ByteArray} : k ∈ keys3 b o t ↔ k ∈ b.map GTag.key ∨ k ∈ o.map GTag.key ∨ k ∈ t.map GTag.key := by
  rw [keys3, (sortS_perm _).mem_iff, all3, key_side, key_side, key_side]
  simp [or_assoc]
theorem keys3_up (b o t : List GTag) : (keys3 b o t).Pairwise (fun a b => slt a b = true) := sortS_up (all3_nodup b o t)
theorem keys3_len (b o t : List GTag) : (keys3 b o t).length ≤ b.length + o.length + t.length := by
  rw [keys3, sortS_length, List.length_map]
  have h1 := sideK_len 2 t (sideK 1 (sideK 0 [] b) o)
  have h2 := sideK_len 1 o (sideK 0 [] b)
  have h3 := sideK_len 0 b []
  rw [List.length_nil] at h3
  show (sideK 2 (sideK 1 (sideK 0 [] b) o) t).length ≤ _
  omega
def at3 (b o t : List GTag) (k : ByteArray) : M3 := ⟨k, vOf b k, vOf o k, vOf t k⟩
theorem srt3_eq {b o t : List GTag} (hb : asc GTag.key b) (ho : asc GTag.key o) (ht : asc GTag.key t) : srt3 (all3 b o t) = (keys3 b o t).map (at3 b o t) :=
  List.map_congr_left fun k _ => ent3_all hb ho ht k
/-! ### the merge -/
def neB (p : M3) : Bool := !decide ((m1 p).1 = ⟨#[]⟩)
theorem fold_le : ∀ (P : List M3) (A : List GTag) (C : List ByteArray), A.length + (P.filter neB).length ≤ 60 → P.foldl mStep (A, C) = (A ++ (P.filter neB).map (fun p => ⟨p.k, (m1 p).1⟩), C ++ (P.filter fun p => (m1 p).2).map M3.k)
  | [], A, C, _ => by simp
  | p :: P, A, C, h => by
    rw [List.foldl_cons]
    have hC : mConf C p = C ++ (if (m1 p).2 then [p.k] else []) := by
      unfold mConf
      split
      · rfl
      · rw [List.append_nil]
    have hC2 : ((p :: P).filter fun p => (m1 p).2).map M3.k = (if (m1 p).2 then [p.k] else []) ++ (P.filter fun p => (m1 p).2).map M3.k := by
      rw [List.filter_cons]
      split <;> rfl
    rw [hC2, ← List.append_assoc, ← hC]
    by_cases hn : (m1 p).1 = ⟨#[]⟩
    · have hf : (p :: P).filter neB = P.filter neB := by rw [List.filter_cons, if_neg (by rw [neB, decide_eq_true hn]; simp)]
      rw [hf] at h ⊢
      have : mStep (A, C) p = (A, mConf C p) := by rw [mStep, if_pos hn]
      rw [this]
      exact fold_le P A (mConf C p) h
    · have hf : (p :: P).filter neB = p :: P.filter neB := by rw [List.filter_cons, if_pos (by rw [neB, decide_eq_false hn]; rfl)]
      rw [hf] at h ⊢
      rw [List.length_cons] at h
      have : mStep (A, C) p = (A ++ [⟨p.k, (m1 p).1⟩], mConf C p) := by rw [mStep, if_neg hn, if_pos (by show A.length < 60; omega)]
      rw [this, fold_le P (A ++ [(⟨p.k, (m1 p).1⟩ : GTag)]) (mConf C p) (by rw [List.length_append, List.length_singleton]; omega), List.map_cons, List.append_assoc]
      rfl
def mv (b o t : List GTag) (k : ByteArray) : ByteArray := (m1 (at3 b o t k)).1
def mc (b o t : List GTag) (k : ByteArray) : Bool := (m1 (at3 b o t k)).2
theorem mv_or (b o t : List GTag) (k : ByteArray) : mv b o t k = vOf b k ∨ mv b o t k = vOf o k ∨ mv b o t k = vOf t k := by
  unfold mv m1 at3
  dsimp only
  split
  · exact .inr (.inl rfl)
  · split
    · exact .inr (.inl rfl)
    · split
      · exact .inr (.inr rfl)
      · exact .inl rfl
theorem vOf_has {l : List GTag} {k : ByteArray} (h : vOf l k ≠ sNil) : (⟨k, vOf l k⟩ : GTag) ∈ l := by
  rw [vOf] at h ⊢
  cases hg : gGet l k with
  | none => rw [hg] at h; exact absurd rfl h
  | some v => exact gGet_mem hg
theorem mv_key {b o t : List GTag} {k : ByteArray} (h : mv b o t k ≠ sNil) : k ∈ keys3 b o t := by
  rw [keys3_mem]
  rcases mv_or b o t k with e | e | e
  · exact .inl (List.mem_map.2 ⟨_, vOf_has (e ▸ h), rfl⟩)
  · exact .inr (.inl (List.mem_map.2 ⟨_, vOf_has (e ▸ h), rfl⟩))
  · exact .inr (.inr (List.mem_map.2 ⟨_, vOf_has (e ▸ h), rfl⟩))
/-- Tags merged, by lookups, where they are few. -/
theorem merge_get {b o t : List GTag} (hb : gTags b = true) (ho : gTags o = true) (ht : gTags t = true) (hn : ((keys3 b o t).filter fun k => !decide (mv b o t k = ⟨#[]⟩)).length ≤ 60) :
    (gMerge b o t).2 = (keys3 b o t).filter (mc b o t) ∧ gTags (gMerge b o t).1 = true ∧ ∀ k, gGet (gMerge b o t).1 k = if mv b o t k = sNil then none else some (mv b o t k) := by
  obtain ⟨b1, b2, b3⟩ := gTags_iff.1 hb
  obtain ⟨o1, o2, o3⟩ := gTags_iff.1 ho
  obtain ⟨t1, t2, t3⟩ := gTags_iff.1 ht
  have hall : (gTags b && gTags o && gTags t) = true := by rw [hb, ho, ht]; rfl
  have hfil : ((keys3 b o t).map (at3 b o t)).filter neB = ((keys3 b o t).filter fun k => !decide (mv b o t k = ⟨#[]⟩)).map (at3 b o t) := by
    rw [List.filter_map]
    rfl
  have hfil2 : (((keys3 b o t).map (at3 b o t)).filter fun p => (m1 p).2) = ((keys3 b o t).filter (mc b o t)).map (at3 b o t) := by
    rw [List.filter_map]
    rfl
  have hG : gMerge b o t = (((keys3 b o t).filter fun k => !decide (mv b o t k = ⟨#[]⟩)).map (fun k => ⟨k, mv b o t k⟩), (keys3 b o t).filter (mc b o t)) := by
    rw [gMerge, if_pos hall, srt3_eq b2 o2 t2, fold_le _ [] [] (by rw [hfil, List.length_map, List.length_nil]; omega), hfil, hfil2, List.map_map, List.map_map, List.nil_append, List.nil_append]
    congr 1
    exact List.map_id' _
  rw [hG]
  obtain ⟨F, hF⟩ : ∃ F, F = (keys3 b o t).filter fun k => !decide (mv b o t k = ⟨#[]⟩) := ⟨_, rfl⟩
  rw [← hF] at hn ⊢
  have hup : F.Pairwise (fun a b => slt a b = true) := by rw [hF]; exact List.Pairwise.sublist List.filter_sublist (keys3_up b o t)
  have hFm : ∀ k, k ∈ F ↔ mv b o t k ≠ sNil := fun k => by
    rw [hF, List.mem_filter]
    constructor
    · rintro ⟨_, h⟩ e
      have : mv b o t k = ⟨#[]⟩ := e
      rw [decide_eq_true this] at h; cases h
    · intro h
      refine ⟨mv_key h, ?_⟩
      have : ¬ mv b o t k = ⟨#[]⟩ := h
      rw [decide_eq_false this]; rfl
  have hasc : asc GTag.key (F.map fun k => (⟨k, mv b o t k⟩ : GTag)) := List.pairwise_map.2 hup
  refine ⟨rfl, gTags_iff.2 ⟨fun x hx => ?_, hasc, by show (F.map _).length ≤ 60; rw [List.length_map]; exact hn⟩, fun k => ?_⟩
  · obtain ⟨k, hk, rfl⟩ := List.mem_map.1 hx
    have hne := (hFm k).1 hk
    show gName k = true ∧ mv b o t k ≠ sNil ∧ (mv b o t k).size ≤ 200
    have hv := mv_or b o t k
    rcases hv with e | e | e
    · have h := b1 _ (vOf_has (e ▸ hne))
      exact ⟨h.1, hne, by rw [e]; exact h.2.2⟩
    · have h := o1 _ (vOf_has (e ▸ hne))
      exact ⟨h.1, hne, by rw [e]; exact h.2.2⟩
    · have h := t1 _ (vOf_has (e ▸ hne))
      exact ⟨h.1, hne, by rw [e]; exact h.2.2⟩
  · show gGet (F.map fun k => (⟨k, mv b o t k⟩ : GTag)) k = _
    by_cases h : mv b o t k = sNil
    · rw [if_pos h]
      refine gGet_none fun x hx e => ?_
      obtain ⟨k', hk', rfl⟩ := List.mem_map.1 hx
      have e' : k' = k := e
      subst e'
      exact (hFm k').1 hk' h
    · rw [if_neg h]
      exact gGet_of hasc (List.mem_map.2 ⟨k, (hFm k).2 h, rfl⟩)
end Go.Proofs.Ytedfihgkopejcaa
end
section
set_option linter.unusedVariables false
set_option linter.unusedSimpArgs false
set_option maxRecDepth 100000
namespace Go.Proofs.Ytedfihgkopejcaa
open Go.Abs
theorem encTs_rl (ls : List (List GTag)) : ∀ r ∈ ls.map encTs, r.length = 1 := fun r hr => by
  obtain ⟨l, _, rfl⟩ := List.mem_map.1 hr
  rfl
theorem fold_len : ∀ (P : List M3) (a : List GTag × List ByteArray), (P.foldl mStep a).1.length ≤ a.1.length + P.length ∧ (P.foldl mStep a).2.length ≤ a.2.length + 2 * P.length
  | [], a => by simp
  | p :: P, a => by
    have h1 := mStep_len a p
    have h2 := fold_len P (mStep a p)
    rw [List.foldl_cons, List.length_cons]
    omega
theorem gMerge_len (b o t : List GTag) : (gMerge b o t).1.length ≤ b.length + o.length + t.length ∧ (gMerge b o t).2.length ≤ 2 * (b.length + o.length + t.length) := by
  unfold gMerge
  split
  · have h := fold_len (srt3 (all3 b o t)) ([], [])
    have h2 := keys3_len b o t
    have h3 : (srt3 (all3 b o t)).length = (keys3 b o t).length := by rw [srt3, List.length_map]; rfl
    rw [h3] at h
    simp only [List.length_nil, Nat.zero_add] at h
    omega
  · simp
end Go.Proofs.Ytedfihgkopejcaa
end
section
set_option linter.unusedVariables false
set_option linter.unusedSimpArgs false
set_option maxRecDepth 100000
namespace Go.Abs
theorem OpD.val {P : Program} {N : Nat} {o : Oper} {E : Env} {H H' : Heap} {b b' : Bool} (h : OpD P N o E H (.pv (.bool b)) H') (e : b = b') : OpD P N o E H (.pv (.bool b')) H' := e ▸ h
end Go.Abs
namespace Go.Proofs.Ytedfihgkopejcaa
open Go.Abs
theorem few20 {b o t : List GTag} (hb : gTags b = true) (ho : gTags o = true) (ht : gTags t = true) (h1 : b.length ≤ 20) (h2 : o.length ≤ 20) (h3 : t.length ≤ 20) : ((keys3 b o t).filter fun k => !decide (mv b o t k = ⟨#[]⟩)).length ≤ 60 := by
  have h4 := keys3_len b o t
  have h5 := List.length_filter_le (fun k => !decide (mv b o t k = ⟨#[]⟩)) (keys3 b o t)
  omega
theorem any_filter {S : List ByteArray} {p : ByteArray → Bool} {key : ByteArray} (h : p key = true → key ∈ S) : (S.filter p).any (fun s => decide (s = key)) = p key := by
  cases e : p key with
  | true => exact List.any_eq_true.2 ⟨key, List.mem_filter.2 ⟨h e, e⟩, decide_eq_true rfl⟩
  | false =>
    refine List.any_eq_false.2 fun x hx => ?_
    intro hd
    have := of_decide_eq_true hd
    subst this
    rw [(List.mem_filter.1 hx).2] at e
    cases e
theorem mc_key {b o t : List GTag} {k : ByteArray} (h : mc b o t k = true) : k ∈ keys3 b o t := by
  have hv : mc b o t k = true → vOf o k ≠ vOf b k ∧ vOf t k ≠ vOf b k ∧ vOf t k ≠ vOf o k := by
    unfold mc m1 at3
    dsimp only
    split
    · intro h; cases h
    · split
      · intro h; cases h
      · split
        · intro h; cases h
        · rename_i h1 h2 h3
          exact fun _ => ⟨h3, h2, h1⟩
  obtain ⟨h1, h2, h3⟩ := hv h
  rw [keys3_mem]
  by_cases e : vOf o k = sNil
  · by_cases e2 : vOf b k = sNil
    · exact absurd (e.trans e2.symm) h1
    · exact .inl (List.mem_map.2 ⟨_, vOf_has e2, rfl⟩)
  · exact .inr (.inl (List.mem_map.2 ⟨_, vOf_has e, rfl⟩))
theorem tagConflicts_c (b o t : List GTag) (key : ByteArray) (H : Heap) (hb : szT b) (ho : szT o) (ht : szT t) (hk : key.size < 4611686018427387904) : ACalls Try.prog 7 [.pv (slTags b), .pv (slTags o), .pv (slTags t), sv key] H (fun r H' => r = bv true ∧ H' = H) := by
  refine ACalls.pure ?_ (by simp) H
  have hb2 := hb.2
  have ho2 := ho.2
  have ht2 := ht.2
  refine ACalls.body Try.func7 rfl Try.ntmps7 (Nat.le_of_ble_eq_true rfl) ?_
  refine awp_seq ?_
  refine awp_region ?_
  refine al_d rfl rfl rfl (by exact opd_assign rfl rfl) ?_
  refine al_nil ?_
  refine awp_seq ?_
  refine awp_region ?_
  refine al_d rfl rfl rfl (by exact opr_call rfl rfl Try.call9 rfl (head9_c _)) ?_
  refine al_d rfl rfl rfl (by exact opd_assign rfl rfl) ?_
  refine al_nil ?_
  refine awp_seq ?_
  refine awp_seq ?_
  refine awp_bool (t := 60) (n := 42) (X := !fewAll [b, o, t] || decide (20 < ((b.map encTag).length : Int)) || decide (20 < ((o.map encTag).length : Int)) || decide (20 < ((t.map encTag).length : Int)) || !gTags b || !gTags o || !gTags t) ?_ ?_
  · all_goals (refine al_d rfl rfl rfl (by exact opd_move rfl rfl) ?_)
    all_goals (refine al_d rfl rfl rfl (by exact opd_move rfl rfl) ?_)
    all_goals (refine al_d rfl rfl rfl (by exact opd_move rfl rfl) ?_)
    all_goals (refine al_d rfl rfl rfl (by exact (by first | exact x_buildSlice ([b, o, t].map encTs) rfl so47 rfl rfl rfl rfl rfl (encTs_rl _) | (apply x_buildSlice (ps := ([b, o, t].map encTs)) (hS := so47) <;> first | rfl | exact (encTs_rl _) | simp))) ?_)
    all_goals (refine al_d rfl rfl rfl (by exact opr_call rfl rfl Try.call10 rfl (fewLaw_c [b, o, t] _ (by show 3 < _; omega) (by intro a ha; simp only [List.mem_cons, List.not_mem_nil, or_false] at ha; rcases ha with rfl | rfl | rfl; exact hb.1; exact ho.1; exact ht.1))) ?_)
    all_goals (refine al_d rfl rfl rfl (by exact opd_not rfl rfl) ?_)
    all_goals (refine al_d rfl rfl rfl (by exact opd_move rfl rfl) ?_)
    all_goals (first | refine al_split (t := 31) rfl (fun h31 => ?_) (fun h31 => ?_) | refine al_dup (t := 31) rfl ?_ | skip)
    all_goals (try contradiction)
    all_goals (first | refine al_off rfl rfl rfl rfl rfl ?_ | refine al_offu rfl rfl rfl rfl ?_ | refine al_ond rfl rfl rfl rfl rfl rfl (by exact opd_move rfl rfl) ?_)
    all_goals (first | refine al_off rfl rfl rfl rfl rfl ?_ | refine al_offu rfl rfl rfl rfl ?_ | refine al_ond rfl rfl rfl rfl rfl rfl (by exact (by first | exact opd_len_sl rfl Try.underlying22 rfl | exact opd_len_osl rfl Try.underlying22 rfl rfl rfl)) ?_)
    all_goals (first | refine al_off rfl rfl rfl rfl rfl ?_ | refine al_offu rfl rfl rfl rfl ?_ | refine al_ond rfl rfl rfl rfl rfl rfl (by exact opd_gtr rfl rfl rfl) ?_)
    all_goals (refine al_d rfl rfl rfl (by exact (by first | exact opd_pick_t rfl rfl rfl | exact opd_pick_f rfl rfl rfl | exact opd_pickt rfl rfl (by assumption) rfl | exact opd_pickf rfl rfl (by assumption) rfl | exact opd_pick rfl rfl rfl)) ?_)
    all_goals (refine al_d rfl rfl rfl (by exact opd_move rfl rfl) ?_)
    all_goals (first | refine al_split (t := 36) rfl (fun h36 => ?_) (fun h36 => ?_) | refine al_dup (t := 36) rfl ?_ | skip)
    all_goals (try contradiction)
    all_goals (first | refine al_off rfl rfl rfl rfl rfl ?_ | refine al_offu rfl rfl rfl rfl ?_ | refine al_ond rfl rfl rfl rfl rfl rfl (by exact opd_move rfl rfl) ?_)
    all_goals (first | refine al_off rfl rfl rfl rfl rfl ?_ | refine al_offu rfl rfl rfl rfl ?_ | refine al_ond rfl rfl rfl rfl rfl rfl (by exact (by first | exact opd_len_sl rfl Try.underlying22 rfl | exact opd_len_osl rfl Try.underlying22 rfl rfl rfl)) ?_)
    all_goals (first | refine al_off rfl rfl rfl rfl rfl ?_ | refine al_offu rfl rfl rfl rfl ?_ | refine al_ond rfl rfl rfl rfl rfl rfl (by exact opd_gtr rfl rfl rfl) ?_)
    all_goals (refine al_d rfl rfl rfl (by exact (by first | exact opd_pick_t rfl rfl rfl | exact opd_pick_f rfl rfl rfl | exact opd_pickt rfl rfl (by assumption) rfl | exact opd_pickf rfl rfl (by assumption) rfl | exact opd_pick rfl rfl rfl)) ?_)
    all_goals (refine al_d rfl rfl rfl (by exact opd_move rfl rfl) ?_)
    all_goals (first | refine al_split (t := 41) rfl (fun h41 => ?_) (fun h41 => ?_) | refine al_dup (t := 41) rfl ?_ | skip)
    all_goals (try contradiction)
    all_goals (first | refine al_off rfl rfl rfl rfl rfl ?_ | refine al_offu rfl rfl rfl rfl ?_ | refine al_ond rfl rfl rfl rfl rfl rfl (by exact opd_move rfl rfl) ?_)
    all_goals (first | refine al_off rfl rfl rfl rfl rfl ?_ | refine al_offu rfl rfl rfl rfl ?_ | refine al_ond rfl rfl rfl rfl rfl rfl (by exact (by first | exact opd_len_sl rfl Try.underlying22 rfl | exact opd_len_osl rfl Try.underlying22 rfl rfl rfl)) ?_)
    all_goals (first | refine al_off rfl rfl rfl rfl rfl ?_ | refine al_offu rfl rfl rfl rfl ?_ | refine al_ond rfl rfl rfl rfl rfl rfl (by exact opd_gtr rfl rfl rfl) ?_)
    all_goals (refine al_d rfl rfl rfl (by exact (by first | exact opd_pick_t rfl rfl rfl | exact opd_pick_f rfl rfl rfl | exact opd_pickt rfl rfl (by assumption) rfl | exact opd_pickf rfl rfl (by assumption) rfl | exact opd_pick rfl rfl rfl)) ?_)
    all_goals (refine al_d rfl rfl rfl (by exact opd_move rfl rfl) ?_)
    all_goals (first | refine al_split (t := 46) rfl (fun h46 => ?_) (fun h46 => ?_) | refine al_dup (t := 46) rfl ?_ | skip)
    all_goals (try contradiction)
    all_goals (first | refine al_off rfl rfl rfl rfl rfl ?_ | refine al_offu rfl rfl rfl rfl ?_ | refine al_ond rfl rfl rfl rfl rfl rfl (by exact opd_move rfl rfl) ?_)
    all_goals (first | refine al_off rfl rfl rfl rfl rfl ?_ | refine al_offu rfl rfl rfl rfl ?_ | refine al_ond rfl rfl rfl rfl rfl rfl (by exact opr_call rfl rfl Try.call23 rfl (tagValid_c b _ hb.1)) ?_)
    all_goals (first | refine al_off rfl rfl rfl rfl rfl ?_ | refine al_offu rfl rfl rfl rfl ?_ | refine al_ond rfl rfl rfl rfl rfl rfl (by exact opd_not rfl rfl) ?_)
    all_goals (refine al_d rfl rfl rfl (by exact (by first | exact opd_pick_t rfl rfl rfl | exact opd_pick_f rfl rfl rfl | exact opd_pickt rfl rfl (by assumption) rfl | exact opd_pickf rfl rfl (by assumption) rfl | exact opd_pick rfl rfl rfl)) ?_)
    all_goals (refine al_d rfl rfl rfl (by exact opd_move rfl rfl) ?_)
    all_goals (first | refine al_split (t := 51) rfl (fun h51 => ?_) (fun h51 => ?_) | refine al_dup (t := 51) rfl ?_ | skip)
    all_goals (try contradiction)
    all_goals (first | refine al_off rfl rfl rfl rfl rfl ?_ | refine al_offu rfl rfl rfl rfl ?_ | refine al_ond rfl rfl rfl rfl rfl rfl (by exact opd_move rfl rfl) ?_)
    all_goals (first | refine al_off rfl rfl rfl rfl rfl ?_ | refine al_offu rfl rfl rfl rfl ?_ | refine al_ond rfl rfl rfl rfl rfl rfl (by exact opr_call rfl rfl Try.call23 rfl (tagValid_c o _ ho.1)) ?_)
    all_goals (first | refine al_off rfl rfl rfl rfl rfl ?_ | refine al_offu rfl rfl rfl rfl ?_ | refine al_ond rfl rfl rfl rfl rfl rfl (by exact opd_not rfl rfl) ?_)
    all_goals (refine al_d rfl rfl rfl (by exact (by first | exact opd_pick_t rfl rfl rfl | exact opd_pick_f rfl rfl rfl | exact opd_pickt rfl rfl (by assumption) rfl | exact opd_pickf rfl rfl (by assumption) rfl | exact opd_pick rfl rfl rfl)) ?_)
    all_goals (refine al_d rfl rfl rfl (by exact opd_move rfl rfl) ?_)
    all_goals (first | refine al_split (t := 56) rfl (fun h56 => ?_) (fun h56 => ?_) | refine al_dup (t := 56) rfl ?_ | skip)
    all_goals (try contradiction)
    all_goals (first | refine al_off rfl rfl rfl rfl rfl ?_ | refine al_offu rfl rfl rfl rfl ?_ | refine al_ond rfl rfl rfl rfl rfl rfl (by exact opd_move rfl rfl) ?_)
    all_goals (first | refine al_off rfl rfl rfl rfl rfl ?_ | refine al_offu rfl rfl rfl rfl ?_ | refine al_ond rfl rfl rfl rfl rfl rfl (by exact opr_call rfl rfl Try.call23 rfl (tagValid_c t _ ht.1)) ?_)
    all_goals (first | refine al_off rfl rfl rfl rfl rfl ?_ | refine al_offu rfl rfl rfl rfl ?_ | refine al_ond rfl rfl rfl rfl rfl rfl (by exact opd_not rfl rfl) ?_)
    all_goals (refine al_d rfl rfl rfl (by exact (by first | exact opd_pick_t rfl rfl rfl | exact opd_pick_f rfl rfl rfl | exact opd_pickt rfl rfl (by assumption) rfl | exact opd_pickf rfl rfl (by assumption) rfl | exact opd_pick rfl rfl rfl)) ?_)
    all_goals (refine al_nil ?_)
    all_goals (exact ⟨⟨_, rfl, by first | rfl | (simp only [*, Bool.false_and, Bool.true_and, Bool.and_false, Bool.and_true, Bool.true_or, Bool.false_or, Bool.or_true, Bool.or_false, Bool.not_true, Bool.not_false]; done) | (simp_all; done) | (simp_all; omega)⟩, rfl, rfl, rfl⟩)
  refine awp_cond rfl (fun hc1 => ?_) (fun hc1 => ?_)
  -- cond 1
  · skip
    refine awp_seq ?_
    refine awp_region ?_
    refine al_d rfl rfl rfl (by exact opd_move rfl rfl) ?_
    refine al_d rfl rfl rfl (by exact opd_assign rfl rfl) ?_
    refine al_nil ?_
    refine awp_ret ?_
    -- return
    refine aret1 (H' := []) (by first | exact .inr rfl | exact .inl rfl) rfl (rval_tmp rfl) (Fin.wk (by simp) trivial trivial) ?_
    exact ⟨rfl, rfl⟩
  · have h := hc1
    simp only [Bool.or_eq_false_iff, decide_eq_false_iff_not, List.length_map, Bool.not_eq_false'] at h
    obtain ⟨⟨⟨⟨⟨⟨_, hb20⟩, ho20⟩, ht20⟩, hB⟩, hO⟩, hT⟩ := h
    obtain ⟨m2, m3, m4⟩ := merge_get hB hO hT (few20 hB hO hT (by omega) (by omega) (by omega))
    obtain ⟨x, c, hxc⟩ : ∃ x c, gMerge b o t = (x, c) := ⟨_, _, rfl⟩
    have hlen := gMerge_len b o t
    rw [hxc] at hlen m2 m3 m4
    dsimp only at hlen m2 m3 m4
    have hx : szT x := by
      obtain ⟨x1, x2, x3⟩ := gTags_iff.1 m3
      exact ⟨⟨by omega, fun t ht => by
        obtain ⟨a, b, c⟩ := x1 t ht
        exact ⟨by have := gName_size a; omega, by omega⟩⟩, by omega⟩
    have hcl : c.length < 4611686018427387904 := by omega
    have hup : c.Pairwise (fun a b => slt a b = true) := by rw [m2]; exact List.Pairwise.sublist List.filter_sublist (keys3_up b o t)
    have hany : c.any (fun s => decide (s = key)) = mc b o t key := by rw [m2]; exact any_filter mc_key
    have hg1 : (gGet x key).getD sNil = mv b o t key := by
      rw [m4]
      by_cases h : mv b o t key = sNil
      · rw [if_pos h, h]; rfl
      · rw [if_neg h]; rfl
    have hg2 : (gGet x key).isSome = !decide (mv b o t key = ⟨#[]⟩) := by
      rw [m4]
      by_cases h : mv b o t key = sNil
      · rw [if_pos h, decide_eq_true h]; rfl
      · rw [if_neg h, decide_eq_false h]; rfl
    have hml : (c.map encStr).length = c.length := List.length_map _
    refine awp_skip ?_
    refine awp_seq ?_
    refine awp_region ?_
    refine al_d rfl rfl rfl (by exact opd_move rfl rfl) ?_
    refine al_d rfl rfl rfl (by exact opd_move rfl rfl) ?_
    refine al_d rfl rfl rfl (by exact opd_move rfl rfl) ?_
    refine al_d rfl rfl rfl (by exact opr_call rfl rfl Try.call13 rfl (merge9_t hxc _ hb.1 ho.1 ht.1 hb2 ho2 ht2)) ?_
    refine al_d rfl rfl rfl (by exact opd_move rfl rfl) ?_
    refine al_d rfl rfl rfl (by exact opd_extract rfl rfl rfl) ?_
    refine al_d rfl rfl rfl (by exact opd_extract rfl rfl rfl) ?_
    refine al_d rfl rfl rfl (by exact opd_assign rfl rfl) ?_
    refine al_d rfl rfl rfl (by exact opd_assign rfl rfl) ?_
    refine al_nil ?_
    refine awp_seq ?_
    refine awp_region ?_
    refine al_d rfl rfl rfl (by exact opd_move rfl rfl) ?_
    refine al_d rfl rfl rfl (by exact opd_move rfl rfl) ?_
    refine al_d rfl rfl rfl (by exact opr_call rfl rfl Try.call19 rfl (get9v (v := vOf b key) rfl rfl _ (by omega))) ?_
    refine al_d rfl rfl rfl (by exact opd_move rfl rfl) ?_
    refine al_d rfl rfl rfl (by exact opd_extract rfl rfl rfl) ?_
    refine al_d rfl rfl rfl (by exact opd_extract rfl rfl rfl) ?_
    refine al_d rfl rfl rfl (by exact opd_assign rfl rfl) ?_
    refine al_d rfl rfl rfl (by exact opd_assign rfl rfl) ?_
    refine al_nil ?_
    refine awp_seq ?_
    refine awp_region ?_
    refine al_d rfl rfl rfl (by exact opd_move rfl rfl) ?_
    refine al_d rfl rfl rfl (by exact opd_move rfl rfl) ?_
    refine al_d rfl rfl rfl (by exact opr_call rfl rfl Try.call19 rfl (get9v (v := vOf o key) rfl rfl _ (by omega))) ?_
    refine al_d rfl rfl rfl (by exact opd_move rfl rfl) ?_
    refine al_d rfl rfl rfl (by exact opd_extract rfl rfl rfl) ?_
    refine al_d rfl rfl rfl (by exact opd_extract rfl rfl rfl) ?_
    refine al_d rfl rfl rfl (by exact opd_assign rfl rfl) ?_
    refine al_d rfl rfl rfl (by exact opd_assign rfl rfl) ?_
    refine al_nil ?_
    refine awp_seq ?_
    refine awp_region ?_
    refine al_d rfl rfl rfl (by exact opd_move rfl rfl) ?_
    refine al_d rfl rfl rfl (by exact opd_move rfl rfl) ?_
    refine al_d rfl rfl rfl (by exact opr_call rfl rfl Try.call19 rfl (get9v (v := vOf t key) rfl rfl _ (by omega))) ?_
    refine al_d rfl rfl rfl (by exact opd_move rfl rfl) ?_
    refine al_d rfl rfl rfl (by exact opd_extract rfl rfl rfl) ?_
    refine al_d rfl rfl rfl (by exact opd_extract rfl rfl rfl) ?_
    refine al_d rfl rfl rfl (by exact opd_assign rfl rfl) ?_
    refine al_d rfl rfl rfl (by exact opd_assign rfl rfl) ?_
    refine al_nil ?_
    refine awp_seq ?_
    refine awp_region ?_
    refine al_d rfl rfl rfl (by exact opd_move rfl rfl) ?_
    refine al_d rfl rfl rfl (by exact opd_move rfl rfl) ?_
    refine al_d rfl rfl rfl (by exact opr_call rfl rfl Try.call19 rfl (get9v hg1 hg2 _ (by have := hx.2; omega))) ?_
    refine al_d rfl rfl rfl (by exact opd_move rfl rfl) ?_
    refine al_d rfl rfl rfl (by exact opd_extract rfl rfl rfl) ?_
    refine al_d rfl rfl rfl (by exact opd_extract rfl rfl rfl) ?_
    refine al_d rfl rfl rfl (by exact opd_assign rfl rfl) ?_
    refine al_d rfl rfl rfl (by exact opd_assign rfl rfl) ?_
    refine al_nil ?_
    refine awp_seq ?_
    refine awp_region ?_
    refine al_d rfl rfl rfl (by exact opd_assign rfl rfl) ?_
    refine al_nil ?_
    refine awp_seq ?_
    refine awp_seq ?_
    refine awp_region ?_
    refine al_d rfl rfl rfl (by exact opd_assign rfl rfl) ?_
    refine al_nil ?_
    refine awp_block ?_
    -- loop
    refine awp_loop (σ := Nat) (fun k => ([(3, sv key), (9, bv true), (10, .pv (slTags x)), (11, .pv (slStrs c)), (12, sv (vOf b key)), (14, sv (vOf o key)), (16, sv (vOf t key)), (18, sv (mv b o t key)), (19, bv (!decide (mv b o t key = ⟨#[]⟩))), (20, bv ((c.take k).any fun s => decide (s = key))), (21, iv (k : Int))], [])) (fun k => k ≤ c.length) (fun k => c.length - k) 0 (Nat.zero_le _) ?_ ?_
    · rw [List.take_zero]
      exact Ent.e0 ⟨⟨_, rfl, rfl⟩, ⟨_, rfl, rfl⟩, ⟨_, rfl, rfl⟩, ⟨_, rfl, rfl⟩, ⟨_, rfl, rfl⟩, ⟨_, rfl, rfl⟩, ⟨_, rfl, rfl⟩, ⟨_, rfl, rfl⟩, ⟨_, rfl, rfl⟩, ⟨_, rfl, rfl⟩, ⟨_, rfl, rfl⟩, trivial⟩
    · intro k hkc
      obtain ⟨X, hX⟩ : ∃ X, X = (c.take k).any fun s => decide (s = key) := ⟨_, rfl⟩
      rw [← hX]
      refine awp_seq ?_
      refine awp_seq ?_
      refine awp_region ?_
      refine al_d rfl rfl rfl (by exact opd_move rfl rfl) ?_
      refine al_d rfl rfl rfl (by exact opd_move rfl rfl) ?_
      refine al_d rfl rfl rfl (by exact (by first | exact opd_len_sl rfl Try.underlying28 rfl | exact opd_len_osl rfl Try.underlying28 rfl rfl rfl)) ?_
      refine al_d rfl rfl rfl (by exact opd_lss rfl rfl rfl) ?_
      refine al_nil ?_
      refine awp_cond rfl (fun hc2 => ?_) (fun hc2 => ?_)
      -- cond 2
      · have hlt : k < c.length := by have h := of_decide_eq_true hc2; omega
        obtain ⟨s, hs⟩ := get_of_lt hlt
        have hi := map_get (f := encStr) hs
        have hXn : ((c.take (k + 1)).any fun s => decide (s = key)) = (X || decide (s = key)) := by rw [take_snoc hs, List.any_append, hX]; simp
        cases k with
        | zero =>
          have h0 : decide ((0 : Int) < ((0 : Nat) : Int)) = false := rfl
          refine awp_skip ?_
          refine awp_seq ?_
          refine awp_block ?_
          refine awp_seq ?_
          refine awp_bool (t := 20) (n := 11) (X := X || decide (s = key)) ?_ ?_
          · all_goals (refine al_d rfl rfl rfl (by exact opd_move rfl rfl) ?_)
            all_goals (refine al_d rfl rfl rfl (by exact opd_move rfl rfl) ?_)
            all_goals (first | refine al_split (t := 100) rfl (fun h100 => ?_) (fun h100 => ?_) | refine al_dup (t := 100) rfl ?_ | skip)
            all_goals (try contradiction)
            all_goals (first | refine al_off rfl rfl rfl rfl rfl ?_ | refine al_offu rfl rfl rfl rfl ?_ | refine al_ond rfl rfl rfl rfl rfl rfl (by exact opd_move rfl rfl) ?_)
            all_goals (first | refine al_off rfl rfl rfl rfl rfl ?_ | refine al_offu rfl rfl rfl rfl ?_ | refine al_ond rfl rfl rfl rfl rfl rfl (by exact opd_move rfl rfl) ?_)
            all_goals (first | refine al_off rfl rfl rfl rfl rfl ?_ | refine al_offu rfl rfl rfl rfl ?_ | refine al_ond rfl rfl rfl rfl rfl rfl (by exact (by first | exact x_index_pad rfl so28 rfl rfl (by omega) (by first | exact Int.toNat_natCast _ | rfl) hi rfl | exact x_index_osl rfl so28 rfl rfl rfl rfl rfl (by omega) (by first | exact Int.toNat_natCast _ | rfl) hi rfl)) ?_)
            all_goals (first | refine al_off rfl rfl rfl rfl rfl ?_ | refine al_offu rfl rfl rfl rfl ?_ | refine al_ond rfl rfl rfl rfl rfl rfl (by exact (by first | exact opd_load1_ref rfl Try.isAgg9 rfl rfl rfl hi rfl | exact opd_load1_pad rfl Try.isAgg9 rfl hi rfl)) ?_)
            all_goals (first | refine al_off rfl rfl rfl rfl rfl ?_ | refine al_offu rfl rfl rfl rfl ?_ | refine al_ond rfl rfl rfl rfl rfl rfl (by exact opd_move rfl rfl) ?_)
            all_goals (first | refine al_off rfl rfl rfl rfl rfl ?_ | refine al_offu rfl rfl rfl rfl ?_ | refine al_ond rfl rfl rfl rfl rfl rfl (by exact opd_seql rfl rfl rfl) ?_)
            all_goals (refine al_d rfl rfl rfl (by exact (by first | exact opd_pick_t rfl rfl rfl | exact opd_pick_f rfl rfl rfl | exact opd_pickt rfl rfl (by assumption) rfl | exact opd_pickf rfl rfl (by assumption) rfl | exact opd_pick rfl rfl rfl)) ?_)
            all_goals (refine al_d rfl rfl rfl (by exact opd_assign rfl rfl) ?_)
            all_goals (refine al_nil ?_)
            all_goals (exact ⟨⟨_, rfl, by first | rfl | (rw [h100]; rfl) | (rw [h100, Bool.false_or]) | (rw [h100, Bool.true_or])⟩, rfl, rfl, rfl⟩)
          refine awp_seq ?_
          refine awp_drawc follows ?_
          refine dc_cons (DStep.q rfl (by exact opd_move rfl rfl)) rfl ?_
          refine dc_cons (DStep.q rfl (by exact opd_gtr rfl rfl rfl)) rfl ?_
          refine dc_cons (DStep.q rfl (by exact opd_move rfl rfl)) rfl ?_
          refine dc_cons (q_off_t rfl rfl rfl (by first | rfl | assumption)) rfl ?_
          refine dc_cons (q_off_t rfl rfl rfl (by first | rfl | assumption)) rfl ?_
          refine dc_cons (q_off_t rfl rfl rfl (by first | rfl | assumption)) rfl ?_
          refine dc_cons (q_off_t rfl rfl rfl (by first | rfl | assumption)) rfl ?_
          refine dc_cons (q_off_t rfl rfl rfl (by first | rfl | assumption)) rfl ?_
          refine dc_cons (q_off_t rfl rfl rfl (by first | rfl | assumption)) rfl ?_
          refine dc_cons (q_off_t rfl rfl rfl (by first | rfl | assumption)) rfl ?_
          refine dc_cons (q_off_t rfl rfl rfl (by first | rfl | assumption)) rfl ?_
          refine dc_cons (q_off_t rfl rfl rfl (by first | rfl | assumption)) rfl ?_
          refine dc_cons (q_off_t rfl rfl rfl (by first | rfl | assumption)) rfl ?_
          refine dc_cons (DStep.q rfl (by exact (by first | exact opd_pick_t rfl rfl rfl | exact opd_pick_f rfl rfl rfl | exact opd_pickt rfl rfl (by assumption) rfl | exact opd_pickf rfl rfl (by assumption) rfl | exact opd_pick rfl rfl rfl))) rfl ?_
          refine dc_nil ⟨by kernel_rfl, ?_⟩
          refine awp_cond rfl (fun hc3 => ?_) (fun hc3 => ?_)
          -- cond 3
          · skip
            (first | (cases hc3; done) | (revert hc3; simp; done) | (revert hc3; simp_all; done) | (revert hc3; simp_all; omega))
          · skip
            refine awp_skip ?_
            refine awp_region ?_
            refine al_d rfl rfl rfl (by exact opd_move rfl rfl) ?_
            refine al_d rfl rfl rfl (by exact opd_add rfl rfl rfl (by first | exact w64 (by omega) (by omega) | exact wu8 (by omega) (by omega) | rfl)) ?_
            refine al_d rfl rfl rfl (by exact opd_assign rfl rfl) ?_
            refine al_nil ?_
            -- end of a round
            exact ⟨0 + 1, hlt, by omega, by rw [hXn]; exact Ent.e0 ⟨⟨_, rfl, rfl⟩, ⟨_, rfl, rfl⟩, ⟨_, rfl, rfl⟩, ⟨_, rfl, rfl⟩, ⟨_, rfl, rfl⟩, ⟨_, rfl, rfl⟩, ⟨_, rfl, rfl⟩, ⟨_, rfl, rfl⟩, ⟨_, rfl, rfl⟩, ⟨_, rfl, rfl⟩, ⟨_, rfl, rfl⟩, trivial⟩⟩
        | succ j =>
          have h0 : decide ((0 : Int) < ((j + 1 : Nat) : Int)) = true := decide_eq_true (by omega)
          obtain ⟨s', hs'⟩ := get_of_lt (l := c) (k := j) (by omega)
          have hi' := map_get (f := encStr) hs'
          have hlt2 : slt s' s = true := by
            obtain ⟨i1, e1⟩ := List.getElem?_eq_some_iff.1 hs'
            obtain ⟨i2, e2⟩ := List.getElem?_eq_some_iff.1 hs
            rw [← e1, ← e2]
            exact List.pairwise_iff_getElem.1 hup j (j + 1) i1 i2 (Nat.lt_succ_self j)
          refine awp_skip ?_
          refine awp_seq ?_
          refine awp_block ?_
          refine awp_seq ?_
          refine awp_bool (t := 20) (n := 11) (X := X || decide (s = key)) ?_ ?_
          · all_goals (refine al_d rfl rfl rfl (by exact opd_move rfl rfl) ?_)
            all_goals (refine al_d rfl rfl rfl (by exact opd_move rfl rfl) ?_)
            all_goals (first | refine al_split (t := 100) rfl (fun h100 => ?_) (fun h100 => ?_) | refine al_dup (t := 100) rfl ?_ | skip)
            all_goals (try contradiction)
            all_goals (first | refine al_off rfl rfl rfl rfl rfl ?_ | refine al_offu rfl rfl rfl rfl ?_ | refine al_ond rfl rfl rfl rfl rfl rfl (by exact opd_move rfl rfl) ?_)
            all_goals (first | refine al_off rfl rfl rfl rfl rfl ?_ | refine al_offu rfl rfl rfl rfl ?_ | refine al_ond rfl rfl rfl rfl rfl rfl (by exact opd_move rfl rfl) ?_)
            all_goals (first | refine al_off rfl rfl rfl rfl rfl ?_ | refine al_offu rfl rfl rfl rfl ?_ | refine al_ond rfl rfl rfl rfl rfl rfl (by exact (by first | exact x_index_pad rfl so28 rfl rfl (by omega) (by first | exact Int.toNat_natCast _ | rfl) hi rfl | exact x_index_osl rfl so28 rfl rfl rfl rfl rfl (by omega) (by first | exact Int.toNat_natCast _ | rfl) hi rfl)) ?_)
            all_goals (first | refine al_off rfl rfl rfl rfl rfl ?_ | refine al_offu rfl rfl rfl rfl ?_ | refine al_ond rfl rfl rfl rfl rfl rfl (by exact (by first | exact opd_load1_ref rfl Try.isAgg9 rfl rfl rfl hi rfl | exact opd_load1_pad rfl Try.isAgg9 rfl hi rfl)) ?_)
            all_goals (first | refine al_off rfl rfl rfl rfl rfl ?_ | refine al_offu rfl rfl rfl rfl ?_ | refine al_ond rfl rfl rfl rfl rfl rfl (by exact opd_move rfl rfl) ?_)
            all_goals (first | refine al_off rfl rfl rfl rfl rfl ?_ | refine al_offu rfl rfl rfl rfl ?_ | refine al_ond rfl rfl rfl rfl rfl rfl (by exact opd_seql rfl rfl rfl) ?_)
            all_goals (refine al_d rfl rfl rfl (by exact (by first | exact opd_pick_t rfl rfl rfl | exact opd_pick_f rfl rfl rfl | exact opd_pickt rfl rfl (by assumption) rfl | exact opd_pickf rfl rfl (by assumption) rfl | exact opd_pick rfl rfl rfl)) ?_)
            all_goals (refine al_d rfl rfl rfl (by exact opd_assign rfl rfl) ?_)
            all_goals (refine al_nil ?_)
            all_goals (exact ⟨⟨_, rfl, by first | rfl | (rw [h100]; rfl) | (rw [h100, Bool.false_or]) | (rw [h100, Bool.true_or])⟩, rfl, rfl, rfl⟩)
          refine awp_seq ?_
          refine awp_drawc follows ?_
          refine dc_cons (DStep.q rfl (by exact opd_move rfl rfl)) rfl ?_
          refine dc_cons (DStep.q rfl (by exact opd_gtr rfl rfl rfl)) rfl ?_
          refine dc_cons (DStep.q rfl (by exact opd_move rfl rfl)) rfl ?_
          refine dc_cons (q_on_t rfl rfl rfl (by first | rfl | assumption) (by exact opd_move rfl rfl)) rfl ?_
          refine dc_cons (q_on_t rfl rfl rfl (by first | rfl | assumption) (by exact opd_move rfl rfl)) rfl ?_
          refine dc_cons (q_on_t rfl rfl rfl (by first | rfl | assumption) (by exact opd_sub rfl rfl rfl (show IntKind.i64.wrap (((j + 1 : Nat) : Int) - 1) = ((j : Nat) : Int) by rw [IntKind.wrap_i64]; omega))) rfl ?_
          refine dc_cons (q_on_t rfl rfl rfl (by first | rfl | assumption) (by exact (by first | exact x_index_pad rfl so28 rfl rfl (by omega) (by first | exact Int.toNat_natCast _ | rfl) hi' rfl | exact x_index_osl rfl so28 rfl rfl rfl rfl rfl (by omega) (by first | exact Int.toNat_natCast _ | rfl) hi' rfl))) rfl ?_
          refine dc_cons (q_on_t rfl rfl rfl (by first | rfl | assumption) (by exact (by first | exact opd_load1_ref rfl Try.isAgg9 rfl rfl rfl hi' rfl | exact opd_load1_pad rfl Try.isAgg9 rfl hi' rfl))) rfl ?_
          refine dc_cons (q_on_t rfl rfl rfl (by first | rfl | assumption) (by exact opd_move rfl rfl)) rfl ?_
          refine dc_cons (q_on_t rfl rfl rfl (by first | rfl | assumption) (by exact opd_move rfl rfl)) rfl ?_
          refine dc_cons (q_on_t rfl rfl rfl (by first | rfl | assumption) (by exact (by first | exact x_index_pad rfl so28 rfl rfl (by omega) (by first | exact Int.toNat_natCast _ | rfl) hi rfl | exact x_index_osl rfl so28 rfl rfl rfl rfl rfl (by omega) (by first | exact Int.toNat_natCast _ | rfl) hi rfl))) rfl ?_
          refine dc_cons (q_on_t rfl rfl rfl (by first | rfl | assumption) (by exact (by first | exact opd_load1_ref rfl Try.isAgg9 rfl rfl rfl hi rfl | exact opd_load1_pad rfl Try.isAgg9 rfl hi rfl))) rfl ?_
          refine dc_cons (q_on_t rfl rfl rfl (by first | rfl | assumption) (by exact OpD.val (by exact opd_sgeq rfl rfl rfl) ((show (!slt s' s) = false by rw [hlt2]; rfl)))) rfl ?_
          refine dc_cons (DStep.q rfl (by exact (by first | exact opd_pick_t rfl rfl rfl | exact opd_pick_f rfl rfl rfl | exact opd_pickt rfl rfl (by assumption) rfl | exact opd_pickf rfl rfl (by assumption) rfl | exact opd_pick rfl rfl rfl))) rfl ?_
          refine dc_nil ⟨by kernel_rfl, ?_⟩
          refine awp_cond rfl (fun hc4 => ?_) (fun hc4 => ?_)
          -- cond 4
          · skip
            (first | (cases hc4; done) | (revert hc4; simp; done) | (revert hc4; simp_all; done) | (revert hc4; simp_all; omega))
          · skip
            refine awp_skip ?_
            refine awp_region ?_
            refine al_d rfl rfl rfl (by exact opd_move rfl rfl) ?_
            refine al_d rfl rfl rfl (by exact opd_add rfl rfl rfl (by first | exact w64 (by omega) (by omega) | exact wu8 (by omega) (by omega) | rfl)) ?_
            refine al_d rfl rfl rfl (by exact opd_assign rfl rfl) ?_
            refine al_nil ?_
            -- end of a round
            exact ⟨j + 1 + 1, hlt, by omega, by rw [hXn]; exact Ent.e0 ⟨⟨_, rfl, rfl⟩, ⟨_, rfl, rfl⟩, ⟨_, rfl, rfl⟩, ⟨_, rfl, rfl⟩, ⟨_, rfl, rfl⟩, ⟨_, rfl, rfl⟩, ⟨_, rfl, rfl⟩, ⟨_, rfl, rfl⟩, ⟨_, rfl, rfl⟩, ⟨_, rfl, rfl⟩, ⟨_, rfl, rfl⟩, trivial⟩⟩
      · have hge : k = c.length := by have h := of_decide_eq_false hc2; omega
        subst hge
        rw [List.take_length, hany] at hX
        obtain ⟨B, hBe⟩ : ∃ B, B = vOf b key := ⟨_, rfl⟩
        obtain ⟨O, hOe⟩ : ∃ O, O = vOf o key := ⟨_, rfl⟩
        obtain ⟨T, hTe⟩ : ∃ T, T = vOf t key := ⟨_, rfl⟩
        have hmv : mv b o t key = (m1 ⟨key, B, O, T⟩).1 := by rw [hBe, hOe, hTe]; rfl
        have hmc : mc b o t key = (m1 ⟨key, B, O, T⟩).2 := by rw [hBe, hOe, hTe]; rfl
        rw [hmc] at hX
        rw [hmv, ← hBe, ← hOe, ← hTe, hX]
        obtain ⟨V, hVe⟩ : ∃ V, V = (m1 ⟨key, B, O, T⟩).1 := ⟨_, rfl⟩
        obtain ⟨F, hFe⟩ : ∃ F, F = (m1 ⟨key, B, O, T⟩).2 := ⟨_, rfl⟩
        rw [← hVe, ← hFe]
        have hvv : decide (V = V) = true := decide_eq_true rfl
        have hee : decide ((!decide (V = ⟨#[]⟩)) = !decide (V = ⟨#[]⟩)) = true := decide_eq_true rfl
        unfold m1 at hVe hFe
        dsimp only at hVe hFe
        by_cases h1 : O = B
        · have g1 : (!decide (O = B)) = false := by rw [decide_eq_true h1]; rfl
          by_cases h2 : T = B
          · have g2 : (!decide (T = B)) = false := by rw [decide_eq_true h2]; rfl
            obtain rfl : F = false := by rw [hFe, if_pos (h2.trans h1.symm)]
            obtain rfl : V = B := by rw [hVe, if_pos (h2.trans h1.symm), h1]
            refine awp_exit ?_
            refine awp_seq ?_
            refine awp_region ?_
            refine al_d rfl rfl rfl (by exact opd_move rfl rfl) ?_
            refine al_d rfl rfl rfl (by exact opd_assign rfl rfl) ?_
            refine al_nil ?_
            refine awp_seq ?_
            refine awp_seq ?_
            refine awp_region ?_
            refine al_d rfl rfl rfl (by exact opd_move rfl rfl) ?_
            refine al_d rfl rfl rfl (by exact opd_move rfl rfl) ?_
            refine al_d rfl rfl rfl (by exact OpD.val (by exact opd_sneq rfl rfl rfl) (g1)) ?_
            refine al_nil ?_
            refine awp_cond rfl (fun hc5 => ?_) (fun hc5 => ?_)
            -- cond 5
            · skip
              (first | (cases hc5; done) | (revert hc5; simp; done) | (revert hc5; simp_all; done) | (revert hc5; simp_all; omega))
            · skip
              refine awp_seq ?_
              refine awp_region ?_
              refine al_d rfl rfl rfl (by exact opd_move rfl rfl) ?_
              refine al_d rfl rfl rfl (by exact opd_move rfl rfl) ?_
              refine al_d rfl rfl rfl (by exact OpD.val (by exact opd_sneq rfl rfl rfl) (g2)) ?_
              refine al_nil ?_
              refine awp_cond rfl (fun hc6 => ?_) (fun hc6 => ?_)
              -- cond 6
              · skip
                (first | (cases hc6; done) | (revert hc6; simp; done) | (revert hc6; simp_all; done) | (revert hc6; simp_all; omega))
              · skip
                refine awp_skip ?_
                refine awp_seq ?_
                refine awp_region ?_
                refine al_d rfl rfl rfl (by exact opd_move rfl rfl) ?_
                refine al_d rfl rfl rfl (by exact opd_move rfl rfl) ?_
                refine al_d rfl rfl rfl (by exact OpD.val (by exact opd_sneq rfl rfl rfl) (g1)) ?_
                refine al_d rfl rfl rfl (by exact opd_move rfl rfl) ?_
                refine al_off rfl rfl rfl (by first | rfl | assumption) rfl ?_
                refine al_off rfl rfl rfl (by first | rfl | assumption) rfl ?_
                refine al_off rfl rfl rfl (by first | rfl | assumption) rfl ?_
                refine al_d rfl rfl rfl (by exact (by first | exact opd_pick_t rfl rfl rfl | exact opd_pick_f rfl rfl rfl | exact opd_pickt rfl rfl (by assumption) rfl | exact opd_pickf rfl rfl (by assumption) rfl | exact opd_pick rfl rfl rfl)) ?_
                refine al_d rfl rfl rfl (by exact opd_move rfl rfl) ?_
                refine al_off rfl rfl rfl (by first | rfl | assumption) rfl ?_
                refine al_off rfl rfl rfl (by first | rfl | assumption) rfl ?_
                refine al_off rfl rfl rfl (by first | rfl | assumption) rfl ?_
                refine al_d rfl rfl rfl (by exact (by first | exact opd_pick_t rfl rfl rfl | exact opd_pick_f rfl rfl rfl | exact opd_pickt rfl rfl (by assumption) rfl | exact opd_pickf rfl rfl (by assumption) rfl | exact opd_pick rfl rfl rfl)) ?_
                refine al_d rfl rfl rfl (by exact opd_assign rfl rfl) ?_
                refine al_nil ?_
                refine awp_seq ?_
                refine awp_seq ?_
                refine awp_region ?_
                refine al_d rfl rfl rfl (by exact opd_move rfl rfl) ?_
                refine al_nil ?_
                refine awp_cond rfl (fun hc7 => ?_) (fun hc7 => ?_)
                -- cond 7
                · skip
                  (first | (cases hc7; done) | (revert hc7; simp; done) | (revert hc7; simp_all; done) | (revert hc7; simp_all; omega))
                · skip
                  refine awp_skip ?_
                  refine awp_seq ?_
                  refine awp_region ?_
                  refine al_d rfl rfl rfl (by exact opd_move rfl rfl) ?_
                  refine al_d rfl rfl rfl (by exact opd_move rfl rfl) ?_
                  refine al_ond rfl rfl rfl (by first | rfl | assumption) rfl rfl (by exact opd_move rfl rfl) ?_
                  refine al_ond rfl rfl rfl (by first | rfl | assumption) rfl rfl (by exact opd_move rfl rfl) ?_
                  refine al_ond rfl rfl rfl (by first | rfl | assumption) rfl rfl (by exact opd_beql rfl Try.underlying4 rfl rfl) ?_
                  refine al_d rfl rfl rfl (by exact (by first | exact opd_pick_t rfl rfl rfl | exact opd_pick_f rfl rfl rfl | exact opd_pickt rfl rfl (by assumption) rfl | exact opd_pickf rfl rfl (by assumption) rfl | exact opd_pick rfl rfl rfl)) ?_
                  refine al_d rfl rfl rfl (by exact opd_move rfl rfl) ?_
                  refine al_ond rfl rfl rfl (by first | rfl | assumption) rfl rfl (by exact opd_move rfl rfl) ?_
                  refine al_ond rfl rfl rfl (by first | rfl | assumption) rfl rfl (by exact opd_move rfl rfl) ?_
                  refine al_ond rfl rfl rfl (by first | rfl | assumption) rfl rfl (by exact OpD.val (by exact opd_seql rfl rfl rfl) (hvv)) ?_
                  refine al_d rfl rfl rfl (by exact (by first | exact opd_pick_t rfl rfl rfl | exact opd_pick_f rfl rfl rfl | exact opd_pickt rfl rfl (by assumption) rfl | exact opd_pickf rfl rfl (by assumption) rfl | exact opd_pick rfl rfl rfl)) ?_
                  refine al_d rfl rfl rfl (by exact opd_move rfl rfl) ?_
                  refine al_ond rfl rfl rfl (by first | rfl | assumption) rfl rfl (by exact opd_move rfl rfl) ?_
                  refine al_ond rfl rfl rfl (by first | rfl | assumption) rfl rfl (by exact opd_move rfl rfl) ?_
                  refine al_ond rfl rfl rfl (by first | rfl | assumption) rfl rfl (by exact opd_sneq rfl rfl rfl) ?_
                  refine al_ond rfl rfl rfl (by first | rfl | assumption) rfl rfl (by exact OpD.val (by exact opd_beql rfl Try.underlying4 rfl rfl) (hee)) ?_
                  refine al_d rfl rfl rfl (by exact (by first | exact opd_pick_t rfl rfl rfl | exact opd_pick_f rfl rfl rfl | exact opd_pickt rfl rfl (by assumption) rfl | exact opd_pickf rfl rfl (by assumption) rfl | exact opd_pick rfl rfl rfl)) ?_
                  refine al_d rfl rfl rfl (by exact opd_move rfl rfl) ?_
                  refine al_ond rfl rfl rfl (by first | rfl | assumption) rfl rfl (by exact opd_move rfl rfl) ?_
                  refine al_ond rfl rfl rfl (by first | rfl | assumption) rfl rfl (by exact opr_call rfl rfl Try.call23 rfl (valid9_t m3 _ hx.1)) ?_
                  refine al_d rfl rfl rfl (by exact (by first | exact opd_pick_t rfl rfl rfl | exact opd_pick_f rfl rfl rfl | exact opd_pickt rfl rfl (by assumption) rfl | exact opd_pickf rfl rfl (by assumption) rfl | exact opd_pick rfl rfl rfl)) ?_
                  refine al_d rfl rfl rfl (by exact opd_assign rfl rfl) ?_
                  refine al_nil ?_
                  refine awp_ret ?_
                  -- return
                  refine aret1 (H' := []) (by first | exact .inr rfl | exact .inl rfl) rfl (rval_tmp rfl) (Fin.wk (by simp) trivial trivial) ?_
                  exact ⟨rfl, rfl⟩
          · have g2 : (!decide (T = B)) = true := by rw [decide_eq_false h2]; rfl
            have h3 : ¬ T = O := fun e => h2 (e.trans h1)
            obtain rfl : F = false := by rw [hFe, if_neg h3, if_neg h2, if_pos h1]
            obtain rfl : V = T := by rw [hVe, if_neg h3, if_neg h2, if_pos h1]
            refine awp_exit ?_
            refine awp_seq ?_
            refine awp_region ?_
            refine al_d rfl rfl rfl (by exact opd_move rfl rfl) ?_
            refine al_d rfl rfl rfl (by exact opd_assign rfl rfl) ?_
            refine al_nil ?_
            refine awp_seq ?_
            refine awp_seq ?_
            refine awp_region ?_
            refine al_d rfl rfl rfl (by exact opd_move rfl rfl) ?_
            refine al_d rfl rfl rfl (by exact opd_move rfl rfl) ?_
            refine al_d rfl rfl rfl (by exact OpD.val (by exact opd_sneq rfl rfl rfl) (g1)) ?_
            refine al_nil ?_
            refine awp_cond rfl (fun hc8 => ?_) (fun hc8 => ?_)
            -- cond 8
            · skip
              (first | (cases hc8; done) | (revert hc8; simp; done) | (revert hc8; simp_all; done) | (revert hc8; simp_all; omega))
            · skip
              refine awp_seq ?_
              refine awp_region ?_
              refine al_d rfl rfl rfl (by exact opd_move rfl rfl) ?_
              refine al_d rfl rfl rfl (by exact opd_move rfl rfl) ?_
              refine al_d rfl rfl rfl (by exact OpD.val (by exact opd_sneq rfl rfl rfl) (g2)) ?_
              refine al_nil ?_
              refine awp_cond rfl (fun hc9 => ?_) (fun hc9 => ?_)
              -- cond 9
              · skip
                refine awp_region ?_
                refine al_d rfl rfl rfl (by exact opd_move rfl rfl) ?_
                refine al_d rfl rfl rfl (by exact opd_assign rfl rfl) ?_
                refine al_nil ?_
                refine awp_seq ?_
                refine awp_region ?_
                refine al_d rfl rfl rfl (by exact opd_move rfl rfl) ?_
                refine al_d rfl rfl rfl (by exact opd_move rfl rfl) ?_
                refine al_d rfl rfl rfl (by exact OpD.val (by exact opd_sneq rfl rfl rfl) (g1)) ?_
                refine al_d rfl rfl rfl (by exact opd_move rfl rfl) ?_
                refine al_off rfl rfl rfl (by first | rfl | assumption) rfl ?_
                refine al_off rfl rfl rfl (by first | rfl | assumption) rfl ?_
                refine al_off rfl rfl rfl (by first | rfl | assumption) rfl ?_
                refine al_d rfl rfl rfl (by exact (by first | exact opd_pick_t rfl rfl rfl | exact opd_pick_f rfl rfl rfl | exact opd_pickt rfl rfl (by assumption) rfl | exact opd_pickf rfl rfl (by assumption) rfl | exact opd_pick rfl rfl rfl)) ?_
                refine al_d rfl rfl rfl (by exact opd_move rfl rfl) ?_
                refine al_off rfl rfl rfl (by first | rfl | assumption) rfl ?_
                refine al_off rfl rfl rfl (by first | rfl | assumption) rfl ?_
                refine al_off rfl rfl rfl (by first | rfl | assumption) rfl ?_
                refine al_d rfl rfl rfl (by exact (by first | exact opd_pick_t rfl rfl rfl | exact opd_pick_f rfl rfl rfl | exact opd_pickt rfl rfl (by assumption) rfl | exact opd_pickf rfl rfl (by assumption) rfl | exact opd_pick rfl rfl rfl)) ?_
                refine al_d rfl rfl rfl (by exact opd_assign rfl rfl) ?_
                refine al_nil ?_
                refine awp_seq ?_
                refine awp_seq ?_
                refine awp_region ?_
                refine al_d rfl rfl rfl (by exact opd_move rfl rfl) ?_
                refine al_nil ?_
                refine awp_cond rfl (fun hc10 => ?_) (fun hc10 => ?_)
                -- cond 10
                · skip
                  (first | (cases hc10; done) | (revert hc10; simp; done) | (revert hc10; simp_all; done) | (revert hc10; simp_all; omega))
                · skip
                  refine awp_skip ?_
                  refine awp_seq ?_
                  refine awp_region ?_
                  refine al_d rfl rfl rfl (by exact opd_move rfl rfl) ?_
                  refine al_d rfl rfl rfl (by exact opd_move rfl rfl) ?_
                  refine al_ond rfl rfl rfl (by first | rfl | assumption) rfl rfl (by exact opd_move rfl rfl) ?_
                  refine al_ond rfl rfl rfl (by first | rfl | assumption) rfl rfl (by exact opd_move rfl rfl) ?_
                  refine al_ond rfl rfl rfl (by first | rfl | assumption) rfl rfl (by exact opd_beql rfl Try.underlying4 rfl rfl) ?_
                  refine al_d rfl rfl rfl (by exact (by first | exact opd_pick_t rfl rfl rfl | exact opd_pick_f rfl rfl rfl | exact opd_pickt rfl rfl (by assumption) rfl | exact opd_pickf rfl rfl (by assumption) rfl | exact opd_pick rfl rfl rfl)) ?_
                  refine al_d rfl rfl rfl (by exact opd_move rfl rfl) ?_
                  refine al_ond rfl rfl rfl (by first | rfl | assumption) rfl rfl (by exact opd_move rfl rfl) ?_
                  refine al_ond rfl rfl rfl (by first | rfl | assumption) rfl rfl (by exact opd_move rfl rfl) ?_
                  refine al_ond rfl rfl rfl (by first | rfl | assumption) rfl rfl (by exact OpD.val (by exact opd_seql rfl rfl rfl) (hvv)) ?_
                  refine al_d rfl rfl rfl (by exact (by first | exact opd_pick_t rfl rfl rfl | exact opd_pick_f rfl rfl rfl | exact opd_pickt rfl rfl (by assumption) rfl | exact opd_pickf rfl rfl (by assumption) rfl | exact opd_pick rfl rfl rfl)) ?_
                  refine al_d rfl rfl rfl (by exact opd_move rfl rfl) ?_
                  refine al_ond rfl rfl rfl (by first | rfl | assumption) rfl rfl (by exact opd_move rfl rfl) ?_
                  refine al_ond rfl rfl rfl (by first | rfl | assumption) rfl rfl (by exact opd_move rfl rfl) ?_
                  refine al_ond rfl rfl rfl (by first | rfl | assumption) rfl rfl (by exact opd_sneq rfl rfl rfl) ?_
                  refine al_ond rfl rfl rfl (by first | rfl | assumption) rfl rfl (by exact OpD.val (by exact opd_beql rfl Try.underlying4 rfl rfl) (hee)) ?_
                  refine al_d rfl rfl rfl (by exact (by first | exact opd_pick_t rfl rfl rfl | exact opd_pick_f rfl rfl rfl | exact opd_pickt rfl rfl (by assumption) rfl | exact opd_pickf rfl rfl (by assumption) rfl | exact opd_pick rfl rfl rfl)) ?_
                  refine al_d rfl rfl rfl (by exact opd_move rfl rfl) ?_
                  refine al_ond rfl rfl rfl (by first | rfl | assumption) rfl rfl (by exact opd_move rfl rfl) ?_
                  refine al_ond rfl rfl rfl (by first | rfl | assumption) rfl rfl (by exact opr_call rfl rfl Try.call23 rfl (valid9_t m3 _ hx.1)) ?_
                  refine al_d rfl rfl rfl (by exact (by first | exact opd_pick_t rfl rfl rfl | exact opd_pick_f rfl rfl rfl | exact opd_pickt rfl rfl (by assumption) rfl | exact opd_pickf rfl rfl (by assumption) rfl | exact opd_pick rfl rfl rfl)) ?_
                  refine al_d rfl rfl rfl (by exact opd_assign rfl rfl) ?_
                  refine al_nil ?_
                  refine awp_ret ?_
                  -- return
                  refine aret1 (H' := []) (by first | exact .inr rfl | exact .inl rfl) rfl (rval_tmp rfl) (Fin.wk (by simp) trivial trivial) ?_
                  exact ⟨rfl, rfl⟩
              · skip
                (first | (cases hc9; done) | (revert hc9; simp; done) | (revert hc9; simp_all; done) | (revert hc9; simp_all; omega))
        · have g1 : (!decide (O = B)) = true := by rw [decide_eq_false h1]; rfl
          by_cases h2 : T = B
          · have g2 : (!decide (T = B)) = false := by rw [decide_eq_true h2]; rfl
            have h3 : ¬ T = O := fun e => h1 (e.symm.trans h2)
            obtain rfl : F = false := by rw [hFe, if_neg h3, if_pos h2]
            obtain rfl : V = O := by rw [hVe, if_neg h3, if_pos h2]
            refine awp_exit ?_
            refine awp_seq ?_
            refine awp_region ?_
            refine al_d rfl rfl rfl (by exact opd_move rfl rfl) ?_
            refine al_d rfl rfl rfl (by exact opd_assign rfl rfl) ?_
            refine al_nil ?_
            refine awp_seq ?_
            refine awp_seq ?_
            refine awp_region ?_
            refine al_d rfl rfl rfl (by exact opd_move rfl rfl) ?_
            refine al_d rfl rfl rfl (by exact opd_move rfl rfl) ?_
            refine al_d rfl rfl rfl (by exact OpD.val (by exact opd_sneq rfl rfl rfl) (g1)) ?_
            refine al_nil ?_
            refine awp_cond rfl (fun hc11 => ?_) (fun hc11 => ?_)
            -- cond 11
            · skip
              refine awp_region ?_
              refine al_d rfl rfl rfl (by exact opd_move rfl rfl) ?_
              refine al_d rfl rfl rfl (by exact opd_assign rfl rfl) ?_
              refine al_nil ?_
              refine awp_seq ?_
              refine awp_region ?_
              refine al_d rfl rfl rfl (by exact opd_move rfl rfl) ?_
              refine al_d rfl rfl rfl (by exact opd_move rfl rfl) ?_
              refine al_d rfl rfl rfl (by exact OpD.val (by exact opd_sneq rfl rfl rfl) (g1)) ?_
              refine al_d rfl rfl rfl (by exact opd_move rfl rfl) ?_
              refine al_ond rfl rfl rfl (by first | rfl | assumption) rfl rfl (by exact opd_move rfl rfl) ?_
              refine al_ond rfl rfl rfl (by first | rfl | assumption) rfl rfl (by exact opd_move rfl rfl) ?_
              refine al_ond rfl rfl rfl (by first | rfl | assumption) rfl rfl (by exact OpD.val (by exact opd_sneq rfl rfl rfl) (g2)) ?_
              refine al_d rfl rfl rfl (by exact (by first | exact opd_pick_t rfl rfl rfl | exact opd_pick_f rfl rfl rfl | exact opd_pickt rfl rfl (by assumption) rfl | exact opd_pickf rfl rfl (by assumption) rfl | exact opd_pick rfl rfl rfl)) ?_
              refine al_d rfl rfl rfl (by exact opd_move rfl rfl) ?_
              refine al_off rfl rfl rfl (by first | rfl | assumption) rfl ?_
              refine al_off rfl rfl rfl (by first | rfl | assumption) rfl ?_
              refine al_off rfl rfl rfl (by first | rfl | assumption) rfl ?_
              refine al_d rfl rfl rfl (by exact (by first | exact opd_pick_t rfl rfl rfl | exact opd_pick_f rfl rfl rfl | exact opd_pickt rfl rfl (by assumption) rfl | exact opd_pickf rfl rfl (by assumption) rfl | exact opd_pick rfl rfl rfl)) ?_
              refine al_d rfl rfl rfl (by exact opd_assign rfl rfl) ?_
              refine al_nil ?_
              refine awp_seq ?_
              refine awp_seq ?_
              refine awp_region ?_
              refine al_d rfl rfl rfl (by exact opd_move rfl rfl) ?_
              refine al_nil ?_
              refine awp_cond rfl (fun hc12 => ?_) (fun hc12 => ?_)
              -- cond 12
              · skip
                (first | (cases hc12; done) | (revert hc12; simp; done) | (revert hc12; simp_all; done) | (revert hc12; simp_all; omega))
              · skip
                refine awp_skip ?_
                refine awp_seq ?_
                refine awp_region ?_
                refine al_d rfl rfl rfl (by exact opd_move rfl rfl) ?_
                refine al_d rfl rfl rfl (by exact opd_move rfl rfl) ?_
                refine al_ond rfl rfl rfl (by first | rfl | assumption) rfl rfl (by exact opd_move rfl rfl) ?_
                refine al_ond rfl rfl rfl (by first | rfl | assumption) rfl rfl (by exact opd_move rfl rfl) ?_
                refine al_ond rfl rfl rfl (by first | rfl | assumption) rfl rfl (by exact opd_beql rfl Try.underlying4 rfl rfl) ?_
                refine al_d rfl rfl rfl (by exact (by first | exact opd_pick_t rfl rfl rfl | exact opd_pick_f rfl rfl rfl | exact opd_pickt rfl rfl (by assumption) rfl | exact opd_pickf rfl rfl (by assumption) rfl | exact opd_pick rfl rfl rfl)) ?_
                refine al_d rfl rfl rfl (by exact opd_move rfl rfl) ?_
                refine al_ond rfl rfl rfl (by first | rfl | assumption) rfl rfl (by exact opd_move rfl rfl) ?_
                refine al_ond rfl rfl rfl (by first | rfl | assumption) rfl rfl (by exact opd_move rfl rfl) ?_
                refine al_ond rfl rfl rfl (by first | rfl | assumption) rfl rfl (by exact OpD.val (by exact opd_seql rfl rfl rfl) (hvv)) ?_
                refine al_d rfl rfl rfl (by exact (by first | exact opd_pick_t rfl rfl rfl | exact opd_pick_f rfl rfl rfl | exact opd_pickt rfl rfl (by assumption) rfl | exact opd_pickf rfl rfl (by assumption) rfl | exact opd_pick rfl rfl rfl)) ?_
                refine al_d rfl rfl rfl (by exact opd_move rfl rfl) ?_
                refine al_ond rfl rfl rfl (by first | rfl | assumption) rfl rfl (by exact opd_move rfl rfl) ?_
                refine al_ond rfl rfl rfl (by first | rfl | assumption) rfl rfl (by exact opd_move rfl rfl) ?_
                refine al_ond rfl rfl rfl (by first | rfl | assumption) rfl rfl (by exact opd_sneq rfl rfl rfl) ?_
                refine al_ond rfl rfl rfl (by first | rfl | assumption) rfl rfl (by exact OpD.val (by exact opd_beql rfl Try.underlying4 rfl rfl) (hee)) ?_
                refine al_d rfl rfl rfl (by exact (by first | exact opd_pick_t rfl rfl rfl | exact opd_pick_f rfl rfl rfl | exact opd_pickt rfl rfl (by assumption) rfl | exact opd_pickf rfl rfl (by assumption) rfl | exact opd_pick rfl rfl rfl)) ?_
                refine al_d rfl rfl rfl (by exact opd_move rfl rfl) ?_
                refine al_ond rfl rfl rfl (by first | rfl | assumption) rfl rfl (by exact opd_move rfl rfl) ?_
                refine al_ond rfl rfl rfl (by first | rfl | assumption) rfl rfl (by exact opr_call rfl rfl Try.call23 rfl (valid9_t m3 _ hx.1)) ?_
                refine al_d rfl rfl rfl (by exact (by first | exact opd_pick_t rfl rfl rfl | exact opd_pick_f rfl rfl rfl | exact opd_pickt rfl rfl (by assumption) rfl | exact opd_pickf rfl rfl (by assumption) rfl | exact opd_pick rfl rfl rfl)) ?_
                refine al_d rfl rfl rfl (by exact opd_assign rfl rfl) ?_
                refine al_nil ?_
                refine awp_ret ?_
                -- return
                refine aret1 (H' := []) (by first | exact .inr rfl | exact .inl rfl) rfl (rval_tmp rfl) (Fin.wk (by simp) trivial trivial) ?_
                exact ⟨rfl, rfl⟩
            · skip
              (first | (cases hc11; done) | (revert hc11; simp; done) | (revert hc11; simp_all; done) | (revert hc11; simp_all; omega))
          · have g2 : (!decide (T = B)) = true := by rw [decide_eq_false h2]; rfl
            by_cases h3 : T = O
            · have g3 : (!decide (O = T)) = false := by rw [decide_eq_true h3.symm]; rfl
              obtain rfl : F = false := by rw [hFe, if_pos h3]
              obtain rfl : V = O := by rw [hVe, if_pos h3]
              refine awp_exit ?_
              refine awp_seq ?_
              refine awp_region ?_
              refine al_d rfl rfl rfl (by exact opd_move rfl rfl) ?_
              refine al_d rfl rfl rfl (by exact opd_assign rfl rfl) ?_
              refine al_nil ?_
              refine awp_seq ?_
              refine awp_seq ?_
              refine awp_region ?_
              refine al_d rfl rfl rfl (by exact opd_move rfl rfl) ?_
              refine al_d rfl rfl rfl (by exact opd_move rfl rfl) ?_
              refine al_d rfl rfl rfl (by exact OpD.val (by exact opd_sneq rfl rfl rfl) (g1)) ?_
              refine al_nil ?_
              refine awp_cond rfl (fun hc13 => ?_) (fun hc13 => ?_)
              -- cond 13
              · skip
                refine awp_region ?_
                refine al_d rfl rfl rfl (by exact opd_move rfl rfl) ?_
                refine al_d rfl rfl rfl (by exact opd_assign rfl rfl) ?_
                refine al_nil ?_
                refine awp_seq ?_
                refine awp_region ?_
                refine al_d rfl rfl rfl (by exact opd_move rfl rfl) ?_
                refine al_d rfl rfl rfl (by exact opd_move rfl rfl) ?_
                refine al_d rfl rfl rfl (by exact OpD.val (by exact opd_sneq rfl rfl rfl) (g1)) ?_
                refine al_d rfl rfl rfl (by exact opd_move rfl rfl) ?_
                refine al_ond rfl rfl rfl (by first | rfl | assumption) rfl rfl (by exact opd_move rfl rfl) ?_
                refine al_ond rfl rfl rfl (by first | rfl | assumption) rfl rfl (by exact opd_move rfl rfl) ?_
                refine al_ond rfl rfl rfl (by first | rfl | assumption) rfl rfl (by exact OpD.val (by exact opd_sneq rfl rfl rfl) (g2)) ?_
                refine al_d rfl rfl rfl (by exact (by first | exact opd_pick_t rfl rfl rfl | exact opd_pick_f rfl rfl rfl | exact opd_pickt rfl rfl (by assumption) rfl | exact opd_pickf rfl rfl (by assumption) rfl | exact opd_pick rfl rfl rfl)) ?_
                refine al_d rfl rfl rfl (by exact opd_move rfl rfl) ?_
                refine al_ond rfl rfl rfl (by first | rfl | assumption) rfl rfl (by exact opd_move rfl rfl) ?_
                refine al_ond rfl rfl rfl (by first | rfl | assumption) rfl rfl (by exact opd_move rfl rfl) ?_
                refine al_ond rfl rfl rfl (by first | rfl | assumption) rfl rfl (by exact OpD.val (by exact opd_sneq rfl rfl rfl) (g3)) ?_
                refine al_d rfl rfl rfl (by exact (by first | exact opd_pick_t rfl rfl rfl | exact opd_pick_f rfl rfl rfl | exact opd_pickt rfl rfl (by assumption) rfl | exact opd_pickf rfl rfl (by assumption) rfl | exact opd_pick rfl rfl rfl)) ?_
                refine al_d rfl rfl rfl (by exact opd_assign rfl rfl) ?_
                refine al_nil ?_
                refine awp_seq ?_
                refine awp_seq ?_
                refine awp_region ?_
                refine al_d rfl rfl rfl (by exact opd_move rfl rfl) ?_
                refine al_nil ?_
                refine awp_cond rfl (fun hc14 => ?_) (fun hc14 => ?_)
                -- cond 14
                · skip
                  (first | (cases hc14; done) | (revert hc14; simp; done) | (revert hc14; simp_all; done) | (revert hc14; simp_all; omega))
                · skip
                  refine awp_skip ?_
                  refine awp_seq ?_
                  refine awp_region ?_
                  refine al_d rfl rfl rfl (by exact opd_move rfl rfl) ?_
                  refine al_d rfl rfl rfl (by exact opd_move rfl rfl) ?_
                  refine al_ond rfl rfl rfl (by first | rfl | assumption) rfl rfl (by exact opd_move rfl rfl) ?_
                  refine al_ond rfl rfl rfl (by first | rfl | assumption) rfl rfl (by exact opd_move rfl rfl) ?_
                  refine al_ond rfl rfl rfl (by first | rfl | assumption) rfl rfl (by exact opd_beql rfl Try.underlying4 rfl rfl) ?_
                  refine al_d rfl rfl rfl (by exact (by first | exact opd_pick_t rfl rfl rfl | exact opd_pick_f rfl rfl rfl | exact opd_pickt rfl rfl (by assumption) rfl | exact opd_pickf rfl rfl (by assumption) rfl | exact opd_pick rfl rfl rfl)) ?_
                  refine al_d rfl rfl rfl (by exact opd_move rfl rfl) ?_
                  refine al_ond rfl rfl rfl (by first | rfl | assumption) rfl rfl (by exact opd_move rfl rfl) ?_
                  refine al_ond rfl rfl rfl (by first | rfl | assumption) rfl rfl (by exact opd_move rfl rfl) ?_
                  refine al_ond rfl rfl rfl (by first | rfl | assumption) rfl rfl (by exact OpD.val (by exact opd_seql rfl rfl rfl) (hvv)) ?_
                  refine al_d rfl rfl rfl (by exact (by first | exact opd_pick_t rfl rfl rfl | exact opd_pick_f rfl rfl rfl | exact opd_pickt rfl rfl (by assumption) rfl | exact opd_pickf rfl rfl (by assumption) rfl | exact opd_pick rfl rfl rfl)) ?_
                  refine al_d rfl rfl rfl (by exact opd_move rfl rfl) ?_
                  refine al_ond rfl rfl rfl (by first | rfl | assumption) rfl rfl (by exact opd_move rfl rfl) ?_
                  refine al_ond rfl rfl rfl (by first | rfl | assumption) rfl rfl (by exact opd_move rfl rfl) ?_
                  refine al_ond rfl rfl rfl (by first | rfl | assumption) rfl rfl (by exact opd_sneq rfl rfl rfl) ?_
                  refine al_ond rfl rfl rfl (by first | rfl | assumption) rfl rfl (by exact OpD.val (by exact opd_beql rfl Try.underlying4 rfl rfl) (hee)) ?_
                  refine al_d rfl rfl rfl (by exact (by first | exact opd_pick_t rfl rfl rfl | exact opd_pick_f rfl rfl rfl | exact opd_pickt rfl rfl (by assumption) rfl | exact opd_pickf rfl rfl (by assumption) rfl | exact opd_pick rfl rfl rfl)) ?_
                  refine al_d rfl rfl rfl (by exact opd_move rfl rfl) ?_
                  refine al_ond rfl rfl rfl (by first | rfl | assumption) rfl rfl (by exact opd_move rfl rfl) ?_
                  refine al_ond rfl rfl rfl (by first | rfl | assumption) rfl rfl (by exact opr_call rfl rfl Try.call23 rfl (valid9_t m3 _ hx.1)) ?_
                  refine al_d rfl rfl rfl (by exact (by first | exact opd_pick_t rfl rfl rfl | exact opd_pick_f rfl rfl rfl | exact opd_pickt rfl rfl (by assumption) rfl | exact opd_pickf rfl rfl (by assumption) rfl | exact opd_pick rfl rfl rfl)) ?_
                  refine al_d rfl rfl rfl (by exact opd_assign rfl rfl) ?_
                  refine al_nil ?_
                  refine awp_ret ?_
                  -- return
                  refine aret1 (H' := []) (by first | exact .inr rfl | exact .inl rfl) rfl (rval_tmp rfl) (Fin.wk (by simp) trivial trivial) ?_
                  exact ⟨rfl, rfl⟩
              · skip
                (first | (cases hc13; done) | (revert hc13; simp; done) | (revert hc13; simp_all; done) | (revert hc13; simp_all; omega))
            · have g3 : (!decide (O = T)) = true := by rw [decide_eq_false (Ne.symm h3)]; rfl
              obtain rfl : F = true := by rw [hFe, if_neg h3, if_neg h2, if_neg h1]
              obtain rfl : V = B := by rw [hVe, if_neg h3, if_neg h2, if_neg h1]
              refine awp_exit ?_
              refine awp_seq ?_
              refine awp_region ?_
              refine al_d rfl rfl rfl (by exact opd_move rfl rfl) ?_
              refine al_d rfl rfl rfl (by exact opd_assign rfl rfl) ?_
              refine al_nil ?_
              refine awp_seq ?_
              refine awp_seq ?_
              refine awp_region ?_
              refine al_d rfl rfl rfl (by exact opd_move rfl rfl) ?_
              refine al_d rfl rfl rfl (by exact opd_move rfl rfl) ?_
              refine al_d rfl rfl rfl (by exact OpD.val (by exact opd_sneq rfl rfl rfl) (g1)) ?_
              refine al_nil ?_
              refine awp_cond rfl (fun hc15 => ?_) (fun hc15 => ?_)
              -- cond 15
              · skip
                refine awp_region ?_
                refine al_d rfl rfl rfl (by exact opd_move rfl rfl) ?_
                refine al_d rfl rfl rfl (by exact opd_assign rfl rfl) ?_
                refine al_nil ?_
                refine awp_seq ?_
                refine awp_region ?_
                refine al_d rfl rfl rfl (by exact opd_move rfl rfl) ?_
                refine al_d rfl rfl rfl (by exact opd_move rfl rfl) ?_
                refine al_d rfl rfl rfl (by exact OpD.val (by exact opd_sneq rfl rfl rfl) (g1)) ?_
                refine al_d rfl rfl rfl (by exact opd_move rfl rfl) ?_
                refine al_ond rfl rfl rfl (by first | rfl | assumption) rfl rfl (by exact opd_move rfl rfl) ?_
                refine al_ond rfl rfl rfl (by first | rfl | assumption) rfl rfl (by exact opd_move rfl rfl) ?_
                refine al_ond rfl rfl rfl (by first | rfl | assumption) rfl rfl (by exact OpD.val (by exact opd_sneq rfl rfl rfl) (g2)) ?_
                refine al_d rfl rfl rfl (by exact (by first | exact opd_pick_t rfl rfl rfl | exact opd_pick_f rfl rfl rfl | exact opd_pickt rfl rfl (by assumption) rfl | exact opd_pickf rfl rfl (by assumption) rfl | exact opd_pick rfl rfl rfl)) ?_
                refine al_d rfl rfl rfl (by exact opd_move rfl rfl) ?_
                refine al_ond rfl rfl rfl (by first | rfl | assumption) rfl rfl (by exact opd_move rfl rfl) ?_
                refine al_ond rfl rfl rfl (by first | rfl | assumption) rfl rfl (by exact opd_move rfl rfl) ?_
                refine al_ond rfl rfl rfl (by first | rfl | assumption) rfl rfl (by exact OpD.val (by exact opd_sneq rfl rfl rfl) (g3)) ?_
                refine al_d rfl rfl rfl (by exact (by first | exact opd_pick_t rfl rfl rfl | exact opd_pick_f rfl rfl rfl | exact opd_pickt rfl rfl (by assumption) rfl | exact opd_pickf rfl rfl (by assumption) rfl | exact opd_pick rfl rfl rfl)) ?_
                refine al_d rfl rfl rfl (by exact opd_assign rfl rfl) ?_
                refine al_nil ?_
                refine awp_seq ?_
                refine awp_seq ?_
                refine awp_region ?_
                refine al_d rfl rfl rfl (by exact opd_move rfl rfl) ?_
                refine al_nil ?_
                refine awp_cond rfl (fun hc16 => ?_) (fun hc16 => ?_)
                -- cond 16
                · skip
                  refine awp_region ?_
                  refine al_d rfl rfl rfl (by exact opd_move rfl rfl) ?_
                  refine al_d rfl rfl rfl (by exact opd_assign rfl rfl) ?_
                  refine al_nil ?_
                  refine awp_seq ?_
                  refine awp_region ?_
                  refine al_d rfl rfl rfl (by exact opd_move rfl rfl) ?_
                  refine al_d rfl rfl rfl (by exact opd_move rfl rfl) ?_
                  refine al_ond rfl rfl rfl (by first | rfl | assumption) rfl rfl (by exact opd_move rfl rfl) ?_
                  refine al_ond rfl rfl rfl (by first | rfl | assumption) rfl rfl (by exact opd_move rfl rfl) ?_
                  refine al_ond rfl rfl rfl (by first | rfl | assumption) rfl rfl (by exact opd_beql rfl Try.underlying4 rfl rfl) ?_
                  refine al_d rfl rfl rfl (by exact (by first | exact opd_pick_t rfl rfl rfl | exact opd_pick_f rfl rfl rfl | exact opd_pickt rfl rfl (by assumption) rfl | exact opd_pickf rfl rfl (by assumption) rfl | exact opd_pick rfl rfl rfl)) ?_
                  refine al_d rfl rfl rfl (by exact opd_move rfl rfl) ?_
                  refine al_ond rfl rfl rfl (by first | rfl | assumption) rfl rfl (by exact opd_move rfl rfl) ?_
                  refine al_ond rfl rfl rfl (by first | rfl | assumption) rfl rfl (by exact opd_move rfl rfl) ?_
                  refine al_ond rfl rfl rfl (by first | rfl | assumption) rfl rfl (by exact OpD.val (by exact opd_seql rfl rfl rfl) (hvv)) ?_
                  refine al_d rfl rfl rfl (by exact (by first | exact opd_pick_t rfl rfl rfl | exact opd_pick_f rfl rfl rfl | exact opd_pickt rfl rfl (by assumption) rfl | exact opd_pickf rfl rfl (by assumption) rfl | exact opd_pick rfl rfl rfl)) ?_
                  refine al_d rfl rfl rfl (by exact opd_move rfl rfl) ?_
                  refine al_ond rfl rfl rfl (by first | rfl | assumption) rfl rfl (by exact opd_move rfl rfl) ?_
                  refine al_ond rfl rfl rfl (by first | rfl | assumption) rfl rfl (by exact opd_move rfl rfl) ?_
                  refine al_ond rfl rfl rfl (by first | rfl | assumption) rfl rfl (by exact opd_sneq rfl rfl rfl) ?_
                  refine al_ond rfl rfl rfl (by first | rfl | assumption) rfl rfl (by exact OpD.val (by exact opd_beql rfl Try.underlying4 rfl rfl) (hee)) ?_
                  refine al_d rfl rfl rfl (by exact (by first | exact opd_pick_t rfl rfl rfl | exact opd_pick_f rfl rfl rfl | exact opd_pickt rfl rfl (by assumption) rfl | exact opd_pickf rfl rfl (by assumption) rfl | exact opd_pick rfl rfl rfl)) ?_
                  refine al_d rfl rfl rfl (by exact opd_move rfl rfl) ?_
                  refine al_ond rfl rfl rfl (by first | rfl | assumption) rfl rfl (by exact opd_move rfl rfl) ?_
                  refine al_ond rfl rfl rfl (by first | rfl | assumption) rfl rfl (by exact opr_call rfl rfl Try.call23 rfl (valid9_t m3 _ hx.1)) ?_
                  refine al_d rfl rfl rfl (by exact (by first | exact opd_pick_t rfl rfl rfl | exact opd_pick_f rfl rfl rfl | exact opd_pickt rfl rfl (by assumption) rfl | exact opd_pickf rfl rfl (by assumption) rfl | exact opd_pick rfl rfl rfl)) ?_
                  refine al_d rfl rfl rfl (by exact opd_assign rfl rfl) ?_
                  refine al_nil ?_
                  refine awp_ret ?_
                  -- return
                  refine aret1 (H' := []) (by first | exact .inr rfl | exact .inl rfl) rfl (rval_tmp rfl) (Fin.wk (by simp) trivial trivial) ?_
                  exact ⟨rfl, rfl⟩
                · skip
                  (first | (cases hc16; done) | (revert hc16; simp; done) | (revert hc16; simp_all; done) | (revert hc16; simp_all; omega))
              · skip
                (first | (cases hc15; done) | (revert hc15; simp; done) | (revert hc15; simp_all; done) | (revert hc15; simp_all; omega))
end Go.Proofs.Ytedfihgkopejcaa
end
