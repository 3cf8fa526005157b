/-
  CONTRACTS: tag.Set. Conditions: lengths below 2^40.
  CONTRACTS: tag.Text. Conditions: lengths below 2^62.
  CONTRACTS: lexer.unquoted. Conditions: lengths below 2^40.
  THE ABSTRACT LOGIC, 35: ways that meet in one of several states. Conditions: the rule's own premises.
  CONTRACTS: lexer.tokens and what it yields. Conditions: lengths below 2^40.
-/
import Derived.Test.YtedfihgkopejcaaKT5M5
section
set_option linter.unusedVariables false
set_option linter.unusedSimpArgs false
set_option maxRecDepth 100000
namespace Go.Proofs.Ytedfihgkopejcaa
open Go.Abs

def ascT (l : List GTag) : Prop := asc GTag.key l
theorem badTag_iff {last : ByteArray} {t : GTag} : badTag last t = false ↔ gName t.key = true ∧ slt last t.key = true ∧ t.val ≠ sNil ∧ t.val.size ≤ 200 := by
  simp only [badTag, Bool.or_eq_false_iff, Bool.not_eq_false', sle_iff, decide_eq_false_iff_not]
  constructor
  · rintro ⟨⟨⟨h1, h2⟩, h3⟩, h4⟩
    exact ⟨h1, h2, h3, by omega⟩
  · rintro ⟨h1, h2, h3, h4⟩
    exact ⟨⟨⟨h1, h2⟩, h3⟩, by omega⟩
theorem slt_pos {s : ByteArray} (h : s ≠ sNil) : slt sNil s = true := by
  cases e : slt sNil s with
  | true => rfl
  | false => exact absurd (slt_tri (slt_nil s) e) h
theorem gTags_iff {l : List GTag} : gTags l = true ↔ (∀ t, t ∈ l → gName t.key = true ∧ t.val ≠ sNil ∧ t.val.size ≤ 200) ∧ asc GTag.key l ∧ l.length ≤ 60 := by
  have hlen : decide ((l.length : Int) ≤ 60) = decide (l.length ≤ 60) := by
    rw [Bool.eq_iff_iff, decide_eq_true_eq, decide_eq_true_eq]; omega
  rw [gTags, hlen, Bool.and_eq_true, Bool.not_eq_true', List.any_eq_false, decide_eq_true_eq]
  constructor
  · rintro ⟨h, hn⟩
    have hb : ∀ k t, l[k]? = some t → gName t.key = true ∧ slt (before GTag.key l k) t.key = true ∧ t.val ≠ sNil ∧ t.val.size ≤ 200 := fun k t hk => by
      have h1 := h k (List.mem_range.2 (List.getElem?_eq_some_iff.1 hk).1)
      rw [badAt, hk] at h1
      simp only [Bool.not_eq_true] at h1
      exact badTag_iff.1 h1
    refine ⟨fun t ht => ?_, ?_, hn⟩
    · obtain ⟨k, hk⟩ := List.mem_iff_getElem?.1 ht
      obtain ⟨a, _, b, c⟩ := hb k t hk
      exact ⟨a, b, c⟩
    · have key : ∀ (d i : Nat) (a b : GTag), l[i]? = some a → l[i + d + 1]? = some b → slt a.key b.key = true := by
        intro d
        induction d with
        | zero =>
          intro i a b ha hb'
          have := (hb (i + 1) b hb').2.1
          rw [before, ha] at this
          exact this
        | succ d ih =>
          intro i a b ha hb'
          have hlt : i + d + 1 < l.length := by have := (List.getElem?_eq_some_iff.1 hb').1; omega
          obtain ⟨x, hx⟩ := get_of_lt hlt
          have h2 := (hb (i + (d + 1) + 1) b hb').2.1
          rw [before, show i + (d + 1) = i + d + 1 by omega, hx] at h2
          exact slt_trans (ih i a x ha hx) h2
      rw [asc, List.pairwise_iff_getElem]
      intro i j hi hj hij
      exact key (j - i - 1) i _ _ (List.getElem?_eq_getElem hi) (by rw [show i + (j - i - 1) + 1 = j by omega]; exact List.getElem?_eq_getElem hj)
  · rintro ⟨h1, h2, h3⟩
    refine ⟨fun k hk => ?_, h3⟩
    have hlt := List.mem_range.1 hk
    rw [badAt, List.getElem?_eq_getElem hlt]
    simp only [Bool.not_eq_true]
    obtain ⟨a, b, c⟩ := h1 _ (List.getElem_mem hlt)
    refine badTag_iff.2 ⟨a, ?_, b, c⟩
    cases k with
    | zero =>
      have : l[0].key ≠ sNil := gName_ne a
      exact slt_pos this
    | succ k =>
      rw [before, List.getElem?_eq_getElem (show k < l.length by omega)]
      exact asc_get h2 (Nat.lt_succ_self k) (List.getElem?_eq_getElem (by omega)) (List.getElem?_eq_getElem hlt)
/-- Tags with another value of a key. -/
def gSet (l : List GTag) (key val : ByteArray) : List GTag × Int :=
  if !gTags l || !gName key || decide (200 < (val.size : Int)) then ([], 1)
  else if hasK GTag.key l key then (if val = sNil then (l.take (lbI GTag.key l key) ++ l.drop (lbI GTag.key l key + 1), 0) else (l.set (lbI GTag.key l key) ⟨key, val⟩, 0))
  else if val = sNil then (l, 0)
  else if l.length = 60 then ([], 2)
  else (l.take (lbI GTag.key l key) ++ ⟨key, val⟩ :: l.drop (lbI GTag.key l key), 0)
theorem tagSet1_c (t : GTag) (s : ByteArray) (H : Heap) : ACalls Try.prog 28 [av (encTag t), sv s] H (fun r H' => r = iv (gCmp t.key s) ∧ H' = H) := by
  refine ACalls.pure ?_ (by simp) H
  refine ACalls.body Try.func28 rfl Try.ntmps28 (Nat.le_of_ble_eq_true rfl) ?_
  refine awp_seq ?_
  refine awp_region ?_
  refine al_d rfl rfl rfl (by exact opd_box (id := 2) rfl rfl rfl rfl rfl) ?_
  refine al_d rfl rfl rfl (by exact opd_assign rfl rfl) ?_
  refine al_nil ?_
  refine awp_seq ?_
  refine awp_region ?_
  refine al_d rfl rfl rfl (by exact (by first | exact opd_field_ref rfl fo46_0 rfl rfl rfl rfl | exact opd_field_pad rfl fo46_0 rfl rfl)) ?_
  refine al_d rfl rfl rfl (by exact (by first | exact opd_load1_ref rfl Try.isAgg9 rfl rfl rfl rfl rfl | exact opd_load1_pad rfl Try.isAgg9 rfl (by first | omega | assumption) rfl)) ?_
  refine al_d rfl rfl rfl (by exact opd_move rfl rfl) ?_
  refine al_d rfl rfl rfl (by exact opr_call rfl rfl Try.call29 rfl (compare_c t.key s _)) ?_
  refine al_d rfl rfl rfl (by exact opd_assign rfl rfl) ?_
  refine al_nil ?_
  refine awp_ret ?_
  -- return
  refine aret1 (H' := []) (by first | exact .inr rfl | exact .inl rfl) rfl (rval_tmp rfl) (Fin.wk (by simp) trivial trivial) ?_
  exact ⟨rfl, rfl⟩
theorem encTag_rl (l : List GTag) : ∀ r ∈ l.map encTag, r.length = 2 := fun r hr => by
  obtain ⟨t, _, rfl⟩ := List.mem_map.1 hr
  rfl
/-- A slice and another value are returned. -/
theorem Fin.tup1 {H1 : Heap} {id g n : Nat} {x : AV} (ob : Ob) (ps : List (List PV)) (hH1 : ∀ j, Heap.get [(id, ob)] j = H1.get j) (hg : ob.g = g) (hps : ob.rows = ps.map (·.map .pv)) (hn : ps.length = n) (hx : Clo [] x) :
    Fin [] H1 (.tup [.osl id g 0 n, x]) [] (.tup [.pv (.sl ps), x]) := by
  subst hg hn
  exact (Fin.get' (H' := [(id, ob)]) hH1).trans (Fin.fz (id := id) (ob := ob) ps (get_cons_same _ _ _) hps (.tup rfl (fz_cons (.osl (by rw [Nat.zero_add, List.drop_zero, List.take_length])) (fz_cons (.same hx) fz_nil))) rfl trivial trivial)
theorem tagSet_c (l : List GTag) (key val : ByteArray) (H : Heap) (hl : okTags l) (hk : key.size < 4611686018427387904) (hv : val.size < 4611686018427387904) (hl2 : l.length < 1099511627776) :
    ACalls Try.prog 11 [.pv (slTags l), sv key, sv val] H (fun r H' => r = .tup [.pv (slTags (gSet l key val).1), iv (gSet l key val).2] ∧ H' = H) := by
  refine ACalls.pure ?_ (by simp) H
  have hml : (l.map encTag).length = l.length := List.length_map _
  have hrl := encTag_rl l
  refine ACalls.body Try.func11 rfl Try.ntmps11 (Nat.le_of_ble_eq_true rfl) ?_
  refine awp_seq ?_
  refine awp_region ?_
  refine al_d rfl rfl rfl (by exact opd_assign rfl rfl) ?_
  refine al_d rfl rfl rfl (by exact opd_assign rfl rfl) ?_
  refine al_nil ?_
  refine awp_seq ?_
  refine awp_seq ?_
  refine awp_bool (t := 23) (n := 15) (X := !gTags l || !gName key || decide (200 < (val.size : Int))) ?_ ?_
  · all_goals (refine al_d rfl rfl rfl (by exact opd_move rfl rfl) ?_)
    all_goals (refine al_d rfl rfl rfl (by exact opr_call rfl rfl Try.call23 rfl (tagValid_c l _ hl)) ?_)
    all_goals (refine al_d rfl rfl rfl (by exact opd_not rfl rfl) ?_)
    all_goals (refine al_d rfl rfl rfl (by exact opd_move rfl rfl) ?_)
    all_goals (first | refine al_split (t := 14) rfl (fun h14 => ?_) (fun h14 => ?_) | refine al_dup (t := 14) rfl ?_ | skip)
    all_goals (try contradiction)
    all_goals (first | refine al_off rfl rfl rfl rfl rfl ?_ | refine al_offu rfl rfl rfl rfl ?_ | refine al_ond rfl rfl rfl rfl rfl rfl (by exact opd_move rfl rfl) ?_)
    all_goals (first | refine al_off rfl rfl rfl rfl rfl ?_ | refine al_offu rfl rfl rfl rfl ?_ | refine al_ond rfl rfl rfl rfl rfl rfl (by exact opr_call rfl rfl Try.call26 rfl (name_c key _ hk)) ?_)
    all_goals (first | refine al_off rfl rfl rfl rfl rfl ?_ | refine al_offu rfl rfl rfl rfl ?_ | refine al_ond rfl rfl rfl rfl rfl rfl (by exact opd_not rfl rfl) ?_)
    all_goals (refine al_d rfl rfl rfl (by exact (by first | exact opd_pick_t rfl rfl rfl | exact opd_pick_f rfl rfl rfl | exact opd_pickt rfl rfl (by assumption) rfl | exact opd_pickf rfl rfl (by assumption) rfl | exact opd_pick rfl rfl rfl)) ?_)
    all_goals (refine al_d rfl rfl rfl (by exact opd_move rfl rfl) ?_)
    all_goals (first | refine al_split (t := 19) rfl (fun h19 => ?_) (fun h19 => ?_) | refine al_dup (t := 19) rfl ?_ | skip)
    all_goals (try contradiction)
    all_goals (first | refine al_off rfl rfl rfl rfl rfl ?_ | refine al_offu rfl rfl rfl rfl ?_ | refine al_ond rfl rfl rfl rfl rfl rfl (by exact opd_move rfl rfl) ?_)
    all_goals (first | refine al_off rfl rfl rfl rfl rfl ?_ | refine al_offu rfl rfl rfl rfl ?_ | refine al_ond rfl rfl rfl rfl rfl rfl (by exact opd_len_str rfl Try.underlying9 rfl) ?_)
    all_goals (first | refine al_off rfl rfl rfl rfl rfl ?_ | refine al_offu rfl rfl rfl rfl ?_ | refine al_ond rfl rfl rfl rfl rfl rfl (by exact opd_gtr rfl rfl rfl) ?_)
    all_goals (refine al_d rfl rfl rfl (by exact (by first | exact opd_pick_t rfl rfl rfl | exact opd_pick_f rfl rfl rfl | exact opd_pickt rfl rfl (by assumption) rfl | exact opd_pickf rfl rfl (by assumption) rfl | exact opd_pick rfl rfl rfl)) ?_)
    all_goals (refine al_nil ?_)
    all_goals (exact ⟨⟨_, rfl, by first | rfl | (simp only [*, Bool.false_and, Bool.true_and, Bool.and_false, Bool.and_true, Bool.true_or, Bool.false_or, Bool.or_true, Bool.or_false, Bool.not_true, Bool.not_false]; done) | (simp_all; done) | (simp_all; omega)⟩, rfl, rfl, rfl⟩)
  refine awp_cond rfl (fun hc1 => ?_) (fun hc1 => ?_)
  -- cond 1
  · have e : gSet l key val = ([], 1) := by rw [gSet, if_pos hc1]
    rw [e]
    refine awp_seq ?_
    refine awp_region ?_
    refine al_d rfl rfl rfl (by exact opd_assign rfl rfl) ?_
    refine al_d rfl rfl rfl (by exact opd_assign rfl rfl) ?_
    refine al_nil ?_
    refine awp_ret ?_
    -- return
    refine aret2 (H' := []) (by first | exact .inr rfl | exact .inl rfl) rfl (rval_tmp rfl) (rval_tmp rfl) (Fin.wk (by simp) trivial trivial) ?_
    exact ⟨rfl, rfl⟩
  · have hg : gTags l = true := by
      have h := hc1
      revert h
      cases gTags l <;> simp
    obtain ⟨g1, g2, g3⟩ := gTags_iff.1 hg
    have hle := lbI_le GTag.key l key
    have hb := bsf_GTag (.pv (.fn 28)) l key [] hl2 g2 (fun o ho => CallsV.fn Try.call28 (tagSet1_c o key _))
    obtain ⟨i, hi0⟩ : ∃ i, i = lbI GTag.key l key := ⟨_, rfl⟩
    have hw : IntKind.i64.wrap ((i : Int) + 1) = ((i + 1 : Nat) : Int) := by rw [IntKind.wrap_i64]; omega
    have hgs : gSet l key val = if hasK GTag.key l key then (if val = sNil then (l.take i ++ l.drop (i + 1), 0) else (l.set i ⟨key, val⟩, 0)) else if val = sNil then (l, 0) else if l.length = 60 then ([], 2) else (l.take i ++ ⟨key, val⟩ :: l.drop i, 0) := by
      rw [gSet, if_neg (by rw [hc1]; simp), hi0]
    rw [← hi0] at hle hb
    refine awp_skip ?_
    refine awp_seq ?_
    refine awp_region ?_
    refine al_d rfl rfl rfl (by exact opd_move rfl rfl) ?_
    refine al_d rfl rfl rfl (by exact opd_move rfl rfl) ?_
    refine al_d rfl rfl rfl (by exact opr_call rfl rfl Try.call27 rfl (hb)) ?_
    refine al_d rfl rfl rfl (by exact opd_move rfl rfl) ?_
    refine al_d rfl rfl rfl (by exact opd_extract rfl rfl rfl) ?_
    refine al_d rfl rfl rfl (by exact opd_extract rfl rfl rfl) ?_
    refine al_d rfl rfl rfl (by exact opd_assign rfl rfl) ?_
    refine al_d rfl rfl rfl (by exact opd_assign rfl rfl) ?_
    refine al_nil ?_
    refine awp_seq ?_
    refine awp_region ?_
    refine al_d rfl rfl rfl (by exact opd_move rfl rfl) ?_
    refine al_d rfl rfl rfl (by exact opr_call rfl rfl Try.call30 rfl (clone_Tag (l.map encTag) [] (Closed.of (by simp)) rfl rfl (by omega) hrl)) ?_
    refine al_d rfl rfl rfl (by exact opd_assign rfl rfl) ?_
    refine al_nil ?_
    refine awp_seq ?_
    refine awp_block ?_
    refine awp_seq ?_
    refine awp_bool (t := 32) (n := 7) (X := hasK GTag.key l key && decide (val = sNil)) ?_ ?_
    · all_goals (refine al_d rfl rfl rfl (by exact opd_move rfl rfl) ?_)
      all_goals (refine al_d rfl rfl rfl (by exact opd_move rfl rfl) ?_)
      all_goals (first | refine al_split (t := 34) rfl (fun h34 => ?_) (fun h34 => ?_) | refine al_dup (t := 34) rfl ?_ | skip)
      all_goals (try contradiction)
      all_goals (first | refine al_off rfl rfl rfl rfl rfl ?_ | refine al_offu rfl rfl rfl rfl ?_ | refine al_ond rfl rfl rfl rfl rfl rfl (by exact opd_move rfl rfl) ?_)
      all_goals (first | refine al_off rfl rfl rfl rfl rfl ?_ | refine al_offu rfl rfl rfl rfl ?_ | refine al_ond rfl rfl rfl rfl rfl rfl (by exact opd_seql rfl rfl rfl) ?_)
      all_goals (refine al_d rfl rfl rfl (by exact (by first | exact opd_pick_t rfl rfl rfl | exact opd_pick_f rfl rfl rfl | exact opd_pickt rfl rfl (by assumption) rfl | exact opd_pickf rfl rfl (by assumption) rfl | exact opd_pick rfl rfl rfl)) ?_)
      all_goals (refine al_d rfl rfl rfl (by exact opd_assign rfl rfl) ?_)
      all_goals (refine al_nil ?_)
      all_goals (exact ⟨⟨_, rfl, by first | rfl | (simp only [hasK, *]; rfl) | (simp_all [hasK]; done) | (simp only [*, Bool.false_and, Bool.true_and, Bool.and_false, Bool.and_true, Bool.true_or, Bool.false_or, Bool.or_true, Bool.or_false, Bool.not_true, Bool.not_false]; done) | (simp_all; omega) | (simp_all [hasK]; omega)⟩, rfl, rfl, rfl⟩)
    refine awp_cond rfl (fun hc2 => ?_) (fun hc2 => ?_)
    -- cond 2
    · have h := hc2
      rw [Bool.and_eq_true, decide_eq_true_eq] at h
      obtain ⟨hf, hvn⟩ := h
      obtain ⟨o, ho, hok⟩ := hasK_get g2 hf
      rw [← hi0] at ho
      have hlt := (List.getElem?_eq_some_iff.1 ho).1
      rw [hgs, if_pos hf, if_pos hvn]
      refine awp_region ?_
      refine al_d rfl rfl rfl (by exact opd_move rfl rfl) ?_
      refine al_d rfl rfl rfl (by exact opd_move rfl rfl) ?_
      refine al_d rfl rfl rfl (by exact opd_move rfl rfl) ?_
      refine al_d rfl rfl rfl (by exact opd_add rfl rfl rfl hw) ?_
      refine al_d rfl rfl rfl (by exact opr_call rfl rfl Try.call31 rfl (delete_Tag (l.map encTag) i (i + 1) 1 _ (Closed.of (by simp)) rfl (by omega) (by omega) (by omega) hrl)) ?_
      refine al_d rfl rfl rfl (by exact opd_assign rfl rfl) ?_
      refine al_nil ?_
      refine awp_seq ?_
      refine awp_region ?_
      refine al_d rfl rfl rfl (by exact opd_move rfl rfl) ?_
      refine al_d rfl rfl rfl (by exact opd_assign rfl rfl) ?_
      refine al_d rfl rfl rfl (by exact opd_assign rfl rfl) ?_
      refine al_nil ?_
      refine awp_ret ?_
      -- return
      refine aret2 (H' := []) (by first | exact .inr rfl | exact .inl rfl) rfl (rval_tmp rfl) (rval_tmp rfl) (Fin.wk (by simp) trivial trivial) ?_
      exact ⟨by rw [slTags, List.map_append, List.map_take, List.map_drop], rfl⟩
    · skip
      refine awp_seq ?_
      refine awp_region ?_
      refine al_d rfl rfl rfl (by exact opd_move rfl rfl) ?_
      refine al_d rfl rfl rfl (by exact opd_assign rfl rfl) ?_
      refine al_nil ?_
      refine awp_cond rfl (fun hc3 => ?_) (fun hc3 => ?_)
      -- cond 3
      · have hf : hasK GTag.key l key = true := hc3
        have hvn : ¬ val = sNil := by
          have h := hc2
          rw [hf, Bool.true_and] at h
          exact of_decide_eq_false h
        obtain ⟨o, ho, hok⟩ := hasK_get g2 hf
        rw [← hi0] at ho
        have hlt := (List.getElem?_eq_some_iff.1 ho).1
        rw [hgs, if_pos hf, if_neg hvn]
        have hir : (pvR (l.map encTag))[i]? = some [sv o.key, sv o.val] := by rw [pvR, List.map_map, List.getElem?_map, ho]; rfl
        refine awp_region ?_
        refine al_d rfl rfl rfl (by exact opd_move rfl rfl) ?_
        refine al_d rfl rfl rfl (by exact opd_move rfl rfl) ?_
        refine al_d rfl rfl rfl (by exact opd_move rfl rfl) ?_
        refine al_d rfl rfl rfl (by exact (by first | exact x_index_pad rfl so22 rfl rfl (by omega) (by first | exact Int.toNat_natCast _ | rfl) (by rw [hml]; exact hlt) rfl | exact x_index_osl rfl so22 rfl rfl rfl rfl rfl (by omega) (by first | exact Int.toNat_natCast _ | rfl) (by rw [hml]; exact hlt) (Nat.zero_add _))) ?_
        refine al_d rfl rfl rfl (by exact (by first | exact opd_field_ref rfl fo46_1 rfl rfl rfl rfl | exact opd_field_pad rfl fo46_1 rfl rfl)) ?_
        refine al_n rfl rfl (by exact x_store1 rfl Try.sizeOf9 rfl rfl rfl rfl rfl hir (Nat.le_of_ble_eq_true rfl) rfl rfl) ?_
        refine al_nil ?_
        refine awp_seq ?_
        refine awp_region ?_
        refine al_d rfl rfl rfl (by exact opd_move rfl rfl) ?_
        refine al_d rfl rfl rfl (by exact opd_assign rfl rfl) ?_
        refine al_d rfl rfl rfl (by exact opd_assign rfl rfl) ?_
        refine al_nil ?_
        refine awp_ret ?_
        -- return
        refine aret2 (H' := []) (by first | exact .inr rfl | exact .inl rfl) rfl (rval_tmp rfl) (rval_tmp rfl) (Fin.tup1 (id := 901) ⟨1, 2, 46, (pvR (l.map encTag)).set i [sv o.key, sv val]⟩ ((l.set i ⟨key, val⟩).map encTag) (fun j => by cases e : Nat.beq 901 j <;> simp [Heap.get, e]) rfl (by rw [List.map_set, List.map_set, ← hok]; rfl) (by rw [List.length_map, List.length_set, List.length_map]) (by simp)) ?_
        exact ⟨rfl, rfl⟩
      · have hf : hasK GTag.key l key = false := hc3
        rw [hgs, if_neg (by rw [hf]; simp)]
        refine awp_seq ?_
        refine awp_bool (t := 50) (n := 9) (X := (!decide (val = sNil)) && decide ((l.length : Int) = 60)) ?_ ?_
        · all_goals (refine al_d rfl rfl rfl (by exact opd_move rfl rfl) ?_)
          all_goals (refine al_d rfl rfl rfl (by exact opd_sneq rfl rfl rfl) ?_)
          all_goals (refine al_d rfl rfl rfl (by exact opd_move rfl rfl) ?_)
          all_goals (first | refine al_split (t := 53) rfl (fun h53 => ?_) (fun h53 => ?_) | refine al_dup (t := 53) rfl ?_ | skip)
          all_goals (try contradiction)
          all_goals (first | refine al_off rfl rfl rfl rfl rfl ?_ | refine al_offu rfl rfl rfl rfl ?_ | refine al_ond rfl rfl rfl rfl rfl rfl (by exact opd_move rfl rfl) ?_)
          all_goals (first | refine al_off rfl rfl rfl rfl rfl ?_ | refine al_offu rfl rfl rfl rfl ?_ | refine al_ond rfl rfl rfl rfl rfl rfl (by exact (by first | exact opd_len_sl rfl Try.underlying22 rfl | exact opd_len_osl rfl Try.underlying22 rfl rfl rfl)) ?_)
          all_goals (first | refine al_off rfl rfl rfl rfl rfl ?_ | refine al_offu rfl rfl rfl rfl ?_ | refine al_ond rfl rfl rfl rfl rfl rfl (by exact opd_eql rfl rfl rfl) ?_)
          all_goals (refine al_d rfl rfl rfl (by exact (by first | exact opd_pick_t rfl rfl rfl | exact opd_pick_f rfl rfl rfl | exact opd_pickt rfl rfl (by assumption) rfl | exact opd_pickf rfl rfl (by assumption) rfl | exact opd_pick rfl rfl rfl)) ?_)
          all_goals (refine al_d rfl rfl rfl (by exact opd_assign rfl rfl) ?_)
          all_goals (refine al_nil ?_)
          all_goals (exact ⟨⟨_, rfl, by first | rfl | (simp only [hasK, *]; rfl) | (simp_all [hasK]; done) | (simp only [*, Bool.false_and, Bool.true_and, Bool.and_false, Bool.and_true, Bool.true_or, Bool.false_or, Bool.or_true, Bool.or_false, Bool.not_true, Bool.not_false]; done) | (simp_all; omega) | (simp_all [hasK]; omega)⟩, rfl, rfl, rfl⟩)
        refine awp_cond rfl (fun hc4 => ?_) (fun hc4 => ?_)
        -- cond 4
        · have h := hc4
          rw [Bool.and_eq_true, Bool.not_eq_true', decide_eq_false_iff_not, decide_eq_true_eq] at h
          rw [if_neg h.1, if_pos (by omega)]
          refine awp_seq ?_
          refine awp_region ?_
          refine al_d rfl rfl rfl (by exact opd_assign rfl rfl) ?_
          refine al_d rfl rfl rfl (by exact opd_assign rfl rfl) ?_
          refine al_nil ?_
          refine awp_ret ?_
          -- return
          refine aret2 (H' := []) (by first | exact .inr rfl | exact .inl rfl) rfl (rval_tmp rfl) (rval_tmp rfl) (Fin.wk (by simp) trivial trivial) ?_
          exact ⟨rfl, rfl⟩
        · skip
          refine awp_seq ?_
          refine awp_region ?_
          refine al_d rfl rfl rfl (by exact opd_move rfl rfl) ?_
          refine al_d rfl rfl rfl (by exact opd_sneq rfl rfl rfl) ?_
          refine al_d rfl rfl rfl (by exact opd_assign rfl rfl) ?_
          refine al_nil ?_
          refine awp_cond rfl (fun hc5 => ?_) (fun hc5 => ?_)
          -- cond 5
          · have hvn : ¬ val = sNil := by
              have h := hc5
              simpa using h
            have h60 : ¬ l.length = 60 := by
              have h := hc4
              simp only [Bool.and_eq_false_iff, Bool.not_eq_false', decide_eq_true_eq, decide_eq_false_iff_not] at h
              rcases h with h | h
              · exact absurd h hvn
              · omega
            rw [if_neg hvn, if_neg h60]
            refine awp_region ?_
            refine al_d rfl rfl rfl (by exact opd_move rfl rfl) ?_
            refine al_d rfl rfl rfl (by exact opd_move rfl rfl) ?_
            refine al_d rfl rfl rfl (by exact opd_move rfl rfl) ?_
            refine al_d rfl rfl rfl (by exact opd_move rfl rfl) ?_
            refine al_d rfl rfl rfl (by exact x_build rfl bo46 rfl rfl) ?_
            refine al_d rfl rfl rfl (by exact x_buildSlice_own (id := 902) rfl so22 rfl rfl rfl rfl (by intro r hr; rw [List.mem_singleton] at hr; subst hr; rfl) rfl) ?_
            refine al_d rfl rfl rfl (by exact opr_call rfl rfl Try.call32 rfl (insert_Tag (l.map encTag) (encTag ⟨key, val⟩) i 1 _ (Closed.ofL ⟨(by first | (simp; done) | (simp; rfl) | exact clo_pvR _ _ | exact clo_two _ _ _ | exact clo_map _ _ _), (by first | (simp; done) | (simp; rfl) | exact clo_pvR _ _ | exact clo_two _ _ _ | exact clo_map _ _ _), trivial⟩) rfl rfl rfl (by omega) (by omega) hrl rfl)) ?_
            refine al_d rfl rfl rfl (by exact opd_assign rfl rfl) ?_
            refine al_nil ?_
            refine awp_seq ?_
            refine awp_region ?_
            refine al_d rfl rfl rfl (by exact opd_move rfl rfl) ?_
            refine al_d rfl rfl rfl (by exact opd_assign rfl rfl) ?_
            refine al_d rfl rfl rfl (by exact opd_assign rfl rfl) ?_
            refine al_nil ?_
            refine awp_ret ?_
            -- return
            refine aret2 (H' := []) (by first | exact .inr rfl | exact .inl rfl) rfl (rval_tmp rfl) (rval_tmp rfl) (Fin.wk (by simp) trivial trivial) ?_
            exact ⟨by rw [slTags, List.map_append, List.map_take, List.map_cons, List.map_drop], rfl⟩
          · have hvn : val = sNil := by
              have h := hc5
              simpa using h
            rw [if_pos hvn]
            refine awp_skip ?_
            refine awp_seq ?_
            refine awp_region ?_
            refine al_d rfl rfl rfl (by exact opd_move rfl rfl) ?_
            refine al_d rfl rfl rfl (by exact opd_assign rfl rfl) ?_
            refine al_d rfl rfl rfl (by exact opd_assign rfl rfl) ?_
            refine al_nil ?_
            refine awp_ret ?_
            -- return
            refine aret2 (H' := []) (by first | exact .inr rfl | exact .inl rfl) rfl (rval_tmp rfl) (rval_tmp rfl) (Fin.tup1 (id := 901) ⟨1, 2, 46, pvR (l.map encTag)⟩ (l.map encTag) (fun j => rfl) rfl rfl rfl (by simp)) ?_
            exact ⟨rfl, rfl⟩
end Go.Proofs.Ytedfihgkopejcaa
end
section
set_option linter.unusedVariables false
set_option linter.unusedSimpArgs false
set_option maxRecDepth 100000
namespace Go.Proofs.Ytedfihgkopejcaa
open Go.Abs
def wRows (l : List ByteArray) : List (List AV) := l.map fun s => [.pv (.str s)]
theorem wRows_len (l : List ByteArray) : (wRows l).length = l.length := List.length_map _
theorem wRows_app (l : List ByteArray) (s : ByteArray) : wRows l ++ [[.pv (.str s)]] = wRows (l ++ [s]) := by rw [wRows, wRows, List.map_append]; rfl
theorem wRows_clo (H : Heap) (l : List ByteArray) : ∀ r ∈ wRows l, ∀ a ∈ r, Clo H a := by
  intro r hr a ha
  obtain ⟨b, _, rfl⟩ := List.mem_map.1 hr
  rw [List.mem_singleton] at ha
  subst ha
  simp
theorem wRows_enc (l : List ByteArray) : wRows l = (l.map encStr).map (·.map .pv) := by rw [List.map_map]; rfl

/-- A tag as text. -/
def gLine (t : GTag) : ByteArray := t.key ++ ⟨#[61]⟩ ++ ⟨(gQuote t.val.data.toList).toArray⟩
def wK (L : List ByteArray) : Heap := [(903, ⟨L.length, 1, 9, wRows L⟩), (4, bx 1 28 [.osl 903 L.length 0 L.length])]
theorem wK_app (L : List ByteArray) (s : ByteArray) : wK (L ++ [s]) = [(903, ⟨L.length + 1, 1, 9, wRows (L ++ [s])⟩), (4, bx 1 28 [.osl 903 (L.length + 1) 0 (L.length + 1)])] := by simp [wK]
theorem quote_size (s : ByteArray) : (⟨(gQuote s.data.toList).toArray⟩ : ByteArray).size ≤ 2 * s.size + 2 := by
  show (gQuote s.data.toList).length ≤ _
  have := escs_len s.data.toList
  have h : s.data.toList.length = s.size := by simp
  rw [gQuote, List.length_cons, List.length_append, List.length_singleton]
  omega
theorem keys2 {i j : Nat} {a b a' b' : Ob} {id : Nat} (h : (Heap.get [(i, a), (j, b)] id).isSome = true) : (Heap.get [(i, a'), (j, b')] id).isSome = true := by
  simp only [Heap.get] at h ⊢
  cases e1 : Nat.beq i id with
  | true => rfl
  | false =>
    rw [e1] at h
    cases e2 : Nat.beq j id with
    | true => rfl
    | false => rw [e2] at h; exact h
theorem text1_c (t : GTag) (L : List ByteArray) (hk : t.key.size < 1099511627776) (hv : t.val.size < 1099511627776) (hL : L.length < 1099511627776) :
    ACalls Try.prog 39 [av (encTag t), .ref 4 0 0 0] (wK L) (fun r H' => r = .tup [] ∧ H' = wK (L ++ [gLine t])) := by
  rw [wK_app]
  have hq := quote_size t.val
  have h61 : (⟨#[61]⟩ : ByteArray).size = 1 := rfl
  have hks : (t.key ++ ⟨#[61]⟩ : ByteArray).size = t.key.size + 1 := by rw [ByteArray.size_append]; rfl
  refine ACalls.body Try.func39 rfl Try.ntmps39 (Nat.le_of_ble_eq_true rfl) ?_
  refine awp_seq ?_
  refine awp_region ?_
  refine al_d rfl rfl rfl (by exact opd_box (id := 2) rfl rfl rfl rfl rfl) ?_
  refine al_nil ?_
  refine awp_drawc follows ?_
  refine dc_cons (r := ⟨_, some [4], []⟩) (DStep.plain rfl (fun H1 hH => by exact (by first | exact opd_load1_ref rfl Try.isAgg28 rfl ((hH _ rfl).trans rfl) rfl rfl rfl | exact opd_load1_pad rfl Try.isAgg28 rfl (by first | omega | assumption) rfl))) rfl ?_
  refine dc_cons (r := ⟨_, some [2], []⟩) (DStep.plain rfl (fun H1 hH => by exact (by first | exact opd_field_ref rfl fo46_0 rfl ((hH _ rfl).trans rfl) rfl rfl | exact opd_field_pad rfl fo46_0 rfl rfl))) rfl ?_
  refine dc_cons (r := ⟨_, some [2], []⟩) (DStep.plain rfl (fun H1 hH => by exact (by first | exact opd_load1_ref rfl Try.isAgg9 rfl ((hH _ rfl).trans rfl) rfl rfl rfl | exact opd_load1_pad rfl Try.isAgg9 rfl (by first | omega | assumption) rfl))) rfl ?_
  refine dc_cons (r := ⟨_, some [], []⟩) (DStep.plain rfl (fun H1 hH => by exact opd_sadd rfl rfl rfl (by omega) rfl)) rfl ?_
  refine dc_cons (r := ⟨_, some [2], []⟩) (DStep.plain rfl (fun H1 hH => by exact (by first | exact opd_field_ref rfl fo46_1 rfl ((hH _ rfl).trans rfl) rfl rfl | exact opd_field_pad rfl fo46_1 rfl rfl))) rfl ?_
  refine dc_cons (r := ⟨_, some [2], []⟩) (DStep.plain rfl (fun H1 hH => by exact (by first | exact opd_load1_ref rfl Try.isAgg9 rfl ((hH _ rfl).trans rfl) rfl rfl rfl | exact opd_load1_pad rfl Try.isAgg9 rfl (by first | omega | assumption) rfl))) rfl ?_
  refine dc_cons (r := ⟨_, some [], []⟩) (DStep.plain rfl (fun H1 hH => by exact opr_call rfl rfl Try.call40 rfl (quote_c t.val _ (by omega)))) rfl ?_
  refine dc_cons (r := ⟨_, some [], []⟩) (DStep.plain rfl (fun H1 hH => by exact opd_sadd rfl rfl rfl (by omega) rfl)) rfl ?_
  refine dc_cons (r := ⟨_, some [], []⟩) (DStep.plain rfl (fun H1 hH => by exact (by first | exact x_buildSlice [[.str (gLine t)]] rfl so28 rfl rfl rfl rfl rfl (by intro r hr; rw [List.mem_singleton] at hr; subst hr; rfl) | (apply x_buildSlice (ps := [[.str (gLine t)]]) (hS := so28) <;> first | rfl | exact (by intro r hr; rw [List.mem_singleton] at hr; subst hr; rfl) | simp)))) rfl ?_
  refine dc_cons (r := ⟨_, some [903], [_]⟩) (DStep.plain rfl (fun H1 hH => by exact x_append (ps := [[.str (gLine t)]]) rfl so28 ei9 rfl ((hH _ rfl).trans rfl) rfl rfl rfl (wRows_len L) rfl (by intro r hr; rw [List.mem_singleton] at hr; subst hr; rfl) (m := 1) rfl (by omega) rfl (wRows_app L (gLine t)))) rfl ?_
  refine dc_cons (r := ⟨_, some [4], [_]⟩) (DStep.plain rfl (fun H1 hH => by exact (by first | exact x_store_all rfl Try.sizeOf28 rfl rfl rfl rfl ((hH _ rfl).trans rfl) rfl rfl rfl | exact x_store1 rfl Try.sizeOf28 rfl rfl rfl ((hH _ rfl).trans rfl) rfl rfl (by simp only [List.length_cons, List.length_nil]; omega) (by simp only [List.drop_succ_cons, List.drop_zero, List.take_succ_cons, List.take_zero, List.take_nil, List.map_cons, List.map_nil, List.set_cons_zero, List.set_cons_succ, List.cons_append, List.nil_append, encTag]; rfl) (by simp only [List.drop_succ_cons, List.drop_zero, List.take_succ_cons, List.take_zero, List.take_nil, List.map_cons, List.map_nil, List.set_cons_zero, List.set_cons_succ, List.cons_append, List.nil_append, encTag]; rfl) | exact x_store1 rfl Try.sizeOf28 rfl rfl rfl ((hH _ rfl).trans rfl) rfl rfl (Nat.le_of_ble_eq_true rfl) rfl rfl))) rfl ?_
  refine dc_nil ⟨by kernel_rfl, ?_⟩
  -- end of the body
  exact aret0 (H' := [(903, ⟨L.length + 1, 1, 9, wRows (L ++ [gLine t])⟩), (4, bx 1 28 [.osl 903 (L.length + 1) 0 (L.length + 1)])]) (.inl rfl) rfl (Fin.wk (by first | (simp; done) | (simp; rfl)) ⟨⟨_, rfl, rfl⟩, (by first | (simp; done) | (simp; rfl) | (simp; exact ⟨rfl, rfl⟩) | exact wRows_clo _ _ | exact clo_map _ _ _), ⟨_, rfl, rfl⟩, (by first | (simp; done) | (simp; rfl) | (simp; exact ⟨rfl, rfl⟩) | exact wRows_clo _ _ | exact clo_map _ _ _), trivial⟩ ⟨rfl, rfl, trivial⟩) ⟨rfl, rfl⟩
def gTagS (l : List GTag) : ByteArray := ⟨(gJoin [32] (bs (l.map gLine))).toArray⟩
/-- The text of tags. -/
def gText (l : List GTag) : ByteArray × Int := if gTags l then (if 20000 < (gTagS l).size then (sNil, 2) else (gTagS l, 0)) else (sNil, 1)
theorem line_size {t : GTag} (hk : t.key.size ≤ 24) (hv : t.val.size ≤ 200) : (gLine t).size ≤ 427 := by
  have hq := quote_size t.val
  have h61 : (⟨#[61]⟩ : ByteArray).size = 1 := rfl
  rw [gLine, ByteArray.size_append, ByteArray.size_append, h61]
  omega
theorem gName_size {s : ByteArray} (h : gName s = true) : s.size ≤ 24 := by
  rw [gName, Bool.and_eq_true, Bool.and_eq_true, decide_eq_true_eq] at h
  omega
theorem sizes_bound {l : List ByteArray} {n : Nat} (h : ∀ s, s ∈ l → s.size ≤ n) : sizes l ≤ n * l.length := by
  induction l with
  | nil => exact Nat.zero_le _
  | cons a l ih =>
    rw [sizes, List.map_cons, List.sum_cons, List.length_cons, Nat.mul_succ]
    have h1 := h a List.mem_cons_self
    have h2 := ih (fun s hs => h s (List.mem_cons_of_mem _ hs))
    rw [sizes] at h2
    omega
/-- strings.Join of words that the caller holds as an object of its own. -/
theorem joinO {L : List ByteArray} {K : Heap} {r : ByteArray} (h : ACalls Try.prog 41 [.pv (slStrs L), sv ⟨#[32]⟩] [] (fun x H' => x = sv r ∧ H' = [])) : ACalls Try.prog 41 [.osl 903 L.length 0 L.length, sv ⟨#[32]⟩] ((903, ⟨L.length, 1, 9, wRows L⟩) :: K) (fun x H' => x = sv r ∧ H' = (903, ⟨L.length, 1, 9, wRows L⟩) :: K) := by
  exact RO.calls (RO.lend (id := 903) (H1 := []) (L.map encStr) (RO.of h rfl) (get_cons_same _ _ _) (wRows_enc L) rfl
    (fz_cons (.osl (by rw [Nat.zero_add, List.drop_zero, List.take_of_length_le (by rw [List.length_map]; exact Nat.le_refl _)])) (fz_cons (.same (by simp)) fz_nil)) (fun _ _ h => by cases h) (fun _ _ h => by cases h) rfl)
theorem tagText_c (l : List GTag) (H : Heap) (hl : okTags l) : ACalls Try.prog 15 [.pv (slTags l)] H (fun r H' => r = .tup [sv (gText l).1, iv (gText l).2] ∧ H' = H) := by
  refine ACalls.pure ?_ (by simp) H
  have hml : (l.map encTag).length = l.length := List.length_map _
  refine ACalls.body Try.func15 rfl Try.ntmps15 (Nat.le_of_ble_eq_true rfl) ?_
  refine awp_seq ?_
  refine awp_region ?_
  refine al_d rfl rfl rfl (by exact opd_assign rfl rfl) ?_
  refine al_d rfl rfl rfl (by exact opd_assign rfl rfl) ?_
  refine al_nil ?_
  refine awp_seq ?_
  refine awp_seq ?_
  refine awp_region ?_
  refine al_d rfl rfl rfl (by exact opd_move rfl rfl) ?_
  refine al_d rfl rfl rfl (by exact opr_call rfl rfl Try.call23 rfl (tagValid_c l _ hl)) ?_
  refine al_d rfl rfl rfl (by exact opd_not rfl rfl) ?_
  refine al_nil ?_
  refine awp_cond rfl (fun hc1 => ?_) (fun hc1 => ?_)
  -- cond 1
  · have hg : gTags l = false := by rw [← Bool.not_eq_true']; exact hc1
    have e : gText l = (sNil, 1) := by rw [gText, if_neg (by rw [hg]; decide)]
    rw [e]
    refine awp_seq ?_
    refine awp_region ?_
    refine al_d rfl rfl rfl (by exact opd_assign rfl rfl) ?_
    refine al_d rfl rfl rfl (by exact opd_assign rfl rfl) ?_
    refine al_nil ?_
    refine awp_ret ?_
    -- return
    refine aret2 (H' := []) (by first | exact .inr rfl | exact .inl rfl) rfl (rval_tmp rfl) (rval_tmp rfl) (Fin.wk (by simp) trivial trivial) ?_
    exact ⟨rfl, rfl⟩
  · have hg : gTags l = true := by rw [← Bool.not_eq_false']; exact hc1
    obtain ⟨g1, g2, g3⟩ := gTags_iff.1 hg
    refine awp_skip ?_
    refine awp_seq ?_
    refine awp_region ?_
    refine al_d rfl rfl rfl (by exact x_alloc (id := 4) rfl zoN28 rfl rfl) ?_
    refine al_nil ?_
    refine awp_seq ?_
    refine awp_region ?_
    refine al_d rfl rfl rfl (by exact opd_makeFunc rfl rfl) ?_
    refine al_d rfl rfl rfl (by exact opd_assign rfl rfl) ?_
    refine al_nil ?_
    refine awp_seq ?_
    refine awp_seq ?_
    -- before the slot
    refine AWp.ent (E' := [(0, .pv (slTags l)), (4, .ref 4 0 0 0), (5, .clo 39 [.ref 4 0 0 0])]) (H' := wK []) (Ent.nz 903 1 9 rfl rfl ⟨⟨_, rfl, (by first | exact Nz.own | exact Nz.weak | exact Nz.same (by first | (simp; done) | (simp; rfl) | (simp; exact ⟨rfl, rfl⟩) | exact wRows_clo _ _ | exact clo_map _ _ _))⟩, ⟨_, rfl, (by first | exact Nz.own | exact Nz.weak | exact Nz.same (by first | (simp; done) | (simp; rfl) | (simp; exact ⟨rfl, rfl⟩) | exact wRows_clo _ _ | exact clo_map _ _ _))⟩, ⟨_, rfl, (by first | exact Nz.own | exact Nz.weak | exact Nz.same (by first | (simp; done) | (simp; rfl) | (simp; exact ⟨rfl, rfl⟩) | exact wRows_clo _ _ | exact clo_map _ _ _))⟩, trivial⟩ ⟨⟨_, rfl, rfl, rfl, rfl, (by first | exact .inl ⟨rfl, (by first | (simp; done) | (simp; rfl) | (simp; exact ⟨rfl, rfl⟩) | exact wRows_clo _ _ | exact clo_map _ _ _)⟩ | exact .inr ⟨_, _, rfl, rfl, (by repeat (first | exact trivial | refine ⟨(by first | exact Nz.own | exact Nz.weak | exact Nz.same (by first | (simp; done) | (simp; rfl) | (simp; exact ⟨rfl, rfl⟩) | exact wRows_clo _ _ | exact clo_map _ _ _)), ?_⟩))⟩)⟩, trivial⟩ trivial) ?_
    refine awp_region ?_
    refine al_d rfl rfl rfl (by exact opd_move rfl rfl) ?_
    refine al_d rfl rfl rfl (by exact (by first | exact opd_len_sl rfl Try.underlying22 rfl | exact opd_len_osl rfl Try.underlying22 rfl rfl rfl)) ?_
    refine al_d rfl rfl rfl (by exact opd_move rfl rfl) ?_
    refine al_nil ?_
    refine awp_block ?_
    -- loop
    refine awp_loop (σ := Nat) (fun k => ([(4, .ref 4 0 0 0), (5, .clo 39 [.ref 4 0 0 0]), (13, .pv (slTags l)), (14, iv ((l.map encTag).length : Int)), (15, iv (k : Int))], wK ((l.take k).map gLine))) (fun k => k ≤ l.length) (fun k => l.length - k) 0 (Nat.zero_le _) ?_ ?_
    · exact (Ent.wk ⟨⟨_, rfl, rfl⟩, (by first | (simp; done) | (simp; rfl) | (simp; exact ⟨rfl, rfl⟩) | exact wRows_clo _ _ | exact clo_map _ _ _), ⟨_, rfl, rfl⟩, (by first | (simp; done) | (simp; rfl) | (simp; exact ⟨rfl, rfl⟩) | exact wRows_clo _ _ | exact clo_map _ _ _), ⟨_, rfl, rfl⟩, (by first | (simp; done) | (simp; rfl) | (simp; exact ⟨rfl, rfl⟩) | exact wRows_clo _ _ | exact clo_map _ _ _), ⟨_, rfl, rfl⟩, (by first | (simp; done) | (simp; rfl) | (simp; exact ⟨rfl, rfl⟩) | exact wRows_clo _ _ | exact clo_map _ _ _), ⟨_, rfl, rfl⟩, (by first | (simp; done) | (simp; rfl) | (simp; exact ⟨rfl, rfl⟩) | exact wRows_clo _ _ | exact clo_map _ _ _), trivial⟩ ⟨⟨_, rfl, rfl⟩, (by first | (simp; done) | (simp; rfl) | (simp; exact ⟨rfl, rfl⟩) | exact wRows_clo _ _ | exact clo_map _ _ _), ⟨_, rfl, rfl⟩, (by first | (simp; done) | (simp; rfl) | (simp; exact ⟨rfl, rfl⟩) | exact wRows_clo _ _ | exact clo_map _ _ _), trivial⟩ trivial)
    · intro k hk
      refine awp_seq ?_
      refine awp_region ?_
      refine al_d rfl rfl rfl (by exact opd_lss rfl rfl rfl) ?_
      refine al_nil ?_
      refine awp_seq ?_
      refine awp_cond rfl (fun hc2 => ?_) (fun hc2 => ?_)
      -- cond 2
      · have hlt : k < l.length := by have := of_decide_eq_true hc2; omega
        obtain ⟨t, ht⟩ := get_of_lt hlt
        have hi := map_get (f := encTag) ht
        obtain ⟨b1, b2, b3⟩ := g1 t (List.mem_of_getElem? ht)
        have b4 := gName_size b1
        have hLl : ((l.take k).map gLine).length < 1099511627776 := by rw [List.length_map, List.length_take]; omega
        have hnx : (l.take (k + 1)).map gLine = (l.take k).map gLine ++ [gLine t] := by rw [List.take_add_one, ht, List.map_append]; rfl
        refine awp_skip ?_
        refine awp_seq ?_
        refine awp_block ?_
        refine awp_seq ?_
        refine awp_region ?_
        refine al_d rfl rfl rfl (by exact (by first | exact x_index_pad rfl so22 rfl rfl (by omega) (by first | exact Int.toNat_natCast _ | rfl) hi rfl | exact x_index_osl rfl so22 rfl rfl rfl rfl rfl (by omega) (by first | exact Int.toNat_natCast _ | rfl) hi rfl)) ?_
        refine al_d rfl rfl rfl (by exact (by first | exact opd_loadn_ref rfl Try.isAgg46 Try.sizeOf46 rfl rfl rfl hi (by simp only [List.drop_succ_cons, List.drop_zero, List.take_succ_cons, List.take_zero, List.take_nil, List.map_cons, List.map_nil, List.set_cons_zero, List.set_cons_succ, List.cons_append, List.nil_append, encTag]; rfl) rfl | exact opd_loadn_pad rfl Try.isAgg46 Try.sizeOf46 rfl hi (by simp only [List.drop_succ_cons, List.drop_zero, List.take_succ_cons, List.take_zero, List.take_nil, List.map_cons, List.map_nil, List.set_cons_zero, List.set_cons_succ, List.cons_append, List.nil_append, encTag]; rfl) rfl)) ?_
        refine al_d rfl rfl rfl (by exact x_alloc (id := 7) rfl zo46 rfl rfl) ?_
        refine al_n rfl rfl (by exact (by first | exact x_store_all rfl Try.sizeOf46 rfl rfl rfl rfl rfl rfl rfl rfl | exact x_store rfl Try.sizeOf46 rfl rfl rfl rfl rfl rfl rfl (by simp only [List.length_cons, List.length_nil]; omega) (by simp only [List.drop_succ_cons, List.drop_zero, List.take_succ_cons, List.take_zero, List.take_nil, List.map_cons, List.map_nil, List.set_cons_zero, List.set_cons_succ, List.cons_append, List.nil_append, encTag]; rfl) (by simp only [List.drop_succ_cons, List.drop_zero, List.take_succ_cons, List.take_zero, List.take_nil, List.map_cons, List.map_nil, List.set_cons_zero, List.set_cons_succ, List.cons_append, List.nil_append, encTag]; rfl) | exact x_store rfl Try.sizeOf46 rfl rfl rfl rfl rfl rfl rfl (Nat.le_of_ble_eq_true rfl) rfl rfl)) ?_
        refine al_nil ?_
        refine awp_region ?_
        refine al_d rfl rfl rfl (by exact opd_move rfl rfl) ?_
        refine al_d rfl rfl rfl (by exact (by first | exact opd_loadn_ref rfl Try.isAgg46 Try.sizeOf46 rfl rfl rfl rfl rfl rfl | exact opd_loadn_pad rfl Try.isAgg46 Try.sizeOf46 rfl (by first | omega | assumption) rfl rfl)) ?_
        refine al_d rfl rfl rfl (by exact opr_callV rfl rfl rfl (CallsV.clo Try.call39 (ACalls.frame (text1_c t ((l.take k).map gLine) (by omega) (by omega) hLl) (subL.sub ⟨rfl, rfl, trivial⟩) (Closed.ofL ⟨(by first | (simp; done) | (simp; rfl) | (simp; exact ⟨rfl, rfl⟩) | exact wRows_clo _ _ | exact clo_map _ _ _), (by first | (simp; done) | (simp; rfl) | (simp; exact ⟨rfl, rfl⟩) | exact wRows_clo _ _ | exact clo_map _ _ _), trivial⟩) (by simp; rfl) (fun id h => .inl (keys2 h))))) ?_
        refine al_nil ?_
        refine awp_region ?_
        refine al_d rfl rfl rfl (by exact opd_add rfl rfl rfl (by first | exact w64 (by omega) (by omega) | exact wu8 (by omega) (by omega) | rfl)) ?_
        refine al_d rfl rfl rfl (by exact opd_move rfl rfl) ?_
        refine al_nil ?_
        -- end of a round
        refine ⟨k + 1, by omega, by omega, ?_⟩
        show Ent _ _ _ _ (wK ((l.take (k + 1)).map gLine))
        rw [hnx]
        exact (Ent.wk ⟨⟨_, rfl, rfl⟩, (by first | (simp; done) | (simp; rfl) | (simp; exact ⟨rfl, rfl⟩) | exact wRows_clo _ _ | exact clo_map _ _ _), ⟨_, rfl, rfl⟩, (by first | (simp; done) | (simp; rfl) | (simp; exact ⟨rfl, rfl⟩) | exact wRows_clo _ _ | exact clo_map _ _ _), ⟨_, rfl, rfl⟩, (by first | (simp; done) | (simp; rfl) | (simp; exact ⟨rfl, rfl⟩) | exact wRows_clo _ _ | exact clo_map _ _ _), ⟨_, rfl, rfl⟩, (by first | (simp; done) | (simp; rfl) | (simp; exact ⟨rfl, rfl⟩) | exact wRows_clo _ _ | exact clo_map _ _ _), ⟨_, rfl, rfl⟩, (by first | (simp; done) | (simp; rfl) | (simp; exact ⟨rfl, rfl⟩) | exact wRows_clo _ _ | exact clo_map _ _ _), trivial⟩ ⟨⟨_, rfl, rfl⟩, (by first | (simp; done) | (simp; rfl) | (simp; exact ⟨rfl, rfl⟩) | exact wRows_clo _ _ | exact clo_map _ _ _), ⟨_, rfl, rfl⟩, (by first | (simp; done) | (simp; rfl) | (simp; exact ⟨rfl, rfl⟩) | exact wRows_clo _ _ | exact clo_map _ _ _), trivial⟩ trivial)
      · have hge : k = l.length := by have := of_decide_eq_false hc2; omega
        subst hge
        have hsb : sizes (l.map gLine) ≤ 427 * l.length := by
          have := sizes_bound (l := l.map gLine) (n := 427) (fun s hs => by
            obtain ⟨t, ht, rfl⟩ := List.mem_map.1 hs
            obtain ⟨b1, b2, b3⟩ := g1 t ht
            exact line_size (gName_size b1) b3)
          rwa [List.length_map] at this
        have hj : ACalls Try.prog 41 [.pv (slStrs (l.map gLine)), sv ⟨#[32]⟩] [] (fun x H' => x = sv (gTagS l) ∧ H' = []) := joins_c (l.map gLine) ⟨#[32]⟩ [] (by decide) (by rw [List.length_map]; show 1 * _ + _ + _ < _; omega)
        have hj2 := joinO (L := l.map gLine) (K := [(4, bx 1 28 [.osl 903 (l.map gLine).length 0 (l.map gLine).length])]) hj
        rw [List.take_length]
        refine awp_exit ?_
        refine awp_seq ?_
        refine awp_region ?_
        refine al_d rfl rfl rfl (by exact (by first | exact opd_load1_ref rfl Try.isAgg28 rfl rfl rfl rfl rfl | exact opd_load1_pad rfl Try.isAgg28 rfl (by first | omega | assumption) rfl)) ?_
        refine al_d rfl rfl rfl (by exact opr_call rfl rfl Try.call41 rfl (hj2)) ?_
        refine al_d rfl rfl rfl (by exact opd_assign rfl rfl) ?_
        refine al_nil ?_
        refine awp_seq ?_
        refine awp_seq ?_
        refine awp_region ?_
        refine al_d rfl rfl rfl (by exact opd_move rfl rfl) ?_
        refine al_d rfl rfl rfl (by exact opd_len_str rfl Try.underlying9 rfl) ?_
        refine al_d rfl rfl rfl (by exact opd_gtr rfl rfl rfl) ?_
        refine al_nil ?_
        refine awp_cond rfl (fun hc3 => ?_) (fun hc3 => ?_)
        -- cond 3
        · have e : gText l = (sNil, 2) := by
            rw [gText, if_pos hg, if_pos (by have := of_decide_eq_true hc3; omega)]
          rw [e]
          refine awp_seq ?_
          refine awp_region ?_
          refine al_d rfl rfl rfl (by exact opd_assign rfl rfl) ?_
          refine al_d rfl rfl rfl (by exact opd_assign rfl rfl) ?_
          refine al_nil ?_
          refine awp_ret ?_
          -- return
          refine aret2 (H' := []) (by first | exact .inr rfl | exact .inl rfl) rfl (rval_tmp rfl) (rval_tmp rfl) (Fin.wk (by simp) trivial trivial) ?_
          exact ⟨rfl, rfl⟩
        · have e : gText l = (gTagS l, 0) := by
            rw [gText, if_pos hg, if_neg (by have := of_decide_eq_false hc3; omega)]
          rw [e]
          refine awp_skip ?_
          refine awp_seq ?_
          refine awp_region ?_
          refine al_d rfl rfl rfl (by exact opd_move rfl rfl) ?_
          refine al_d rfl rfl rfl (by exact opd_assign rfl rfl) ?_
          refine al_d rfl rfl rfl (by exact opd_assign rfl rfl) ?_
          refine al_nil ?_
          refine awp_ret ?_
          -- return
          refine aret2 (H' := []) (by first | exact .inr rfl | exact .inl rfl) rfl (rval_tmp rfl) (rval_tmp rfl) (Fin.wk (by simp) trivial trivial) ?_
          exact ⟨rfl, rfl⟩
end Go.Proofs.Ytedfihgkopejcaa
end
section
set_option linter.unusedVariables false
set_option linter.unusedSimpArgs false
set_option maxRecDepth 100000
namespace Go.Proofs.Ytedfihgkopejcaa
open Go.Abs

/-- What an escaped byte stands for. -/
def gUnesc (c : UInt8) : Option UInt8 := if c = 92 then some 92 else if c = 34 then some 34 else if c = 110 then some 10 else none
/-- A string behind its opening quote: its bytes, and how many bytes it takes with the closing quote. -/
def unqL : List UInt8 → Option (List UInt8 × Nat)
  | [] => none
  | [c] => if c = 34 then some ([], 1) else none
  | c :: e :: r => if c = 34 then some ([], 1) else if c = 10 then none else if c = 92 then (gUnesc e).bind fun b => (unqL r).map fun p => (b :: p.1, p.2 + 2) else (unqL (e :: r)).map fun p => (c :: p.1, p.2 + 1)
def gUnq (s : ByteArray) : ByteArray × Int := match unqL (s.data.toList.drop 1) with
  | some (d, n) => (⟨d.toArray⟩, ((n + 1 : Nat) : Int))
  | none => (sNil, 0)
theorem unqL_quote {r : List UInt8} : unqL (34 :: r) = some ([], 1) := by cases r <;> rfl
theorem unqL_line {r : List UInt8} : unqL (10 :: r) = none := by cases r <;> rfl
theorem unqL_bs {r : List UInt8} {e : UInt8} : unqL (92 :: e :: r) = (gUnesc e).bind fun b => (unqL r).map fun p => (b :: p.1, p.2 + 2) := rfl
theorem unqL_other {c : UInt8} {r : List UInt8} (h1 : c ≠ 34) (h2 : c ≠ 10) (h3 : c ≠ 92) : unqL (c :: r) = (unqL r).map fun p => (c :: p.1, p.2 + 1) := by
  cases r with
  | nil =>
    show (if c = 34 then some ([], 1) else none) = _
    rw [if_neg h1]; rfl
  | cons e r => rw [unqL, if_neg h1, if_neg h2, if_neg h3]
/-- The whole, from a place inside. -/
def unqAt (o : Option (List UInt8 × Nat)) (w : List UInt8) (i : Nat) : ByteArray × Int := match o with
  | some (d, n) => (⟨(w ++ d).toArray⟩, ((i + n : Nat) : Int))
  | none => (sNil, 0)
theorem unqAt_one {o : Option (List UInt8 × Nat)} {w : List UInt8} {b : UInt8} {i k : Nat} : unqAt (o.map fun p => (b :: p.1, p.2 + k)) w i = unqAt o (w ++ [b]) (i + k) := by
  cases o with
  | none => rfl
  | some p => simp only [unqAt, Option.map_some, List.append_assoc, List.singleton_append]; congr 2; omega
theorem drop_bAt {s : ByteArray} {i : Nat} (h : i < s.size) : s.data.toList.drop i = bAt s i :: s.data.toList.drop (i + 1) := by
  have hk : i < s.data.toList.length := by simpa using h
  rw [List.drop_eq_getElem_cons hk, bAt, List.getElem?_eq_getElem hk]
  rfl
theorem drop_end {s : ByteArray} {i : Nat} (h : s.size ≤ i) : s.data.toList.drop i = [] := List.drop_eq_nil_of_le (by simpa using h)
theorem b_eq {s : ByteArray} {i n : Nat} (hn : n < 256) {b : Bool} (h : decide (byteAt s i = (n : Int)) = b) : decide (bAt s i = UInt8.ofNat n) = b := by rw [← h, byteAt_b, u8_eq hn]
/-- The place of an escaped byte. -/
theorem unesc_at (c : UInt8) : (Lib.indexByte (⟨#[92, 34, 110]⟩ : ByteArray).data.toList ((c.toNat : Int).toNat.toUInt8) = -1 ∧ gUnesc c = none) ∨ ∃ k : Nat, k < 3 ∧ Lib.indexByte (⟨#[92, 34, 110]⟩ : ByteArray).data.toList ((c.toNat : Int).toNat.toUInt8) = (k : Int) ∧ gUnesc c = some (bAt ⟨#[92, 34, 10]⟩ k) := by
  have h0 : ((c.toNat : Int).toNat.toUInt8) = c := by simp
  rw [h0]
  by_cases h1 : c = 92
  · subst h1; exact .inr ⟨0, by decide, by decide, by decide⟩
  · by_cases h2 : c = 34
    · subst h2; exact .inr ⟨1, by decide, by decide, by decide⟩
    · by_cases h3 : c = 110
      · subst h3; exact .inr ⟨2, by decide, by decide, by decide⟩
      · refine .inl ⟨?_, by rw [gUnesc, if_neg h1, if_neg h2, if_neg h3]⟩
        have e1 : ((92 : UInt8) == c) = false := by simp [Ne.symm h1]
        have e2 : ((34 : UInt8) == c) = false := by simp [Ne.symm h2]
        have e3 : ((110 : UInt8) == c) = false := by simp [Ne.symm h3]
        simp only [Lib.indexByte, e1, e2, e3]
        rfl
theorem unquoted_c (s : ByteArray) (H : Heap) (hs : s.size < 1099511627776) : ACalls Try.prog 75 [sv s] H (fun r H' => r = .tup [sv (gUnq s).1, iv (gUnq s).2] ∧ H' = H) := by
  refine ACalls.pure ?_ (by simp) H
  have hG : gUnq s = unqAt (unqL (s.data.toList.drop 1)) [] 1 := by
    unfold gUnq unqAt
    cases unqL (s.data.toList.drop 1) with
    | none => rfl
    | some p =>
      show ((⟨p.1.toArray⟩ : ByteArray), ((p.2 + 1 : Nat) : Int)) = ((⟨([] ++ p.1).toArray⟩ : ByteArray), ((1 + p.2 : Nat) : Int))
      rw [List.nil_append, Nat.add_comm]
  obtain ⟨res, hres⟩ : ∃ res, res = gUnq s := ⟨_, rfl⟩
  rw [← hres] at hG ⊢
  refine ACalls.body Try.func75 rfl Try.ntmps75 (Nat.le_of_ble_eq_true rfl) ?_
  refine awp_seq ?_
  refine awp_region ?_
  refine al_d rfl rfl rfl (by exact opd_assign rfl rfl) ?_
  refine al_d rfl rfl rfl (by exact opd_assign rfl rfl) ?_
  refine al_nil ?_
  refine awp_seq ?_
  refine awp_region ?_
  refine al_d rfl rfl rfl (by exact x_alloc (id := 2001) rfl zoN89 rfl rfl) ?_
  refine al_nil ?_
  refine awp_seq ?_
  refine awp_seq ?_
  -- before the slot
  refine AWp.ent (E' := [(0, sv s), (4, .ref 2001 0 0 0)]) (H' := bld 0 [] false) (Ent.bld0 ⟨⟨_, rfl, .same (by simp)⟩, ⟨_, rfl, .same (by simp; rfl)⟩, trivial⟩) ?_
  refine awp_region ?_
  refine al_d rfl rfl rfl (by exact opd_assign rfl rfl) ?_
  refine al_nil ?_
  refine awp_block ?_
  -- loop
  refine awp_loop4 (fun (i g : Nat) (w : List UInt8) (u : Bool) => ([(0, sv s), (4, .ref 2001 0 0 0), (5, iv (i : Int))], bld g w u)) (fun i g w u => w.length ≤ i ∧ i < 2199023255552 ∧ res = unqAt (unqL (s.data.toList.drop i)) w i) (fun i g w u => s.size + 1 - i) 1 0 [] false ⟨Nat.zero_le _, by decide, hG⟩ ?_ ?_
  · exact (Ent.wk ⟨⟨_, rfl, rfl⟩, (by first | (simp; done) | (simp; rfl) | (simp; exact ⟨rfl, rfl⟩) | exact brows_clo _ _ | exact bOb_clo rfl rfl | exact clo_map _ _ _), ⟨_, rfl, rfl⟩, (by first | (simp; done) | (simp; rfl) | (simp; exact ⟨rfl, rfl⟩) | exact brows_clo _ _ | exact bOb_clo rfl rfl | exact clo_map _ _ _), ⟨_, rfl, rfl⟩, (by first | (simp; done) | (simp; rfl) | (simp; exact ⟨rfl, rfl⟩) | exact brows_clo _ _ | exact bOb_clo rfl rfl | exact clo_map _ _ _), trivial⟩ ⟨⟨_, rfl, rfl⟩, (by first | (simp; done) | (simp; rfl) | (simp; exact ⟨rfl, rfl⟩) | exact brows_clo _ _ | exact bOb_clo rfl rfl | exact clo_map _ _ _), ⟨_, rfl, rfl⟩, (by first | (simp; done) | (simp; rfl) | (simp; exact ⟨rfl, rfl⟩) | exact brows_clo _ _ | exact bOb_clo rfl rfl | exact clo_map _ _ _), trivial⟩ trivial)
  · rintro i g w u ⟨hwl, hib, hinv⟩
    refine awp_seq ?_
    refine awp_seq ?_
    refine awp_region ?_
    refine al_d rfl rfl rfl (by exact opd_move rfl rfl) ?_
    refine al_d rfl rfl rfl (by exact opd_move rfl rfl) ?_
    refine al_d rfl rfl rfl (by exact opd_len_str rfl Try.underlying9 rfl) ?_
    refine al_d rfl rfl rfl (by exact opd_lss rfl rfl rfl) ?_
    refine al_nil ?_
    refine awp_cond rfl (fun hc1 => ?_) (fun hc1 => ?_)
    -- cond 1
    · have hlt : i < s.size := by have := of_decide_eq_true hc1; omega
      have hd := drop_bAt hlt
      refine awp_skip ?_
      refine awp_seq ?_
      refine awp_block ?_
      refine awp_seq ?_
      refine awp_region ?_
      refine al_d rfl rfl rfl (by exact opd_move rfl rfl) ?_
      refine al_d rfl rfl rfl (by exact opd_move rfl rfl) ?_
      refine al_d rfl rfl rfl (by exact opd_index_str rfl Try.underlying9 rfl rfl (by omega) (by first | exact Int.toNat_natCast _ | rfl) (by first | omega | assumption) rfl) ?_
      refine al_d rfl rfl rfl (by exact opd_assign rfl rfl) ?_
      refine al_nil ?_
      refine awp_seq ?_
      refine awp_region ?_
      refine al_d rfl rfl rfl (by exact opd_move rfl rfl) ?_
      refine al_nil ?_
      refine awp_block ?_
      refine awp_seq ?_
      refine awp_region ?_
      refine al_d rfl rfl rfl (by exact opd_eql rfl rfl rfl) ?_
      refine al_d rfl rfl rfl (by exact opd_assign rfl rfl) ?_
      refine al_nil ?_
      refine awp_cond rfl (fun hc2 => ?_) (fun hc2 => ?_)
      -- cond 2
      · have hb : bAt s i = 34 := of_decide_eq_true (b_eq (n := 34) (by decide) hc2)
        have hr : res = (⟨w.toArray⟩, ((i + 1 : Nat) : Int)) := by rw [hinv, hd, hb, unqL_quote, unqAt, List.append_nil]
        rw [hr]
        refine awp_seq ?_
        refine awp_region ?_
        refine al_d rfl rfl rfl (by exact opr_call rfl rfl Try.call58 rfl (str_c g w u (by omega))) ?_
        refine al_d rfl rfl rfl (by exact opd_move rfl rfl) ?_
        refine al_d rfl rfl rfl (by exact opd_add rfl rfl rfl (by first | exact w64 (by omega) (by omega) | exact wu8 (by omega) (by omega) | rfl)) ?_
        refine al_d rfl rfl rfl (by exact opd_assign rfl rfl) ?_
        refine al_d rfl rfl rfl (by exact opd_assign rfl rfl) ?_
        refine al_nil ?_
        refine awp_ret ?_
        -- return
        refine aret2 (H' := []) (by first | exact .inr rfl | exact .inl rfl) rfl (rval_tmp rfl) (rval_tmp rfl) (Fin.wk (by simp) trivial trivial) ?_
        exact ⟨rfl, rfl⟩
      · have hb34 : bAt s i ≠ 34 := of_decide_eq_false (b_eq (n := 34) (by decide) hc2)
        refine awp_seq ?_
        refine awp_region ?_
        refine al_d rfl rfl rfl (by exact opd_eql rfl rfl rfl) ?_
        refine al_d rfl rfl rfl (by exact opd_assign rfl rfl) ?_
        refine al_nil ?_
        refine awp_cond rfl (fun hc3 => ?_) (fun hc3 => ?_)
        -- cond 3
        · have hb : bAt s i = 10 := of_decide_eq_true (b_eq (n := 10) (by decide) hc3)
          have hr : res = (sNil, 0) := by rw [hinv, hd, hb, unqL_line, unqAt]
          rw [hr]
          refine awp_seq ?_
          refine awp_region ?_
          refine al_d rfl rfl rfl (by exact opd_assign rfl rfl) ?_
          refine al_d rfl rfl rfl (by exact opd_assign rfl rfl) ?_
          refine al_nil ?_
          refine awp_ret ?_
          -- return
          refine aret2 (H' := []) (by first | exact .inr rfl | exact .inl rfl) rfl (rval_tmp rfl) (rval_tmp rfl) (Fin.wk (by simp) trivial trivial) ?_
          exact ⟨rfl, rfl⟩
        · have hb10 : bAt s i ≠ 10 := of_decide_eq_false (b_eq (n := 10) (by decide) hc3)
          refine awp_seq ?_
          refine awp_region ?_
          refine al_d rfl rfl rfl (by exact opd_eql rfl rfl rfl) ?_
          refine al_d rfl rfl rfl (by exact opd_assign rfl rfl) ?_
          refine al_nil ?_
          refine awp_cond rfl (fun hc4 => ?_) (fun hc4 => ?_)
          -- cond 4
          · have hb : bAt s i = 92 := of_decide_eq_true (b_eq (n := 92) (by decide) hc4)
            refine awp_seq ?_
            refine awp_region ?_
            refine al_d rfl rfl rfl (by exact opd_move rfl rfl) ?_
            refine al_d rfl rfl rfl (by exact opd_add rfl rfl rfl (by first | exact w64 (by omega) (by omega) | exact wu8 (by omega) (by omega) | rfl)) ?_
            refine al_d rfl rfl rfl (by exact opd_assign rfl rfl) ?_
            refine al_nil ?_
            refine awp_seq ?_
            refine awp_region ?_
            refine al_d rfl rfl rfl (by exact opd_assign rfl rfl) ?_
            refine al_nil ?_
            refine awp_seq ?_
            refine awp_seq ?_
            refine awp_region ?_
            refine al_d rfl rfl rfl (by exact opd_move rfl rfl) ?_
            refine al_d rfl rfl rfl (by exact opd_move rfl rfl) ?_
            refine al_d rfl rfl rfl (by exact opd_len_str rfl Try.underlying9 rfl) ?_
            refine al_d rfl rfl rfl (by exact opd_lss rfl rfl rfl) ?_
            refine al_nil ?_
            refine awp_cond rfl (fun hc5 => ?_) (fun hc5 => ?_)
            -- cond 5
            · have hlt2 : i + 1 < s.size := by have := of_decide_eq_true hc5; omega
              have hd2 := drop_bAt hlt2
              rcases unesc_at (bAt s (i + 1)) with ⟨x1, x2⟩ | ⟨q, hq, x1, x2⟩
              · have hr : res = (sNil, 0) := by rw [hinv, hd, hb, hd2, unqL_bs, x2]; rfl
                have hneg : Lib.indexByte (⟨#[92, 34, 110]⟩ : ByteArray).data.toList (byteAt s (i + 1)).toNat.toUInt8 = -1 := x1
                rw [hr]
                refine awp_region ?_
                refine al_d rfl rfl rfl (by exact opd_move rfl rfl) ?_
                refine al_d rfl rfl rfl (by exact opd_move rfl rfl) ?_
                refine al_d rfl rfl rfl (by exact opd_index_str rfl Try.underlying9 rfl rfl (by omega) (by first | exact Int.toNat_natCast _ | rfl) (by first | omega | assumption) rfl) ?_
                refine al_d rfl rfl rfl (by exact opr_call rfl rfl Try.call64 rfl (indexByte_c _ _ _)) ?_
                refine al_d rfl rfl rfl (by exact opd_assign rfl rfl) ?_
                refine al_nil ?_
                refine awp_seq ?_
                refine awp_seq ?_
                refine awp_region ?_
                refine al_d rfl rfl rfl (by exact opd_move rfl rfl) ?_
                refine al_d rfl rfl rfl (by exact opd_lss rfl rfl rfl) ?_
                refine al_nil ?_
                refine awp_cond rfl (fun hc6 => ?_) (fun hc6 => ?_)
                -- cond 6
                · skip
                  refine awp_seq ?_
                  refine awp_region ?_
                  refine al_d rfl rfl rfl (by exact opd_assign rfl rfl) ?_
                  refine al_d rfl rfl rfl (by exact opd_assign rfl rfl) ?_
                  refine al_nil ?_
                  refine awp_ret ?_
                  -- return
                  refine aret2 (H' := []) (by first | exact .inr rfl | exact .inl rfl) rfl (rval_tmp rfl) (rval_tmp rfl) (Fin.wk (by simp) trivial trivial) ?_
                  exact ⟨rfl, rfl⟩
                · skip
                  exact absurd (of_decide_eq_false hc6) (by rw [hneg]; decide)
              · have hpos : Lib.indexByte (⟨#[92, 34, 110]⟩ : ByteArray).data.toList (byteAt s (i + 1)).toNat.toUInt8 = (q : Int) := x1
                have hq3 : q < (⟨#[92, 34, 10]⟩ : ByteArray).size := hq
                refine awp_region ?_
                refine al_d rfl rfl rfl (by exact opd_move rfl rfl) ?_
                refine al_d rfl rfl rfl (by exact opd_move rfl rfl) ?_
                refine al_d rfl rfl rfl (by exact opd_index_str rfl Try.underlying9 rfl rfl (by omega) (by first | exact Int.toNat_natCast _ | rfl) (by first | omega | assumption) rfl) ?_
                refine al_d rfl rfl rfl (by exact opr_call rfl rfl Try.call64 rfl (indexByte_c _ _ _)) ?_
                refine al_d rfl rfl rfl (by exact opd_assign rfl rfl) ?_
                refine al_nil ?_
                refine awp_seq ?_
                refine awp_seq ?_
                refine awp_region ?_
                refine al_d rfl rfl rfl (by exact opd_move rfl rfl) ?_
                refine al_d rfl rfl rfl (by exact opd_lss rfl rfl rfl) ?_
                refine al_nil ?_
                refine awp_cond rfl (fun hc7 => ?_) (fun hc7 => ?_)
                -- cond 7
                · skip
                  exact absurd (of_decide_eq_true hc7) (by rw [hpos]; omega)
                · skip
                  refine awp_skip ?_
                  refine awp_region ?_
                  refine al_d rfl rfl rfl (by exact opd_move rfl rfl) ?_
                  refine al_d rfl rfl rfl (by exact opd_index_str rfl Try.underlying9 rfl rfl (by rw [hpos]; omega) (by rw [hpos]; exact Int.toNat_natCast _) hq3 rfl) ?_
                  refine al_d rfl rfl rfl (by exact opr_call rfl rfl Try.call56 rfl (writeByte_c g w u (bAt ⟨#[92, 34, 10]⟩ q) (by omega))) ?_
                  refine al_nil ?_
                  refine awp_region ?_
                  refine al_d rfl rfl rfl (by exact opd_move rfl rfl) ?_
                  refine al_d rfl rfl rfl (by exact opd_add rfl rfl rfl (by first | exact w64 (by omega) (by omega) | exact wu8 (by omega) (by omega) | rfl)) ?_
                  refine al_d rfl rfl rfl (by exact opd_assign rfl rfl) ?_
                  refine al_nil ?_
                  -- end of a round
                  refine ⟨i + 1 + 1, g + 1, w ++ [bAt ⟨#[92, 34, 10]⟩ q], true, ⟨by rw [List.length_append, List.length_singleton]; omega, by omega, ?_⟩, by omega, (Ent.wk ⟨⟨_, rfl, rfl⟩, (by first | (simp; done) | (simp; rfl) | (simp; exact ⟨rfl, rfl⟩) | exact brows_clo _ _ | exact bOb_clo rfl rfl | exact clo_map _ _ _), ⟨_, rfl, rfl⟩, (by first | (simp; done) | (simp; rfl) | (simp; exact ⟨rfl, rfl⟩) | exact brows_clo _ _ | exact bOb_clo rfl rfl | exact clo_map _ _ _), ⟨_, rfl, rfl⟩, (by first | (simp; done) | (simp; rfl) | (simp; exact ⟨rfl, rfl⟩) | exact brows_clo _ _ | exact bOb_clo rfl rfl | exact clo_map _ _ _), trivial⟩ ⟨⟨_, rfl, rfl⟩, (by first | (simp; done) | (simp; rfl) | (simp; exact ⟨rfl, rfl⟩) | exact brows_clo _ _ | exact bOb_clo rfl rfl | exact clo_map _ _ _), ⟨_, rfl, rfl⟩, (by first | (simp; done) | (simp; rfl) | (simp; exact ⟨rfl, rfl⟩) | exact brows_clo _ _ | exact bOb_clo rfl rfl | exact clo_map _ _ _), trivial⟩ trivial)⟩
                  rw [hinv, hd, hb, hd2, unqL_bs, x2]
                  exact unqAt_one
            · have hge : s.size ≤ i + 1 := by have := of_decide_eq_false hc5; omega
              have hr : res = (sNil, 0) := by rw [hinv, hd, hb, drop_end hge]; rfl
              rw [hr]
              refine awp_skip ?_
              refine awp_seq ?_
              refine awp_seq ?_
              refine awp_region ?_
              refine al_d rfl rfl rfl (by exact opd_move rfl rfl) ?_
              refine al_d rfl rfl rfl (by exact opd_lss rfl rfl rfl) ?_
              refine al_nil ?_
              refine awp_cond rfl (fun hc8 => ?_) (fun hc8 => ?_)
              -- cond 8
              · skip
                refine awp_seq ?_
                refine awp_region ?_
                refine al_d rfl rfl rfl (by exact opd_assign rfl rfl) ?_
                refine al_d rfl rfl rfl (by exact opd_assign rfl rfl) ?_
                refine al_nil ?_
                refine awp_ret ?_
                -- return
                refine aret2 (H' := []) (by first | exact .inr rfl | exact .inl rfl) rfl (rval_tmp rfl) (rval_tmp rfl) (Fin.wk (by simp) trivial trivial) ?_
                exact ⟨rfl, rfl⟩
              · skip
                cases hc8
          · have hb92 : bAt s i ≠ 92 := of_decide_eq_false (b_eq (n := 92) (by decide) hc4)
            refine awp_region ?_
            refine al_d rfl rfl rfl (by exact opd_move rfl rfl) ?_
            refine al_d rfl rfl rfl (by exact opr_call rfl rfl Try.call56 rfl (writeByte_c g w u (bAt s i) (by omega))) ?_
            refine al_nil ?_
            refine awp_region ?_
            refine al_d rfl rfl rfl (by exact opd_move rfl rfl) ?_
            refine al_d rfl rfl rfl (by exact opd_add rfl rfl rfl (by first | exact w64 (by omega) (by omega) | exact wu8 (by omega) (by omega) | rfl)) ?_
            refine al_d rfl rfl rfl (by exact opd_assign rfl rfl) ?_
            refine al_nil ?_
            -- end of a round
            refine ⟨i + 1, g + 1, w ++ [bAt s i], true, ⟨by rw [List.length_append, List.length_singleton]; omega, by omega, ?_⟩, by omega, (Ent.wk ⟨⟨_, rfl, rfl⟩, (by first | (simp; done) | (simp; rfl) | (simp; exact ⟨rfl, rfl⟩) | exact brows_clo _ _ | exact bOb_clo rfl rfl | exact clo_map _ _ _), ⟨_, rfl, rfl⟩, (by first | (simp; done) | (simp; rfl) | (simp; exact ⟨rfl, rfl⟩) | exact brows_clo _ _ | exact bOb_clo rfl rfl | exact clo_map _ _ _), ⟨_, rfl, rfl⟩, (by first | (simp; done) | (simp; rfl) | (simp; exact ⟨rfl, rfl⟩) | exact brows_clo _ _ | exact bOb_clo rfl rfl | exact clo_map _ _ _), trivial⟩ ⟨⟨_, rfl, rfl⟩, (by first | (simp; done) | (simp; rfl) | (simp; exact ⟨rfl, rfl⟩) | exact brows_clo _ _ | exact bOb_clo rfl rfl | exact clo_map _ _ _), ⟨_, rfl, rfl⟩, (by first | (simp; done) | (simp; rfl) | (simp; exact ⟨rfl, rfl⟩) | exact brows_clo _ _ | exact bOb_clo rfl rfl | exact clo_map _ _ _), trivial⟩ trivial)⟩
            rw [hinv, hd, unqL_other hb34 hb10 hb92, unqAt_one]
    · have hge : s.size ≤ i := by have := of_decide_eq_false hc1; omega
      have hr : res = (sNil, 0) := by rw [hinv, drop_end hge]; rfl
      rw [hr]
      refine awp_exit ?_
      refine awp_seq ?_
      refine awp_region ?_
      refine al_d rfl rfl rfl (by exact opd_assign rfl rfl) ?_
      refine al_d rfl rfl rfl (by exact opd_assign rfl rfl) ?_
      refine al_nil ?_
      refine awp_ret ?_
      -- return
      refine aret2 (H' := []) (by first | exact .inr rfl | exact .inl rfl) rfl (rval_tmp rfl) (rval_tmp rfl) (Fin.wk (by simp) trivial trivial) ?_
      exact ⟨rfl, rfl⟩
end Go.Proofs.Ytedfihgkopejcaa
end
section
set_option linter.unusedVariables false
set_option linter.unusedSimpArgs false
namespace Go.Abs
/-- Between two statements: one of the states S a, with J a. -/
theorem awp_seq_ex {P : Program} {G0 : Heap} {N : Nat} {Q : Exit → Env → Heap → Prop} {E : Env} {H : Heap} {x y : Code} {α : Type} (S : α → Env × Heap) (J : α → Prop)
    (h : AWp P G0 N x (AThen (fun E1 H1 => ∃ a, J a ∧ Ent G0 E1 H1 (S a).1 (S a).2) Q) E H) (h' : ∀ a, J a → AWp P G0 N y Q (S a).1 (S a).2) : AWp P G0 N (.seq x y) Q E H :=
  awp_seq (h.mono fun e E1 H1 q => by
    cases e with
    | normal =>
      obtain ⟨a, ha, he⟩ := q
      exact AWp.ent he (h' a ha)
    | _ => exact q)
theorem get_dups {i : Nat} {o : Ob} {K : Heap} : ∀ (D : Heap), (∀ p ∈ D, p.1 = i) → ∀ j, Heap.get ((i, o) :: K) j = Heap.get ((i, o) :: (D ++ K)) j := by
  intro D hD j
  by_cases e : i = j
  · subst e
    simp [Heap.get, beq_self]
  · have h : Heap.get D j = none := by
      cases hg : Heap.get D j with
      | none => rfl
      | some x => exact absurd (hD _ (mem_of_hget hg)).symm e
    rw [get_cons_other _ _ (Ne.symm e), get_cons_other _ _ (Ne.symm e), hget_app, h]
theorem LR_clo {H : Heap} {x : Go.Loop} {E0 : Env} (h : ∀ p ∈ E0, Clo H p.2) : ∀ r ∈ (LR x E0).rows, ∀ a ∈ r, Clo H a := by
  intro r hr a ha
  simp only [LR, List.mem_cons, List.not_mem_nil, or_false] at hr
  rcases hr with rfl | rfl
  · rw [List.mem_singleton] at ha
    subst ha
    simp
  · obtain ⟨p, hp, rfl⟩ := List.mem_map.1 ha
    exact h p hp
def KE (A B : Heap) : List Nat → Prop
  | [] => True
  | j :: r => A.get j = B.get j ∧ KE A B r
theorem KE.spec {A B : Heap} : ∀ {l : List Nat}, KE A B l → ∀ j ∈ l, A.get j = B.get j
  | i :: r, h, j, hj => by
    rcases List.mem_cons.1 hj with rfl | hj
    · exact h.1
    · exact KE.spec h.2 j hj
theorem get_not {D : Heap} {j : Nat} (h : j ∉ D.map (·.1)) : D.get j = none := by
  cases hg : D.get j with
  | none => rfl
  | some o => exact absurd (List.mem_map.2 ⟨_, mem_of_hget hg, rfl⟩) h
/-- Two heaps of which the fronts hold the same. -/
theorem get_same (A B : Heap) {K : Heap} (h : KE A B (A.map (·.1) ++ B.map (·.1))) (j : Nat) : Heap.get (A ++ K) j = Heap.get (B ++ K) j := by
  rw [hget_app, hget_app]
  have e : A.get j = B.get j := by
    by_cases hj : j ∈ A.map (·.1) ++ B.map (·.1)
    · exact h.spec j hj
    · rw [List.mem_append, not_or] at hj
      rw [get_not hj.1, get_not hj.2]
  rw [e]
end Go.Abs
end
section
set_option linter.unusedVariables false
set_option linter.unusedSimpArgs false
set_option maxRecDepth 100000
namespace Go.Proofs.Ytedfihgkopejcaa
open Go.Abs

/-- The class of the byte at a place. -/
def atC (s : ByteArray) (i : Nat) : Int := if i < s.size then cls (byteAt s i) else 0
def tS (s : ByteArray) : Ob := bx 1 9 [sv s]
def tC : Ob := bx 256 79 clsAgg
def tA : Ob := bx 1 111 [.clo 73 [.ref 921 0 0 0, .ref 923 0 0 0]]
theorem at1_c (s : ByteArray) (i : Nat) (H : Heap) (h1 : H.get 921 = some (tS s)) (h2 : H.get 923 = some tC) (hi : i < 4611686018427387904) (hs : s.size < 4611686018427387904) :
    ACalls Try.prog 73 [iv (i : Int), .ref 921 0 0 0, .ref 923 0 0 0] H (fun r H' => r = .pv (.int .u8 (atC s i)) ∧ H' = H) := by
  refine ACalls.body Try.func73 rfl Try.ntmps73 (Nat.le_of_ble_eq_true rfl) ?_
  refine awp_seq ?_
  refine awp_region ?_
  refine al_d rfl rfl rfl (by exact opd_assign rfl rfl) ?_
  refine al_nil ?_
  refine awp_seq ?_
  refine awp_seq ?_
  refine awp_region ?_
  refine al_d rfl rfl rfl (by exact opd_move rfl rfl) ?_
  refine al_d rfl rfl rfl (by exact (by first | exact opd_load1_ref rfl Try.isAgg9 rfl h1 rfl rfl rfl | exact opd_load1_pad rfl Try.isAgg9 rfl (by first | omega | assumption) rfl)) ?_
  refine al_d rfl rfl rfl (by exact opd_len_str rfl Try.underlying9 rfl) ?_
  refine al_d rfl rfl rfl (by exact opd_geq rfl rfl rfl) ?_
  refine al_nil ?_
  refine awp_cond rfl (fun hc1 => ?_) (fun hc1 => ?_)
  -- cond 1
  · have e : atC s i = 0 := by rw [atC, if_neg (by have := of_decide_eq_true hc1; omega)]
    rw [e]
    refine awp_seq ?_
    refine awp_region ?_
    refine al_d rfl rfl rfl (by exact opd_assign rfl rfl) ?_
    refine al_nil ?_
    refine awp_ret ?_
    -- return
    refine aret1 (H' := H) (by first | exact .inr rfl | exact .inl rfl) rfl (rval_tmp rfl) Fin.refl ?_
    exact ⟨rfl, rfl⟩
  · have hlt : i < s.size := by have := of_decide_eq_false hc1; omega
    have e : atC s i = cls (byteAt s i) := by rw [atC, if_pos hlt]
    rw [e]
    refine awp_skip ?_
    refine awp_seq ?_
    refine awp_region ?_
    refine al_d rfl rfl rfl (by exact (by first | exact opd_load1_ref rfl Try.isAgg9 rfl h1 rfl rfl rfl | exact opd_load1_pad rfl Try.isAgg9 rfl (by first | omega | assumption) rfl)) ?_
    refine al_d rfl rfl rfl (by exact opd_move rfl rfl) ?_
    refine al_d rfl rfl rfl (by exact opd_index_str rfl Try.underlying9 rfl rfl (by omega) (by first | exact Int.toNat_natCast _ | rfl) (by first | omega | assumption) rfl) ?_
    refine al_d rfl rfl rfl (by exact opd_index_arr (m := (byteAt s i).toNat) (k2 := (byteAt s i).toNat) rfl Try.underlying79 Try.sizeOf5 rfl h2 rfl rfl (byteAt_nn s i) rfl (byteAt_lt s i) (by omega)) ?_
    refine al_d rfl rfl rfl (by exact opd_load1_ref rfl Try.isAgg5 rfl h2 rfl rfl (clsAt s i)) ?_
    refine al_d rfl rfl rfl (by exact opd_assign rfl rfl) ?_
    refine al_nil ?_
    refine awp_ret ?_
    -- return
    refine aret1 (H' := H) (by first | exact .inr rfl | exact .inl rfl) rfl (rval_tmp rfl) Fin.refl ?_
    exact ⟨rfl, rfl⟩
theorem tokens_c (s : ByteArray) (H : Heap) (h1 : H.get 921 = none) (h2 : H.get 923 = none) (h3 : H.get 924 = none) (hc : Closed H) :
    ACalls Try.prog 60 [sv s] H (fun r H' => r = .clo 74 [.ref 921 0 0 0, .ref 924 0 0 0] ∧ H' = (924, tA) :: (923, tC) :: (921, tS s) :: H) := by
  have h2' : Heap.get ((921, tS s) :: H) 923 = none := h2
  refine ACalls.body Try.func60 rfl Try.ntmps60 (Nat.le_of_ble_eq_true rfl) ?_
  refine awp_seq ?_
  refine awp_region ?_
  refine al_d rfl rfl rfl (by exact opd_box (id := 921) rfl rfl rfl rfl h1) ?_
  refine al_d rfl rfl rfl (by exact opd_assign rfl rfl) ?_
  refine al_nil ?_
  refine awp_seq ?_
  refine awp_region ?_
  refine al_d rfl rfl rfl (by exact opr_call rfl rfl Try.call46 rfl (classes_c _)) ?_
  refine al_d rfl rfl rfl (by exact x_alloc (id := 923) rfl zoCls rfl h2) ?_
  refine al_n rfl rfl (by exact x_store_all rfl Try.sizeOf79 rfl rfl rfl rfl rfl rfl rfl (by simp)) ?_
  refine al_nil ?_
  refine awp_seq ?_
  refine awp_region ?_
  refine al_d rfl rfl rfl (by exact opd_makeFunc rfl rfl) ?_
  refine al_d rfl rfl rfl (by exact x_alloc (id := 924) rfl zo111 rfl h3) ?_
  refine al_n rfl rfl (by exact (by first | exact x_store_all rfl Try.sizeOf111 rfl rfl rfl rfl rfl rfl rfl rfl | exact x_store1 rfl Try.sizeOf111 rfl rfl rfl rfl rfl rfl (by simp only [List.length_cons, List.length_nil]; omega) (by simp only [List.drop_succ_cons, List.drop_zero, List.take_succ_cons, List.take_zero, List.take_nil, List.map_cons, List.map_nil, List.set_cons_zero, List.set_cons_succ, List.cons_append, List.nil_append]; rfl) (by simp only [List.drop_succ_cons, List.drop_zero, List.take_succ_cons, List.take_zero, List.take_nil, List.map_cons, List.map_nil, List.set_cons_zero, List.set_cons_succ, List.cons_append, List.nil_append]; rfl) | exact x_store1 rfl Try.sizeOf111 rfl rfl rfl rfl rfl rfl (Nat.le_of_ble_eq_true rfl) rfl rfl)) ?_
  refine al_nil ?_
  refine awp_seq ?_
  refine awp_region ?_
  refine al_d rfl rfl rfl (by exact opd_makeFunc rfl rfl) ?_
  refine al_d rfl rfl rfl (by exact opd_assign rfl rfl) ?_
  refine al_nil ?_
  refine awp_ret ?_
  -- return
  refine aret1 (H' := ((924, tA) :: (923, tC) :: (921, tS s) :: H)) (by first | exact .inr rfl | exact .inl rfl) rfl (rval_tmp rfl) (Fin.get' (fun j => by simp only [Heap.get]; cases Nat.beq 924 j <;> cases Nat.beq 923 j <;> rfl)) ?_
  exact ⟨rfl, rfl⟩
/-! ### what is yielded -/
def scan (p : Nat → Bool) : Nat → Nat → Nat
  | 0, i => i
  | n + 1, i => if p i then scan p n (i + 1) else i
theorem scan_le (p : Nat → Bool) : ∀ (n i : Nat), i ≤ scan p n i ∧ scan p n i ≤ i + n
  | 0, i => ⟨Nat.le_refl _, Nat.le_refl _⟩
  | n + 1, i => by
    rw [scan]
    split
    · have := scan_le p n (i + 1)
      omega
    · omega
theorem scan_all (p : Nat → Bool) : ∀ (n i : Nat), ∀ j, i ≤ j → j < scan p n i → p j = true
  | 0, i, j, h1, h2 => by rw [scan] at h2; omega
  | n + 1, i, j, h1, h2 => by
    rw [scan] at h2
    split at h2
    · by_cases e : j = i
      · subst e; assumption
      · exact scan_all p n (i + 1) j (by omega) h2
    · omega
theorem scan_stop (p : Nat → Bool) : ∀ (n i : Nat), scan p n i < i + n → p (scan p n i) = false
  | 0, i, h => by rw [scan] at h; omega
  | n + 1, i, h => by
    rw [scan] at h ⊢
    split at h
    · rename_i hp
      rw [if_pos hp]
      exact scan_stop p n (i + 1) (by omega)
    · rename_i hp
      rw [if_neg hp]
      exact Bool.not_eq_true _ ▸ hp
/-- Where a scan ends. -/
theorem scan_eq (p : Nat → Bool) {n i j : Nat} (h1 : i ≤ j) (h2 : j ≤ i + n) (h3 : ∀ k, i ≤ k → k < j → p k = true) (h4 : p j = false ∨ j = i + n) : scan p n i = j := by
  obtain ⟨l1, l2⟩ := scan_le p n i
  rcases Nat.lt_trichotomy (scan p n i) j with h | h | h
  · have := scan_stop p n i (by omega)
    rw [h3 _ l1 h] at this; cases this
  · exact h
  · have := scan_all p n i j h1 h
    rcases h4 with h4 | h4
    · rw [h4] at this; cases this
    · omega
def pLine (s : ByteArray) (j : Nat) : Bool := decide (j < s.size) && !decide (byteAt s j = 10)
def pWord (s : ByteArray) (j : Nat) : Bool := decide (atC s j = 3) || decide (atC s j = 4) || decide (atC s j = 5)
def pDig (s : ByteArray) (j : Nat) : Bool := decide (atC s j = 4)
def lineEnd (s : ByteArray) (i : Nat) : Nat := scan (pLine s) (s.size - i) i
def wordEnd (s : ByteArray) (i : Nat) : Nat := scan (pWord s) (s.size - i) i
def digEnd (s : ByteArray) (i : Nat) : Nat := scan (pDig s) (s.size - i) i
/-- A token, or an error. -/
structure GFound where
  kind : Int
  text : ByteArray
  pos : Nat
  err : Int
def encFound (f : GFound) : List PV := [.int .i64 f.kind, .str f.text, .int .i64 f.pos, .int .i64 f.err]
def noTok (i : Nat) : GFound := ⟨0, sNil, i, 3⟩
def gWordT (s : ByteArray) (i j : Nat) : GFound := ⟨1, s.extract i j, i, if 24 < j - i then 2 else 0⟩
def gNum (s : ByteArray) (i j : Nat) : GFound := ⟨2, s.extract i j, i, if decide (7 < j - i) || decide (atC s j = 3) || decide (atC s j = 5) then 4 else 0⟩
def gStr (s : ByteArray) (i : Nat) : GFound × Nat := if 0 < (gUnq (s.extract i s.size)).2 then (⟨3, (gUnq (s.extract i s.size)).1, i, 0⟩, i + (gUnq (s.extract i s.size)).2.toNat) else (noTok i, i)
/-- What begins at a place, and where it goes on. -/
def gStep (s : ByteArray) (i : Nat) : Option GFound × Nat :=
  if atC s i = 1 then (none, i + 1) else if atC s i = 2 then (none, lineEnd s i) else if atC s i = 3 then (some (gWordT s i (wordEnd s i)), wordEnd s i)
  else if atC s i = 4 then (some (gNum s i (digEnd s i)), digEnd s i) else if atC s i = 7 then (some (gStr s i).1, (gStr s i).2)
  else if atC s i = 6 then (some ⟨4, s.extract i (i + 1), i, 0⟩, i + 1) else (some (noTok i), i)
def gToks (s : ByteArray) : Nat → Nat → List GFound
  | 0, _ => []
  | n + 1, i => if i < s.size then (match gStep s i with
    | (none, j) => gToks s n j
    | (some f, j) => f :: (if f.err = 0 then gToks s n j else [])) else []
theorem unqL_len : ∀ (l : List UInt8) (p : List UInt8 × Nat), unqL l = some p → p.2 ≤ l.length
  | [], p, h => by cases h
  | [c], p, h => by
    rw [unqL] at h
    split at h
    · cases h; exact Nat.le_refl _
    · cases h
  | c :: e :: r, p, h => by
    rw [unqL] at h
    split at h
    · cases h; exact Nat.le_add_left _ _
    · split at h
      · cases h
      · split at h
        · cases hg : gUnesc e with
          | none => rw [hg] at h; cases h
          | some b =>
            rw [hg] at h
            cases hu : unqL r with
            | none => rw [hu] at h; cases h
            | some q =>
              rw [hu] at h; cases h
              have := unqL_len r q hu
              show q.2 + 2 ≤ r.length + 1 + 1
              omega
        · cases hu : unqL (e :: r) with
          | none => rw [hu] at h; cases h
          | some q =>
            rw [hu] at h; cases h
            have := unqL_len (e :: r) q hu
            show q.2 + 1 ≤ r.length + 1 + 1
            rw [List.length_cons] at this
            omega
theorem gUnq_len (s : ByteArray) : 0 ≤ (gUnq s).2 ∧ (gUnq s).2 ≤ s.size := by
  have hl : s.data.toList.length = s.size := by simp
  unfold gUnq
  cases hu : unqL (s.data.toList.drop 1) with
  | none => exact ⟨Int.le_refl _, Int.natCast_nonneg _⟩
  | some p =>
    have := unqL_len _ p hu
    rw [List.length_drop, hl] at this
    refine ⟨Int.natCast_nonneg _, ?_⟩
    show ((p.2 + 1 : Nat) : Int) ≤ _
    have h0 : 0 < s.size := by
      cases h0 : s.data.toList with
      | nil => rw [h0] at hu; cases hu
      | cons a l => rw [h0] at hl; rw [← hl]; exact Nat.succ_pos _
    omega
theorem atC_range (s : ByteArray) (i : Nat) (h : atC s i ≠ 0) : i < s.size := by
  by_cases e : i < s.size
  · exact e
  · exact absurd (if_neg e) h
def tF (f : GFound) : Ob := bx 4 101 ((encFound f).map .pv)
theorem tF_clo (H : Heap) (f : GFound) : ∀ r ∈ (tF f).rows, ∀ a ∈ r, Clo H a := by
  intro r hr a ha
  simp only [tF, bx, List.mem_singleton] at hr
  subst hr
  obtain ⟨p, _, rfl⟩ := List.mem_map.1 ha
  simp
theorem head_of {α : Type} {l m : List α} {k : Nat} {d : α} (h : l.drop k = d :: m) : l[k]? = some d ∧ l.drop (k + 1) = m := by
  refine ⟨?_, ?_⟩
  · have := congrArg (·[0]?) h
    simpa using this
  · rw [← List.drop_drop, h]; rfl
theorem step_go {s : ByteArray} {i j : Nat} {f : GFound} (h : gStep s i = (some f, j)) (he : f.err = 0) (hi : i < s.size) : i < j ∧ j ≤ s.size := by
  have hfirst : ∀ (p : Nat → Bool), p i = true → i < scan p (s.size - i) i ∧ scan p (s.size - i) i ≤ s.size := fun p hp => by
    obtain ⟨l1, l2⟩ := scan_le p (s.size - i) i
    refine ⟨?_, by omega⟩
    rcases Nat.lt_or_ge i (scan p (s.size - i) i) with h | h
    · exact h
    · have h3 := scan_stop p (s.size - i) i (by omega)
      rw [show scan p (s.size - i) i = i by omega, hp] at h3
      cases h3
  unfold gStep at h
  split at h
  · cases h
  · split at h
    · cases h
    · split at h
      · rename_i e3
        cases h
        exact hfirst _ (by rw [pWord, e3]; rfl)
      · split at h
        · rename_i e4
          cases h
          exact hfirst _ (by rw [pDig, e4]; rfl)
        · split at h
          · have hul := gUnq_len (s.extract i s.size)
            have hexs : (s.extract i s.size).size ≤ s.size - i := by rw [ByteArray.size_extract]; omega
            unfold gStr at h
            split at h
            · rename_i hpos
              cases h
              show i < i + (gUnq (s.extract i s.size)).2.toNat ∧ i + (gUnq (s.extract i s.size)).2.toNat ≤ s.size
              omega
            · cases h
              cases he
          · split at h
            · cases h
              exact ⟨Nat.lt_succ_self _, hi⟩
            · cases h
              cases he
theorem ltD {i n : Nat} (h : decide ((i : Int) < (n : Int)) = true) : i < n := by
  have := of_decide_eq_true h
  omega
theorem tokens2_c (s : ByteArray) (fv : AV) (Hs : Nat → Heap) (cont : Nat → Bool) (m : Nat) (hs : s.size < 1099511627776) (h1 : ∀ k, (Hs k).get 921 = some (tS s)) (h2 : ∀ k, (Hs k).get 923 = some tC) (h3 : ∀ k, (Hs k).get 924 = some tA) (h6 : ∀ k, (Hs k).get 926 = none) (hcl : ∀ k, Closed (Hs k)) (hf : ∀ k, Clo (Hs k) fv)
    (hm : m ≤ (gToks s (s.size + 1) 0).length) (hall : ∀ k, k + 1 < m → cont k = true) (hend : m = (gToks s (s.size + 1) 0).length ∨ (0 < m ∧ cont (m - 1) = false))
    (hy : ∀ k d, (gToks s (s.size + 1) 0)[k]? = some d → k < m → CallsV Try.prog fv [.agg ((encFound d).map .pv)] ((926, tF d) :: Hs k) (fun r H' => r = bv (cont k) ∧ H' = (926, tF d) :: Hs (k + 1))) :
    ACalls Try.prog 74 [fv, .ref 921 0 0 0, .ref 924 0 0 0] (Hs 0) (fun r H' => r = .tup [] ∧ H' = Hs m) := by
  obtain ⟨ds, hds⟩ : ∃ ds, ds = gToks s (s.size + 1) 0 := ⟨_, rfl⟩
  rw [← hds] at hy hm hend
  have hat : ∀ (k i : Nat) (f : GFound), i ≤ s.size + 1 → CallsV Try.prog (.clo 73 [.ref 921 0 0 0, .ref 923 0 0 0]) [iv (i : Int)] ((926, tF f) :: Hs k) (fun r H' => r = .pv (.int .u8 (atC s i)) ∧ H' = (926, tF f) :: Hs k) := fun k i f hi =>
    CallsV.clo Try.call73 (at1_c s i ((926, tF f) :: Hs k) (h1 k) (h2 k) (by omega) (by omega))
  have hfree : ∀ (G0 : Heap) (k i : Nat) (E : Env) (o : Ob), G0 = Hs 0 → E.get 0 = some fv → E.get 1 = some (.ref 921 0 0 0) → E.get 2 = some (.ref 924 0 0 0) → E.get 4 = some (iv (i : Int)) →
      Ent G0 E ((926, o) :: Hs k) [(0, fv), (1, .ref 921 0 0 0), (2, .ref 924 0 0 0), (4, iv (i : Int))] (Hs k) := fun G0 k i E o hG q0 q1 q2 q4 => by
    subst hG
    exact Ent.front (K := Hs k) [(926, o)] [] ⟨⟨_, q0, rfl⟩, hf k, ⟨_, q1, rfl⟩, (by rw [clo_ref]; show ((Hs k).get 921).isSome = true; rw [h1]; rfl), ⟨_, q2, rfl⟩, (by rw [clo_ref]; show ((Hs k).get 924).isSome = true; rw [h3]; rfl), ⟨_, q4, rfl⟩, (by simp), trivial⟩ (by simp [h6]) (by simp) (by simp) (hcl k) (by simp [h6])
  refine ACalls.body Try.func74 rfl Try.ntmps74 (Nat.le_of_ble_eq_true rfl) ?_
  refine awp_scope ?_
  refine awp_seq ?_
  refine awp_region ?_
  refine al_d rfl rfl rfl (by exact opd_assign rfl rfl) ?_
  refine al_nil ?_
  refine awp_seq ?_
  refine awp_label ?_
  refine awp_block ?_
  -- loop
  refine awp_loop2 (fun (i k : Nat) => ([(0, fv), (1, .ref 921 0 0 0), (2, .ref 924 0 0 0), (4, iv (i : Int))], Hs k)) (fun i k => i ≤ s.size ∧ k ≤ m ∧ (k = 0 ∨ cont (k - 1) = true) ∧ ∃ n, s.size - i < n ∧ ds.drop k = gToks s n i) (fun i k => s.size - i) 0 0 ⟨Nat.zero_le _, Nat.zero_le _, .inl rfl, s.size + 1, Nat.lt_succ_self _, by rw [List.drop_zero, hds]⟩ ?_ ?_
  · exact Ent.e0 ⟨⟨_, rfl, rfl⟩, ⟨_, rfl, rfl⟩, ⟨_, rfl, rfl⟩, ⟨_, rfl, rfl⟩, trivial⟩
  · rintro i k ⟨hi, hkm, hkc, n, hn, hinv⟩
    refine awp_seq ?_
    refine awp_seq ?_
    refine awp_region ?_
    refine al_d rfl rfl rfl (by exact opd_move rfl rfl) ?_
    refine al_d rfl rfl rfl (by exact (by first | exact opd_load1_ref rfl Try.isAgg9 rfl (h1 k) rfl rfl rfl | exact opd_load1_pad rfl Try.isAgg9 rfl (by first | omega | assumption) rfl)) ?_
    refine al_d rfl rfl rfl (by exact opd_len_str rfl Try.underlying9 rfl) ?_
    refine al_d rfl rfl rfl (by exact opd_lss rfl rfl rfl) ?_
    refine al_nil ?_
    refine awp_cond rfl (fun hc1 => ?_) (fun hc1 => ?_)
    -- cond 1
    · have hlt : i < s.size := by have := of_decide_eq_true hc1; omega
      obtain ⟨n, rfl⟩ : ∃ n', n = n' + 1 := ⟨n - 1, by omega⟩
      rw [gToks, if_pos hlt] at hinv
      refine awp_skip ?_
      refine awp_block ?_
      refine awp_seq ?_
      refine awp_region ?_
      refine al_d rfl rfl rfl (by exact opd_move rfl rfl) ?_
      refine al_d rfl rfl rfl (by exact opd_assign rfl rfl) ?_
      refine al_nil ?_
      refine awp_seq ?_
      refine awp_region ?_
      refine al_d rfl rfl rfl (by exact opd_move rfl rfl) ?_
      refine al_d rfl rfl rfl (by exact x_build rfl bo78 rfl rfl) ?_
      refine al_d rfl rfl rfl (by exact x_build rfl bo101 rfl rfl) ?_
      refine al_d rfl rfl rfl (by exact x_alloc (id := 926) rfl zo101 rfl (h6 k)) ?_
      refine al_n rfl rfl (by exact (by first | exact x_store_all rfl Try.sizeOf101 rfl rfl rfl rfl rfl rfl rfl rfl | exact x_store rfl Try.sizeOf101 rfl rfl rfl rfl rfl rfl rfl (by simp only [List.length_cons, List.length_nil]; omega) (by simp only [List.drop_succ_cons, List.drop_zero, List.take_succ_cons, List.take_zero, List.take_nil, List.map_cons, List.map_nil, List.set_cons_zero, List.set_cons_succ, List.cons_append, List.nil_append, encFound]; rfl) (by simp only [List.drop_succ_cons, List.drop_zero, List.take_succ_cons, List.take_zero, List.take_nil, List.map_cons, List.map_nil, List.set_cons_zero, List.set_cons_succ, List.cons_append, List.nil_append, encFound]; rfl) | exact x_store rfl Try.sizeOf101 rfl rfl rfl rfl rfl rfl rfl (Nat.le_of_ble_eq_true rfl) rfl rfl)) ?_
      refine al_nil ?_
      refine awp_seq_ex (fun (a : GFound × Nat) => ([(0, fv), (1, .ref 921 0 0 0), (2, .ref 924 0 0 0), (4, iv (a.2 : Int)), (6, .ref 926 0 0 0)], (926, tF a.1) :: Hs k)) (fun a => gStep s i = (some a.1, a.2)) ?_ ?_
      -- seqex
      · skip
        refine awp_seq ?_
        -- before the slot
        refine AWp.ent (E' := [(0, fv), (1, .ref 921 0 0 0), (2, .ref 924 0 0 0), (4, iv (i : Int)), (5, iv (i : Int)), (6, .ref 926 0 0 0)]) (H' := (926, tF (noTok i)) :: Hs k) (Ent.get' ⟨⟨_, rfl, rfl⟩, ⟨_, rfl, rfl⟩, ⟨_, rfl, rfl⟩, ⟨_, rfl, rfl⟩, ⟨_, rfl, rfl⟩, ⟨_, rfl, rfl⟩, trivial⟩ (fun j => get_dup 926 (tF (noTok i)) _ (Hs k) j)) ?_
        refine awp_region ?_
        refine al_d rfl rfl rfl (by exact (by first | exact opd_load1_ref rfl Try.isAgg111 rfl (h3 k) rfl rfl rfl | exact opd_load1_pad rfl Try.isAgg111 rfl (by first | omega | assumption) rfl)) ?_
        refine al_d rfl rfl rfl (by exact opd_move rfl rfl) ?_
        refine al_d rfl rfl rfl (by exact opr_callV rfl rfl rfl (hat k i (noTok i) (by omega))) ?_
        refine al_nil ?_
        refine awp_block ?_
        refine awp_seq ?_
        refine awp_region ?_
        refine al_d rfl rfl rfl (by exact opd_eql rfl rfl rfl) ?_
        refine al_d rfl rfl rfl (by exact opd_assign rfl rfl) ?_
        refine al_nil ?_
        refine awp_cond rfl (fun hc2 => ?_) (fun hc2 => ?_)
        -- cond 2
        · have e1 : atC s i = 1 := of_decide_eq_true hc2
          have hst : gStep s i = (none, i + 1) := by rw [gStep, if_pos e1]
          rw [hst] at hinv
          refine awp_seq ?_
          refine awp_region ?_
          refine al_d rfl rfl rfl (by exact opd_move rfl rfl) ?_
          refine al_d rfl rfl rfl (by exact opd_add rfl rfl rfl (by first | exact w64 (by omega) (by omega) | exact wu8 (by omega) (by omega) | rfl)) ?_
          refine al_d rfl rfl rfl (by exact opd_assign rfl rfl) ?_
          refine al_nil ?_
          refine awp_exit ?_
          -- end of a round
          exact ⟨i + 1, k, ⟨by omega, hkm, hkc, n, by omega, hinv⟩, by omega, hfree _ _ _ _ _ rfl rfl rfl rfl rfl⟩
        · have n1 : atC s i ≠ 1 := of_decide_eq_false hc2
          refine awp_seq ?_
          refine awp_region ?_
          refine al_d rfl rfl rfl (by exact opd_eql rfl rfl rfl) ?_
          refine al_d rfl rfl rfl (by exact opd_assign rfl rfl) ?_
          refine al_nil ?_
          refine awp_cond rfl (fun hc3 => ?_) (fun hc3 => ?_)
          -- cond 3
          · have e2 : atC s i = 2 := of_decide_eq_true hc3
            have hst : gStep s i = (none, lineEnd s i) := by rw [gStep, if_neg n1, if_pos e2]
            rw [hst] at hinv
            refine awp_seq ?_
            refine awp_block ?_
            -- loop
            refine awp_loop (σ := Nat) (fun j => ([(0, fv), (1, .ref 921 0 0 0), (2, .ref 924 0 0 0), (4, iv (j : Int))], (926, tF (noTok i)) :: Hs k)) (fun j => i ≤ j ∧ j ≤ s.size ∧ ∀ q, i ≤ q → q < j → pLine s q = true) (fun j => s.size - j) i ⟨Nat.le_refl _, hi, fun q h1 h2 => by omega⟩ ?_ ?_
            · exact Ent.e0 ⟨⟨_, rfl, rfl⟩, ⟨_, rfl, rfl⟩, ⟨_, rfl, rfl⟩, ⟨_, rfl, rfl⟩, trivial⟩
            · rintro j ⟨hij, hj, hpre⟩
              refine awp_seq ?_
              refine awp_seq ?_
              refine awp_bool (t := 37) (n := 11) (X := pLine s j) ?_ ?_
              · all_goals (refine al_d rfl rfl rfl (by exact opd_move rfl rfl) ?_)
                all_goals (refine al_d rfl rfl rfl (by exact (by first | exact opd_load1_ref rfl Try.isAgg9 rfl (h1 k) rfl rfl rfl | exact opd_load1_pad rfl Try.isAgg9 rfl (by first | omega | assumption) rfl)) ?_)
                all_goals (refine al_d rfl rfl rfl (by exact opd_len_str rfl Try.underlying9 rfl) ?_)
                all_goals (refine al_d rfl rfl rfl (by exact opd_lss rfl rfl rfl) ?_)
                all_goals (refine al_d rfl rfl rfl (by exact opd_move rfl rfl) ?_)
                all_goals (first | refine al_split (t := 32) rfl (fun h32 => ?_) (fun h32 => ?_) | refine al_dup (t := 32) rfl ?_ | skip)
                all_goals (try contradiction)
                all_goals (first | refine al_off rfl rfl rfl rfl rfl ?_ | refine al_offu rfl rfl rfl rfl ?_ | refine al_ond rfl rfl rfl rfl rfl rfl (by exact (by first | exact opd_load1_ref rfl Try.isAgg9 rfl (h1 k) rfl rfl rfl | exact opd_load1_pad rfl Try.isAgg9 rfl (by first | omega | assumption) rfl)) ?_)
                all_goals (first | refine al_off rfl rfl rfl rfl rfl ?_ | refine al_offu rfl rfl rfl rfl ?_ | refine al_ond rfl rfl rfl rfl rfl rfl (by exact opd_move rfl rfl) ?_)
                all_goals (first | refine al_off rfl rfl rfl rfl rfl ?_ | refine al_offu rfl rfl rfl rfl ?_ | refine al_ond rfl rfl rfl rfl rfl rfl (by exact opd_index_str rfl Try.underlying9 rfl rfl (by omega) (by first | exact Int.toNat_natCast _ | rfl) (ltD h32) rfl) ?_)
                all_goals (first | refine al_off rfl rfl rfl rfl rfl ?_ | refine al_offu rfl rfl rfl rfl ?_ | refine al_ond rfl rfl rfl rfl rfl rfl (by exact opd_neq rfl rfl rfl) ?_)
                all_goals (refine al_d rfl rfl rfl (by exact (by first | exact opd_pick_t rfl rfl rfl | exact opd_pick_f rfl rfl rfl | exact opd_pickt rfl rfl (by assumption) rfl | exact opd_pickf rfl rfl (by assumption) rfl | exact opd_pick rfl rfl rfl)) ?_)
                all_goals (refine al_nil ?_)
                all_goals (exact ⟨⟨_, rfl, by first | rfl | (simp only [pLine, *]; rfl) | (simp_all [pLine]; done) | (simp only [*, Bool.false_and, Bool.true_and, Bool.and_false, Bool.and_true, Bool.true_or, Bool.false_or, Bool.or_true, Bool.or_false, Bool.not_true, Bool.not_false]; done) | (simp_all; omega) | (simp_all [pLine]; omega)⟩, rfl, rfl, rfl⟩)
              refine awp_cond rfl (fun hc4 => ?_) (fun hc4 => ?_)
              -- cond 4
              · have hjs : j < s.size := by
                  have h := hc4
                  rw [pLine, Bool.and_eq_true, decide_eq_true_eq] at h
                  exact h.1
                refine awp_skip ?_
                refine awp_block ?_
                refine awp_region ?_
                refine al_d rfl rfl rfl (by exact opd_move rfl rfl) ?_
                refine al_d rfl rfl rfl (by exact opd_add rfl rfl rfl (by first | exact w64 (by omega) (by omega) | exact wu8 (by omega) (by omega) | rfl)) ?_
                refine al_d rfl rfl rfl (by exact opd_assign rfl rfl) ?_
                refine al_nil ?_
                -- end of a round
                exact ⟨j + 1, ⟨by omega, by omega, fun q q1 q2 => by
                  by_cases e : q = j
                  · subst e; exact hc4
                  · exact hpre q q1 (by omega)⟩, by omega, Ent.e0 ⟨⟨_, rfl, rfl⟩, ⟨_, rfl, rfl⟩, ⟨_, rfl, rfl⟩, ⟨_, rfl, rfl⟩, trivial⟩⟩
              · have hle : lineEnd s i = j := scan_eq _ hij (by omega) hpre (.inl hc4)
                have hgt : i < j := by
                  rcases Nat.lt_or_ge i j with h | h
                  · exact h
                  · have hji : j = i := by omega
                    subst hji
                    rw [pLine, decide_eq_true hlt, Bool.true_and, Bool.not_eq_false', decide_eq_true_eq] at hc4
                    rw [atC, if_pos hlt, hc4] at e2
                    exact absurd e2 (by decide)
                rw [hle] at hinv
                refine awp_exit ?_
                refine awp_exit ?_
                -- end of a round
                exact ⟨j, k, ⟨hj, hkm, hkc, n, by omega, hinv⟩, by omega, hfree _ _ _ _ _ rfl rfl rfl rfl rfl⟩
          · have n2 : atC s i ≠ 2 := of_decide_eq_false hc3
            refine awp_seq ?_
            refine awp_region ?_
            refine al_d rfl rfl rfl (by exact opd_eql rfl rfl rfl) ?_
            refine al_d rfl rfl rfl (by exact opd_assign rfl rfl) ?_
            refine al_nil ?_
            refine awp_cond rfl (fun hc5 => ?_) (fun hc5 => ?_)
            -- cond 5
            · have e3 : atC s i = 3 := of_decide_eq_true hc5
              refine awp_seq ?_
              refine awp_seq ?_
              refine awp_region ?_
              refine al_d rfl rfl rfl (by exact (by first | exact opd_load1_ref rfl Try.isAgg111 rfl (h3 k) rfl rfl rfl | exact opd_load1_pad rfl Try.isAgg111 rfl (by first | omega | assumption) rfl)) ?_
              refine al_d rfl rfl rfl (by exact opd_move rfl rfl) ?_
              refine al_d rfl rfl rfl (by exact opr_callV rfl rfl rfl (hat k i (noTok i) (by omega))) ?_
              refine al_d rfl rfl rfl (by exact opd_assign rfl rfl) ?_
              refine al_nil ?_
              refine awp_block ?_
              -- loop
              refine awp_loop (σ := Nat) (fun j => ([(0, fv), (1, .ref 921 0 0 0), (2, .ref 924 0 0 0), (4, iv (j : Int)), (5, iv (i : Int)), (6, .ref 926 0 0 0), (7, .pv (.int .u8 (atC s j)))], (926, tF (noTok i)) :: Hs k)) (fun j => i ≤ j ∧ j ≤ s.size ∧ ∀ q, i ≤ q → q < j → pWord s q = true) (fun j => s.size - j) i ⟨Nat.le_refl _, hi, fun q h1 h2 => by omega⟩ ?_ ?_
              · exact Ent.e0 ⟨⟨_, rfl, rfl⟩, ⟨_, rfl, rfl⟩, ⟨_, rfl, rfl⟩, ⟨_, rfl, rfl⟩, ⟨_, rfl, rfl⟩, ⟨_, rfl, rfl⟩, ⟨_, rfl, rfl⟩, trivial⟩
              · rintro j ⟨hij, hj, hpre⟩
                refine awp_seq ?_
                refine awp_seq ?_
                refine awp_bool (t := 54) (n := 12) (X := pWord s j) ?_ ?_
                · all_goals (refine al_d rfl rfl rfl (by exact opd_move rfl rfl) ?_)
                  all_goals (refine al_d rfl rfl rfl (by exact opd_eql rfl rfl rfl) ?_)
                  all_goals (refine al_d rfl rfl rfl (by exact opd_move rfl rfl) ?_)
                  all_goals (first | refine al_split (t := 47) rfl (fun h47 => ?_) (fun h47 => ?_) | refine al_dup (t := 47) rfl ?_ | skip)
                  all_goals (try contradiction)
                  all_goals (first | refine al_off rfl rfl rfl rfl rfl ?_ | refine al_offu rfl rfl rfl rfl ?_ | refine al_ond rfl rfl rfl rfl rfl rfl (by exact opd_move rfl rfl) ?_)
                  all_goals (first | refine al_off rfl rfl rfl rfl rfl ?_ | refine al_offu rfl rfl rfl rfl ?_ | refine al_ond rfl rfl rfl rfl rfl rfl (by exact opd_eql rfl rfl rfl) ?_)
                  all_goals (refine al_d rfl rfl rfl (by exact (by first | exact opd_pick_t rfl rfl rfl | exact opd_pick_f rfl rfl rfl | exact opd_pickt rfl rfl (by assumption) rfl | exact opd_pickf rfl rfl (by assumption) rfl | exact opd_pick rfl rfl rfl)) ?_)
                  all_goals (refine al_d rfl rfl rfl (by exact opd_move rfl rfl) ?_)
                  all_goals (first | refine al_split (t := 51) rfl (fun h51 => ?_) (fun h51 => ?_) | refine al_dup (t := 51) rfl ?_ | skip)
                  all_goals (try contradiction)
                  all_goals (first | refine al_off rfl rfl rfl rfl rfl ?_ | refine al_offu rfl rfl rfl rfl ?_ | refine al_ond rfl rfl rfl rfl rfl rfl (by exact opd_move rfl rfl) ?_)
                  all_goals (first | refine al_off rfl rfl rfl rfl rfl ?_ | refine al_offu rfl rfl rfl rfl ?_ | refine al_ond rfl rfl rfl rfl rfl rfl (by exact opd_eql rfl rfl rfl) ?_)
                  all_goals (refine al_d rfl rfl rfl (by exact (by first | exact opd_pick_t rfl rfl rfl | exact opd_pick_f rfl rfl rfl | exact opd_pickt rfl rfl (by assumption) rfl | exact opd_pickf rfl rfl (by assumption) rfl | exact opd_pick rfl rfl rfl)) ?_)
                  all_goals (refine al_nil ?_)
                  all_goals (exact ⟨⟨_, rfl, by first | rfl | (simp only [pWord, *]; rfl) | (simp_all [pWord]; done) | (simp only [*, Bool.false_and, Bool.true_and, Bool.and_false, Bool.and_true, Bool.true_or, Bool.false_or, Bool.or_true, Bool.or_false, Bool.not_true, Bool.not_false]; done) | (simp_all; omega) | (simp_all [pWord]; omega)⟩, rfl, rfl, rfl⟩)
                refine awp_cond rfl (fun hc6 => ?_) (fun hc6 => ?_)
                -- cond 6
                · have hjs : j < s.size := atC_range s j (fun e => by rw [pWord, e] at hc6; cases hc6)
                  refine awp_skip ?_
                  refine awp_seq ?_
                  refine awp_block ?_
                  refine awp_region ?_
                  refine al_d rfl rfl rfl (by exact opd_move rfl rfl) ?_
                  refine al_d rfl rfl rfl (by exact opd_add rfl rfl rfl (by first | exact w64 (by omega) (by omega) | exact wu8 (by omega) (by omega) | rfl)) ?_
                  refine al_d rfl rfl rfl (by exact opd_assign rfl rfl) ?_
                  refine al_nil ?_
                  refine awp_region ?_
                  refine al_d rfl rfl rfl (by exact (by first | exact opd_load1_ref rfl Try.isAgg111 rfl (h3 k) rfl rfl rfl | exact opd_load1_pad rfl Try.isAgg111 rfl (by first | omega | assumption) rfl)) ?_
                  refine al_d rfl rfl rfl (by exact opd_move rfl rfl) ?_
                  refine al_d rfl rfl rfl (by exact opr_callV rfl rfl rfl (hat k (j + 1) (noTok i) (by omega))) ?_
                  refine al_d rfl rfl rfl (by exact opd_assign rfl rfl) ?_
                  refine al_nil ?_
                  -- end of a round
                  exact ⟨j + 1, ⟨by omega, by omega, fun q q1 q2 => by
                    by_cases e : q = j
                    · subst e; exact hc6
                    · exact hpre q q1 (by omega)⟩, by omega, Ent.e0 ⟨⟨_, rfl, rfl⟩, ⟨_, rfl, rfl⟩, ⟨_, rfl, rfl⟩, ⟨_, rfl, rfl⟩, ⟨_, rfl, rfl⟩, ⟨_, rfl, rfl⟩, ⟨_, rfl, rfl⟩, trivial⟩⟩
                · have hle : wordEnd s i = j := scan_eq _ hij (by omega) hpre (.inl hc6)
                  have hst : gStep s i = (some (gWordT s i j), j) := by rw [gStep, if_neg n1, if_neg n2, if_pos e3, hle]
                  refine awp_exit ?_
                  refine awp_seq ?_
                  refine awp_drawc follows ?_
                  refine dc_cons (r := ⟨_, some [921], []⟩) (DStep.plain rfl (fun H1 hH => by exact (by first | exact opd_load1_ref rfl Try.isAgg9 rfl ((hH _ rfl).trans (h1 k)) rfl rfl rfl | exact opd_load1_pad rfl Try.isAgg9 rfl (by first | omega | assumption) rfl))) rfl ?_
                  refine dc_cons (r := ⟨_, some [], []⟩) (DStep.plain rfl (fun H1 hH => by exact opd_move rfl rfl)) rfl ?_
                  refine dc_cons (r := ⟨_, some [], []⟩) (DStep.plain rfl (fun H1 hH => by exact opd_move rfl rfl)) rfl ?_
                  refine dc_cons (r := ⟨_, some [], []⟩) (DStep.plain rfl (fun H1 hH => by exact opd_slice_str (l := i) (h := j) rfl Try.underlying9 rfl rfl rfl (by omega) (by omega) rfl)) rfl ?_
                  refine dc_cons (r := ⟨_, some [926], []⟩) (DStep.plain rfl (fun H1 hH => by exact (by first | exact opd_field_ref rfl fo101_0 rfl ((hH _ rfl).trans rfl) rfl rfl | exact opd_field_pad rfl fo101_0 rfl rfl))) rfl ?_
                  refine dc_cons (r := ⟨_, some [926], []⟩) (DStep.plain rfl (fun H1 hH => by exact (by first | exact opd_field_ref rfl fo78_0 rfl ((hH _ rfl).trans rfl) rfl rfl | exact opd_field_pad rfl fo78_0 rfl rfl))) rfl ?_
                  refine dc_cons (r := ⟨_, some [926], [_]⟩) (DStep.plain rfl (fun H1 hH => by exact (by first | exact x_store_all rfl Try.sizeOf3 rfl rfl rfl rfl ((hH _ rfl).trans rfl) rfl rfl rfl | exact x_store1 rfl Try.sizeOf3 rfl rfl rfl ((hH _ rfl).trans rfl) rfl rfl (by simp only [List.length_cons, List.length_nil]; omega) (by simp only [List.drop_succ_cons, List.drop_zero, List.take_succ_cons, List.take_zero, List.take_nil, List.map_cons, List.map_nil, List.set_cons_zero, List.set_cons_succ, List.cons_append, List.nil_append, encFound]; rfl) (by simp only [List.drop_succ_cons, List.drop_zero, List.take_succ_cons, List.take_zero, List.take_nil, List.map_cons, List.map_nil, List.set_cons_zero, List.set_cons_succ, List.cons_append, List.nil_append, encFound]; rfl) | exact x_store1 rfl Try.sizeOf3 rfl rfl rfl ((hH _ rfl).trans rfl) rfl rfl (Nat.le_of_ble_eq_true rfl) rfl rfl))) rfl ?_
                  refine dc_cons (r := ⟨_, some [926], []⟩) (DStep.plain rfl (fun H1 hH => by exact (by first | exact opd_field_ref rfl fo101_0 rfl ((hH _ rfl).trans rfl) rfl rfl | exact opd_field_pad rfl fo101_0 rfl rfl))) rfl ?_
                  refine dc_cons (r := ⟨_, some [926], []⟩) (DStep.plain rfl (fun H1 hH => by exact (by first | exact opd_field_ref rfl fo78_1 rfl ((hH _ rfl).trans rfl) rfl rfl | exact opd_field_pad rfl fo78_1 rfl rfl))) rfl ?_
                  refine dc_cons (r := ⟨_, some [926], [_]⟩) (DStep.plain rfl (fun H1 hH => by exact (by first | exact x_store_all rfl Try.sizeOf9 rfl rfl rfl rfl ((hH _ rfl).trans rfl) rfl rfl rfl | exact x_store1 rfl Try.sizeOf9 rfl rfl rfl ((hH _ rfl).trans rfl) rfl rfl (by simp only [List.length_cons, List.length_nil]; omega) (by simp only [List.drop_succ_cons, List.drop_zero, List.take_succ_cons, List.take_zero, List.take_nil, List.map_cons, List.map_nil, List.set_cons_zero, List.set_cons_succ, List.cons_append, List.nil_append, encFound]; rfl) (by simp only [List.drop_succ_cons, List.drop_zero, List.take_succ_cons, List.take_zero, List.take_nil, List.map_cons, List.map_nil, List.set_cons_zero, List.set_cons_succ, List.cons_append, List.nil_append, encFound]; rfl) | exact x_store1 rfl Try.sizeOf9 rfl rfl rfl ((hH _ rfl).trans rfl) rfl rfl (Nat.le_of_ble_eq_true rfl) rfl rfl))) rfl ?_
                  refine dc_cons (r := ⟨_, some [926], []⟩) (DStep.plain rfl (fun H1 hH => by exact (by first | exact opd_field_ref rfl fo101_1 rfl ((hH _ rfl).trans rfl) rfl rfl | exact opd_field_pad rfl fo101_1 rfl rfl))) rfl ?_
                  refine dc_cons (r := ⟨_, some [926], [_]⟩) (DStep.plain rfl (fun H1 hH => by exact (by first | exact x_store_all rfl Try.sizeOf25 rfl rfl rfl rfl ((hH _ rfl).trans rfl) rfl rfl rfl | exact x_store1 rfl Try.sizeOf25 rfl rfl rfl ((hH _ rfl).trans rfl) rfl rfl (by simp only [List.length_cons, List.length_nil]; omega) (by simp only [List.drop_succ_cons, List.drop_zero, List.take_succ_cons, List.take_zero, List.take_nil, List.map_cons, List.map_nil, List.set_cons_zero, List.set_cons_succ, List.cons_append, List.nil_append, encFound]; rfl) (by simp only [List.drop_succ_cons, List.drop_zero, List.take_succ_cons, List.take_zero, List.take_nil, List.map_cons, List.map_nil, List.set_cons_zero, List.set_cons_succ, List.cons_append, List.nil_append, encFound]; rfl) | exact x_store1 rfl Try.sizeOf25 rfl rfl rfl ((hH _ rfl).trans rfl) rfl rfl (Nat.le_of_ble_eq_true rfl) rfl rfl))) rfl ?_
                  refine dc_nil ⟨by kernel_rfl, ?_⟩
                  refine awp_seq ?_
                  refine awp_region ?_
                  refine al_d rfl rfl rfl (by exact opd_move rfl rfl) ?_
                  refine al_d rfl rfl rfl (by exact opd_move rfl rfl) ?_
                  refine al_d rfl rfl rfl (by exact opd_sub rfl rfl rfl (show IntKind.i64.wrap ((j : Int) - (i : Int)) = ((j - i : Nat) : Int) by rw [IntKind.wrap_i64]; omega)) ?_
                  refine al_d rfl rfl rfl (by exact opd_gtr rfl rfl rfl) ?_
                  refine al_nil ?_
                  refine awp_cond rfl (fun hc7 => ?_) (fun hc7 => ?_)
                  -- cond 7
                  · have hE : gWordT s i j = ⟨1, s.extract i j, i, 2⟩ := by rw [gWordT, if_pos (by have := of_decide_eq_true hc7; omega)]
                    rw [hE] at hst
                    refine awp_region ?_
                    refine al_d rfl rfl rfl (by exact (by first | exact opd_field_ref rfl fo101_1 rfl rfl rfl rfl | exact opd_field_pad rfl fo101_1 rfl rfl)) ?_
                    refine al_n rfl rfl (by exact (by first | exact x_store_all rfl Try.sizeOf25 rfl rfl rfl rfl rfl rfl rfl rfl | exact x_store1 rfl Try.sizeOf25 rfl rfl rfl rfl rfl rfl (by simp only [List.length_cons, List.length_nil]; omega) (by simp only [List.drop_succ_cons, List.drop_zero, List.take_succ_cons, List.take_zero, List.take_nil, List.map_cons, List.map_nil, List.set_cons_zero, List.set_cons_succ, List.cons_append, List.nil_append, encFound]; rfl) (by simp only [List.drop_succ_cons, List.drop_zero, List.take_succ_cons, List.take_zero, List.take_nil, List.map_cons, List.map_nil, List.set_cons_zero, List.set_cons_succ, List.cons_append, List.nil_append, encFound]; rfl) | exact x_store1 rfl Try.sizeOf25 rfl rfl rfl rfl rfl rfl (Nat.le_of_ble_eq_true rfl) rfl rfl)) ?_
                    refine al_nil ?_
                    -- end of the piece
                    exact ⟨(⟨1, s.extract i j, i, 2⟩, j), hst, Ent.get' ⟨⟨_, rfl, rfl⟩, ⟨_, rfl, rfl⟩, ⟨_, rfl, rfl⟩, ⟨_, rfl, rfl⟩, ⟨_, rfl, rfl⟩, trivial⟩ (fun q => get_dups [_, _, _, _] (by simp) q)⟩
                  · have hE : gWordT s i j = ⟨1, s.extract i j, i, 0⟩ := by rw [gWordT, if_neg (by have := of_decide_eq_false hc7; omega)]
                    rw [hE] at hst
                    refine awp_skip ?_
                    -- end of the piece
                    exact ⟨(⟨1, s.extract i j, i, 0⟩, j), hst, Ent.get' ⟨⟨_, rfl, rfl⟩, ⟨_, rfl, rfl⟩, ⟨_, rfl, rfl⟩, ⟨_, rfl, rfl⟩, ⟨_, rfl, rfl⟩, trivial⟩ (fun q => get_dups [_, _, _] (by simp) q)⟩
            · have n3 : atC s i ≠ 3 := of_decide_eq_false hc5
              refine awp_seq ?_
              refine awp_region ?_
              refine al_d rfl rfl rfl (by exact opd_eql rfl rfl rfl) ?_
              refine al_d rfl rfl rfl (by exact opd_assign rfl rfl) ?_
              refine al_nil ?_
              refine awp_cond rfl (fun hc8 => ?_) (fun hc8 => ?_)
              -- cond 8
              · have e4 : atC s i = 4 := of_decide_eq_true hc8
                refine awp_seq ?_
                refine awp_block ?_
                -- loop
                refine awp_loop (σ := Nat) (fun j => ([(0, fv), (1, .ref 921 0 0 0), (2, .ref 924 0 0 0), (4, iv (j : Int)), (5, iv (i : Int)), (6, .ref 926 0 0 0)], (926, tF (noTok i)) :: Hs k)) (fun j => i ≤ j ∧ j ≤ s.size ∧ ∀ q, i ≤ q → q < j → pDig s q = true) (fun j => s.size - j) i ⟨Nat.le_refl _, hi, fun q h1 h2 => by omega⟩ ?_ ?_
                · exact Ent.e0 ⟨⟨_, rfl, rfl⟩, ⟨_, rfl, rfl⟩, ⟨_, rfl, rfl⟩, ⟨_, rfl, rfl⟩, ⟨_, rfl, rfl⟩, ⟨_, rfl, rfl⟩, trivial⟩
                · rintro j ⟨hij, hj, hpre⟩
                  refine awp_seq ?_
                  refine awp_seq ?_
                  refine awp_region ?_
                  refine al_d rfl rfl rfl (by exact (by first | exact opd_load1_ref rfl Try.isAgg111 rfl (h3 k) rfl rfl rfl | exact opd_load1_pad rfl Try.isAgg111 rfl (by first | omega | assumption) rfl)) ?_
                  refine al_d rfl rfl rfl (by exact opd_move rfl rfl) ?_
                  refine al_d rfl rfl rfl (by exact opr_callV rfl rfl rfl (hat k j (noTok i) (by omega))) ?_
                  refine al_d rfl rfl rfl (by exact opd_eql rfl rfl rfl) ?_
                  refine al_nil ?_
                  refine awp_cond rfl (fun hc9 => ?_) (fun hc9 => ?_)
                  -- cond 9
                  · have hjs : j < s.size := atC_range s j (fun e => by rw [e] at hc9; cases hc9)
                    refine awp_skip ?_
                    refine awp_block ?_
                    refine awp_region ?_
                    refine al_d rfl rfl rfl (by exact opd_move rfl rfl) ?_
                    refine al_d rfl rfl rfl (by exact opd_add rfl rfl rfl (by first | exact w64 (by omega) (by omega) | exact wu8 (by omega) (by omega) | rfl)) ?_
                    refine al_d rfl rfl rfl (by exact opd_assign rfl rfl) ?_
                    refine al_nil ?_
                    -- end of a round
                    exact ⟨j + 1, ⟨by omega, by omega, fun q q1 q2 => by
                      by_cases e : q = j
                      · subst e; exact hc9
                      · exact hpre q q1 (by omega)⟩, by omega, Ent.e0 ⟨⟨_, rfl, rfl⟩, ⟨_, rfl, rfl⟩, ⟨_, rfl, rfl⟩, ⟨_, rfl, rfl⟩, ⟨_, rfl, rfl⟩, ⟨_, rfl, rfl⟩, trivial⟩⟩
                  · have hle : digEnd s i = j := scan_eq _ hij (by omega) hpre (.inl hc9)
                    have hst : gStep s i = (some (gNum s i j), j) := by rw [gStep, if_neg n1, if_neg n2, if_neg n3, if_pos e4, hle]
                    refine awp_exit ?_
                    refine awp_seq ?_
                    refine awp_drawc follows ?_
                    refine dc_cons (r := ⟨_, some [921], []⟩) (DStep.plain rfl (fun H1 hH => by exact (by first | exact opd_load1_ref rfl Try.isAgg9 rfl ((hH _ rfl).trans (h1 k)) rfl rfl rfl | exact opd_load1_pad rfl Try.isAgg9 rfl (by first | omega | assumption) rfl))) rfl ?_
                    refine dc_cons (r := ⟨_, some [], []⟩) (DStep.plain rfl (fun H1 hH => by exact opd_move rfl rfl)) rfl ?_
                    refine dc_cons (r := ⟨_, some [], []⟩) (DStep.plain rfl (fun H1 hH => by exact opd_move rfl rfl)) rfl ?_
                    refine dc_cons (r := ⟨_, some [], []⟩) (DStep.plain rfl (fun H1 hH => by exact opd_slice_str (l := i) (h := j) rfl Try.underlying9 rfl rfl rfl (by omega) (by omega) rfl)) rfl ?_
                    refine dc_cons (r := ⟨_, some [926], []⟩) (DStep.plain rfl (fun H1 hH => by exact (by first | exact opd_field_ref rfl fo101_0 rfl ((hH _ rfl).trans rfl) rfl rfl | exact opd_field_pad rfl fo101_0 rfl rfl))) rfl ?_
                    refine dc_cons (r := ⟨_, some [926], []⟩) (DStep.plain rfl (fun H1 hH => by exact (by first | exact opd_field_ref rfl fo78_0 rfl ((hH _ rfl).trans rfl) rfl rfl | exact opd_field_pad rfl fo78_0 rfl rfl))) rfl ?_
                    refine dc_cons (r := ⟨_, some [926], [_]⟩) (DStep.plain rfl (fun H1 hH => by exact (by first | exact x_store_all rfl Try.sizeOf3 rfl rfl rfl rfl ((hH _ rfl).trans rfl) rfl rfl rfl | exact x_store1 rfl Try.sizeOf3 rfl rfl rfl ((hH _ rfl).trans rfl) rfl rfl (by simp only [List.length_cons, List.length_nil]; omega) (by simp only [List.drop_succ_cons, List.drop_zero, List.take_succ_cons, List.take_zero, List.take_nil, List.map_cons, List.map_nil, List.set_cons_zero, List.set_cons_succ, List.cons_append, List.nil_append, encFound]; rfl) (by simp only [List.drop_succ_cons, List.drop_zero, List.take_succ_cons, List.take_zero, List.take_nil, List.map_cons, List.map_nil, List.set_cons_zero, List.set_cons_succ, List.cons_append, List.nil_append, encFound]; rfl) | exact x_store1 rfl Try.sizeOf3 rfl rfl rfl ((hH _ rfl).trans rfl) rfl rfl (Nat.le_of_ble_eq_true rfl) rfl rfl))) rfl ?_
                    refine dc_cons (r := ⟨_, some [926], []⟩) (DStep.plain rfl (fun H1 hH => by exact (by first | exact opd_field_ref rfl fo101_0 rfl ((hH _ rfl).trans rfl) rfl rfl | exact opd_field_pad rfl fo101_0 rfl rfl))) rfl ?_
                    refine dc_cons (r := ⟨_, some [926], []⟩) (DStep.plain rfl (fun H1 hH => by exact (by first | exact opd_field_ref rfl fo78_1 rfl ((hH _ rfl).trans rfl) rfl rfl | exact opd_field_pad rfl fo78_1 rfl rfl))) rfl ?_
                    refine dc_cons (r := ⟨_, some [926], [_]⟩) (DStep.plain rfl (fun H1 hH => by exact (by first | exact x_store_all rfl Try.sizeOf9 rfl rfl rfl rfl ((hH _ rfl).trans rfl) rfl rfl rfl | exact x_store1 rfl Try.sizeOf9 rfl rfl rfl ((hH _ rfl).trans rfl) rfl rfl (by simp only [List.length_cons, List.length_nil]; omega) (by simp only [List.drop_succ_cons, List.drop_zero, List.take_succ_cons, List.take_zero, List.take_nil, List.map_cons, List.map_nil, List.set_cons_zero, List.set_cons_succ, List.cons_append, List.nil_append, encFound]; rfl) (by simp only [List.drop_succ_cons, List.drop_zero, List.take_succ_cons, List.take_zero, List.take_nil, List.map_cons, List.map_nil, List.set_cons_zero, List.set_cons_succ, List.cons_append, List.nil_append, encFound]; rfl) | exact x_store1 rfl Try.sizeOf9 rfl rfl rfl ((hH _ rfl).trans rfl) rfl rfl (Nat.le_of_ble_eq_true rfl) rfl rfl))) rfl ?_
                    refine dc_cons (r := ⟨_, some [926], []⟩) (DStep.plain rfl (fun H1 hH => by exact (by first | exact opd_field_ref rfl fo101_1 rfl ((hH _ rfl).trans rfl) rfl rfl | exact opd_field_pad rfl fo101_1 rfl rfl))) rfl ?_
                    refine dc_cons (r := ⟨_, some [926], [_]⟩) (DStep.plain rfl (fun H1 hH => by exact (by first | exact x_store_all rfl Try.sizeOf25 rfl rfl rfl rfl ((hH _ rfl).trans rfl) rfl rfl rfl | exact x_store1 rfl Try.sizeOf25 rfl rfl rfl ((hH _ rfl).trans rfl) rfl rfl (by simp only [List.length_cons, List.length_nil]; omega) (by simp only [List.drop_succ_cons, List.drop_zero, List.take_succ_cons, List.take_zero, List.take_nil, List.map_cons, List.map_nil, List.set_cons_zero, List.set_cons_succ, List.cons_append, List.nil_append, encFound]; rfl) (by simp only [List.drop_succ_cons, List.drop_zero, List.take_succ_cons, List.take_zero, List.take_nil, List.map_cons, List.map_nil, List.set_cons_zero, List.set_cons_succ, List.cons_append, List.nil_append, encFound]; rfl) | exact x_store1 rfl Try.sizeOf25 rfl rfl rfl ((hH _ rfl).trans rfl) rfl rfl (Nat.le_of_ble_eq_true rfl) rfl rfl))) rfl ?_
                    refine dc_nil ⟨by kernel_rfl, ?_⟩
                    refine awp_seq ?_
                    -- before the slot
                    refine AWp.ent (E' := [(0, fv), (1, .ref 921 0 0 0), (2, .ref 924 0 0 0), (4, iv (j : Int)), (5, iv (i : Int)), (6, .ref 926 0 0 0)]) (H' := (926, tF ⟨2, s.extract i j, i, 0⟩) :: Hs k) (Ent.get' ⟨⟨_, rfl, rfl⟩, ⟨_, rfl, rfl⟩, ⟨_, rfl, rfl⟩, ⟨_, rfl, rfl⟩, ⟨_, rfl, rfl⟩, ⟨_, rfl, rfl⟩, trivial⟩ (fun q => get_dups [_, _, _] (by simp) q)) ?_
                    have h7 : decide (7 < ((j - i : Nat) : Int)) = decide (7 < j - i) := by rw [Bool.eq_iff_iff, decide_eq_true_eq, decide_eq_true_eq]; omega
                    refine awp_region ?_
                    refine al_d rfl rfl rfl (by exact (by first | exact opd_load1_ref rfl Try.isAgg111 rfl (h3 k) rfl rfl rfl | exact opd_load1_pad rfl Try.isAgg111 rfl (by first | omega | assumption) rfl)) ?_
                    refine al_d rfl rfl rfl (by exact opd_move rfl rfl) ?_
                    refine al_d rfl rfl rfl (by exact opr_callV rfl rfl rfl (hat k j ⟨2, s.extract i j, i, 0⟩ (by omega))) ?_
                    refine al_d rfl rfl rfl (by exact opd_assign rfl rfl) ?_
                    refine al_nil ?_
                    refine awp_seq ?_
                    refine awp_bool (t := 105) (n := 14) (X := decide (7 < ((j - i : Nat) : Int)) || decide (atC s j = 3) || decide (atC s j = 5)) ?_ ?_
                    · all_goals (refine al_d rfl rfl rfl (by exact opd_move rfl rfl) ?_)
                      all_goals (refine al_d rfl rfl rfl (by exact opd_move rfl rfl) ?_)
                      all_goals (refine al_d rfl rfl rfl (by exact opd_sub rfl rfl rfl (show IntKind.i64.wrap ((j : Int) - (i : Int)) = ((j - i : Nat) : Int) by rw [IntKind.wrap_i64]; omega)) ?_)
                      all_goals (refine al_d rfl rfl rfl (by exact opd_gtr rfl rfl rfl) ?_)
                      all_goals (refine al_d rfl rfl rfl (by exact opd_move rfl rfl) ?_)
                      all_goals (first | refine al_split (t := 98) rfl (fun h98 => ?_) (fun h98 => ?_) | refine al_dup (t := 98) rfl ?_ | skip)
                      all_goals (try contradiction)
                      all_goals (first | refine al_off rfl rfl rfl rfl rfl ?_ | refine al_offu rfl rfl rfl rfl ?_ | refine al_ond rfl rfl rfl rfl rfl rfl (by exact opd_move rfl rfl) ?_)
                      all_goals (first | refine al_off rfl rfl rfl rfl rfl ?_ | refine al_offu rfl rfl rfl rfl ?_ | refine al_ond rfl rfl rfl rfl rfl rfl (by exact opd_eql rfl rfl rfl) ?_)
                      all_goals (refine al_d rfl rfl rfl (by exact (by first | exact opd_pick_t rfl rfl rfl | exact opd_pick_f rfl rfl rfl | exact opd_pickt rfl rfl (by assumption) rfl | exact opd_pickf rfl rfl (by assumption) rfl | exact opd_pick rfl rfl rfl)) ?_)
                      all_goals (refine al_d rfl rfl rfl (by exact opd_move rfl rfl) ?_)
                      all_goals (first | refine al_split (t := 102) rfl (fun h102 => ?_) (fun h102 => ?_) | refine al_dup (t := 102) rfl ?_ | skip)
                      all_goals (try contradiction)
                      all_goals (first | refine al_off rfl rfl rfl rfl rfl ?_ | refine al_offu rfl rfl rfl rfl ?_ | refine al_ond rfl rfl rfl rfl rfl rfl (by exact opd_move rfl rfl) ?_)
                      all_goals (first | refine al_off rfl rfl rfl rfl rfl ?_ | refine al_offu rfl rfl rfl rfl ?_ | refine al_ond rfl rfl rfl rfl rfl rfl (by exact opd_eql rfl rfl rfl) ?_)
                      all_goals (refine al_d rfl rfl rfl (by exact (by first | exact opd_pick_t rfl rfl rfl | exact opd_pick_f rfl rfl rfl | exact opd_pickt rfl rfl (by assumption) rfl | exact opd_pickf rfl rfl (by assumption) rfl | exact opd_pick rfl rfl rfl)) ?_)
                      all_goals (refine al_nil ?_)
                      all_goals (exact ⟨⟨_, rfl, by first | rfl | (simp only [pWord, *]; rfl) | (simp_all [pWord]; done) | (simp only [*, Bool.false_and, Bool.true_and, Bool.and_false, Bool.and_true, Bool.true_or, Bool.false_or, Bool.or_true, Bool.or_false, Bool.not_true, Bool.not_false]; done) | (simp_all; omega) | (simp_all [pWord]; omega)⟩, rfl, rfl, rfl⟩)
                    refine awp_cond rfl (fun hc10 => ?_) (fun hc10 => ?_)
                    -- cond 10
                    · have hE : gNum s i j = ⟨2, s.extract i j, i, 4⟩ := by rw [gNum, ← h7, hc10]; rfl
                      rw [hE] at hst
                      refine awp_region ?_
                      refine al_d rfl rfl rfl (by exact (by first | exact opd_field_ref rfl fo101_1 rfl rfl rfl rfl | exact opd_field_pad rfl fo101_1 rfl rfl)) ?_
                      refine al_n rfl rfl (by exact (by first | exact x_store_all rfl Try.sizeOf25 rfl rfl rfl rfl rfl rfl rfl rfl | exact x_store1 rfl Try.sizeOf25 rfl rfl rfl rfl rfl rfl (by simp only [List.length_cons, List.length_nil]; omega) (by simp only [List.drop_succ_cons, List.drop_zero, List.take_succ_cons, List.take_zero, List.take_nil, List.map_cons, List.map_nil, List.set_cons_zero, List.set_cons_succ, List.cons_append, List.nil_append, encFound]; rfl) (by simp only [List.drop_succ_cons, List.drop_zero, List.take_succ_cons, List.take_zero, List.take_nil, List.map_cons, List.map_nil, List.set_cons_zero, List.set_cons_succ, List.cons_append, List.nil_append, encFound]; rfl) | exact x_store1 rfl Try.sizeOf25 rfl rfl rfl rfl rfl rfl (Nat.le_of_ble_eq_true rfl) rfl rfl)) ?_
                      refine al_nil ?_
                      -- end of the piece
                      exact ⟨(⟨2, s.extract i j, i, 4⟩, j), hst, Ent.get' ⟨⟨_, rfl, rfl⟩, ⟨_, rfl, rfl⟩, ⟨_, rfl, rfl⟩, ⟨_, rfl, rfl⟩, ⟨_, rfl, rfl⟩, trivial⟩ (fun q => get_dups [_] (by simp) q)⟩
                    · have hE : gNum s i j = ⟨2, s.extract i j, i, 0⟩ := by rw [gNum, ← h7, hc10]; rfl
                      rw [hE] at hst
                      refine awp_skip ?_
                      -- end of the piece
                      exact ⟨(⟨2, s.extract i j, i, 0⟩, j), hst, Ent.e0 ⟨⟨_, rfl, rfl⟩, ⟨_, rfl, rfl⟩, ⟨_, rfl, rfl⟩, ⟨_, rfl, rfl⟩, ⟨_, rfl, rfl⟩, trivial⟩⟩
              · have n4 : atC s i ≠ 4 := of_decide_eq_false hc8
                refine awp_seq ?_
                refine awp_region ?_
                refine al_d rfl rfl rfl (by exact opd_eql rfl rfl rfl) ?_
                refine al_d rfl rfl rfl (by exact opd_assign rfl rfl) ?_
                refine al_nil ?_
                refine awp_cond rfl (fun hc11 => ?_) (fun hc11 => ?_)
                -- cond 11
                · have e7 : atC s i = 7 := of_decide_eq_true hc11
                  have hst : gStep s i = (some (gStr s i).1, (gStr s i).2) := by rw [gStep, if_neg n1, if_neg n2, if_neg n3, if_neg n4, if_pos e7]
                  have hexs : (s.extract i s.size).size ≤ s.size - i := by rw [ByteArray.size_extract]; omega
                  have hun := fun H => unquoted_c (s.extract i s.size) H (by omega)
                  have hul := gUnq_len (s.extract i s.size)
                  obtain ⟨u, hu⟩ : ∃ u, u = gUnq (s.extract i s.size) := ⟨_, rfl⟩
                  have hgs : gStr s i = if 0 < u.2 then (⟨3, u.1, i, 0⟩, i + u.2.toNat) else (noTok i, i) := by rw [gStr, ← hu]
                  rw [← hu] at hun hul
                  obtain ⟨ut, un⟩ := u
                  simp only at hun hul hgs
                  refine awp_seq ?_
                  refine awp_region ?_
                  refine al_d rfl rfl rfl (by exact (by first | exact opd_load1_ref rfl Try.isAgg9 rfl (h1 k) rfl rfl rfl | exact opd_load1_pad rfl Try.isAgg9 rfl (by first | omega | assumption) rfl)) ?_
                  refine al_d rfl rfl rfl (by exact opd_move rfl rfl) ?_
                  refine al_d rfl rfl rfl (by exact opd_slice_str (l := i) (h := s.size) rfl Try.underlying9 rfl rfl rfl (by omega) (by omega) rfl) ?_
                  refine al_d rfl rfl rfl (by exact opr_call rfl rfl Try.call75 rfl (hun _)) ?_
                  refine al_d rfl rfl rfl (by exact opd_move rfl rfl) ?_
                  refine al_d rfl rfl rfl (by exact opd_extract rfl rfl rfl) ?_
                  refine al_d rfl rfl rfl (by exact opd_extract rfl rfl rfl) ?_
                  refine al_d rfl rfl rfl (by exact opd_assign rfl rfl) ?_
                  refine al_d rfl rfl rfl (by exact opd_assign rfl rfl) ?_
                  refine al_nil ?_
                  refine awp_seq ?_
                  refine awp_seq ?_
                  refine awp_region ?_
                  refine al_d rfl rfl rfl (by exact opd_move rfl rfl) ?_
                  refine al_d rfl rfl rfl (by exact opd_gtr rfl rfl rfl) ?_
                  refine al_nil ?_
                  refine awp_cond rfl (fun hc12 => ?_) (fun hc12 => ?_)
                  -- cond 12
                  · rw [hgs, if_pos (of_decide_eq_true hc12)] at hst
                    refine awp_region ?_
                    refine al_d rfl rfl rfl (by exact opd_move rfl rfl) ?_
                    refine al_d rfl rfl rfl (by exact (by first | exact opd_field_ref rfl fo101_0 rfl rfl rfl rfl | exact opd_field_pad rfl fo101_0 rfl rfl)) ?_
                    refine al_d rfl rfl rfl (by exact (by first | exact opd_field_ref rfl fo78_0 rfl rfl rfl rfl | exact opd_field_pad rfl fo78_0 rfl rfl)) ?_
                    refine al_n rfl rfl (by exact (by first | exact x_store_all rfl Try.sizeOf3 rfl rfl rfl rfl rfl rfl rfl rfl | exact x_store1 rfl Try.sizeOf3 rfl rfl rfl rfl rfl rfl (by simp only [List.length_cons, List.length_nil]; omega) (by simp only [List.drop_succ_cons, List.drop_zero, List.take_succ_cons, List.take_zero, List.take_nil, List.map_cons, List.map_nil, List.set_cons_zero, List.set_cons_succ, List.cons_append, List.nil_append, encFound]; rfl) (by simp only [List.drop_succ_cons, List.drop_zero, List.take_succ_cons, List.take_zero, List.take_nil, List.map_cons, List.map_nil, List.set_cons_zero, List.set_cons_succ, List.cons_append, List.nil_append, encFound]; rfl) | exact x_store1 rfl Try.sizeOf3 rfl rfl rfl rfl rfl rfl (Nat.le_of_ble_eq_true rfl) rfl rfl)) ?_
                    refine al_d rfl rfl rfl (by exact (by first | exact opd_field_ref rfl fo101_0 rfl rfl rfl rfl | exact opd_field_pad rfl fo101_0 rfl rfl)) ?_
                    refine al_d rfl rfl rfl (by exact (by first | exact opd_field_ref rfl fo78_1 rfl rfl rfl rfl | exact opd_field_pad rfl fo78_1 rfl rfl)) ?_
                    refine al_n rfl rfl (by exact (by first | exact x_store_all rfl Try.sizeOf9 rfl rfl rfl rfl rfl rfl rfl rfl | exact x_store1 rfl Try.sizeOf9 rfl rfl rfl rfl rfl rfl (by simp only [List.length_cons, List.length_nil]; omega) (by simp only [List.drop_succ_cons, List.drop_zero, List.take_succ_cons, List.take_zero, List.take_nil, List.map_cons, List.map_nil, List.set_cons_zero, List.set_cons_succ, List.cons_append, List.nil_append, encFound]; rfl) (by simp only [List.drop_succ_cons, List.drop_zero, List.take_succ_cons, List.take_zero, List.take_nil, List.map_cons, List.map_nil, List.set_cons_zero, List.set_cons_succ, List.cons_append, List.nil_append, encFound]; rfl) | exact x_store1 rfl Try.sizeOf9 rfl rfl rfl rfl rfl rfl (Nat.le_of_ble_eq_true rfl) rfl rfl)) ?_
                    refine al_d rfl rfl rfl (by exact (by first | exact opd_field_ref rfl fo101_1 rfl rfl rfl rfl | exact opd_field_pad rfl fo101_1 rfl rfl)) ?_
                    refine al_n rfl rfl (by exact (by first | exact x_store_all rfl Try.sizeOf25 rfl rfl rfl rfl rfl rfl rfl rfl | exact x_store1 rfl Try.sizeOf25 rfl rfl rfl rfl rfl rfl (by simp only [List.length_cons, List.length_nil]; omega) (by simp only [List.drop_succ_cons, List.drop_zero, List.take_succ_cons, List.take_zero, List.take_nil, List.map_cons, List.map_nil, List.set_cons_zero, List.set_cons_succ, List.cons_append, List.nil_append, encFound]; rfl) (by simp only [List.drop_succ_cons, List.drop_zero, List.take_succ_cons, List.take_zero, List.take_nil, List.map_cons, List.map_nil, List.set_cons_zero, List.set_cons_succ, List.cons_append, List.nil_append, encFound]; rfl) | exact x_store1 rfl Try.sizeOf25 rfl rfl rfl rfl rfl rfl (Nat.le_of_ble_eq_true rfl) rfl rfl)) ?_
                    refine al_nil ?_
                    refine awp_region ?_
                    refine al_d rfl rfl rfl (by exact opd_move rfl rfl) ?_
                    refine al_d rfl rfl rfl (by exact opd_move rfl rfl) ?_
                    refine al_d rfl rfl rfl (by exact opd_add rfl rfl rfl (show IntKind.i64.wrap ((i : Int) + un) = ((i + un.toNat : Nat) : Int) by rw [IntKind.wrap_i64]; omega)) ?_
                    refine al_d rfl rfl rfl (by exact opd_assign rfl rfl) ?_
                    refine al_nil ?_
                    -- end of the piece
                    exact ⟨(⟨3, ut, i, 0⟩, i + un.toNat), hst, Ent.get' ⟨⟨_, rfl, rfl⟩, ⟨_, rfl, rfl⟩, ⟨_, rfl, rfl⟩, ⟨_, rfl, rfl⟩, ⟨_, rfl, rfl⟩, trivial⟩ (fun q => get_dups [_, _, _] (by simp) q)⟩
                  · have hu0 := of_decide_eq_false hc12
                    rw [hgs, if_neg hu0] at hst
                    have e0 : i + un.toNat = i := by omega
                    refine awp_skip ?_
                    refine awp_region ?_
                    refine al_d rfl rfl rfl (by exact opd_move rfl rfl) ?_
                    refine al_d rfl rfl rfl (by exact opd_move rfl rfl) ?_
                    refine al_d rfl rfl rfl (by exact opd_add rfl rfl rfl (show IntKind.i64.wrap ((i : Int) + un) = ((i + un.toNat : Nat) : Int) by rw [IntKind.wrap_i64]; omega)) ?_
                    refine al_d rfl rfl rfl (by exact opd_assign rfl rfl) ?_
                    refine al_nil ?_
                    -- end of the piece
                    rw [e0]
                    exact ⟨(noTok i, i), hst, Ent.e0 ⟨⟨_, rfl, rfl⟩, ⟨_, rfl, rfl⟩, ⟨_, rfl, rfl⟩, ⟨_, rfl, rfl⟩, ⟨_, rfl, rfl⟩, trivial⟩⟩
                · have n7 : atC s i ≠ 7 := of_decide_eq_false hc11
                  refine awp_seq ?_
                  refine awp_region ?_
                  refine al_d rfl rfl rfl (by exact opd_eql rfl rfl rfl) ?_
                  refine al_d rfl rfl rfl (by exact opd_assign rfl rfl) ?_
                  refine al_nil ?_
                  refine awp_cond rfl (fun hc13 => ?_) (fun hc13 => ?_)
                  -- cond 13
                  · have e6 : atC s i = 6 := of_decide_eq_true hc13
                    have hst : gStep s i = (some ⟨4, s.extract i (i + 1), i, 0⟩, i + 1) := by rw [gStep, if_neg n1, if_neg n2, if_neg n3, if_neg n4, if_neg n7, if_pos e6]
                    refine awp_seq ?_
                    refine awp_region ?_
                    refine al_d rfl rfl rfl (by exact opd_move rfl rfl) ?_
                    refine al_d rfl rfl rfl (by exact opd_add rfl rfl rfl (by first | exact w64 (by omega) (by omega) | exact wu8 (by omega) (by omega) | rfl)) ?_
                    refine al_d rfl rfl rfl (by exact opd_assign rfl rfl) ?_
                    refine al_nil ?_
                    refine awp_drawc follows ?_
                    refine dc_cons (r := ⟨_, some [921], []⟩) (DStep.plain rfl (fun H1 hH => by exact (by first | exact opd_load1_ref rfl Try.isAgg9 rfl ((hH _ rfl).trans (h1 k)) rfl rfl rfl | exact opd_load1_pad rfl Try.isAgg9 rfl (by first | omega | assumption) rfl))) rfl ?_
                    refine dc_cons (r := ⟨_, some [], []⟩) (DStep.plain rfl (fun H1 hH => by exact opd_move rfl rfl)) rfl ?_
                    refine dc_cons (r := ⟨_, some [], []⟩) (DStep.plain rfl (fun H1 hH => by exact opd_move rfl rfl)) rfl ?_
                    refine dc_cons (r := ⟨_, some [], []⟩) (DStep.plain rfl (fun H1 hH => by exact opd_slice_str (l := i) (h := (i + 1)) rfl Try.underlying9 rfl rfl rfl (by omega) (by omega) rfl)) rfl ?_
                    refine dc_cons (r := ⟨_, some [926], []⟩) (DStep.plain rfl (fun H1 hH => by exact (by first | exact opd_field_ref rfl fo101_0 rfl ((hH _ rfl).trans rfl) rfl rfl | exact opd_field_pad rfl fo101_0 rfl rfl))) rfl ?_
                    refine dc_cons (r := ⟨_, some [926], []⟩) (DStep.plain rfl (fun H1 hH => by exact (by first | exact opd_field_ref rfl fo78_0 rfl ((hH _ rfl).trans rfl) rfl rfl | exact opd_field_pad rfl fo78_0 rfl rfl))) rfl ?_
                    refine dc_cons (r := ⟨_, some [926], [_]⟩) (DStep.plain rfl (fun H1 hH => by exact (by first | exact x_store_all rfl Try.sizeOf3 rfl rfl rfl rfl ((hH _ rfl).trans rfl) rfl rfl rfl | exact x_store1 rfl Try.sizeOf3 rfl rfl rfl ((hH _ rfl).trans rfl) rfl rfl (by simp only [List.length_cons, List.length_nil]; omega) (by simp only [List.drop_succ_cons, List.drop_zero, List.take_succ_cons, List.take_zero, List.take_nil, List.map_cons, List.map_nil, List.set_cons_zero, List.set_cons_succ, List.cons_append, List.nil_append, encFound]; rfl) (by simp only [List.drop_succ_cons, List.drop_zero, List.take_succ_cons, List.take_zero, List.take_nil, List.map_cons, List.map_nil, List.set_cons_zero, List.set_cons_succ, List.cons_append, List.nil_append, encFound]; rfl) | exact x_store1 rfl Try.sizeOf3 rfl rfl rfl ((hH _ rfl).trans rfl) rfl rfl (Nat.le_of_ble_eq_true rfl) rfl rfl))) rfl ?_
                    refine dc_cons (r := ⟨_, some [926], []⟩) (DStep.plain rfl (fun H1 hH => by exact (by first | exact opd_field_ref rfl fo101_0 rfl ((hH _ rfl).trans rfl) rfl rfl | exact opd_field_pad rfl fo101_0 rfl rfl))) rfl ?_
                    refine dc_cons (r := ⟨_, some [926], []⟩) (DStep.plain rfl (fun H1 hH => by exact (by first | exact opd_field_ref rfl fo78_1 rfl ((hH _ rfl).trans rfl) rfl rfl | exact opd_field_pad rfl fo78_1 rfl rfl))) rfl ?_
                    refine dc_cons (r := ⟨_, some [926], [_]⟩) (DStep.plain rfl (fun H1 hH => by exact (by first | exact x_store_all rfl Try.sizeOf9 rfl rfl rfl rfl ((hH _ rfl).trans rfl) rfl rfl rfl | exact x_store1 rfl Try.sizeOf9 rfl rfl rfl ((hH _ rfl).trans rfl) rfl rfl (by simp only [List.length_cons, List.length_nil]; omega) (by simp only [List.drop_succ_cons, List.drop_zero, List.take_succ_cons, List.take_zero, List.take_nil, List.map_cons, List.map_nil, List.set_cons_zero, List.set_cons_succ, List.cons_append, List.nil_append, encFound]; rfl) (by simp only [List.drop_succ_cons, List.drop_zero, List.take_succ_cons, List.take_zero, List.take_nil, List.map_cons, List.map_nil, List.set_cons_zero, List.set_cons_succ, List.cons_append, List.nil_append, encFound]; rfl) | exact x_store1 rfl Try.sizeOf9 rfl rfl rfl ((hH _ rfl).trans rfl) rfl rfl (Nat.le_of_ble_eq_true rfl) rfl rfl))) rfl ?_
                    refine dc_cons (r := ⟨_, some [926], []⟩) (DStep.plain rfl (fun H1 hH => by exact (by first | exact opd_field_ref rfl fo101_1 rfl ((hH _ rfl).trans rfl) rfl rfl | exact opd_field_pad rfl fo101_1 rfl rfl))) rfl ?_
                    refine dc_cons (r := ⟨_, some [926], [_]⟩) (DStep.plain rfl (fun H1 hH => by exact (by first | exact x_store_all rfl Try.sizeOf25 rfl rfl rfl rfl ((hH _ rfl).trans rfl) rfl rfl rfl | exact x_store1 rfl Try.sizeOf25 rfl rfl rfl ((hH _ rfl).trans rfl) rfl rfl (by simp only [List.length_cons, List.length_nil]; omega) (by simp only [List.drop_succ_cons, List.drop_zero, List.take_succ_cons, List.take_zero, List.take_nil, List.map_cons, List.map_nil, List.set_cons_zero, List.set_cons_succ, List.cons_append, List.nil_append, encFound]; rfl) (by simp only [List.drop_succ_cons, List.drop_zero, List.take_succ_cons, List.take_zero, List.take_nil, List.map_cons, List.map_nil, List.set_cons_zero, List.set_cons_succ, List.cons_append, List.nil_append, encFound]; rfl) | exact x_store1 rfl Try.sizeOf25 rfl rfl rfl ((hH _ rfl).trans rfl) rfl rfl (Nat.le_of_ble_eq_true rfl) rfl rfl))) rfl ?_
                    refine dc_nil ⟨by kernel_rfl, ?_⟩
                    -- end of the piece
                    exact ⟨(⟨4, s.extract i (i + 1), i, 0⟩, i + 1), hst, Ent.get' ⟨⟨_, rfl, rfl⟩, ⟨_, rfl, rfl⟩, ⟨_, rfl, rfl⟩, ⟨_, rfl, rfl⟩, ⟨_, rfl, rfl⟩, trivial⟩ (fun q => get_dups [_, _, _] (by simp) q)⟩
                  · have n6 : atC s i ≠ 6 := of_decide_eq_false hc13
                    have hst : gStep s i = (some (noTok i), i) := by rw [gStep, if_neg n1, if_neg n2, if_neg n3, if_neg n4, if_neg n7, if_neg n6]
                    refine awp_skip ?_
                    -- end of the piece
                    exact ⟨(noTok i, i), hst, Ent.e0 ⟨⟨_, rfl, rfl⟩, ⟨_, rfl, rfl⟩, ⟨_, rfl, rfl⟩, ⟨_, rfl, rfl⟩, ⟨_, rfl, rfl⟩, trivial⟩⟩
      · rintro ⟨f, j⟩ hst
        rw [hst] at hinv
        simp only at hinv hst
        obtain ⟨hk1, hk2⟩ := head_of hinv
        have hkl := (List.getElem?_eq_some_iff.1 hk1).1
        have hkm2 : k < m := by
          rcases Nat.lt_or_ge k m with h | h
          · exact h
          · have hkem : k = m := Nat.le_antisymm hkm h
            subst hkem
            rcases hend with h | ⟨h, h'⟩
            · omega
            · rcases hkc with h2 | h2
              · omega
              · rw [h2] at h'; cases h'
        have hstop : ds.length = k + 1 ∨ cont k = false → k + 1 = m := fun h => by
          rcases h with h | h
          · omega
          · rcases Nat.lt_or_ge (k + 1) m with h3 | h3
            · rw [hall k h3] at h; cases h
            · omega
        have hyk := hy k f hk1 hkm2
        cases hck : cont k with
        | false =>
          have hkk := hstop (.inr hck)
          rw [hck] at hyk
          refine awp_seq ?_
          refine awp_region ?_
          refine al_d rfl rfl rfl (by exact opd_move rfl rfl) ?_
          refine al_d rfl rfl rfl (by exact (by first | exact opd_loadn_ref rfl Try.isAgg101 Try.sizeOf101 rfl rfl rfl rfl rfl rfl | exact opd_loadn_pad rfl Try.isAgg101 Try.sizeOf101 rfl (by first | omega | assumption) rfl rfl)) ?_
          refine al_d rfl rfl rfl (by exact opr_callV rfl rfl rfl (hyk)) ?_
          refine al_d rfl rfl rfl (by exact opd_not rfl rfl) ?_
          refine al_d rfl rfl rfl (by exact opd_move rfl rfl) ?_
          refine al_off rfl rfl rfl (by first | rfl | assumption) rfl ?_
          refine al_off rfl rfl rfl (by first | rfl | assumption) rfl ?_
          refine al_off rfl rfl rfl (by first | rfl | assumption) rfl ?_
          refine al_d rfl rfl rfl (by exact (by first | exact opd_pick_t rfl rfl rfl | exact opd_pick_f rfl rfl rfl | exact opd_pickt rfl rfl (by assumption) rfl | exact opd_pickf rfl rfl (by assumption) rfl | exact opd_pick rfl rfl rfl)) ?_
          refine al_nil ?_
          refine awp_cond rfl (fun hc14 => ?_) (fun hc14 => ?_)
          -- cond 14
          · skip
            refine awp_ret ?_
            -- return
            rw [← hkk]
            exact aret0 (H' := Hs (k + 1)) (.inr rfl) rfl (Fin.pops' [(926, tF f)] (by simp) (hcl _) (by simp [h6]) (by simp [h6])) ⟨rfl, rfl⟩
          · skip
            cases hc14
        | true =>
          rw [hck] at hyk
          refine awp_seq ?_
          refine awp_region ?_
          refine al_d rfl rfl rfl (by exact opd_move rfl rfl) ?_
          refine al_d rfl rfl rfl (by exact (by first | exact opd_loadn_ref rfl Try.isAgg101 Try.sizeOf101 rfl rfl rfl rfl rfl rfl | exact opd_loadn_pad rfl Try.isAgg101 Try.sizeOf101 rfl (by first | omega | assumption) rfl rfl)) ?_
          refine al_d rfl rfl rfl (by exact opr_callV rfl rfl rfl (hyk)) ?_
          refine al_d rfl rfl rfl (by exact opd_not rfl rfl) ?_
          refine al_d rfl rfl rfl (by exact opd_move rfl rfl) ?_
          refine al_ond rfl rfl rfl (by first | rfl | assumption) rfl rfl (by exact (by first | exact opd_field_ref rfl fo101_1 rfl rfl rfl rfl | exact opd_field_pad rfl fo101_1 rfl rfl)) ?_
          refine al_ond rfl rfl rfl (by first | rfl | assumption) rfl rfl (by exact (by first | exact opd_load1_ref rfl Try.isAgg25 rfl rfl rfl rfl rfl | exact opd_load1_pad rfl Try.isAgg25 rfl (by first | omega | assumption) rfl)) ?_
          refine al_ond rfl rfl rfl (by first | rfl | assumption) rfl rfl (by exact opd_neq rfl rfl rfl) ?_
          refine al_d rfl rfl rfl (by exact (by first | exact opd_pick_t rfl rfl rfl | exact opd_pick_f rfl rfl rfl | exact opd_pickt rfl rfl (by assumption) rfl | exact opd_pickf rfl rfl (by assumption) rfl | exact opd_pick rfl rfl rfl)) ?_
          refine al_nil ?_
          refine awp_cond rfl (fun hc15 => ?_) (fun hc15 => ?_)
          -- cond 15
          · have hne : f.err ≠ 0 := by
              have h := hc15
              simpa using h
            rw [if_neg hne] at hk2
            have hkk := hstop (.inl (by have := List.drop_eq_nil_iff.1 hk2; omega))
            refine awp_ret ?_
            -- return
            rw [← hkk]
            exact aret0 (H' := Hs (k + 1)) (.inr rfl) rfl (Fin.pops' [(926, tF f)] (by simp) (hcl _) (by simp [h6]) (by simp [h6])) ⟨rfl, rfl⟩
          · have he0 : f.err = 0 := by
              have h := hc15
              simpa using h
            obtain ⟨g1, g2⟩ := step_go hst he0 hlt
            rw [if_pos he0] at hk2
            refine awp_skip ?_
            -- end of a round
            exact ⟨j, k + 1, ⟨g2, hkm2, .inr hck, n, by omega, hk2⟩, by omega, hfree _ _ _ _ _ rfl rfl rfl rfl rfl⟩
    · have hge : s.size ≤ i := by have := of_decide_eq_false hc1; omega
      have hnil : gToks s n i = [] := by
        cases n with
        | zero => rfl
        | succ n => rw [gToks, if_neg (by omega)]
      rw [hnil] at hinv
      have hkd := List.drop_eq_nil_iff.1 hinv
      have hkk : k = m := by omega
      refine awp_exit ?_
      -- end of the body
      rw [← hkk]
      exact aret0 (H' := Hs k) (.inl rfl) rfl Fin.refl ⟨rfl, rfl⟩
end Go.Proofs.Ytedfihgkopejcaa
end
