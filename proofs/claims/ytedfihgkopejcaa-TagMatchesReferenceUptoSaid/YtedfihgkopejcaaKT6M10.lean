/-
  CONTRACTS: planisphereref09.Merge: the same as tag.Merge. Conditions: lengths below 2^36.
  THE LAW planispherelaw09.TagMatchesReference: it answers true. Conditions: sizes below 2^36.
-/
import Derived.Test.YtedfihgkopejcaaKT6M9
section
set_option linter.unusedVariables false
set_option linter.unusedSimpArgs false
set_option maxRecDepth 100000
namespace Go.Proofs.Ytedfihgkopejcaa
open Go.Abs

theorem put_keys {l : List GTag} {key val : ByteArray} (ha : asc GTag.key l) (hv : val ≠ sNil) : asc GTag.key (rPut09 l key val) ∧ (∀ k, k ∈ (rPut09 l key val).map GTag.key ↔ k = key ∨ k ∈ l.map GTag.key) ∧ (rPut09 l key val).length ≤ l.length + 1 := by
  rw [put09_eq ha]
  by_cases h2 : hasK GTag.key l key = true
  · rw [if_pos h2, if_neg hv]
    obtain ⟨y, hy, hye⟩ := hasK_get (f := GTag.key) ha h2
    have hlt := (List.getElem?_eq_some_iff.1 hy).1
    have hcut := cut9 hy
    refine ⟨asc_set ha hy hye, fun k => ?_, by rw [List.length_set]; omega⟩
    rw [List.set_eq_take_append_cons_drop, if_pos hlt]
    conv => rhs; rw [hcut]
    simp only [List.map_append, List.map_cons, List.mem_append, List.mem_cons]
    rw [hye]
    constructor
    · rintro (h | h | h)
      · exact .inr (.inl h)
      · exact .inl h
      · exact .inr (.inr (.inr h))
    · rintro (h | h | h | h)
      · exact .inr (.inl h)
      · exact .inl h
      · exact .inr (.inl h)
      · exact .inr (.inr h)
  · rw [if_neg h2, if_neg hv]
    have h2f : hasK GTag.key l key = false := by simpa using h2
    refine ⟨asc_ins (f := GTag.key) (o := ⟨key, val⟩) ha h2f, fun k => ?_, ?_⟩
    · conv => rhs; rw [← List.take_append_drop (lbI GTag.key l key) l]
      simp only [List.map_append, List.map_cons, List.mem_append, List.mem_cons]
      constructor
      · rintro (h | h | h)
        · exact .inr (.inl h)
        · exact .inl h
        · exact .inr (.inr h)
      · rintro (h | h | h)
        · exact .inr (.inl h)
        · exact .inl h
        · exact .inr (.inr h)
    · rw [List.length_append, List.length_cons, List.length_take, List.length_drop]
      omega
def keysF (l : List GTag) : List GTag := l.foldl (fun K t => rPut09 K t.key t.val) []
theorem keysF_snoc {l : List GTag} {i : Nat} {t : GTag} (h : l[i]? = some t) : keysF (l.take (i + 1)) = rPut09 (keysF (l.take i)) t.key t.val := by
  rw [keysF, take_snoc h, List.foldl_append]; rfl
theorem keysF_ok : ∀ (n : Nat) (l : List GTag), n ≤ l.length → (∀ t, t ∈ l → t.val ≠ sNil) → asc GTag.key (keysF (l.take n)) ∧ (∀ k, k ∈ (keysF (l.take n)).map GTag.key ↔ k ∈ (l.take n).map GTag.key) ∧ (keysF (l.take n)).length ≤ n
  | 0, l, _, _ => by
    rw [List.take_zero]
    exact ⟨List.Pairwise.nil, fun k => Iff.rfl, Nat.le_refl _⟩
  | n + 1, l, hn, hv => by
    obtain ⟨t, ht⟩ := get_of_lt (l := l) (k := n) (by omega)
    obtain ⟨h1, h2, h3⟩ := keysF_ok n l (by omega) hv
    obtain ⟨p1, p2, p3⟩ := put_keys (key := t.key) h1 (hv t (List.mem_of_getElem? ht))
    rw [keysF_snoc ht, take_snoc ht]
    refine ⟨p1, fun k => ?_, by omega⟩
    rw [p2, h2, List.map_append, List.mem_append]
    simp [or_comm]
theorem up_ext {a b : List ByteArray} (ha : a.Pairwise (fun x y => slt x y = true)) (hb : b.Pairwise (fun x y => slt x y = true)) (h : ∀ k, k ∈ a ↔ k ∈ b) : a = b := by
  have hp : a.Perm b := (List.perm_ext_iff_of_nodup (up_nodup ha) (up_nodup hb)).2 h
  refine List.Perm.eq_of_pairwise (fun x y _ _ h3 h4 => ?_) ha hb hp
  have := slt_trans h3 h4
  rw [slt_irr] at this; cases this
theorem keysF_all {b o t : List GTag} (hb : gTags b = true) (ho : gTags o = true) (ht : gTags t = true) : (keysF (b ++ o ++ t)).map GTag.key = keys3 b o t := by
  have hv : ∀ x, x ∈ b ++ o ++ t → x.val ≠ sNil := fun x hx => by
    rcases List.mem_append.1 hx with h | h
    · rcases List.mem_append.1 h with h | h
      · exact ((gTags_iff.1 hb).1 x h).2.1
      · exact ((gTags_iff.1 ho).1 x h).2.1
    · exact ((gTags_iff.1 ht).1 x h).2.1
  obtain ⟨h1, h2, _⟩ := keysF_ok (b ++ o ++ t).length (b ++ o ++ t) (Nat.le_refl _) hv
  rw [List.take_length] at h1 h2
  refine up_ext (List.pairwise_map.2 h1) (keys3_up b o t) fun k => ?_
  rw [h2, keys3_mem]
  simp [or_assoc]
/-- What the reference's loop does with a key. -/
def rStep (a : List GTag × List ByteArray) (p : M3) : List GTag × List ByteArray :=
  if (!decide ((m1 p).1 = ⟨#[]⟩) && decide (a.1.length = 60)) = true then (a.1, a.2 ++ [p.k]) else ((if (m1 p).1 = ⟨#[]⟩ then a.1 else a.1 ++ [⟨p.k, (m1 p).1⟩]), mConf a.2 p)
theorem rStep_eq {A : List GTag} {C : List ByteArray} {p : M3} (hA : A.length ≤ 60) (hC : p.k ∉ C) : rStep (A, C) p = mStep (A, C) p := by
  unfold rStep mStep
  dsimp only
  by_cases hv : (m1 p).1 = ⟨#[]⟩
  · rw [if_pos hv, if_pos hv, decide_eq_true hv]
    rfl
  · rw [if_neg hv, if_neg hv, decide_eq_false hv]
    by_cases h6 : A.length = 60
    · rw [decide_eq_true h6, if_pos (show (!false && true) = true from rfl), if_neg (by omega)]
      unfold mConf
      cases (m1 p).2 with
      | true =>
        rw [if_pos rfl, if_pos (inB_mem.2 (by simp))]
      | false =>
        have e : (if false = true then C ++ [p.k] else C) = C := if_neg (by decide)
        rw [e, if_neg (fun h => hC (inB_mem.1 h))]
    · rw [decide_eq_false h6, if_neg (by decide), if_pos (by omega)]
theorem rFold_eq : ∀ (P : List M3) (A : List GTag) (C : List ByteArray), (P.map M3.k).Nodup → (∀ p, p ∈ P → p.k ∉ C) → A.length ≤ 60 → P.foldl rStep (A, C) = P.foldl mStep (A, C)
  | [], _, _, _, _, _ => rfl
  | p :: P, A, C, hd, hC, hA => by
    rw [List.map_cons, List.nodup_cons] at hd
    rw [List.foldl_cons, List.foldl_cons, rStep_eq hA (hC p List.mem_cons_self)]
    have hs : (mStep (A, C) p).1.length ≤ 60 ∧ ∀ k, k ∈ (mStep (A, C) p).2 → k ∈ C ∨ k = p.k := by
      have hcf : ∀ k, k ∈ mConf C p → k ∈ C ∨ k = p.k := fun k hk => by
        unfold mConf at hk
        split at hk
        · rcases List.mem_append.1 hk with h | h
          · exact .inl h
          · rw [List.mem_singleton] at h; exact .inr h
        · exact .inl hk
      unfold mStep
      dsimp only
      split
      · exact ⟨hA, hcf⟩
      · split
        · exact ⟨by rw [List.length_append, List.length_singleton]; omega, hcf⟩
        · split
          · exact ⟨hA, hcf⟩
          · refine ⟨hA, fun k hk => ?_⟩
            rcases List.mem_append.1 hk with h | h
            · exact hcf k h
            · rw [List.mem_singleton] at h; exact .inr h
    obtain ⟨A', C', hAC⟩ : ∃ A' C', mStep (A, C) p = (A', C') := ⟨_, _, rfl⟩
    rw [hAC] at hs ⊢
    refine rFold_eq P A' C' hd.2 (fun q hq hin => ?_) hs.1
    rcases hs.2 q.k hin with h | h
    · exact hC q (List.mem_cons_of_mem _ hq) h
    · exact hd.1 (h ▸ List.mem_map.2 ⟨q, hq, rfl⟩)
/-- The merge, as the reference has it. -/
theorem merge_ref {b o t : List GTag} (hb : gTags b = true) (ho : gTags o = true) (ht : gTags t = true) : gMerge b o t = ((keys3 b o t).map (at3 b o t)).foldl rStep ([], []) := by
  have hall : (gTags b && gTags o && gTags t) = true := by rw [hb, ho, ht]; rfl
  rw [gMerge, if_pos hall, srt3_eq (gTags_iff.1 hb).2.1 (gTags_iff.1 ho).2.1 (gTags_iff.1 ht).2.1]
  refine (rFold_eq _ [] [] ?_ (fun p _ h => by cases h) (by decide)).symm
  rw [List.map_map]
  have e : (M3.k ∘ at3 b o t) = id := rfl
  rw [e, List.map_id]
  exact up_nodup (keys3_up b o t)
theorem tgRows_apps (A l : List GTag) : tgRows A ++ (l.map encTag).map (·.map AV.pv) = tgRows (A ++ l) := by rw [tgRows, tgRows, List.map_append, List.map_map]; rfl
theorem encTag_rl9 (l : List GTag) : ∀ r ∈ l.map encTag, r.length = 2 := fun r hr => by
  obtain ⟨t, _, rfl⟩ := List.mem_map.1 hr
  rfl
theorem merge09_c (b o t : List GTag) (H : Heap) (hb : szT b) (ho : szT o) (ht : szT t) : ACalls Try.prog 14 [.pv (slTags b), .pv (slTags o), .pv (slTags t)] H (fun r H' => r = .tup [.pv (slTags (gMerge b o t).1), .pv (slStrs (gMerge b o t).2)] ∧ H' = H) := by
  refine ACalls.pure ?_ (by simp) H
  have hb2 := hb.2
  have ho2 := ho.2
  have ht2 := ht.2
  refine ACalls.body Try.func14 rfl Try.ntmps14 (Nat.le_of_ble_eq_true rfl) ?_
  refine awp_seq ?_
  refine awp_region ?_
  refine al_d rfl rfl rfl (by exact opd_assign rfl rfl) ?_
  refine al_d rfl rfl rfl (by exact opd_assign rfl rfl) ?_
  refine al_nil ?_
  refine awp_seq ?_
  refine awp_seq ?_
  refine awp_bool (t := 29) (n := 15) (X := !gTags b || !gTags o || !gTags t) ?_ ?_
  · all_goals (refine al_d rfl rfl rfl (by exact opd_move rfl rfl) ?_)
    all_goals (refine al_d rfl rfl rfl (by exact opr_call rfl rfl Try.call24 rfl (rValid09_c b _ hb.1)) ?_)
    all_goals (refine al_d rfl rfl rfl (by exact opd_not rfl rfl) ?_)
    all_goals (refine al_d rfl rfl rfl (by exact opd_move rfl rfl) ?_)
    all_goals (refine al_split (t := 20) rfl (fun h20 => ?_) (fun h20 => ?_))
    all_goals (try contradiction)
    all_goals (first | refine al_off rfl rfl rfl rfl rfl ?_ | refine al_ond rfl rfl rfl rfl rfl rfl (by exact opd_move rfl rfl) ?_)
    all_goals (first | refine al_off rfl rfl rfl rfl rfl ?_ | refine al_ond rfl rfl rfl rfl rfl rfl (by exact opr_call rfl rfl Try.call24 rfl (rValid09_c o _ ho.1)) ?_)
    all_goals (first | refine al_off rfl rfl rfl rfl rfl ?_ | refine al_ond rfl rfl rfl rfl rfl rfl (by exact opd_not rfl rfl) ?_)
    all_goals (refine al_d rfl rfl rfl (by exact (by first | exact opd_pick_t rfl rfl rfl | exact opd_pick_f rfl rfl rfl)) ?_)
    all_goals (refine al_d rfl rfl rfl (by exact opd_move rfl rfl) ?_)
    all_goals (refine al_split (t := 25) rfl (fun h25 => ?_) (fun h25 => ?_))
    all_goals (try contradiction)
    all_goals (first | refine al_off rfl rfl rfl rfl rfl ?_ | refine al_ond rfl rfl rfl rfl rfl rfl (by exact opd_move rfl rfl) ?_)
    all_goals (first | refine al_off rfl rfl rfl rfl rfl ?_ | refine al_ond rfl rfl rfl rfl rfl rfl (by exact opr_call rfl rfl Try.call24 rfl (rValid09_c t _ ht.1)) ?_)
    all_goals (first | refine al_off rfl rfl rfl rfl rfl ?_ | refine al_ond rfl rfl rfl rfl rfl rfl (by exact opd_not rfl rfl) ?_)
    all_goals (refine al_d rfl rfl rfl (by exact (by first | exact opd_pick_t rfl rfl rfl | exact opd_pick_f rfl rfl rfl)) ?_)
    all_goals (refine al_nil ?_)
    all_goals (exact ⟨⟨_, rfl, by (simp only [*, Bool.false_and, Bool.true_and, Bool.and_false, Bool.and_true, Bool.true_or, Bool.false_or, Bool.or_true, Bool.or_false, Bool.not_true, Bool.not_false]; done)⟩, rfl, rfl, rfl⟩)
  refine awp_cond rfl (fun hc1 => ?_) (fun hc1 => ?_)
  -- cond 1
  · have e : gMerge b o t = ([], []) := merge_bad (by
      cases h1 : gTags b <;> cases h2 : gTags o <;> cases h3 : gTags t <;> simp_all)
    rw [e]
    refine awp_seq ?_
    refine awp_region ?_
    refine al_d rfl rfl rfl (by exact opd_assign rfl rfl) ?_
    refine al_d rfl rfl rfl (by exact opd_assign rfl rfl) ?_
    refine al_nil ?_
    refine awp_ret ?_
    -- return
    refine aret2 (H' := []) (by exact .inr rfl) rfl (rval_tmp rfl) (rval_tmp rfl) (Fin.wk (by simp) trivial trivial) ?_
    exact ⟨rfl, rfl⟩
  · have h := hc1
    simp only [Bool.or_eq_false_iff, Bool.not_eq_false'] at h
    obtain ⟨⟨hB, hO⟩, hT⟩ := h
    have hM := merge_ref hB hO hT
    obtain ⟨all, hall⟩ : ∃ all, all = b ++ o ++ t := ⟨_, rfl⟩
    have hlen : all.length = b.length + o.length + t.length := by rw [hall, List.length_append, List.length_append]
    have hv : ∀ x, x ∈ all → x.val ≠ sNil := fun x hx => by
      rw [hall] at hx
      rcases List.mem_append.1 hx with h | h
      · rcases List.mem_append.1 h with h | h
        · exact ((gTags_iff.1 hB).1 x h).2.1
        · exact ((gTags_iff.1 hO).1 x h).2.1
      · exact ((gTags_iff.1 hT).1 x h).2.1
    have hkey := keysF_all hB hO hT
    rw [← hall] at hkey
    rw [hM]
    refine awp_skip ?_
    refine awp_seq ?_
    refine awp_region ?_
    refine al_d rfl rfl rfl (by exact x_buildSlice_own (id := 905) rfl so22 rfl rfl rfl rfl (by simp) rfl) ?_
    refine al_d rfl rfl rfl (by exact opd_move rfl rfl) ?_
    refine al_d rfl rfl rfl (by exact x_append (ps := b.map encTag) rfl so22 ei46 rfl rfl rfl rfl rfl rfl rfl (encTag_rl9 b) (m := b.length) (List.length_map _) (by omega) (Nat.zero_add _) (tgRows_apps [] b)) ?_
    refine al_d rfl rfl rfl (by exact opd_move rfl rfl) ?_
    refine al_d rfl rfl rfl (by exact x_append (ps := o.map encTag) rfl so22 ei46 rfl rfl rfl rfl rfl (tgRows_len _) rfl (encTag_rl9 o) (m := o.length) (List.length_map _) (by omega) rfl (tgRows_apps b o)) ?_
    refine al_d rfl rfl rfl (by exact opd_move rfl rfl) ?_
    refine al_d rfl rfl rfl (by exact x_append (ps := t.map encTag) rfl so22 ei46 rfl rfl rfl rfl rfl ((tgRows_len _).trans (List.length_append)) rfl (encTag_rl9 t) (m := t.length) (List.length_map _) (by omega) rfl (tgRows_apps (b ++ o) t)) ?_
    refine al_d rfl rfl rfl (by exact opd_assign rfl rfl) ?_
    refine al_nil ?_
    refine awp_seq ?_
    -- before the slot
    refine AWp.ent (Ent.fz (id := 905) (E' := [(0, .pv (slTags b)), (1, .pv (slTags o)), (2, .pv (slTags t)), (8, .pv (slTags all))]) (H' := []) (all.map encTag) rfl (by rw [hall, List.map_map]; rfl)
      (by intro q hq; simp only [List.mem_cons, List.not_mem_nil, or_false] at hq; rcases hq with rfl | rfl | rfl | rfl; exact ⟨_, rfl, .same (.pv _)⟩; exact ⟨_, rfl, .same (.pv _)⟩; exact ⟨_, rfl, .same (.pv _)⟩; exact ⟨_, rfl, .osl (by rw [Nat.zero_add, List.drop_zero, List.take_of_length_le (by rw [List.length_map, hlen]; exact Nat.le_refl _)])⟩) rfl trivial trivial) ?_
    have hml : (all.map encTag).length = all.length := List.length_map _
    refine awp_region ?_
    refine al_d rfl rfl rfl (by exact opd_assign rfl rfl) ?_
    refine al_nil ?_
    refine awp_seq ?_
    refine awp_seq ?_
    refine awp_region ?_
    refine al_d rfl rfl rfl (by exact opd_assign rfl rfl) ?_
    refine al_nil ?_
    refine awp_block ?_
    -- loop
    refine awp_loop (σ := Nat) (fun k => ([(0, .pv (slTags b)), (1, .pv (slTags o)), (2, .pv (slTags t)), (8, .pv (slTags all)), (9, .pv (slTags (keysF (all.take k)))), (10, iv (k : Int))], [])) (fun k => k ≤ all.length) (fun k => all.length - k) 0 (Nat.zero_le _) ?_ ?_
    · exact Ent.e0 ⟨⟨_, rfl, rfl⟩, ⟨_, rfl, rfl⟩, ⟨_, rfl, rfl⟩, ⟨_, rfl, rfl⟩, ⟨_, rfl, rfl⟩, ⟨_, rfl, rfl⟩, trivial⟩
    · intro k hk
      refine awp_seq ?_
      refine awp_seq ?_
      refine awp_region ?_
      refine al_d rfl rfl rfl (by exact opd_move rfl rfl) ?_
      refine al_d rfl rfl rfl (by exact opd_move rfl rfl) ?_
      refine al_d rfl rfl rfl (by exact (by exact opd_len_sl rfl Try.underlying22 rfl)) ?_
      refine al_d rfl rfl rfl (by exact opd_lss rfl rfl rfl) ?_
      refine al_nil ?_
      refine awp_cond rfl (fun hc2 => ?_) (fun hc2 => ?_)
      -- cond 2
      · have hlt : k < all.length := by have := of_decide_eq_true hc2; omega
        obtain ⟨g, hg⟩ := get_of_lt hlt
        have hi := map_get (f := encTag) hg
        obtain ⟨_, _, hkl⟩ := keysF_ok k all hk hv
        refine awp_skip ?_
        refine awp_seq ?_
        refine awp_block ?_
        refine awp_drawc follows ?_
        refine dc_cons (DStep.q rfl (by exact opd_move rfl rfl)) rfl ?_
        refine dc_cons (DStep.q rfl (by exact opd_move rfl rfl)) rfl ?_
        refine dc_cons (DStep.q rfl (by exact opd_move rfl rfl)) rfl ?_
        refine dc_cons (DStep.q rfl (by exact (by exact x_index_pad rfl so22 rfl rfl (by omega) (by exact Int.toNat_natCast _) hi rfl))) rfl ?_
        refine dc_cons (DStep.q rfl (by exact (by exact opd_field_pad rfl fo46_0 rfl rfl))) rfl ?_
        refine dc_cons (DStep.q rfl (by exact (by exact opd_load1_pad rfl Try.isAgg9 rfl hi rfl))) rfl ?_
        refine dc_cons (DStep.q rfl (by exact opd_move rfl rfl)) rfl ?_
        refine dc_cons (DStep.q rfl (by exact opd_move rfl rfl)) rfl ?_
        refine dc_cons (DStep.q rfl (by exact (by exact x_index_pad rfl so22 rfl rfl (by omega) (by exact Int.toNat_natCast _) hi rfl))) rfl ?_
        refine dc_cons (DStep.q rfl (by exact (by exact opd_field_pad rfl fo46_1 rfl rfl))) rfl ?_
        refine dc_cons (DStep.q rfl (by exact (by exact opd_load1_pad rfl Try.isAgg9 rfl hi rfl))) rfl ?_
        refine dc_cons (DStep.q rfl (by exact opr_call rfl rfl Try.call34 rfl (rPut09_c (keysF (all.take k)) g.key g.val _ (by omega)))) rfl ?_
        refine dc_cons (DStep.q rfl (by exact opd_assign rfl rfl)) rfl ?_
        refine dc_nil ⟨by kernel_rfl, ?_⟩
        refine awp_region ?_
        refine al_d rfl rfl rfl (by exact opd_move rfl rfl) ?_
        refine al_d rfl rfl rfl (by exact opd_add rfl rfl rfl (by exact w64 (by omega) (by omega))) ?_
        refine al_d rfl rfl rfl (by exact opd_assign rfl rfl) ?_
        refine al_nil ?_
        -- end of a round
        refine ⟨k + 1, hlt, by omega, ?_⟩
        dsimp only
        rw [keysF_snoc hg]
        exact Ent.e0 ⟨⟨_, rfl, rfl⟩, ⟨_, rfl, rfl⟩, ⟨_, rfl, rfl⟩, ⟨_, rfl, rfl⟩, ⟨_, rfl, rfl⟩, ⟨_, rfl, rfl⟩, trivial⟩
      · have hge : k = all.length := by have := of_decide_eq_false hc2; omega
        subst hge
        rw [List.take_length]
        obtain ⟨K, hK⟩ : ∃ K, K = keysF all := ⟨_, rfl⟩
        have hKl : K.length ≤ all.length := by
          have := (keysF_ok all.length all (Nat.le_refl _) hv).2.2
          rwa [List.take_length, ← hK] at this
        rw [← hK] at hkey ⊢
        have hmk : (K.map encTag).length = K.length := List.length_map _
        refine awp_exit ?_
        refine awp_seq ?_
        refine awp_region ?_
        refine al_d rfl rfl rfl (by exact opd_assign_own (id := 905) (sz := 2) (ty := 46) rfl rfl rfl) ?_
        refine al_nil ?_
        refine awp_seq ?_
        refine awp_region ?_
        refine al_d rfl rfl rfl (by exact opd_assign_own (id := 906) (sz := 1) (ty := 9) rfl rfl rfl) ?_
        refine al_nil ?_
        refine awp_seq ?_
        refine awp_seq ?_
        refine awp_region ?_
        refine al_d rfl rfl rfl (by exact opd_assign rfl rfl) ?_
        refine al_nil ?_
        refine awp_block ?_
        -- loop
        refine awp_loop (σ := Nat) (fun k => ([(0, .pv (slTags b)), (1, .pv (slTags o)), (2, .pv (slTags t)), (9, .pv (slTags K)), (13, iv (k : Int)), (11, .osl 905 ((((keys3 b o t).map (at3 b o t)).take k).foldl rStep ([], [])).1.length 0 ((((keys3 b o t).map (at3 b o t)).take k).foldl rStep ([], [])).1.length), (12, .osl 906 ((((keys3 b o t).map (at3 b o t)).take k).foldl rStep ([], [])).2.length 0 ((((keys3 b o t).map (at3 b o t)).take k).foldl rStep ([], [])).2.length)], [(905, ⟨((((keys3 b o t).map (at3 b o t)).take k).foldl rStep ([], [])).1.length, 2, 46, tgRows ((((keys3 b o t).map (at3 b o t)).take k).foldl rStep ([], [])).1⟩), (906, ⟨((((keys3 b o t).map (at3 b o t)).take k).foldl rStep ([], [])).2.length, 1, 9, wRows ((((keys3 b o t).map (at3 b o t)).take k).foldl rStep ([], [])).2⟩)])) (fun k => k ≤ K.length ∧ ((((keys3 b o t).map (at3 b o t)).take k).foldl rStep ([], [])).1.length ≤ k ∧ ((((keys3 b o t).map (at3 b o t)).take k).foldl rStep ([], [])).2.length ≤ k) (fun k => K.length - k) 0 ⟨Nat.zero_le _, Nat.le_refl _, Nat.le_refl _⟩ ?_ ?_
        · exact (Ent.wk ⟨⟨_, rfl, rfl⟩, (by (simp; done)), ⟨_, rfl, rfl⟩, (by (simp; done)), ⟨_, rfl, rfl⟩, (by (simp; done)), ⟨_, rfl, rfl⟩, (by (simp; done)), ⟨_, rfl, rfl⟩, (by (simp; done)), ⟨_, rfl, rfl⟩, (by (simp; rfl)), ⟨_, rfl, rfl⟩, (by (simp; rfl)), trivial⟩ ⟨⟨_, rfl, rfl⟩, (by exact tgRows_clo _ _), ⟨_, rfl, rfl⟩, (by exact wRows_clo _ _), trivial⟩ trivial)
        · rintro k ⟨hk, hkA, hkC⟩
          obtain ⟨A, C, hAC⟩ : ∃ A C, ((((keys3 b o t).map (at3 b o t)).take k).foldl rStep ([], [])) = (A, C) := ⟨_, _, rfl⟩
          rw [hAC] at hkA hkC ⊢
          dsimp only at hkA hkC
          refine awp_seq ?_
          refine awp_seq ?_
          refine awp_region ?_
          refine al_d rfl rfl rfl (by exact opd_move rfl rfl) ?_
          refine al_d rfl rfl rfl (by exact opd_move rfl rfl) ?_
          refine al_d rfl rfl rfl (by exact (by exact opd_len_sl rfl Try.underlying22 rfl)) ?_
          refine al_d rfl rfl rfl (by exact opd_lss rfl rfl rfl) ?_
          refine al_nil ?_
          refine awp_cond rfl (fun hc3 => ?_) (fun hc3 => ?_)
          -- cond 3
          · have hlt : k < K.length := by have := of_decide_eq_true hc3; omega
            obtain ⟨g, hg⟩ := get_of_lt hlt
            have hi := map_get (f := encTag) hg
            have hsp : ((keys3 b o t).map (at3 b o t))[k]? = some (at3 b o t g.key) := by rw [← hkey, List.getElem?_map, List.getElem?_map, hg]; rfl
            have hnext : ((((keys3 b o t).map (at3 b o t)).take (k + 1)).foldl rStep ([], [])) = rStep (A, C) (at3 b o t g.key) := by rw [take_snoc hsp, List.foldl_append, hAC]; rfl
            obtain ⟨v, f, hvf⟩ : ∃ v f, m1 (at3 b o t g.key) = (v, f) := ⟨_, _, rfl⟩
            have hone := fun H => one09_c b o t g.key H (by omega) (by omega) (by omega)
            simp only [hvf] at hone
            have hst : rStep (A, C) (at3 b o t g.key) = if (!decide (v = ⟨#[]⟩) && decide (A.length = 60)) = true then (A, C ++ [g.key]) else ((if v = ⟨#[]⟩ then A else A ++ [⟨g.key, v⟩]), if f then C ++ [g.key] else C) := by
              rw [rStep, mConf, hvf]; rfl
            rw [hst] at hnext
            have hP1 : ((A, C) : List GTag × List ByteArray).1.length = A.length := rfl
            have hP2 : ((A, C) : List GTag × List ByteArray).2.length = C.length := rfl
            have hnn : (!decide ((⟨#[]⟩ : ByteArray) = ⟨#[]⟩)) = false := by simp
            by_cases hv0 : v = ⟨#[]⟩
            · have d0 : (!decide (v = ⟨#[]⟩)) = false := by rw [decide_eq_true hv0]; rfl
              rw [decide_eq_true hv0, if_neg (show ¬ (!true && decide (A.length = 60)) = true by simp), if_pos hv0] at hnext
              cases f with
              | true =>
                rw [if_pos rfl] at hnext
                refine awp_skip ?_
                refine awp_seq ?_
                refine awp_block ?_
                refine awp_seq ?_
                refine awp_region ?_
                refine al_d rfl rfl rfl (by exact opd_move rfl rfl) ?_
                refine al_d rfl rfl rfl (by exact opd_move rfl rfl) ?_
                refine al_d rfl rfl rfl (by exact (by exact x_index_pad rfl so22 rfl rfl (by omega) (by exact Int.toNat_natCast _) hi rfl)) ?_
                refine al_d rfl rfl rfl (by exact (by exact opd_field_pad rfl fo46_0 rfl rfl)) ?_
                refine al_d rfl rfl rfl (by exact (by exact opd_load1_pad rfl Try.isAgg9 rfl hi rfl)) ?_
                refine al_d rfl rfl rfl (by exact opd_assign rfl rfl) ?_
                refine al_nil ?_
                refine awp_seq ?_
                refine awp_region ?_
                refine al_d rfl rfl rfl (by exact opd_move rfl rfl) ?_
                refine al_d rfl rfl rfl (by exact opd_move rfl rfl) ?_
                refine al_d rfl rfl rfl (by exact opd_move rfl rfl) ?_
                refine al_d rfl rfl rfl (by exact opd_move rfl rfl) ?_
                refine al_d rfl rfl rfl (by exact opr_call rfl rfl Try.call38 rfl (hone _)) ?_
                refine al_d rfl rfl rfl (by exact opd_move rfl rfl) ?_
                refine al_d rfl rfl rfl (by exact opd_extract rfl rfl rfl) ?_
                refine al_d rfl rfl rfl (by exact opd_extract rfl rfl rfl) ?_
                refine al_d rfl rfl rfl (by exact opd_assign rfl rfl) ?_
                refine al_d rfl rfl rfl (by exact opd_assign rfl rfl) ?_
                refine al_nil ?_
                refine awp_seq ?_
                refine awp_seq ?_
                refine awp_region ?_
                refine al_d rfl rfl rfl (by exact opd_move rfl rfl) ?_
                refine al_d rfl rfl rfl (by exact OpD.val (by exact opd_sneq rfl rfl rfl) (d0)) ?_
                refine al_d rfl rfl rfl (by exact opd_move rfl rfl) ?_
                refine al_off rfl rfl rfl (by rfl) rfl ?_
                refine al_off rfl rfl rfl (by rfl) rfl ?_
                refine al_off rfl rfl rfl (by rfl) rfl ?_
                refine al_d rfl rfl rfl (by exact (by exact opd_pick_f rfl rfl rfl)) ?_
                refine al_nil ?_
                refine awp_cond rfl (fun hc4 => ?_) (fun hc4 => ?_)
                -- cond 4
                · skip
                  ((cases hc4; done))
                · skip
                  refine awp_skip ?_
                  refine awp_seq ?_
                  refine awp_seq ?_
                  refine awp_region ?_
                  refine al_d rfl rfl rfl (by exact opd_move rfl rfl) ?_
                  refine al_d rfl rfl rfl (by exact OpD.val (by exact opd_sneq rfl rfl rfl) (d0)) ?_
                  refine al_nil ?_
                  refine awp_cond rfl (fun hc5 => ?_) (fun hc5 => ?_)
                  -- cond 5
                  · skip
                    ((cases hc5; done))
                  · skip
                    refine awp_skip ?_
                    refine awp_seq ?_
                    refine awp_region ?_
                    refine al_d rfl rfl rfl (by exact opd_move rfl rfl) ?_
                    refine al_nil ?_
                    refine awp_cond rfl (fun hc6 => ?_) (fun hc6 => ?_)
                    -- cond 6
                    · skip
                      refine awp_region ?_
                      refine al_d rfl rfl rfl (by exact opd_move rfl rfl) ?_
                      refine al_d rfl rfl rfl (by exact opd_move rfl rfl) ?_
                      refine al_d rfl rfl rfl (by exact (by exact x_buildSlice [[.str g.key]] rfl so28 rfl rfl rfl rfl rfl (by intro r hr; rw [List.mem_singleton] at hr; subst hr; rfl))) ?_
                      refine al_d rfl rfl rfl (by exact x_append (ps := [[.str g.key]]) rfl so28 ei9 rfl rfl rfl rfl rfl (wRows_len _) rfl (by intro r hr; rw [List.mem_singleton] at hr; subst hr; rfl) (m := 1) rfl (by omega) rfl (wRows_app _ g.key)) ?_
                      refine al_d rfl rfl rfl (by exact opd_assign rfl rfl) ?_
                      refine al_nil ?_
                      refine awp_region ?_
                      refine al_d rfl rfl rfl (by exact opd_move rfl rfl) ?_
                      refine al_d rfl rfl rfl (by exact opd_add rfl rfl rfl (by exact w64 (by omega) (by omega))) ?_
                      refine al_d rfl rfl rfl (by exact opd_assign rfl rfl) ?_
                      refine al_nil ?_
                      -- end of a round
                      refine ⟨k + 1, ?_, by omega, ?_⟩
                      · rw [hnext]
                        dsimp only
                        rw [List.length_append, List.length_singleton]
                        omega
                      · dsimp only
                        rw [hnext]
                        dsimp only
                        rw [List.length_append, List.length_singleton]
                        exact Ent.get' ⟨⟨_, rfl, rfl⟩, ⟨_, rfl, rfl⟩, ⟨_, rfl, rfl⟩, ⟨_, rfl, rfl⟩, ⟨_, rfl, rfl⟩, ⟨_, rfl, rfl⟩, ⟨_, rfl, rfl⟩, trivial⟩ (fun j => get_same [_, _] [_, _, _] (K := []) (by repeat (first | exact trivial | refine ⟨rfl, ?_⟩)) j)
                    · skip
                      ((cases hc6; done))
              | false =>
                rw [if_neg (by decide)] at hnext
                refine awp_skip ?_
                refine awp_seq ?_
                refine awp_block ?_
                refine awp_seq ?_
                refine awp_region ?_
                refine al_d rfl rfl rfl (by exact opd_move rfl rfl) ?_
                refine al_d rfl rfl rfl (by exact opd_move rfl rfl) ?_
                refine al_d rfl rfl rfl (by exact (by exact x_index_pad rfl so22 rfl rfl (by omega) (by exact Int.toNat_natCast _) hi rfl)) ?_
                refine al_d rfl rfl rfl (by exact (by exact opd_field_pad rfl fo46_0 rfl rfl)) ?_
                refine al_d rfl rfl rfl (by exact (by exact opd_load1_pad rfl Try.isAgg9 rfl hi rfl)) ?_
                refine al_d rfl rfl rfl (by exact opd_assign rfl rfl) ?_
                refine al_nil ?_
                refine awp_seq ?_
                refine awp_region ?_
                refine al_d rfl rfl rfl (by exact opd_move rfl rfl) ?_
                refine al_d rfl rfl rfl (by exact opd_move rfl rfl) ?_
                refine al_d rfl rfl rfl (by exact opd_move rfl rfl) ?_
                refine al_d rfl rfl rfl (by exact opd_move rfl rfl) ?_
                refine al_d rfl rfl rfl (by exact opr_call rfl rfl Try.call38 rfl (hone _)) ?_
                refine al_d rfl rfl rfl (by exact opd_move rfl rfl) ?_
                refine al_d rfl rfl rfl (by exact opd_extract rfl rfl rfl) ?_
                refine al_d rfl rfl rfl (by exact opd_extract rfl rfl rfl) ?_
                refine al_d rfl rfl rfl (by exact opd_assign rfl rfl) ?_
                refine al_d rfl rfl rfl (by exact opd_assign rfl rfl) ?_
                refine al_nil ?_
                refine awp_seq ?_
                refine awp_seq ?_
                refine awp_region ?_
                refine al_d rfl rfl rfl (by exact opd_move rfl rfl) ?_
                refine al_d rfl rfl rfl (by exact OpD.val (by exact opd_sneq rfl rfl rfl) (d0)) ?_
                refine al_d rfl rfl rfl (by exact opd_move rfl rfl) ?_
                refine al_off rfl rfl rfl (by rfl) rfl ?_
                refine al_off rfl rfl rfl (by rfl) rfl ?_
                refine al_off rfl rfl rfl (by rfl) rfl ?_
                refine al_d rfl rfl rfl (by exact (by exact opd_pick_f rfl rfl rfl)) ?_
                refine al_nil ?_
                refine awp_cond rfl (fun hc7 => ?_) (fun hc7 => ?_)
                -- cond 7
                · skip
                  ((cases hc7; done))
                · skip
                  refine awp_skip ?_
                  refine awp_seq ?_
                  refine awp_seq ?_
                  refine awp_region ?_
                  refine al_d rfl rfl rfl (by exact opd_move rfl rfl) ?_
                  refine al_d rfl rfl rfl (by exact OpD.val (by exact opd_sneq rfl rfl rfl) (d0)) ?_
                  refine al_nil ?_
                  refine awp_cond rfl (fun hc8 => ?_) (fun hc8 => ?_)
                  -- cond 8
                  · skip
                    ((cases hc8; done))
                  · skip
                    refine awp_skip ?_
                    refine awp_seq ?_
                    refine awp_region ?_
                    refine al_d rfl rfl rfl (by exact opd_move rfl rfl) ?_
                    refine al_nil ?_
                    refine awp_cond rfl (fun hc9 => ?_) (fun hc9 => ?_)
                    -- cond 9
                    · skip
                      ((cases hc9; done))
                    · skip
                      refine awp_skip ?_
                      refine awp_region ?_
                      refine al_d rfl rfl rfl (by exact opd_move rfl rfl) ?_
                      refine al_d rfl rfl rfl (by exact opd_add rfl rfl rfl (by exact w64 (by omega) (by omega))) ?_
                      refine al_d rfl rfl rfl (by exact opd_assign rfl rfl) ?_
                      refine al_nil ?_
                      -- end of a round
                      refine ⟨k + 1, ?_, by omega, ?_⟩
                      · rw [hnext]
                        dsimp only
                        omega
                      · dsimp only
                        rw [hnext]
                        dsimp only
                        exact Ent.e0 ⟨⟨_, rfl, rfl⟩, ⟨_, rfl, rfl⟩, ⟨_, rfl, rfl⟩, ⟨_, rfl, rfl⟩, ⟨_, rfl, rfl⟩, ⟨_, rfl, rfl⟩, ⟨_, rfl, rfl⟩, trivial⟩
            · have d0 : (!decide (v = ⟨#[]⟩)) = true := by rw [decide_eq_false hv0]; rfl
              by_cases h6 : A.length = 60
              · have d6 : decide (((A.length : Nat) : Int) = 60) = true := decide_eq_true (by omega)
                rw [decide_eq_false hv0, decide_eq_true h6, if_pos (show (!false && true) = true from rfl)] at hnext
                refine awp_skip ?_
                refine awp_seq ?_
                refine awp_block ?_
                refine awp_seq ?_
                refine awp_region ?_
                refine al_d rfl rfl rfl (by exact opd_move rfl rfl) ?_
                refine al_d rfl rfl rfl (by exact opd_move rfl rfl) ?_
                refine al_d rfl rfl rfl (by exact (by exact x_index_pad rfl so22 rfl rfl (by omega) (by exact Int.toNat_natCast _) hi rfl)) ?_
                refine al_d rfl rfl rfl (by exact (by exact opd_field_pad rfl fo46_0 rfl rfl)) ?_
                refine al_d rfl rfl rfl (by exact (by exact opd_load1_pad rfl Try.isAgg9 rfl hi rfl)) ?_
                refine al_d rfl rfl rfl (by exact opd_assign rfl rfl) ?_
                refine al_nil ?_
                refine awp_seq ?_
                refine awp_region ?_
                refine al_d rfl rfl rfl (by exact opd_move rfl rfl) ?_
                refine al_d rfl rfl rfl (by exact opd_move rfl rfl) ?_
                refine al_d rfl rfl rfl (by exact opd_move rfl rfl) ?_
                refine al_d rfl rfl rfl (by exact opd_move rfl rfl) ?_
                refine al_d rfl rfl rfl (by exact opr_call rfl rfl Try.call38 rfl (hone _)) ?_
                refine al_d rfl rfl rfl (by exact opd_move rfl rfl) ?_
                refine al_d rfl rfl rfl (by exact opd_extract rfl rfl rfl) ?_
                refine al_d rfl rfl rfl (by exact opd_extract rfl rfl rfl) ?_
                refine al_d rfl rfl rfl (by exact opd_assign rfl rfl) ?_
                refine al_d rfl rfl rfl (by exact opd_assign rfl rfl) ?_
                refine al_nil ?_
                refine awp_seq ?_
                refine awp_seq ?_
                refine awp_region ?_
                refine al_d rfl rfl rfl (by exact opd_move rfl rfl) ?_
                refine al_d rfl rfl rfl (by exact OpD.val (by exact opd_sneq rfl rfl rfl) (d0)) ?_
                refine al_d rfl rfl rfl (by exact opd_move rfl rfl) ?_
                refine al_ond rfl rfl rfl (by rfl) rfl rfl (by exact opd_move rfl rfl) ?_
                refine al_ond rfl rfl rfl (by rfl) rfl rfl (by exact (by exact opd_len_osl rfl Try.underlying22 rfl rfl rfl)) ?_
                refine al_ond rfl rfl rfl (by rfl) rfl rfl (by exact OpD.val (by exact opd_eql rfl rfl rfl) (d6)) ?_
                refine al_d rfl rfl rfl (by exact (by exact opd_pick_t rfl rfl rfl)) ?_
                refine al_nil ?_
                refine awp_cond rfl (fun hc10 => ?_) (fun hc10 => ?_)
                -- cond 10
                · skip
                  refine awp_seq ?_
                  refine awp_region ?_
                  refine al_d rfl rfl rfl (by exact opd_assign rfl rfl) ?_
                  refine al_nil ?_
                  refine awp_region ?_
                  refine al_d rfl rfl rfl (by exact opd_assign rfl rfl) ?_
                  refine al_nil ?_
                  refine awp_seq ?_
                  refine awp_seq ?_
                  refine awp_region ?_
                  refine al_d rfl rfl rfl (by exact opd_move rfl rfl) ?_
                  refine al_d rfl rfl rfl (by exact OpD.val (by exact opd_sneq rfl rfl rfl) (hnn)) ?_
                  refine al_nil ?_
                  refine awp_cond rfl (fun hc11 => ?_) (fun hc11 => ?_)
                  -- cond 11
                  · skip
                    ((cases hc11; done))
                  · skip
                    refine awp_skip ?_
                    refine awp_seq ?_
                    refine awp_region ?_
                    refine al_d rfl rfl rfl (by exact opd_move rfl rfl) ?_
                    refine al_nil ?_
                    refine awp_cond rfl (fun hc12 => ?_) (fun hc12 => ?_)
                    -- cond 12
                    · skip
                      refine awp_region ?_
                      refine al_d rfl rfl rfl (by exact opd_move rfl rfl) ?_
                      refine al_d rfl rfl rfl (by exact opd_move rfl rfl) ?_
                      refine al_d rfl rfl rfl (by exact (by exact x_buildSlice [[.str g.key]] rfl so28 rfl rfl rfl rfl rfl (by intro r hr; rw [List.mem_singleton] at hr; subst hr; rfl))) ?_
                      refine al_d rfl rfl rfl (by exact x_append (ps := [[.str g.key]]) rfl so28 ei9 rfl rfl rfl rfl rfl (wRows_len _) rfl (by intro r hr; rw [List.mem_singleton] at hr; subst hr; rfl) (m := 1) rfl (by omega) rfl (wRows_app _ g.key)) ?_
                      refine al_d rfl rfl rfl (by exact opd_assign rfl rfl) ?_
                      refine al_nil ?_
                      refine awp_region ?_
                      refine al_d rfl rfl rfl (by exact opd_move rfl rfl) ?_
                      refine al_d rfl rfl rfl (by exact opd_add rfl rfl rfl (by exact w64 (by omega) (by omega))) ?_
                      refine al_d rfl rfl rfl (by exact opd_assign rfl rfl) ?_
                      refine al_nil ?_
                      -- end of a round
                      refine ⟨k + 1, ?_, by omega, ?_⟩
                      · rw [hnext]
                        dsimp only
                        rw [List.length_append, List.length_singleton]
                        omega
                      · dsimp only
                        rw [hnext]
                        dsimp only
                        rw [List.length_append, List.length_singleton]
                        exact Ent.get' ⟨⟨_, rfl, rfl⟩, ⟨_, rfl, rfl⟩, ⟨_, rfl, rfl⟩, ⟨_, rfl, rfl⟩, ⟨_, rfl, rfl⟩, ⟨_, rfl, rfl⟩, ⟨_, rfl, rfl⟩, trivial⟩ (fun j => get_same [_, _] [_, _, _] (K := []) (by repeat (first | exact trivial | refine ⟨rfl, ?_⟩)) j)
                    · skip
                      ((cases hc12; done))
                · skip
                  ((cases hc10; done))
              · have d6 : decide (((A.length : Nat) : Int) = 60) = false := decide_eq_false (by omega)
                rw [decide_eq_false hv0, decide_eq_false h6, if_neg (by decide), if_neg hv0] at hnext
                cases f with
                | true =>
                  rw [if_pos rfl] at hnext
                  refine awp_skip ?_
                  refine awp_seq ?_
                  refine awp_block ?_
                  refine awp_seq ?_
                  refine awp_region ?_
                  refine al_d rfl rfl rfl (by exact opd_move rfl rfl) ?_
                  refine al_d rfl rfl rfl (by exact opd_move rfl rfl) ?_
                  refine al_d rfl rfl rfl (by exact (by exact x_index_pad rfl so22 rfl rfl (by omega) (by exact Int.toNat_natCast _) hi rfl)) ?_
                  refine al_d rfl rfl rfl (by exact (by exact opd_field_pad rfl fo46_0 rfl rfl)) ?_
                  refine al_d rfl rfl rfl (by exact (by exact opd_load1_pad rfl Try.isAgg9 rfl hi rfl)) ?_
                  refine al_d rfl rfl rfl (by exact opd_assign rfl rfl) ?_
                  refine al_nil ?_
                  refine awp_seq ?_
                  refine awp_region ?_
                  refine al_d rfl rfl rfl (by exact opd_move rfl rfl) ?_
                  refine al_d rfl rfl rfl (by exact opd_move rfl rfl) ?_
                  refine al_d rfl rfl rfl (by exact opd_move rfl rfl) ?_
                  refine al_d rfl rfl rfl (by exact opd_move rfl rfl) ?_
                  refine al_d rfl rfl rfl (by exact opr_call rfl rfl Try.call38 rfl (hone _)) ?_
                  refine al_d rfl rfl rfl (by exact opd_move rfl rfl) ?_
                  refine al_d rfl rfl rfl (by exact opd_extract rfl rfl rfl) ?_
                  refine al_d rfl rfl rfl (by exact opd_extract rfl rfl rfl) ?_
                  refine al_d rfl rfl rfl (by exact opd_assign rfl rfl) ?_
                  refine al_d rfl rfl rfl (by exact opd_assign rfl rfl) ?_
                  refine al_nil ?_
                  refine awp_seq ?_
                  refine awp_seq ?_
                  refine awp_region ?_
                  refine al_d rfl rfl rfl (by exact opd_move rfl rfl) ?_
                  refine al_d rfl rfl rfl (by exact OpD.val (by exact opd_sneq rfl rfl rfl) (d0)) ?_
                  refine al_d rfl rfl rfl (by exact opd_move rfl rfl) ?_
                  refine al_ond rfl rfl rfl (by rfl) rfl rfl (by exact opd_move rfl rfl) ?_
                  refine al_ond rfl rfl rfl (by rfl) rfl rfl (by exact (by exact opd_len_osl rfl Try.underlying22 rfl rfl rfl)) ?_
                  refine al_ond rfl rfl rfl (by rfl) rfl rfl (by exact OpD.val (by exact opd_eql rfl rfl rfl) (d6)) ?_
                  refine al_d rfl rfl rfl (by exact (by exact opd_pick_t rfl rfl rfl)) ?_
                  refine al_nil ?_
                  refine awp_cond rfl (fun hc13 => ?_) (fun hc13 => ?_)
                  -- cond 13
                  · skip
                    ((cases hc13; done))
                  · skip
                    refine awp_skip ?_
                    refine awp_seq ?_
                    refine awp_seq ?_
                    refine awp_region ?_
                    refine al_d rfl rfl rfl (by exact opd_move rfl rfl) ?_
                    refine al_d rfl rfl rfl (by exact OpD.val (by exact opd_sneq rfl rfl rfl) (d0)) ?_
                    refine al_nil ?_
                    refine awp_cond rfl (fun hc14 => ?_) (fun hc14 => ?_)
                    -- cond 14
                    · skip
                      refine awp_region ?_
                      refine al_d rfl rfl rfl (by exact opd_move rfl rfl) ?_
                      refine al_d rfl rfl rfl (by exact opd_move rfl rfl) ?_
                      refine al_d rfl rfl rfl (by exact opd_move rfl rfl) ?_
                      refine al_d rfl rfl rfl (by exact x_build rfl bo46 rfl rfl) ?_
                      refine al_d rfl rfl rfl (by exact (by exact x_buildSlice [[.str g.key, .str v]] rfl so22 rfl rfl rfl rfl rfl (by intro r hr; rw [List.mem_singleton] at hr; subst hr; rfl))) ?_
                      refine al_d rfl rfl rfl (by exact x_append (ps := [[.str g.key, .str v]]) rfl so22 ei46 rfl rfl rfl rfl rfl (tgRows_len _) rfl (by intro r hr; rw [List.mem_singleton] at hr; subst hr; rfl) (m := 1) rfl (by omega) rfl (tgRows_app _ ⟨g.key, v⟩)) ?_
                      refine al_d rfl rfl rfl (by exact opd_assign rfl rfl) ?_
                      refine al_nil ?_
                      refine awp_seq ?_
                      refine awp_region ?_
                      refine al_d rfl rfl rfl (by exact opd_move rfl rfl) ?_
                      refine al_nil ?_
                      refine awp_cond rfl (fun hc15 => ?_) (fun hc15 => ?_)
                      -- cond 15
                      · skip
                        refine awp_region ?_
                        refine al_d rfl rfl rfl (by exact opd_move rfl rfl) ?_
                        refine al_d rfl rfl rfl (by exact opd_move rfl rfl) ?_
                        refine al_d rfl rfl rfl (by exact (by exact x_buildSlice [[.str g.key]] rfl so28 rfl rfl rfl rfl rfl (by intro r hr; rw [List.mem_singleton] at hr; subst hr; rfl))) ?_
                        refine al_d rfl rfl rfl (by exact x_append (ps := [[.str g.key]]) rfl so28 ei9 rfl rfl rfl rfl rfl (wRows_len _) rfl (by intro r hr; rw [List.mem_singleton] at hr; subst hr; rfl) (m := 1) rfl (by omega) rfl (wRows_app _ g.key)) ?_
                        refine al_d rfl rfl rfl (by exact opd_assign rfl rfl) ?_
                        refine al_nil ?_
                        refine awp_region ?_
                        refine al_d rfl rfl rfl (by exact opd_move rfl rfl) ?_
                        refine al_d rfl rfl rfl (by exact opd_add rfl rfl rfl (by exact w64 (by omega) (by omega))) ?_
                        refine al_d rfl rfl rfl (by exact opd_assign rfl rfl) ?_
                        refine al_nil ?_
                        -- end of a round
                        refine ⟨k + 1, ?_, by omega, ?_⟩
                        · rw [hnext]
                          dsimp only
                          rw [List.length_append, List.length_append, List.length_singleton, List.length_singleton]
                          omega
                        · dsimp only
                          rw [hnext]
                          dsimp only
                          rw [List.length_append, List.length_append, List.length_singleton, List.length_singleton]
                          exact Ent.get' ⟨⟨_, rfl, rfl⟩, ⟨_, rfl, rfl⟩, ⟨_, rfl, rfl⟩, ⟨_, rfl, rfl⟩, ⟨_, rfl, rfl⟩, ⟨_, rfl, rfl⟩, ⟨_, rfl, rfl⟩, trivial⟩ (fun j => get_same [_, _] [_, _, _, _] (K := []) (by repeat (first | exact trivial | refine ⟨rfl, ?_⟩)) j)
                      · skip
                        ((cases hc15; done))
                    · skip
                      ((cases hc14; done))
                | false =>
                  rw [if_neg (by decide)] at hnext
                  refine awp_skip ?_
                  refine awp_seq ?_
                  refine awp_block ?_
                  refine awp_seq ?_
                  refine awp_region ?_
                  refine al_d rfl rfl rfl (by exact opd_move rfl rfl) ?_
                  refine al_d rfl rfl rfl (by exact opd_move rfl rfl) ?_
                  refine al_d rfl rfl rfl (by exact (by exact x_index_pad rfl so22 rfl rfl (by omega) (by exact Int.toNat_natCast _) hi rfl)) ?_
                  refine al_d rfl rfl rfl (by exact (by exact opd_field_pad rfl fo46_0 rfl rfl)) ?_
                  refine al_d rfl rfl rfl (by exact (by exact opd_load1_pad rfl Try.isAgg9 rfl hi rfl)) ?_
                  refine al_d rfl rfl rfl (by exact opd_assign rfl rfl) ?_
                  refine al_nil ?_
                  refine awp_seq ?_
                  refine awp_region ?_
                  refine al_d rfl rfl rfl (by exact opd_move rfl rfl) ?_
                  refine al_d rfl rfl rfl (by exact opd_move rfl rfl) ?_
                  refine al_d rfl rfl rfl (by exact opd_move rfl rfl) ?_
                  refine al_d rfl rfl rfl (by exact opd_move rfl rfl) ?_
                  refine al_d rfl rfl rfl (by exact opr_call rfl rfl Try.call38 rfl (hone _)) ?_
                  refine al_d rfl rfl rfl (by exact opd_move rfl rfl) ?_
                  refine al_d rfl rfl rfl (by exact opd_extract rfl rfl rfl) ?_
                  refine al_d rfl rfl rfl (by exact opd_extract rfl rfl rfl) ?_
                  refine al_d rfl rfl rfl (by exact opd_assign rfl rfl) ?_
                  refine al_d rfl rfl rfl (by exact opd_assign rfl rfl) ?_
                  refine al_nil ?_
                  refine awp_seq ?_
                  refine awp_seq ?_
                  refine awp_region ?_
                  refine al_d rfl rfl rfl (by exact opd_move rfl rfl) ?_
                  refine al_d rfl rfl rfl (by exact OpD.val (by exact opd_sneq rfl rfl rfl) (d0)) ?_
                  refine al_d rfl rfl rfl (by exact opd_move rfl rfl) ?_
                  refine al_ond rfl rfl rfl (by rfl) rfl rfl (by exact opd_move rfl rfl) ?_
                  refine al_ond rfl rfl rfl (by rfl) rfl rfl (by exact (by exact opd_len_osl rfl Try.underlying22 rfl rfl rfl)) ?_
                  refine al_ond rfl rfl rfl (by rfl) rfl rfl (by exact OpD.val (by exact opd_eql rfl rfl rfl) (d6)) ?_
                  refine al_d rfl rfl rfl (by exact (by exact opd_pick_t rfl rfl rfl)) ?_
                  refine al_nil ?_
                  refine awp_cond rfl (fun hc16 => ?_) (fun hc16 => ?_)
                  -- cond 16
                  · skip
                    ((cases hc16; done))
                  · skip
                    refine awp_skip ?_
                    refine awp_seq ?_
                    refine awp_seq ?_
                    refine awp_region ?_
                    refine al_d rfl rfl rfl (by exact opd_move rfl rfl) ?_
                    refine al_d rfl rfl rfl (by exact OpD.val (by exact opd_sneq rfl rfl rfl) (d0)) ?_
                    refine al_nil ?_
                    refine awp_cond rfl (fun hc17 => ?_) (fun hc17 => ?_)
                    -- cond 17
                    · skip
                      refine awp_region ?_
                      refine al_d rfl rfl rfl (by exact opd_move rfl rfl) ?_
                      refine al_d rfl rfl rfl (by exact opd_move rfl rfl) ?_
                      refine al_d rfl rfl rfl (by exact opd_move rfl rfl) ?_
                      refine al_d rfl rfl rfl (by exact x_build rfl bo46 rfl rfl) ?_
                      refine al_d rfl rfl rfl (by exact (by exact x_buildSlice [[.str g.key, .str v]] rfl so22 rfl rfl rfl rfl rfl (by intro r hr; rw [List.mem_singleton] at hr; subst hr; rfl))) ?_
                      refine al_d rfl rfl rfl (by exact x_append (ps := [[.str g.key, .str v]]) rfl so22 ei46 rfl rfl rfl rfl rfl (tgRows_len _) rfl (by intro r hr; rw [List.mem_singleton] at hr; subst hr; rfl) (m := 1) rfl (by omega) rfl (tgRows_app _ ⟨g.key, v⟩)) ?_
                      refine al_d rfl rfl rfl (by exact opd_assign rfl rfl) ?_
                      refine al_nil ?_
                      refine awp_seq ?_
                      refine awp_region ?_
                      refine al_d rfl rfl rfl (by exact opd_move rfl rfl) ?_
                      refine al_nil ?_
                      refine awp_cond rfl (fun hc18 => ?_) (fun hc18 => ?_)
                      -- cond 18
                      · skip
                        ((cases hc18; done))
                      · skip
                        refine awp_skip ?_
                        refine awp_region ?_
                        refine al_d rfl rfl rfl (by exact opd_move rfl rfl) ?_
                        refine al_d rfl rfl rfl (by exact opd_add rfl rfl rfl (by exact w64 (by omega) (by omega))) ?_
                        refine al_d rfl rfl rfl (by exact opd_assign rfl rfl) ?_
                        refine al_nil ?_
                        -- end of a round
                        refine ⟨k + 1, ?_, by omega, ?_⟩
                        · rw [hnext]
                          dsimp only
                          rw [List.length_append, List.length_singleton]
                          omega
                        · dsimp only
                          rw [hnext]
                          dsimp only
                          rw [List.length_append, List.length_singleton]
                          exact Ent.get' ⟨⟨_, rfl, rfl⟩, ⟨_, rfl, rfl⟩, ⟨_, rfl, rfl⟩, ⟨_, rfl, rfl⟩, ⟨_, rfl, rfl⟩, ⟨_, rfl, rfl⟩, ⟨_, rfl, rfl⟩, trivial⟩ (fun j => get_dup 905 _ _ _ j)
                    · skip
                      ((cases hc17; done))
          · have hge2 : k = K.length := by have := of_decide_eq_false hc3; omega
            subst hge2
            have hkl : (keys3 b o t).length = K.length := by rw [← hkey, List.length_map]
            rw [List.take_of_length_le (by rw [List.length_map]; omega)] at hAC
            rw [hAC]
            refine awp_exit ?_
            refine awp_seq ?_
            -- before the slot
            refine AWp.ent (Ent.fz (id := 905) (E' := [(11, .pv (slTags A)), (12, .osl 906 C.length 0 C.length)]) (H' := [(906, ⟨C.length, 1, 9, wRows C⟩)]) (A.map encTag) rfl (by rw [List.map_map]; rfl)
              (by intro q hq; simp only [List.mem_cons, List.not_mem_nil, or_false] at hq; rcases hq with rfl | rfl; exact ⟨_, rfl, .osl (by rw [Nat.zero_add, List.drop_zero, List.take_of_length_le (by rw [List.length_map]; exact Nat.le_refl _)])⟩; exact ⟨_, rfl, .same (.osl rfl)⟩) rfl ⟨⟨_, rfl, rfl⟩, wRows_clo _ _, trivial⟩ trivial) ?_
            refine AWp.ent (Ent.fz (id := 906) (E' := [(11, .pv (slTags A)), (12, .pv (slStrs C))]) (H' := []) (C.map encStr) rfl (wRows_enc C)
              (by intro q hq; simp only [List.mem_cons, List.not_mem_nil, or_false] at hq; rcases hq with rfl | rfl; exact ⟨_, rfl, .same (.pv _)⟩; exact ⟨_, rfl, .osl (by rw [Nat.zero_add, List.drop_zero, List.take_of_length_le (by rw [List.length_map]; exact Nat.le_refl _)])⟩) rfl trivial trivial) ?_
            refine awp_region ?_
            refine al_d rfl rfl rfl (by exact opd_move rfl rfl) ?_
            refine al_d rfl rfl rfl (by exact opd_move rfl rfl) ?_
            refine al_d rfl rfl rfl (by exact opd_assign rfl rfl) ?_
            refine al_d rfl rfl rfl (by exact opd_assign rfl rfl) ?_
            refine al_nil ?_
            refine awp_ret ?_
            -- return
            refine aret2 (H' := []) (by exact .inr rfl) rfl (rval_tmp rfl) (rval_tmp rfl) Fin.refl ?_
            exact ⟨rfl, rfl⟩
end Go.Proofs.Ytedfihgkopejcaa
end
section
set_option linter.unusedVariables false
set_option linter.unusedSimpArgs false
set_option maxRecDepth 100000
namespace Go.Proofs.Ytedfihgkopejcaa
open Go.Abs
theorem tagMatches_c (a b c : List GTag) (key val text : ByteArray) (H : Heap) (ha : szT a) (hb : szT b) (hc : szT c) (hk : key.size < 4611686018427387904) (hv : val.size < 4611686018427387904) (ht : text.size < 1099511627776) : ACalls Try.prog 3 [.pv (slTags a), .pv (slTags b), .pv (slTags c), sv key, sv val, sv text] H (fun r H' => r = bv true ∧ H' = H) := by
  refine ACalls.pure ?_ (by simp) H
  have ha2 := ha.2
  have hb2 := hb.2
  have hc2 := hc.2
  have hx := (gSet_sz ha hk hv).2
  have hm := gMerge_len a b c
  refine ACalls.body Try.func3 rfl Try.ntmps3 (Nat.le_of_ble_eq_true rfl) ?_
  refine awp_seq ?_
  refine awp_region ?_
  refine al_d rfl rfl rfl (by exact opd_assign rfl rfl) ?_
  refine al_nil ?_
  refine awp_seq ?_
  refine awp_region ?_
  refine al_d rfl rfl rfl (by exact opr_call rfl rfl Try.call9 rfl (head9_c _)) ?_
  refine al_d rfl rfl rfl (by exact opd_assign rfl rfl) ?_
  refine al_nil ?_
  refine awp_seq ?_
  refine awp_seq ?_
  refine awp_bool (t := 56) (n := 24) (X := !fewAll [a, b, c] || decide (300 < (key.size : Int)) || decide (300 < (val.size : Int)) || decide (5000 < (text.size : Int))) ?_ ?_
  · all_goals (refine al_d rfl rfl rfl (by exact opd_move rfl rfl) ?_)
    all_goals (refine al_d rfl rfl rfl (by exact opd_move rfl rfl) ?_)
    all_goals (refine al_d rfl rfl rfl (by exact opd_move rfl rfl) ?_)
    all_goals (refine al_d rfl rfl rfl (by exact (by exact x_buildSlice ([a, b, c].map encTs) rfl so47 rfl rfl rfl rfl rfl (encTs_rl _))) ?_)
    all_goals (refine al_d rfl rfl rfl (by exact opr_call rfl rfl Try.call10 rfl (fewLaw_c [a, b, c] _ (by show 3 < _; omega) (by intro x hx; simp only [List.mem_cons, List.not_mem_nil, or_false] at hx; rcases hx with rfl | rfl | rfl; exact ha.1; exact hb.1; exact hc.1))) ?_)
    all_goals (refine al_d rfl rfl rfl (by exact opd_not rfl rfl) ?_)
    all_goals (refine al_d rfl rfl rfl (by exact opd_move rfl rfl) ?_)
    all_goals (refine al_split (t := 42) rfl (fun h42 => ?_) (fun h42 => ?_))
    all_goals (try contradiction)
    all_goals (first | refine al_off rfl rfl rfl rfl rfl ?_ | refine al_ond rfl rfl rfl rfl rfl rfl (by exact opd_move rfl rfl) ?_)
    all_goals (first | refine al_off rfl rfl rfl rfl rfl ?_ | refine al_ond rfl rfl rfl rfl rfl rfl (by exact opd_len_str rfl Try.underlying9 rfl) ?_)
    all_goals (first | refine al_off rfl rfl rfl rfl rfl ?_ | refine al_ond rfl rfl rfl rfl rfl rfl (by exact opd_gtr rfl rfl rfl) ?_)
    all_goals (refine al_d rfl rfl rfl (by exact (by first | exact opd_pick_t rfl rfl rfl | exact opd_pick_f rfl rfl rfl)) ?_)
    all_goals (refine al_d rfl rfl rfl (by exact opd_move rfl rfl) ?_)
    all_goals (refine al_split (t := 47) rfl (fun h47 => ?_) (fun h47 => ?_))
    all_goals (try contradiction)
    all_goals (first | refine al_off rfl rfl rfl rfl rfl ?_ | refine al_ond rfl rfl rfl rfl rfl rfl (by exact opd_move rfl rfl) ?_)
    all_goals (first | refine al_off rfl rfl rfl rfl rfl ?_ | refine al_ond rfl rfl rfl rfl rfl rfl (by exact opd_len_str rfl Try.underlying9 rfl) ?_)
    all_goals (first | refine al_off rfl rfl rfl rfl rfl ?_ | refine al_ond rfl rfl rfl rfl rfl rfl (by exact opd_gtr rfl rfl rfl) ?_)
    all_goals (refine al_d rfl rfl rfl (by exact (by first | exact opd_pick_t rfl rfl rfl | exact opd_pick_f rfl rfl rfl)) ?_)
    all_goals (refine al_d rfl rfl rfl (by exact opd_move rfl rfl) ?_)
    all_goals (refine al_split (t := 52) rfl (fun h52 => ?_) (fun h52 => ?_))
    all_goals (try contradiction)
    all_goals (first | refine al_off rfl rfl rfl rfl rfl ?_ | refine al_ond rfl rfl rfl rfl rfl rfl (by exact opd_move rfl rfl) ?_)
    all_goals (first | refine al_off rfl rfl rfl rfl rfl ?_ | refine al_ond rfl rfl rfl rfl rfl rfl (by exact opd_len_str rfl Try.underlying9 rfl) ?_)
    all_goals (first | refine al_off rfl rfl rfl rfl rfl ?_ | refine al_ond rfl rfl rfl rfl rfl rfl (by exact opd_gtr rfl rfl rfl) ?_)
    all_goals (refine al_d rfl rfl rfl (by exact (by first | exact opd_pick_t rfl rfl rfl | exact opd_pick_f rfl rfl rfl)) ?_)
    all_goals (refine al_nil ?_)
    all_goals (exact ⟨⟨_, rfl, by (simp only [*, Bool.false_and, Bool.true_and, Bool.and_false, Bool.and_true, Bool.true_or, Bool.false_or, Bool.or_true, Bool.or_false, Bool.not_true, Bool.not_false]; done)⟩, rfl, rfl, rfl⟩)
  refine awp_cond rfl (fun hc1 => ?_) (fun hc1 => ?_)
  -- cond 1
  · skip
    refine awp_seq ?_
    refine awp_region ?_
    refine al_d rfl rfl rfl (by exact opd_move rfl rfl) ?_
    refine al_d rfl rfl rfl (by exact opd_assign rfl rfl) ?_
    refine al_nil ?_
    refine awp_ret ?_
    -- return
    refine aret1 (H' := []) (by exact .inr rfl) rfl (rval_tmp rfl) (Fin.wk (by simp) trivial trivial) ?_
    exact ⟨rfl, rfl⟩
  · have h := hc1
    simp only [Bool.or_eq_false_iff, decide_eq_false_iff_not] at h
    obtain ⟨_, h5⟩ := h
    have hpl : (gParse text).1.length < 4611686018427387904 := by
      rcases parse_cases (s := text) (by omega) with hp | ⟨l, hp, _, hg⟩
      · rw [hp]; show 0 < _; omega
      · rw [hp]
        have := (gTags_iff.1 hg).2.2
        show l.length < _
        omega
    have e1 : decide ((gSet a key val).2 = (gSet a key val).2) = true := decide_eq_true rfl
    have e2 : decide (vOf a key = vOf a key) = true := decide_eq_true rfl
    have e3 : decide ((gGet a key).isSome = (gGet a key).isSome) = true := decide_eq_true rfl
    have e4 : decide ((gText a).1 = (gText a).1) = true := decide_eq_true rfl
    have e5 : decide ((gText a).2 = (gText a).2) = true := decide_eq_true rfl
    have e6 : decide ((gParse text).2 = (gParse text).2) = true := decide_eq_true rfl
    have e7 : decide (gTags a = gTags a) = true := decide_eq_true rfl
    refine awp_skip ?_
    refine awp_seq ?_
    refine awp_region ?_
    refine al_d rfl rfl rfl (by exact opd_move rfl rfl) ?_
    refine al_d rfl rfl rfl (by exact opd_move rfl rfl) ?_
    refine al_d rfl rfl rfl (by exact opd_move rfl rfl) ?_
    refine al_d rfl rfl rfl (by exact opr_call rfl rfl Try.call11 rfl (tagSet_c a key val _ ha.1 hk hv (by omega))) ?_
    refine al_d rfl rfl rfl (by exact opd_move rfl rfl) ?_
    refine al_d rfl rfl rfl (by exact opd_extract rfl rfl rfl) ?_
    refine al_d rfl rfl rfl (by exact opd_extract rfl rfl rfl) ?_
    refine al_d rfl rfl rfl (by exact opd_assign rfl rfl) ?_
    refine al_d rfl rfl rfl (by exact opd_assign rfl rfl) ?_
    refine al_nil ?_
    refine awp_seq ?_
    refine awp_region ?_
    refine al_d rfl rfl rfl (by exact opd_move rfl rfl) ?_
    refine al_d rfl rfl rfl (by exact opd_move rfl rfl) ?_
    refine al_d rfl rfl rfl (by exact opd_move rfl rfl) ?_
    refine al_d rfl rfl rfl (by exact opr_call rfl rfl Try.call12 rfl (rSet_c a key val _ ha.1 (by omega) hk)) ?_
    refine al_d rfl rfl rfl (by exact opd_move rfl rfl) ?_
    refine al_d rfl rfl rfl (by exact opd_extract rfl rfl rfl) ?_
    refine al_d rfl rfl rfl (by exact opd_extract rfl rfl rfl) ?_
    refine al_d rfl rfl rfl (by exact opd_assign rfl rfl) ?_
    refine al_d rfl rfl rfl (by exact opd_assign rfl rfl) ?_
    refine al_nil ?_
    refine awp_seq ?_
    refine awp_region ?_
    refine al_d rfl rfl rfl (by exact opd_move rfl rfl) ?_
    refine al_d rfl rfl rfl (by exact opd_move rfl rfl) ?_
    refine al_d rfl rfl rfl (by exact opd_move rfl rfl) ?_
    refine al_d rfl rfl rfl (by exact opr_call rfl rfl Try.call13 rfl (merge_c a b c _ ha.1 hb.1 hc.1 ha2 hb2 hc2)) ?_
    refine al_d rfl rfl rfl (by exact opd_move rfl rfl) ?_
    refine al_d rfl rfl rfl (by exact opd_extract rfl rfl rfl) ?_
    refine al_d rfl rfl rfl (by exact opd_extract rfl rfl rfl) ?_
    refine al_d rfl rfl rfl (by exact opd_assign rfl rfl) ?_
    refine al_d rfl rfl rfl (by exact opd_assign rfl rfl) ?_
    refine al_nil ?_
    refine awp_seq ?_
    refine awp_region ?_
    refine al_d rfl rfl rfl (by exact opd_move rfl rfl) ?_
    refine al_d rfl rfl rfl (by exact opd_move rfl rfl) ?_
    refine al_d rfl rfl rfl (by exact opd_move rfl rfl) ?_
    refine al_d rfl rfl rfl (by exact opr_call rfl rfl Try.call14 rfl (merge09_c a b c _ ha hb hc)) ?_
    refine al_d rfl rfl rfl (by exact opd_move rfl rfl) ?_
    refine al_d rfl rfl rfl (by exact opd_extract rfl rfl rfl) ?_
    refine al_d rfl rfl rfl (by exact opd_extract rfl rfl rfl) ?_
    refine al_d rfl rfl rfl (by exact opd_assign rfl rfl) ?_
    refine al_d rfl rfl rfl (by exact opd_assign rfl rfl) ?_
    refine al_nil ?_
    refine awp_seq ?_
    refine awp_region ?_
    refine al_d rfl rfl rfl (by exact opd_move rfl rfl) ?_
    refine al_d rfl rfl rfl (by exact opr_call rfl rfl Try.call15 rfl (tagText_c a _ ha.1)) ?_
    refine al_d rfl rfl rfl (by exact opd_move rfl rfl) ?_
    refine al_d rfl rfl rfl (by exact opd_extract rfl rfl rfl) ?_
    refine al_d rfl rfl rfl (by exact opd_extract rfl rfl rfl) ?_
    refine al_d rfl rfl rfl (by exact opd_assign rfl rfl) ?_
    refine al_d rfl rfl rfl (by exact opd_assign rfl rfl) ?_
    refine al_nil ?_
    refine awp_seq ?_
    refine awp_region ?_
    refine al_d rfl rfl rfl (by exact opd_move rfl rfl) ?_
    refine al_d rfl rfl rfl (by exact opr_call rfl rfl Try.call16 rfl (text09_c a _ ha.1)) ?_
    refine al_d rfl rfl rfl (by exact opd_move rfl rfl) ?_
    refine al_d rfl rfl rfl (by exact opd_extract rfl rfl rfl) ?_
    refine al_d rfl rfl rfl (by exact opd_extract rfl rfl rfl) ?_
    refine al_d rfl rfl rfl (by exact opd_assign rfl rfl) ?_
    refine al_d rfl rfl rfl (by exact opd_assign rfl rfl) ?_
    refine al_nil ?_
    refine awp_seq ?_
    refine awp_region ?_
    refine al_d rfl rfl rfl (by exact opd_move rfl rfl) ?_
    refine al_d rfl rfl rfl (by exact opr_call rfl rfl Try.call17 rfl (parse_c text _ ht (fun l h => lex_ok ht h))) ?_
    refine al_d rfl rfl rfl (by exact opd_move rfl rfl) ?_
    refine al_d rfl rfl rfl (by exact opd_extract rfl rfl rfl) ?_
    refine al_d rfl rfl rfl (by exact opd_extract rfl rfl rfl) ?_
    refine al_d rfl rfl rfl (by exact opd_assign rfl rfl) ?_
    refine al_d rfl rfl rfl (by exact opd_assign rfl rfl) ?_
    refine al_nil ?_
    refine awp_seq ?_
    refine awp_region ?_
    refine al_d rfl rfl rfl (by exact opd_move rfl rfl) ?_
    refine al_d rfl rfl rfl (by exact opr_call rfl rfl Try.call18 rfl (parse09_c text _ ht)) ?_
    refine al_d rfl rfl rfl (by exact opd_move rfl rfl) ?_
    refine al_d rfl rfl rfl (by exact opd_extract rfl rfl rfl) ?_
    refine al_d rfl rfl rfl (by exact opd_extract rfl rfl rfl) ?_
    refine al_d rfl rfl rfl (by exact opd_assign rfl rfl) ?_
    refine al_d rfl rfl rfl (by exact opd_assign rfl rfl) ?_
    refine al_nil ?_
    refine awp_seq ?_
    refine awp_region ?_
    refine al_d rfl rfl rfl (by exact opd_move rfl rfl) ?_
    refine al_d rfl rfl rfl (by exact opd_move rfl rfl) ?_
    refine al_d rfl rfl rfl (by exact opr_call rfl rfl Try.call19 rfl (get9v (v := vOf a key) rfl rfl _ (by omega))) ?_
    refine al_d rfl rfl rfl (by exact opd_move rfl rfl) ?_
    refine al_d rfl rfl rfl (by exact opd_extract rfl rfl rfl) ?_
    refine al_d rfl rfl rfl (by exact opd_extract rfl rfl rfl) ?_
    refine al_d rfl rfl rfl (by exact opd_assign rfl rfl) ?_
    refine al_d rfl rfl rfl (by exact opd_assign rfl rfl) ?_
    refine al_nil ?_
    refine awp_seq ?_
    refine awp_region ?_
    refine al_d rfl rfl rfl (by exact opd_move rfl rfl) ?_
    refine al_d rfl rfl rfl (by exact opd_move rfl rfl) ?_
    refine al_d rfl rfl rfl (by exact opr_call rfl rfl Try.call20 rfl (get9r key _ (by omega))) ?_
    refine al_d rfl rfl rfl (by exact opd_move rfl rfl) ?_
    refine al_d rfl rfl rfl (by exact opd_extract rfl rfl rfl) ?_
    refine al_d rfl rfl rfl (by exact opd_extract rfl rfl rfl) ?_
    refine al_d rfl rfl rfl (by exact opd_assign rfl rfl) ?_
    refine al_d rfl rfl rfl (by exact opd_assign rfl rfl) ?_
    refine al_nil ?_
    refine awp_seq ?_
    refine awp_region ?_
    refine al_d rfl rfl rfl (by exact opd_move rfl rfl) ?_
    refine al_d rfl rfl rfl (by exact opd_move rfl rfl) ?_
    refine al_d rfl rfl rfl (by exact OpD.val (by exact opd_eql rfl rfl rfl) (e1)) ?_
    refine al_d rfl rfl rfl (by exact opd_move rfl rfl) ?_
    refine al_ond rfl rfl rfl (by rfl) rfl rfl (by exact opd_move rfl rfl) ?_
    refine al_ond rfl rfl rfl (by rfl) rfl rfl (by exact opd_move rfl rfl) ?_
    refine al_ond rfl rfl rfl (by rfl) rfl rfl (by exact opr_call rfl rfl Try.call21 rfl (same9_t rfl _ (by omega))) ?_
    refine al_d rfl rfl rfl (by exact (by exact opd_pick_t rfl rfl rfl)) ?_
    refine al_d rfl rfl rfl (by exact opd_move rfl rfl) ?_
    refine al_ond rfl rfl rfl (by rfl) rfl rfl (by exact opd_move rfl rfl) ?_
    refine al_ond rfl rfl rfl (by rfl) rfl rfl (by exact opd_move rfl rfl) ?_
    refine al_ond rfl rfl rfl (by rfl) rfl rfl (by exact opr_call rfl rfl Try.call21 rfl (same9_t rfl _ (by omega))) ?_
    refine al_d rfl rfl rfl (by exact (by exact opd_pick_t rfl rfl rfl)) ?_
    refine al_d rfl rfl rfl (by exact opd_move rfl rfl) ?_
    refine al_ond rfl rfl rfl (by rfl) rfl rfl (by exact opd_move rfl rfl) ?_
    refine al_ond rfl rfl rfl (by rfl) rfl rfl (by exact opd_move rfl rfl) ?_
    refine al_ond rfl rfl rfl (by rfl) rfl rfl (by exact opr_call rfl rfl Try.call22 rfl (strings9_t rfl _ (by omega))) ?_
    refine al_d rfl rfl rfl (by exact (by exact opd_pick_t rfl rfl rfl)) ?_
    refine al_d rfl rfl rfl (by exact opd_move rfl rfl) ?_
    refine al_ond rfl rfl rfl (by rfl) rfl rfl (by exact opd_move rfl rfl) ?_
    refine al_ond rfl rfl rfl (by rfl) rfl rfl (by exact opd_move rfl rfl) ?_
    refine al_ond rfl rfl rfl (by rfl) rfl rfl (by exact OpD.val (by exact opd_seql rfl rfl rfl) (e2)) ?_
    refine al_d rfl rfl rfl (by exact (by exact opd_pick_t rfl rfl rfl)) ?_
    refine al_d rfl rfl rfl (by exact opd_move rfl rfl) ?_
    refine al_ond rfl rfl rfl (by rfl) rfl rfl (by exact opd_move rfl rfl) ?_
    refine al_ond rfl rfl rfl (by rfl) rfl rfl (by exact opd_move rfl rfl) ?_
    refine al_ond rfl rfl rfl (by rfl) rfl rfl (by exact OpD.val (by exact opd_beql rfl Try.underlying4 rfl rfl) (e3)) ?_
    refine al_d rfl rfl rfl (by exact (by exact opd_pick_t rfl rfl rfl)) ?_
    refine al_d rfl rfl rfl (by exact opd_assign rfl rfl) ?_
    refine al_nil ?_
    refine awp_seq ?_
    refine awp_region ?_
    refine al_d rfl rfl rfl (by exact opd_move rfl rfl) ?_
    refine al_d rfl rfl rfl (by exact opd_move rfl rfl) ?_
    refine al_ond rfl rfl rfl (by rfl) rfl rfl (by exact opd_move rfl rfl) ?_
    refine al_d rfl rfl rfl (by exact (by exact opd_pick_t rfl rfl rfl)) ?_
    refine al_d rfl rfl rfl (by exact opd_move rfl rfl) ?_
    refine al_ond rfl rfl rfl (by rfl) rfl rfl (by exact opd_move rfl rfl) ?_
    refine al_ond rfl rfl rfl (by rfl) rfl rfl (by exact opd_move rfl rfl) ?_
    refine al_ond rfl rfl rfl (by rfl) rfl rfl (by exact OpD.val (by exact opd_seql rfl rfl rfl) (e4)) ?_
    refine al_d rfl rfl rfl (by exact (by exact opd_pick_t rfl rfl rfl)) ?_
    refine al_d rfl rfl rfl (by exact opd_move rfl rfl) ?_
    refine al_ond rfl rfl rfl (by rfl) rfl rfl (by exact opd_move rfl rfl) ?_
    refine al_ond rfl rfl rfl (by rfl) rfl rfl (by exact opd_move rfl rfl) ?_
    refine al_ond rfl rfl rfl (by rfl) rfl rfl (by exact OpD.val (by exact opd_eql rfl rfl rfl) (e5)) ?_
    refine al_d rfl rfl rfl (by exact (by exact opd_pick_t rfl rfl rfl)) ?_
    refine al_d rfl rfl rfl (by exact opd_move rfl rfl) ?_
    refine al_ond rfl rfl rfl (by rfl) rfl rfl (by exact opd_move rfl rfl) ?_
    refine al_ond rfl rfl rfl (by rfl) rfl rfl (by exact opd_move rfl rfl) ?_
    refine al_ond rfl rfl rfl (by rfl) rfl rfl (by exact OpD.val (by exact opd_eql rfl rfl rfl) (e6)) ?_
    refine al_d rfl rfl rfl (by exact (by exact opd_pick_t rfl rfl rfl)) ?_
    refine al_d rfl rfl rfl (by exact opd_move rfl rfl) ?_
    refine al_ond rfl rfl rfl (by rfl) rfl rfl (by exact opd_move rfl rfl) ?_
    refine al_ond rfl rfl rfl (by rfl) rfl rfl (by exact opd_move rfl rfl) ?_
    refine al_ond rfl rfl rfl (by rfl) rfl rfl (by exact opr_call rfl rfl Try.call21 rfl (same9_t rfl _ hpl)) ?_
    refine al_d rfl rfl rfl (by exact (by exact opd_pick_t rfl rfl rfl)) ?_
    refine al_d rfl rfl rfl (by exact opd_move rfl rfl) ?_
    refine al_ond rfl rfl rfl (by rfl) rfl rfl (by exact opd_move rfl rfl) ?_
    refine al_ond rfl rfl rfl (by rfl) rfl rfl (by exact opr_call rfl rfl Try.call23 rfl (tagValid_c a _ ha.1)) ?_
    refine al_ond rfl rfl rfl (by rfl) rfl rfl (by exact opd_move rfl rfl) ?_
    refine al_ond rfl rfl rfl (by rfl) rfl rfl (by exact opr_call rfl rfl Try.call24 rfl (rValid09_c a _ ha.1)) ?_
    refine al_ond rfl rfl rfl (by rfl) rfl rfl (by exact OpD.val (by exact opd_beql rfl Try.underlying4 rfl rfl) (e7)) ?_
    refine al_d rfl rfl rfl (by exact (by exact opd_pick_t rfl rfl rfl)) ?_
    refine al_d rfl rfl rfl (by exact opd_assign rfl rfl) ?_
    refine al_nil ?_
    refine awp_ret ?_
    -- return
    refine aret1 (H' := []) (by exact .inr rfl) rfl (rval_tmp rfl) (Fin.wk (by simp) trivial trivial) ?_
    exact ⟨rfl, rfl⟩
end Go.Proofs.Ytedfihgkopejcaa
end
