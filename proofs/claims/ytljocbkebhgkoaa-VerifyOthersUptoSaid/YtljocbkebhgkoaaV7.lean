/-
  CONTRACTS: planisphereref32.Accept answers as verify.Accept. Conditions: lengths below 2^40.
-/
import Derived.Test.YtljocbkebhgkoaaV6
set_option linter.unusedVariables false
set_option linter.unusedSimpArgs false
set_option maxRecDepth 100000
namespace Go.Proofs.Ytljocbkebhgkoaa
open Go.Abs
theorem manyRow {k : Nat} (h : k < 5) : ([[.int .i64 0], [.int .i64 5], [.int .i64 3], [.int .i64 3], [.int .i64 4]] : List (List PV))[k]? = some [.int .i64 (kMany k)] := by
  match k, h with
  | 0, _ => rfl
  | 1, _ => rfl
  | 2, _ => rfl
  | 3, _ => rfl
  | 4, _ => rfl
  | n + 5, h => exact absurd h (by omega)
theorem kind_cases1 (kind : Int) : kind < 1 ∨ 4 < kind ∨ ∃ k : Nat, kind = (k : Int) ∧ 1 ≤ k ∧ k < 5 := by
  by_cases h : kind < 1
  · exact .inl h
  · by_cases h2 : 4 < kind
    · exact .inr (.inl h2)
    · exact .inr (.inr ⟨kind.toNat, by omega, by omega, by omega⟩)
theorem idx_cases0 (i : Int) (l : List GEdit) : i < 0 ∨ (0 ≤ i ∧ (l.length : Int) ≤ i) ∨ ∃ (p : Nat) (y : GEdit), i = (p : Int) ∧ p < l.length ∧ l[p]? = some y := by
  by_cases h1 : i < 0
  · exact .inl h1
  · by_cases h2 : (l.length : Int) ≤ i
    · exact .inr (.inl ⟨by omega, h2⟩)
    · exact .inr (.inr ⟨i.toNat, l[i.toNat]'(by omega), by omega, by omega, List.getElem?_eq_getElem (by omega)⟩)
/-- What has been shown so far. -/
def Shown (l : List GEdit) (idx : List Int) (i : Nat) (sh : List GEdit) : Prop := sh.length = i ∧ ∀ q, q < i → ∃ (p : Nat) (y : GEdit), idx[q]? = some (p : Int) ∧ l[p]? = some y ∧ sh[q]? = some y
theorem Shown.snoc {l : List GEdit} {idx : List Int} {i p : Nat} {sh : List GEdit} {y : GEdit} (h : Shown l idx i sh) (hi : idx[i]? = some (p : Int)) (hp : l[p]? = some y) : Shown l idx (i + 1) (sh ++ [y]) := by
  refine ⟨by simp [h.1], fun q hq => ?_⟩
  by_cases e : q = i
  · subst e
    exact ⟨p, y, hi, hp, by rw [List.getElem?_append_right (by rw [h.1]; exact Nat.le_refl _), h.1]; simp⟩
  · obtain ⟨p', y', h1, h2, h3⟩ := h.2 q (by omega)
    exact ⟨p', y', h1, h2, by rw [List.getElem?_append_left (by rw [h.1]; omega)]; exact h3⟩
theorem Shown.mem {l : List GEdit} {idx : List Int} {i : Nat} {sh : List GEdit} (h : Shown l idx i sh) {x : GEdit} (hx : x ∈ sh) : x ∈ l := by
  obtain ⟨q, hq⟩ := List.mem_iff_getElem?.1 hx
  have hlt := (List.getElem?_eq_some_iff.1 hq).1
  obtain ⟨p, y, h1, h2, h3⟩ := h.2 q (by rw [← h.1]; exact hlt)
  rw [hq] at h3; cases h3
  exact List.mem_of_getElem? h2
def LastIs (idx : List Int) (i : Nat) (last : Int) : Prop := (i = 0 → last = -1) ∧ ∀ q, i = q + 1 → idx[q]? = some last
theorem accept32_c (m : List GObj) (l : List GEdit) (kind : Int) (idx : List Int) (H : Heap) (hm : okMap m) (hl : okEdits l) (hx : idx.length < 4611686018427387904) :
    ACalls Try.prog 17 [.agg [.pv (slObjs m)], .pv (slEdits l), .agg [iv kind, .pv (slInts idx)]] H (fun r H' => r = bv (gAccept m l kind idx) ∧ H' = H) := by
  refine ACalls.pure ?_ (by simp) H
  have hll := hl.1
  have hml : (l.map encEdit).length = l.length := List.length_map _
  have hmi : (idx.map encInt).length = idx.length := List.length_map _
  refine ACalls.body Try.func17 rfl Try.ntmps17 (Nat.le_of_ble_eq_true rfl) ?_
  refine awp_seq ?_
  refine awp_region ?_
  refine al_d rfl rfl rfl (by exact opd_box (id := 3) rfl rfl rfl rfl rfl) ?_
  refine al_d rfl rfl rfl (by exact opd_box (id := 5) rfl rfl rfl rfl rfl) ?_
  refine al_d rfl rfl rfl (by exact opd_assign rfl rfl) ?_
  refine al_nil ?_
  refine awp_seq ?_
  refine awp_region ?_
  refine al_d rfl rfl rfl (by exact x_buildSlice [[.int .i64 0], [.int .i64 5], [.int .i64 3], [.int .i64 3], [.int .i64 4]] rfl so26 rfl rfl rfl rfl rfl (by simp)) ?_
  refine al_d rfl rfl rfl (by exact opd_assign rfl rfl) ?_
  refine al_nil ?_
  refine awp_seq ?_
  refine awp_seq ?_
  -- guard at a region with tests: %bool 32 := ..
  rcases kind_cases1 kind with h | h | ⟨k, rfl, hk1, hk⟩
  · have e1 : decide (kind < 1) = true := by simpa using h
    refine awp_mergeR (t := 32) (n := 19) (X := true) ?_ ?_
    · refine awp_drawc follows ?_
      refine dc_cons (DStep.q rfl (by exact (by first | exact opd_field_ref rfl fo28_0 rfl rfl rfl rfl | exact opd_field_pad rfl fo28_0 rfl rfl))) rfl ?_
      refine dc_cons (DStep.q rfl (by exact (by first | exact opd_load1_ref rfl Try.isAgg3 rfl rfl rfl rfl rfl | exact opd_load1_pad rfl Try.isAgg3 rfl (by first | omega | assumption) rfl))) rfl ?_
      refine dc_cons (DStep.q rfl (by exact opd_lss rfl rfl rfl)) rfl ?_
      refine dc_cons (DStep.q rfl (by exact opd_move rfl rfl)) rfl ?_
      refine dc_cons (q_off_f rfl rfl rfl (by first | rfl | assumption)) rfl ?_
      refine dc_cons (q_off_f rfl rfl rfl (by first | rfl | assumption)) rfl ?_
      refine dc_cons (q_off_f rfl rfl rfl (by first | rfl | assumption)) rfl ?_
      refine dc_cons (DStep.q rfl (by exact (by first | exact opd_pick_t rfl rfl rfl | exact opd_pick_f rfl rfl rfl | exact opd_pickt rfl rfl (by assumption) rfl | exact opd_pickf rfl rfl (by assumption) rfl | exact opd_pick rfl rfl rfl))) rfl ?_
      refine dc_cons (DStep.q rfl (by exact opd_move rfl rfl)) rfl ?_
      refine dc_cons (q_off_f rfl rfl rfl (by first | rfl | assumption)) rfl ?_
      refine dc_cons (q_off_f rfl rfl rfl (by first | rfl | assumption)) rfl ?_
      refine dc_cons (q_off_f rfl rfl rfl (by first | rfl | assumption)) rfl ?_
      refine dc_cons (q_off_f rfl rfl rfl (by first | rfl | assumption)) rfl ?_
      refine dc_cons (q_off_f rfl rfl rfl (by first | rfl | assumption)) rfl ?_
      refine dc_cons (q_off_f rfl rfl rfl (by first | rfl | assumption)) rfl ?_
      refine dc_cons (q_off_f rfl rfl rfl (by first | rfl | assumption)) rfl ?_
      refine dc_cons (q_off_f rfl rfl rfl (by first | rfl | assumption)) rfl ?_
      refine dc_cons (q_off_f rfl rfl rfl (by first | rfl | assumption)) rfl ?_
      refine dc_cons (DStep.q rfl (by exact (by first | exact opd_pick_t rfl rfl rfl | exact opd_pick_f rfl rfl rfl | exact opd_pickt rfl rfl (by assumption) rfl | exact opd_pickf rfl rfl (by assumption) rfl | exact opd_pick rfl rfl rfl))) rfl ?_
      refine dc_nil ⟨by kernel_rfl, ?_⟩
      exact ⟨rfl, ⟨_, rfl, by first | rfl | (simp only [*, Bool.false_and, Bool.true_and, Bool.and_false, Bool.and_true, Bool.true_or, Bool.false_or, Bool.or_true, Bool.or_false, Bool.not_true, Bool.not_false]; done) | (simp_all; done) | (simp_all; omega)⟩, rfl, rfl, rfl⟩
    refine awp_cond rfl (fun hc1 => ?_) (fun hc1 => ?_)
    -- cond 1
    · skip
      refine awp_seq ?_
      refine awp_region ?_
      refine al_d rfl rfl rfl (by exact opd_assign rfl rfl) ?_
      refine al_nil ?_
      refine awp_ret ?_
      -- return
      refine aret1 (H' := []) (by first | exact .inr rfl | exact .inl rfl) rfl (rval_tmp rfl) (Fin.wk (by simp) trivial trivial) ?_
      exact ⟨by simp [gAccept, show ¬ (1 ≤ kind) by omega], rfl⟩
    · cases hc1
  · have e1 : decide (kind < 1) = false := by simp; omega
    have e2 : decide (4 < kind) = true := by simpa using h
    refine awp_mergeR (t := 32) (n := 19) (X := true) ?_ ?_
    · refine awp_drawc follows ?_
      refine dc_cons (DStep.q rfl (by exact (by first | exact opd_field_ref rfl fo28_0 rfl rfl rfl rfl | exact opd_field_pad rfl fo28_0 rfl rfl))) rfl ?_
      refine dc_cons (DStep.q rfl (by exact (by first | exact opd_load1_ref rfl Try.isAgg3 rfl rfl rfl rfl rfl | exact opd_load1_pad rfl Try.isAgg3 rfl (by first | omega | assumption) rfl))) rfl ?_
      refine dc_cons (DStep.q rfl (by exact opd_lss rfl rfl rfl)) rfl ?_
      refine dc_cons (DStep.q rfl (by exact opd_move rfl rfl)) rfl ?_
      refine dc_cons (q_on_f rfl rfl rfl (by first | rfl | assumption) (by exact (by first | exact opd_field_ref rfl fo28_0 rfl rfl rfl rfl | exact opd_field_pad rfl fo28_0 rfl rfl))) rfl ?_
      refine dc_cons (q_on_f rfl rfl rfl (by first | rfl | assumption) (by exact (by first | exact opd_load1_ref rfl Try.isAgg3 rfl rfl rfl rfl rfl | exact opd_load1_pad rfl Try.isAgg3 rfl (by first | omega | assumption) rfl))) rfl ?_
      refine dc_cons (q_on_f rfl rfl rfl (by first | rfl | assumption) (by exact opd_gtr rfl rfl rfl)) rfl ?_
      refine dc_cons (DStep.q rfl (by exact (by first | exact opd_pick_t rfl rfl rfl | exact opd_pick_f rfl rfl rfl | exact opd_pickt rfl rfl (by assumption) rfl | exact opd_pickf rfl rfl (by assumption) rfl | exact opd_pick rfl rfl rfl))) rfl ?_
      refine dc_cons (DStep.q rfl (by exact opd_move rfl rfl)) rfl ?_
      refine dc_cons (q_off_f rfl rfl rfl (by first | rfl | assumption)) rfl ?_
      refine dc_cons (q_off_f rfl rfl rfl (by first | rfl | assumption)) rfl ?_
      refine dc_cons (q_off_f rfl rfl rfl (by first | rfl | assumption)) rfl ?_
      refine dc_cons (q_off_f rfl rfl rfl (by first | rfl | assumption)) rfl ?_
      refine dc_cons (q_off_f rfl rfl rfl (by first | rfl | assumption)) rfl ?_
      refine dc_cons (q_off_f rfl rfl rfl (by first | rfl | assumption)) rfl ?_
      refine dc_cons (q_off_f rfl rfl rfl (by first | rfl | assumption)) rfl ?_
      refine dc_cons (q_off_f rfl rfl rfl (by first | rfl | assumption)) rfl ?_
      refine dc_cons (q_off_f rfl rfl rfl (by first | rfl | assumption)) rfl ?_
      refine dc_cons (DStep.q rfl (by exact (by first | exact opd_pick_t rfl rfl rfl | exact opd_pick_f rfl rfl rfl | exact opd_pickt rfl rfl (by assumption) rfl | exact opd_pickf rfl rfl (by assumption) rfl | exact opd_pick rfl rfl rfl))) rfl ?_
      refine dc_nil ⟨by kernel_rfl, ?_⟩
      exact ⟨rfl, ⟨_, rfl, by first | rfl | (simp only [*, Bool.false_and, Bool.true_and, Bool.and_false, Bool.and_true, Bool.true_or, Bool.false_or, Bool.or_true, Bool.or_false, Bool.not_true, Bool.not_false]; done) | (simp_all; done) | (simp_all; omega)⟩, rfl, rfl, rfl⟩
    refine awp_cond rfl (fun hc2 => ?_) (fun hc2 => ?_)
    -- cond 2
    · skip
      refine awp_seq ?_
      refine awp_region ?_
      refine al_d rfl rfl rfl (by exact opd_assign rfl rfl) ?_
      refine al_nil ?_
      refine awp_ret ?_
      -- return
      refine aret1 (H' := []) (by first | exact .inr rfl | exact .inl rfl) rfl (rval_tmp rfl) (Fin.wk (by simp) trivial trivial) ?_
      exact ⟨by simp [gAccept, show ¬ (kind ≤ 4) by omega], rfl⟩
    · cases hc2
  · have e1 : decide ((k : Int) < 1) = false := by simp; omega
    have e2 : decide (4 < (k : Int)) = false := by simp; omega
    refine awp_mergeR (t := 32) (n := 19) (X := !decide (((idx.map encInt).length : Int) = kMany k)) ?_ ?_
    · refine awp_drawc follows ?_
      refine dc_cons (DStep.q rfl (by exact (by first | exact opd_field_ref rfl fo28_0 rfl rfl rfl rfl | exact opd_field_pad rfl fo28_0 rfl rfl))) rfl ?_
      refine dc_cons (DStep.q rfl (by exact (by first | exact opd_load1_ref rfl Try.isAgg3 rfl rfl rfl rfl rfl | exact opd_load1_pad rfl Try.isAgg3 rfl (by first | omega | assumption) rfl))) rfl ?_
      refine dc_cons (DStep.q rfl (by exact opd_lss rfl rfl rfl)) rfl ?_
      refine dc_cons (DStep.q rfl (by exact opd_move rfl rfl)) rfl ?_
      refine dc_cons (q_on_f rfl rfl rfl (by first | rfl | assumption) (by exact (by first | exact opd_field_ref rfl fo28_0 rfl rfl rfl rfl | exact opd_field_pad rfl fo28_0 rfl rfl))) rfl ?_
      refine dc_cons (q_on_f rfl rfl rfl (by first | rfl | assumption) (by exact (by first | exact opd_load1_ref rfl Try.isAgg3 rfl rfl rfl rfl rfl | exact opd_load1_pad rfl Try.isAgg3 rfl (by first | omega | assumption) rfl))) rfl ?_
      refine dc_cons (q_on_f rfl rfl rfl (by first | rfl | assumption) (by exact opd_gtr rfl rfl rfl)) rfl ?_
      refine dc_cons (DStep.q rfl (by exact (by first | exact opd_pick_t rfl rfl rfl | exact opd_pick_f rfl rfl rfl | exact opd_pickt rfl rfl (by assumption) rfl | exact opd_pickf rfl rfl (by assumption) rfl | exact opd_pick rfl rfl rfl))) rfl ?_
      refine dc_cons (DStep.q rfl (by exact opd_move rfl rfl)) rfl ?_
      refine dc_cons (q_on_f rfl rfl rfl (by first | rfl | assumption) (by exact (by first | exact opd_field_ref rfl fo28_1 rfl rfl rfl rfl | exact opd_field_pad rfl fo28_1 rfl rfl))) rfl ?_
      refine dc_cons (q_on_f rfl rfl rfl (by first | rfl | assumption) (by exact (by first | exact opd_load1_ref rfl Try.isAgg26 rfl rfl rfl rfl rfl | exact opd_load1_pad rfl Try.isAgg26 rfl (by first | omega | assumption) rfl))) rfl ?_
      refine dc_cons (q_on_f rfl rfl rfl (by first | rfl | assumption) (by exact (by first | exact opd_len_sl rfl Try.underlying26 rfl | exact opd_len_osl rfl Try.underlying26 rfl rfl rfl))) rfl ?_
      refine dc_cons (q_on_f rfl rfl rfl (by first | rfl | assumption) (by exact opd_move rfl rfl)) rfl ?_
      refine dc_cons (q_on_f rfl rfl rfl (by first | rfl | assumption) (by exact (by first | exact opd_field_ref rfl fo28_0 rfl rfl rfl rfl | exact opd_field_pad rfl fo28_0 rfl rfl))) rfl ?_
      refine dc_cons (q_on_f rfl rfl rfl (by first | rfl | assumption) (by exact (by first | exact opd_load1_ref rfl Try.isAgg3 rfl rfl rfl rfl rfl | exact opd_load1_pad rfl Try.isAgg3 rfl (by first | omega | assumption) rfl))) rfl ?_
      refine dc_cons (q_on_f rfl rfl rfl (by first | rfl | assumption) (by exact (by first | exact x_index_pad rfl so26 rfl rfl (by omega) (by first | exact Int.toNat_natCast _ | rfl) (manyRow hk) rfl | exact x_index_osl rfl so26 rfl rfl rfl rfl rfl (by omega) (by first | exact Int.toNat_natCast _ | rfl) (manyRow hk) rfl))) rfl ?_
      refine dc_cons (q_on_f rfl rfl rfl (by first | rfl | assumption) (by exact (by first | exact opd_load1_ref rfl Try.isAgg3 rfl rfl rfl (manyRow hk) rfl | exact opd_load1_pad rfl Try.isAgg3 rfl (manyRow hk) rfl))) rfl ?_
      refine dc_cons (q_on_f rfl rfl rfl (by first | rfl | assumption) (by exact opd_neq rfl rfl rfl)) rfl ?_
      refine dc_cons (DStep.q rfl (by exact (by first | exact opd_pick_t rfl rfl rfl | exact opd_pick_f rfl rfl rfl | exact opd_pickt rfl rfl (by assumption) rfl | exact opd_pickf rfl rfl (by assumption) rfl | exact opd_pick rfl rfl rfl))) rfl ?_
      refine dc_nil ⟨by kernel_rfl, ?_⟩
      exact ⟨rfl, ⟨_, rfl, by first | rfl | (simp only [*, Bool.false_and, Bool.true_and, Bool.and_false, Bool.and_true, Bool.true_or, Bool.false_or, Bool.or_true, Bool.or_false, Bool.not_true, Bool.not_false]; done) | (simp_all; done) | (simp_all; omega)⟩, rfl, rfl, rfl⟩
    refine awp_cond rfl (fun hc3 => ?_) (fun hc3 => ?_)
    -- cond 3
    · have hbad : ¬ ((idx.length : Int) = kMany k) := by
        simpa using hc3
      refine awp_seq ?_
      refine awp_region ?_
      refine al_d rfl rfl rfl (by exact opd_assign rfl rfl) ?_
      refine al_nil ?_
      refine awp_ret ?_
      -- return
      refine aret1 (H' := []) (by first | exact .inr rfl | exact .inl rfl) rfl (rval_tmp rfl) (Fin.wk (by simp) trivial trivial) ?_
      refine ⟨?_, rfl⟩
      have : gAccept m l k idx = false := by simp [gAccept, hbad]
      rw [this]
    · have hlen : (idx.length : Int) = kMany k := by
        simpa using hc3
      have h5 := kMany_le k
      have hacc : gAccept m l k idx = (gAccLoop k m l idx [] (-1) && (!decide ((k : Int) = 1) || decide ((l.length : Int) - (l.countP gDrop : Nat) < (l.countP gDrop : Nat)))) := by
        simp [gAccept, hlen, show (1 : Int) ≤ k by omega, show (k : Int) ≤ 4 by omega]
      rw [hacc]
      have hcn : l.countP gDrop ≤ l.length := List.countP_le_length
      refine awp_skip ?_
      refine awp_seq ?_
      refine awp_region ?_
      refine al_d rfl rfl rfl (by exact opd_assign rfl rfl) ?_
      refine al_nil ?_
      refine awp_seq ?_
      refine awp_seq ?_
      refine awp_region ?_
      refine al_d rfl rfl rfl (by exact opd_assign rfl rfl) ?_
      refine al_nil ?_
      refine awp_block ?_
      -- loop
      refine awp_loop (σ := Nat) (fun q => ([(1, .pv (slEdits l)), (3, .ref 3 0 0 0), (5, .ref 5 0 0 0), (8, iv ((l.take q).countP gDrop : Nat)), (9, iv (q : Int))], [(5, bx 2 28 [iv (k : Int), .pv (slInts idx)]), (3, bx 1 24 [.pv (slObjs m)])]))
            (fun q => q ≤ l.length) (fun q => l.length - q) 0 (by omega) ?_ ?_
      · exact (Ent.wk ⟨⟨_, rfl, rfl⟩, (by first | (simp; done) | (simp; rfl) | exact clo_map _ _ _), ⟨_, rfl, rfl⟩, (by first | (simp; done) | (simp; rfl) | exact clo_map _ _ _), ⟨_, rfl, rfl⟩, (by first | (simp; done) | (simp; rfl) | exact clo_map _ _ _), ⟨_, rfl, rfl⟩, (by first | (simp; done) | (simp; rfl) | exact clo_map _ _ _), ⟨_, rfl, rfl⟩, (by first | (simp; done) | (simp; rfl) | exact clo_map _ _ _), trivial⟩ ⟨⟨_, rfl, rfl⟩, (by first | (simp; done) | (simp; rfl) | exact clo_map _ _ _), ⟨_, rfl, rfl⟩, (by first | (simp; done) | (simp; rfl) | exact clo_map _ _ _), trivial⟩ trivial)
      · intro q hq
        have hcq : (l.take q).countP gDrop ≤ q := Nat.le_trans List.countP_le_length (by simp; omega)
        refine awp_seq ?_
        refine awp_seq ?_
        refine awp_region ?_
        refine al_d rfl rfl rfl (by exact opd_move rfl rfl) ?_
        refine al_d rfl rfl rfl (by exact opd_move rfl rfl) ?_
        refine al_d rfl rfl rfl (by exact (by first | exact opd_len_sl rfl Try.underlying25 rfl | exact opd_len_osl rfl Try.underlying25 rfl rfl rfl)) ?_
        refine al_d rfl rfl rfl (by exact opd_lss rfl rfl rfl) ?_
        refine al_nil ?_
        refine awp_cond rfl (fun hc4 => ?_) (fun hc4 => ?_)
        -- cond 4
        · have hlt : q < l.length := by simpa using hc4
          obtain ⟨y, hy⟩ := get_of_lt hlt
          have hye := map_get (f := encEdit) hy
          have hnext := countP_take gDrop hy
          refine awp_skip ?_
          refine awp_seq ?_
          refine awp_block ?_
          refine awp_seq ?_
          refine awp_region ?_
          refine al_d rfl rfl rfl (by exact opd_move rfl rfl) ?_
          refine al_d rfl rfl rfl (by exact opd_move rfl rfl) ?_
          refine al_d rfl rfl rfl (by exact (by first | exact x_index_pad rfl so25 rfl rfl (by omega) (by first | exact Int.toNat_natCast _ | rfl) (by assumption) rfl | exact x_index_osl rfl so25 rfl rfl rfl rfl rfl (by omega) (by first | exact Int.toNat_natCast _ | rfl) (by first | omega | assumption) rfl)) ?_
          refine al_d rfl rfl rfl (by exact (by first | exact opd_field_ref rfl fo39_0 rfl rfl rfl rfl | exact opd_field_pad rfl fo39_0 rfl rfl)) ?_
          refine al_d rfl rfl rfl (by exact (by first | exact opd_load1_ref rfl Try.isAgg3 rfl rfl rfl rfl rfl | exact opd_load1_pad rfl Try.isAgg3 rfl (by first | omega | assumption) rfl)) ?_
          refine al_d rfl rfl rfl (by exact opd_eql rfl rfl rfl) ?_
          refine al_nil ?_
          refine awp_cond rfl (fun hc5 => ?_) (fun hc5 => ?_)
          -- cond 5
          · have hd : gDrop y = true := hc5
            rw [hd, if_pos rfl] at hnext
            refine awp_region ?_
            refine al_d rfl rfl rfl (by exact opd_move rfl rfl) ?_
            refine al_d rfl rfl rfl (by exact opd_add rfl rfl rfl (by first | exact w64 (by omega) (by omega) | exact wu8 (by omega) (by omega) | rfl)) ?_
            refine al_d rfl rfl rfl (by exact opd_assign rfl rfl) ?_
            refine al_nil ?_
            refine awp_region ?_
            refine al_d rfl rfl rfl (by exact opd_move rfl rfl) ?_
            refine al_d rfl rfl rfl (by exact opd_add rfl rfl rfl (by first | exact w64 (by omega) (by omega) | exact wu8 (by omega) (by omega) | rfl)) ?_
            refine al_d rfl rfl rfl (by exact opd_assign rfl rfl) ?_
            refine al_nil ?_
            -- end of a round
            refine ⟨q + 1, by omega, by omega, ?_⟩
            rw [hnext]
            exact (Ent.wk ⟨⟨_, rfl, rfl⟩, (by first | (simp; done) | (simp; rfl) | exact clo_map _ _ _), ⟨_, rfl, rfl⟩, (by first | (simp; done) | (simp; rfl) | exact clo_map _ _ _), ⟨_, rfl, rfl⟩, (by first | (simp; done) | (simp; rfl) | exact clo_map _ _ _), ⟨_, rfl, rfl⟩, (by first | (simp; done) | (simp; rfl) | exact clo_map _ _ _), ⟨_, rfl, rfl⟩, (by first | (simp; done) | (simp; rfl) | exact clo_map _ _ _), trivial⟩ ⟨⟨_, rfl, rfl⟩, (by first | (simp; done) | (simp; rfl) | exact clo_map _ _ _), ⟨_, rfl, rfl⟩, (by first | (simp; done) | (simp; rfl) | exact clo_map _ _ _), trivial⟩ trivial)
          · have hd : gDrop y = false := hc5
            rw [hd] at hnext
            simp only [Bool.false_eq_true, if_false, Nat.add_zero] at hnext
            refine awp_skip ?_
            refine awp_region ?_
            refine al_d rfl rfl rfl (by exact opd_move rfl rfl) ?_
            refine al_d rfl rfl rfl (by exact opd_add rfl rfl rfl (by first | exact w64 (by omega) (by omega) | exact wu8 (by omega) (by omega) | rfl)) ?_
            refine al_d rfl rfl rfl (by exact opd_assign rfl rfl) ?_
            refine al_nil ?_
            -- end of a round
            refine ⟨q + 1, by omega, by omega, ?_⟩
            rw [hnext]
            exact (Ent.wk ⟨⟨_, rfl, rfl⟩, (by first | (simp; done) | (simp; rfl) | exact clo_map _ _ _), ⟨_, rfl, rfl⟩, (by first | (simp; done) | (simp; rfl) | exact clo_map _ _ _), ⟨_, rfl, rfl⟩, (by first | (simp; done) | (simp; rfl) | exact clo_map _ _ _), ⟨_, rfl, rfl⟩, (by first | (simp; done) | (simp; rfl) | exact clo_map _ _ _), ⟨_, rfl, rfl⟩, (by first | (simp; done) | (simp; rfl) | exact clo_map _ _ _), trivial⟩ ⟨⟨_, rfl, rfl⟩, (by first | (simp; done) | (simp; rfl) | exact clo_map _ _ _), ⟨_, rfl, rfl⟩, (by first | (simp; done) | (simp; rfl) | exact clo_map _ _ _), trivial⟩ trivial)
        · have hge : q = l.length := by
            have : l.length ≤ q := by simpa using hc4
            omega
          subst hge
          rw [List.take_length]
          refine awp_exit ?_
          refine awp_seq ?_
          refine awp_seq ?_
          refine awp_bool (t := 56) (n := 11) (X := decide ((k : Int) = 1) && decide (2 * ((l.countP gDrop : Nat) : Int) ≤ ((l.map encEdit).length : Nat))) ?_ ?_
          · all_goals (refine al_d rfl rfl rfl (by exact (by first | exact opd_field_ref rfl fo28_0 rfl rfl rfl rfl | exact opd_field_pad rfl fo28_0 rfl rfl)) ?_)
            all_goals (refine al_d rfl rfl rfl (by exact (by first | exact opd_load1_ref rfl Try.isAgg3 rfl rfl rfl rfl rfl | exact opd_load1_pad rfl Try.isAgg3 rfl (by first | omega | assumption) rfl)) ?_)
            all_goals (refine al_d rfl rfl rfl (by exact opd_eql rfl rfl rfl) ?_)
            all_goals (refine al_d rfl rfl rfl (by exact opd_move rfl rfl) ?_)
            all_goals (first | refine al_split (t := 50) rfl (fun h50 => ?_) (fun h50 => ?_) | skip)
            all_goals (try contradiction)
            all_goals (first | refine al_off rfl rfl rfl rfl rfl ?_ | refine al_offu rfl rfl rfl rfl ?_ | refine al_ond rfl rfl rfl rfl rfl rfl (by exact opd_move rfl rfl) ?_)
            all_goals (first | refine al_off rfl rfl rfl rfl rfl ?_ | refine al_offu rfl rfl rfl rfl ?_ | refine al_ond rfl rfl rfl rfl rfl rfl (by exact opd_mul rfl rfl rfl (by first | exact w64 (by omega) (by omega) | exact wu8 (by omega) (by omega) | rfl)) ?_)
            all_goals (first | refine al_off rfl rfl rfl rfl rfl ?_ | refine al_offu rfl rfl rfl rfl ?_ | refine al_ond rfl rfl rfl rfl rfl rfl (by exact opd_move rfl rfl) ?_)
            all_goals (first | refine al_off rfl rfl rfl rfl rfl ?_ | refine al_offu rfl rfl rfl rfl ?_ | refine al_ond rfl rfl rfl rfl rfl rfl (by exact (by first | exact opd_len_sl rfl Try.underlying25 rfl | exact opd_len_osl rfl Try.underlying25 rfl rfl rfl)) ?_)
            all_goals (first | refine al_off rfl rfl rfl rfl rfl ?_ | refine al_offu rfl rfl rfl rfl ?_ | refine al_ond rfl rfl rfl rfl rfl rfl (by exact opd_leq rfl rfl rfl) ?_)
            all_goals (refine al_d rfl rfl rfl (by exact (by first | exact opd_pick_t rfl rfl rfl | exact opd_pick_f rfl rfl rfl | exact opd_pickt rfl rfl (by assumption) rfl | exact opd_pickf rfl rfl (by assumption) rfl | exact opd_pick rfl rfl rfl)) ?_)
            all_goals (refine al_nil ?_)
            all_goals (exact ⟨⟨_, rfl, by first | rfl | (simp only [*, Bool.false_and, Bool.true_and, Bool.and_false, Bool.and_true, Bool.true_or, Bool.false_or, Bool.or_true, Bool.or_false, Bool.not_true, Bool.not_false]; done) | (simp_all; done) | (simp_all; omega)⟩, rfl, rfl, rfl⟩)
          refine awp_cond rfl (fun hc6 => ?_) (fun hc6 => ?_)
          -- cond 6
          · have hbad : (!decide ((k : Int) = 1) || decide ((l.length : Int) - (l.countP gDrop : Nat) < (l.countP gDrop : Nat))) = false := by
              simp only [Bool.and_eq_true, decide_eq_true_eq] at hc6
              simp only [Bool.or_eq_false_iff, Bool.not_eq_false', decide_eq_true_eq, decide_eq_false_iff_not]
              omega
            refine awp_seq ?_
            refine awp_region ?_
            refine al_d rfl rfl rfl (by exact opd_assign rfl rfl) ?_
            refine al_nil ?_
            refine awp_ret ?_
            -- return
            refine aret1 (H' := []) (by first | exact .inr rfl | exact .inl rfl) rfl (rval_tmp rfl) (Fin.wk (by simp) trivial trivial) ?_
            exact ⟨by rw [hbad, Bool.and_false], rfl⟩
          · have hgood : (!decide ((k : Int) = 1) || decide ((l.length : Int) - (l.countP gDrop : Nat) < (l.countP gDrop : Nat))) = true := by
              simp only [Bool.and_eq_false_iff, decide_eq_false_iff_not] at hc6
              simp only [Bool.or_eq_true, Bool.not_eq_true', decide_eq_true_eq, decide_eq_false_iff_not]
              omega
            rw [hgood, Bool.and_true]
            refine awp_skip ?_
            refine awp_seq ?_
            refine awp_seq ?_
            refine awp_region ?_
            refine al_d rfl rfl rfl (by exact opd_assign rfl rfl) ?_
            refine al_nil ?_
            refine awp_block ?_
            -- loop
            refine awp_loop3 (fun (i : Nat) (sh : List GEdit) (last : Int) => ([(1, .pv (slEdits l)), (3, .ref 3 0 0 0), (5, .ref 5 0 0 0), (10, iv (i : Int))], [(5, bx 2 28 [iv (k : Int), .pv (slInts idx)]), (3, bx 1 24 [.pv (slObjs m)])]))
              (fun i sh last => i ≤ idx.length ∧ Shown l idx i sh ∧ LastIs idx i last ∧ -1 ≤ last ∧ gAccLoop k m l idx [] (-1) = gAccLoop k m l (idx.drop i) sh last) (fun i _ _ => idx.length - i) 0 [] (-1)
              ⟨by omega, ⟨rfl, fun q hq => absurd hq (by omega)⟩, ⟨fun _ => rfl, fun q hq => absurd hq (by omega)⟩, by omega, rfl⟩ ?_ ?_
            · exact (Ent.wk ⟨⟨_, rfl, rfl⟩, (by first | (simp; done) | (simp; rfl) | exact clo_map _ _ _), ⟨_, rfl, rfl⟩, (by first | (simp; done) | (simp; rfl) | exact clo_map _ _ _), ⟨_, rfl, rfl⟩, (by first | (simp; done) | (simp; rfl) | exact clo_map _ _ _), ⟨_, rfl, rfl⟩, (by first | (simp; done) | (simp; rfl) | exact clo_map _ _ _), trivial⟩ ⟨⟨_, rfl, rfl⟩, (by first | (simp; done) | (simp; rfl) | exact clo_map _ _ _), ⟨_, rfl, rfl⟩, (by first | (simp; done) | (simp; rfl) | exact clo_map _ _ _), trivial⟩ trivial)
            · rintro i sh last ⟨hi, hsh, hlast, hl1, hinv⟩
              refine awp_seq ?_
              refine awp_seq ?_
              refine awp_region ?_
              refine al_d rfl rfl rfl (by exact opd_move rfl rfl) ?_
              refine al_d rfl rfl rfl (by exact (by first | exact opd_field_ref rfl fo28_1 rfl rfl rfl rfl | exact opd_field_pad rfl fo28_1 rfl rfl)) ?_
              refine al_d rfl rfl rfl (by exact (by first | exact opd_load1_ref rfl Try.isAgg26 rfl rfl rfl rfl rfl | exact opd_load1_pad rfl Try.isAgg26 rfl (by first | omega | assumption) rfl)) ?_
              refine al_d rfl rfl rfl (by exact (by first | exact opd_len_sl rfl Try.underlying26 rfl | exact opd_len_osl rfl Try.underlying26 rfl rfl rfl)) ?_
              refine al_d rfl rfl rfl (by exact opd_lss rfl rfl rfl) ?_
              refine al_nil ?_
              refine awp_cond rfl (fun hc7 => ?_) (fun hc7 => ?_)
              -- cond 7
              · have hlt : i < idx.length := by simpa using hc7
                obtain ⟨x, hxi⟩ := get_of_lt hlt
                have hii := map_get (f := encInt) hxi
                rw [drop_of_get hxi] at hinv
                refine awp_skip ?_
                refine awp_seq ?_
                refine awp_block ?_
                refine awp_seq ?_
                refine awp_region ?_
                refine al_d rfl rfl rfl (by exact (by first | exact opd_field_ref rfl fo28_1 rfl rfl rfl rfl | exact opd_field_pad rfl fo28_1 rfl rfl)) ?_
                refine al_d rfl rfl rfl (by exact (by first | exact opd_load1_ref rfl Try.isAgg26 rfl rfl rfl rfl rfl | exact opd_load1_pad rfl Try.isAgg26 rfl (by first | omega | assumption) rfl)) ?_
                refine al_d rfl rfl rfl (by exact opd_move rfl rfl) ?_
                refine al_d rfl rfl rfl (by exact (by first | exact x_index_pad rfl so26 rfl rfl (by omega) (by first | exact Int.toNat_natCast _ | rfl) (by assumption) rfl | exact x_index_osl rfl so26 rfl rfl rfl rfl rfl (by omega) (by first | exact Int.toNat_natCast _ | rfl) (by first | omega | assumption) rfl)) ?_
                refine al_d rfl rfl rfl (by exact (by first | exact opd_load1_ref rfl Try.isAgg3 rfl rfl rfl rfl rfl | exact opd_load1_pad rfl Try.isAgg3 rfl (by first | omega | assumption) rfl)) ?_
                refine al_d rfl rfl rfl (by exact opd_assign rfl rfl) ?_
                refine al_nil ?_
                refine awp_seq ?_
                refine awp_seq ?_
                -- guard at a region with tests: %bool 101 := ..
                rcases idx_cases0 x l with h | ⟨h0, h⟩ | ⟨p, y, rfl, hpl, hp⟩
                · have e3 : decide (x < 0) = true := by simpa using h
                  refine awp_mergeR (t := 101) (n := 33) (X := true) ?_ ?_
                  · refine awp_drawc follows ?_
                    refine dc_cons (DStep.q rfl (by exact opd_move rfl rfl)) rfl ?_
                    refine dc_cons (DStep.q rfl (by exact opd_lss rfl rfl rfl)) rfl ?_
                    refine dc_cons (DStep.q rfl (by exact opd_move rfl rfl)) rfl ?_
                    refine dc_cons (q_off_f rfl rfl rfl (by first | rfl | assumption)) rfl ?_
                    refine dc_cons (q_off_f rfl rfl rfl (by first | rfl | assumption)) rfl ?_
                    refine dc_cons (q_off_f rfl rfl rfl (by first | rfl | assumption)) rfl ?_
                    refine dc_cons (q_off_f rfl rfl rfl (by first | rfl | assumption)) rfl ?_
                    refine dc_cons (DStep.q rfl (by exact (by first | exact opd_pick_t rfl rfl rfl | exact opd_pick_f rfl rfl rfl | exact opd_pickt rfl rfl (by assumption) rfl | exact opd_pickf rfl rfl (by assumption) rfl | exact opd_pick rfl rfl rfl))) rfl ?_
                    refine dc_cons (DStep.q rfl (by exact opd_move rfl rfl)) rfl ?_
                    refine dc_cons (q_off_f rfl rfl rfl (by first | rfl | assumption)) rfl ?_
                    refine dc_cons (q_off_f rfl rfl rfl (by first | rfl | assumption)) rfl ?_
                    refine dc_cons (q_off_f rfl rfl rfl (by first | rfl | assumption)) rfl ?_
                    refine dc_cons (q_off_u rfl rfl rfl) rfl ?_
                    refine dc_cons (q_off_u rfl rfl rfl) rfl ?_
                    refine dc_cons (q_off_u rfl rfl rfl) rfl ?_
                    refine dc_cons (q_off_u rfl rfl rfl) rfl ?_
                    refine dc_cons (q_off_u rfl rfl rfl) rfl ?_
                    refine dc_cons (q_off_u rfl rfl rfl) rfl ?_
                    refine dc_cons (q_off_u rfl rfl rfl) rfl ?_
                    refine dc_cons (q_off_u rfl rfl rfl) rfl ?_
                    refine dc_cons (q_off_f rfl rfl rfl (by first | rfl | assumption)) rfl ?_
                    refine dc_cons (DStep.q rfl (by exact (by first | exact opd_pick_t rfl rfl rfl | exact opd_pick_f rfl rfl rfl | exact opd_pickt rfl rfl (by assumption) rfl | exact opd_pickf rfl rfl (by assumption) rfl | exact opd_pick rfl rfl rfl))) rfl ?_
                    refine dc_cons (DStep.q rfl (by exact opd_move rfl rfl)) rfl ?_
                    refine dc_cons (q_off_f rfl rfl rfl (by first | rfl | assumption)) rfl ?_
                    refine dc_cons (q_off_f rfl rfl rfl (by first | rfl | assumption)) rfl ?_
                    refine dc_cons (q_off_f rfl rfl rfl (by first | rfl | assumption)) rfl ?_
                    refine dc_cons (q_off_f rfl rfl rfl (by first | rfl | assumption)) rfl ?_
                    refine dc_cons (q_off_f rfl rfl rfl (by first | rfl | assumption)) rfl ?_
                    refine dc_cons (q_off_f rfl rfl rfl (by first | rfl | assumption)) rfl ?_
                    refine dc_cons (q_off_f rfl rfl rfl (by first | rfl | assumption)) rfl ?_
                    refine dc_cons (q_off_f rfl rfl rfl (by first | rfl | assumption)) rfl ?_
                    refine dc_cons (q_off_f rfl rfl rfl (by first | rfl | assumption)) rfl ?_
                    refine dc_cons (DStep.q rfl (by exact (by first | exact opd_pick_t rfl rfl rfl | exact opd_pick_f rfl rfl rfl | exact opd_pickt rfl rfl (by assumption) rfl | exact opd_pickf rfl rfl (by assumption) rfl | exact opd_pick rfl rfl rfl))) rfl ?_
                    refine dc_nil ⟨by kernel_rfl, ?_⟩
                    exact ⟨rfl, ⟨_, rfl, by first | rfl | (simp only [*, Bool.false_and, Bool.true_and, Bool.and_false, Bool.and_true, Bool.true_or, Bool.false_or, Bool.or_true, Bool.or_false, Bool.not_true, Bool.not_false]; done) | (simp_all; done) | (simp_all; omega)⟩, rfl, rfl, rfl⟩
                  refine awp_cond rfl (fun hc8 => ?_) (fun hc8 => ?_)
                  -- cond 8
                  · skip
                    refine awp_seq ?_
                    refine awp_region ?_
                    refine al_d rfl rfl rfl (by exact opd_assign rfl rfl) ?_
                    refine al_nil ?_
                    refine awp_ret ?_
                    -- return
                    refine aret1 (H' := []) (by first | exact .inr rfl | exact .inl rfl) rfl (rval_tmp rfl) (Fin.wk (by simp) trivial trivial) ?_
                    exact ⟨by rw [hinv, gAccLoop_stop (.inl (by omega))], rfl⟩
                  · cases hc8
                · have e3 : decide (x < 0) = false := by simp; omega
                  have e4 : decide (((l.map encEdit).length : Int) ≤ x) = true := by simpa using h
                  refine awp_mergeR (t := 101) (n := 33) (X := true) ?_ ?_
                  · refine awp_drawc follows ?_
                    refine dc_cons (DStep.q rfl (by exact opd_move rfl rfl)) rfl ?_
                    refine dc_cons (DStep.q rfl (by exact opd_lss rfl rfl rfl)) rfl ?_
                    refine dc_cons (DStep.q rfl (by exact opd_move rfl rfl)) rfl ?_
                    refine dc_cons (q_on_f rfl rfl rfl (by first | rfl | assumption) (by exact opd_move rfl rfl)) rfl ?_
                    refine dc_cons (q_on_f rfl rfl rfl (by first | rfl | assumption) (by exact opd_move rfl rfl)) rfl ?_
                    refine dc_cons (q_on_f rfl rfl rfl (by first | rfl | assumption) (by exact (by first | exact opd_len_sl rfl Try.underlying25 rfl | exact opd_len_osl rfl Try.underlying25 rfl rfl rfl))) rfl ?_
                    refine dc_cons (q_on_f rfl rfl rfl (by first | rfl | assumption) (by exact opd_geq rfl rfl rfl)) rfl ?_
                    refine dc_cons (DStep.q rfl (by exact (by first | exact opd_pick_t rfl rfl rfl | exact opd_pick_f rfl rfl rfl | exact opd_pickt rfl rfl (by assumption) rfl | exact opd_pickf rfl rfl (by assumption) rfl | exact opd_pick rfl rfl rfl))) rfl ?_
                    refine dc_cons (DStep.q rfl (by exact opd_move rfl rfl)) rfl ?_
                    refine dc_cons (q_off_f rfl rfl rfl (by first | rfl | assumption)) rfl ?_
                    refine dc_cons (q_off_f rfl rfl rfl (by first | rfl | assumption)) rfl ?_
                    refine dc_cons (q_off_f rfl rfl rfl (by first | rfl | assumption)) rfl ?_
                    refine dc_cons (q_off_u rfl rfl rfl) rfl ?_
                    refine dc_cons (q_off_u rfl rfl rfl) rfl ?_
                    refine dc_cons (q_off_u rfl rfl rfl) rfl ?_
                    refine dc_cons (q_off_u rfl rfl rfl) rfl ?_
                    refine dc_cons (q_off_u rfl rfl rfl) rfl ?_
                    refine dc_cons (q_off_u rfl rfl rfl) rfl ?_
                    refine dc_cons (q_off_u rfl rfl rfl) rfl ?_
                    refine dc_cons (q_off_u rfl rfl rfl) rfl ?_
                    refine dc_cons (q_off_f rfl rfl rfl (by first | rfl | assumption)) rfl ?_
                    refine dc_cons (DStep.q rfl (by exact (by first | exact opd_pick_t rfl rfl rfl | exact opd_pick_f rfl rfl rfl | exact opd_pickt rfl rfl (by assumption) rfl | exact opd_pickf rfl rfl (by assumption) rfl | exact opd_pick rfl rfl rfl))) rfl ?_
                    refine dc_cons (DStep.q rfl (by exact opd_move rfl rfl)) rfl ?_
                    refine dc_cons (q_off_f rfl rfl rfl (by first | rfl | assumption)) rfl ?_
                    refine dc_cons (q_off_f rfl rfl rfl (by first | rfl | assumption)) rfl ?_
                    refine dc_cons (q_off_f rfl rfl rfl (by first | rfl | assumption)) rfl ?_
                    refine dc_cons (q_off_f rfl rfl rfl (by first | rfl | assumption)) rfl ?_
                    refine dc_cons (q_off_f rfl rfl rfl (by first | rfl | assumption)) rfl ?_
                    refine dc_cons (q_off_f rfl rfl rfl (by first | rfl | assumption)) rfl ?_
                    refine dc_cons (q_off_f rfl rfl rfl (by first | rfl | assumption)) rfl ?_
                    refine dc_cons (q_off_f rfl rfl rfl (by first | rfl | assumption)) rfl ?_
                    refine dc_cons (q_off_f rfl rfl rfl (by first | rfl | assumption)) rfl ?_
                    refine dc_cons (DStep.q rfl (by exact (by first | exact opd_pick_t rfl rfl rfl | exact opd_pick_f rfl rfl rfl | exact opd_pickt rfl rfl (by assumption) rfl | exact opd_pickf rfl rfl (by assumption) rfl | exact opd_pick rfl rfl rfl))) rfl ?_
                    refine dc_nil ⟨by kernel_rfl, ?_⟩
                    exact ⟨rfl, ⟨_, rfl, by first | rfl | (simp only [*, Bool.false_and, Bool.true_and, Bool.and_false, Bool.and_true, Bool.true_or, Bool.false_or, Bool.or_true, Bool.or_false, Bool.not_true, Bool.not_false]; done) | (simp_all; done) | (simp_all; omega)⟩, rfl, rfl, rfl⟩
                  refine awp_cond rfl (fun hc9 => ?_) (fun hc9 => ?_)
                  -- cond 9
                  · skip
                    refine awp_seq ?_
                    refine awp_region ?_
                    refine al_d rfl rfl rfl (by exact opd_assign rfl rfl) ?_
                    refine al_nil ?_
                    refine awp_ret ?_
                    -- return
                    refine aret1 (H' := []) (by first | exact .inr rfl | exact .inl rfl) rfl (rval_tmp rfl) (Fin.wk (by simp) trivial trivial) ?_
                    exact ⟨by rw [hinv, gAccLoop_stop (.inr h)], rfl⟩
                  · cases hc9
                · have e3 : decide ((p : Int) < 0) = false := by simp
                  have e4 : decide (((l.map encEdit).length : Int) ≤ (p : Int)) = false := by simp; omega
                  have hpe := map_get (f := encEdit) hp
                  refine awp_mergeR (t := 101) (n := 33) (X := decide ((p : Int) ≤ last) || !gShows k m y) ?_ ?_
                  · rcases Nat.eq_zero_or_pos i with h0 | h0
                    · have e5 : decide (0 < (i : Int)) = false := by simp; omega
                      have e6 : decide ((p : Int) ≤ last) = false := by have := hlast.1 h0; simp; omega
                      refine awp_drawc follows ?_
                      refine dc_cons (DStep.q rfl (by exact opd_move rfl rfl)) rfl ?_
                      refine dc_cons (DStep.q rfl (by exact opd_lss rfl rfl rfl)) rfl ?_
                      refine dc_cons (DStep.q rfl (by exact opd_move rfl rfl)) rfl ?_
                      refine dc_cons (q_on_f rfl rfl rfl (by first | rfl | assumption) (by exact opd_move rfl rfl)) rfl ?_
                      refine dc_cons (q_on_f rfl rfl rfl (by first | rfl | assumption) (by exact opd_move rfl rfl)) rfl ?_
                      refine dc_cons (q_on_f rfl rfl rfl (by first | rfl | assumption) (by exact (by first | exact opd_len_sl rfl Try.underlying25 rfl | exact opd_len_osl rfl Try.underlying25 rfl rfl rfl))) rfl ?_
                      refine dc_cons (q_on_f rfl rfl rfl (by first | rfl | assumption) (by exact opd_geq rfl rfl rfl)) rfl ?_
                      refine dc_cons (DStep.q rfl (by exact (by first | exact opd_pick_t rfl rfl rfl | exact opd_pick_f rfl rfl rfl | exact opd_pickt rfl rfl (by assumption) rfl | exact opd_pickf rfl rfl (by assumption) rfl | exact opd_pick rfl rfl rfl))) rfl ?_
                      refine dc_cons (DStep.q rfl (by exact opd_move rfl rfl)) rfl ?_
                      refine dc_cons (q_on_f rfl rfl rfl (by first | rfl | assumption) (by exact opd_move rfl rfl)) rfl ?_
                      refine dc_cons (q_on_f rfl rfl rfl (by first | rfl | assumption) (by exact opd_gtr rfl rfl rfl)) rfl ?_
                      refine dc_cons (q_on_f rfl rfl rfl (by first | rfl | assumption) (by exact opd_move rfl rfl)) rfl ?_
                      refine dc_cons (q_off_t rfl rfl rfl (by first | rfl | assumption)) rfl ?_
                      refine dc_cons (q_off_t rfl rfl rfl (by first | rfl | assumption)) rfl ?_
                      refine dc_cons (q_off_t rfl rfl rfl (by first | rfl | assumption)) rfl ?_
                      refine dc_cons (q_off_t rfl rfl rfl (by first | rfl | assumption)) rfl ?_
                      refine dc_cons (q_off_t rfl rfl rfl (by first | rfl | assumption)) rfl ?_
                      refine dc_cons (q_off_t rfl rfl rfl (by first | rfl | assumption)) rfl ?_
                      refine dc_cons (q_off_t rfl rfl rfl (by first | rfl | assumption)) rfl ?_
                      refine dc_cons (q_off_t rfl rfl rfl (by first | rfl | assumption)) rfl ?_
                      refine dc_cons (q_on_f rfl rfl rfl (by first | rfl | assumption) (by exact (by first | exact opd_pick_t rfl rfl rfl | exact opd_pick_f rfl rfl rfl | exact opd_pickt rfl rfl (by assumption) rfl | exact opd_pickf rfl rfl (by assumption) rfl | exact opd_pick rfl rfl rfl))) rfl ?_
                      refine dc_cons (DStep.q rfl (by exact (by first | exact opd_pick_t rfl rfl rfl | exact opd_pick_f rfl rfl rfl | exact opd_pickt rfl rfl (by assumption) rfl | exact opd_pickf rfl rfl (by assumption) rfl | exact opd_pick rfl rfl rfl))) rfl ?_
                      refine dc_cons (DStep.q rfl (by exact opd_move rfl rfl)) rfl ?_
                      refine dc_cons (q_on_f rfl rfl rfl (by first | rfl | assumption) (by exact (by first | exact opd_loadn_ref rfl Try.isAgg24 Try.sizeOf24 rfl rfl rfl rfl (by simp only [List.drop_succ_cons, List.drop_zero, List.take_succ_cons, List.take_zero, List.take_nil, List.map_cons, List.map_nil, List.set_cons_zero, List.set_cons_succ, List.cons_append, List.nil_append, encTag, encObj, encEdit]; rfl) rfl | exact opd_loadn_pad rfl Try.isAgg24 Try.sizeOf24 rfl (by first | omega | assumption) (by simp only [List.drop_succ_cons, List.drop_zero, List.take_succ_cons, List.take_zero, List.take_nil, List.map_cons, List.map_nil, List.set_cons_zero, List.set_cons_succ, List.cons_append, List.nil_append, encTag, encObj, encEdit]; rfl) rfl))) rfl ?_
                      refine dc_cons (q_on_f rfl rfl rfl (by first | rfl | assumption) (by exact opd_move rfl rfl)) rfl ?_
                      refine dc_cons (q_on_f rfl rfl rfl (by first | rfl | assumption) (by exact opd_move rfl rfl)) rfl ?_
                      refine dc_cons (q_on_f rfl rfl rfl (by first | rfl | assumption) (by exact (by first | exact x_index_pad rfl so25 rfl rfl (by omega) (by first | exact Int.toNat_natCast _ | rfl) (by assumption) rfl | exact x_index_osl rfl so25 rfl rfl rfl rfl rfl (by omega) (by first | exact Int.toNat_natCast _ | rfl) (by first | omega | assumption) rfl))) rfl ?_
                      refine dc_cons (q_on_f rfl rfl rfl (by first | rfl | assumption) (by exact (by first | exact opd_loadn_ref rfl Try.isAgg39 Try.sizeOf39 rfl rfl rfl rfl (by simp only [List.drop_succ_cons, List.drop_zero, List.take_succ_cons, List.take_zero, List.take_nil, List.map_cons, List.map_nil, List.set_cons_zero, List.set_cons_succ, List.cons_append, List.nil_append, encTag, encObj, encEdit]; rfl) rfl | exact opd_loadn_pad rfl Try.isAgg39 Try.sizeOf39 rfl (by first | omega | assumption) (by simp only [List.drop_succ_cons, List.drop_zero, List.take_succ_cons, List.take_zero, List.take_nil, List.map_cons, List.map_nil, List.set_cons_zero, List.set_cons_succ, List.cons_append, List.nil_append, encTag, encObj, encEdit]; rfl) rfl))) rfl ?_
                      refine dc_cons (q_on_f rfl rfl rfl (by first | rfl | assumption) (by exact (by first | exact opd_field_ref rfl fo28_0 rfl rfl rfl rfl | exact opd_field_pad rfl fo28_0 rfl rfl))) rfl ?_
                      refine dc_cons (q_on_f rfl rfl rfl (by first | rfl | assumption) (by exact (by first | exact opd_load1_ref rfl Try.isAgg3 rfl rfl rfl rfl rfl | exact opd_load1_pad rfl Try.isAgg3 rfl (by first | omega | assumption) rfl))) rfl ?_
                      refine dc_cons (q_on_f rfl rfl rfl (by first | rfl | assumption) (by exact opr_call rfl rfl Try.call47 rfl (shows32_c k m y _ hm hk1 hk))) rfl ?_
                      refine dc_cons (q_on_f rfl rfl rfl (by first | rfl | assumption) (by exact opd_not rfl rfl)) rfl ?_
                      refine dc_cons (DStep.q rfl (by exact (by first | exact opd_pick_t rfl rfl rfl | exact opd_pick_f rfl rfl rfl | exact opd_pickt rfl rfl (by assumption) rfl | exact opd_pickf rfl rfl (by assumption) rfl | exact opd_pick rfl rfl rfl))) rfl ?_
                      refine dc_nil ⟨by kernel_rfl, ?_⟩
                      exact ⟨rfl, ⟨_, rfl, (by first | rfl | (rw [e6]; rfl))⟩, rfl, rfl, rfl⟩
                    · have e5 : decide (0 < (i : Int)) = true := by simp; omega
                      obtain ⟨q, rfl⟩ : ∃ q, i = q + 1 := ⟨i - 1, by omega⟩
                      have hlq := map_get (f := encInt) (hlast.2 q rfl)
                      have e7 : ((q + 1 : Nat) : Int) - 1 = (q : Int) := by omega
                      cases e6 : decide ((p : Int) ≤ last) with
                      | true =>
                        refine awp_drawc follows ?_
                        refine dc_cons (DStep.q rfl (by exact opd_move rfl rfl)) rfl ?_
                        refine dc_cons (DStep.q rfl (by exact opd_lss rfl rfl rfl)) rfl ?_
                        refine dc_cons (DStep.q rfl (by exact opd_move rfl rfl)) rfl ?_
                        refine dc_cons (q_on_f rfl rfl rfl (by first | rfl | assumption) (by exact opd_move rfl rfl)) rfl ?_
                        refine dc_cons (q_on_f rfl rfl rfl (by first | rfl | assumption) (by exact opd_move rfl rfl)) rfl ?_
                        refine dc_cons (q_on_f rfl rfl rfl (by first | rfl | assumption) (by exact (by first | exact opd_len_sl rfl Try.underlying25 rfl | exact opd_len_osl rfl Try.underlying25 rfl rfl rfl))) rfl ?_
                        refine dc_cons (q_on_f rfl rfl rfl (by first | rfl | assumption) (by exact opd_geq rfl rfl rfl)) rfl ?_
                        refine dc_cons (DStep.q rfl (by exact (by first | exact opd_pick_t rfl rfl rfl | exact opd_pick_f rfl rfl rfl | exact opd_pickt rfl rfl (by assumption) rfl | exact opd_pickf rfl rfl (by assumption) rfl | exact opd_pick rfl rfl rfl))) rfl ?_
                        refine dc_cons (DStep.q rfl (by exact opd_move rfl rfl)) rfl ?_
                        refine dc_cons (q_on_f rfl rfl rfl (by first | rfl | assumption) (by exact opd_move rfl rfl)) rfl ?_
                        refine dc_cons (q_on_f rfl rfl rfl (by first | rfl | assumption) (by exact opd_gtr rfl rfl rfl)) rfl ?_
                        refine dc_cons (q_on_f rfl rfl rfl (by first | rfl | assumption) (by exact opd_move rfl rfl)) rfl ?_
                        refine dc_cons (q_on_t rfl rfl rfl (by first | rfl | assumption) (by exact opd_move rfl rfl)) rfl ?_
                        refine dc_cons (q_on_t rfl rfl rfl (by first | rfl | assumption) (by exact (by first | exact opd_field_ref rfl fo28_1 rfl rfl rfl rfl | exact opd_field_pad rfl fo28_1 rfl rfl))) rfl ?_
                        refine dc_cons (q_on_t rfl rfl rfl (by first | rfl | assumption) (by exact (by first | exact opd_load1_ref rfl Try.isAgg26 rfl rfl rfl rfl rfl | exact opd_load1_pad rfl Try.isAgg26 rfl (by first | omega | assumption) rfl))) rfl ?_
                        refine dc_cons (q_on_t rfl rfl rfl (by first | rfl | assumption) (by exact opd_move rfl rfl)) rfl ?_
                        refine dc_cons (q_on_t rfl rfl rfl (by first | rfl | assumption) (by exact opd_sub rfl rfl rfl ((congrArg IntKind.i64.wrap e7).trans (w64 (n := (q : Int)) (by omega) (by omega))))) rfl ?_
                        refine dc_cons (q_on_t rfl rfl rfl (by first | rfl | assumption) (by exact (by first | exact x_index_pad rfl so26 rfl rfl (by omega) (by first | exact Int.toNat_natCast _ | rfl) (by assumption) rfl | exact x_index_osl rfl so26 rfl rfl rfl rfl rfl (by omega) (by first | exact Int.toNat_natCast _ | rfl) (by first | omega | assumption) rfl))) rfl ?_
                        refine dc_cons (q_on_t rfl rfl rfl (by first | rfl | assumption) (by exact (by first | exact opd_load1_ref rfl Try.isAgg3 rfl rfl rfl rfl rfl | exact opd_load1_pad rfl Try.isAgg3 rfl (by first | omega | assumption) rfl))) rfl ?_
                        refine dc_cons (q_on_t rfl rfl rfl (by first | rfl | assumption) (by exact opd_leq rfl rfl rfl)) rfl ?_
                        refine dc_cons (q_on_f rfl rfl rfl (by first | rfl | assumption) (by exact (by first | exact opd_pick_t rfl rfl rfl | exact opd_pick_f rfl rfl rfl | exact opd_pickt rfl rfl (by assumption) rfl | exact opd_pickf rfl rfl (by assumption) rfl | exact opd_pick rfl rfl rfl))) rfl ?_
                        refine dc_cons (DStep.q rfl (by exact (by first | exact opd_pick_t rfl rfl rfl | exact opd_pick_f rfl rfl rfl | exact opd_pickt rfl rfl (by assumption) rfl | exact opd_pickf rfl rfl (by assumption) rfl | exact opd_pick rfl rfl rfl))) rfl ?_
                        refine dc_cons (DStep.q rfl (by exact opd_move rfl rfl)) rfl ?_
                        refine dc_cons (q_off_f rfl rfl rfl (by first | rfl | assumption)) rfl ?_
                        refine dc_cons (q_off_f rfl rfl rfl (by first | rfl | assumption)) rfl ?_
                        refine dc_cons (q_off_f rfl rfl rfl (by first | rfl | assumption)) rfl ?_
                        refine dc_cons (q_off_f rfl rfl rfl (by first | rfl | assumption)) rfl ?_
                        refine dc_cons (q_off_f rfl rfl rfl (by first | rfl | assumption)) rfl ?_
                        refine dc_cons (q_off_f rfl rfl rfl (by first | rfl | assumption)) rfl ?_
                        refine dc_cons (q_off_f rfl rfl rfl (by first | rfl | assumption)) rfl ?_
                        refine dc_cons (q_off_f rfl rfl rfl (by first | rfl | assumption)) rfl ?_
                        refine dc_cons (q_off_f rfl rfl rfl (by first | rfl | assumption)) rfl ?_
                        refine dc_cons (DStep.q rfl (by exact (by first | exact opd_pick_t rfl rfl rfl | exact opd_pick_f rfl rfl rfl | exact opd_pickt rfl rfl (by assumption) rfl | exact opd_pickf rfl rfl (by assumption) rfl | exact opd_pick rfl rfl rfl))) rfl ?_
                        refine dc_nil ⟨by kernel_rfl, ?_⟩
                        exact ⟨rfl, ⟨_, rfl, (by first | rfl | (rw [e6]; rfl))⟩, rfl, rfl, rfl⟩
                      | false =>
                        refine awp_drawc follows ?_
                        refine dc_cons (DStep.q rfl (by exact opd_move rfl rfl)) rfl ?_
                        refine dc_cons (DStep.q rfl (by exact opd_lss rfl rfl rfl)) rfl ?_
                        refine dc_cons (DStep.q rfl (by exact opd_move rfl rfl)) rfl ?_
                        refine dc_cons (q_on_f rfl rfl rfl (by first | rfl | assumption) (by exact opd_move rfl rfl)) rfl ?_
                        refine dc_cons (q_on_f rfl rfl rfl (by first | rfl | assumption) (by exact opd_move rfl rfl)) rfl ?_
                        refine dc_cons (q_on_f rfl rfl rfl (by first | rfl | assumption) (by exact (by first | exact opd_len_sl rfl Try.underlying25 rfl | exact opd_len_osl rfl Try.underlying25 rfl rfl rfl))) rfl ?_
                        refine dc_cons (q_on_f rfl rfl rfl (by first | rfl | assumption) (by exact opd_geq rfl rfl rfl)) rfl ?_
                        refine dc_cons (DStep.q rfl (by exact (by first | exact opd_pick_t rfl rfl rfl | exact opd_pick_f rfl rfl rfl | exact opd_pickt rfl rfl (by assumption) rfl | exact opd_pickf rfl rfl (by assumption) rfl | exact opd_pick rfl rfl rfl))) rfl ?_
                        refine dc_cons (DStep.q rfl (by exact opd_move rfl rfl)) rfl ?_
                        refine dc_cons (q_on_f rfl rfl rfl (by first | rfl | assumption) (by exact opd_move rfl rfl)) rfl ?_
                        refine dc_cons (q_on_f rfl rfl rfl (by first | rfl | assumption) (by exact opd_gtr rfl rfl rfl)) rfl ?_
                        refine dc_cons (q_on_f rfl rfl rfl (by first | rfl | assumption) (by exact opd_move rfl rfl)) rfl ?_
                        refine dc_cons (q_on_t rfl rfl rfl (by first | rfl | assumption) (by exact opd_move rfl rfl)) rfl ?_
                        refine dc_cons (q_on_t rfl rfl rfl (by first | rfl | assumption) (by exact (by first | exact opd_field_ref rfl fo28_1 rfl rfl rfl rfl | exact opd_field_pad rfl fo28_1 rfl rfl))) rfl ?_
                        refine dc_cons (q_on_t rfl rfl rfl (by first | rfl | assumption) (by exact (by first | exact opd_load1_ref rfl Try.isAgg26 rfl rfl rfl rfl rfl | exact opd_load1_pad rfl Try.isAgg26 rfl (by first | omega | assumption) rfl))) rfl ?_
                        refine dc_cons (q_on_t rfl rfl rfl (by first | rfl | assumption) (by exact opd_move rfl rfl)) rfl ?_
                        refine dc_cons (q_on_t rfl rfl rfl (by first | rfl | assumption) (by exact opd_sub rfl rfl rfl ((congrArg IntKind.i64.wrap e7).trans (w64 (n := (q : Int)) (by omega) (by omega))))) rfl ?_
                        refine dc_cons (q_on_t rfl rfl rfl (by first | rfl | assumption) (by exact (by first | exact x_index_pad rfl so26 rfl rfl (by omega) (by first | exact Int.toNat_natCast _ | rfl) (by assumption) rfl | exact x_index_osl rfl so26 rfl rfl rfl rfl rfl (by omega) (by first | exact Int.toNat_natCast _ | rfl) (by first | omega | assumption) rfl))) rfl ?_
                        refine dc_cons (q_on_t rfl rfl rfl (by first | rfl | assumption) (by exact (by first | exact opd_load1_ref rfl Try.isAgg3 rfl rfl rfl rfl rfl | exact opd_load1_pad rfl Try.isAgg3 rfl (by first | omega | assumption) rfl))) rfl ?_
                        refine dc_cons (q_on_t rfl rfl rfl (by first | rfl | assumption) (by exact opd_leq rfl rfl rfl)) rfl ?_
                        refine dc_cons (q_on_f rfl rfl rfl (by first | rfl | assumption) (by exact (by first | exact opd_pick_t rfl rfl rfl | exact opd_pick_f rfl rfl rfl | exact opd_pickt rfl rfl (by assumption) rfl | exact opd_pickf rfl rfl (by assumption) rfl | exact opd_pick rfl rfl rfl))) rfl ?_
                        refine dc_cons (DStep.q rfl (by exact (by first | exact opd_pick_t rfl rfl rfl | exact opd_pick_f rfl rfl rfl | exact opd_pickt rfl rfl (by assumption) rfl | exact opd_pickf rfl rfl (by assumption) rfl | exact opd_pick rfl rfl rfl))) rfl ?_
                        refine dc_cons (DStep.q rfl (by exact opd_move rfl rfl)) rfl ?_
                        refine dc_cons (q_on_f rfl rfl rfl (by first | rfl | assumption) (by exact (by first | exact opd_loadn_ref rfl Try.isAgg24 Try.sizeOf24 rfl rfl rfl rfl (by simp only [List.drop_succ_cons, List.drop_zero, List.take_succ_cons, List.take_zero, List.take_nil, List.map_cons, List.map_nil, List.set_cons_zero, List.set_cons_succ, List.cons_append, List.nil_append, encTag, encObj, encEdit]; rfl) rfl | exact opd_loadn_pad rfl Try.isAgg24 Try.sizeOf24 rfl (by first | omega | assumption) (by simp only [List.drop_succ_cons, List.drop_zero, List.take_succ_cons, List.take_zero, List.take_nil, List.map_cons, List.map_nil, List.set_cons_zero, List.set_cons_succ, List.cons_append, List.nil_append, encTag, encObj, encEdit]; rfl) rfl))) rfl ?_
                        refine dc_cons (q_on_f rfl rfl rfl (by first | rfl | assumption) (by exact opd_move rfl rfl)) rfl ?_
                        refine dc_cons (q_on_f rfl rfl rfl (by first | rfl | assumption) (by exact opd_move rfl rfl)) rfl ?_
                        refine dc_cons (q_on_f rfl rfl rfl (by first | rfl | assumption) (by exact (by first | exact x_index_pad rfl so25 rfl rfl (by omega) (by first | exact Int.toNat_natCast _ | rfl) (by assumption) rfl | exact x_index_osl rfl so25 rfl rfl rfl rfl rfl (by omega) (by first | exact Int.toNat_natCast _ | rfl) (by first | omega | assumption) rfl))) rfl ?_
                        refine dc_cons (q_on_f rfl rfl rfl (by first | rfl | assumption) (by exact (by first | exact opd_loadn_ref rfl Try.isAgg39 Try.sizeOf39 rfl rfl rfl rfl (by simp only [List.drop_succ_cons, List.drop_zero, List.take_succ_cons, List.take_zero, List.take_nil, List.map_cons, List.map_nil, List.set_cons_zero, List.set_cons_succ, List.cons_append, List.nil_append, encTag, encObj, encEdit]; rfl) rfl | exact opd_loadn_pad rfl Try.isAgg39 Try.sizeOf39 rfl (by first | omega | assumption) (by simp only [List.drop_succ_cons, List.drop_zero, List.take_succ_cons, List.take_zero, List.take_nil, List.map_cons, List.map_nil, List.set_cons_zero, List.set_cons_succ, List.cons_append, List.nil_append, encTag, encObj, encEdit]; rfl) rfl))) rfl ?_
                        refine dc_cons (q_on_f rfl rfl rfl (by first | rfl | assumption) (by exact (by first | exact opd_field_ref rfl fo28_0 rfl rfl rfl rfl | exact opd_field_pad rfl fo28_0 rfl rfl))) rfl ?_
                        refine dc_cons (q_on_f rfl rfl rfl (by first | rfl | assumption) (by exact (by first | exact opd_load1_ref rfl Try.isAgg3 rfl rfl rfl rfl rfl | exact opd_load1_pad rfl Try.isAgg3 rfl (by first | omega | assumption) rfl))) rfl ?_
                        refine dc_cons (q_on_f rfl rfl rfl (by first | rfl | assumption) (by exact opr_call rfl rfl Try.call47 rfl (shows32_c k m y _ hm hk1 hk))) rfl ?_
                        refine dc_cons (q_on_f rfl rfl rfl (by first | rfl | assumption) (by exact opd_not rfl rfl)) rfl ?_
                        refine dc_cons (DStep.q rfl (by exact (by first | exact opd_pick_t rfl rfl rfl | exact opd_pick_f rfl rfl rfl | exact opd_pickt rfl rfl (by assumption) rfl | exact opd_pickf rfl rfl (by assumption) rfl | exact opd_pick rfl rfl rfl))) rfl ?_
                        refine dc_nil ⟨by kernel_rfl, ?_⟩
                        exact ⟨rfl, ⟨_, rfl, (by first | rfl | (rw [e6]; rfl))⟩, rfl, rfl, rfl⟩
                  refine awp_cond rfl (fun hc10 => ?_) (fun hc10 => ?_)
                  -- cond 10
                  · have hst : gAccLoop k m l idx [] (-1) = false := by
                      rw [hinv]
                      by_cases hle : (p : Int) ≤ last
                      · exact gAccLoop_stop (.inl hle)
                      · rw [gAccLoop_go hle hp]
                        have : gShows k m y = false := by
                          simp only [decide_eq_false hle, Bool.false_or, Bool.not_eq_true'] at hc10
                          exact hc10
                        rw [this]; rfl
                    refine awp_seq ?_
                    refine awp_region ?_
                    refine al_d rfl rfl rfl (by exact opd_assign rfl rfl) ?_
                    refine al_nil ?_
                    refine awp_ret ?_
                    -- return
                    refine aret1 (H' := []) (by first | exact .inr rfl | exact .inl rfl) rfl (rval_tmp rfl) (Fin.wk (by simp) trivial trivial) ?_
                    exact ⟨by rw [hst], rfl⟩
                  · have hle : ¬ ((p : Int) ≤ last) ∧ gShows k m y = true := by
                      simpa using hc10
                    rw [gAccLoop_go hle.1 hp, hle.2, Bool.true_and] at hinv
                    refine awp_skip ?_
                    refine awp_seq ?_
                    refine awp_region ?_
                    refine al_d rfl rfl rfl (by exact opd_assign rfl rfl) ?_
                    refine al_nil ?_
                    refine awp_block ?_
                    -- loop
                    refine awp_loop (σ := Nat) (fun q => ([(1, .pv (slEdits l)), (3, .ref 3 0 0 0), (5, .ref 5 0 0 0), (10, iv (i : Int)), (11, iv (p : Int)), (12, iv (q : Int))], [(5, bx 2 28 [iv (k : Int), .pv (slInts idx)]), (3, bx 1 24 [.pv (slObjs m)])]))
                      (fun q => q ≤ i ∧ ∀ j, j < q → ∀ b, sh[j]? = some b → (!gTog k b y) = false) (fun q => i - q) 0 ⟨by omega, by omega⟩ ?_ ?_
                    · exact (Ent.wk ⟨⟨_, rfl, rfl⟩, (by first | (simp; done) | (simp; rfl) | exact clo_map _ _ _), ⟨_, rfl, rfl⟩, (by first | (simp; done) | (simp; rfl) | exact clo_map _ _ _), ⟨_, rfl, rfl⟩, (by first | (simp; done) | (simp; rfl) | exact clo_map _ _ _), ⟨_, rfl, rfl⟩, (by first | (simp; done) | (simp; rfl) | exact clo_map _ _ _), ⟨_, rfl, rfl⟩, (by first | (simp; done) | (simp; rfl) | exact clo_map _ _ _), ⟨_, rfl, rfl⟩, (by first | (simp; done) | (simp; rfl) | exact clo_map _ _ _), trivial⟩ ⟨⟨_, rfl, rfl⟩, (by first | (simp; done) | (simp; rfl) | exact clo_map _ _ _), ⟨_, rfl, rfl⟩, (by first | (simp; done) | (simp; rfl) | exact clo_map _ _ _), trivial⟩ trivial)
                    · rintro q ⟨hq, hall⟩
                      refine awp_seq ?_
                      refine awp_seq ?_
                      refine awp_region ?_
                      refine al_d rfl rfl rfl (by exact opd_move rfl rfl) ?_
                      refine al_d rfl rfl rfl (by exact opd_move rfl rfl) ?_
                      refine al_d rfl rfl rfl (by exact opd_lss rfl rfl rfl) ?_
                      refine al_nil ?_
                      refine awp_cond rfl (fun hc11 => ?_) (fun hc11 => ?_)
                      -- cond 11
                      · have hqi : q < i := by simpa using hc11
                        obtain ⟨p2, y2, hx2, hp2, hs2⟩ := hsh.2 q hqi
                        have hx2e := map_get (f := encInt) hx2
                        have hp2e := map_get (f := encEdit) hp2
                        refine awp_skip ?_
                        refine awp_seq ?_
                        refine awp_block ?_
                        refine awp_seq ?_
                        refine awp_drawc follows ?_
                        refine dc_cons (DStep.q rfl (by exact opd_move rfl rfl)) rfl ?_
                        refine dc_cons (DStep.q rfl (by exact (by first | exact opd_field_ref rfl fo28_1 rfl rfl rfl rfl | exact opd_field_pad rfl fo28_1 rfl rfl))) rfl ?_
                        refine dc_cons (DStep.q rfl (by exact (by first | exact opd_load1_ref rfl Try.isAgg26 rfl rfl rfl rfl rfl | exact opd_load1_pad rfl Try.isAgg26 rfl (by first | omega | assumption) rfl))) rfl ?_
                        refine dc_cons (DStep.q rfl (by exact opd_move rfl rfl)) rfl ?_
                        refine dc_cons (DStep.q rfl (by exact (by first | exact x_index_pad rfl so26 rfl rfl (by omega) (by first | exact Int.toNat_natCast _ | rfl) (by assumption) rfl | exact x_index_osl rfl so26 rfl rfl rfl rfl rfl (by omega) (by first | exact Int.toNat_natCast _ | rfl) (by first | omega | assumption) rfl))) rfl ?_
                        refine dc_cons (DStep.q rfl (by exact (by first | exact opd_load1_ref rfl Try.isAgg3 rfl rfl rfl rfl rfl | exact opd_load1_pad rfl Try.isAgg3 rfl (by first | omega | assumption) rfl))) rfl ?_
                        refine dc_cons (DStep.q rfl (by exact (by first | exact x_index_pad rfl so25 rfl rfl (by omega) (by first | exact Int.toNat_natCast _ | rfl) (by assumption) rfl | exact x_index_osl rfl so25 rfl rfl rfl rfl rfl (by omega) (by first | exact Int.toNat_natCast _ | rfl) (by first | omega | assumption) rfl))) rfl ?_
                        refine dc_cons (DStep.q rfl (by exact (by first | exact opd_loadn_ref rfl Try.isAgg39 Try.sizeOf39 rfl rfl rfl rfl (by simp only [List.drop_succ_cons, List.drop_zero, List.take_succ_cons, List.take_zero, List.take_nil, List.map_cons, List.map_nil, List.set_cons_zero, List.set_cons_succ, List.cons_append, List.nil_append, encTag, encObj, encEdit]; rfl) rfl | exact opd_loadn_pad rfl Try.isAgg39 Try.sizeOf39 rfl (by first | omega | assumption) (by simp only [List.drop_succ_cons, List.drop_zero, List.take_succ_cons, List.take_zero, List.take_nil, List.map_cons, List.map_nil, List.set_cons_zero, List.set_cons_succ, List.cons_append, List.nil_append, encTag, encObj, encEdit]; rfl) rfl))) rfl ?_
                        refine dc_cons (DStep.q rfl (by exact opd_move rfl rfl)) rfl ?_
                        refine dc_cons (DStep.q rfl (by exact opd_move rfl rfl)) rfl ?_
                        refine dc_cons (DStep.q rfl (by exact (by first | exact x_index_pad rfl so25 rfl rfl (by omega) (by first | exact Int.toNat_natCast _ | rfl) (by assumption) rfl | exact x_index_osl rfl so25 rfl rfl rfl rfl rfl (by omega) (by first | exact Int.toNat_natCast _ | rfl) (by first | omega | assumption) rfl))) rfl ?_
                        refine dc_cons (DStep.q rfl (by exact (by first | exact opd_loadn_ref rfl Try.isAgg39 Try.sizeOf39 rfl rfl rfl rfl (by simp only [List.drop_succ_cons, List.drop_zero, List.take_succ_cons, List.take_zero, List.take_nil, List.map_cons, List.map_nil, List.set_cons_zero, List.set_cons_succ, List.cons_append, List.nil_append, encTag, encObj, encEdit]; rfl) rfl | exact opd_loadn_pad rfl Try.isAgg39 Try.sizeOf39 rfl (by first | omega | assumption) (by simp only [List.drop_succ_cons, List.drop_zero, List.take_succ_cons, List.take_zero, List.take_nil, List.map_cons, List.map_nil, List.set_cons_zero, List.set_cons_succ, List.cons_append, List.nil_append, encTag, encObj, encEdit]; rfl) rfl))) rfl ?_
                        refine dc_cons (DStep.q rfl (by exact (by first | exact opd_field_ref rfl fo28_0 rfl rfl rfl rfl | exact opd_field_pad rfl fo28_0 rfl rfl))) rfl ?_
                        refine dc_cons (DStep.q rfl (by exact (by first | exact opd_load1_ref rfl Try.isAgg3 rfl rfl rfl rfl rfl | exact opd_load1_pad rfl Try.isAgg3 rfl (by first | omega | assumption) rfl))) rfl ?_
                        refine dc_cons (DStep.q rfl (by exact opr_call rfl rfl Try.call48 rfl (fit_c k y2 y _ (hl.2 y2 (List.mem_of_getElem? hp2)) hk1 hk))) rfl ?_
                        refine dc_cons (DStep.q rfl (by exact opd_not rfl rfl)) rfl ?_
                        refine dc_nil ⟨by kernel_rfl, ?_⟩
                        refine awp_cond rfl (fun hc12 => ?_) (fun hc12 => ?_)
                        -- cond 12
                        · have hany : sh.any (fun x => !gTog k x y) = true := any_some hs2 hc12
                          rw [hany] at hinv
                          refine awp_seq ?_
                          refine awp_region ?_
                          refine al_d rfl rfl rfl (by exact opd_assign rfl rfl) ?_
                          refine al_nil ?_
                          refine awp_ret ?_
                          -- return
                          refine aret1 (H' := []) (by first | exact .inr rfl | exact .inl rfl) rfl (rval_tmp rfl) (Fin.wk (by simp) trivial trivial) ?_
                          exact ⟨by rw [hinv]; rfl, rfl⟩
                        · skip
                          refine awp_skip ?_
                          refine awp_region ?_
                          refine al_d rfl rfl rfl (by exact opd_move rfl rfl) ?_
                          refine al_d rfl rfl rfl (by exact opd_add rfl rfl rfl (by first | exact w64 (by omega) (by omega) | exact wu8 (by omega) (by omega) | rfl)) ?_
                          refine al_d rfl rfl rfl (by exact opd_assign rfl rfl) ?_
                          refine al_nil ?_
                          -- end of a round
                          exact ⟨q + 1, ⟨by omega, pre_succ (p := fun x => !gTog k x y) hall hs2 hc12⟩, by omega, (Ent.wk ⟨⟨_, rfl, rfl⟩, (by first | (simp; done) | (simp; rfl) | exact clo_map _ _ _), ⟨_, rfl, rfl⟩, (by first | (simp; done) | (simp; rfl) | exact clo_map _ _ _), ⟨_, rfl, rfl⟩, (by first | (simp; done) | (simp; rfl) | exact clo_map _ _ _), ⟨_, rfl, rfl⟩, (by first | (simp; done) | (simp; rfl) | exact clo_map _ _ _), ⟨_, rfl, rfl⟩, (by first | (simp; done) | (simp; rfl) | exact clo_map _ _ _), ⟨_, rfl, rfl⟩, (by first | (simp; done) | (simp; rfl) | exact clo_map _ _ _), trivial⟩ ⟨⟨_, rfl, rfl⟩, (by first | (simp; done) | (simp; rfl) | exact clo_map _ _ _), ⟨_, rfl, rfl⟩, (by first | (simp; done) | (simp; rfl) | exact clo_map _ _ _), trivial⟩ trivial)⟩
                      · have hqi : q = i := by
                          have : i ≤ q := by simpa using hc11
                          omega
                        subst hqi
                        have hany : sh.any (fun x => !gTog k x y) = false := any_none (by rw [hsh.1]; exact hall)
                        rw [hany] at hinv
                        refine awp_exit ?_
                        refine awp_region ?_
                        refine al_d rfl rfl rfl (by exact opd_move rfl rfl) ?_
                        refine al_d rfl rfl rfl (by exact opd_add rfl rfl rfl (by first | exact w64 (by omega) (by omega) | exact wu8 (by omega) (by omega) | rfl)) ?_
                        refine al_d rfl rfl rfl (by exact opd_assign rfl rfl) ?_
                        refine al_nil ?_
                        -- end of a round
                        exact ⟨q + 1, sh ++ [y], (p : Int), ⟨by omega, hsh.snoc hxi hp, ⟨fun h => absurd h (by omega), fun q' hq' => (show q = q' by omega) ▸ hxi⟩, by omega, by simpa using hinv⟩, by omega, (Ent.wk ⟨⟨_, rfl, rfl⟩, (by first | (simp; done) | (simp; rfl) | exact clo_map _ _ _), ⟨_, rfl, rfl⟩, (by first | (simp; done) | (simp; rfl) | exact clo_map _ _ _), ⟨_, rfl, rfl⟩, (by first | (simp; done) | (simp; rfl) | exact clo_map _ _ _), ⟨_, rfl, rfl⟩, (by first | (simp; done) | (simp; rfl) | exact clo_map _ _ _), trivial⟩ ⟨⟨_, rfl, rfl⟩, (by first | (simp; done) | (simp; rfl) | exact clo_map _ _ _), ⟨_, rfl, rfl⟩, (by first | (simp; done) | (simp; rfl) | exact clo_map _ _ _), trivial⟩ trivial)⟩
              · have hge : i = idx.length := by
                  have : idx.length ≤ i := by simpa using hc7
                  omega
                subst hge
                have hinv' : gAccLoop k m l idx [] (-1) = true := by rw [hinv]; simp [gAccLoop]
                rw [hinv']
                refine awp_exit ?_
                refine awp_seq ?_
                refine awp_region ?_
                refine al_d rfl rfl rfl (by exact opd_assign rfl rfl) ?_
                refine al_nil ?_
                refine awp_ret ?_
                -- return
                refine aret1 (H' := []) (by first | exact .inr rfl | exact .inl rfl) rfl (rval_tmp rfl) (Fin.wk (by simp) trivial trivial) ?_
                exact ⟨rfl, rfl⟩
end Go.Proofs.Ytljocbkebhgkoaa
