/-
  CONTRACTS: the reference: valid edits, valid change sets. Conditions: lengths below 2^40.
-/
import Derived.Test.YtdgoodjhndeojaaGreatKL1M8
section
set_option linter.unusedVariables false
set_option linter.unusedSimpArgs false
set_option maxRecDepth 100000
namespace Go.Proofs.YtdgoodjhndeojaaGreat
open Go.Abs
abbrev strRows (l : List ByteArray) : List (List AV) := l.map (fun s => (encStr s).map .pv)
theorem strRows_cons (a : ByteArray) (l : List ByteArray) : strRows [a] ++ (l.map encStr).map (·.map .pv) = strRows (a :: l) := by
  rw [← rows_of encStr l]; rfl
theorem strs_len (l : List ByteArray) : ∀ r ∈ l.map encStr, r.length = 1 := fun r hr => by
  obtain ⟨o, _, rfl⟩ := List.mem_map.1 hr; rfl
theorem bare1_c (e : GEdit) (H : Heap) (ho : e.op = 1) : ACalls Tryz.prog 101 [av (encEdit e)] H (fun r H' => r = av (encEdit (bare1 e)) ∧ H' = H) := by
  refine ACalls.pure ?_ (by simp) H
  refine ACalls.body Tryz.func101 rfl Tryz.ntmps101 (Nat.le_of_ble_eq_true rfl) ?_
  refine awp_seq ?_
  refine awp_region ?_
  refine al_d rfl rfl rfl (by exact opd_box (id := 1) rfl rfl rfl rfl rfl) ?_
  refine al_d rfl rfl rfl (by exact x_alloc (id := 2) rfl zo44 rfl rfl) ?_
  refine al_nil ?_
  refine awp_seq ?_
  refine awp_seq ?_
  refine awp_region ?_
  refine al_d rfl rfl rfl (by exact (by exact opd_field_ref rfl fo44_0 rfl rfl rfl rfl)) ?_
  refine al_d rfl rfl rfl (by exact (by exact opd_load1_ref rfl Tryz.isAgg3 rfl rfl rfl rfl rfl)) ?_
  refine al_d rfl rfl rfl (by exact opd_eql rfl rfl rfl) ?_
  refine al_nil ?_
  refine awp_cond rfl (fun hc1 => ?_) (fun hc1 => ?_)
  -- cond 1
  · skip
    refine awp_region ?_
    refine al_d rfl rfl rfl (by exact x_build rfl bo42 rfl rfl) ?_
    refine al_d rfl rfl rfl (by exact (by exact opd_field_ref rfl fo44_8 rfl rfl rfl rfl)) ?_
    refine al_n rfl rfl (by exact (by exact x_store rfl Tryz.sizeOf42 rfl rfl rfl rfl rfl rfl rfl (Nat.le_of_ble_eq_true rfl) rfl rfl)) ?_
    refine al_nil ?_
    refine awp_seq ?_
    refine awp_seq ?_
    refine awp_region ?_
    refine al_d rfl rfl rfl (by exact (by exact opd_field_ref rfl fo44_0 rfl rfl rfl rfl)) ?_
    refine al_d rfl rfl rfl (by exact (by exact opd_load1_ref rfl Tryz.isAgg3 rfl rfl rfl rfl rfl)) ?_
    refine al_d rfl rfl rfl (by exact opd_eql rfl rfl rfl) ?_
    refine al_nil ?_
    refine awp_cond rfl (fun hc2 => ?_) (fun hc2 => ?_)
    -- cond 2
    · skip
      (exfalso; have h := hc2; simp [ho] at h)
    · skip
      refine awp_skip ?_
      refine awp_seq ?_
      refine awp_seq ?_
      refine awp_region ?_
      refine al_d rfl rfl rfl (by exact (by exact opd_field_ref rfl fo44_0 rfl rfl rfl rfl)) ?_
      refine al_d rfl rfl rfl (by exact (by exact opd_load1_ref rfl Tryz.isAgg3 rfl rfl rfl rfl rfl)) ?_
      refine al_d rfl rfl rfl (by exact opd_eql rfl rfl rfl) ?_
      refine al_nil ?_
      refine awp_cond rfl (fun hc3 => ?_) (fun hc3 => ?_)
      -- cond 3
      · skip
        (exfalso; have h := hc3; simp [ho] at h)
      · skip
        refine awp_skip ?_
        refine awp_seq ?_
        refine awp_seq ?_
        refine awp_region ?_
        refine al_d rfl rfl rfl (by exact (by exact opd_field_ref rfl fo44_0 rfl rfl rfl rfl)) ?_
        refine al_d rfl rfl rfl (by exact (by exact opd_load1_ref rfl Tryz.isAgg3 rfl rfl rfl rfl rfl)) ?_
        refine al_d rfl rfl rfl (by exact opd_eql rfl rfl rfl) ?_
        refine al_nil ?_
        refine awp_cond rfl (fun hc4 => ?_) (fun hc4 => ?_)
        -- cond 4
        · skip
          (exfalso; have h := hc4; simp [ho] at h)
        · skip
          refine awp_skip ?_
          refine awp_seq ?_
          refine awp_seq ?_
          refine awp_region ?_
          refine al_d rfl rfl rfl (by exact (by exact opd_field_ref rfl fo44_0 rfl rfl rfl rfl)) ?_
          refine al_d rfl rfl rfl (by exact (by exact opd_load1_ref rfl Tryz.isAgg3 rfl rfl rfl rfl rfl)) ?_
          refine al_d rfl rfl rfl (by exact opd_eql rfl rfl rfl) ?_
          refine al_nil ?_
          refine awp_cond rfl (fun hc5 => ?_) (fun hc5 => ?_)
          -- cond 5
          · skip
            (exfalso; have h := hc5; simp [ho] at h)
          · skip
            refine awp_skip ?_
            refine awp_seq ?_
            refine awp_seq ?_
            refine awp_bool (t := 34) (n := 9) (X := decide (e.op = 6) || decide (e.op = 7)) ?_ ?_
            · all_goals (refine al_d rfl rfl rfl (by exact (by exact opd_field_ref rfl fo44_0 rfl rfl rfl rfl)) ?_)
              all_goals (refine al_d rfl rfl rfl (by exact (by exact opd_load1_ref rfl Tryz.isAgg3 rfl rfl rfl rfl rfl)) ?_)
              all_goals (refine al_d rfl rfl rfl (by exact opd_eql rfl rfl rfl) ?_)
              all_goals (refine al_d rfl rfl rfl (by exact opd_move rfl rfl) ?_)
              all_goals (refine al_split (t := 30) rfl (fun h30 => ?_) (fun h30 => ?_))
              all_goals (try contradiction)
              all_goals (first | refine al_off rfl rfl rfl rfl rfl ?_ | refine al_ond rfl rfl rfl rfl rfl rfl (by exact (by exact opd_field_ref rfl fo44_0 rfl rfl rfl rfl)) ?_)
              all_goals (first | refine al_off rfl rfl rfl rfl rfl ?_ | refine al_ond rfl rfl rfl rfl rfl rfl (by exact (by exact opd_load1_ref rfl Tryz.isAgg3 rfl rfl rfl rfl rfl)) ?_)
              all_goals (first | refine al_off rfl rfl rfl rfl rfl ?_ | refine al_ond rfl rfl rfl rfl rfl rfl (by exact opd_eql rfl rfl rfl) ?_)
              all_goals (refine al_d rfl rfl rfl (by exact (by first | exact opd_pick_t rfl rfl rfl | exact opd_pick_f rfl rfl rfl)) ?_)
              all_goals (refine al_nil ?_)
              all_goals (exact ⟨⟨_, rfl, by (simp_all; done)⟩, rfl, rfl, rfl⟩)
            refine awp_cond rfl (fun hc6 => ?_) (fun hc6 => ?_)
            -- cond 6
            · skip
              (exfalso; have h := hc6; simp [ho] at h)
            · skip
              refine awp_skip ?_
              refine awp_seq ?_
              refine awp_region ?_
              refine al_d rfl rfl rfl (by exact (by exact opd_loadn_ref rfl Tryz.isAgg44 Tryz.sizeOf44 rfl rfl rfl rfl (by simp only [List.drop_succ_cons, List.drop_zero, List.take_succ_cons, List.take_zero, List.take_nil, List.map_cons, List.map_nil, List.set_cons_zero, List.set_cons_succ, List.cons_append, List.nil_append, encTag, encObj, encStr, encEdit, zObj]; rfl) rfl)) ?_
              refine al_n rfl rfl (by exact (by exact x_store_all rfl Tryz.sizeOf44 rfl rfl rfl rfl rfl rfl rfl rfl)) ?_
              refine al_nil ?_
              refine awp_ret ?_
              -- return
              refine aret1 (H' := []) (by exact .inr rfl) rfl (rval_cell rfl Tryz.isAgg44 Tryz.sizeOf44 rfl rfl rfl rfl rfl) (Fin.wk (r := av (encEdit (bare1 e))) (by simp [encEdit, bare1, zObj, encObj]) trivial trivial) ?_
              exact ⟨rfl, rfl⟩
  · skip
    (exfalso; have h := hc1; simp [ho] at h)
theorem bare2_c (e : GEdit) (H : Heap) (ho : e.op = 2) : ACalls Tryz.prog 101 [av (encEdit e)] H (fun r H' => r = av (encEdit (bare2 e)) ∧ H' = H) := by
  refine ACalls.pure ?_ (by simp) H
  refine ACalls.body Tryz.func101 rfl Tryz.ntmps101 (Nat.le_of_ble_eq_true rfl) ?_
  refine awp_seq ?_
  refine awp_region ?_
  refine al_d rfl rfl rfl (by exact opd_box (id := 1) rfl rfl rfl rfl rfl) ?_
  refine al_d rfl rfl rfl (by exact x_alloc (id := 2) rfl zo44 rfl rfl) ?_
  refine al_nil ?_
  refine awp_seq ?_
  refine awp_seq ?_
  refine awp_region ?_
  refine al_d rfl rfl rfl (by exact (by exact opd_field_ref rfl fo44_0 rfl rfl rfl rfl)) ?_
  refine al_d rfl rfl rfl (by exact (by exact opd_load1_ref rfl Tryz.isAgg3 rfl rfl rfl rfl rfl)) ?_
  refine al_d rfl rfl rfl (by exact opd_eql rfl rfl rfl) ?_
  refine al_nil ?_
  refine awp_cond rfl (fun hc1 => ?_) (fun hc1 => ?_)
  -- cond 1
  · skip
    (exfalso; have h := hc1; simp [ho] at h)
  · skip
    refine awp_region ?_
    refine al_d rfl rfl rfl (by exact (by exact opd_field_ref rfl fo44_1 rfl rfl rfl rfl)) ?_
    refine al_n rfl rfl (by exact (by exact x_store1 rfl Tryz.sizeOf9 rfl rfl rfl rfl rfl rfl (Nat.le_of_ble_eq_true rfl) rfl rfl)) ?_
    refine al_nil ?_
    refine awp_seq ?_
    refine awp_seq ?_
    refine awp_region ?_
    refine al_d rfl rfl rfl (by exact (by exact opd_field_ref rfl fo44_0 rfl rfl rfl rfl)) ?_
    refine al_d rfl rfl rfl (by exact (by exact opd_load1_ref rfl Tryz.isAgg3 rfl rfl rfl rfl rfl)) ?_
    refine al_d rfl rfl rfl (by exact opd_eql rfl rfl rfl) ?_
    refine al_nil ?_
    refine awp_cond rfl (fun hc2 => ?_) (fun hc2 => ?_)
    -- cond 2
    · skip
      refine awp_region ?_
      refine al_d rfl rfl rfl (by exact x_build rfl bo38 rfl rfl) ?_
      refine al_d rfl rfl rfl (by exact (by exact opd_field_ref rfl fo44_4 rfl rfl rfl rfl)) ?_
      refine al_n rfl rfl (by exact (by exact x_store rfl Tryz.sizeOf38 rfl rfl rfl rfl rfl rfl rfl (Nat.le_of_ble_eq_true rfl) rfl rfl)) ?_
      refine al_nil ?_
      refine awp_seq ?_
      refine awp_seq ?_
      refine awp_region ?_
      refine al_d rfl rfl rfl (by exact (by exact opd_field_ref rfl fo44_0 rfl rfl rfl rfl)) ?_
      refine al_d rfl rfl rfl (by exact (by exact opd_load1_ref rfl Tryz.isAgg3 rfl rfl rfl rfl rfl)) ?_
      refine al_d rfl rfl rfl (by exact opd_eql rfl rfl rfl) ?_
      refine al_nil ?_
      refine awp_cond rfl (fun hc3 => ?_) (fun hc3 => ?_)
      -- cond 3
      · skip
        (exfalso; have h := hc3; simp [ho] at h)
      · skip
        refine awp_skip ?_
        refine awp_seq ?_
        refine awp_seq ?_
        refine awp_region ?_
        refine al_d rfl rfl rfl (by exact (by exact opd_field_ref rfl fo44_0 rfl rfl rfl rfl)) ?_
        refine al_d rfl rfl rfl (by exact (by exact opd_load1_ref rfl Tryz.isAgg3 rfl rfl rfl rfl rfl)) ?_
        refine al_d rfl rfl rfl (by exact opd_eql rfl rfl rfl) ?_
        refine al_nil ?_
        refine awp_cond rfl (fun hc4 => ?_) (fun hc4 => ?_)
        -- cond 4
        · skip
          (exfalso; have h := hc4; simp [ho] at h)
        · skip
          refine awp_skip ?_
          refine awp_seq ?_
          refine awp_seq ?_
          refine awp_region ?_
          refine al_d rfl rfl rfl (by exact (by exact opd_field_ref rfl fo44_0 rfl rfl rfl rfl)) ?_
          refine al_d rfl rfl rfl (by exact (by exact opd_load1_ref rfl Tryz.isAgg3 rfl rfl rfl rfl rfl)) ?_
          refine al_d rfl rfl rfl (by exact opd_eql rfl rfl rfl) ?_
          refine al_nil ?_
          refine awp_cond rfl (fun hc5 => ?_) (fun hc5 => ?_)
          -- cond 5
          · skip
            (exfalso; have h := hc5; simp [ho] at h)
          · skip
            refine awp_skip ?_
            refine awp_seq ?_
            refine awp_seq ?_
            refine awp_bool (t := 34) (n := 9) (X := decide (e.op = 6) || decide (e.op = 7)) ?_ ?_
            · all_goals (refine al_d rfl rfl rfl (by exact (by exact opd_field_ref rfl fo44_0 rfl rfl rfl rfl)) ?_)
              all_goals (refine al_d rfl rfl rfl (by exact (by exact opd_load1_ref rfl Tryz.isAgg3 rfl rfl rfl rfl rfl)) ?_)
              all_goals (refine al_d rfl rfl rfl (by exact opd_eql rfl rfl rfl) ?_)
              all_goals (refine al_d rfl rfl rfl (by exact opd_move rfl rfl) ?_)
              all_goals (refine al_split (t := 30) rfl (fun h30 => ?_) (fun h30 => ?_))
              all_goals (try contradiction)
              all_goals (first | refine al_off rfl rfl rfl rfl rfl ?_ | refine al_ond rfl rfl rfl rfl rfl rfl (by exact (by exact opd_field_ref rfl fo44_0 rfl rfl rfl rfl)) ?_)
              all_goals (first | refine al_off rfl rfl rfl rfl rfl ?_ | refine al_ond rfl rfl rfl rfl rfl rfl (by exact (by exact opd_load1_ref rfl Tryz.isAgg3 rfl rfl rfl rfl rfl)) ?_)
              all_goals (first | refine al_off rfl rfl rfl rfl rfl ?_ | refine al_ond rfl rfl rfl rfl rfl rfl (by exact opd_eql rfl rfl rfl) ?_)
              all_goals (refine al_d rfl rfl rfl (by exact (by first | exact opd_pick_t rfl rfl rfl | exact opd_pick_f rfl rfl rfl)) ?_)
              all_goals (refine al_nil ?_)
              all_goals (exact ⟨⟨_, rfl, by (simp_all; done)⟩, rfl, rfl, rfl⟩)
            refine awp_cond rfl (fun hc6 => ?_) (fun hc6 => ?_)
            -- cond 6
            · skip
              (exfalso; have h := hc6; simp [ho] at h)
            · skip
              refine awp_skip ?_
              refine awp_seq ?_
              refine awp_region ?_
              refine al_d rfl rfl rfl (by exact (by exact opd_loadn_ref rfl Tryz.isAgg44 Tryz.sizeOf44 rfl rfl rfl rfl (by simp only [List.drop_succ_cons, List.drop_zero, List.take_succ_cons, List.take_zero, List.take_nil, List.map_cons, List.map_nil, List.set_cons_zero, List.set_cons_succ, List.cons_append, List.nil_append, encTag, encObj, encStr, encEdit, zObj]; rfl) rfl)) ?_
              refine al_n rfl rfl (by exact (by exact x_store_all rfl Tryz.sizeOf44 rfl rfl rfl rfl rfl rfl rfl rfl)) ?_
              refine al_nil ?_
              refine awp_ret ?_
              -- return
              refine aret1 (H' := []) (by exact .inr rfl) rfl (rval_cell rfl Tryz.isAgg44 Tryz.sizeOf44 rfl rfl rfl rfl rfl) (Fin.wk (r := av (encEdit (bare2 e))) (by simp [encEdit, bare2, zObj, encObj]) trivial trivial) ?_
              exact ⟨rfl, rfl⟩
    · skip
      (exfalso; have h := hc2; simp [ho] at h)
theorem bare3_c (e : GEdit) (H : Heap) (ho : e.op = 3) : ACalls Tryz.prog 101 [av (encEdit e)] H (fun r H' => r = av (encEdit (bare3 e)) ∧ H' = H) := by
  refine ACalls.pure ?_ (by simp) H
  refine ACalls.body Tryz.func101 rfl Tryz.ntmps101 (Nat.le_of_ble_eq_true rfl) ?_
  refine awp_seq ?_
  refine awp_region ?_
  refine al_d rfl rfl rfl (by exact opd_box (id := 1) rfl rfl rfl rfl rfl) ?_
  refine al_d rfl rfl rfl (by exact x_alloc (id := 2) rfl zo44 rfl rfl) ?_
  refine al_nil ?_
  refine awp_seq ?_
  refine awp_seq ?_
  refine awp_region ?_
  refine al_d rfl rfl rfl (by exact (by exact opd_field_ref rfl fo44_0 rfl rfl rfl rfl)) ?_
  refine al_d rfl rfl rfl (by exact (by exact opd_load1_ref rfl Tryz.isAgg3 rfl rfl rfl rfl rfl)) ?_
  refine al_d rfl rfl rfl (by exact opd_eql rfl rfl rfl) ?_
  refine al_nil ?_
  refine awp_cond rfl (fun hc1 => ?_) (fun hc1 => ?_)
  -- cond 1
  · skip
    (exfalso; have h := hc1; simp [ho] at h)
  · skip
    refine awp_region ?_
    refine al_d rfl rfl rfl (by exact (by exact opd_field_ref rfl fo44_1 rfl rfl rfl rfl)) ?_
    refine al_n rfl rfl (by exact (by exact x_store1 rfl Tryz.sizeOf9 rfl rfl rfl rfl rfl rfl (Nat.le_of_ble_eq_true rfl) rfl rfl)) ?_
    refine al_nil ?_
    refine awp_seq ?_
    refine awp_seq ?_
    refine awp_region ?_
    refine al_d rfl rfl rfl (by exact (by exact opd_field_ref rfl fo44_0 rfl rfl rfl rfl)) ?_
    refine al_d rfl rfl rfl (by exact (by exact opd_load1_ref rfl Tryz.isAgg3 rfl rfl rfl rfl rfl)) ?_
    refine al_d rfl rfl rfl (by exact opd_eql rfl rfl rfl) ?_
    refine al_nil ?_
    refine awp_cond rfl (fun hc2 => ?_) (fun hc2 => ?_)
    -- cond 2
    · skip
      (exfalso; have h := hc2; simp [ho] at h)
    · skip
      refine awp_skip ?_
      refine awp_seq ?_
      refine awp_seq ?_
      refine awp_region ?_
      refine al_d rfl rfl rfl (by exact (by exact opd_field_ref rfl fo44_0 rfl rfl rfl rfl)) ?_
      refine al_d rfl rfl rfl (by exact (by exact opd_load1_ref rfl Tryz.isAgg3 rfl rfl rfl rfl rfl)) ?_
      refine al_d rfl rfl rfl (by exact opd_eql rfl rfl rfl) ?_
      refine al_nil ?_
      refine awp_cond rfl (fun hc3 => ?_) (fun hc3 => ?_)
      -- cond 3
      · skip
        refine awp_seq ?_
        refine awp_region ?_
        refine al_d rfl rfl rfl (by exact (by exact opd_field_ref rfl fo44_5 rfl rfl rfl rfl)) ?_
        refine al_n rfl rfl (by exact (by exact x_store1 rfl Tryz.sizeOf9 rfl rfl rfl rfl rfl rfl (Nat.le_of_ble_eq_true rfl) rfl rfl)) ?_
        refine al_nil ?_
        refine awp_region ?_
        refine al_d rfl rfl rfl (by exact (by exact opd_field_ref rfl fo44_6 rfl rfl rfl rfl)) ?_
        refine al_n rfl rfl (by exact (by exact x_store1 rfl Tryz.sizeOf9 rfl rfl rfl rfl rfl rfl (Nat.le_of_ble_eq_true rfl) rfl rfl)) ?_
        refine al_nil ?_
        refine awp_seq ?_
        refine awp_seq ?_
        refine awp_region ?_
        refine al_d rfl rfl rfl (by exact (by exact opd_field_ref rfl fo44_0 rfl rfl rfl rfl)) ?_
        refine al_d rfl rfl rfl (by exact (by exact opd_load1_ref rfl Tryz.isAgg3 rfl rfl rfl rfl rfl)) ?_
        refine al_d rfl rfl rfl (by exact opd_eql rfl rfl rfl) ?_
        refine al_nil ?_
        refine awp_cond rfl (fun hc4 => ?_) (fun hc4 => ?_)
        -- cond 4
        · skip
          (exfalso; have h := hc4; simp [ho] at h)
        · skip
          refine awp_skip ?_
          refine awp_seq ?_
          refine awp_seq ?_
          refine awp_region ?_
          refine al_d rfl rfl rfl (by exact (by exact opd_field_ref rfl fo44_0 rfl rfl rfl rfl)) ?_
          refine al_d rfl rfl rfl (by exact (by exact opd_load1_ref rfl Tryz.isAgg3 rfl rfl rfl rfl rfl)) ?_
          refine al_d rfl rfl rfl (by exact opd_eql rfl rfl rfl) ?_
          refine al_nil ?_
          refine awp_cond rfl (fun hc5 => ?_) (fun hc5 => ?_)
          -- cond 5
          · skip
            (exfalso; have h := hc5; simp [ho] at h)
          · skip
            refine awp_skip ?_
            refine awp_seq ?_
            refine awp_seq ?_
            refine awp_bool (t := 34) (n := 9) (X := decide (e.op = 6) || decide (e.op = 7)) ?_ ?_
            · all_goals (refine al_d rfl rfl rfl (by exact (by exact opd_field_ref rfl fo44_0 rfl rfl rfl rfl)) ?_)
              all_goals (refine al_d rfl rfl rfl (by exact (by exact opd_load1_ref rfl Tryz.isAgg3 rfl rfl rfl rfl rfl)) ?_)
              all_goals (refine al_d rfl rfl rfl (by exact opd_eql rfl rfl rfl) ?_)
              all_goals (refine al_d rfl rfl rfl (by exact opd_move rfl rfl) ?_)
              all_goals (refine al_split (t := 30) rfl (fun h30 => ?_) (fun h30 => ?_))
              all_goals (try contradiction)
              all_goals (first | refine al_off rfl rfl rfl rfl rfl ?_ | refine al_ond rfl rfl rfl rfl rfl rfl (by exact (by exact opd_field_ref rfl fo44_0 rfl rfl rfl rfl)) ?_)
              all_goals (first | refine al_off rfl rfl rfl rfl rfl ?_ | refine al_ond rfl rfl rfl rfl rfl rfl (by exact (by exact opd_load1_ref rfl Tryz.isAgg3 rfl rfl rfl rfl rfl)) ?_)
              all_goals (first | refine al_off rfl rfl rfl rfl rfl ?_ | refine al_ond rfl rfl rfl rfl rfl rfl (by exact opd_eql rfl rfl rfl) ?_)
              all_goals (refine al_d rfl rfl rfl (by exact (by first | exact opd_pick_t rfl rfl rfl | exact opd_pick_f rfl rfl rfl)) ?_)
              all_goals (refine al_nil ?_)
              all_goals (exact ⟨⟨_, rfl, by (simp_all; done)⟩, rfl, rfl, rfl⟩)
            refine awp_cond rfl (fun hc6 => ?_) (fun hc6 => ?_)
            -- cond 6
            · skip
              (exfalso; have h := hc6; simp [ho] at h)
            · skip
              refine awp_skip ?_
              refine awp_seq ?_
              refine awp_region ?_
              refine al_d rfl rfl rfl (by exact (by exact opd_loadn_ref rfl Tryz.isAgg44 Tryz.sizeOf44 rfl rfl rfl rfl (by simp only [List.drop_succ_cons, List.drop_zero, List.take_succ_cons, List.take_zero, List.take_nil, List.map_cons, List.map_nil, List.set_cons_zero, List.set_cons_succ, List.cons_append, List.nil_append, encTag, encObj, encStr, encEdit, zObj]; rfl) rfl)) ?_
              refine al_n rfl rfl (by exact (by exact x_store_all rfl Tryz.sizeOf44 rfl rfl rfl rfl rfl rfl rfl rfl)) ?_
              refine al_nil ?_
              refine awp_ret ?_
              -- return
              refine aret1 (H' := []) (by exact .inr rfl) rfl (rval_cell rfl Tryz.isAgg44 Tryz.sizeOf44 rfl rfl rfl rfl rfl) (Fin.wk (r := av (encEdit (bare3 e))) (by simp [encEdit, bare3, zObj, encObj]) trivial trivial) ?_
              exact ⟨rfl, rfl⟩
      · skip
        (exfalso; have h := hc3; simp [ho] at h)
theorem bare4_c (e : GEdit) (H : Heap) (ho : e.op = 4) : ACalls Tryz.prog 101 [av (encEdit e)] H (fun r H' => r = av (encEdit (bare4 e)) ∧ H' = H) := by
  refine ACalls.pure ?_ (by simp) H
  refine ACalls.body Tryz.func101 rfl Tryz.ntmps101 (Nat.le_of_ble_eq_true rfl) ?_
  refine awp_seq ?_
  refine awp_region ?_
  refine al_d rfl rfl rfl (by exact opd_box (id := 1) rfl rfl rfl rfl rfl) ?_
  refine al_d rfl rfl rfl (by exact x_alloc (id := 2) rfl zo44 rfl rfl) ?_
  refine al_nil ?_
  refine awp_seq ?_
  refine awp_seq ?_
  refine awp_region ?_
  refine al_d rfl rfl rfl (by exact (by exact opd_field_ref rfl fo44_0 rfl rfl rfl rfl)) ?_
  refine al_d rfl rfl rfl (by exact (by exact opd_load1_ref rfl Tryz.isAgg3 rfl rfl rfl rfl rfl)) ?_
  refine al_d rfl rfl rfl (by exact opd_eql rfl rfl rfl) ?_
  refine al_nil ?_
  refine awp_cond rfl (fun hc1 => ?_) (fun hc1 => ?_)
  -- cond 1
  · skip
    (exfalso; have h := hc1; simp [ho] at h)
  · skip
    refine awp_region ?_
    refine al_d rfl rfl rfl (by exact (by exact opd_field_ref rfl fo44_1 rfl rfl rfl rfl)) ?_
    refine al_n rfl rfl (by exact (by exact x_store1 rfl Tryz.sizeOf9 rfl rfl rfl rfl rfl rfl (Nat.le_of_ble_eq_true rfl) rfl rfl)) ?_
    refine al_nil ?_
    refine awp_seq ?_
    refine awp_seq ?_
    refine awp_region ?_
    refine al_d rfl rfl rfl (by exact (by exact opd_field_ref rfl fo44_0 rfl rfl rfl rfl)) ?_
    refine al_d rfl rfl rfl (by exact (by exact opd_load1_ref rfl Tryz.isAgg3 rfl rfl rfl rfl rfl)) ?_
    refine al_d rfl rfl rfl (by exact opd_eql rfl rfl rfl) ?_
    refine al_nil ?_
    refine awp_cond rfl (fun hc2 => ?_) (fun hc2 => ?_)
    -- cond 2
    · skip
      (exfalso; have h := hc2; simp [ho] at h)
    · skip
      refine awp_skip ?_
      refine awp_seq ?_
      refine awp_seq ?_
      refine awp_region ?_
      refine al_d rfl rfl rfl (by exact (by exact opd_field_ref rfl fo44_0 rfl rfl rfl rfl)) ?_
      refine al_d rfl rfl rfl (by exact (by exact opd_load1_ref rfl Tryz.isAgg3 rfl rfl rfl rfl rfl)) ?_
      refine al_d rfl rfl rfl (by exact opd_eql rfl rfl rfl) ?_
      refine al_nil ?_
      refine awp_cond rfl (fun hc3 => ?_) (fun hc3 => ?_)
      -- cond 3
      · skip
        (exfalso; have h := hc3; simp [ho] at h)
      · skip
        refine awp_skip ?_
        refine awp_seq ?_
        refine awp_seq ?_
        refine awp_region ?_
        refine al_d rfl rfl rfl (by exact (by exact opd_field_ref rfl fo44_0 rfl rfl rfl rfl)) ?_
        refine al_d rfl rfl rfl (by exact (by exact opd_load1_ref rfl Tryz.isAgg3 rfl rfl rfl rfl rfl)) ?_
        refine al_d rfl rfl rfl (by exact opd_eql rfl rfl rfl) ?_
        refine al_nil ?_
        refine awp_cond rfl (fun hc4 => ?_) (fun hc4 => ?_)
        -- cond 4
        · skip
          refine awp_region ?_
          refine al_d rfl rfl rfl (by exact (by exact opd_field_ref rfl fo44_7 rfl rfl rfl rfl)) ?_
          refine al_n rfl rfl (by exact (by exact x_store1 rfl Tryz.sizeOf39 rfl rfl rfl rfl rfl rfl (Nat.le_of_ble_eq_true rfl) rfl rfl)) ?_
          refine al_nil ?_
          refine awp_seq ?_
          refine awp_seq ?_
          refine awp_region ?_
          refine al_d rfl rfl rfl (by exact (by exact opd_field_ref rfl fo44_0 rfl rfl rfl rfl)) ?_
          refine al_d rfl rfl rfl (by exact (by exact opd_load1_ref rfl Tryz.isAgg3 rfl rfl rfl rfl rfl)) ?_
          refine al_d rfl rfl rfl (by exact opd_eql rfl rfl rfl) ?_
          refine al_nil ?_
          refine awp_cond rfl (fun hc5 => ?_) (fun hc5 => ?_)
          -- cond 5
          · skip
            (exfalso; have h := hc5; simp [ho] at h)
          · skip
            refine awp_skip ?_
            refine awp_seq ?_
            refine awp_seq ?_
            refine awp_bool (t := 34) (n := 9) (X := decide (e.op = 6) || decide (e.op = 7)) ?_ ?_
            · all_goals (refine al_d rfl rfl rfl (by exact (by exact opd_field_ref rfl fo44_0 rfl rfl rfl rfl)) ?_)
              all_goals (refine al_d rfl rfl rfl (by exact (by exact opd_load1_ref rfl Tryz.isAgg3 rfl rfl rfl rfl rfl)) ?_)
              all_goals (refine al_d rfl rfl rfl (by exact opd_eql rfl rfl rfl) ?_)
              all_goals (refine al_d rfl rfl rfl (by exact opd_move rfl rfl) ?_)
              all_goals (refine al_split (t := 30) rfl (fun h30 => ?_) (fun h30 => ?_))
              all_goals (try contradiction)
              all_goals (first | refine al_off rfl rfl rfl rfl rfl ?_ | refine al_ond rfl rfl rfl rfl rfl rfl (by exact (by exact opd_field_ref rfl fo44_0 rfl rfl rfl rfl)) ?_)
              all_goals (first | refine al_off rfl rfl rfl rfl rfl ?_ | refine al_ond rfl rfl rfl rfl rfl rfl (by exact (by exact opd_load1_ref rfl Tryz.isAgg3 rfl rfl rfl rfl rfl)) ?_)
              all_goals (first | refine al_off rfl rfl rfl rfl rfl ?_ | refine al_ond rfl rfl rfl rfl rfl rfl (by exact opd_eql rfl rfl rfl) ?_)
              all_goals (refine al_d rfl rfl rfl (by exact (by first | exact opd_pick_t rfl rfl rfl | exact opd_pick_f rfl rfl rfl)) ?_)
              all_goals (refine al_nil ?_)
              all_goals (exact ⟨⟨_, rfl, by (simp_all; done)⟩, rfl, rfl, rfl⟩)
            refine awp_cond rfl (fun hc6 => ?_) (fun hc6 => ?_)
            -- cond 6
            · skip
              (exfalso; have h := hc6; simp [ho] at h)
            · skip
              refine awp_skip ?_
              refine awp_seq ?_
              refine awp_region ?_
              refine al_d rfl rfl rfl (by exact (by exact opd_loadn_ref rfl Tryz.isAgg44 Tryz.sizeOf44 rfl rfl rfl rfl (by simp only [List.drop_succ_cons, List.drop_zero, List.take_succ_cons, List.take_zero, List.take_nil, List.map_cons, List.map_nil, List.set_cons_zero, List.set_cons_succ, List.cons_append, List.nil_append, encTag, encObj, encStr, encEdit, zObj]; rfl) rfl)) ?_
              refine al_n rfl rfl (by exact (by exact x_store_all rfl Tryz.sizeOf44 rfl rfl rfl rfl rfl rfl rfl rfl)) ?_
              refine al_nil ?_
              refine awp_ret ?_
              -- return
              refine aret1 (H' := []) (by exact .inr rfl) rfl (rval_cell rfl Tryz.isAgg44 Tryz.sizeOf44 rfl rfl rfl rfl rfl) (Fin.wk (r := av (encEdit (bare4 e))) (by simp [encEdit, bare4, zObj, encObj]) trivial trivial) ?_
              exact ⟨rfl, rfl⟩
        · skip
          (exfalso; have h := hc4; simp [ho] at h)
theorem bare5_c (e : GEdit) (H : Heap) (ho : e.op = 5) : ACalls Tryz.prog 101 [av (encEdit e)] H (fun r H' => r = av (encEdit (bare5 e)) ∧ H' = H) := by
  refine ACalls.pure ?_ (by simp) H
  refine ACalls.body Tryz.func101 rfl Tryz.ntmps101 (Nat.le_of_ble_eq_true rfl) ?_
  refine awp_seq ?_
  refine awp_region ?_
  refine al_d rfl rfl rfl (by exact opd_box (id := 1) rfl rfl rfl rfl rfl) ?_
  refine al_d rfl rfl rfl (by exact x_alloc (id := 2) rfl zo44 rfl rfl) ?_
  refine al_nil ?_
  refine awp_seq ?_
  refine awp_seq ?_
  refine awp_region ?_
  refine al_d rfl rfl rfl (by exact (by exact opd_field_ref rfl fo44_0 rfl rfl rfl rfl)) ?_
  refine al_d rfl rfl rfl (by exact (by exact opd_load1_ref rfl Tryz.isAgg3 rfl rfl rfl rfl rfl)) ?_
  refine al_d rfl rfl rfl (by exact opd_eql rfl rfl rfl) ?_
  refine al_nil ?_
  refine awp_cond rfl (fun hc1 => ?_) (fun hc1 => ?_)
  -- cond 1
  · skip
    (exfalso; have h := hc1; simp [ho] at h)
  · skip
    refine awp_region ?_
    refine al_d rfl rfl rfl (by exact (by exact opd_field_ref rfl fo44_1 rfl rfl rfl rfl)) ?_
    refine al_n rfl rfl (by exact (by exact x_store1 rfl Tryz.sizeOf9 rfl rfl rfl rfl rfl rfl (Nat.le_of_ble_eq_true rfl) rfl rfl)) ?_
    refine al_nil ?_
    refine awp_seq ?_
    refine awp_seq ?_
    refine awp_region ?_
    refine al_d rfl rfl rfl (by exact (by exact opd_field_ref rfl fo44_0 rfl rfl rfl rfl)) ?_
    refine al_d rfl rfl rfl (by exact (by exact opd_load1_ref rfl Tryz.isAgg3 rfl rfl rfl rfl rfl)) ?_
    refine al_d rfl rfl rfl (by exact opd_eql rfl rfl rfl) ?_
    refine al_nil ?_
    refine awp_cond rfl (fun hc2 => ?_) (fun hc2 => ?_)
    -- cond 2
    · skip
      (exfalso; have h := hc2; simp [ho] at h)
    · skip
      refine awp_skip ?_
      refine awp_seq ?_
      refine awp_seq ?_
      refine awp_region ?_
      refine al_d rfl rfl rfl (by exact (by exact opd_field_ref rfl fo44_0 rfl rfl rfl rfl)) ?_
      refine al_d rfl rfl rfl (by exact (by exact opd_load1_ref rfl Tryz.isAgg3 rfl rfl rfl rfl rfl)) ?_
      refine al_d rfl rfl rfl (by exact opd_eql rfl rfl rfl) ?_
      refine al_nil ?_
      refine awp_cond rfl (fun hc3 => ?_) (fun hc3 => ?_)
      -- cond 3
      · skip
        (exfalso; have h := hc3; simp [ho] at h)
      · skip
        refine awp_skip ?_
        refine awp_seq ?_
        refine awp_seq ?_
        refine awp_region ?_
        refine al_d rfl rfl rfl (by exact (by exact opd_field_ref rfl fo44_0 rfl rfl rfl rfl)) ?_
        refine al_d rfl rfl rfl (by exact (by exact opd_load1_ref rfl Tryz.isAgg3 rfl rfl rfl rfl rfl)) ?_
        refine al_d rfl rfl rfl (by exact opd_eql rfl rfl rfl) ?_
        refine al_nil ?_
        refine awp_cond rfl (fun hc4 => ?_) (fun hc4 => ?_)
        -- cond 4
        · skip
          (exfalso; have h := hc4; simp [ho] at h)
        · skip
          refine awp_skip ?_
          refine awp_seq ?_
          refine awp_seq ?_
          refine awp_region ?_
          refine al_d rfl rfl rfl (by exact (by exact opd_field_ref rfl fo44_0 rfl rfl rfl rfl)) ?_
          refine al_d rfl rfl rfl (by exact (by exact opd_load1_ref rfl Tryz.isAgg3 rfl rfl rfl rfl rfl)) ?_
          refine al_d rfl rfl rfl (by exact opd_eql rfl rfl rfl) ?_
          refine al_nil ?_
          refine awp_cond rfl (fun hc5 => ?_) (fun hc5 => ?_)
          -- cond 5
          · skip
            (exfalso; have h := hc5; simp [ho] at h)
          · skip
            refine awp_skip ?_
            refine awp_seq ?_
            refine awp_seq ?_
            refine awp_bool (t := 34) (n := 9) (X := decide (e.op = 6) || decide (e.op = 7)) ?_ ?_
            · all_goals (refine al_d rfl rfl rfl (by exact (by exact opd_field_ref rfl fo44_0 rfl rfl rfl rfl)) ?_)
              all_goals (refine al_d rfl rfl rfl (by exact (by exact opd_load1_ref rfl Tryz.isAgg3 rfl rfl rfl rfl rfl)) ?_)
              all_goals (refine al_d rfl rfl rfl (by exact opd_eql rfl rfl rfl) ?_)
              all_goals (refine al_d rfl rfl rfl (by exact opd_move rfl rfl) ?_)
              all_goals (refine al_split (t := 30) rfl (fun h30 => ?_) (fun h30 => ?_))
              all_goals (try contradiction)
              all_goals (first | refine al_off rfl rfl rfl rfl rfl ?_ | refine al_ond rfl rfl rfl rfl rfl rfl (by exact (by exact opd_field_ref rfl fo44_0 rfl rfl rfl rfl)) ?_)
              all_goals (first | refine al_off rfl rfl rfl rfl rfl ?_ | refine al_ond rfl rfl rfl rfl rfl rfl (by exact (by exact opd_load1_ref rfl Tryz.isAgg3 rfl rfl rfl rfl rfl)) ?_)
              all_goals (first | refine al_off rfl rfl rfl rfl rfl ?_ | refine al_ond rfl rfl rfl rfl rfl rfl (by exact opd_eql rfl rfl rfl) ?_)
              all_goals (refine al_d rfl rfl rfl (by exact (by first | exact opd_pick_t rfl rfl rfl | exact opd_pick_f rfl rfl rfl)) ?_)
              all_goals (refine al_nil ?_)
              all_goals (exact ⟨⟨_, rfl, by (simp_all; done)⟩, rfl, rfl, rfl⟩)
            refine awp_cond rfl (fun hc6 => ?_) (fun hc6 => ?_)
            -- cond 6
            · skip
              (exfalso; have h := hc6; simp [ho] at h)
            · skip
              refine awp_skip ?_
              refine awp_seq ?_
              refine awp_region ?_
              refine al_d rfl rfl rfl (by exact (by exact opd_loadn_ref rfl Tryz.isAgg44 Tryz.sizeOf44 rfl rfl rfl rfl (by simp only [List.drop_succ_cons, List.drop_zero, List.take_succ_cons, List.take_zero, List.take_nil, List.map_cons, List.map_nil, List.set_cons_zero, List.set_cons_succ, List.cons_append, List.nil_append, encTag, encObj, encStr, encEdit, zObj]; rfl) rfl)) ?_
              refine al_n rfl rfl (by exact (by exact x_store_all rfl Tryz.sizeOf44 rfl rfl rfl rfl rfl rfl rfl rfl)) ?_
              refine al_nil ?_
              refine awp_ret ?_
              -- return
              refine aret1 (H' := []) (by exact .inr rfl) rfl (rval_cell rfl Tryz.isAgg44 Tryz.sizeOf44 rfl rfl rfl rfl rfl) (Fin.wk (r := av (encEdit (bare5 e))) (by simp [encEdit, bare5, zObj, encObj]) trivial trivial) ?_
              exact ⟨rfl, rfl⟩
theorem bare6_c (e : GEdit) (H : Heap) (ho : e.op = 6) : ACalls Tryz.prog 101 [av (encEdit e)] H (fun r H' => r = av (encEdit (bare6 e)) ∧ H' = H) := by
  refine ACalls.pure ?_ (by simp) H
  refine ACalls.body Tryz.func101 rfl Tryz.ntmps101 (Nat.le_of_ble_eq_true rfl) ?_
  refine awp_seq ?_
  refine awp_region ?_
  refine al_d rfl rfl rfl (by exact opd_box (id := 1) rfl rfl rfl rfl rfl) ?_
  refine al_d rfl rfl rfl (by exact x_alloc (id := 2) rfl zo44 rfl rfl) ?_
  refine al_nil ?_
  refine awp_seq ?_
  refine awp_seq ?_
  refine awp_region ?_
  refine al_d rfl rfl rfl (by exact (by exact opd_field_ref rfl fo44_0 rfl rfl rfl rfl)) ?_
  refine al_d rfl rfl rfl (by exact (by exact opd_load1_ref rfl Tryz.isAgg3 rfl rfl rfl rfl rfl)) ?_
  refine al_d rfl rfl rfl (by exact opd_eql rfl rfl rfl) ?_
  refine al_nil ?_
  refine awp_cond rfl (fun hc1 => ?_) (fun hc1 => ?_)
  -- cond 1
  · skip
    (exfalso; have h := hc1; simp [ho] at h)
  · skip
    refine awp_region ?_
    refine al_d rfl rfl rfl (by exact (by exact opd_field_ref rfl fo44_1 rfl rfl rfl rfl)) ?_
    refine al_n rfl rfl (by exact (by exact x_store1 rfl Tryz.sizeOf9 rfl rfl rfl rfl rfl rfl (Nat.le_of_ble_eq_true rfl) rfl rfl)) ?_
    refine al_nil ?_
    refine awp_seq ?_
    refine awp_seq ?_
    refine awp_region ?_
    refine al_d rfl rfl rfl (by exact (by exact opd_field_ref rfl fo44_0 rfl rfl rfl rfl)) ?_
    refine al_d rfl rfl rfl (by exact (by exact opd_load1_ref rfl Tryz.isAgg3 rfl rfl rfl rfl rfl)) ?_
    refine al_d rfl rfl rfl (by exact opd_eql rfl rfl rfl) ?_
    refine al_nil ?_
    refine awp_cond rfl (fun hc2 => ?_) (fun hc2 => ?_)
    -- cond 2
    · skip
      (exfalso; have h := hc2; simp [ho] at h)
    · skip
      refine awp_skip ?_
      refine awp_seq ?_
      refine awp_seq ?_
      refine awp_region ?_
      refine al_d rfl rfl rfl (by exact (by exact opd_field_ref rfl fo44_0 rfl rfl rfl rfl)) ?_
      refine al_d rfl rfl rfl (by exact (by exact opd_load1_ref rfl Tryz.isAgg3 rfl rfl rfl rfl rfl)) ?_
      refine al_d rfl rfl rfl (by exact opd_eql rfl rfl rfl) ?_
      refine al_nil ?_
      refine awp_cond rfl (fun hc3 => ?_) (fun hc3 => ?_)
      -- cond 3
      · skip
        (exfalso; have h := hc3; simp [ho] at h)
      · skip
        refine awp_skip ?_
        refine awp_seq ?_
        refine awp_seq ?_
        refine awp_region ?_
        refine al_d rfl rfl rfl (by exact (by exact opd_field_ref rfl fo44_0 rfl rfl rfl rfl)) ?_
        refine al_d rfl rfl rfl (by exact (by exact opd_load1_ref rfl Tryz.isAgg3 rfl rfl rfl rfl rfl)) ?_
        refine al_d rfl rfl rfl (by exact opd_eql rfl rfl rfl) ?_
        refine al_nil ?_
        refine awp_cond rfl (fun hc4 => ?_) (fun hc4 => ?_)
        -- cond 4
        · skip
          (exfalso; have h := hc4; simp [ho] at h)
        · skip
          refine awp_skip ?_
          refine awp_seq ?_
          refine awp_seq ?_
          refine awp_region ?_
          refine al_d rfl rfl rfl (by exact (by exact opd_field_ref rfl fo44_0 rfl rfl rfl rfl)) ?_
          refine al_d rfl rfl rfl (by exact (by exact opd_load1_ref rfl Tryz.isAgg3 rfl rfl rfl rfl rfl)) ?_
          refine al_d rfl rfl rfl (by exact opd_eql rfl rfl rfl) ?_
          refine al_nil ?_
          refine awp_cond rfl (fun hc5 => ?_) (fun hc5 => ?_)
          -- cond 5
          · skip
            refine awp_region ?_
            refine al_d rfl rfl rfl (by exact (by exact opd_field_ref rfl fo44_3 rfl rfl rfl rfl)) ?_
            refine al_n rfl rfl (by exact (by exact x_store1 rfl Tryz.sizeOf9 rfl rfl rfl rfl rfl rfl (Nat.le_of_ble_eq_true rfl) rfl rfl)) ?_
            refine al_nil ?_
            refine awp_seq ?_
            refine awp_seq ?_
            refine awp_bool (t := 34) (n := 9) (X := decide (e.op = 6) || decide (e.op = 7)) ?_ ?_
            · all_goals (refine al_d rfl rfl rfl (by exact (by exact opd_field_ref rfl fo44_0 rfl rfl rfl rfl)) ?_)
              all_goals (refine al_d rfl rfl rfl (by exact (by exact opd_load1_ref rfl Tryz.isAgg3 rfl rfl rfl rfl rfl)) ?_)
              all_goals (refine al_d rfl rfl rfl (by exact opd_eql rfl rfl rfl) ?_)
              all_goals (refine al_d rfl rfl rfl (by exact opd_move rfl rfl) ?_)
              all_goals (refine al_split (t := 30) rfl (fun h30 => ?_) (fun h30 => ?_))
              all_goals (try contradiction)
              all_goals (first | refine al_off rfl rfl rfl rfl rfl ?_ | refine al_ond rfl rfl rfl rfl rfl rfl (by exact (by exact opd_field_ref rfl fo44_0 rfl rfl rfl rfl)) ?_)
              all_goals (first | refine al_off rfl rfl rfl rfl rfl ?_ | refine al_ond rfl rfl rfl rfl rfl rfl (by exact (by exact opd_load1_ref rfl Tryz.isAgg3 rfl rfl rfl rfl rfl)) ?_)
              all_goals (first | refine al_off rfl rfl rfl rfl rfl ?_ | refine al_ond rfl rfl rfl rfl rfl rfl (by exact opd_eql rfl rfl rfl) ?_)
              all_goals (refine al_d rfl rfl rfl (by exact (by first | exact opd_pick_t rfl rfl rfl | exact opd_pick_f rfl rfl rfl)) ?_)
              all_goals (refine al_nil ?_)
              all_goals (exact ⟨⟨_, rfl, by (simp_all; done)⟩, rfl, rfl, rfl⟩)
            refine awp_cond rfl (fun hc6 => ?_) (fun hc6 => ?_)
            -- cond 6
            · skip
              refine awp_region ?_
              refine al_d rfl rfl rfl (by exact (by exact opd_field_ref rfl fo44_2 rfl rfl rfl rfl)) ?_
              refine al_n rfl rfl (by exact (by exact x_store1 rfl Tryz.sizeOf9 rfl rfl rfl rfl rfl rfl (Nat.le_of_ble_eq_true rfl) rfl rfl)) ?_
              refine al_nil ?_
              refine awp_seq ?_
              refine awp_region ?_
              refine al_d rfl rfl rfl (by exact (by exact opd_loadn_ref rfl Tryz.isAgg44 Tryz.sizeOf44 rfl rfl rfl rfl (by simp only [List.drop_succ_cons, List.drop_zero, List.take_succ_cons, List.take_zero, List.take_nil, List.map_cons, List.map_nil, List.set_cons_zero, List.set_cons_succ, List.cons_append, List.nil_append, encTag, encObj, encStr, encEdit, zObj]; rfl) rfl)) ?_
              refine al_n rfl rfl (by exact (by exact x_store_all rfl Tryz.sizeOf44 rfl rfl rfl rfl rfl rfl rfl rfl)) ?_
              refine al_nil ?_
              refine awp_ret ?_
              -- return
              refine aret1 (H' := []) (by exact .inr rfl) rfl (rval_cell rfl Tryz.isAgg44 Tryz.sizeOf44 rfl rfl rfl rfl rfl) (Fin.wk (r := av (encEdit (bare6 e))) (by simp [encEdit, bare6, zObj, encObj]) trivial trivial) ?_
              exact ⟨rfl, rfl⟩
            · skip
              (exfalso; have h := hc6; simp [ho] at h)
          · skip
            (exfalso; have h := hc5; simp [ho] at h)
theorem bare7_c (e : GEdit) (H : Heap) (ho : e.op = 7) : ACalls Tryz.prog 101 [av (encEdit e)] H (fun r H' => r = av (encEdit (bare7 e)) ∧ H' = H) := by
  refine ACalls.pure ?_ (by simp) H
  refine ACalls.body Tryz.func101 rfl Tryz.ntmps101 (Nat.le_of_ble_eq_true rfl) ?_
  refine awp_seq ?_
  refine awp_region ?_
  refine al_d rfl rfl rfl (by exact opd_box (id := 1) rfl rfl rfl rfl rfl) ?_
  refine al_d rfl rfl rfl (by exact x_alloc (id := 2) rfl zo44 rfl rfl) ?_
  refine al_nil ?_
  refine awp_seq ?_
  refine awp_seq ?_
  refine awp_region ?_
  refine al_d rfl rfl rfl (by exact (by exact opd_field_ref rfl fo44_0 rfl rfl rfl rfl)) ?_
  refine al_d rfl rfl rfl (by exact (by exact opd_load1_ref rfl Tryz.isAgg3 rfl rfl rfl rfl rfl)) ?_
  refine al_d rfl rfl rfl (by exact opd_eql rfl rfl rfl) ?_
  refine al_nil ?_
  refine awp_cond rfl (fun hc1 => ?_) (fun hc1 => ?_)
  -- cond 1
  · skip
    (exfalso; have h := hc1; simp [ho] at h)
  · skip
    refine awp_region ?_
    refine al_d rfl rfl rfl (by exact (by exact opd_field_ref rfl fo44_1 rfl rfl rfl rfl)) ?_
    refine al_n rfl rfl (by exact (by exact x_store1 rfl Tryz.sizeOf9 rfl rfl rfl rfl rfl rfl (Nat.le_of_ble_eq_true rfl) rfl rfl)) ?_
    refine al_nil ?_
    refine awp_seq ?_
    refine awp_seq ?_
    refine awp_region ?_
    refine al_d rfl rfl rfl (by exact (by exact opd_field_ref rfl fo44_0 rfl rfl rfl rfl)) ?_
    refine al_d rfl rfl rfl (by exact (by exact opd_load1_ref rfl Tryz.isAgg3 rfl rfl rfl rfl rfl)) ?_
    refine al_d rfl rfl rfl (by exact opd_eql rfl rfl rfl) ?_
    refine al_nil ?_
    refine awp_cond rfl (fun hc2 => ?_) (fun hc2 => ?_)
    -- cond 2
    · skip
      (exfalso; have h := hc2; simp [ho] at h)
    · skip
      refine awp_skip ?_
      refine awp_seq ?_
      refine awp_seq ?_
      refine awp_region ?_
      refine al_d rfl rfl rfl (by exact (by exact opd_field_ref rfl fo44_0 rfl rfl rfl rfl)) ?_
      refine al_d rfl rfl rfl (by exact (by exact opd_load1_ref rfl Tryz.isAgg3 rfl rfl rfl rfl rfl)) ?_
      refine al_d rfl rfl rfl (by exact opd_eql rfl rfl rfl) ?_
      refine al_nil ?_
      refine awp_cond rfl (fun hc3 => ?_) (fun hc3 => ?_)
      -- cond 3
      · skip
        (exfalso; have h := hc3; simp [ho] at h)
      · skip
        refine awp_skip ?_
        refine awp_seq ?_
        refine awp_seq ?_
        refine awp_region ?_
        refine al_d rfl rfl rfl (by exact (by exact opd_field_ref rfl fo44_0 rfl rfl rfl rfl)) ?_
        refine al_d rfl rfl rfl (by exact (by exact opd_load1_ref rfl Tryz.isAgg3 rfl rfl rfl rfl rfl)) ?_
        refine al_d rfl rfl rfl (by exact opd_eql rfl rfl rfl) ?_
        refine al_nil ?_
        refine awp_cond rfl (fun hc4 => ?_) (fun hc4 => ?_)
        -- cond 4
        · skip
          (exfalso; have h := hc4; simp [ho] at h)
        · skip
          refine awp_skip ?_
          refine awp_seq ?_
          refine awp_seq ?_
          refine awp_region ?_
          refine al_d rfl rfl rfl (by exact (by exact opd_field_ref rfl fo44_0 rfl rfl rfl rfl)) ?_
          refine al_d rfl rfl rfl (by exact (by exact opd_load1_ref rfl Tryz.isAgg3 rfl rfl rfl rfl rfl)) ?_
          refine al_d rfl rfl rfl (by exact opd_eql rfl rfl rfl) ?_
          refine al_nil ?_
          refine awp_cond rfl (fun hc5 => ?_) (fun hc5 => ?_)
          -- cond 5
          · skip
            (exfalso; have h := hc5; simp [ho] at h)
          · skip
            refine awp_skip ?_
            refine awp_seq ?_
            refine awp_seq ?_
            refine awp_bool (t := 34) (n := 9) (X := decide (e.op = 6) || decide (e.op = 7)) ?_ ?_
            · all_goals (refine al_d rfl rfl rfl (by exact (by exact opd_field_ref rfl fo44_0 rfl rfl rfl rfl)) ?_)
              all_goals (refine al_d rfl rfl rfl (by exact (by exact opd_load1_ref rfl Tryz.isAgg3 rfl rfl rfl rfl rfl)) ?_)
              all_goals (refine al_d rfl rfl rfl (by exact opd_eql rfl rfl rfl) ?_)
              all_goals (refine al_d rfl rfl rfl (by exact opd_move rfl rfl) ?_)
              all_goals (refine al_split (t := 30) rfl (fun h30 => ?_) (fun h30 => ?_))
              all_goals (try contradiction)
              all_goals (first | refine al_off rfl rfl rfl rfl rfl ?_ | refine al_ond rfl rfl rfl rfl rfl rfl (by exact (by exact opd_field_ref rfl fo44_0 rfl rfl rfl rfl)) ?_)
              all_goals (first | refine al_off rfl rfl rfl rfl rfl ?_ | refine al_ond rfl rfl rfl rfl rfl rfl (by exact (by exact opd_load1_ref rfl Tryz.isAgg3 rfl rfl rfl rfl rfl)) ?_)
              all_goals (first | refine al_off rfl rfl rfl rfl rfl ?_ | refine al_ond rfl rfl rfl rfl rfl rfl (by exact opd_eql rfl rfl rfl) ?_)
              all_goals (refine al_d rfl rfl rfl (by exact (by first | exact opd_pick_t rfl rfl rfl | exact opd_pick_f rfl rfl rfl)) ?_)
              all_goals (refine al_nil ?_)
              all_goals (exact ⟨⟨_, rfl, by (simp_all; done)⟩, rfl, rfl, rfl⟩)
            refine awp_cond rfl (fun hc6 => ?_) (fun hc6 => ?_)
            -- cond 6
            · skip
              refine awp_region ?_
              refine al_d rfl rfl rfl (by exact (by exact opd_field_ref rfl fo44_2 rfl rfl rfl rfl)) ?_
              refine al_n rfl rfl (by exact (by exact x_store1 rfl Tryz.sizeOf9 rfl rfl rfl rfl rfl rfl (Nat.le_of_ble_eq_true rfl) rfl rfl)) ?_
              refine al_nil ?_
              refine awp_seq ?_
              refine awp_region ?_
              refine al_d rfl rfl rfl (by exact (by exact opd_loadn_ref rfl Tryz.isAgg44 Tryz.sizeOf44 rfl rfl rfl rfl (by simp only [List.drop_succ_cons, List.drop_zero, List.take_succ_cons, List.take_zero, List.take_nil, List.map_cons, List.map_nil, List.set_cons_zero, List.set_cons_succ, List.cons_append, List.nil_append, encTag, encObj, encStr, encEdit, zObj]; rfl) rfl)) ?_
              refine al_n rfl rfl (by exact (by exact x_store_all rfl Tryz.sizeOf44 rfl rfl rfl rfl rfl rfl rfl rfl)) ?_
              refine al_nil ?_
              refine awp_ret ?_
              -- return
              refine aret1 (H' := []) (by exact .inr rfl) rfl (rval_cell rfl Tryz.isAgg44 Tryz.sizeOf44 rfl rfl rfl rfl rfl) (Fin.wk (r := av (encEdit (bare7 e))) (by simp [encEdit, bare7, zObj, encObj]) trivial trivial) ?_
              exact ⟨rfl, rfl⟩
            · skip
              (exfalso; have h := hc6; simp [ho] at h)
theorem rValid1_c (e : GEdit) (H : Heap) (he : okE e) (ho : e.op = 1) : ACalls Tryz.prog 47 [av (encEdit e)] H (fun r H' => r = bv (gEditV e) ∧ H' = H) := by
  refine ACalls.pure ?_ (by simp) H
  rw [ed1 e ho]
  obtain ⟨⟨h1, h2, h3, h4⟩, ⟨h5, h6⟩, h7⟩ := he
  have hrl : (e.refs.map encStr).length = e.refs.length := List.length_map _
  refine ACalls.body Tryz.func47 rfl Tryz.ntmps47 (Nat.le_of_ble_eq_true rfl) ?_
  refine awp_seq ?_
  refine awp_region ?_
  refine al_d rfl rfl rfl (by exact opd_box (id := 1) rfl rfl rfl rfl rfl) ?_
  refine al_d rfl rfl rfl (by exact opd_assign rfl rfl) ?_
  refine al_nil ?_
  refine awp_seq ?_
  refine awp_seq ?_
  refine awp_bool (t := 13) (n := 9) (X := decide (e.op < 1) || decide (7 < e.op)) ?_ ?_
  · all_goals (refine al_d rfl rfl rfl (by exact (by exact opd_field_ref rfl fo44_0 rfl rfl rfl rfl)) ?_)
    all_goals (refine al_d rfl rfl rfl (by exact (by exact opd_load1_ref rfl Tryz.isAgg3 rfl rfl rfl rfl rfl)) ?_)
    all_goals (refine al_d rfl rfl rfl (by exact opd_lss rfl rfl rfl) ?_)
    all_goals (refine al_d rfl rfl rfl (by exact opd_move rfl rfl) ?_)
    all_goals (refine al_split (t := 9) rfl (fun h9 => ?_) (fun h9 => ?_))
    all_goals (try contradiction)
    all_goals (first | refine al_off rfl rfl rfl rfl rfl ?_ | refine al_ond rfl rfl rfl rfl rfl rfl (by exact (by exact opd_field_ref rfl fo44_0 rfl rfl rfl rfl)) ?_)
    all_goals (first | refine al_off rfl rfl rfl rfl rfl ?_ | refine al_ond rfl rfl rfl rfl rfl rfl (by exact (by exact opd_load1_ref rfl Tryz.isAgg3 rfl rfl rfl rfl rfl)) ?_)
    all_goals (first | refine al_off rfl rfl rfl rfl rfl ?_ | refine al_ond rfl rfl rfl rfl rfl rfl (by exact opd_gtr rfl rfl rfl) ?_)
    all_goals (refine al_d rfl rfl rfl (by exact (by first | exact opd_pick_t rfl rfl rfl | exact opd_pick_f rfl rfl rfl)) ?_)
    all_goals (refine al_nil ?_)
    all_goals (exact ⟨⟨_, rfl, by first | (simp only [rb, bare1, *]; rfl) | (simp_all [rb, bare1]; done)⟩, rfl, rfl, rfl⟩)
  refine awp_cond rfl (fun hc1 => ?_) (fun hc1 => ?_)
  -- cond 1
  · skip
    (exfalso; have h := hc1; simp [ho] at h)
  · skip
    refine awp_skip ?_
    refine awp_seq ?_
    refine awp_region ?_
    refine al_d rfl rfl rfl (by exact (by exact opd_loadn_ref rfl Tryz.isAgg44 Tryz.sizeOf44 rfl rfl rfl rfl (by simp only [List.drop_succ_cons, List.drop_zero, List.take_succ_cons, List.take_zero, List.take_nil, List.map_cons, List.map_nil, List.set_cons_zero, List.set_cons_succ, List.cons_append, List.nil_append, encTag, encObj, encStr, encEdit, zObj]; rfl) rfl)) ?_
    refine al_d rfl rfl rfl (by exact opr_call rfl rfl Tryz.call101 rfl (bare1_c e _ ho)) ?_
    refine al_d rfl rfl rfl (by exact x_alloc (id := 3) rfl zo44 rfl rfl) ?_
    refine al_n rfl rfl (by exact (by exact x_store_all rfl Tryz.sizeOf44 rfl rfl rfl rfl rfl rfl rfl rfl)) ?_
    refine al_nil ?_
    refine awp_seq ?_
    refine awp_seq ?_
    refine awp_bool (t := 57) (n := 49) (X := rb (bare1 e)) ?_ ?_
    · all_goals (refine al_d rfl rfl rfl (by exact (by exact opd_field_ref rfl fo44_1 rfl rfl rfl rfl)) ?_)
      all_goals (refine al_d rfl rfl rfl (by exact (by exact opd_load1_ref rfl Tryz.isAgg9 rfl rfl rfl rfl rfl)) ?_)
      all_goals (refine al_d rfl rfl rfl (by exact opd_sneq rfl rfl rfl) ?_)
      all_goals (refine al_d rfl rfl rfl (by exact opd_move rfl rfl) ?_)
      all_goals (refine al_split (t := 19) rfl (fun h19 => ?_) (fun h19 => ?_))
      all_goals (try contradiction)
      all_goals (first | refine al_off rfl rfl rfl rfl rfl ?_ | refine al_ond rfl rfl rfl rfl rfl rfl (by exact (by exact opd_field_ref rfl fo44_2 rfl rfl rfl rfl)) ?_)
      all_goals (first | refine al_off rfl rfl rfl rfl rfl ?_ | refine al_ond rfl rfl rfl rfl rfl rfl (by exact (by exact opd_load1_ref rfl Tryz.isAgg9 rfl rfl rfl rfl rfl)) ?_)
      all_goals (first | refine al_off rfl rfl rfl rfl rfl ?_ | refine al_ond rfl rfl rfl rfl rfl rfl (by exact opd_sneq rfl rfl rfl) ?_)
      all_goals (refine al_d rfl rfl rfl (by exact (by first | exact opd_pick_t rfl rfl rfl | exact opd_pick_f rfl rfl rfl)) ?_)
      all_goals (refine al_d rfl rfl rfl (by exact opd_move rfl rfl) ?_)
      all_goals (refine al_split (t := 24) rfl (fun h24 => ?_) (fun h24 => ?_))
      all_goals (try contradiction)
      all_goals (first | refine al_off rfl rfl rfl rfl rfl ?_ | refine al_ond rfl rfl rfl rfl rfl rfl (by exact (by exact opd_field_ref rfl fo44_3 rfl rfl rfl rfl)) ?_)
      all_goals (first | refine al_off rfl rfl rfl rfl rfl ?_ | refine al_ond rfl rfl rfl rfl rfl rfl (by exact (by exact opd_load1_ref rfl Tryz.isAgg9 rfl rfl rfl rfl rfl)) ?_)
      all_goals (first | refine al_off rfl rfl rfl rfl rfl ?_ | refine al_ond rfl rfl rfl rfl rfl rfl (by exact opd_sneq rfl rfl rfl) ?_)
      all_goals (refine al_d rfl rfl rfl (by exact (by first | exact opd_pick_t rfl rfl rfl | exact opd_pick_f rfl rfl rfl)) ?_)
      all_goals (refine al_d rfl rfl rfl (by exact opd_move rfl rfl) ?_)
      all_goals (refine al_split (t := 29) rfl (fun h29 => ?_) (fun h29 => ?_))
      all_goals (try contradiction)
      all_goals (first | refine al_off rfl rfl rfl rfl rfl ?_ | refine al_ond rfl rfl rfl rfl rfl rfl (by exact (by exact opd_field_ref rfl fo44_4 rfl rfl rfl rfl)) ?_)
      all_goals (first | refine al_off rfl rfl rfl rfl rfl ?_ | refine al_ond rfl rfl rfl rfl rfl rfl (by exact (by exact opd_loadn_ref rfl Tryz.isAgg38 Tryz.sizeOf38 rfl rfl rfl rfl (by simp only [List.drop_succ_cons, List.drop_zero, List.take_succ_cons, List.take_zero, List.take_nil, List.map_cons, List.map_nil, List.set_cons_zero, List.set_cons_succ, List.cons_append, List.nil_append, encTag, encObj, encStr, encEdit, zObj]; rfl) rfl)) ?_)
      all_goals (first | refine al_off rfl rfl rfl rfl rfl ?_ | refine al_ond rfl rfl rfl rfl rfl rfl (by exact x_build rfl bo38 rfl rfl) ?_)
      all_goals (first | refine al_off rfl rfl rfl rfl rfl ?_ | refine al_ond rfl rfl rfl rfl rfl rfl (by exact opd_aneq rfl rfl rfl rfl rfl Tryz.eqGuardType38 (se38 _ _ _ _)) ?_)
      all_goals (refine al_d rfl rfl rfl (by exact (by first | exact opd_pick_t rfl rfl rfl | exact opd_pick_f rfl rfl rfl)) ?_)
      all_goals (refine al_d rfl rfl rfl (by exact opd_move rfl rfl) ?_)
      all_goals (refine al_split (t := 35) rfl (fun h35 => ?_) (fun h35 => ?_))
      all_goals (try contradiction)
      all_goals (first | refine al_off rfl rfl rfl rfl rfl ?_ | refine al_ond rfl rfl rfl rfl rfl rfl (by exact (by exact opd_field_ref rfl fo44_5 rfl rfl rfl rfl)) ?_)
      all_goals (first | refine al_off rfl rfl rfl rfl rfl ?_ | refine al_ond rfl rfl rfl rfl rfl rfl (by exact (by exact opd_load1_ref rfl Tryz.isAgg9 rfl rfl rfl rfl rfl)) ?_)
      all_goals (first | refine al_off rfl rfl rfl rfl rfl ?_ | refine al_ond rfl rfl rfl rfl rfl rfl (by exact opd_sneq rfl rfl rfl) ?_)
      all_goals (refine al_d rfl rfl rfl (by exact (by first | exact opd_pick_t rfl rfl rfl | exact opd_pick_f rfl rfl rfl)) ?_)
      all_goals (refine al_d rfl rfl rfl (by exact opd_move rfl rfl) ?_)
      all_goals (refine al_split (t := 40) rfl (fun h40 => ?_) (fun h40 => ?_))
      all_goals (try contradiction)
      all_goals (first | refine al_off rfl rfl rfl rfl rfl ?_ | refine al_ond rfl rfl rfl rfl rfl rfl (by exact (by exact opd_field_ref rfl fo44_6 rfl rfl rfl rfl)) ?_)
      all_goals (first | refine al_off rfl rfl rfl rfl rfl ?_ | refine al_ond rfl rfl rfl rfl rfl rfl (by exact (by exact opd_load1_ref rfl Tryz.isAgg9 rfl rfl rfl rfl rfl)) ?_)
      all_goals (first | refine al_off rfl rfl rfl rfl rfl ?_ | refine al_ond rfl rfl rfl rfl rfl rfl (by exact opd_sneq rfl rfl rfl) ?_)
      all_goals (refine al_d rfl rfl rfl (by exact (by first | exact opd_pick_t rfl rfl rfl | exact opd_pick_f rfl rfl rfl)) ?_)
      all_goals (refine al_d rfl rfl rfl (by exact opd_move rfl rfl) ?_)
      all_goals (refine al_split (t := 45) rfl (fun h45 => ?_) (fun h45 => ?_))
      all_goals (try contradiction)
      all_goals (first | refine al_off rfl rfl rfl rfl rfl ?_ | refine al_ond rfl rfl rfl rfl rfl rfl (by exact (by exact opd_field_ref rfl fo44_7 rfl rfl rfl rfl)) ?_)
      all_goals (first | refine al_off rfl rfl rfl rfl rfl ?_ | refine al_ond rfl rfl rfl rfl rfl rfl (by exact (by exact opd_load1_ref rfl Tryz.isAgg39 rfl rfl rfl rfl rfl)) ?_)
      all_goals (first | refine al_off rfl rfl rfl rfl rfl ?_ | refine al_ond rfl rfl rfl rfl rfl rfl (by exact (by exact opd_len_sl rfl Tryz.underlying39 rfl)) ?_)
      all_goals (first | refine al_off rfl rfl rfl rfl rfl ?_ | refine al_ond rfl rfl rfl rfl rfl rfl (by exact opd_gtr rfl rfl rfl) ?_)
      all_goals (refine al_d rfl rfl rfl (by exact (by first | exact opd_pick_t rfl rfl rfl | exact opd_pick_f rfl rfl rfl)) ?_)
      all_goals (refine al_d rfl rfl rfl (by exact opd_move rfl rfl) ?_)
      all_goals (refine al_split (t := 51) rfl (fun h51 => ?_) (fun h51 => ?_))
      all_goals (try contradiction)
      all_goals (first | refine al_off rfl rfl rfl rfl rfl ?_ | refine al_ond rfl rfl rfl rfl rfl rfl (by exact (by exact opd_field_ref rfl fo44_8 rfl rfl rfl rfl)) ?_)
      all_goals (first | refine al_off rfl rfl rfl rfl rfl ?_ | refine al_ond rfl rfl rfl rfl rfl rfl (by exact (by exact opd_loadn_ref rfl Tryz.isAgg42 Tryz.sizeOf42 rfl rfl rfl rfl (by simp only [List.drop_succ_cons, List.drop_zero, List.take_succ_cons, List.take_zero, List.take_nil, List.map_cons, List.map_nil, List.set_cons_zero, List.set_cons_succ, List.cons_append, List.nil_append, encTag, encObj, encStr, encEdit, zObj]; rfl) rfl)) ?_)
      all_goals (first | refine al_off rfl rfl rfl rfl rfl ?_ | refine al_ond rfl rfl rfl rfl rfl rfl (by exact x_build rfl bo42 rfl rfl) ?_)
      all_goals (first | refine al_off rfl rfl rfl rfl rfl ?_ | refine al_ond rfl rfl rfl rfl rfl rfl (by exact opr_call rfl rfl Tryz.call85 rfl (rSame_c (bare1 e).obj zObj _ (show (0 : Nat) < 4611686018427387904 by decide) (show (0 : Nat) < 4611686018427387904 by decide))) ?_)
      all_goals (first | refine al_off rfl rfl rfl rfl rfl ?_ | refine al_ond rfl rfl rfl rfl rfl rfl (by exact opd_not rfl rfl) ?_)
      all_goals (refine al_d rfl rfl rfl (by exact (by first | exact opd_pick_t rfl rfl rfl | exact opd_pick_f rfl rfl rfl)) ?_)
      all_goals (refine al_nil ?_)
      all_goals (exact ⟨⟨_, rfl, by (simp_all [rb, bare1]; done)⟩, rfl, rfl, rfl⟩)
    refine awp_cond rfl (fun hc2 => ?_) (fun hc2 => ?_)
    -- cond 2
    · rw [hc2, Bool.not_true, Bool.false_and]
      refine awp_seq ?_
      refine awp_region ?_
      refine al_d rfl rfl rfl (by exact opd_assign rfl rfl) ?_
      refine al_nil ?_
      refine awp_ret ?_
      -- return
      refine aret1 (H' := []) (by exact .inr rfl) rfl (rval_tmp rfl) (Fin.wk (by simp) trivial trivial) ?_
      exact ⟨rfl, rfl⟩
    · rw [hc2, Bool.not_false, Bool.true_and]
      refine awp_skip ?_
      refine awp_seq ?_
      refine awp_seq ?_
      refine awp_region ?_
      refine al_d rfl rfl rfl (by exact (by exact opd_field_ref rfl fo44_0 rfl rfl rfl rfl)) ?_
      refine al_d rfl rfl rfl (by exact (by exact opd_load1_ref rfl Tryz.isAgg3 rfl rfl rfl rfl rfl)) ?_
      refine al_d rfl rfl rfl (by exact opd_eql rfl rfl rfl) ?_
      refine al_nil ?_
      refine awp_cond rfl (fun hc3 => ?_) (fun hc3 => ?_)
      -- cond 3
      · skip
        refine awp_seq ?_
        refine awp_region ?_
        refine al_d rfl rfl rfl (by exact (by exact opd_field_ref rfl fo44_8 rfl rfl rfl rfl)) ?_
        refine al_d rfl rfl rfl (by exact (by exact opd_loadn_ref rfl Tryz.isAgg42 Tryz.sizeOf42 rfl rfl rfl rfl (by simp only [List.drop_succ_cons, List.drop_zero, List.take_succ_cons, List.take_zero, List.take_nil, List.map_cons, List.map_nil, List.set_cons_zero, List.set_cons_succ, List.cons_append, List.nil_append, encTag, encObj, encStr, encEdit, zObj]; rfl) rfl)) ?_
        refine al_d rfl rfl rfl (by exact opr_call rfl rfl Tryz.call102 rfl (rObj_c e.obj _ h7)) ?_
        refine al_d rfl rfl rfl (by exact opd_assign rfl rfl) ?_
        refine al_nil ?_
        refine awp_ret ?_
        -- return
        refine aret1 (H' := []) (by exact .inr rfl) rfl (rval_tmp rfl) (Fin.wk (by simp) trivial trivial) ?_
        exact ⟨rfl, rfl⟩
      · skip
        (exfalso; have h := hc3; simp [ho] at h)
theorem rValid2_c (e : GEdit) (H : Heap) (he : okE e) (ho : e.op = 2) : ACalls Tryz.prog 47 [av (encEdit e)] H (fun r H' => r = bv (gEditV e) ∧ H' = H) := by
  refine ACalls.pure ?_ (by simp) H
  rw [ed2 e ho]
  obtain ⟨⟨h1, h2, h3, h4⟩, ⟨h5, h6⟩, h7⟩ := he
  have hrl : (e.refs.map encStr).length = e.refs.length := List.length_map _
  refine ACalls.body Tryz.func47 rfl Tryz.ntmps47 (Nat.le_of_ble_eq_true rfl) ?_
  refine awp_seq ?_
  refine awp_region ?_
  refine al_d rfl rfl rfl (by exact opd_box (id := 1) rfl rfl rfl rfl rfl) ?_
  refine al_d rfl rfl rfl (by exact opd_assign rfl rfl) ?_
  refine al_nil ?_
  refine awp_seq ?_
  refine awp_seq ?_
  refine awp_bool (t := 13) (n := 9) (X := decide (e.op < 1) || decide (7 < e.op)) ?_ ?_
  · all_goals (refine al_d rfl rfl rfl (by exact (by exact opd_field_ref rfl fo44_0 rfl rfl rfl rfl)) ?_)
    all_goals (refine al_d rfl rfl rfl (by exact (by exact opd_load1_ref rfl Tryz.isAgg3 rfl rfl rfl rfl rfl)) ?_)
    all_goals (refine al_d rfl rfl rfl (by exact opd_lss rfl rfl rfl) ?_)
    all_goals (refine al_d rfl rfl rfl (by exact opd_move rfl rfl) ?_)
    all_goals (refine al_split (t := 9) rfl (fun h9 => ?_) (fun h9 => ?_))
    all_goals (try contradiction)
    all_goals (first | refine al_off rfl rfl rfl rfl rfl ?_ | refine al_ond rfl rfl rfl rfl rfl rfl (by exact (by exact opd_field_ref rfl fo44_0 rfl rfl rfl rfl)) ?_)
    all_goals (first | refine al_off rfl rfl rfl rfl rfl ?_ | refine al_ond rfl rfl rfl rfl rfl rfl (by exact (by exact opd_load1_ref rfl Tryz.isAgg3 rfl rfl rfl rfl rfl)) ?_)
    all_goals (first | refine al_off rfl rfl rfl rfl rfl ?_ | refine al_ond rfl rfl rfl rfl rfl rfl (by exact opd_gtr rfl rfl rfl) ?_)
    all_goals (refine al_d rfl rfl rfl (by exact (by first | exact opd_pick_t rfl rfl rfl | exact opd_pick_f rfl rfl rfl)) ?_)
    all_goals (refine al_nil ?_)
    all_goals (exact ⟨⟨_, rfl, by first | (simp only [rb, bare2, *]; rfl) | (simp_all [rb, bare2]; done)⟩, rfl, rfl, rfl⟩)
  refine awp_cond rfl (fun hc1 => ?_) (fun hc1 => ?_)
  -- cond 1
  · skip
    (exfalso; have h := hc1; simp [ho] at h)
  · skip
    refine awp_skip ?_
    refine awp_seq ?_
    refine awp_region ?_
    refine al_d rfl rfl rfl (by exact (by exact opd_loadn_ref rfl Tryz.isAgg44 Tryz.sizeOf44 rfl rfl rfl rfl (by simp only [List.drop_succ_cons, List.drop_zero, List.take_succ_cons, List.take_zero, List.take_nil, List.map_cons, List.map_nil, List.set_cons_zero, List.set_cons_succ, List.cons_append, List.nil_append, encTag, encObj, encStr, encEdit, zObj]; rfl) rfl)) ?_
    refine al_d rfl rfl rfl (by exact opr_call rfl rfl Tryz.call101 rfl (bare2_c e _ ho)) ?_
    refine al_d rfl rfl rfl (by exact x_alloc (id := 3) rfl zo44 rfl rfl) ?_
    refine al_n rfl rfl (by exact (by exact x_store_all rfl Tryz.sizeOf44 rfl rfl rfl rfl rfl rfl rfl rfl)) ?_
    refine al_nil ?_
    refine awp_seq ?_
    refine awp_seq ?_
    refine awp_bool (t := 57) (n := 49) (X := rb (bare2 e)) ?_ ?_
    · all_goals (refine al_d rfl rfl rfl (by exact (by exact opd_field_ref rfl fo44_1 rfl rfl rfl rfl)) ?_)
      all_goals (refine al_d rfl rfl rfl (by exact (by exact opd_load1_ref rfl Tryz.isAgg9 rfl rfl rfl rfl rfl)) ?_)
      all_goals (refine al_d rfl rfl rfl (by exact opd_sneq rfl rfl rfl) ?_)
      all_goals (refine al_d rfl rfl rfl (by exact opd_move rfl rfl) ?_)
      all_goals (refine al_split (t := 19) rfl (fun h19 => ?_) (fun h19 => ?_))
      all_goals (try contradiction)
      all_goals (refine al_ond rfl rfl rfl rfl rfl rfl (by exact (by exact opd_field_ref rfl fo44_2 rfl rfl rfl rfl)) ?_)
      all_goals (refine al_ond rfl rfl rfl rfl rfl rfl (by exact (by exact opd_load1_ref rfl Tryz.isAgg9 rfl rfl rfl rfl rfl)) ?_)
      all_goals (refine al_ond rfl rfl rfl rfl rfl rfl (by exact opd_sneq rfl rfl rfl) ?_)
      all_goals (refine al_d rfl rfl rfl (by exact (by exact opd_pick_f rfl rfl rfl)) ?_)
      all_goals (refine al_d rfl rfl rfl (by exact opd_move rfl rfl) ?_)
      all_goals (refine al_split (t := 24) rfl (fun h24 => ?_) (fun h24 => ?_))
      all_goals (try contradiction)
      all_goals (first | refine al_off rfl rfl rfl rfl rfl ?_ | refine al_ond rfl rfl rfl rfl rfl rfl (by exact (by exact opd_field_ref rfl fo44_3 rfl rfl rfl rfl)) ?_)
      all_goals (first | refine al_off rfl rfl rfl rfl rfl ?_ | refine al_ond rfl rfl rfl rfl rfl rfl (by exact (by exact opd_load1_ref rfl Tryz.isAgg9 rfl rfl rfl rfl rfl)) ?_)
      all_goals (first | refine al_off rfl rfl rfl rfl rfl ?_ | refine al_ond rfl rfl rfl rfl rfl rfl (by exact opd_sneq rfl rfl rfl) ?_)
      all_goals (refine al_d rfl rfl rfl (by exact (by first | exact opd_pick_t rfl rfl rfl | exact opd_pick_f rfl rfl rfl)) ?_)
      all_goals (refine al_d rfl rfl rfl (by exact opd_move rfl rfl) ?_)
      all_goals (refine al_split (t := 29) rfl (fun h29 => ?_) (fun h29 => ?_))
      all_goals (try contradiction)
      all_goals (first | refine al_off rfl rfl rfl rfl rfl ?_ | refine al_ond rfl rfl rfl rfl rfl rfl (by exact (by exact opd_field_ref rfl fo44_4 rfl rfl rfl rfl)) ?_)
      all_goals (first | refine al_off rfl rfl rfl rfl rfl ?_ | refine al_ond rfl rfl rfl rfl rfl rfl (by exact (by exact opd_loadn_ref rfl Tryz.isAgg38 Tryz.sizeOf38 rfl rfl rfl rfl (by simp only [List.drop_succ_cons, List.drop_zero, List.take_succ_cons, List.take_zero, List.take_nil, List.map_cons, List.map_nil, List.set_cons_zero, List.set_cons_succ, List.cons_append, List.nil_append, encTag, encObj, encStr, encEdit, zObj]; rfl) rfl)) ?_)
      all_goals (first | refine al_off rfl rfl rfl rfl rfl ?_ | refine al_ond rfl rfl rfl rfl rfl rfl (by exact x_build rfl bo38 rfl rfl) ?_)
      all_goals (first | refine al_off rfl rfl rfl rfl rfl ?_ | refine al_ond rfl rfl rfl rfl rfl rfl (by exact opd_aneq rfl rfl rfl rfl rfl Tryz.eqGuardType38 (se38 _ _ _ _)) ?_)
      all_goals (refine al_d rfl rfl rfl (by exact (by first | exact opd_pick_t rfl rfl rfl | exact opd_pick_f rfl rfl rfl)) ?_)
      all_goals (refine al_d rfl rfl rfl (by exact opd_move rfl rfl) ?_)
      all_goals (refine al_split (t := 35) rfl (fun h35 => ?_) (fun h35 => ?_))
      all_goals (try contradiction)
      all_goals (first | refine al_off rfl rfl rfl rfl rfl ?_ | refine al_ond rfl rfl rfl rfl rfl rfl (by exact (by exact opd_field_ref rfl fo44_5 rfl rfl rfl rfl)) ?_)
      all_goals (first | refine al_off rfl rfl rfl rfl rfl ?_ | refine al_ond rfl rfl rfl rfl rfl rfl (by exact (by exact opd_load1_ref rfl Tryz.isAgg9 rfl rfl rfl rfl rfl)) ?_)
      all_goals (first | refine al_off rfl rfl rfl rfl rfl ?_ | refine al_ond rfl rfl rfl rfl rfl rfl (by exact opd_sneq rfl rfl rfl) ?_)
      all_goals (refine al_d rfl rfl rfl (by exact (by first | exact opd_pick_t rfl rfl rfl | exact opd_pick_f rfl rfl rfl)) ?_)
      all_goals (refine al_d rfl rfl rfl (by exact opd_move rfl rfl) ?_)
      all_goals (refine al_split (t := 40) rfl (fun h40 => ?_) (fun h40 => ?_))
      all_goals (try contradiction)
      all_goals (first | refine al_off rfl rfl rfl rfl rfl ?_ | refine al_ond rfl rfl rfl rfl rfl rfl (by exact (by exact opd_field_ref rfl fo44_6 rfl rfl rfl rfl)) ?_)
      all_goals (first | refine al_off rfl rfl rfl rfl rfl ?_ | refine al_ond rfl rfl rfl rfl rfl rfl (by exact (by exact opd_load1_ref rfl Tryz.isAgg9 rfl rfl rfl rfl rfl)) ?_)
      all_goals (first | refine al_off rfl rfl rfl rfl rfl ?_ | refine al_ond rfl rfl rfl rfl rfl rfl (by exact opd_sneq rfl rfl rfl) ?_)
      all_goals (refine al_d rfl rfl rfl (by exact (by first | exact opd_pick_t rfl rfl rfl | exact opd_pick_f rfl rfl rfl)) ?_)
      all_goals (refine al_d rfl rfl rfl (by exact opd_move rfl rfl) ?_)
      all_goals (refine al_split (t := 45) rfl (fun h45 => ?_) (fun h45 => ?_))
      all_goals (try contradiction)
      all_goals (first | refine al_off rfl rfl rfl rfl rfl ?_ | refine al_ond rfl rfl rfl rfl rfl rfl (by exact (by exact opd_field_ref rfl fo44_7 rfl rfl rfl rfl)) ?_)
      all_goals (first | refine al_off rfl rfl rfl rfl rfl ?_ | refine al_ond rfl rfl rfl rfl rfl rfl (by exact (by exact opd_load1_ref rfl Tryz.isAgg39 rfl rfl rfl rfl rfl)) ?_)
      all_goals (first | refine al_off rfl rfl rfl rfl rfl ?_ | refine al_ond rfl rfl rfl rfl rfl rfl (by exact (by exact opd_len_sl rfl Tryz.underlying39 rfl)) ?_)
      all_goals (first | refine al_off rfl rfl rfl rfl rfl ?_ | refine al_ond rfl rfl rfl rfl rfl rfl (by exact opd_gtr rfl rfl rfl) ?_)
      all_goals (refine al_d rfl rfl rfl (by exact (by first | exact opd_pick_t rfl rfl rfl | exact opd_pick_f rfl rfl rfl)) ?_)
      all_goals (refine al_d rfl rfl rfl (by exact opd_move rfl rfl) ?_)
      all_goals (refine al_split (t := 51) rfl (fun h51 => ?_) (fun h51 => ?_))
      all_goals (try contradiction)
      all_goals (first | refine al_off rfl rfl rfl rfl rfl ?_ | refine al_ond rfl rfl rfl rfl rfl rfl (by exact (by exact opd_field_ref rfl fo44_8 rfl rfl rfl rfl)) ?_)
      all_goals (first | refine al_off rfl rfl rfl rfl rfl ?_ | refine al_ond rfl rfl rfl rfl rfl rfl (by exact (by exact opd_loadn_ref rfl Tryz.isAgg42 Tryz.sizeOf42 rfl rfl rfl rfl (by simp only [List.drop_succ_cons, List.drop_zero, List.take_succ_cons, List.take_zero, List.take_nil, List.map_cons, List.map_nil, List.set_cons_zero, List.set_cons_succ, List.cons_append, List.nil_append, encTag, encObj, encStr, encEdit, zObj]; rfl) rfl)) ?_)
      all_goals (first | refine al_off rfl rfl rfl rfl rfl ?_ | refine al_ond rfl rfl rfl rfl rfl rfl (by exact x_build rfl bo42 rfl rfl) ?_)
      all_goals (first | refine al_off rfl rfl rfl rfl rfl ?_ | refine al_ond rfl rfl rfl rfl rfl rfl (by exact opr_call rfl rfl Tryz.call85 rfl (rSame_c (bare2 e).obj zObj _ h7.2.2.1 h7.2.1.1)) ?_)
      all_goals (first | refine al_off rfl rfl rfl rfl rfl ?_ | refine al_ond rfl rfl rfl rfl rfl rfl (by exact opd_not rfl rfl) ?_)
      all_goals (refine al_d rfl rfl rfl (by exact (by first | exact opd_pick_t rfl rfl rfl | exact opd_pick_f rfl rfl rfl)) ?_)
      all_goals (refine al_nil ?_)
      all_goals (exact ⟨⟨_, rfl, by (simp_all [rb, bare2]; done)⟩, rfl, rfl, rfl⟩)
    refine awp_cond rfl (fun hc2 => ?_) (fun hc2 => ?_)
    -- cond 2
    · rw [hc2, Bool.not_true, Bool.false_and]
      refine awp_seq ?_
      refine awp_region ?_
      refine al_d rfl rfl rfl (by exact opd_assign rfl rfl) ?_
      refine al_nil ?_
      refine awp_ret ?_
      -- return
      refine aret1 (H' := []) (by exact .inr rfl) rfl (rval_tmp rfl) (Fin.wk (by simp) trivial trivial) ?_
      exact ⟨rfl, rfl⟩
    · rw [hc2, Bool.not_false, Bool.true_and]
      refine awp_skip ?_
      refine awp_seq ?_
      refine awp_seq ?_
      refine awp_region ?_
      refine al_d rfl rfl rfl (by exact (by exact opd_field_ref rfl fo44_0 rfl rfl rfl rfl)) ?_
      refine al_d rfl rfl rfl (by exact (by exact opd_load1_ref rfl Tryz.isAgg3 rfl rfl rfl rfl rfl)) ?_
      refine al_d rfl rfl rfl (by exact opd_eql rfl rfl rfl) ?_
      refine al_nil ?_
      refine awp_cond rfl (fun hc3 => ?_) (fun hc3 => ?_)
      -- cond 3
      · skip
        (exfalso; have h := hc3; simp [ho] at h)
      · skip
        refine awp_skip ?_
        refine awp_seq ?_
        refine awp_region ?_
        refine al_d rfl rfl rfl (by exact (by exact opd_field_ref rfl fo44_1 rfl rfl rfl rfl)) ?_
        refine al_d rfl rfl rfl (by exact (by exact opd_load1_ref rfl Tryz.isAgg9 rfl rfl rfl rfl rfl)) ?_
        refine al_d rfl rfl rfl (by exact x_buildSlice_own (id := 66) rfl so39 rfl rfl rfl rfl (by simp) rfl) ?_
        refine al_d rfl rfl rfl (by exact opd_assign rfl rfl) ?_
        refine al_nil ?_
        refine awp_seq ?_
        refine awp_seq ?_
        refine awp_region ?_
        refine al_d rfl rfl rfl (by exact (by exact opd_field_ref rfl fo44_0 rfl rfl rfl rfl)) ?_
        refine al_d rfl rfl rfl (by exact (by exact opd_load1_ref rfl Tryz.isAgg3 rfl rfl rfl rfl rfl)) ?_
        refine al_d rfl rfl rfl (by exact opd_eql rfl rfl rfl) ?_
        refine al_nil ?_
        refine awp_cond rfl (fun hc4 => ?_) (fun hc4 => ?_)
        -- cond 4
        · skip
          (exfalso; have h := hc4; simp [ho] at h)
        · skip
          refine awp_skip ?_
          refine awp_seq ?_
          refine awp_seq ?_
          refine awp_region ?_
          refine al_d rfl rfl rfl (by exact (by exact opd_field_ref rfl fo44_0 rfl rfl rfl rfl)) ?_
          refine al_d rfl rfl rfl (by exact (by exact opd_load1_ref rfl Tryz.isAgg3 rfl rfl rfl rfl rfl)) ?_
          refine al_d rfl rfl rfl (by exact opd_eql rfl rfl rfl) ?_
          refine al_nil ?_
          refine awp_cond rfl (fun hc5 => ?_) (fun hc5 => ?_)
          -- cond 5
          · skip
            (exfalso; have h := hc5; simp [ho] at h)
          · skip
            refine awp_skip ?_
            refine awp_seq ?_
            refine awp_seq ?_
            refine awp_region ?_
            refine al_d rfl rfl rfl (by exact (by exact opd_field_ref rfl fo44_0 rfl rfl rfl rfl)) ?_
            refine al_d rfl rfl rfl (by exact (by exact opd_load1_ref rfl Tryz.isAgg3 rfl rfl rfl rfl rfl)) ?_
            refine al_d rfl rfl rfl (by exact opd_eql rfl rfl rfl) ?_
            refine al_nil ?_
            refine awp_cond rfl (fun hc6 => ?_) (fun hc6 => ?_)
            -- cond 6
            · skip
              (exfalso; have h := hc6; simp [ho] at h)
            · skip
              refine awp_skip ?_
              refine awp_seq ?_
              refine awp_seq ?_
              refine awp_bool (t := 97) (n := 9) (X := decide (e.op = 6) || decide (e.op = 7)) ?_ ?_
              · all_goals (refine al_d rfl rfl rfl (by exact (by exact opd_field_ref rfl fo44_0 rfl rfl rfl rfl)) ?_)
                all_goals (refine al_d rfl rfl rfl (by exact (by exact opd_load1_ref rfl Tryz.isAgg3 rfl rfl rfl rfl rfl)) ?_)
                all_goals (refine al_d rfl rfl rfl (by exact opd_eql rfl rfl rfl) ?_)
                all_goals (refine al_d rfl rfl rfl (by exact opd_move rfl rfl) ?_)
                all_goals (refine al_split (t := 93) rfl (fun h93 => ?_) (fun h93 => ?_))
                all_goals (try contradiction)
                all_goals (first | refine al_off rfl rfl rfl rfl rfl ?_ | refine al_ond rfl rfl rfl rfl rfl rfl (by exact (by exact opd_field_ref rfl fo44_0 rfl rfl rfl rfl)) ?_)
                all_goals (first | refine al_off rfl rfl rfl rfl rfl ?_ | refine al_ond rfl rfl rfl rfl rfl rfl (by exact (by exact opd_load1_ref rfl Tryz.isAgg3 rfl rfl rfl rfl rfl)) ?_)
                all_goals (first | refine al_off rfl rfl rfl rfl rfl ?_ | refine al_ond rfl rfl rfl rfl rfl rfl (by exact opd_eql rfl rfl rfl) ?_)
                all_goals (refine al_d rfl rfl rfl (by exact (by first | exact opd_pick_t rfl rfl rfl | exact opd_pick_f rfl rfl rfl)) ?_)
                all_goals (refine al_nil ?_)
                all_goals (exact ⟨⟨_, rfl, by first | (simp only [*]; rfl) | (simp_all; done)⟩, rfl, rfl, rfl⟩)
              refine awp_cond rfl (fun hc7 => ?_) (fun hc7 => ?_)
              -- cond 7
              · skip
                (exfalso; have h := hc7; simp [ho] at h)
              · skip
                refine awp_skip ?_
                refine awp_seq ?_
                refine awp_seq ?_
                refine awp_region ?_
                refine al_d rfl rfl rfl (by exact opd_assign rfl rfl) ?_
                refine al_nil ?_
                refine awp_block ?_
                -- loop
                have hnl : ([e.id].map encStr).length = [e.id].length := List.length_map _
                have hnm : ∀ s ∈ [e.id], s.size < 4611686018427387904 := by
                  intro s hs
                  simp only [List.mem_cons, List.not_mem_nil, or_false] at hs
                  rcases hs with rfl <;> assumption
                have hnn : [e.id].length < 4611686018427387904 + 2 := by
                  simp only [List.length_cons, List.length_nil]; omega
                refine AWp.ent (Ent.fz (id := 66) (E' := [(1, .ref 1 0 0 0), (4, .pv (slStrs [e.id])), (5, iv 0)]) (H' := [(1, bEd e)]) ([e.id].map encStr) rfl (rows_of encStr [e.id])
                  (by intro p hp; simp only [List.mem_cons, List.not_mem_nil, or_false] at hp; rcases hp with rfl | rfl | rfl; exact ⟨_, rfl, .same (.ref rfl)⟩; exact ⟨_, rfl, .osl (by rfl)⟩; exact ⟨_, rfl, .same (by simp)⟩) rfl ⟨⟨_, rfl, rfl⟩, (by (simp; done)), trivial⟩ trivial) ?_
                refine awp_loop (σ := Nat) (fun q => ([(1, .ref 1 0 0 0), (4, .pv (slStrs [e.id])), (5, iv (q : Int))], [(1, bEd e)])) (fun q => q ≤ [e.id].length ∧ ∀ j, j < q → ∀ b, [e.id][j]? = some b → (!gName b) = false) (fun q => [e.id].length - q) 0 ⟨by omega, by omega⟩ ?_ ?_
                · exact (Ent.wk ⟨⟨_, rfl, rfl⟩, (by (simp; rfl)), ⟨_, rfl, rfl⟩, (by (simp; done)), ⟨_, rfl, rfl⟩, (by (simp; done)), trivial⟩ ⟨⟨_, rfl, rfl⟩, (by (simp; done)), trivial⟩ trivial)
                · rintro q ⟨hq, hno⟩
                  refine awp_seq ?_
                  refine awp_seq ?_
                  refine awp_region ?_
                  refine al_d rfl rfl rfl (by exact opd_move rfl rfl) ?_
                  refine al_d rfl rfl rfl (by exact opd_move rfl rfl) ?_
                  refine al_d rfl rfl rfl (by exact (by exact opd_len_sl rfl Tryz.underlying39 rfl)) ?_
                  refine al_d rfl rfl rfl (by exact opd_lss rfl rfl rfl) ?_
                  refine al_nil ?_
                  refine awp_cond rfl (fun hc8 => ?_) (fun hc8 => ?_)
                  -- cond 8
                  · have hlt : q < [e.id].length := by have := of_decide_eq_true hc8; omega
                    obtain ⟨s, hs⟩ := get_of_lt hlt
                    have hi := map_get (f := encStr) hs
                    refine awp_skip ?_
                    refine awp_seq ?_
                    refine awp_block ?_
                    refine awp_seq ?_
                    refine awp_region ?_
                    refine al_d rfl rfl rfl (by exact opd_move rfl rfl) ?_
                    refine al_d rfl rfl rfl (by exact opd_move rfl rfl) ?_
                    refine al_d rfl rfl rfl (by exact (by exact x_index_pad rfl so39 rfl rfl (by omega) (by exact Int.toNat_natCast _) (by assumption) rfl)) ?_
                    refine al_d rfl rfl rfl (by exact (by exact opd_load1_pad rfl Tryz.isAgg9 rfl (by omega) rfl)) ?_
                    refine al_d rfl rfl rfl (by exact opr_call rfl rfl Tryz.call103 rfl (rName_c s _ (hnm s (List.mem_of_getElem? hs)))) ?_
                    refine al_d rfl rfl rfl (by exact opd_not rfl rfl) ?_
                    refine al_nil ?_
                    refine awp_cond rfl (fun hc9 => ?_) (fun hc9 => ?_)
                    -- cond 9
                    · have hall : [e.id].all gName = false := by
                        rw [List.all_eq_false]
                        exact ⟨s, List.mem_of_getElem? hs, by simpa using hc9⟩
                      rw [hall]
                      refine awp_seq ?_
                      refine awp_region ?_
                      refine al_d rfl rfl rfl (by exact opd_assign rfl rfl) ?_
                      refine al_nil ?_
                      refine awp_ret ?_
                      -- return
                      refine aret1 (H' := []) (by exact .inr rfl) rfl (rval_tmp rfl) (Fin.wk (by simp) trivial trivial) ?_
                      exact ⟨rfl, rfl⟩
                    · skip
                      refine awp_skip ?_
                      refine awp_region ?_
                      refine al_d rfl rfl rfl (by exact opd_move rfl rfl) ?_
                      refine al_d rfl rfl rfl (by exact opd_add rfl rfl rfl (by exact w64 (by omega) (by omega))) ?_
                      refine al_d rfl rfl rfl (by exact opd_assign rfl rfl) ?_
                      refine al_nil ?_
                      -- end of a round
                      exact ⟨q + 1, ⟨by omega, pre_succ hno hs hc9⟩, by omega, (Ent.wk ⟨⟨_, rfl, rfl⟩, (by (simp; rfl)), ⟨_, rfl, rfl⟩, (by (simp; done)), ⟨_, rfl, rfl⟩, (by (simp; done)), trivial⟩ ⟨⟨_, rfl, rfl⟩, (by (simp; done)), trivial⟩ trivial)⟩
                  · have hge : q = [e.id].length := by have := of_decide_eq_false hc8; omega
                    subst hge
                    have hall : [e.id].all gName = true := by
                      rw [List.all_eq_true]
                      intro s hs
                      obtain ⟨j, hj⟩ := List.mem_iff_getElem?.1 hs
                      have := hno j (List.getElem?_eq_some_iff.1 hj).1 s hj
                      simpa using this
                    rw [hall, Bool.true_and]
                    have d4 : decide (e.op = 4) = false := by rw [ho]; decide
                    refine awp_exit ?_
                    refine awp_seq ?_
                    refine awp_seq ?_
                    refine awp_region ?_
                    refine al_d rfl rfl rfl (by exact (by exact opd_field_ref rfl fo44_0 rfl rfl rfl rfl)) ?_
                    refine al_d rfl rfl rfl (by exact (by exact opd_load1_ref rfl Tryz.isAgg3 rfl rfl rfl rfl rfl)) ?_
                    refine al_d rfl rfl rfl (by exact opd_eql rfl rfl rfl) ?_
                    refine al_d rfl rfl rfl (by exact opd_move rfl rfl) ?_
                    refine al_off rfl rfl rfl (by assumption) rfl ?_
                    refine al_off rfl rfl rfl (by assumption) rfl ?_
                    refine al_off rfl rfl rfl (by assumption) rfl ?_
                    refine al_off rfl rfl rfl (by assumption) rfl ?_
                    refine al_off rfl rfl rfl (by assumption) rfl ?_
                    refine al_offu rfl rfl rfl rfl ?_
                    refine al_offu rfl rfl rfl rfl ?_
                    refine al_offu rfl rfl rfl rfl ?_
                    refine al_offu rfl rfl rfl rfl ?_
                    refine al_off rfl rfl rfl (by assumption) rfl ?_
                    refine al_d rfl rfl rfl (by exact (by exact opd_pickf rfl rfl (by assumption) rfl)) ?_
                    refine al_nil ?_
                    refine awp_cond rfl (fun hc10 => ?_) (fun hc10 => ?_)
                    -- cond 10
                    · skip
                      (cases hc10)
                    · skip
                      refine awp_skip ?_
                      refine awp_seq ?_
                      refine awp_bool (t := 2) (n := 17) (X := decide ((e.val.size : Int) ≤ 200) && gOn e.x e.y) ?_ ?_
                      · all_goals (refine al_d rfl rfl rfl (by exact (by exact opd_field_ref rfl fo44_6 rfl rfl rfl rfl)) ?_)
                        all_goals (refine al_d rfl rfl rfl (by exact (by exact opd_load1_ref rfl Tryz.isAgg9 rfl rfl rfl rfl rfl)) ?_)
                        all_goals (refine al_d rfl rfl rfl (by exact opd_len_str rfl Tryz.underlying9 rfl) ?_)
                        all_goals (refine al_d rfl rfl rfl (by exact opd_leq rfl rfl rfl) ?_)
                        all_goals (refine al_d rfl rfl rfl (by exact opd_move rfl rfl) ?_)
                        all_goals (refine al_split (t := 134) rfl (fun h134 => ?_) (fun h134 => ?_))
                        all_goals (try contradiction)
                        all_goals (first | refine al_off rfl rfl rfl rfl rfl ?_ | refine al_ond rfl rfl rfl rfl rfl rfl (by exact (by exact opd_field_ref rfl fo44_0 rfl rfl rfl rfl)) ?_)
                        all_goals (first | refine al_off rfl rfl rfl rfl rfl ?_ | refine al_ond rfl rfl rfl rfl rfl rfl (by exact (by exact opd_load1_ref rfl Tryz.isAgg3 rfl rfl rfl rfl rfl)) ?_)
                        all_goals (first | refine al_off rfl rfl rfl rfl rfl ?_ | refine al_ond rfl rfl rfl rfl rfl rfl (by exact opd_neq rfl rfl rfl) ?_)
                        all_goals (first | refine al_off rfl rfl rfl rfl rfl ?_ | refine al_ond rfl rfl rfl rfl rfl rfl (by exact opd_move rfl rfl) ?_)
                        all_goals (first | refine al_split (t := 138) rfl (fun h138 => ?_) (fun h138 => ?_) | refine al_dup (t := 138) rfl ?_)
                        all_goals (try contradiction)
                        all_goals (first | refine al_off rfl rfl rfl rfl rfl ?_ | refine al_offu rfl rfl rfl rfl ?_ | refine al_ond rfl rfl rfl rfl rfl rfl (by exact (by exact opd_field_ref rfl fo44_4 rfl rfl rfl rfl)) ?_)
                        all_goals (first | refine al_off rfl rfl rfl rfl rfl ?_ | refine al_offu rfl rfl rfl rfl ?_ | refine al_ond rfl rfl rfl rfl rfl rfl (by exact (by exact opd_loadn_ref rfl Tryz.isAgg38 Tryz.sizeOf38 rfl rfl rfl rfl (by simp only [List.drop_succ_cons, List.drop_zero, List.take_succ_cons, List.take_zero, List.take_nil, List.map_cons, List.map_nil, List.set_cons_zero, List.set_cons_succ, List.cons_append, List.nil_append, encTag, encObj, encStr, encEdit, zObj]; rfl) rfl)) ?_)
                        all_goals (first | refine al_off rfl rfl rfl rfl rfl ?_ | refine al_offu rfl rfl rfl rfl ?_ | refine al_ond rfl rfl rfl rfl rfl rfl (by exact opr_call rfl rfl Tryz.call104 rfl (rOn_c e.x e.y _)) ?_)
                        all_goals (first | refine al_off rfl rfl rfl rfl rfl ?_ | refine al_ond rfl rfl rfl rfl rfl rfl (by exact (by first | exact opd_pick_t rfl rfl rfl | exact opd_pick_f rfl rfl rfl)) ?_)
                        all_goals (refine al_d rfl rfl rfl (by exact (by first | exact opd_pick_t rfl rfl rfl | exact opd_pick_f rfl rfl rfl)) ?_)
                        all_goals (refine al_d rfl rfl rfl (by exact opd_assign rfl rfl) ?_)
                        all_goals (refine al_nil ?_)
                        all_goals (exact ⟨⟨_, rfl, by first | (simp only [*]; rfl) | (simp_all; done)⟩, rfl, rfl, rfl⟩)
                      refine awp_ret ?_
                      -- return
                      refine aret1 (H' := []) (by exact .inr rfl) rfl (rval_tmp rfl) (Fin.wk (by simp) trivial trivial) ?_
                      exact ⟨rfl, rfl⟩
theorem rValid3_c (e : GEdit) (H : Heap) (he : okE e) (ho : e.op = 3) : ACalls Tryz.prog 47 [av (encEdit e)] H (fun r H' => r = bv (gEditV e) ∧ H' = H) := by
  refine ACalls.pure ?_ (by simp) H
  rw [ed3 e ho]
  obtain ⟨⟨h1, h2, h3, h4⟩, ⟨h5, h6⟩, h7⟩ := he
  have hrl : (e.refs.map encStr).length = e.refs.length := List.length_map _
  refine ACalls.body Tryz.func47 rfl Tryz.ntmps47 (Nat.le_of_ble_eq_true rfl) ?_
  refine awp_seq ?_
  refine awp_region ?_
  refine al_d rfl rfl rfl (by exact opd_box (id := 1) rfl rfl rfl rfl rfl) ?_
  refine al_d rfl rfl rfl (by exact opd_assign rfl rfl) ?_
  refine al_nil ?_
  refine awp_seq ?_
  refine awp_seq ?_
  refine awp_bool (t := 13) (n := 9) (X := decide (e.op < 1) || decide (7 < e.op)) ?_ ?_
  · all_goals (refine al_d rfl rfl rfl (by exact (by exact opd_field_ref rfl fo44_0 rfl rfl rfl rfl)) ?_)
    all_goals (refine al_d rfl rfl rfl (by exact (by exact opd_load1_ref rfl Tryz.isAgg3 rfl rfl rfl rfl rfl)) ?_)
    all_goals (refine al_d rfl rfl rfl (by exact opd_lss rfl rfl rfl) ?_)
    all_goals (refine al_d rfl rfl rfl (by exact opd_move rfl rfl) ?_)
    all_goals (refine al_split (t := 9) rfl (fun h9 => ?_) (fun h9 => ?_))
    all_goals (try contradiction)
    all_goals (first | refine al_off rfl rfl rfl rfl rfl ?_ | refine al_ond rfl rfl rfl rfl rfl rfl (by exact (by exact opd_field_ref rfl fo44_0 rfl rfl rfl rfl)) ?_)
    all_goals (first | refine al_off rfl rfl rfl rfl rfl ?_ | refine al_ond rfl rfl rfl rfl rfl rfl (by exact (by exact opd_load1_ref rfl Tryz.isAgg3 rfl rfl rfl rfl rfl)) ?_)
    all_goals (first | refine al_off rfl rfl rfl rfl rfl ?_ | refine al_ond rfl rfl rfl rfl rfl rfl (by exact opd_gtr rfl rfl rfl) ?_)
    all_goals (refine al_d rfl rfl rfl (by exact (by first | exact opd_pick_t rfl rfl rfl | exact opd_pick_f rfl rfl rfl)) ?_)
    all_goals (refine al_nil ?_)
    all_goals (exact ⟨⟨_, rfl, by first | (simp only [rb, bare3, *]; rfl) | (simp_all [rb, bare3]; done)⟩, rfl, rfl, rfl⟩)
  refine awp_cond rfl (fun hc1 => ?_) (fun hc1 => ?_)
  -- cond 1
  · skip
    (exfalso; have h := hc1; simp [ho] at h)
  · skip
    refine awp_skip ?_
    refine awp_seq ?_
    refine awp_region ?_
    refine al_d rfl rfl rfl (by exact (by exact opd_loadn_ref rfl Tryz.isAgg44 Tryz.sizeOf44 rfl rfl rfl rfl (by simp only [List.drop_succ_cons, List.drop_zero, List.take_succ_cons, List.take_zero, List.take_nil, List.map_cons, List.map_nil, List.set_cons_zero, List.set_cons_succ, List.cons_append, List.nil_append, encTag, encObj, encStr, encEdit, zObj]; rfl) rfl)) ?_
    refine al_d rfl rfl rfl (by exact opr_call rfl rfl Tryz.call101 rfl (bare3_c e _ ho)) ?_
    refine al_d rfl rfl rfl (by exact x_alloc (id := 3) rfl zo44 rfl rfl) ?_
    refine al_n rfl rfl (by exact (by exact x_store_all rfl Tryz.sizeOf44 rfl rfl rfl rfl rfl rfl rfl rfl)) ?_
    refine al_nil ?_
    refine awp_seq ?_
    refine awp_seq ?_
    refine awp_bool (t := 57) (n := 49) (X := rb (bare3 e)) ?_ ?_
    · all_goals (refine al_d rfl rfl rfl (by exact (by exact opd_field_ref rfl fo44_1 rfl rfl rfl rfl)) ?_)
      all_goals (refine al_d rfl rfl rfl (by exact (by exact opd_load1_ref rfl Tryz.isAgg9 rfl rfl rfl rfl rfl)) ?_)
      all_goals (refine al_d rfl rfl rfl (by exact opd_sneq rfl rfl rfl) ?_)
      all_goals (refine al_d rfl rfl rfl (by exact opd_move rfl rfl) ?_)
      all_goals (refine al_split (t := 19) rfl (fun h19 => ?_) (fun h19 => ?_))
      all_goals (try contradiction)
      all_goals (refine al_ond rfl rfl rfl rfl rfl rfl (by exact (by exact opd_field_ref rfl fo44_2 rfl rfl rfl rfl)) ?_)
      all_goals (refine al_ond rfl rfl rfl rfl rfl rfl (by exact (by exact opd_load1_ref rfl Tryz.isAgg9 rfl rfl rfl rfl rfl)) ?_)
      all_goals (refine al_ond rfl rfl rfl rfl rfl rfl (by exact opd_sneq rfl rfl rfl) ?_)
      all_goals (refine al_d rfl rfl rfl (by exact (by exact opd_pick_f rfl rfl rfl)) ?_)
      all_goals (refine al_d rfl rfl rfl (by exact opd_move rfl rfl) ?_)
      all_goals (refine al_split (t := 24) rfl (fun h24 => ?_) (fun h24 => ?_))
      all_goals (try contradiction)
      all_goals (first | refine al_off rfl rfl rfl rfl rfl ?_ | refine al_ond rfl rfl rfl rfl rfl rfl (by exact (by exact opd_field_ref rfl fo44_3 rfl rfl rfl rfl)) ?_)
      all_goals (first | refine al_off rfl rfl rfl rfl rfl ?_ | refine al_ond rfl rfl rfl rfl rfl rfl (by exact (by exact opd_load1_ref rfl Tryz.isAgg9 rfl rfl rfl rfl rfl)) ?_)
      all_goals (first | refine al_off rfl rfl rfl rfl rfl ?_ | refine al_ond rfl rfl rfl rfl rfl rfl (by exact opd_sneq rfl rfl rfl) ?_)
      all_goals (refine al_d rfl rfl rfl (by exact (by first | exact opd_pick_t rfl rfl rfl | exact opd_pick_f rfl rfl rfl)) ?_)
      all_goals (refine al_d rfl rfl rfl (by exact opd_move rfl rfl) ?_)
      all_goals (refine al_split (t := 29) rfl (fun h29 => ?_) (fun h29 => ?_))
      all_goals (try contradiction)
      all_goals (first | refine al_off rfl rfl rfl rfl rfl ?_ | refine al_ond rfl rfl rfl rfl rfl rfl (by exact (by exact opd_field_ref rfl fo44_4 rfl rfl rfl rfl)) ?_)
      all_goals (first | refine al_off rfl rfl rfl rfl rfl ?_ | refine al_ond rfl rfl rfl rfl rfl rfl (by exact (by exact opd_loadn_ref rfl Tryz.isAgg38 Tryz.sizeOf38 rfl rfl rfl rfl (by simp only [List.drop_succ_cons, List.drop_zero, List.take_succ_cons, List.take_zero, List.take_nil, List.map_cons, List.map_nil, List.set_cons_zero, List.set_cons_succ, List.cons_append, List.nil_append, encTag, encObj, encStr, encEdit, zObj]; rfl) rfl)) ?_)
      all_goals (first | refine al_off rfl rfl rfl rfl rfl ?_ | refine al_ond rfl rfl rfl rfl rfl rfl (by exact x_build rfl bo38 rfl rfl) ?_)
      all_goals (first | refine al_off rfl rfl rfl rfl rfl ?_ | refine al_ond rfl rfl rfl rfl rfl rfl (by exact opd_aneq rfl rfl rfl rfl rfl Tryz.eqGuardType38 (se38 _ _ _ _)) ?_)
      all_goals (refine al_d rfl rfl rfl (by exact (by first | exact opd_pick_t rfl rfl rfl | exact opd_pick_f rfl rfl rfl)) ?_)
      all_goals (refine al_d rfl rfl rfl (by exact opd_move rfl rfl) ?_)
      all_goals (refine al_split (t := 35) rfl (fun h35 => ?_) (fun h35 => ?_))
      all_goals (try contradiction)
      all_goals (first | refine al_off rfl rfl rfl rfl rfl ?_ | refine al_ond rfl rfl rfl rfl rfl rfl (by exact (by exact opd_field_ref rfl fo44_5 rfl rfl rfl rfl)) ?_)
      all_goals (first | refine al_off rfl rfl rfl rfl rfl ?_ | refine al_ond rfl rfl rfl rfl rfl rfl (by exact (by exact opd_load1_ref rfl Tryz.isAgg9 rfl rfl rfl rfl rfl)) ?_)
      all_goals (first | refine al_off rfl rfl rfl rfl rfl ?_ | refine al_ond rfl rfl rfl rfl rfl rfl (by exact opd_sneq rfl rfl rfl) ?_)
      all_goals (refine al_d rfl rfl rfl (by exact (by first | exact opd_pick_t rfl rfl rfl | exact opd_pick_f rfl rfl rfl)) ?_)
      all_goals (refine al_d rfl rfl rfl (by exact opd_move rfl rfl) ?_)
      all_goals (refine al_split (t := 40) rfl (fun h40 => ?_) (fun h40 => ?_))
      all_goals (try contradiction)
      all_goals (first | refine al_off rfl rfl rfl rfl rfl ?_ | refine al_ond rfl rfl rfl rfl rfl rfl (by exact (by exact opd_field_ref rfl fo44_6 rfl rfl rfl rfl)) ?_)
      all_goals (first | refine al_off rfl rfl rfl rfl rfl ?_ | refine al_ond rfl rfl rfl rfl rfl rfl (by exact (by exact opd_load1_ref rfl Tryz.isAgg9 rfl rfl rfl rfl rfl)) ?_)
      all_goals (first | refine al_off rfl rfl rfl rfl rfl ?_ | refine al_ond rfl rfl rfl rfl rfl rfl (by exact opd_sneq rfl rfl rfl) ?_)
      all_goals (refine al_d rfl rfl rfl (by exact (by first | exact opd_pick_t rfl rfl rfl | exact opd_pick_f rfl rfl rfl)) ?_)
      all_goals (refine al_d rfl rfl rfl (by exact opd_move rfl rfl) ?_)
      all_goals (refine al_split (t := 45) rfl (fun h45 => ?_) (fun h45 => ?_))
      all_goals (try contradiction)
      all_goals (first | refine al_off rfl rfl rfl rfl rfl ?_ | refine al_ond rfl rfl rfl rfl rfl rfl (by exact (by exact opd_field_ref rfl fo44_7 rfl rfl rfl rfl)) ?_)
      all_goals (first | refine al_off rfl rfl rfl rfl rfl ?_ | refine al_ond rfl rfl rfl rfl rfl rfl (by exact (by exact opd_load1_ref rfl Tryz.isAgg39 rfl rfl rfl rfl rfl)) ?_)
      all_goals (first | refine al_off rfl rfl rfl rfl rfl ?_ | refine al_ond rfl rfl rfl rfl rfl rfl (by exact (by exact opd_len_sl rfl Tryz.underlying39 rfl)) ?_)
      all_goals (first | refine al_off rfl rfl rfl rfl rfl ?_ | refine al_ond rfl rfl rfl rfl rfl rfl (by exact opd_gtr rfl rfl rfl) ?_)
      all_goals (refine al_d rfl rfl rfl (by exact (by first | exact opd_pick_t rfl rfl rfl | exact opd_pick_f rfl rfl rfl)) ?_)
      all_goals (refine al_d rfl rfl rfl (by exact opd_move rfl rfl) ?_)
      all_goals (refine al_split (t := 51) rfl (fun h51 => ?_) (fun h51 => ?_))
      all_goals (try contradiction)
      all_goals (first | refine al_off rfl rfl rfl rfl rfl ?_ | refine al_ond rfl rfl rfl rfl rfl rfl (by exact (by exact opd_field_ref rfl fo44_8 rfl rfl rfl rfl)) ?_)
      all_goals (first | refine al_off rfl rfl rfl rfl rfl ?_ | refine al_ond rfl rfl rfl rfl rfl rfl (by exact (by exact opd_loadn_ref rfl Tryz.isAgg42 Tryz.sizeOf42 rfl rfl rfl rfl (by simp only [List.drop_succ_cons, List.drop_zero, List.take_succ_cons, List.take_zero, List.take_nil, List.map_cons, List.map_nil, List.set_cons_zero, List.set_cons_succ, List.cons_append, List.nil_append, encTag, encObj, encStr, encEdit, zObj]; rfl) rfl)) ?_)
      all_goals (first | refine al_off rfl rfl rfl rfl rfl ?_ | refine al_ond rfl rfl rfl rfl rfl rfl (by exact x_build rfl bo42 rfl rfl) ?_)
      all_goals (first | refine al_off rfl rfl rfl rfl rfl ?_ | refine al_ond rfl rfl rfl rfl rfl rfl (by exact opr_call rfl rfl Tryz.call85 rfl (rSame_c (bare3 e).obj zObj _ h7.2.2.1 h7.2.1.1)) ?_)
      all_goals (first | refine al_off rfl rfl rfl rfl rfl ?_ | refine al_ond rfl rfl rfl rfl rfl rfl (by exact opd_not rfl rfl) ?_)
      all_goals (refine al_d rfl rfl rfl (by exact (by first | exact opd_pick_t rfl rfl rfl | exact opd_pick_f rfl rfl rfl)) ?_)
      all_goals (refine al_nil ?_)
      all_goals (exact ⟨⟨_, rfl, by (simp_all [rb, bare3]; done)⟩, rfl, rfl, rfl⟩)
    refine awp_cond rfl (fun hc2 => ?_) (fun hc2 => ?_)
    -- cond 2
    · rw [hc2, Bool.not_true, Bool.false_and]
      refine awp_seq ?_
      refine awp_region ?_
      refine al_d rfl rfl rfl (by exact opd_assign rfl rfl) ?_
      refine al_nil ?_
      refine awp_ret ?_
      -- return
      refine aret1 (H' := []) (by exact .inr rfl) rfl (rval_tmp rfl) (Fin.wk (by simp) trivial trivial) ?_
      exact ⟨rfl, rfl⟩
    · rw [hc2, Bool.not_false, Bool.true_and]
      refine awp_skip ?_
      refine awp_seq ?_
      refine awp_seq ?_
      refine awp_region ?_
      refine al_d rfl rfl rfl (by exact (by exact opd_field_ref rfl fo44_0 rfl rfl rfl rfl)) ?_
      refine al_d rfl rfl rfl (by exact (by exact opd_load1_ref rfl Tryz.isAgg3 rfl rfl rfl rfl rfl)) ?_
      refine al_d rfl rfl rfl (by exact opd_eql rfl rfl rfl) ?_
      refine al_nil ?_
      refine awp_cond rfl (fun hc3 => ?_) (fun hc3 => ?_)
      -- cond 3
      · skip
        (exfalso; have h := hc3; simp [ho] at h)
      · skip
        refine awp_skip ?_
        refine awp_seq ?_
        refine awp_region ?_
        refine al_d rfl rfl rfl (by exact (by exact opd_field_ref rfl fo44_1 rfl rfl rfl rfl)) ?_
        refine al_d rfl rfl rfl (by exact (by exact opd_load1_ref rfl Tryz.isAgg9 rfl rfl rfl rfl rfl)) ?_
        refine al_d rfl rfl rfl (by exact x_buildSlice_own (id := 66) rfl so39 rfl rfl rfl rfl (by simp) rfl) ?_
        refine al_d rfl rfl rfl (by exact opd_assign rfl rfl) ?_
        refine al_nil ?_
        refine awp_seq ?_
        refine awp_seq ?_
        refine awp_region ?_
        refine al_d rfl rfl rfl (by exact (by exact opd_field_ref rfl fo44_0 rfl rfl rfl rfl)) ?_
        refine al_d rfl rfl rfl (by exact (by exact opd_load1_ref rfl Tryz.isAgg3 rfl rfl rfl rfl rfl)) ?_
        refine al_d rfl rfl rfl (by exact opd_eql rfl rfl rfl) ?_
        refine al_nil ?_
        refine awp_cond rfl (fun hc4 => ?_) (fun hc4 => ?_)
        -- cond 4
        · skip
          refine awp_region ?_
          refine al_d rfl rfl rfl (by exact opd_move rfl rfl) ?_
          refine al_d rfl rfl rfl (by exact (by exact opd_field_ref rfl fo44_5 rfl rfl rfl rfl)) ?_
          refine al_d rfl rfl rfl (by exact (by exact opd_load1_ref rfl Tryz.isAgg9 rfl rfl rfl rfl rfl)) ?_
          refine al_d rfl rfl rfl (by exact x_buildSlice [encStr e.key] rfl so39 rfl rfl rfl rfl rfl (by simp [encStr])) ?_
          refine al_d rfl rfl rfl (by exact (by exact x_append rfl so39 ei9 rfl rfl rfl rfl rfl (rfl : _ = 1) rfl (by simp [encStr]) (rfl : _ = 1) (by omega) (rfl : _ = 2) (rfl : _ = strRows [e.id, e.key]))) ?_
          refine al_d rfl rfl rfl (by exact opd_assign rfl rfl) ?_
          refine al_nil ?_
          refine awp_seq ?_
          refine awp_seq ?_
          refine awp_region ?_
          refine al_d rfl rfl rfl (by exact (by exact opd_field_ref rfl fo44_0 rfl rfl rfl rfl)) ?_
          refine al_d rfl rfl rfl (by exact (by exact opd_load1_ref rfl Tryz.isAgg3 rfl rfl rfl rfl rfl)) ?_
          refine al_d rfl rfl rfl (by exact opd_eql rfl rfl rfl) ?_
          refine al_nil ?_
          refine awp_cond rfl (fun hc5 => ?_) (fun hc5 => ?_)
          -- cond 5
          · skip
            (exfalso; have h := hc5; simp [ho] at h)
          · skip
            refine awp_skip ?_
            refine awp_seq ?_
            refine awp_seq ?_
            refine awp_region ?_
            refine al_d rfl rfl rfl (by exact (by exact opd_field_ref rfl fo44_0 rfl rfl rfl rfl)) ?_
            refine al_d rfl rfl rfl (by exact (by exact opd_load1_ref rfl Tryz.isAgg3 rfl rfl rfl rfl rfl)) ?_
            refine al_d rfl rfl rfl (by exact opd_eql rfl rfl rfl) ?_
            refine al_nil ?_
            refine awp_cond rfl (fun hc6 => ?_) (fun hc6 => ?_)
            -- cond 6
            · skip
              (exfalso; have h := hc6; simp [ho] at h)
            · skip
              refine awp_skip ?_
              refine awp_seq ?_
              refine awp_seq ?_
              refine awp_bool (t := 97) (n := 9) (X := decide (e.op = 6) || decide (e.op = 7)) ?_ ?_
              · all_goals (refine al_d rfl rfl rfl (by exact (by exact opd_field_ref rfl fo44_0 rfl rfl rfl rfl)) ?_)
                all_goals (refine al_d rfl rfl rfl (by exact (by exact opd_load1_ref rfl Tryz.isAgg3 rfl rfl rfl rfl rfl)) ?_)
                all_goals (refine al_d rfl rfl rfl (by exact opd_eql rfl rfl rfl) ?_)
                all_goals (refine al_d rfl rfl rfl (by exact opd_move rfl rfl) ?_)
                all_goals (refine al_split (t := 93) rfl (fun h93 => ?_) (fun h93 => ?_))
                all_goals (try contradiction)
                all_goals (first | refine al_off rfl rfl rfl rfl rfl ?_ | refine al_ond rfl rfl rfl rfl rfl rfl (by exact (by exact opd_field_ref rfl fo44_0 rfl rfl rfl rfl)) ?_)
                all_goals (first | refine al_off rfl rfl rfl rfl rfl ?_ | refine al_ond rfl rfl rfl rfl rfl rfl (by exact (by exact opd_load1_ref rfl Tryz.isAgg3 rfl rfl rfl rfl rfl)) ?_)
                all_goals (first | refine al_off rfl rfl rfl rfl rfl ?_ | refine al_ond rfl rfl rfl rfl rfl rfl (by exact opd_eql rfl rfl rfl) ?_)
                all_goals (refine al_d rfl rfl rfl (by exact (by first | exact opd_pick_t rfl rfl rfl | exact opd_pick_f rfl rfl rfl)) ?_)
                all_goals (refine al_nil ?_)
                all_goals (exact ⟨⟨_, rfl, by first | (simp only [*]; rfl) | (simp_all; done)⟩, rfl, rfl, rfl⟩)
              refine awp_cond rfl (fun hc7 => ?_) (fun hc7 => ?_)
              -- cond 7
              · skip
                (exfalso; have h := hc7; simp [ho] at h)
              · skip
                refine awp_skip ?_
                refine awp_seq ?_
                refine awp_seq ?_
                refine awp_region ?_
                refine al_d rfl rfl rfl (by exact opd_assign rfl rfl) ?_
                refine al_nil ?_
                refine awp_block ?_
                -- loop
                have hnl : ([e.id, e.key].map encStr).length = [e.id, e.key].length := List.length_map _
                have hnm : ∀ s ∈ [e.id, e.key], s.size < 4611686018427387904 := by
                  intro s hs
                  simp only [List.mem_cons, List.not_mem_nil, or_false] at hs
                  rcases hs with rfl | rfl <;> assumption
                have hnn : [e.id, e.key].length < 4611686018427387904 + 2 := by
                  simp only [List.length_cons, List.length_nil]; omega
                refine AWp.ent (Ent.fz (id := 66) (E' := [(1, .ref 1 0 0 0), (4, .pv (slStrs [e.id, e.key])), (5, iv 0)]) (H' := [(1, bEd e)]) ([e.id, e.key].map encStr) rfl (rows_of encStr [e.id, e.key])
                  (by intro p hp; simp only [List.mem_cons, List.not_mem_nil, or_false] at hp; rcases hp with rfl | rfl | rfl; exact ⟨_, rfl, .same (.ref rfl)⟩; exact ⟨_, rfl, .osl (by rfl)⟩; exact ⟨_, rfl, .same (by simp)⟩) rfl ⟨⟨_, rfl, rfl⟩, (by (simp; done)), trivial⟩ trivial) ?_
                refine awp_loop (σ := Nat) (fun q => ([(1, .ref 1 0 0 0), (4, .pv (slStrs [e.id, e.key])), (5, iv (q : Int))], [(1, bEd e)])) (fun q => q ≤ [e.id, e.key].length ∧ ∀ j, j < q → ∀ b, [e.id, e.key][j]? = some b → (!gName b) = false) (fun q => [e.id, e.key].length - q) 0 ⟨by omega, by omega⟩ ?_ ?_
                · exact (Ent.wk ⟨⟨_, rfl, rfl⟩, (by (simp; rfl)), ⟨_, rfl, rfl⟩, (by (simp; done)), ⟨_, rfl, rfl⟩, (by (simp; done)), trivial⟩ ⟨⟨_, rfl, rfl⟩, (by (simp; done)), trivial⟩ trivial)
                · rintro q ⟨hq, hno⟩
                  refine awp_seq ?_
                  refine awp_seq ?_
                  refine awp_region ?_
                  refine al_d rfl rfl rfl (by exact opd_move rfl rfl) ?_
                  refine al_d rfl rfl rfl (by exact opd_move rfl rfl) ?_
                  refine al_d rfl rfl rfl (by exact (by exact opd_len_sl rfl Tryz.underlying39 rfl)) ?_
                  refine al_d rfl rfl rfl (by exact opd_lss rfl rfl rfl) ?_
                  refine al_nil ?_
                  refine awp_cond rfl (fun hc8 => ?_) (fun hc8 => ?_)
                  -- cond 8
                  · have hlt : q < [e.id, e.key].length := by have := of_decide_eq_true hc8; omega
                    obtain ⟨s, hs⟩ := get_of_lt hlt
                    have hi := map_get (f := encStr) hs
                    refine awp_skip ?_
                    refine awp_seq ?_
                    refine awp_block ?_
                    refine awp_seq ?_
                    refine awp_region ?_
                    refine al_d rfl rfl rfl (by exact opd_move rfl rfl) ?_
                    refine al_d rfl rfl rfl (by exact opd_move rfl rfl) ?_
                    refine al_d rfl rfl rfl (by exact (by exact x_index_pad rfl so39 rfl rfl (by omega) (by exact Int.toNat_natCast _) (by assumption) rfl)) ?_
                    refine al_d rfl rfl rfl (by exact (by exact opd_load1_pad rfl Tryz.isAgg9 rfl (by omega) rfl)) ?_
                    refine al_d rfl rfl rfl (by exact opr_call rfl rfl Tryz.call103 rfl (rName_c s _ (hnm s (List.mem_of_getElem? hs)))) ?_
                    refine al_d rfl rfl rfl (by exact opd_not rfl rfl) ?_
                    refine al_nil ?_
                    refine awp_cond rfl (fun hc9 => ?_) (fun hc9 => ?_)
                    -- cond 9
                    · have hall : [e.id, e.key].all gName = false := by
                        rw [List.all_eq_false]
                        exact ⟨s, List.mem_of_getElem? hs, by simpa using hc9⟩
                      rw [hall]
                      refine awp_seq ?_
                      refine awp_region ?_
                      refine al_d rfl rfl rfl (by exact opd_assign rfl rfl) ?_
                      refine al_nil ?_
                      refine awp_ret ?_
                      -- return
                      refine aret1 (H' := []) (by exact .inr rfl) rfl (rval_tmp rfl) (Fin.wk (by simp) trivial trivial) ?_
                      exact ⟨rfl, rfl⟩
                    · skip
                      refine awp_skip ?_
                      refine awp_region ?_
                      refine al_d rfl rfl rfl (by exact opd_move rfl rfl) ?_
                      refine al_d rfl rfl rfl (by exact opd_add rfl rfl rfl (by exact w64 (by omega) (by omega))) ?_
                      refine al_d rfl rfl rfl (by exact opd_assign rfl rfl) ?_
                      refine al_nil ?_
                      -- end of a round
                      exact ⟨q + 1, ⟨by omega, pre_succ hno hs hc9⟩, by omega, (Ent.wk ⟨⟨_, rfl, rfl⟩, (by (simp; rfl)), ⟨_, rfl, rfl⟩, (by (simp; done)), ⟨_, rfl, rfl⟩, (by (simp; done)), trivial⟩ ⟨⟨_, rfl, rfl⟩, (by (simp; done)), trivial⟩ trivial)⟩
                  · have hge : q = [e.id, e.key].length := by have := of_decide_eq_false hc8; omega
                    subst hge
                    have hall : [e.id, e.key].all gName = true := by
                      rw [List.all_eq_true]
                      intro s hs
                      obtain ⟨j, hj⟩ := List.mem_iff_getElem?.1 hs
                      have := hno j (List.getElem?_eq_some_iff.1 hj).1 s hj
                      simpa using this
                    rw [hall, Bool.true_and]
                    have d4 : decide (e.op = 4) = false := by rw [ho]; decide
                    refine awp_exit ?_
                    refine awp_seq ?_
                    refine awp_seq ?_
                    refine awp_region ?_
                    refine al_d rfl rfl rfl (by exact (by exact opd_field_ref rfl fo44_0 rfl rfl rfl rfl)) ?_
                    refine al_d rfl rfl rfl (by exact (by exact opd_load1_ref rfl Tryz.isAgg3 rfl rfl rfl rfl rfl)) ?_
                    refine al_d rfl rfl rfl (by exact opd_eql rfl rfl rfl) ?_
                    refine al_d rfl rfl rfl (by exact opd_move rfl rfl) ?_
                    refine al_off rfl rfl rfl (by assumption) rfl ?_
                    refine al_off rfl rfl rfl (by assumption) rfl ?_
                    refine al_off rfl rfl rfl (by assumption) rfl ?_
                    refine al_off rfl rfl rfl (by assumption) rfl ?_
                    refine al_off rfl rfl rfl (by assumption) rfl ?_
                    refine al_offu rfl rfl rfl rfl ?_
                    refine al_offu rfl rfl rfl rfl ?_
                    refine al_offu rfl rfl rfl rfl ?_
                    refine al_offu rfl rfl rfl rfl ?_
                    refine al_off rfl rfl rfl (by assumption) rfl ?_
                    refine al_d rfl rfl rfl (by exact (by exact opd_pickf rfl rfl (by assumption) rfl)) ?_
                    refine al_nil ?_
                    refine awp_cond rfl (fun hc10 => ?_) (fun hc10 => ?_)
                    -- cond 10
                    · skip
                      (cases hc10)
                    · skip
                      refine awp_skip ?_
                      refine awp_seq ?_
                      refine awp_bool (t := 2) (n := 17) (X := decide ((e.val.size : Int) ≤ 200)) ?_ ?_
                      · all_goals (refine al_d rfl rfl rfl (by exact (by exact opd_field_ref rfl fo44_6 rfl rfl rfl rfl)) ?_)
                        all_goals (refine al_d rfl rfl rfl (by exact (by exact opd_load1_ref rfl Tryz.isAgg9 rfl rfl rfl rfl rfl)) ?_)
                        all_goals (refine al_d rfl rfl rfl (by exact opd_len_str rfl Tryz.underlying9 rfl) ?_)
                        all_goals (refine al_d rfl rfl rfl (by exact opd_leq rfl rfl rfl) ?_)
                        all_goals (refine al_d rfl rfl rfl (by exact opd_move rfl rfl) ?_)
                        all_goals (refine al_split (t := 134) rfl (fun h134 => ?_) (fun h134 => ?_))
                        all_goals (try contradiction)
                        all_goals (first | refine al_off rfl rfl rfl rfl rfl ?_ | refine al_ond rfl rfl rfl rfl rfl rfl (by exact (by exact opd_field_ref rfl fo44_0 rfl rfl rfl rfl)) ?_)
                        all_goals (first | refine al_off rfl rfl rfl rfl rfl ?_ | refine al_ond rfl rfl rfl rfl rfl rfl (by exact (by exact opd_load1_ref rfl Tryz.isAgg3 rfl rfl rfl rfl rfl)) ?_)
                        all_goals (first | refine al_off rfl rfl rfl rfl rfl ?_ | refine al_ond rfl rfl rfl rfl rfl rfl (by exact opd_neq rfl rfl rfl) ?_)
                        all_goals (first | refine al_off rfl rfl rfl rfl rfl ?_ | refine al_ond rfl rfl rfl rfl rfl rfl (by exact opd_move rfl rfl) ?_)
                        all_goals (first | refine al_split (t := 138) rfl (fun h138 => ?_) (fun h138 => ?_) | refine al_dup (t := 138) rfl ?_)
                        all_goals (try contradiction)
                        all_goals (first | refine al_off rfl rfl rfl rfl rfl ?_ | refine al_offu rfl rfl rfl rfl ?_ | refine al_ond rfl rfl rfl rfl rfl rfl (by exact (by exact opd_field_ref rfl fo44_4 rfl rfl rfl rfl)) ?_)
                        all_goals (first | refine al_off rfl rfl rfl rfl rfl ?_ | refine al_offu rfl rfl rfl rfl ?_ | refine al_ond rfl rfl rfl rfl rfl rfl (by exact (by exact opd_loadn_ref rfl Tryz.isAgg38 Tryz.sizeOf38 rfl rfl rfl rfl (by simp only [List.drop_succ_cons, List.drop_zero, List.take_succ_cons, List.take_zero, List.take_nil, List.map_cons, List.map_nil, List.set_cons_zero, List.set_cons_succ, List.cons_append, List.nil_append, encTag, encObj, encStr, encEdit, zObj]; rfl) rfl)) ?_)
                        all_goals (first | refine al_off rfl rfl rfl rfl rfl ?_ | refine al_offu rfl rfl rfl rfl ?_ | refine al_ond rfl rfl rfl rfl rfl rfl (by exact opr_call rfl rfl Tryz.call104 rfl (rOn_c e.x e.y _)) ?_)
                        all_goals (first | refine al_off rfl rfl rfl rfl rfl ?_ | refine al_ond rfl rfl rfl rfl rfl rfl (by exact (by first | exact opd_pick_t rfl rfl rfl | exact opd_pick_f rfl rfl rfl)) ?_)
                        all_goals (refine al_d rfl rfl rfl (by exact (by first | exact opd_pick_t rfl rfl rfl | exact opd_pick_f rfl rfl rfl)) ?_)
                        all_goals (refine al_d rfl rfl rfl (by exact opd_assign rfl rfl) ?_)
                        all_goals (refine al_nil ?_)
                        all_goals (exact ⟨⟨_, rfl, by (simp_all; done)⟩, rfl, rfl, rfl⟩)
                      refine awp_ret ?_
                      -- return
                      refine aret1 (H' := []) (by exact .inr rfl) rfl (rval_tmp rfl) (Fin.wk (by simp) trivial trivial) ?_
                      exact ⟨rfl, rfl⟩
        · skip
          (exfalso; have h := hc4; simp [ho] at h)
theorem rValid4_c (e : GEdit) (H : Heap) (he : okE e) (hr : e.refs.length < 1099511627776) (ho : e.op = 4) : ACalls Tryz.prog 47 [av (encEdit e)] H (fun r H' => r = bv (gEditV e) ∧ H' = H) := by
  refine ACalls.pure ?_ (by simp) H
  rw [ed4 e ho]
  obtain ⟨⟨h1, h2, h3, h4⟩, ⟨h5, h6⟩, h7⟩ := he
  have hrl : (e.refs.map encStr).length = e.refs.length := List.length_map _
  refine ACalls.body Tryz.func47 rfl Tryz.ntmps47 (Nat.le_of_ble_eq_true rfl) ?_
  refine awp_seq ?_
  refine awp_region ?_
  refine al_d rfl rfl rfl (by exact opd_box (id := 1) rfl rfl rfl rfl rfl) ?_
  refine al_d rfl rfl rfl (by exact opd_assign rfl rfl) ?_
  refine al_nil ?_
  refine awp_seq ?_
  refine awp_seq ?_
  refine awp_bool (t := 13) (n := 9) (X := decide (e.op < 1) || decide (7 < e.op)) ?_ ?_
  · all_goals (refine al_d rfl rfl rfl (by exact (by exact opd_field_ref rfl fo44_0 rfl rfl rfl rfl)) ?_)
    all_goals (refine al_d rfl rfl rfl (by exact (by exact opd_load1_ref rfl Tryz.isAgg3 rfl rfl rfl rfl rfl)) ?_)
    all_goals (refine al_d rfl rfl rfl (by exact opd_lss rfl rfl rfl) ?_)
    all_goals (refine al_d rfl rfl rfl (by exact opd_move rfl rfl) ?_)
    all_goals (refine al_split (t := 9) rfl (fun h9 => ?_) (fun h9 => ?_))
    all_goals (try contradiction)
    all_goals (first | refine al_off rfl rfl rfl rfl rfl ?_ | refine al_ond rfl rfl rfl rfl rfl rfl (by exact (by exact opd_field_ref rfl fo44_0 rfl rfl rfl rfl)) ?_)
    all_goals (first | refine al_off rfl rfl rfl rfl rfl ?_ | refine al_ond rfl rfl rfl rfl rfl rfl (by exact (by exact opd_load1_ref rfl Tryz.isAgg3 rfl rfl rfl rfl rfl)) ?_)
    all_goals (first | refine al_off rfl rfl rfl rfl rfl ?_ | refine al_ond rfl rfl rfl rfl rfl rfl (by exact opd_gtr rfl rfl rfl) ?_)
    all_goals (refine al_d rfl rfl rfl (by exact (by first | exact opd_pick_t rfl rfl rfl | exact opd_pick_f rfl rfl rfl)) ?_)
    all_goals (refine al_nil ?_)
    all_goals (exact ⟨⟨_, rfl, by first | (simp only [rb, bare4, *]; rfl) | (simp_all [rb, bare4]; done)⟩, rfl, rfl, rfl⟩)
  refine awp_cond rfl (fun hc1 => ?_) (fun hc1 => ?_)
  -- cond 1
  · skip
    (exfalso; have h := hc1; simp [ho] at h)
  · skip
    refine awp_skip ?_
    refine awp_seq ?_
    refine awp_region ?_
    refine al_d rfl rfl rfl (by exact (by exact opd_loadn_ref rfl Tryz.isAgg44 Tryz.sizeOf44 rfl rfl rfl rfl (by simp only [List.drop_succ_cons, List.drop_zero, List.take_succ_cons, List.take_zero, List.take_nil, List.map_cons, List.map_nil, List.set_cons_zero, List.set_cons_succ, List.cons_append, List.nil_append, encTag, encObj, encStr, encEdit, zObj]; rfl) rfl)) ?_
    refine al_d rfl rfl rfl (by exact opr_call rfl rfl Tryz.call101 rfl (bare4_c e _ ho)) ?_
    refine al_d rfl rfl rfl (by exact x_alloc (id := 3) rfl zo44 rfl rfl) ?_
    refine al_n rfl rfl (by exact (by exact x_store_all rfl Tryz.sizeOf44 rfl rfl rfl rfl rfl rfl rfl rfl)) ?_
    refine al_nil ?_
    refine awp_seq ?_
    refine awp_seq ?_
    refine awp_bool (t := 57) (n := 49) (X := rb (bare4 e)) ?_ ?_
    · all_goals (refine al_d rfl rfl rfl (by exact (by exact opd_field_ref rfl fo44_1 rfl rfl rfl rfl)) ?_)
      all_goals (refine al_d rfl rfl rfl (by exact (by exact opd_load1_ref rfl Tryz.isAgg9 rfl rfl rfl rfl rfl)) ?_)
      all_goals (refine al_d rfl rfl rfl (by exact opd_sneq rfl rfl rfl) ?_)
      all_goals (refine al_d rfl rfl rfl (by exact opd_move rfl rfl) ?_)
      all_goals (refine al_split (t := 19) rfl (fun h19 => ?_) (fun h19 => ?_))
      all_goals (try contradiction)
      all_goals (refine al_ond rfl rfl rfl rfl rfl rfl (by exact (by exact opd_field_ref rfl fo44_2 rfl rfl rfl rfl)) ?_)
      all_goals (refine al_ond rfl rfl rfl rfl rfl rfl (by exact (by exact opd_load1_ref rfl Tryz.isAgg9 rfl rfl rfl rfl rfl)) ?_)
      all_goals (refine al_ond rfl rfl rfl rfl rfl rfl (by exact opd_sneq rfl rfl rfl) ?_)
      all_goals (refine al_d rfl rfl rfl (by exact (by exact opd_pick_f rfl rfl rfl)) ?_)
      all_goals (refine al_d rfl rfl rfl (by exact opd_move rfl rfl) ?_)
      all_goals (refine al_split (t := 24) rfl (fun h24 => ?_) (fun h24 => ?_))
      all_goals (try contradiction)
      all_goals (first | refine al_off rfl rfl rfl rfl rfl ?_ | refine al_ond rfl rfl rfl rfl rfl rfl (by exact (by exact opd_field_ref rfl fo44_3 rfl rfl rfl rfl)) ?_)
      all_goals (first | refine al_off rfl rfl rfl rfl rfl ?_ | refine al_ond rfl rfl rfl rfl rfl rfl (by exact (by exact opd_load1_ref rfl Tryz.isAgg9 rfl rfl rfl rfl rfl)) ?_)
      all_goals (first | refine al_off rfl rfl rfl rfl rfl ?_ | refine al_ond rfl rfl rfl rfl rfl rfl (by exact opd_sneq rfl rfl rfl) ?_)
      all_goals (refine al_d rfl rfl rfl (by exact (by first | exact opd_pick_t rfl rfl rfl | exact opd_pick_f rfl rfl rfl)) ?_)
      all_goals (refine al_d rfl rfl rfl (by exact opd_move rfl rfl) ?_)
      all_goals (refine al_split (t := 29) rfl (fun h29 => ?_) (fun h29 => ?_))
      all_goals (try contradiction)
      all_goals (first | refine al_off rfl rfl rfl rfl rfl ?_ | refine al_ond rfl rfl rfl rfl rfl rfl (by exact (by exact opd_field_ref rfl fo44_4 rfl rfl rfl rfl)) ?_)
      all_goals (first | refine al_off rfl rfl rfl rfl rfl ?_ | refine al_ond rfl rfl rfl rfl rfl rfl (by exact (by exact opd_loadn_ref rfl Tryz.isAgg38 Tryz.sizeOf38 rfl rfl rfl rfl (by simp only [List.drop_succ_cons, List.drop_zero, List.take_succ_cons, List.take_zero, List.take_nil, List.map_cons, List.map_nil, List.set_cons_zero, List.set_cons_succ, List.cons_append, List.nil_append, encTag, encObj, encStr, encEdit, zObj]; rfl) rfl)) ?_)
      all_goals (first | refine al_off rfl rfl rfl rfl rfl ?_ | refine al_ond rfl rfl rfl rfl rfl rfl (by exact x_build rfl bo38 rfl rfl) ?_)
      all_goals (first | refine al_off rfl rfl rfl rfl rfl ?_ | refine al_ond rfl rfl rfl rfl rfl rfl (by exact opd_aneq rfl rfl rfl rfl rfl Tryz.eqGuardType38 (se38 _ _ _ _)) ?_)
      all_goals (refine al_d rfl rfl rfl (by exact (by first | exact opd_pick_t rfl rfl rfl | exact opd_pick_f rfl rfl rfl)) ?_)
      all_goals (refine al_d rfl rfl rfl (by exact opd_move rfl rfl) ?_)
      all_goals (refine al_split (t := 35) rfl (fun h35 => ?_) (fun h35 => ?_))
      all_goals (try contradiction)
      all_goals (first | refine al_off rfl rfl rfl rfl rfl ?_ | refine al_ond rfl rfl rfl rfl rfl rfl (by exact (by exact opd_field_ref rfl fo44_5 rfl rfl rfl rfl)) ?_)
      all_goals (first | refine al_off rfl rfl rfl rfl rfl ?_ | refine al_ond rfl rfl rfl rfl rfl rfl (by exact (by exact opd_load1_ref rfl Tryz.isAgg9 rfl rfl rfl rfl rfl)) ?_)
      all_goals (first | refine al_off rfl rfl rfl rfl rfl ?_ | refine al_ond rfl rfl rfl rfl rfl rfl (by exact opd_sneq rfl rfl rfl) ?_)
      all_goals (refine al_d rfl rfl rfl (by exact (by first | exact opd_pick_t rfl rfl rfl | exact opd_pick_f rfl rfl rfl)) ?_)
      all_goals (refine al_d rfl rfl rfl (by exact opd_move rfl rfl) ?_)
      all_goals (refine al_split (t := 40) rfl (fun h40 => ?_) (fun h40 => ?_))
      all_goals (try contradiction)
      all_goals (first | refine al_off rfl rfl rfl rfl rfl ?_ | refine al_ond rfl rfl rfl rfl rfl rfl (by exact (by exact opd_field_ref rfl fo44_6 rfl rfl rfl rfl)) ?_)
      all_goals (first | refine al_off rfl rfl rfl rfl rfl ?_ | refine al_ond rfl rfl rfl rfl rfl rfl (by exact (by exact opd_load1_ref rfl Tryz.isAgg9 rfl rfl rfl rfl rfl)) ?_)
      all_goals (first | refine al_off rfl rfl rfl rfl rfl ?_ | refine al_ond rfl rfl rfl rfl rfl rfl (by exact opd_sneq rfl rfl rfl) ?_)
      all_goals (refine al_d rfl rfl rfl (by exact (by first | exact opd_pick_t rfl rfl rfl | exact opd_pick_f rfl rfl rfl)) ?_)
      all_goals (refine al_d rfl rfl rfl (by exact opd_move rfl rfl) ?_)
      all_goals (refine al_split (t := 45) rfl (fun h45 => ?_) (fun h45 => ?_))
      all_goals (try contradiction)
      all_goals (first | refine al_off rfl rfl rfl rfl rfl ?_ | refine al_ond rfl rfl rfl rfl rfl rfl (by exact (by exact opd_field_ref rfl fo44_7 rfl rfl rfl rfl)) ?_)
      all_goals (first | refine al_off rfl rfl rfl rfl rfl ?_ | refine al_ond rfl rfl rfl rfl rfl rfl (by exact (by exact opd_load1_ref rfl Tryz.isAgg39 rfl rfl rfl rfl rfl)) ?_)
      all_goals (first | refine al_off rfl rfl rfl rfl rfl ?_ | refine al_ond rfl rfl rfl rfl rfl rfl (by exact (by exact opd_len_sl rfl Tryz.underlying39 rfl)) ?_)
      all_goals (first | refine al_off rfl rfl rfl rfl rfl ?_ | refine al_ond rfl rfl rfl rfl rfl rfl (by exact opd_gtr rfl rfl rfl) ?_)
      all_goals (refine al_d rfl rfl rfl (by exact (by first | exact opd_pick_t rfl rfl rfl | exact opd_pick_f rfl rfl rfl)) ?_)
      all_goals (refine al_d rfl rfl rfl (by exact opd_move rfl rfl) ?_)
      all_goals (refine al_split (t := 51) rfl (fun h51 => ?_) (fun h51 => ?_))
      all_goals (try contradiction)
      all_goals (first | refine al_off rfl rfl rfl rfl rfl ?_ | refine al_ond rfl rfl rfl rfl rfl rfl (by exact (by exact opd_field_ref rfl fo44_8 rfl rfl rfl rfl)) ?_)
      all_goals (first | refine al_off rfl rfl rfl rfl rfl ?_ | refine al_ond rfl rfl rfl rfl rfl rfl (by exact (by exact opd_loadn_ref rfl Tryz.isAgg42 Tryz.sizeOf42 rfl rfl rfl rfl (by simp only [List.drop_succ_cons, List.drop_zero, List.take_succ_cons, List.take_zero, List.take_nil, List.map_cons, List.map_nil, List.set_cons_zero, List.set_cons_succ, List.cons_append, List.nil_append, encTag, encObj, encStr, encEdit, zObj]; rfl) rfl)) ?_)
      all_goals (first | refine al_off rfl rfl rfl rfl rfl ?_ | refine al_ond rfl rfl rfl rfl rfl rfl (by exact x_build rfl bo42 rfl rfl) ?_)
      all_goals (first | refine al_off rfl rfl rfl rfl rfl ?_ | refine al_ond rfl rfl rfl rfl rfl rfl (by exact opr_call rfl rfl Tryz.call85 rfl (rSame_c (bare4 e).obj zObj _ h7.2.2.1 h7.2.1.1)) ?_)
      all_goals (first | refine al_off rfl rfl rfl rfl rfl ?_ | refine al_ond rfl rfl rfl rfl rfl rfl (by exact opd_not rfl rfl) ?_)
      all_goals (refine al_d rfl rfl rfl (by exact (by first | exact opd_pick_t rfl rfl rfl | exact opd_pick_f rfl rfl rfl)) ?_)
      all_goals (refine al_nil ?_)
      all_goals (exact ⟨⟨_, rfl, by (simp_all [rb, bare4]; done)⟩, rfl, rfl, rfl⟩)
    refine awp_cond rfl (fun hc2 => ?_) (fun hc2 => ?_)
    -- cond 2
    · rw [hc2, Bool.not_true, Bool.false_and]
      refine awp_seq ?_
      refine awp_region ?_
      refine al_d rfl rfl rfl (by exact opd_assign rfl rfl) ?_
      refine al_nil ?_
      refine awp_ret ?_
      -- return
      refine aret1 (H' := []) (by exact .inr rfl) rfl (rval_tmp rfl) (Fin.wk (by simp) trivial trivial) ?_
      exact ⟨rfl, rfl⟩
    · rw [hc2, Bool.not_false, Bool.true_and]
      refine awp_skip ?_
      refine awp_seq ?_
      refine awp_seq ?_
      refine awp_region ?_
      refine al_d rfl rfl rfl (by exact (by exact opd_field_ref rfl fo44_0 rfl rfl rfl rfl)) ?_
      refine al_d rfl rfl rfl (by exact (by exact opd_load1_ref rfl Tryz.isAgg3 rfl rfl rfl rfl rfl)) ?_
      refine al_d rfl rfl rfl (by exact opd_eql rfl rfl rfl) ?_
      refine al_nil ?_
      refine awp_cond rfl (fun hc3 => ?_) (fun hc3 => ?_)
      -- cond 3
      · skip
        (exfalso; have h := hc3; simp [ho] at h)
      · skip
        refine awp_skip ?_
        refine awp_seq ?_
        refine awp_region ?_
        refine al_d rfl rfl rfl (by exact (by exact opd_field_ref rfl fo44_1 rfl rfl rfl rfl)) ?_
        refine al_d rfl rfl rfl (by exact (by exact opd_load1_ref rfl Tryz.isAgg9 rfl rfl rfl rfl rfl)) ?_
        refine al_d rfl rfl rfl (by exact x_buildSlice_own (id := 66) rfl so39 rfl rfl rfl rfl (by simp) rfl) ?_
        refine al_d rfl rfl rfl (by exact opd_assign rfl rfl) ?_
        refine al_nil ?_
        refine awp_seq ?_
        refine awp_seq ?_
        refine awp_region ?_
        refine al_d rfl rfl rfl (by exact (by exact opd_field_ref rfl fo44_0 rfl rfl rfl rfl)) ?_
        refine al_d rfl rfl rfl (by exact (by exact opd_load1_ref rfl Tryz.isAgg3 rfl rfl rfl rfl rfl)) ?_
        refine al_d rfl rfl rfl (by exact opd_eql rfl rfl rfl) ?_
        refine al_nil ?_
        refine awp_cond rfl (fun hc4 => ?_) (fun hc4 => ?_)
        -- cond 4
        · skip
          (exfalso; have h := hc4; simp [ho] at h)
        · skip
          refine awp_skip ?_
          refine awp_seq ?_
          refine awp_seq ?_
          refine awp_region ?_
          refine al_d rfl rfl rfl (by exact (by exact opd_field_ref rfl fo44_0 rfl rfl rfl rfl)) ?_
          refine al_d rfl rfl rfl (by exact (by exact opd_load1_ref rfl Tryz.isAgg3 rfl rfl rfl rfl rfl)) ?_
          refine al_d rfl rfl rfl (by exact opd_eql rfl rfl rfl) ?_
          refine al_nil ?_
          refine awp_cond rfl (fun hc5 => ?_) (fun hc5 => ?_)
          -- cond 5
          · skip
            refine awp_region ?_
            refine al_d rfl rfl rfl (by exact opd_move rfl rfl) ?_
            refine al_d rfl rfl rfl (by exact (by exact opd_field_ref rfl fo44_7 rfl rfl rfl rfl)) ?_
            refine al_d rfl rfl rfl (by exact (by exact opd_load1_ref rfl Tryz.isAgg39 rfl rfl rfl rfl rfl)) ?_
            refine al_d rfl rfl rfl (by exact (by exact x_append rfl so39 ei9 rfl rfl rfl rfl rfl (rfl : _ = 1) rfl (strs_len e.refs) (List.length_map _) (by omega) (Nat.add_comm 1 _ : _ = (e.id :: e.refs).length) (strRows_cons e.id e.refs))) ?_
            refine al_d rfl rfl rfl (by exact opd_assign rfl rfl) ?_
            refine al_nil ?_
            refine awp_seq ?_
            refine awp_seq ?_
            refine awp_region ?_
            refine al_d rfl rfl rfl (by exact (by exact opd_field_ref rfl fo44_0 rfl rfl rfl rfl)) ?_
            refine al_d rfl rfl rfl (by exact (by exact opd_load1_ref rfl Tryz.isAgg3 rfl rfl rfl rfl rfl)) ?_
            refine al_d rfl rfl rfl (by exact opd_eql rfl rfl rfl) ?_
            refine al_nil ?_
            refine awp_cond rfl (fun hc6 => ?_) (fun hc6 => ?_)
            -- cond 6
            · skip
              (exfalso; have h := hc6; simp [ho] at h)
            · skip
              refine awp_skip ?_
              refine awp_seq ?_
              refine awp_seq ?_
              refine awp_bool (t := 97) (n := 9) (X := decide (e.op = 6) || decide (e.op = 7)) ?_ ?_
              · all_goals (refine al_d rfl rfl rfl (by exact (by exact opd_field_ref rfl fo44_0 rfl rfl rfl rfl)) ?_)
                all_goals (refine al_d rfl rfl rfl (by exact (by exact opd_load1_ref rfl Tryz.isAgg3 rfl rfl rfl rfl rfl)) ?_)
                all_goals (refine al_d rfl rfl rfl (by exact opd_eql rfl rfl rfl) ?_)
                all_goals (refine al_d rfl rfl rfl (by exact opd_move rfl rfl) ?_)
                all_goals (refine al_split (t := 93) rfl (fun h93 => ?_) (fun h93 => ?_))
                all_goals (try contradiction)
                all_goals (first | refine al_off rfl rfl rfl rfl rfl ?_ | refine al_ond rfl rfl rfl rfl rfl rfl (by exact (by exact opd_field_ref rfl fo44_0 rfl rfl rfl rfl)) ?_)
                all_goals (first | refine al_off rfl rfl rfl rfl rfl ?_ | refine al_ond rfl rfl rfl rfl rfl rfl (by exact (by exact opd_load1_ref rfl Tryz.isAgg3 rfl rfl rfl rfl rfl)) ?_)
                all_goals (first | refine al_off rfl rfl rfl rfl rfl ?_ | refine al_ond rfl rfl rfl rfl rfl rfl (by exact opd_eql rfl rfl rfl) ?_)
                all_goals (refine al_d rfl rfl rfl (by exact (by first | exact opd_pick_t rfl rfl rfl | exact opd_pick_f rfl rfl rfl)) ?_)
                all_goals (refine al_nil ?_)
                all_goals (exact ⟨⟨_, rfl, by first | (simp only [*]; rfl) | (simp_all; done)⟩, rfl, rfl, rfl⟩)
              refine awp_cond rfl (fun hc7 => ?_) (fun hc7 => ?_)
              -- cond 7
              · skip
                (exfalso; have h := hc7; simp [ho] at h)
              · skip
                refine awp_skip ?_
                refine awp_seq ?_
                refine awp_seq ?_
                refine awp_region ?_
                refine al_d rfl rfl rfl (by exact opd_assign rfl rfl) ?_
                refine al_nil ?_
                refine awp_block ?_
                -- loop
                have hnl : ((e.id :: e.refs).map encStr).length = (e.id :: e.refs).length := List.length_map _
                have hnm : ∀ s ∈ (e.id :: e.refs), s.size < 4611686018427387904 := by
                  intro s hs
                  rcases List.mem_cons.1 hs with rfl | hs
                  · exact h1
                  · exact h6 s hs
                have hnn : (e.id :: e.refs).length < 4611686018427387904 + 2 := by
                  simp only [List.length_cons, List.length_nil]; omega
                refine AWp.ent (Ent.fz (id := 66) (E' := [(1, .ref 1 0 0 0), (4, .pv (slStrs (e.id :: e.refs))), (5, iv 0)]) (H' := [(1, bEd e)]) ((e.id :: e.refs).map encStr) rfl (rows_of encStr (e.id :: e.refs))
                  (by intro p hp; simp only [List.mem_cons, List.not_mem_nil, or_false] at hp; rcases hp with rfl | rfl | rfl; exact ⟨_, rfl, .same (.ref rfl)⟩; exact ⟨_, rfl, .osl (by (rw [Nat.zero_add, List.drop_zero]; exact List.take_of_length_le (by simp)))⟩; exact ⟨_, rfl, .same (by simp)⟩) rfl ⟨⟨_, rfl, rfl⟩, (by (simp; done)), trivial⟩ trivial) ?_
                refine awp_loop (σ := Nat) (fun q => ([(1, .ref 1 0 0 0), (4, .pv (slStrs (e.id :: e.refs))), (5, iv (q : Int))], [(1, bEd e)])) (fun q => q ≤ (e.id :: e.refs).length ∧ ∀ j, j < q → ∀ b, (e.id :: e.refs)[j]? = some b → (!gName b) = false) (fun q => (e.id :: e.refs).length - q) 0 ⟨by omega, by omega⟩ ?_ ?_
                · exact (Ent.wk ⟨⟨_, rfl, rfl⟩, (by (simp; rfl)), ⟨_, rfl, rfl⟩, (by (simp; done)), ⟨_, rfl, rfl⟩, (by (simp; done)), trivial⟩ ⟨⟨_, rfl, rfl⟩, (by (simp; done)), trivial⟩ trivial)
                · rintro q ⟨hq, hno⟩
                  refine awp_seq ?_
                  refine awp_seq ?_
                  refine awp_region ?_
                  refine al_d rfl rfl rfl (by exact opd_move rfl rfl) ?_
                  refine al_d rfl rfl rfl (by exact opd_move rfl rfl) ?_
                  refine al_d rfl rfl rfl (by exact (by exact opd_len_sl rfl Tryz.underlying39 rfl)) ?_
                  refine al_d rfl rfl rfl (by exact opd_lss rfl rfl rfl) ?_
                  refine al_nil ?_
                  refine awp_cond rfl (fun hc8 => ?_) (fun hc8 => ?_)
                  -- cond 8
                  · have hlt : q < (e.id :: e.refs).length := by have := of_decide_eq_true hc8; omega
                    obtain ⟨s, hs⟩ := get_of_lt hlt
                    have hi := map_get (f := encStr) hs
                    refine awp_skip ?_
                    refine awp_seq ?_
                    refine awp_block ?_
                    refine awp_seq ?_
                    refine awp_region ?_
                    refine al_d rfl rfl rfl (by exact opd_move rfl rfl) ?_
                    refine al_d rfl rfl rfl (by exact opd_move rfl rfl) ?_
                    refine al_d rfl rfl rfl (by exact (by exact x_index_pad rfl so39 rfl rfl (by omega) (by exact Int.toNat_natCast _) (by assumption) rfl)) ?_
                    refine al_d rfl rfl rfl (by exact (by exact opd_load1_pad rfl Tryz.isAgg9 rfl (by omega) rfl)) ?_
                    refine al_d rfl rfl rfl (by exact opr_call rfl rfl Tryz.call103 rfl (rName_c s _ (hnm s (List.mem_of_getElem? hs)))) ?_
                    refine al_d rfl rfl rfl (by exact opd_not rfl rfl) ?_
                    refine al_nil ?_
                    refine awp_cond rfl (fun hc9 => ?_) (fun hc9 => ?_)
                    -- cond 9
                    · have hall : (e.id :: e.refs).all gName = false := by
                        rw [List.all_eq_false]
                        exact ⟨s, List.mem_of_getElem? hs, by simpa using hc9⟩
                      rw [hall]
                      refine awp_seq ?_
                      refine awp_region ?_
                      refine al_d rfl rfl rfl (by exact opd_assign rfl rfl) ?_
                      refine al_nil ?_
                      refine awp_ret ?_
                      -- return
                      refine aret1 (H' := []) (by exact .inr rfl) rfl (rval_tmp rfl) (Fin.wk (by simp) trivial trivial) ?_
                      exact ⟨rfl, rfl⟩
                    · skip
                      refine awp_skip ?_
                      refine awp_region ?_
                      refine al_d rfl rfl rfl (by exact opd_move rfl rfl) ?_
                      refine al_d rfl rfl rfl (by exact opd_add rfl rfl rfl (by exact w64 (by omega) (by omega))) ?_
                      refine al_d rfl rfl rfl (by exact opd_assign rfl rfl) ?_
                      refine al_nil ?_
                      -- end of a round
                      exact ⟨q + 1, ⟨by omega, pre_succ hno hs hc9⟩, by omega, (Ent.wk ⟨⟨_, rfl, rfl⟩, (by (simp; rfl)), ⟨_, rfl, rfl⟩, (by (simp; done)), ⟨_, rfl, rfl⟩, (by (simp; done)), trivial⟩ ⟨⟨_, rfl, rfl⟩, (by (simp; done)), trivial⟩ trivial)⟩
                  · have hge : q = (e.id :: e.refs).length := by have := of_decide_eq_false hc8; omega
                    subst hge
                    have hall : (e.id :: e.refs).all gName = true := by
                      rw [List.all_eq_true]
                      intro s hs
                      obtain ⟨j, hj⟩ := List.mem_iff_getElem?.1 hs
                      have := hno j (List.getElem?_eq_some_iff.1 hj).1 s hj
                      simpa using this
                    rw [hall, Bool.true_and]
                    refine awp_exit ?_
                    refine awp_seq ?_
                    refine awp_seq ?_
                    refine awp_bool (t := 129) (n := 17) (X := decide (((e.refs.map encStr).length : Int) < 1) || decide (2000 < ((e.refs.map encStr).length : Int))) ?_ ?_
                    · all_goals (refine al_d rfl rfl rfl (by exact (by exact opd_field_ref rfl fo44_0 rfl rfl rfl rfl)) ?_)
                      all_goals (refine al_d rfl rfl rfl (by exact (by exact opd_load1_ref rfl Tryz.isAgg3 rfl rfl rfl rfl rfl)) ?_)
                      all_goals (refine al_d rfl rfl rfl (by exact opd_eql rfl rfl rfl) ?_)
                      all_goals (refine al_d rfl rfl rfl (by exact opd_move rfl rfl) ?_)
                      all_goals (refine al_split (t := 118) rfl (fun h118 => ?_) (fun h118 => ?_))
                      all_goals (try contradiction)
                      all_goals (first | refine al_off rfl rfl rfl rfl rfl ?_ | refine al_ond rfl rfl rfl rfl rfl rfl (by exact (by exact opd_field_ref rfl fo44_7 rfl rfl rfl rfl)) ?_)
                      all_goals (first | refine al_off rfl rfl rfl rfl rfl ?_ | refine al_ond rfl rfl rfl rfl rfl rfl (by exact (by exact opd_load1_ref rfl Tryz.isAgg39 rfl rfl rfl rfl rfl)) ?_)
                      all_goals (first | refine al_off rfl rfl rfl rfl rfl ?_ | refine al_ond rfl rfl rfl rfl rfl rfl (by exact (by exact opd_len_sl rfl Tryz.underlying39 rfl)) ?_)
                      all_goals (first | refine al_off rfl rfl rfl rfl rfl ?_ | refine al_ond rfl rfl rfl rfl rfl rfl (by exact opd_lss rfl rfl rfl) ?_)
                      all_goals (first | refine al_off rfl rfl rfl rfl rfl ?_ | refine al_ond rfl rfl rfl rfl rfl rfl (by exact opd_move rfl rfl) ?_)
                      all_goals (first | refine al_split (t := 123) rfl (fun h123 => ?_) (fun h123 => ?_) | refine al_dup (t := 123) rfl ?_)
                      all_goals (try contradiction)
                      all_goals (first | refine al_off rfl rfl rfl rfl rfl ?_ | refine al_offu rfl rfl rfl rfl ?_ | refine al_ond rfl rfl rfl rfl rfl rfl (by exact (by exact opd_field_ref rfl fo44_7 rfl rfl rfl rfl)) ?_)
                      all_goals (first | refine al_off rfl rfl rfl rfl rfl ?_ | refine al_offu rfl rfl rfl rfl ?_ | refine al_ond rfl rfl rfl rfl rfl rfl (by exact (by exact opd_load1_ref rfl Tryz.isAgg39 rfl rfl rfl rfl rfl)) ?_)
                      all_goals (first | refine al_off rfl rfl rfl rfl rfl ?_ | refine al_offu rfl rfl rfl rfl ?_ | refine al_ond rfl rfl rfl rfl rfl rfl (by exact (by exact opd_len_sl rfl Tryz.underlying39 rfl)) ?_)
                      all_goals (first | refine al_off rfl rfl rfl rfl rfl ?_ | refine al_offu rfl rfl rfl rfl ?_ | refine al_ond rfl rfl rfl rfl rfl rfl (by exact opd_gtr rfl rfl rfl) ?_)
                      all_goals (first | refine al_off rfl rfl rfl rfl rfl ?_ | refine al_ond rfl rfl rfl rfl rfl rfl (by exact (by first | exact opd_pick_t rfl rfl rfl | exact opd_pick_f rfl rfl rfl)) ?_)
                      all_goals (refine al_d rfl rfl rfl (by exact (by first | exact opd_pick_t rfl rfl rfl | exact opd_pick_f rfl rfl rfl)) ?_)
                      all_goals (refine al_nil ?_)
                      all_goals (exact ⟨⟨_, rfl, by first | (rw [h123]; rfl) | (exfalso; simp [ho] at h118; done)⟩, rfl, rfl, rfl⟩)
                    refine awp_cond rfl (fun hc10 => ?_) (fun hc10 => ?_)
                    -- cond 10
                    · rw [hc10]
                      refine awp_seq ?_
                      refine awp_region ?_
                      refine al_d rfl rfl rfl (by exact opd_assign rfl rfl) ?_
                      refine al_nil ?_
                      refine awp_ret ?_
                      -- return
                      refine aret1 (H' := []) (by exact .inr rfl) rfl (rval_tmp rfl) (Fin.wk (by simp) trivial trivial) ?_
                      exact ⟨rfl, rfl⟩
                    · rw [hc10, Bool.not_false, Bool.true_and]
                      refine awp_skip ?_
                      refine awp_seq ?_
                      refine awp_bool (t := 2) (n := 17) (X := decide ((e.val.size : Int) ≤ 200)) ?_ ?_
                      · all_goals (refine al_d rfl rfl rfl (by exact (by exact opd_field_ref rfl fo44_6 rfl rfl rfl rfl)) ?_)
                        all_goals (refine al_d rfl rfl rfl (by exact (by exact opd_load1_ref rfl Tryz.isAgg9 rfl rfl rfl rfl rfl)) ?_)
                        all_goals (refine al_d rfl rfl rfl (by exact opd_len_str rfl Tryz.underlying9 rfl) ?_)
                        all_goals (refine al_d rfl rfl rfl (by exact opd_leq rfl rfl rfl) ?_)
                        all_goals (refine al_d rfl rfl rfl (by exact opd_move rfl rfl) ?_)
                        all_goals (refine al_split (t := 134) rfl (fun h134 => ?_) (fun h134 => ?_))
                        all_goals (try contradiction)
                        all_goals (first | refine al_off rfl rfl rfl rfl rfl ?_ | refine al_ond rfl rfl rfl rfl rfl rfl (by exact (by exact opd_field_ref rfl fo44_0 rfl rfl rfl rfl)) ?_)
                        all_goals (first | refine al_off rfl rfl rfl rfl rfl ?_ | refine al_ond rfl rfl rfl rfl rfl rfl (by exact (by exact opd_load1_ref rfl Tryz.isAgg3 rfl rfl rfl rfl rfl)) ?_)
                        all_goals (first | refine al_off rfl rfl rfl rfl rfl ?_ | refine al_ond rfl rfl rfl rfl rfl rfl (by exact opd_neq rfl rfl rfl) ?_)
                        all_goals (first | refine al_off rfl rfl rfl rfl rfl ?_ | refine al_ond rfl rfl rfl rfl rfl rfl (by exact opd_move rfl rfl) ?_)
                        all_goals (first | refine al_split (t := 138) rfl (fun h138 => ?_) (fun h138 => ?_) | refine al_dup (t := 138) rfl ?_)
                        all_goals (try contradiction)
                        all_goals (first | refine al_off rfl rfl rfl rfl rfl ?_ | refine al_offu rfl rfl rfl rfl ?_ | refine al_ond rfl rfl rfl rfl rfl rfl (by exact (by exact opd_field_ref rfl fo44_4 rfl rfl rfl rfl)) ?_)
                        all_goals (first | refine al_off rfl rfl rfl rfl rfl ?_ | refine al_offu rfl rfl rfl rfl ?_ | refine al_ond rfl rfl rfl rfl rfl rfl (by exact (by exact opd_loadn_ref rfl Tryz.isAgg38 Tryz.sizeOf38 rfl rfl rfl rfl (by simp only [List.drop_succ_cons, List.drop_zero, List.take_succ_cons, List.take_zero, List.take_nil, List.map_cons, List.map_nil, List.set_cons_zero, List.set_cons_succ, List.cons_append, List.nil_append, encTag, encObj, encStr, encEdit, zObj]; rfl) rfl)) ?_)
                        all_goals (first | refine al_off rfl rfl rfl rfl rfl ?_ | refine al_offu rfl rfl rfl rfl ?_ | refine al_ond rfl rfl rfl rfl rfl rfl (by exact opr_call rfl rfl Tryz.call104 rfl (rOn_c e.x e.y _)) ?_)
                        all_goals (first | refine al_off rfl rfl rfl rfl rfl ?_ | refine al_ond rfl rfl rfl rfl rfl rfl (by exact (by first | exact opd_pick_t rfl rfl rfl | exact opd_pick_f rfl rfl rfl)) ?_)
                        all_goals (refine al_d rfl rfl rfl (by exact (by first | exact opd_pick_t rfl rfl rfl | exact opd_pick_f rfl rfl rfl)) ?_)
                        all_goals (refine al_d rfl rfl rfl (by exact opd_assign rfl rfl) ?_)
                        all_goals (refine al_nil ?_)
                        all_goals (exact ⟨⟨_, rfl, by (simp_all; done)⟩, rfl, rfl, rfl⟩)
                      refine awp_ret ?_
                      -- return
                      refine aret1 (H' := []) (by exact .inr rfl) rfl (rval_tmp rfl) (Fin.wk (by simp) trivial trivial) ?_
                      exact ⟨rfl, rfl⟩
          · skip
            (exfalso; have h := hc5; simp [ho] at h)
theorem rValid5_c (e : GEdit) (H : Heap) (he : okE e) (ho : e.op = 5) : ACalls Tryz.prog 47 [av (encEdit e)] H (fun r H' => r = bv (gEditV e) ∧ H' = H) := by
  refine ACalls.pure ?_ (by simp) H
  rw [ed5 e ho]
  obtain ⟨⟨h1, h2, h3, h4⟩, ⟨h5, h6⟩, h7⟩ := he
  have hrl : (e.refs.map encStr).length = e.refs.length := List.length_map _
  refine ACalls.body Tryz.func47 rfl Tryz.ntmps47 (Nat.le_of_ble_eq_true rfl) ?_
  refine awp_seq ?_
  refine awp_region ?_
  refine al_d rfl rfl rfl (by exact opd_box (id := 1) rfl rfl rfl rfl rfl) ?_
  refine al_d rfl rfl rfl (by exact opd_assign rfl rfl) ?_
  refine al_nil ?_
  refine awp_seq ?_
  refine awp_seq ?_
  refine awp_bool (t := 13) (n := 9) (X := decide (e.op < 1) || decide (7 < e.op)) ?_ ?_
  · all_goals (refine al_d rfl rfl rfl (by exact (by exact opd_field_ref rfl fo44_0 rfl rfl rfl rfl)) ?_)
    all_goals (refine al_d rfl rfl rfl (by exact (by exact opd_load1_ref rfl Tryz.isAgg3 rfl rfl rfl rfl rfl)) ?_)
    all_goals (refine al_d rfl rfl rfl (by exact opd_lss rfl rfl rfl) ?_)
    all_goals (refine al_d rfl rfl rfl (by exact opd_move rfl rfl) ?_)
    all_goals (refine al_split (t := 9) rfl (fun h9 => ?_) (fun h9 => ?_))
    all_goals (try contradiction)
    all_goals (first | refine al_off rfl rfl rfl rfl rfl ?_ | refine al_ond rfl rfl rfl rfl rfl rfl (by exact (by exact opd_field_ref rfl fo44_0 rfl rfl rfl rfl)) ?_)
    all_goals (first | refine al_off rfl rfl rfl rfl rfl ?_ | refine al_ond rfl rfl rfl rfl rfl rfl (by exact (by exact opd_load1_ref rfl Tryz.isAgg3 rfl rfl rfl rfl rfl)) ?_)
    all_goals (first | refine al_off rfl rfl rfl rfl rfl ?_ | refine al_ond rfl rfl rfl rfl rfl rfl (by exact opd_gtr rfl rfl rfl) ?_)
    all_goals (refine al_d rfl rfl rfl (by exact (by first | exact opd_pick_t rfl rfl rfl | exact opd_pick_f rfl rfl rfl)) ?_)
    all_goals (refine al_nil ?_)
    all_goals (exact ⟨⟨_, rfl, by first | (simp only [rb, bare5, *]; rfl) | (simp_all [rb, bare5]; done)⟩, rfl, rfl, rfl⟩)
  refine awp_cond rfl (fun hc1 => ?_) (fun hc1 => ?_)
  -- cond 1
  · skip
    (exfalso; have h := hc1; simp [ho] at h)
  · skip
    refine awp_skip ?_
    refine awp_seq ?_
    refine awp_region ?_
    refine al_d rfl rfl rfl (by exact (by exact opd_loadn_ref rfl Tryz.isAgg44 Tryz.sizeOf44 rfl rfl rfl rfl (by simp only [List.drop_succ_cons, List.drop_zero, List.take_succ_cons, List.take_zero, List.take_nil, List.map_cons, List.map_nil, List.set_cons_zero, List.set_cons_succ, List.cons_append, List.nil_append, encTag, encObj, encStr, encEdit, zObj]; rfl) rfl)) ?_
    refine al_d rfl rfl rfl (by exact opr_call rfl rfl Tryz.call101 rfl (bare5_c e _ ho)) ?_
    refine al_d rfl rfl rfl (by exact x_alloc (id := 3) rfl zo44 rfl rfl) ?_
    refine al_n rfl rfl (by exact (by exact x_store_all rfl Tryz.sizeOf44 rfl rfl rfl rfl rfl rfl rfl rfl)) ?_
    refine al_nil ?_
    refine awp_seq ?_
    refine awp_seq ?_
    refine awp_bool (t := 57) (n := 49) (X := rb (bare5 e)) ?_ ?_
    · all_goals (refine al_d rfl rfl rfl (by exact (by exact opd_field_ref rfl fo44_1 rfl rfl rfl rfl)) ?_)
      all_goals (refine al_d rfl rfl rfl (by exact (by exact opd_load1_ref rfl Tryz.isAgg9 rfl rfl rfl rfl rfl)) ?_)
      all_goals (refine al_d rfl rfl rfl (by exact opd_sneq rfl rfl rfl) ?_)
      all_goals (refine al_d rfl rfl rfl (by exact opd_move rfl rfl) ?_)
      all_goals (refine al_split (t := 19) rfl (fun h19 => ?_) (fun h19 => ?_))
      all_goals (try contradiction)
      all_goals (refine al_ond rfl rfl rfl rfl rfl rfl (by exact (by exact opd_field_ref rfl fo44_2 rfl rfl rfl rfl)) ?_)
      all_goals (refine al_ond rfl rfl rfl rfl rfl rfl (by exact (by exact opd_load1_ref rfl Tryz.isAgg9 rfl rfl rfl rfl rfl)) ?_)
      all_goals (refine al_ond rfl rfl rfl rfl rfl rfl (by exact opd_sneq rfl rfl rfl) ?_)
      all_goals (refine al_d rfl rfl rfl (by exact (by exact opd_pick_f rfl rfl rfl)) ?_)
      all_goals (refine al_d rfl rfl rfl (by exact opd_move rfl rfl) ?_)
      all_goals (refine al_split (t := 24) rfl (fun h24 => ?_) (fun h24 => ?_))
      all_goals (try contradiction)
      all_goals (first | refine al_off rfl rfl rfl rfl rfl ?_ | refine al_ond rfl rfl rfl rfl rfl rfl (by exact (by exact opd_field_ref rfl fo44_3 rfl rfl rfl rfl)) ?_)
      all_goals (first | refine al_off rfl rfl rfl rfl rfl ?_ | refine al_ond rfl rfl rfl rfl rfl rfl (by exact (by exact opd_load1_ref rfl Tryz.isAgg9 rfl rfl rfl rfl rfl)) ?_)
      all_goals (first | refine al_off rfl rfl rfl rfl rfl ?_ | refine al_ond rfl rfl rfl rfl rfl rfl (by exact opd_sneq rfl rfl rfl) ?_)
      all_goals (refine al_d rfl rfl rfl (by exact (by first | exact opd_pick_t rfl rfl rfl | exact opd_pick_f rfl rfl rfl)) ?_)
      all_goals (refine al_d rfl rfl rfl (by exact opd_move rfl rfl) ?_)
      all_goals (refine al_split (t := 29) rfl (fun h29 => ?_) (fun h29 => ?_))
      all_goals (try contradiction)
      all_goals (first | refine al_off rfl rfl rfl rfl rfl ?_ | refine al_ond rfl rfl rfl rfl rfl rfl (by exact (by exact opd_field_ref rfl fo44_4 rfl rfl rfl rfl)) ?_)
      all_goals (first | refine al_off rfl rfl rfl rfl rfl ?_ | refine al_ond rfl rfl rfl rfl rfl rfl (by exact (by exact opd_loadn_ref rfl Tryz.isAgg38 Tryz.sizeOf38 rfl rfl rfl rfl (by simp only [List.drop_succ_cons, List.drop_zero, List.take_succ_cons, List.take_zero, List.take_nil, List.map_cons, List.map_nil, List.set_cons_zero, List.set_cons_succ, List.cons_append, List.nil_append, encTag, encObj, encStr, encEdit, zObj]; rfl) rfl)) ?_)
      all_goals (first | refine al_off rfl rfl rfl rfl rfl ?_ | refine al_ond rfl rfl rfl rfl rfl rfl (by exact x_build rfl bo38 rfl rfl) ?_)
      all_goals (first | refine al_off rfl rfl rfl rfl rfl ?_ | refine al_ond rfl rfl rfl rfl rfl rfl (by exact opd_aneq rfl rfl rfl rfl rfl Tryz.eqGuardType38 (se38 _ _ _ _)) ?_)
      all_goals (refine al_d rfl rfl rfl (by exact (by first | exact opd_pick_t rfl rfl rfl | exact opd_pick_f rfl rfl rfl)) ?_)
      all_goals (refine al_d rfl rfl rfl (by exact opd_move rfl rfl) ?_)
      all_goals (refine al_split (t := 35) rfl (fun h35 => ?_) (fun h35 => ?_))
      all_goals (try contradiction)
      all_goals (first | refine al_off rfl rfl rfl rfl rfl ?_ | refine al_ond rfl rfl rfl rfl rfl rfl (by exact (by exact opd_field_ref rfl fo44_5 rfl rfl rfl rfl)) ?_)
      all_goals (first | refine al_off rfl rfl rfl rfl rfl ?_ | refine al_ond rfl rfl rfl rfl rfl rfl (by exact (by exact opd_load1_ref rfl Tryz.isAgg9 rfl rfl rfl rfl rfl)) ?_)
      all_goals (first | refine al_off rfl rfl rfl rfl rfl ?_ | refine al_ond rfl rfl rfl rfl rfl rfl (by exact opd_sneq rfl rfl rfl) ?_)
      all_goals (refine al_d rfl rfl rfl (by exact (by first | exact opd_pick_t rfl rfl rfl | exact opd_pick_f rfl rfl rfl)) ?_)
      all_goals (refine al_d rfl rfl rfl (by exact opd_move rfl rfl) ?_)
      all_goals (refine al_split (t := 40) rfl (fun h40 => ?_) (fun h40 => ?_))
      all_goals (try contradiction)
      all_goals (first | refine al_off rfl rfl rfl rfl rfl ?_ | refine al_ond rfl rfl rfl rfl rfl rfl (by exact (by exact opd_field_ref rfl fo44_6 rfl rfl rfl rfl)) ?_)
      all_goals (first | refine al_off rfl rfl rfl rfl rfl ?_ | refine al_ond rfl rfl rfl rfl rfl rfl (by exact (by exact opd_load1_ref rfl Tryz.isAgg9 rfl rfl rfl rfl rfl)) ?_)
      all_goals (first | refine al_off rfl rfl rfl rfl rfl ?_ | refine al_ond rfl rfl rfl rfl rfl rfl (by exact opd_sneq rfl rfl rfl) ?_)
      all_goals (refine al_d rfl rfl rfl (by exact (by first | exact opd_pick_t rfl rfl rfl | exact opd_pick_f rfl rfl rfl)) ?_)
      all_goals (refine al_d rfl rfl rfl (by exact opd_move rfl rfl) ?_)
      all_goals (refine al_split (t := 45) rfl (fun h45 => ?_) (fun h45 => ?_))
      all_goals (try contradiction)
      all_goals (first | refine al_off rfl rfl rfl rfl rfl ?_ | refine al_ond rfl rfl rfl rfl rfl rfl (by exact (by exact opd_field_ref rfl fo44_7 rfl rfl rfl rfl)) ?_)
      all_goals (first | refine al_off rfl rfl rfl rfl rfl ?_ | refine al_ond rfl rfl rfl rfl rfl rfl (by exact (by exact opd_load1_ref rfl Tryz.isAgg39 rfl rfl rfl rfl rfl)) ?_)
      all_goals (first | refine al_off rfl rfl rfl rfl rfl ?_ | refine al_ond rfl rfl rfl rfl rfl rfl (by exact (by exact opd_len_sl rfl Tryz.underlying39 rfl)) ?_)
      all_goals (first | refine al_off rfl rfl rfl rfl rfl ?_ | refine al_ond rfl rfl rfl rfl rfl rfl (by exact opd_gtr rfl rfl rfl) ?_)
      all_goals (refine al_d rfl rfl rfl (by exact (by first | exact opd_pick_t rfl rfl rfl | exact opd_pick_f rfl rfl rfl)) ?_)
      all_goals (refine al_d rfl rfl rfl (by exact opd_move rfl rfl) ?_)
      all_goals (refine al_split (t := 51) rfl (fun h51 => ?_) (fun h51 => ?_))
      all_goals (try contradiction)
      all_goals (first | refine al_off rfl rfl rfl rfl rfl ?_ | refine al_ond rfl rfl rfl rfl rfl rfl (by exact (by exact opd_field_ref rfl fo44_8 rfl rfl rfl rfl)) ?_)
      all_goals (first | refine al_off rfl rfl rfl rfl rfl ?_ | refine al_ond rfl rfl rfl rfl rfl rfl (by exact (by exact opd_loadn_ref rfl Tryz.isAgg42 Tryz.sizeOf42 rfl rfl rfl rfl (by simp only [List.drop_succ_cons, List.drop_zero, List.take_succ_cons, List.take_zero, List.take_nil, List.map_cons, List.map_nil, List.set_cons_zero, List.set_cons_succ, List.cons_append, List.nil_append, encTag, encObj, encStr, encEdit, zObj]; rfl) rfl)) ?_)
      all_goals (first | refine al_off rfl rfl rfl rfl rfl ?_ | refine al_ond rfl rfl rfl rfl rfl rfl (by exact x_build rfl bo42 rfl rfl) ?_)
      all_goals (first | refine al_off rfl rfl rfl rfl rfl ?_ | refine al_ond rfl rfl rfl rfl rfl rfl (by exact opr_call rfl rfl Tryz.call85 rfl (rSame_c (bare5 e).obj zObj _ h7.2.2.1 h7.2.1.1)) ?_)
      all_goals (first | refine al_off rfl rfl rfl rfl rfl ?_ | refine al_ond rfl rfl rfl rfl rfl rfl (by exact opd_not rfl rfl) ?_)
      all_goals (refine al_d rfl rfl rfl (by exact (by first | exact opd_pick_t rfl rfl rfl | exact opd_pick_f rfl rfl rfl)) ?_)
      all_goals (refine al_nil ?_)
      all_goals (exact ⟨⟨_, rfl, by (simp_all [rb, bare5]; done)⟩, rfl, rfl, rfl⟩)
    refine awp_cond rfl (fun hc2 => ?_) (fun hc2 => ?_)
    -- cond 2
    · rw [hc2, Bool.not_true, Bool.false_and]
      refine awp_seq ?_
      refine awp_region ?_
      refine al_d rfl rfl rfl (by exact opd_assign rfl rfl) ?_
      refine al_nil ?_
      refine awp_ret ?_
      -- return
      refine aret1 (H' := []) (by exact .inr rfl) rfl (rval_tmp rfl) (Fin.wk (by simp) trivial trivial) ?_
      exact ⟨rfl, rfl⟩
    · rw [hc2, Bool.not_false, Bool.true_and]
      refine awp_skip ?_
      refine awp_seq ?_
      refine awp_seq ?_
      refine awp_region ?_
      refine al_d rfl rfl rfl (by exact (by exact opd_field_ref rfl fo44_0 rfl rfl rfl rfl)) ?_
      refine al_d rfl rfl rfl (by exact (by exact opd_load1_ref rfl Tryz.isAgg3 rfl rfl rfl rfl rfl)) ?_
      refine al_d rfl rfl rfl (by exact opd_eql rfl rfl rfl) ?_
      refine al_nil ?_
      refine awp_cond rfl (fun hc3 => ?_) (fun hc3 => ?_)
      -- cond 3
      · skip
        (exfalso; have h := hc3; simp [ho] at h)
      · skip
        refine awp_skip ?_
        refine awp_seq ?_
        refine awp_region ?_
        refine al_d rfl rfl rfl (by exact (by exact opd_field_ref rfl fo44_1 rfl rfl rfl rfl)) ?_
        refine al_d rfl rfl rfl (by exact (by exact opd_load1_ref rfl Tryz.isAgg9 rfl rfl rfl rfl rfl)) ?_
        refine al_d rfl rfl rfl (by exact x_buildSlice_own (id := 66) rfl so39 rfl rfl rfl rfl (by simp) rfl) ?_
        refine al_d rfl rfl rfl (by exact opd_assign rfl rfl) ?_
        refine al_nil ?_
        refine awp_seq ?_
        refine awp_seq ?_
        refine awp_region ?_
        refine al_d rfl rfl rfl (by exact (by exact opd_field_ref rfl fo44_0 rfl rfl rfl rfl)) ?_
        refine al_d rfl rfl rfl (by exact (by exact opd_load1_ref rfl Tryz.isAgg3 rfl rfl rfl rfl rfl)) ?_
        refine al_d rfl rfl rfl (by exact opd_eql rfl rfl rfl) ?_
        refine al_nil ?_
        refine awp_cond rfl (fun hc4 => ?_) (fun hc4 => ?_)
        -- cond 4
        · skip
          (exfalso; have h := hc4; simp [ho] at h)
        · skip
          refine awp_skip ?_
          refine awp_seq ?_
          refine awp_seq ?_
          refine awp_region ?_
          refine al_d rfl rfl rfl (by exact (by exact opd_field_ref rfl fo44_0 rfl rfl rfl rfl)) ?_
          refine al_d rfl rfl rfl (by exact (by exact opd_load1_ref rfl Tryz.isAgg3 rfl rfl rfl rfl rfl)) ?_
          refine al_d rfl rfl rfl (by exact opd_eql rfl rfl rfl) ?_
          refine al_nil ?_
          refine awp_cond rfl (fun hc5 => ?_) (fun hc5 => ?_)
          -- cond 5
          · skip
            (exfalso; have h := hc5; simp [ho] at h)
          · skip
            refine awp_skip ?_
            refine awp_seq ?_
            refine awp_seq ?_
            refine awp_region ?_
            refine al_d rfl rfl rfl (by exact (by exact opd_field_ref rfl fo44_0 rfl rfl rfl rfl)) ?_
            refine al_d rfl rfl rfl (by exact (by exact opd_load1_ref rfl Tryz.isAgg3 rfl rfl rfl rfl rfl)) ?_
            refine al_d rfl rfl rfl (by exact opd_eql rfl rfl rfl) ?_
            refine al_nil ?_
            refine awp_cond rfl (fun hc6 => ?_) (fun hc6 => ?_)
            -- cond 6
            · skip
              (exfalso; have h := hc6; simp [ho] at h)
            · skip
              refine awp_skip ?_
              refine awp_seq ?_
              refine awp_seq ?_
              refine awp_bool (t := 97) (n := 9) (X := decide (e.op = 6) || decide (e.op = 7)) ?_ ?_
              · all_goals (refine al_d rfl rfl rfl (by exact (by exact opd_field_ref rfl fo44_0 rfl rfl rfl rfl)) ?_)
                all_goals (refine al_d rfl rfl rfl (by exact (by exact opd_load1_ref rfl Tryz.isAgg3 rfl rfl rfl rfl rfl)) ?_)
                all_goals (refine al_d rfl rfl rfl (by exact opd_eql rfl rfl rfl) ?_)
                all_goals (refine al_d rfl rfl rfl (by exact opd_move rfl rfl) ?_)
                all_goals (refine al_split (t := 93) rfl (fun h93 => ?_) (fun h93 => ?_))
                all_goals (try contradiction)
                all_goals (first | refine al_off rfl rfl rfl rfl rfl ?_ | refine al_ond rfl rfl rfl rfl rfl rfl (by exact (by exact opd_field_ref rfl fo44_0 rfl rfl rfl rfl)) ?_)
                all_goals (first | refine al_off rfl rfl rfl rfl rfl ?_ | refine al_ond rfl rfl rfl rfl rfl rfl (by exact (by exact opd_load1_ref rfl Tryz.isAgg3 rfl rfl rfl rfl rfl)) ?_)
                all_goals (first | refine al_off rfl rfl rfl rfl rfl ?_ | refine al_ond rfl rfl rfl rfl rfl rfl (by exact opd_eql rfl rfl rfl) ?_)
                all_goals (refine al_d rfl rfl rfl (by exact (by first | exact opd_pick_t rfl rfl rfl | exact opd_pick_f rfl rfl rfl)) ?_)
                all_goals (refine al_nil ?_)
                all_goals (exact ⟨⟨_, rfl, by first | (simp only [*]; rfl) | (simp_all; done)⟩, rfl, rfl, rfl⟩)
              refine awp_cond rfl (fun hc7 => ?_) (fun hc7 => ?_)
              -- cond 7
              · skip
                (exfalso; have h := hc7; simp [ho] at h)
              · skip
                refine awp_skip ?_
                refine awp_seq ?_
                refine awp_seq ?_
                refine awp_region ?_
                refine al_d rfl rfl rfl (by exact opd_assign rfl rfl) ?_
                refine al_nil ?_
                refine awp_block ?_
                -- loop
                have hnl : ([e.id].map encStr).length = [e.id].length := List.length_map _
                have hnm : ∀ s ∈ [e.id], s.size < 4611686018427387904 := by
                  intro s hs
                  simp only [List.mem_cons, List.not_mem_nil, or_false] at hs
                  rcases hs with rfl <;> assumption
                have hnn : [e.id].length < 4611686018427387904 + 2 := by
                  simp only [List.length_cons, List.length_nil]; omega
                refine AWp.ent (Ent.fz (id := 66) (E' := [(1, .ref 1 0 0 0), (4, .pv (slStrs [e.id])), (5, iv 0)]) (H' := [(1, bEd e)]) ([e.id].map encStr) rfl (rows_of encStr [e.id])
                  (by intro p hp; simp only [List.mem_cons, List.not_mem_nil, or_false] at hp; rcases hp with rfl | rfl | rfl; exact ⟨_, rfl, .same (.ref rfl)⟩; exact ⟨_, rfl, .osl (by rfl)⟩; exact ⟨_, rfl, .same (by simp)⟩) rfl ⟨⟨_, rfl, rfl⟩, (by (simp; done)), trivial⟩ trivial) ?_
                refine awp_loop (σ := Nat) (fun q => ([(1, .ref 1 0 0 0), (4, .pv (slStrs [e.id])), (5, iv (q : Int))], [(1, bEd e)])) (fun q => q ≤ [e.id].length ∧ ∀ j, j < q → ∀ b, [e.id][j]? = some b → (!gName b) = false) (fun q => [e.id].length - q) 0 ⟨by omega, by omega⟩ ?_ ?_
                · exact (Ent.wk ⟨⟨_, rfl, rfl⟩, (by (simp; rfl)), ⟨_, rfl, rfl⟩, (by (simp; done)), ⟨_, rfl, rfl⟩, (by (simp; done)), trivial⟩ ⟨⟨_, rfl, rfl⟩, (by (simp; done)), trivial⟩ trivial)
                · rintro q ⟨hq, hno⟩
                  refine awp_seq ?_
                  refine awp_seq ?_
                  refine awp_region ?_
                  refine al_d rfl rfl rfl (by exact opd_move rfl rfl) ?_
                  refine al_d rfl rfl rfl (by exact opd_move rfl rfl) ?_
                  refine al_d rfl rfl rfl (by exact (by exact opd_len_sl rfl Tryz.underlying39 rfl)) ?_
                  refine al_d rfl rfl rfl (by exact opd_lss rfl rfl rfl) ?_
                  refine al_nil ?_
                  refine awp_cond rfl (fun hc8 => ?_) (fun hc8 => ?_)
                  -- cond 8
                  · have hlt : q < [e.id].length := by have := of_decide_eq_true hc8; omega
                    obtain ⟨s, hs⟩ := get_of_lt hlt
                    have hi := map_get (f := encStr) hs
                    refine awp_skip ?_
                    refine awp_seq ?_
                    refine awp_block ?_
                    refine awp_seq ?_
                    refine awp_region ?_
                    refine al_d rfl rfl rfl (by exact opd_move rfl rfl) ?_
                    refine al_d rfl rfl rfl (by exact opd_move rfl rfl) ?_
                    refine al_d rfl rfl rfl (by exact (by exact x_index_pad rfl so39 rfl rfl (by omega) (by exact Int.toNat_natCast _) (by assumption) rfl)) ?_
                    refine al_d rfl rfl rfl (by exact (by exact opd_load1_pad rfl Tryz.isAgg9 rfl (by omega) rfl)) ?_
                    refine al_d rfl rfl rfl (by exact opr_call rfl rfl Tryz.call103 rfl (rName_c s _ (hnm s (List.mem_of_getElem? hs)))) ?_
                    refine al_d rfl rfl rfl (by exact opd_not rfl rfl) ?_
                    refine al_nil ?_
                    refine awp_cond rfl (fun hc9 => ?_) (fun hc9 => ?_)
                    -- cond 9
                    · have hall : [e.id].all gName = false := by
                        rw [List.all_eq_false]
                        exact ⟨s, List.mem_of_getElem? hs, by simpa using hc9⟩
                      rw [hall]
                      refine awp_seq ?_
                      refine awp_region ?_
                      refine al_d rfl rfl rfl (by exact opd_assign rfl rfl) ?_
                      refine al_nil ?_
                      refine awp_ret ?_
                      -- return
                      refine aret1 (H' := []) (by exact .inr rfl) rfl (rval_tmp rfl) (Fin.wk (by simp) trivial trivial) ?_
                      exact ⟨rfl, rfl⟩
                    · skip
                      refine awp_skip ?_
                      refine awp_region ?_
                      refine al_d rfl rfl rfl (by exact opd_move rfl rfl) ?_
                      refine al_d rfl rfl rfl (by exact opd_add rfl rfl rfl (by exact w64 (by omega) (by omega))) ?_
                      refine al_d rfl rfl rfl (by exact opd_assign rfl rfl) ?_
                      refine al_nil ?_
                      -- end of a round
                      exact ⟨q + 1, ⟨by omega, pre_succ hno hs hc9⟩, by omega, (Ent.wk ⟨⟨_, rfl, rfl⟩, (by (simp; rfl)), ⟨_, rfl, rfl⟩, (by (simp; done)), ⟨_, rfl, rfl⟩, (by (simp; done)), trivial⟩ ⟨⟨_, rfl, rfl⟩, (by (simp; done)), trivial⟩ trivial)⟩
                  · have hge : q = [e.id].length := by have := of_decide_eq_false hc8; omega
                    subst hge
                    have hall : [e.id].all gName = true := by
                      rw [List.all_eq_true]
                      intro s hs
                      obtain ⟨j, hj⟩ := List.mem_iff_getElem?.1 hs
                      have := hno j (List.getElem?_eq_some_iff.1 hj).1 s hj
                      simpa using this
                    rw [hall, Bool.true_and]
                    have d4 : decide (e.op = 4) = false := by rw [ho]; decide
                    refine awp_exit ?_
                    refine awp_seq ?_
                    refine awp_seq ?_
                    refine awp_region ?_
                    refine al_d rfl rfl rfl (by exact (by exact opd_field_ref rfl fo44_0 rfl rfl rfl rfl)) ?_
                    refine al_d rfl rfl rfl (by exact (by exact opd_load1_ref rfl Tryz.isAgg3 rfl rfl rfl rfl rfl)) ?_
                    refine al_d rfl rfl rfl (by exact opd_eql rfl rfl rfl) ?_
                    refine al_d rfl rfl rfl (by exact opd_move rfl rfl) ?_
                    refine al_off rfl rfl rfl (by assumption) rfl ?_
                    refine al_off rfl rfl rfl (by assumption) rfl ?_
                    refine al_off rfl rfl rfl (by assumption) rfl ?_
                    refine al_off rfl rfl rfl (by assumption) rfl ?_
                    refine al_off rfl rfl rfl (by assumption) rfl ?_
                    refine al_offu rfl rfl rfl rfl ?_
                    refine al_offu rfl rfl rfl rfl ?_
                    refine al_offu rfl rfl rfl rfl ?_
                    refine al_offu rfl rfl rfl rfl ?_
                    refine al_off rfl rfl rfl (by assumption) rfl ?_
                    refine al_d rfl rfl rfl (by exact (by exact opd_pickf rfl rfl (by assumption) rfl)) ?_
                    refine al_nil ?_
                    refine awp_cond rfl (fun hc10 => ?_) (fun hc10 => ?_)
                    -- cond 10
                    · skip
                      (cases hc10)
                    · skip
                      refine awp_skip ?_
                      refine awp_seq ?_
                      refine awp_bool (t := 2) (n := 17) (X := decide ((e.val.size : Int) ≤ 200)) ?_ ?_
                      · all_goals (refine al_d rfl rfl rfl (by exact (by exact opd_field_ref rfl fo44_6 rfl rfl rfl rfl)) ?_)
                        all_goals (refine al_d rfl rfl rfl (by exact (by exact opd_load1_ref rfl Tryz.isAgg9 rfl rfl rfl rfl rfl)) ?_)
                        all_goals (refine al_d rfl rfl rfl (by exact opd_len_str rfl Tryz.underlying9 rfl) ?_)
                        all_goals (refine al_d rfl rfl rfl (by exact opd_leq rfl rfl rfl) ?_)
                        all_goals (refine al_d rfl rfl rfl (by exact opd_move rfl rfl) ?_)
                        all_goals (refine al_split (t := 134) rfl (fun h134 => ?_) (fun h134 => ?_))
                        all_goals (try contradiction)
                        all_goals (first | refine al_off rfl rfl rfl rfl rfl ?_ | refine al_ond rfl rfl rfl rfl rfl rfl (by exact (by exact opd_field_ref rfl fo44_0 rfl rfl rfl rfl)) ?_)
                        all_goals (first | refine al_off rfl rfl rfl rfl rfl ?_ | refine al_ond rfl rfl rfl rfl rfl rfl (by exact (by exact opd_load1_ref rfl Tryz.isAgg3 rfl rfl rfl rfl rfl)) ?_)
                        all_goals (first | refine al_off rfl rfl rfl rfl rfl ?_ | refine al_ond rfl rfl rfl rfl rfl rfl (by exact opd_neq rfl rfl rfl) ?_)
                        all_goals (first | refine al_off rfl rfl rfl rfl rfl ?_ | refine al_ond rfl rfl rfl rfl rfl rfl (by exact opd_move rfl rfl) ?_)
                        all_goals (first | refine al_split (t := 138) rfl (fun h138 => ?_) (fun h138 => ?_) | refine al_dup (t := 138) rfl ?_)
                        all_goals (try contradiction)
                        all_goals (first | refine al_off rfl rfl rfl rfl rfl ?_ | refine al_offu rfl rfl rfl rfl ?_ | refine al_ond rfl rfl rfl rfl rfl rfl (by exact (by exact opd_field_ref rfl fo44_4 rfl rfl rfl rfl)) ?_)
                        all_goals (first | refine al_off rfl rfl rfl rfl rfl ?_ | refine al_offu rfl rfl rfl rfl ?_ | refine al_ond rfl rfl rfl rfl rfl rfl (by exact (by exact opd_loadn_ref rfl Tryz.isAgg38 Tryz.sizeOf38 rfl rfl rfl rfl (by simp only [List.drop_succ_cons, List.drop_zero, List.take_succ_cons, List.take_zero, List.take_nil, List.map_cons, List.map_nil, List.set_cons_zero, List.set_cons_succ, List.cons_append, List.nil_append, encTag, encObj, encStr, encEdit, zObj]; rfl) rfl)) ?_)
                        all_goals (first | refine al_off rfl rfl rfl rfl rfl ?_ | refine al_offu rfl rfl rfl rfl ?_ | refine al_ond rfl rfl rfl rfl rfl rfl (by exact opr_call rfl rfl Tryz.call104 rfl (rOn_c e.x e.y _)) ?_)
                        all_goals (first | refine al_off rfl rfl rfl rfl rfl ?_ | refine al_ond rfl rfl rfl rfl rfl rfl (by exact (by first | exact opd_pick_t rfl rfl rfl | exact opd_pick_f rfl rfl rfl)) ?_)
                        all_goals (refine al_d rfl rfl rfl (by exact (by first | exact opd_pick_t rfl rfl rfl | exact opd_pick_f rfl rfl rfl)) ?_)
                        all_goals (refine al_d rfl rfl rfl (by exact opd_assign rfl rfl) ?_)
                        all_goals (refine al_nil ?_)
                        all_goals (exact ⟨⟨_, rfl, by (simp_all; done)⟩, rfl, rfl, rfl⟩)
                      refine awp_ret ?_
                      -- return
                      refine aret1 (H' := []) (by exact .inr rfl) rfl (rval_tmp rfl) (Fin.wk (by simp) trivial trivial) ?_
                      exact ⟨rfl, rfl⟩
theorem rValid6_c (e : GEdit) (H : Heap) (he : okE e) (ho : e.op = 6) : ACalls Tryz.prog 47 [av (encEdit e)] H (fun r H' => r = bv (gEditV e) ∧ H' = H) := by
  refine ACalls.pure ?_ (by simp) H
  rw [ed6 e ho]
  obtain ⟨⟨h1, h2, h3, h4⟩, ⟨h5, h6⟩, h7⟩ := he
  have hrl : (e.refs.map encStr).length = e.refs.length := List.length_map _
  refine ACalls.body Tryz.func47 rfl Tryz.ntmps47 (Nat.le_of_ble_eq_true rfl) ?_
  refine awp_seq ?_
  refine awp_region ?_
  refine al_d rfl rfl rfl (by exact opd_box (id := 1) rfl rfl rfl rfl rfl) ?_
  refine al_d rfl rfl rfl (by exact opd_assign rfl rfl) ?_
  refine al_nil ?_
  refine awp_seq ?_
  refine awp_seq ?_
  refine awp_bool (t := 13) (n := 9) (X := decide (e.op < 1) || decide (7 < e.op)) ?_ ?_
  · all_goals (refine al_d rfl rfl rfl (by exact (by exact opd_field_ref rfl fo44_0 rfl rfl rfl rfl)) ?_)
    all_goals (refine al_d rfl rfl rfl (by exact (by exact opd_load1_ref rfl Tryz.isAgg3 rfl rfl rfl rfl rfl)) ?_)
    all_goals (refine al_d rfl rfl rfl (by exact opd_lss rfl rfl rfl) ?_)
    all_goals (refine al_d rfl rfl rfl (by exact opd_move rfl rfl) ?_)
    all_goals (refine al_split (t := 9) rfl (fun h9 => ?_) (fun h9 => ?_))
    all_goals (try contradiction)
    all_goals (first | refine al_off rfl rfl rfl rfl rfl ?_ | refine al_ond rfl rfl rfl rfl rfl rfl (by exact (by exact opd_field_ref rfl fo44_0 rfl rfl rfl rfl)) ?_)
    all_goals (first | refine al_off rfl rfl rfl rfl rfl ?_ | refine al_ond rfl rfl rfl rfl rfl rfl (by exact (by exact opd_load1_ref rfl Tryz.isAgg3 rfl rfl rfl rfl rfl)) ?_)
    all_goals (first | refine al_off rfl rfl rfl rfl rfl ?_ | refine al_ond rfl rfl rfl rfl rfl rfl (by exact opd_gtr rfl rfl rfl) ?_)
    all_goals (refine al_d rfl rfl rfl (by exact (by first | exact opd_pick_t rfl rfl rfl | exact opd_pick_f rfl rfl rfl)) ?_)
    all_goals (refine al_nil ?_)
    all_goals (exact ⟨⟨_, rfl, by first | (simp only [rb, bare6, *]; rfl) | (simp_all [rb, bare6]; done)⟩, rfl, rfl, rfl⟩)
  refine awp_cond rfl (fun hc1 => ?_) (fun hc1 => ?_)
  -- cond 1
  · skip
    (exfalso; have h := hc1; simp [ho] at h)
  · skip
    refine awp_skip ?_
    refine awp_seq ?_
    refine awp_region ?_
    refine al_d rfl rfl rfl (by exact (by exact opd_loadn_ref rfl Tryz.isAgg44 Tryz.sizeOf44 rfl rfl rfl rfl (by simp only [List.drop_succ_cons, List.drop_zero, List.take_succ_cons, List.take_zero, List.take_nil, List.map_cons, List.map_nil, List.set_cons_zero, List.set_cons_succ, List.cons_append, List.nil_append, encTag, encObj, encStr, encEdit, zObj]; rfl) rfl)) ?_
    refine al_d rfl rfl rfl (by exact opr_call rfl rfl Tryz.call101 rfl (bare6_c e _ ho)) ?_
    refine al_d rfl rfl rfl (by exact x_alloc (id := 3) rfl zo44 rfl rfl) ?_
    refine al_n rfl rfl (by exact (by exact x_store_all rfl Tryz.sizeOf44 rfl rfl rfl rfl rfl rfl rfl rfl)) ?_
    refine al_nil ?_
    refine awp_seq ?_
    refine awp_seq ?_
    refine awp_bool (t := 57) (n := 49) (X := rb (bare6 e)) ?_ ?_
    · all_goals (refine al_d rfl rfl rfl (by exact (by exact opd_field_ref rfl fo44_1 rfl rfl rfl rfl)) ?_)
      all_goals (refine al_d rfl rfl rfl (by exact (by exact opd_load1_ref rfl Tryz.isAgg9 rfl rfl rfl rfl rfl)) ?_)
      all_goals (refine al_d rfl rfl rfl (by exact opd_sneq rfl rfl rfl) ?_)
      all_goals (refine al_d rfl rfl rfl (by exact opd_move rfl rfl) ?_)
      all_goals (refine al_split (t := 19) rfl (fun h19 => ?_) (fun h19 => ?_))
      all_goals (try contradiction)
      all_goals (refine al_ond rfl rfl rfl rfl rfl rfl (by exact (by exact opd_field_ref rfl fo44_2 rfl rfl rfl rfl)) ?_)
      all_goals (refine al_ond rfl rfl rfl rfl rfl rfl (by exact (by exact opd_load1_ref rfl Tryz.isAgg9 rfl rfl rfl rfl rfl)) ?_)
      all_goals (refine al_ond rfl rfl rfl rfl rfl rfl (by exact opd_sneq rfl rfl rfl) ?_)
      all_goals (refine al_d rfl rfl rfl (by exact (by exact opd_pick_f rfl rfl rfl)) ?_)
      all_goals (refine al_d rfl rfl rfl (by exact opd_move rfl rfl) ?_)
      all_goals (refine al_split (t := 24) rfl (fun h24 => ?_) (fun h24 => ?_))
      all_goals (try contradiction)
      all_goals (refine al_ond rfl rfl rfl rfl rfl rfl (by exact (by exact opd_field_ref rfl fo44_3 rfl rfl rfl rfl)) ?_)
      all_goals (refine al_ond rfl rfl rfl rfl rfl rfl (by exact (by exact opd_load1_ref rfl Tryz.isAgg9 rfl rfl rfl rfl rfl)) ?_)
      all_goals (refine al_ond rfl rfl rfl rfl rfl rfl (by exact opd_sneq rfl rfl rfl) ?_)
      all_goals (refine al_d rfl rfl rfl (by exact (by exact opd_pick_f rfl rfl rfl)) ?_)
      all_goals (refine al_d rfl rfl rfl (by exact opd_move rfl rfl) ?_)
      all_goals (refine al_split (t := 29) rfl (fun h29 => ?_) (fun h29 => ?_))
      all_goals (try contradiction)
      all_goals (refine al_ond rfl rfl rfl rfl rfl rfl (by exact (by exact opd_field_ref rfl fo44_4 rfl rfl rfl rfl)) ?_)
      all_goals (refine al_ond rfl rfl rfl rfl rfl rfl (by exact (by exact opd_loadn_ref rfl Tryz.isAgg38 Tryz.sizeOf38 rfl rfl rfl rfl (by simp only [List.drop_succ_cons, List.drop_zero, List.take_succ_cons, List.take_zero, List.take_nil, List.map_cons, List.map_nil, List.set_cons_zero, List.set_cons_succ, List.cons_append, List.nil_append, encTag, encObj, encStr, encEdit, zObj]; rfl) rfl)) ?_)
      all_goals (refine al_ond rfl rfl rfl rfl rfl rfl (by exact x_build rfl bo38 rfl rfl) ?_)
      all_goals (refine al_ond rfl rfl rfl rfl rfl rfl (by exact opd_aneq rfl rfl rfl rfl rfl Tryz.eqGuardType38 (se38 _ _ _ _)) ?_)
      all_goals (refine al_d rfl rfl rfl (by exact (by exact opd_pick_f rfl rfl rfl)) ?_)
      all_goals (refine al_d rfl rfl rfl (by exact opd_move rfl rfl) ?_)
      all_goals (refine al_split (t := 35) rfl (fun h35 => ?_) (fun h35 => ?_))
      all_goals (try contradiction)
      all_goals (first | refine al_off rfl rfl rfl rfl rfl ?_ | refine al_ond rfl rfl rfl rfl rfl rfl (by exact (by exact opd_field_ref rfl fo44_5 rfl rfl rfl rfl)) ?_)
      all_goals (first | refine al_off rfl rfl rfl rfl rfl ?_ | refine al_ond rfl rfl rfl rfl rfl rfl (by exact (by exact opd_load1_ref rfl Tryz.isAgg9 rfl rfl rfl rfl rfl)) ?_)
      all_goals (first | refine al_off rfl rfl rfl rfl rfl ?_ | refine al_ond rfl rfl rfl rfl rfl rfl (by exact opd_sneq rfl rfl rfl) ?_)
      all_goals (refine al_d rfl rfl rfl (by exact (by first | exact opd_pick_t rfl rfl rfl | exact opd_pick_f rfl rfl rfl)) ?_)
      all_goals (refine al_d rfl rfl rfl (by exact opd_move rfl rfl) ?_)
      all_goals (refine al_split (t := 40) rfl (fun h40 => ?_) (fun h40 => ?_))
      all_goals (try contradiction)
      all_goals (first | refine al_off rfl rfl rfl rfl rfl ?_ | refine al_ond rfl rfl rfl rfl rfl rfl (by exact (by exact opd_field_ref rfl fo44_6 rfl rfl rfl rfl)) ?_)
      all_goals (first | refine al_off rfl rfl rfl rfl rfl ?_ | refine al_ond rfl rfl rfl rfl rfl rfl (by exact (by exact opd_load1_ref rfl Tryz.isAgg9 rfl rfl rfl rfl rfl)) ?_)
      all_goals (first | refine al_off rfl rfl rfl rfl rfl ?_ | refine al_ond rfl rfl rfl rfl rfl rfl (by exact opd_sneq rfl rfl rfl) ?_)
      all_goals (refine al_d rfl rfl rfl (by exact (by first | exact opd_pick_t rfl rfl rfl | exact opd_pick_f rfl rfl rfl)) ?_)
      all_goals (refine al_d rfl rfl rfl (by exact opd_move rfl rfl) ?_)
      all_goals (refine al_split (t := 45) rfl (fun h45 => ?_) (fun h45 => ?_))
      all_goals (try contradiction)
      all_goals (first | refine al_off rfl rfl rfl rfl rfl ?_ | refine al_ond rfl rfl rfl rfl rfl rfl (by exact (by exact opd_field_ref rfl fo44_7 rfl rfl rfl rfl)) ?_)
      all_goals (first | refine al_off rfl rfl rfl rfl rfl ?_ | refine al_ond rfl rfl rfl rfl rfl rfl (by exact (by exact opd_load1_ref rfl Tryz.isAgg39 rfl rfl rfl rfl rfl)) ?_)
      all_goals (first | refine al_off rfl rfl rfl rfl rfl ?_ | refine al_ond rfl rfl rfl rfl rfl rfl (by exact (by exact opd_len_sl rfl Tryz.underlying39 rfl)) ?_)
      all_goals (first | refine al_off rfl rfl rfl rfl rfl ?_ | refine al_ond rfl rfl rfl rfl rfl rfl (by exact opd_gtr rfl rfl rfl) ?_)
      all_goals (refine al_d rfl rfl rfl (by exact (by first | exact opd_pick_t rfl rfl rfl | exact opd_pick_f rfl rfl rfl)) ?_)
      all_goals (refine al_d rfl rfl rfl (by exact opd_move rfl rfl) ?_)
      all_goals (refine al_split (t := 51) rfl (fun h51 => ?_) (fun h51 => ?_))
      all_goals (try contradiction)
      all_goals (first | refine al_off rfl rfl rfl rfl rfl ?_ | refine al_ond rfl rfl rfl rfl rfl rfl (by exact (by exact opd_field_ref rfl fo44_8 rfl rfl rfl rfl)) ?_)
      all_goals (first | refine al_off rfl rfl rfl rfl rfl ?_ | refine al_ond rfl rfl rfl rfl rfl rfl (by exact (by exact opd_loadn_ref rfl Tryz.isAgg42 Tryz.sizeOf42 rfl rfl rfl rfl (by simp only [List.drop_succ_cons, List.drop_zero, List.take_succ_cons, List.take_zero, List.take_nil, List.map_cons, List.map_nil, List.set_cons_zero, List.set_cons_succ, List.cons_append, List.nil_append, encTag, encObj, encStr, encEdit, zObj]; rfl) rfl)) ?_)
      all_goals (first | refine al_off rfl rfl rfl rfl rfl ?_ | refine al_ond rfl rfl rfl rfl rfl rfl (by exact x_build rfl bo42 rfl rfl) ?_)
      all_goals (first | refine al_off rfl rfl rfl rfl rfl ?_ | refine al_ond rfl rfl rfl rfl rfl rfl (by exact opr_call rfl rfl Tryz.call85 rfl (rSame_c (bare6 e).obj zObj _ h7.2.2.1 h7.2.1.1)) ?_)
      all_goals (first | refine al_off rfl rfl rfl rfl rfl ?_ | refine al_ond rfl rfl rfl rfl rfl rfl (by exact opd_not rfl rfl) ?_)
      all_goals (refine al_d rfl rfl rfl (by exact (by first | exact opd_pick_t rfl rfl rfl | exact opd_pick_f rfl rfl rfl)) ?_)
      all_goals (refine al_nil ?_)
      all_goals (exact ⟨⟨_, rfl, by (simp_all [rb, bare6]; done)⟩, rfl, rfl, rfl⟩)
    refine awp_cond rfl (fun hc2 => ?_) (fun hc2 => ?_)
    -- cond 2
    · rw [hc2, Bool.not_true, Bool.false_and]
      refine awp_seq ?_
      refine awp_region ?_
      refine al_d rfl rfl rfl (by exact opd_assign rfl rfl) ?_
      refine al_nil ?_
      refine awp_ret ?_
      -- return
      refine aret1 (H' := []) (by exact .inr rfl) rfl (rval_tmp rfl) (Fin.wk (by simp) trivial trivial) ?_
      exact ⟨rfl, rfl⟩
    · rw [hc2, Bool.not_false, Bool.true_and]
      refine awp_skip ?_
      refine awp_seq ?_
      refine awp_seq ?_
      refine awp_region ?_
      refine al_d rfl rfl rfl (by exact (by exact opd_field_ref rfl fo44_0 rfl rfl rfl rfl)) ?_
      refine al_d rfl rfl rfl (by exact (by exact opd_load1_ref rfl Tryz.isAgg3 rfl rfl rfl rfl rfl)) ?_
      refine al_d rfl rfl rfl (by exact opd_eql rfl rfl rfl) ?_
      refine al_nil ?_
      refine awp_cond rfl (fun hc3 => ?_) (fun hc3 => ?_)
      -- cond 3
      · skip
        (exfalso; have h := hc3; simp [ho] at h)
      · skip
        refine awp_skip ?_
        refine awp_seq ?_
        refine awp_region ?_
        refine al_d rfl rfl rfl (by exact (by exact opd_field_ref rfl fo44_1 rfl rfl rfl rfl)) ?_
        refine al_d rfl rfl rfl (by exact (by exact opd_load1_ref rfl Tryz.isAgg9 rfl rfl rfl rfl rfl)) ?_
        refine al_d rfl rfl rfl (by exact x_buildSlice_own (id := 66) rfl so39 rfl rfl rfl rfl (by simp) rfl) ?_
        refine al_d rfl rfl rfl (by exact opd_assign rfl rfl) ?_
        refine al_nil ?_
        refine awp_seq ?_
        refine awp_seq ?_
        refine awp_region ?_
        refine al_d rfl rfl rfl (by exact (by exact opd_field_ref rfl fo44_0 rfl rfl rfl rfl)) ?_
        refine al_d rfl rfl rfl (by exact (by exact opd_load1_ref rfl Tryz.isAgg3 rfl rfl rfl rfl rfl)) ?_
        refine al_d rfl rfl rfl (by exact opd_eql rfl rfl rfl) ?_
        refine al_nil ?_
        refine awp_cond rfl (fun hc4 => ?_) (fun hc4 => ?_)
        -- cond 4
        · skip
          (exfalso; have h := hc4; simp [ho] at h)
        · skip
          refine awp_skip ?_
          refine awp_seq ?_
          refine awp_seq ?_
          refine awp_region ?_
          refine al_d rfl rfl rfl (by exact (by exact opd_field_ref rfl fo44_0 rfl rfl rfl rfl)) ?_
          refine al_d rfl rfl rfl (by exact (by exact opd_load1_ref rfl Tryz.isAgg3 rfl rfl rfl rfl rfl)) ?_
          refine al_d rfl rfl rfl (by exact opd_eql rfl rfl rfl) ?_
          refine al_nil ?_
          refine awp_cond rfl (fun hc5 => ?_) (fun hc5 => ?_)
          -- cond 5
          · skip
            (exfalso; have h := hc5; simp [ho] at h)
          · skip
            refine awp_skip ?_
            refine awp_seq ?_
            refine awp_seq ?_
            refine awp_region ?_
            refine al_d rfl rfl rfl (by exact (by exact opd_field_ref rfl fo44_0 rfl rfl rfl rfl)) ?_
            refine al_d rfl rfl rfl (by exact (by exact opd_load1_ref rfl Tryz.isAgg3 rfl rfl rfl rfl rfl)) ?_
            refine al_d rfl rfl rfl (by exact opd_eql rfl rfl rfl) ?_
            refine al_nil ?_
            refine awp_cond rfl (fun hc6 => ?_) (fun hc6 => ?_)
            -- cond 6
            · skip
              refine awp_region ?_
              refine al_d rfl rfl rfl (by exact opd_move rfl rfl) ?_
              refine al_d rfl rfl rfl (by exact (by exact opd_field_ref rfl fo44_3 rfl rfl rfl rfl)) ?_
              refine al_d rfl rfl rfl (by exact (by exact opd_load1_ref rfl Tryz.isAgg9 rfl rfl rfl rfl rfl)) ?_
              refine al_d rfl rfl rfl (by exact x_buildSlice [encStr e.node] rfl so39 rfl rfl rfl rfl rfl (by simp [encStr])) ?_
              refine al_d rfl rfl rfl (by exact (by exact x_append rfl so39 ei9 rfl rfl rfl rfl rfl (rfl : _ = 1) rfl (by simp [encStr]) (rfl : _ = 1) (by omega) (rfl : _ = 2) (rfl : _ = strRows [e.id, e.node]))) ?_
              refine al_d rfl rfl rfl (by exact opd_assign rfl rfl) ?_
              refine al_nil ?_
              refine awp_seq ?_
              refine awp_seq ?_
              refine awp_bool (t := 97) (n := 9) (X := decide (e.op = 6) || decide (e.op = 7)) ?_ ?_
              · all_goals (refine al_d rfl rfl rfl (by exact (by exact opd_field_ref rfl fo44_0 rfl rfl rfl rfl)) ?_)
                all_goals (refine al_d rfl rfl rfl (by exact (by exact opd_load1_ref rfl Tryz.isAgg3 rfl rfl rfl rfl rfl)) ?_)
                all_goals (refine al_d rfl rfl rfl (by exact opd_eql rfl rfl rfl) ?_)
                all_goals (refine al_d rfl rfl rfl (by exact opd_move rfl rfl) ?_)
                all_goals (refine al_split (t := 93) rfl (fun h93 => ?_) (fun h93 => ?_))
                all_goals (try contradiction)
                all_goals (first | refine al_off rfl rfl rfl rfl rfl ?_ | refine al_ond rfl rfl rfl rfl rfl rfl (by exact (by exact opd_field_ref rfl fo44_0 rfl rfl rfl rfl)) ?_)
                all_goals (first | refine al_off rfl rfl rfl rfl rfl ?_ | refine al_ond rfl rfl rfl rfl rfl rfl (by exact (by exact opd_load1_ref rfl Tryz.isAgg3 rfl rfl rfl rfl rfl)) ?_)
                all_goals (first | refine al_off rfl rfl rfl rfl rfl ?_ | refine al_ond rfl rfl rfl rfl rfl rfl (by exact opd_eql rfl rfl rfl) ?_)
                all_goals (refine al_d rfl rfl rfl (by exact (by first | exact opd_pick_t rfl rfl rfl | exact opd_pick_f rfl rfl rfl)) ?_)
                all_goals (refine al_nil ?_)
                all_goals (exact ⟨⟨_, rfl, by first | (simp only [*]; rfl) | (simp_all; done)⟩, rfl, rfl, rfl⟩)
              refine awp_cond rfl (fun hc7 => ?_) (fun hc7 => ?_)
              -- cond 7
              · skip
                refine awp_region ?_
                refine al_d rfl rfl rfl (by exact opd_move rfl rfl) ?_
                refine al_d rfl rfl rfl (by exact (by exact opd_field_ref rfl fo44_2 rfl rfl rfl rfl)) ?_
                refine al_d rfl rfl rfl (by exact (by exact opd_load1_ref rfl Tryz.isAgg9 rfl rfl rfl rfl rfl)) ?_
                refine al_d rfl rfl rfl (by exact x_buildSlice [encStr e.other] rfl so39 rfl rfl rfl rfl rfl (by simp [encStr])) ?_
                refine al_d rfl rfl rfl (by exact (by exact x_append rfl so39 ei9 rfl rfl rfl rfl rfl (rfl : _ = 2) rfl (by simp [encStr]) (rfl : _ = 1) (by omega) (rfl : _ = 3) (rfl : _ = strRows [e.id, e.node, e.other]))) ?_
                refine al_d rfl rfl rfl (by exact opd_assign rfl rfl) ?_
                refine al_nil ?_
                refine awp_seq ?_
                refine awp_seq ?_
                refine awp_region ?_
                refine al_d rfl rfl rfl (by exact opd_assign rfl rfl) ?_
                refine al_nil ?_
                refine awp_block ?_
                -- loop
                have hnl : ([e.id, e.node, e.other].map encStr).length = [e.id, e.node, e.other].length := List.length_map _
                have hnm : ∀ s ∈ [e.id, e.node, e.other], s.size < 4611686018427387904 := by
                  intro s hs
                  simp only [List.mem_cons, List.not_mem_nil, or_false] at hs
                  rcases hs with rfl | rfl | rfl <;> assumption
                have hnn : [e.id, e.node, e.other].length < 4611686018427387904 + 2 := by
                  simp only [List.length_cons, List.length_nil]; omega
                refine AWp.ent (Ent.fz (id := 66) (E' := [(1, .ref 1 0 0 0), (4, .pv (slStrs [e.id, e.node, e.other])), (5, iv 0)]) (H' := [(1, bEd e)]) ([e.id, e.node, e.other].map encStr) rfl (rows_of encStr [e.id, e.node, e.other])
                  (by intro p hp; simp only [List.mem_cons, List.not_mem_nil, or_false] at hp; rcases hp with rfl | rfl | rfl; exact ⟨_, rfl, .same (.ref rfl)⟩; exact ⟨_, rfl, .osl (by rfl)⟩; exact ⟨_, rfl, .same (by simp)⟩) rfl ⟨⟨_, rfl, rfl⟩, (by (simp; done)), trivial⟩ trivial) ?_
                refine awp_loop (σ := Nat) (fun q => ([(1, .ref 1 0 0 0), (4, .pv (slStrs [e.id, e.node, e.other])), (5, iv (q : Int))], [(1, bEd e)])) (fun q => q ≤ [e.id, e.node, e.other].length ∧ ∀ j, j < q → ∀ b, [e.id, e.node, e.other][j]? = some b → (!gName b) = false) (fun q => [e.id, e.node, e.other].length - q) 0 ⟨by omega, by omega⟩ ?_ ?_
                · exact (Ent.wk ⟨⟨_, rfl, rfl⟩, (by (simp; rfl)), ⟨_, rfl, rfl⟩, (by (simp; done)), ⟨_, rfl, rfl⟩, (by (simp; done)), trivial⟩ ⟨⟨_, rfl, rfl⟩, (by (simp; done)), trivial⟩ trivial)
                · rintro q ⟨hq, hno⟩
                  refine awp_seq ?_
                  refine awp_seq ?_
                  refine awp_region ?_
                  refine al_d rfl rfl rfl (by exact opd_move rfl rfl) ?_
                  refine al_d rfl rfl rfl (by exact opd_move rfl rfl) ?_
                  refine al_d rfl rfl rfl (by exact (by exact opd_len_sl rfl Tryz.underlying39 rfl)) ?_
                  refine al_d rfl rfl rfl (by exact opd_lss rfl rfl rfl) ?_
                  refine al_nil ?_
                  refine awp_cond rfl (fun hc8 => ?_) (fun hc8 => ?_)
                  -- cond 8
                  · have hlt : q < [e.id, e.node, e.other].length := by have := of_decide_eq_true hc8; omega
                    obtain ⟨s, hs⟩ := get_of_lt hlt
                    have hi := map_get (f := encStr) hs
                    refine awp_skip ?_
                    refine awp_seq ?_
                    refine awp_block ?_
                    refine awp_seq ?_
                    refine awp_region ?_
                    refine al_d rfl rfl rfl (by exact opd_move rfl rfl) ?_
                    refine al_d rfl rfl rfl (by exact opd_move rfl rfl) ?_
                    refine al_d rfl rfl rfl (by exact (by exact x_index_pad rfl so39 rfl rfl (by omega) (by exact Int.toNat_natCast _) (by assumption) rfl)) ?_
                    refine al_d rfl rfl rfl (by exact (by exact opd_load1_pad rfl Tryz.isAgg9 rfl (by omega) rfl)) ?_
                    refine al_d rfl rfl rfl (by exact opr_call rfl rfl Tryz.call103 rfl (rName_c s _ (hnm s (List.mem_of_getElem? hs)))) ?_
                    refine al_d rfl rfl rfl (by exact opd_not rfl rfl) ?_
                    refine al_nil ?_
                    refine awp_cond rfl (fun hc9 => ?_) (fun hc9 => ?_)
                    -- cond 9
                    · have hall : [e.id, e.node, e.other].all gName = false := by
                        rw [List.all_eq_false]
                        exact ⟨s, List.mem_of_getElem? hs, by simpa using hc9⟩
                      rw [hall]
                      refine awp_seq ?_
                      refine awp_region ?_
                      refine al_d rfl rfl rfl (by exact opd_assign rfl rfl) ?_
                      refine al_nil ?_
                      refine awp_ret ?_
                      -- return
                      refine aret1 (H' := []) (by exact .inr rfl) rfl (rval_tmp rfl) (Fin.wk (by simp) trivial trivial) ?_
                      exact ⟨rfl, rfl⟩
                    · skip
                      refine awp_skip ?_
                      refine awp_region ?_
                      refine al_d rfl rfl rfl (by exact opd_move rfl rfl) ?_
                      refine al_d rfl rfl rfl (by exact opd_add rfl rfl rfl (by exact w64 (by omega) (by omega))) ?_
                      refine al_d rfl rfl rfl (by exact opd_assign rfl rfl) ?_
                      refine al_nil ?_
                      -- end of a round
                      exact ⟨q + 1, ⟨by omega, pre_succ hno hs hc9⟩, by omega, (Ent.wk ⟨⟨_, rfl, rfl⟩, (by (simp; rfl)), ⟨_, rfl, rfl⟩, (by (simp; done)), ⟨_, rfl, rfl⟩, (by (simp; done)), trivial⟩ ⟨⟨_, rfl, rfl⟩, (by (simp; done)), trivial⟩ trivial)⟩
                  · have hge : q = [e.id, e.node, e.other].length := by have := of_decide_eq_false hc8; omega
                    subst hge
                    have hall : [e.id, e.node, e.other].all gName = true := by
                      rw [List.all_eq_true]
                      intro s hs
                      obtain ⟨j, hj⟩ := List.mem_iff_getElem?.1 hs
                      have := hno j (List.getElem?_eq_some_iff.1 hj).1 s hj
                      simpa using this
                    rw [hall, Bool.true_and]
                    have d4 : decide (e.op = 4) = false := by rw [ho]; decide
                    refine awp_exit ?_
                    refine awp_seq ?_
                    refine awp_seq ?_
                    refine awp_region ?_
                    refine al_d rfl rfl rfl (by exact (by exact opd_field_ref rfl fo44_0 rfl rfl rfl rfl)) ?_
                    refine al_d rfl rfl rfl (by exact (by exact opd_load1_ref rfl Tryz.isAgg3 rfl rfl rfl rfl rfl)) ?_
                    refine al_d rfl rfl rfl (by exact opd_eql rfl rfl rfl) ?_
                    refine al_d rfl rfl rfl (by exact opd_move rfl rfl) ?_
                    refine al_off rfl rfl rfl (by assumption) rfl ?_
                    refine al_off rfl rfl rfl (by assumption) rfl ?_
                    refine al_off rfl rfl rfl (by assumption) rfl ?_
                    refine al_off rfl rfl rfl (by assumption) rfl ?_
                    refine al_off rfl rfl rfl (by assumption) rfl ?_
                    refine al_offu rfl rfl rfl rfl ?_
                    refine al_offu rfl rfl rfl rfl ?_
                    refine al_offu rfl rfl rfl rfl ?_
                    refine al_offu rfl rfl rfl rfl ?_
                    refine al_off rfl rfl rfl (by assumption) rfl ?_
                    refine al_d rfl rfl rfl (by exact (by exact opd_pickf rfl rfl (by assumption) rfl)) ?_
                    refine al_nil ?_
                    refine awp_cond rfl (fun hc10 => ?_) (fun hc10 => ?_)
                    -- cond 10
                    · skip
                      (cases hc10)
                    · skip
                      refine awp_skip ?_
                      refine awp_seq ?_
                      refine awp_bool (t := 2) (n := 17) (X := decide ((e.val.size : Int) ≤ 200)) ?_ ?_
                      · all_goals (refine al_d rfl rfl rfl (by exact (by exact opd_field_ref rfl fo44_6 rfl rfl rfl rfl)) ?_)
                        all_goals (refine al_d rfl rfl rfl (by exact (by exact opd_load1_ref rfl Tryz.isAgg9 rfl rfl rfl rfl rfl)) ?_)
                        all_goals (refine al_d rfl rfl rfl (by exact opd_len_str rfl Tryz.underlying9 rfl) ?_)
                        all_goals (refine al_d rfl rfl rfl (by exact opd_leq rfl rfl rfl) ?_)
                        all_goals (refine al_d rfl rfl rfl (by exact opd_move rfl rfl) ?_)
                        all_goals (refine al_split (t := 134) rfl (fun h134 => ?_) (fun h134 => ?_))
                        all_goals (try contradiction)
                        all_goals (first | refine al_off rfl rfl rfl rfl rfl ?_ | refine al_ond rfl rfl rfl rfl rfl rfl (by exact (by exact opd_field_ref rfl fo44_0 rfl rfl rfl rfl)) ?_)
                        all_goals (first | refine al_off rfl rfl rfl rfl rfl ?_ | refine al_ond rfl rfl rfl rfl rfl rfl (by exact (by exact opd_load1_ref rfl Tryz.isAgg3 rfl rfl rfl rfl rfl)) ?_)
                        all_goals (first | refine al_off rfl rfl rfl rfl rfl ?_ | refine al_ond rfl rfl rfl rfl rfl rfl (by exact opd_neq rfl rfl rfl) ?_)
                        all_goals (first | refine al_off rfl rfl rfl rfl rfl ?_ | refine al_ond rfl rfl rfl rfl rfl rfl (by exact opd_move rfl rfl) ?_)
                        all_goals (first | refine al_split (t := 138) rfl (fun h138 => ?_) (fun h138 => ?_) | refine al_dup (t := 138) rfl ?_)
                        all_goals (try contradiction)
                        all_goals (first | refine al_off rfl rfl rfl rfl rfl ?_ | refine al_offu rfl rfl rfl rfl ?_ | refine al_ond rfl rfl rfl rfl rfl rfl (by exact (by exact opd_field_ref rfl fo44_4 rfl rfl rfl rfl)) ?_)
                        all_goals (first | refine al_off rfl rfl rfl rfl rfl ?_ | refine al_offu rfl rfl rfl rfl ?_ | refine al_ond rfl rfl rfl rfl rfl rfl (by exact (by exact opd_loadn_ref rfl Tryz.isAgg38 Tryz.sizeOf38 rfl rfl rfl rfl (by simp only [List.drop_succ_cons, List.drop_zero, List.take_succ_cons, List.take_zero, List.take_nil, List.map_cons, List.map_nil, List.set_cons_zero, List.set_cons_succ, List.cons_append, List.nil_append, encTag, encObj, encStr, encEdit, zObj]; rfl) rfl)) ?_)
                        all_goals (first | refine al_off rfl rfl rfl rfl rfl ?_ | refine al_offu rfl rfl rfl rfl ?_ | refine al_ond rfl rfl rfl rfl rfl rfl (by exact opr_call rfl rfl Tryz.call104 rfl (rOn_c e.x e.y _)) ?_)
                        all_goals (first | refine al_off rfl rfl rfl rfl rfl ?_ | refine al_ond rfl rfl rfl rfl rfl rfl (by exact (by first | exact opd_pick_t rfl rfl rfl | exact opd_pick_f rfl rfl rfl)) ?_)
                        all_goals (refine al_d rfl rfl rfl (by exact (by first | exact opd_pick_t rfl rfl rfl | exact opd_pick_f rfl rfl rfl)) ?_)
                        all_goals (refine al_d rfl rfl rfl (by exact opd_assign rfl rfl) ?_)
                        all_goals (refine al_nil ?_)
                        all_goals (exact ⟨⟨_, rfl, by (simp_all; done)⟩, rfl, rfl, rfl⟩)
                      refine awp_ret ?_
                      -- return
                      refine aret1 (H' := []) (by exact .inr rfl) rfl (rval_tmp rfl) (Fin.wk (by simp) trivial trivial) ?_
                      exact ⟨rfl, rfl⟩
              · skip
                (exfalso; have h := hc7; simp [ho] at h)
            · skip
              (exfalso; have h := hc6; simp [ho] at h)
theorem rValid7_c (e : GEdit) (H : Heap) (he : okE e) (ho : e.op = 7) : ACalls Tryz.prog 47 [av (encEdit e)] H (fun r H' => r = bv (gEditV e) ∧ H' = H) := by
  refine ACalls.pure ?_ (by simp) H
  rw [ed7 e ho]
  obtain ⟨⟨h1, h2, h3, h4⟩, ⟨h5, h6⟩, h7⟩ := he
  have hrl : (e.refs.map encStr).length = e.refs.length := List.length_map _
  refine ACalls.body Tryz.func47 rfl Tryz.ntmps47 (Nat.le_of_ble_eq_true rfl) ?_
  refine awp_seq ?_
  refine awp_region ?_
  refine al_d rfl rfl rfl (by exact opd_box (id := 1) rfl rfl rfl rfl rfl) ?_
  refine al_d rfl rfl rfl (by exact opd_assign rfl rfl) ?_
  refine al_nil ?_
  refine awp_seq ?_
  refine awp_seq ?_
  refine awp_bool (t := 13) (n := 9) (X := decide (e.op < 1) || decide (7 < e.op)) ?_ ?_
  · all_goals (refine al_d rfl rfl rfl (by exact (by exact opd_field_ref rfl fo44_0 rfl rfl rfl rfl)) ?_)
    all_goals (refine al_d rfl rfl rfl (by exact (by exact opd_load1_ref rfl Tryz.isAgg3 rfl rfl rfl rfl rfl)) ?_)
    all_goals (refine al_d rfl rfl rfl (by exact opd_lss rfl rfl rfl) ?_)
    all_goals (refine al_d rfl rfl rfl (by exact opd_move rfl rfl) ?_)
    all_goals (refine al_split (t := 9) rfl (fun h9 => ?_) (fun h9 => ?_))
    all_goals (try contradiction)
    all_goals (first | refine al_off rfl rfl rfl rfl rfl ?_ | refine al_ond rfl rfl rfl rfl rfl rfl (by exact (by exact opd_field_ref rfl fo44_0 rfl rfl rfl rfl)) ?_)
    all_goals (first | refine al_off rfl rfl rfl rfl rfl ?_ | refine al_ond rfl rfl rfl rfl rfl rfl (by exact (by exact opd_load1_ref rfl Tryz.isAgg3 rfl rfl rfl rfl rfl)) ?_)
    all_goals (first | refine al_off rfl rfl rfl rfl rfl ?_ | refine al_ond rfl rfl rfl rfl rfl rfl (by exact opd_gtr rfl rfl rfl) ?_)
    all_goals (refine al_d rfl rfl rfl (by exact (by first | exact opd_pick_t rfl rfl rfl | exact opd_pick_f rfl rfl rfl)) ?_)
    all_goals (refine al_nil ?_)
    all_goals (exact ⟨⟨_, rfl, by first | (simp only [rb, bare7, *]; rfl) | (simp_all [rb, bare7]; done)⟩, rfl, rfl, rfl⟩)
  refine awp_cond rfl (fun hc1 => ?_) (fun hc1 => ?_)
  -- cond 1
  · skip
    (exfalso; have h := hc1; simp [ho] at h)
  · skip
    refine awp_skip ?_
    refine awp_seq ?_
    refine awp_region ?_
    refine al_d rfl rfl rfl (by exact (by exact opd_loadn_ref rfl Tryz.isAgg44 Tryz.sizeOf44 rfl rfl rfl rfl (by simp only [List.drop_succ_cons, List.drop_zero, List.take_succ_cons, List.take_zero, List.take_nil, List.map_cons, List.map_nil, List.set_cons_zero, List.set_cons_succ, List.cons_append, List.nil_append, encTag, encObj, encStr, encEdit, zObj]; rfl) rfl)) ?_
    refine al_d rfl rfl rfl (by exact opr_call rfl rfl Tryz.call101 rfl (bare7_c e _ ho)) ?_
    refine al_d rfl rfl rfl (by exact x_alloc (id := 3) rfl zo44 rfl rfl) ?_
    refine al_n rfl rfl (by exact (by exact x_store_all rfl Tryz.sizeOf44 rfl rfl rfl rfl rfl rfl rfl rfl)) ?_
    refine al_nil ?_
    refine awp_seq ?_
    refine awp_seq ?_
    refine awp_bool (t := 57) (n := 49) (X := rb (bare7 e)) ?_ ?_
    · all_goals (refine al_d rfl rfl rfl (by exact (by exact opd_field_ref rfl fo44_1 rfl rfl rfl rfl)) ?_)
      all_goals (refine al_d rfl rfl rfl (by exact (by exact opd_load1_ref rfl Tryz.isAgg9 rfl rfl rfl rfl rfl)) ?_)
      all_goals (refine al_d rfl rfl rfl (by exact opd_sneq rfl rfl rfl) ?_)
      all_goals (refine al_d rfl rfl rfl (by exact opd_move rfl rfl) ?_)
      all_goals (refine al_split (t := 19) rfl (fun h19 => ?_) (fun h19 => ?_))
      all_goals (try contradiction)
      all_goals (refine al_ond rfl rfl rfl rfl rfl rfl (by exact (by exact opd_field_ref rfl fo44_2 rfl rfl rfl rfl)) ?_)
      all_goals (refine al_ond rfl rfl rfl rfl rfl rfl (by exact (by exact opd_load1_ref rfl Tryz.isAgg9 rfl rfl rfl rfl rfl)) ?_)
      all_goals (refine al_ond rfl rfl rfl rfl rfl rfl (by exact opd_sneq rfl rfl rfl) ?_)
      all_goals (refine al_d rfl rfl rfl (by exact (by exact opd_pick_f rfl rfl rfl)) ?_)
      all_goals (refine al_d rfl rfl rfl (by exact opd_move rfl rfl) ?_)
      all_goals (refine al_split (t := 24) rfl (fun h24 => ?_) (fun h24 => ?_))
      all_goals (try contradiction)
      all_goals (refine al_ond rfl rfl rfl rfl rfl rfl (by exact (by exact opd_field_ref rfl fo44_3 rfl rfl rfl rfl)) ?_)
      all_goals (refine al_ond rfl rfl rfl rfl rfl rfl (by exact (by exact opd_load1_ref rfl Tryz.isAgg9 rfl rfl rfl rfl rfl)) ?_)
      all_goals (refine al_ond rfl rfl rfl rfl rfl rfl (by exact opd_sneq rfl rfl rfl) ?_)
      all_goals (refine al_d rfl rfl rfl (by exact (by exact opd_pick_f rfl rfl rfl)) ?_)
      all_goals (refine al_d rfl rfl rfl (by exact opd_move rfl rfl) ?_)
      all_goals (refine al_split (t := 29) rfl (fun h29 => ?_) (fun h29 => ?_))
      all_goals (try contradiction)
      all_goals (first | refine al_off rfl rfl rfl rfl rfl ?_ | refine al_ond rfl rfl rfl rfl rfl rfl (by exact (by exact opd_field_ref rfl fo44_4 rfl rfl rfl rfl)) ?_)
      all_goals (first | refine al_off rfl rfl rfl rfl rfl ?_ | refine al_ond rfl rfl rfl rfl rfl rfl (by exact (by exact opd_loadn_ref rfl Tryz.isAgg38 Tryz.sizeOf38 rfl rfl rfl rfl (by simp only [List.drop_succ_cons, List.drop_zero, List.take_succ_cons, List.take_zero, List.take_nil, List.map_cons, List.map_nil, List.set_cons_zero, List.set_cons_succ, List.cons_append, List.nil_append, encTag, encObj, encStr, encEdit, zObj]; rfl) rfl)) ?_)
      all_goals (first | refine al_off rfl rfl rfl rfl rfl ?_ | refine al_ond rfl rfl rfl rfl rfl rfl (by exact x_build rfl bo38 rfl rfl) ?_)
      all_goals (first | refine al_off rfl rfl rfl rfl rfl ?_ | refine al_ond rfl rfl rfl rfl rfl rfl (by exact opd_aneq rfl rfl rfl rfl rfl Tryz.eqGuardType38 (se38 _ _ _ _)) ?_)
      all_goals (refine al_d rfl rfl rfl (by exact (by first | exact opd_pick_t rfl rfl rfl | exact opd_pick_f rfl rfl rfl)) ?_)
      all_goals (refine al_d rfl rfl rfl (by exact opd_move rfl rfl) ?_)
      all_goals (refine al_split (t := 35) rfl (fun h35 => ?_) (fun h35 => ?_))
      all_goals (try contradiction)
      all_goals (first | refine al_off rfl rfl rfl rfl rfl ?_ | refine al_ond rfl rfl rfl rfl rfl rfl (by exact (by exact opd_field_ref rfl fo44_5 rfl rfl rfl rfl)) ?_)
      all_goals (first | refine al_off rfl rfl rfl rfl rfl ?_ | refine al_ond rfl rfl rfl rfl rfl rfl (by exact (by exact opd_load1_ref rfl Tryz.isAgg9 rfl rfl rfl rfl rfl)) ?_)
      all_goals (first | refine al_off rfl rfl rfl rfl rfl ?_ | refine al_ond rfl rfl rfl rfl rfl rfl (by exact opd_sneq rfl rfl rfl) ?_)
      all_goals (refine al_d rfl rfl rfl (by exact (by first | exact opd_pick_t rfl rfl rfl | exact opd_pick_f rfl rfl rfl)) ?_)
      all_goals (refine al_d rfl rfl rfl (by exact opd_move rfl rfl) ?_)
      all_goals (refine al_split (t := 40) rfl (fun h40 => ?_) (fun h40 => ?_))
      all_goals (try contradiction)
      all_goals (first | refine al_off rfl rfl rfl rfl rfl ?_ | refine al_ond rfl rfl rfl rfl rfl rfl (by exact (by exact opd_field_ref rfl fo44_6 rfl rfl rfl rfl)) ?_)
      all_goals (first | refine al_off rfl rfl rfl rfl rfl ?_ | refine al_ond rfl rfl rfl rfl rfl rfl (by exact (by exact opd_load1_ref rfl Tryz.isAgg9 rfl rfl rfl rfl rfl)) ?_)
      all_goals (first | refine al_off rfl rfl rfl rfl rfl ?_ | refine al_ond rfl rfl rfl rfl rfl rfl (by exact opd_sneq rfl rfl rfl) ?_)
      all_goals (refine al_d rfl rfl rfl (by exact (by first | exact opd_pick_t rfl rfl rfl | exact opd_pick_f rfl rfl rfl)) ?_)
      all_goals (refine al_d rfl rfl rfl (by exact opd_move rfl rfl) ?_)
      all_goals (refine al_split (t := 45) rfl (fun h45 => ?_) (fun h45 => ?_))
      all_goals (try contradiction)
      all_goals (first | refine al_off rfl rfl rfl rfl rfl ?_ | refine al_ond rfl rfl rfl rfl rfl rfl (by exact (by exact opd_field_ref rfl fo44_7 rfl rfl rfl rfl)) ?_)
      all_goals (first | refine al_off rfl rfl rfl rfl rfl ?_ | refine al_ond rfl rfl rfl rfl rfl rfl (by exact (by exact opd_load1_ref rfl Tryz.isAgg39 rfl rfl rfl rfl rfl)) ?_)
      all_goals (first | refine al_off rfl rfl rfl rfl rfl ?_ | refine al_ond rfl rfl rfl rfl rfl rfl (by exact (by exact opd_len_sl rfl Tryz.underlying39 rfl)) ?_)
      all_goals (first | refine al_off rfl rfl rfl rfl rfl ?_ | refine al_ond rfl rfl rfl rfl rfl rfl (by exact opd_gtr rfl rfl rfl) ?_)
      all_goals (refine al_d rfl rfl rfl (by exact (by first | exact opd_pick_t rfl rfl rfl | exact opd_pick_f rfl rfl rfl)) ?_)
      all_goals (refine al_d rfl rfl rfl (by exact opd_move rfl rfl) ?_)
      all_goals (refine al_split (t := 51) rfl (fun h51 => ?_) (fun h51 => ?_))
      all_goals (try contradiction)
      all_goals (first | refine al_off rfl rfl rfl rfl rfl ?_ | refine al_ond rfl rfl rfl rfl rfl rfl (by exact (by exact opd_field_ref rfl fo44_8 rfl rfl rfl rfl)) ?_)
      all_goals (first | refine al_off rfl rfl rfl rfl rfl ?_ | refine al_ond rfl rfl rfl rfl rfl rfl (by exact (by exact opd_loadn_ref rfl Tryz.isAgg42 Tryz.sizeOf42 rfl rfl rfl rfl (by simp only [List.drop_succ_cons, List.drop_zero, List.take_succ_cons, List.take_zero, List.take_nil, List.map_cons, List.map_nil, List.set_cons_zero, List.set_cons_succ, List.cons_append, List.nil_append, encTag, encObj, encStr, encEdit, zObj]; rfl) rfl)) ?_)
      all_goals (first | refine al_off rfl rfl rfl rfl rfl ?_ | refine al_ond rfl rfl rfl rfl rfl rfl (by exact x_build rfl bo42 rfl rfl) ?_)
      all_goals (first | refine al_off rfl rfl rfl rfl rfl ?_ | refine al_ond rfl rfl rfl rfl rfl rfl (by exact opr_call rfl rfl Tryz.call85 rfl (rSame_c (bare7 e).obj zObj _ h7.2.2.1 h7.2.1.1)) ?_)
      all_goals (first | refine al_off rfl rfl rfl rfl rfl ?_ | refine al_ond rfl rfl rfl rfl rfl rfl (by exact opd_not rfl rfl) ?_)
      all_goals (refine al_d rfl rfl rfl (by exact (by first | exact opd_pick_t rfl rfl rfl | exact opd_pick_f rfl rfl rfl)) ?_)
      all_goals (refine al_nil ?_)
      all_goals (exact ⟨⟨_, rfl, by (simp_all [rb, bare7]; done)⟩, rfl, rfl, rfl⟩)
    refine awp_cond rfl (fun hc2 => ?_) (fun hc2 => ?_)
    -- cond 2
    · rw [hc2, Bool.not_true, Bool.false_and]
      refine awp_seq ?_
      refine awp_region ?_
      refine al_d rfl rfl rfl (by exact opd_assign rfl rfl) ?_
      refine al_nil ?_
      refine awp_ret ?_
      -- return
      refine aret1 (H' := []) (by exact .inr rfl) rfl (rval_tmp rfl) (Fin.wk (by simp) trivial trivial) ?_
      exact ⟨rfl, rfl⟩
    · rw [hc2, Bool.not_false, Bool.true_and]
      refine awp_skip ?_
      refine awp_seq ?_
      refine awp_seq ?_
      refine awp_region ?_
      refine al_d rfl rfl rfl (by exact (by exact opd_field_ref rfl fo44_0 rfl rfl rfl rfl)) ?_
      refine al_d rfl rfl rfl (by exact (by exact opd_load1_ref rfl Tryz.isAgg3 rfl rfl rfl rfl rfl)) ?_
      refine al_d rfl rfl rfl (by exact opd_eql rfl rfl rfl) ?_
      refine al_nil ?_
      refine awp_cond rfl (fun hc3 => ?_) (fun hc3 => ?_)
      -- cond 3
      · skip
        (exfalso; have h := hc3; simp [ho] at h)
      · skip
        refine awp_skip ?_
        refine awp_seq ?_
        refine awp_region ?_
        refine al_d rfl rfl rfl (by exact (by exact opd_field_ref rfl fo44_1 rfl rfl rfl rfl)) ?_
        refine al_d rfl rfl rfl (by exact (by exact opd_load1_ref rfl Tryz.isAgg9 rfl rfl rfl rfl rfl)) ?_
        refine al_d rfl rfl rfl (by exact x_buildSlice_own (id := 66) rfl so39 rfl rfl rfl rfl (by simp) rfl) ?_
        refine al_d rfl rfl rfl (by exact opd_assign rfl rfl) ?_
        refine al_nil ?_
        refine awp_seq ?_
        refine awp_seq ?_
        refine awp_region ?_
        refine al_d rfl rfl rfl (by exact (by exact opd_field_ref rfl fo44_0 rfl rfl rfl rfl)) ?_
        refine al_d rfl rfl rfl (by exact (by exact opd_load1_ref rfl Tryz.isAgg3 rfl rfl rfl rfl rfl)) ?_
        refine al_d rfl rfl rfl (by exact opd_eql rfl rfl rfl) ?_
        refine al_nil ?_
        refine awp_cond rfl (fun hc4 => ?_) (fun hc4 => ?_)
        -- cond 4
        · skip
          (exfalso; have h := hc4; simp [ho] at h)
        · skip
          refine awp_skip ?_
          refine awp_seq ?_
          refine awp_seq ?_
          refine awp_region ?_
          refine al_d rfl rfl rfl (by exact (by exact opd_field_ref rfl fo44_0 rfl rfl rfl rfl)) ?_
          refine al_d rfl rfl rfl (by exact (by exact opd_load1_ref rfl Tryz.isAgg3 rfl rfl rfl rfl rfl)) ?_
          refine al_d rfl rfl rfl (by exact opd_eql rfl rfl rfl) ?_
          refine al_nil ?_
          refine awp_cond rfl (fun hc5 => ?_) (fun hc5 => ?_)
          -- cond 5
          · skip
            (exfalso; have h := hc5; simp [ho] at h)
          · skip
            refine awp_skip ?_
            refine awp_seq ?_
            refine awp_seq ?_
            refine awp_region ?_
            refine al_d rfl rfl rfl (by exact (by exact opd_field_ref rfl fo44_0 rfl rfl rfl rfl)) ?_
            refine al_d rfl rfl rfl (by exact (by exact opd_load1_ref rfl Tryz.isAgg3 rfl rfl rfl rfl rfl)) ?_
            refine al_d rfl rfl rfl (by exact opd_eql rfl rfl rfl) ?_
            refine al_nil ?_
            refine awp_cond rfl (fun hc6 => ?_) (fun hc6 => ?_)
            -- cond 6
            · skip
              (exfalso; have h := hc6; simp [ho] at h)
            · skip
              refine awp_skip ?_
              refine awp_seq ?_
              refine awp_seq ?_
              refine awp_bool (t := 97) (n := 9) (X := decide (e.op = 6) || decide (e.op = 7)) ?_ ?_
              · all_goals (refine al_d rfl rfl rfl (by exact (by exact opd_field_ref rfl fo44_0 rfl rfl rfl rfl)) ?_)
                all_goals (refine al_d rfl rfl rfl (by exact (by exact opd_load1_ref rfl Tryz.isAgg3 rfl rfl rfl rfl rfl)) ?_)
                all_goals (refine al_d rfl rfl rfl (by exact opd_eql rfl rfl rfl) ?_)
                all_goals (refine al_d rfl rfl rfl (by exact opd_move rfl rfl) ?_)
                all_goals (refine al_split (t := 93) rfl (fun h93 => ?_) (fun h93 => ?_))
                all_goals (try contradiction)
                all_goals (first | refine al_off rfl rfl rfl rfl rfl ?_ | refine al_ond rfl rfl rfl rfl rfl rfl (by exact (by exact opd_field_ref rfl fo44_0 rfl rfl rfl rfl)) ?_)
                all_goals (first | refine al_off rfl rfl rfl rfl rfl ?_ | refine al_ond rfl rfl rfl rfl rfl rfl (by exact (by exact opd_load1_ref rfl Tryz.isAgg3 rfl rfl rfl rfl rfl)) ?_)
                all_goals (first | refine al_off rfl rfl rfl rfl rfl ?_ | refine al_ond rfl rfl rfl rfl rfl rfl (by exact opd_eql rfl rfl rfl) ?_)
                all_goals (refine al_d rfl rfl rfl (by exact (by first | exact opd_pick_t rfl rfl rfl | exact opd_pick_f rfl rfl rfl)) ?_)
                all_goals (refine al_nil ?_)
                all_goals (exact ⟨⟨_, rfl, by (simp only [*]; rfl)⟩, rfl, rfl, rfl⟩)
              refine awp_cond rfl (fun hc7 => ?_) (fun hc7 => ?_)
              -- cond 7
              · skip
                refine awp_region ?_
                refine al_d rfl rfl rfl (by exact opd_move rfl rfl) ?_
                refine al_d rfl rfl rfl (by exact (by exact opd_field_ref rfl fo44_2 rfl rfl rfl rfl)) ?_
                refine al_d rfl rfl rfl (by exact (by exact opd_load1_ref rfl Tryz.isAgg9 rfl rfl rfl rfl rfl)) ?_
                refine al_d rfl rfl rfl (by exact x_buildSlice [encStr e.other] rfl so39 rfl rfl rfl rfl rfl (by simp [encStr])) ?_
                refine al_d rfl rfl rfl (by exact (by exact x_append rfl so39 ei9 rfl rfl rfl rfl rfl (rfl : _ = 1) rfl (by simp [encStr]) (rfl : _ = 1) (by omega) (rfl : _ = 2) (rfl : _ = strRows [e.id, e.other]))) ?_
                refine al_d rfl rfl rfl (by exact opd_assign rfl rfl) ?_
                refine al_nil ?_
                refine awp_seq ?_
                refine awp_seq ?_
                refine awp_region ?_
                refine al_d rfl rfl rfl (by exact opd_assign rfl rfl) ?_
                refine al_nil ?_
                refine awp_block ?_
                -- loop
                have hnl : ([e.id, e.other].map encStr).length = [e.id, e.other].length := List.length_map _
                have hnm : ∀ s ∈ [e.id, e.other], s.size < 4611686018427387904 := by
                  intro s hs
                  simp only [List.mem_cons, List.not_mem_nil, or_false] at hs
                  rcases hs with rfl | rfl <;> assumption
                have hnn : [e.id, e.other].length < 4611686018427387904 + 2 := by
                  simp only [List.length_cons, List.length_nil]; omega
                refine AWp.ent (Ent.fz (id := 66) (E' := [(1, .ref 1 0 0 0), (4, .pv (slStrs [e.id, e.other])), (5, iv 0)]) (H' := [(1, bEd e)]) ([e.id, e.other].map encStr) rfl (rows_of encStr [e.id, e.other])
                  (by intro p hp; simp only [List.mem_cons, List.not_mem_nil, or_false] at hp; rcases hp with rfl | rfl | rfl; exact ⟨_, rfl, .same (.ref rfl)⟩; exact ⟨_, rfl, .osl (by rfl)⟩; exact ⟨_, rfl, .same (by simp)⟩) rfl ⟨⟨_, rfl, rfl⟩, (by (simp; done)), trivial⟩ trivial) ?_
                refine awp_loop (σ := Nat) (fun q => ([(1, .ref 1 0 0 0), (4, .pv (slStrs [e.id, e.other])), (5, iv (q : Int))], [(1, bEd e)])) (fun q => q ≤ [e.id, e.other].length ∧ ∀ j, j < q → ∀ b, [e.id, e.other][j]? = some b → (!gName b) = false) (fun q => [e.id, e.other].length - q) 0 ⟨by omega, by omega⟩ ?_ ?_
                · exact (Ent.wk ⟨⟨_, rfl, rfl⟩, (by (simp; rfl)), ⟨_, rfl, rfl⟩, (by (simp; done)), ⟨_, rfl, rfl⟩, (by (simp; done)), trivial⟩ ⟨⟨_, rfl, rfl⟩, (by (simp; done)), trivial⟩ trivial)
                · rintro q ⟨hq, hno⟩
                  refine awp_seq ?_
                  refine awp_seq ?_
                  refine awp_region ?_
                  refine al_d rfl rfl rfl (by exact opd_move rfl rfl) ?_
                  refine al_d rfl rfl rfl (by exact opd_move rfl rfl) ?_
                  refine al_d rfl rfl rfl (by exact (by exact opd_len_sl rfl Tryz.underlying39 rfl)) ?_
                  refine al_d rfl rfl rfl (by exact opd_lss rfl rfl rfl) ?_
                  refine al_nil ?_
                  refine awp_cond rfl (fun hc8 => ?_) (fun hc8 => ?_)
                  -- cond 8
                  · have hlt : q < [e.id, e.other].length := by have := of_decide_eq_true hc8; omega
                    obtain ⟨s, hs⟩ := get_of_lt hlt
                    have hi := map_get (f := encStr) hs
                    refine awp_skip ?_
                    refine awp_seq ?_
                    refine awp_block ?_
                    refine awp_seq ?_
                    refine awp_region ?_
                    refine al_d rfl rfl rfl (by exact opd_move rfl rfl) ?_
                    refine al_d rfl rfl rfl (by exact opd_move rfl rfl) ?_
                    refine al_d rfl rfl rfl (by exact (by exact x_index_pad rfl so39 rfl rfl (by omega) (by exact Int.toNat_natCast _) (by assumption) rfl)) ?_
                    refine al_d rfl rfl rfl (by exact (by exact opd_load1_pad rfl Tryz.isAgg9 rfl (by omega) rfl)) ?_
                    refine al_d rfl rfl rfl (by exact opr_call rfl rfl Tryz.call103 rfl (rName_c s _ (hnm s (List.mem_of_getElem? hs)))) ?_
                    refine al_d rfl rfl rfl (by exact opd_not rfl rfl) ?_
                    refine al_nil ?_
                    refine awp_cond rfl (fun hc9 => ?_) (fun hc9 => ?_)
                    -- cond 9
                    · have hall : [e.id, e.other].all gName = false := by
                        rw [List.all_eq_false]
                        exact ⟨s, List.mem_of_getElem? hs, by simpa using hc9⟩
                      rw [hall]
                      refine awp_seq ?_
                      refine awp_region ?_
                      refine al_d rfl rfl rfl (by exact opd_assign rfl rfl) ?_
                      refine al_nil ?_
                      refine awp_ret ?_
                      -- return
                      refine aret1 (H' := []) (by exact .inr rfl) rfl (rval_tmp rfl) (Fin.wk (by simp) trivial trivial) ?_
                      exact ⟨rfl, rfl⟩
                    · skip
                      refine awp_skip ?_
                      refine awp_region ?_
                      refine al_d rfl rfl rfl (by exact opd_move rfl rfl) ?_
                      refine al_d rfl rfl rfl (by exact opd_add rfl rfl rfl (by exact w64 (by omega) (by omega))) ?_
                      refine al_d rfl rfl rfl (by exact opd_assign rfl rfl) ?_
                      refine al_nil ?_
                      -- end of a round
                      exact ⟨q + 1, ⟨by omega, pre_succ hno hs hc9⟩, by omega, (Ent.wk ⟨⟨_, rfl, rfl⟩, (by (simp; rfl)), ⟨_, rfl, rfl⟩, (by (simp; done)), ⟨_, rfl, rfl⟩, (by (simp; done)), trivial⟩ ⟨⟨_, rfl, rfl⟩, (by (simp; done)), trivial⟩ trivial)⟩
                  · have hge : q = [e.id, e.other].length := by have := of_decide_eq_false hc8; omega
                    subst hge
                    have hall : [e.id, e.other].all gName = true := by
                      rw [List.all_eq_true]
                      intro s hs
                      obtain ⟨j, hj⟩ := List.mem_iff_getElem?.1 hs
                      have := hno j (List.getElem?_eq_some_iff.1 hj).1 s hj
                      simpa using this
                    rw [hall, Bool.true_and]
                    have d4 : decide (e.op = 4) = false := by rw [ho]; decide
                    refine awp_exit ?_
                    refine awp_seq ?_
                    refine awp_seq ?_
                    refine awp_region ?_
                    refine al_d rfl rfl rfl (by exact (by exact opd_field_ref rfl fo44_0 rfl rfl rfl rfl)) ?_
                    refine al_d rfl rfl rfl (by exact (by exact opd_load1_ref rfl Tryz.isAgg3 rfl rfl rfl rfl rfl)) ?_
                    refine al_d rfl rfl rfl (by exact opd_eql rfl rfl rfl) ?_
                    refine al_d rfl rfl rfl (by exact opd_move rfl rfl) ?_
                    refine al_off rfl rfl rfl (by assumption) rfl ?_
                    refine al_off rfl rfl rfl (by assumption) rfl ?_
                    refine al_off rfl rfl rfl (by assumption) rfl ?_
                    refine al_off rfl rfl rfl (by assumption) rfl ?_
                    refine al_off rfl rfl rfl (by assumption) rfl ?_
                    refine al_offu rfl rfl rfl rfl ?_
                    refine al_offu rfl rfl rfl rfl ?_
                    refine al_offu rfl rfl rfl rfl ?_
                    refine al_offu rfl rfl rfl rfl ?_
                    refine al_off rfl rfl rfl (by assumption) rfl ?_
                    refine al_d rfl rfl rfl (by exact (by exact opd_pickf rfl rfl (by assumption) rfl)) ?_
                    refine al_nil ?_
                    refine awp_cond rfl (fun hc10 => ?_) (fun hc10 => ?_)
                    -- cond 10
                    · skip
                      (cases hc10)
                    · skip
                      refine awp_skip ?_
                      refine awp_seq ?_
                      refine awp_bool (t := 2) (n := 17) (X := decide ((e.val.size : Int) ≤ 200)) ?_ ?_
                      · all_goals (refine al_d rfl rfl rfl (by exact (by exact opd_field_ref rfl fo44_6 rfl rfl rfl rfl)) ?_)
                        all_goals (refine al_d rfl rfl rfl (by exact (by exact opd_load1_ref rfl Tryz.isAgg9 rfl rfl rfl rfl rfl)) ?_)
                        all_goals (refine al_d rfl rfl rfl (by exact opd_len_str rfl Tryz.underlying9 rfl) ?_)
                        all_goals (refine al_d rfl rfl rfl (by exact opd_leq rfl rfl rfl) ?_)
                        all_goals (refine al_d rfl rfl rfl (by exact opd_move rfl rfl) ?_)
                        all_goals (refine al_split (t := 134) rfl (fun h134 => ?_) (fun h134 => ?_))
                        all_goals (try contradiction)
                        all_goals (first | refine al_off rfl rfl rfl rfl rfl ?_ | refine al_ond rfl rfl rfl rfl rfl rfl (by exact (by exact opd_field_ref rfl fo44_0 rfl rfl rfl rfl)) ?_)
                        all_goals (first | refine al_off rfl rfl rfl rfl rfl ?_ | refine al_ond rfl rfl rfl rfl rfl rfl (by exact (by exact opd_load1_ref rfl Tryz.isAgg3 rfl rfl rfl rfl rfl)) ?_)
                        all_goals (first | refine al_off rfl rfl rfl rfl rfl ?_ | refine al_ond rfl rfl rfl rfl rfl rfl (by exact opd_neq rfl rfl rfl) ?_)
                        all_goals (first | refine al_off rfl rfl rfl rfl rfl ?_ | refine al_ond rfl rfl rfl rfl rfl rfl (by exact opd_move rfl rfl) ?_)
                        all_goals (first | refine al_split (t := 138) rfl (fun h138 => ?_) (fun h138 => ?_) | refine al_dup (t := 138) rfl ?_)
                        all_goals (try contradiction)
                        all_goals (first | refine al_off rfl rfl rfl rfl rfl ?_ | refine al_offu rfl rfl rfl rfl ?_ | refine al_ond rfl rfl rfl rfl rfl rfl (by exact (by exact opd_field_ref rfl fo44_4 rfl rfl rfl rfl)) ?_)
                        all_goals (first | refine al_off rfl rfl rfl rfl rfl ?_ | refine al_offu rfl rfl rfl rfl ?_ | refine al_ond rfl rfl rfl rfl rfl rfl (by exact (by exact opd_loadn_ref rfl Tryz.isAgg38 Tryz.sizeOf38 rfl rfl rfl rfl (by simp only [List.drop_succ_cons, List.drop_zero, List.take_succ_cons, List.take_zero, List.take_nil, List.map_cons, List.map_nil, List.set_cons_zero, List.set_cons_succ, List.cons_append, List.nil_append, encTag, encObj, encStr, encEdit, zObj]; rfl) rfl)) ?_)
                        all_goals (first | refine al_off rfl rfl rfl rfl rfl ?_ | refine al_offu rfl rfl rfl rfl ?_ | refine al_ond rfl rfl rfl rfl rfl rfl (by exact opr_call rfl rfl Tryz.call104 rfl (rOn_c e.x e.y _)) ?_)
                        all_goals (first | refine al_off rfl rfl rfl rfl rfl ?_ | refine al_ond rfl rfl rfl rfl rfl rfl (by exact (by first | exact opd_pick_t rfl rfl rfl | exact opd_pick_f rfl rfl rfl)) ?_)
                        all_goals (refine al_d rfl rfl rfl (by exact (by first | exact opd_pick_t rfl rfl rfl | exact opd_pick_f rfl rfl rfl)) ?_)
                        all_goals (refine al_d rfl rfl rfl (by exact opd_assign rfl rfl) ?_)
                        all_goals (refine al_nil ?_)
                        all_goals (exact ⟨⟨_, rfl, by (simp_all; done)⟩, rfl, rfl, rfl⟩)
                      refine awp_ret ?_
                      -- return
                      refine aret1 (H' := []) (by exact .inr rfl) rfl (rval_tmp rfl) (Fin.wk (by simp) trivial trivial) ?_
                      exact ⟨rfl, rfl⟩
              · skip
                (exfalso; have h := hc7; simp [ho] at h)
theorem rValidE_c (e : GEdit) (H : Heap) (he : okE e) (hr : e.refs.length < 1099511627776) : ACalls Tryz.prog 47 [av (encEdit e)] H (fun r H' => r = bv (gEditV e) ∧ H' = H) := by
  by_cases hk : 1 ≤ e.op ∧ e.op ≤ 7
  · rcases (by omega : e.op = 1 ∨ e.op = 2 ∨ e.op = 3 ∨ e.op = 4 ∨ e.op = 5 ∨ e.op = 6 ∨ e.op = 7) with h | h | h | h | h | h | h
    · exact rValid1_c e H he h
    · exact rValid2_c e H he h
    · exact rValid3_c e H he h
    · exact rValid4_c e H he hr h
    · exact rValid5_c e H he h
    · exact rValid6_c e H he h
    · exact rValid7_c e H he h
  · refine ACalls.pure ?_ (by simp) H
    have hs : gEditV e = false := by
      rw [gEditV, Bool.and_eq_false_iff, Bool.and_eq_false_iff, decide_eq_false_iff_not, decide_eq_false_iff_not]
      omega
    refine ACalls.body Tryz.func47 rfl Tryz.ntmps47 (Nat.le_of_ble_eq_true rfl) ?_
    refine awp_seq ?_
    refine awp_region ?_
    refine al_d rfl rfl rfl (by exact opd_box (id := 1) rfl rfl rfl rfl rfl) ?_
    refine al_d rfl rfl rfl (by exact opd_assign rfl rfl) ?_
    refine al_nil ?_
    refine awp_seq ?_
    refine awp_seq ?_
    refine awp_bool (t := 13) (n := 9) (X := decide (e.op < 1) || decide (7 < e.op)) ?_ ?_
    · all_goals (refine al_d rfl rfl rfl (by exact (by exact opd_field_ref rfl fo44_0 rfl rfl rfl rfl)) ?_)
      all_goals (refine al_d rfl rfl rfl (by exact (by exact opd_load1_ref rfl Tryz.isAgg3 rfl rfl rfl rfl rfl)) ?_)
      all_goals (refine al_d rfl rfl rfl (by exact opd_lss rfl rfl rfl) ?_)
      all_goals (refine al_d rfl rfl rfl (by exact opd_move rfl rfl) ?_)
      all_goals (refine al_split (t := 9) rfl (fun h9 => ?_) (fun h9 => ?_))
      all_goals (try contradiction)
      all_goals (first | refine al_off rfl rfl rfl rfl rfl ?_ | refine al_ond rfl rfl rfl rfl rfl rfl (by exact (by exact opd_field_ref rfl fo44_0 rfl rfl rfl rfl)) ?_)
      all_goals (first | refine al_off rfl rfl rfl rfl rfl ?_ | refine al_ond rfl rfl rfl rfl rfl rfl (by exact (by exact opd_load1_ref rfl Tryz.isAgg3 rfl rfl rfl rfl rfl)) ?_)
      all_goals (first | refine al_off rfl rfl rfl rfl rfl ?_ | refine al_ond rfl rfl rfl rfl rfl rfl (by exact opd_gtr rfl rfl rfl) ?_)
      all_goals (refine al_d rfl rfl rfl (by exact (by first | exact opd_pick_t rfl rfl rfl | exact opd_pick_f rfl rfl rfl)) ?_)
      all_goals (refine al_nil ?_)
      all_goals (exact ⟨⟨_, rfl, by (simp only [*, Bool.false_and, Bool.true_and, Bool.and_false, Bool.and_true, Bool.true_or, Bool.false_or, Bool.or_true, Bool.or_false, Bool.not_true, Bool.not_false]; done)⟩, rfl, rfl, rfl⟩)
    refine awp_cond rfl (fun hc1 => ?_) (fun hc1 => ?_)
    -- cond 1
    · skip
      refine awp_seq ?_
      refine awp_region ?_
      refine al_d rfl rfl rfl (by exact opd_assign rfl rfl) ?_
      refine al_nil ?_
      refine awp_ret ?_
      -- return
      refine aret1 (H' := []) (by exact .inr rfl) rfl (rval_tmp rfl) (Fin.wk (by simp) trivial trivial) ?_
      exact ⟨by rw [hs], rfl⟩
    · exfalso
      simp only [Bool.or_eq_false_iff, decide_eq_false_iff_not] at hc1
      omega
theorem rChange_c (l : List GEdit) (H : Heap) (hl : l.length < 1099511627776) (he : ∀ e ∈ l, okE e) (hr : ∀ e ∈ l, e.refs.length < 1099511627776) : ACalls Tryz.prog 61 [.pv (slEdits l)] H (fun r H' => r = bv (gChange l) ∧ H' = H) := by
  refine ACalls.pure ?_ (by simp) H
  have hml : (l.map encEdit).length = l.length := List.length_map _
  refine ACalls.body Tryz.func61 rfl Tryz.ntmps61 (Nat.le_of_ble_eq_true rfl) ?_
  refine awp_seq ?_
  refine awp_region ?_
  refine al_d rfl rfl rfl (by exact opd_assign rfl rfl) ?_
  refine al_nil ?_
  refine awp_seq ?_
  refine awp_seq ?_
  refine awp_bool (t := 11) (n := 9) (X := decide (((l.map encEdit).length : Int) < 1) || decide (200 < ((l.map encEdit).length : Int))) ?_ ?_
  · all_goals (refine al_d rfl rfl rfl (by exact opd_move rfl rfl) ?_)
    all_goals (refine al_d rfl rfl rfl (by exact (by exact opd_len_sl rfl Tryz.underlying25 rfl)) ?_)
    all_goals (refine al_d rfl rfl rfl (by exact opd_lss rfl rfl rfl) ?_)
    all_goals (refine al_d rfl rfl rfl (by exact opd_move rfl rfl) ?_)
    all_goals (refine al_split (t := 7) rfl (fun h7 => ?_) (fun h7 => ?_))
    all_goals (try contradiction)
    all_goals (first | refine al_off rfl rfl rfl rfl rfl ?_ | refine al_ond rfl rfl rfl rfl rfl rfl (by exact opd_move rfl rfl) ?_)
    all_goals (first | refine al_off rfl rfl rfl rfl rfl ?_ | refine al_ond rfl rfl rfl rfl rfl rfl (by exact (by exact opd_len_sl rfl Tryz.underlying25 rfl)) ?_)
    all_goals (first | refine al_off rfl rfl rfl rfl rfl ?_ | refine al_ond rfl rfl rfl rfl rfl rfl (by exact opd_gtr rfl rfl rfl) ?_)
    all_goals (refine al_d rfl rfl rfl (by exact (by first | exact opd_pick_t rfl rfl rfl | exact opd_pick_f rfl rfl rfl)) ?_)
    all_goals (refine al_nil ?_)
    all_goals (exact ⟨⟨_, rfl, by first | (simp_all; done) | (simp_all; omega)⟩, rfl, rfl, rfl⟩)
  refine awp_cond rfl (fun hc1 => ?_) (fun hc1 => ?_)
  -- cond 1
  · have hs : gChange l = false := by
      simp only [Bool.or_eq_true, decide_eq_true_eq] at hc1
      rw [gChange, Bool.and_eq_false_iff, Bool.and_eq_false_iff, decide_eq_false_iff_not, decide_eq_false_iff_not]
      left
      omega
    refine awp_seq ?_
    refine awp_region ?_
    refine al_d rfl rfl rfl (by exact opd_assign rfl rfl) ?_
    refine al_nil ?_
    refine awp_ret ?_
    -- return
    refine aret1 (H' := []) (by exact .inr rfl) rfl (rval_tmp rfl) (Fin.wk (by simp) trivial trivial) ?_
    exact ⟨by rw [hs], rfl⟩
  · have hs : gChange l = !(l.any (fun e => !gEditV e)) := by
      simp only [Bool.or_eq_false_iff, decide_eq_false_iff_not] at hc1
      rw [gChange, decide_eq_true (by omega : (0 : Int) < (l.length : Int)), decide_eq_true (by omega : (l.length : Int) ≤ 200)]
      rfl
    rw [hs]
    refine awp_skip ?_
    refine awp_seq ?_
    refine awp_seq ?_
    refine awp_region ?_
    refine al_d rfl rfl rfl (by exact opd_assign rfl rfl) ?_
    refine al_nil ?_
    refine awp_block ?_
    -- loop
    refine awp_loop (σ := Nat) (fun k => ([(0, .pv (slEdits l)), (3, iv (k : Int))], [])) (fun k => k ≤ l.length ∧ ∀ j, j < k → ∀ b, l[j]? = some b → (!gEditV b) = false) (fun k => l.length - k) 0 ⟨by omega, by omega⟩ ?_ ?_
    · exact Ent.e0 ⟨⟨_, rfl, rfl⟩, ⟨_, rfl, rfl⟩, trivial⟩
    · rintro k ⟨hk, hno⟩
      refine awp_seq ?_
      refine awp_seq ?_
      refine awp_region ?_
      refine al_d rfl rfl rfl (by exact opd_move rfl rfl) ?_
      refine al_d rfl rfl rfl (by exact opd_move rfl rfl) ?_
      refine al_d rfl rfl rfl (by exact (by exact opd_len_sl rfl Tryz.underlying25 rfl)) ?_
      refine al_d rfl rfl rfl (by exact opd_lss rfl rfl rfl) ?_
      refine al_nil ?_
      refine awp_cond rfl (fun hc2 => ?_) (fun hc2 => ?_)
      -- cond 2
      · have hlt : k < l.length := by have := of_decide_eq_true hc2; omega
        obtain ⟨e, hx⟩ := get_of_lt hlt
        have hi := map_get (f := encEdit) hx
        refine awp_skip ?_
        refine awp_seq ?_
        refine awp_block ?_
        refine awp_seq ?_
        refine awp_region ?_
        refine al_d rfl rfl rfl (by exact opd_move rfl rfl) ?_
        refine al_d rfl rfl rfl (by exact opd_move rfl rfl) ?_
        refine al_d rfl rfl rfl (by exact (by exact x_index_pad rfl so25 rfl rfl (by omega) (by exact Int.toNat_natCast _) (by assumption) rfl)) ?_
        refine al_d rfl rfl rfl (by exact (by exact opd_loadn_pad rfl Tryz.isAgg44 Tryz.sizeOf44 rfl (by omega) (by simp only [List.drop_succ_cons, List.drop_zero, List.take_succ_cons, List.take_zero, List.take_nil, List.map_cons, List.map_nil, List.set_cons_zero, List.set_cons_succ, List.cons_append, List.nil_append, encTag, encObj, encStr, encEdit, zObj]; rfl) rfl)) ?_
        refine al_d rfl rfl rfl (by exact opr_call rfl rfl Tryz.call47 rfl (rValidE_c e _ (he e (List.mem_of_getElem? hx)) (hr e (List.mem_of_getElem? hx)))) ?_
        refine al_d rfl rfl rfl (by exact opd_not rfl rfl) ?_
        refine al_nil ?_
        refine awp_cond rfl (fun hc3 => ?_) (fun hc3 => ?_)
        -- cond 3
        · skip
          refine awp_seq ?_
          refine awp_region ?_
          refine al_d rfl rfl rfl (by exact opd_assign rfl rfl) ?_
          refine al_nil ?_
          refine awp_ret ?_
          -- return
          refine aret1 (H' := []) (by exact .inr rfl) rfl (rval_tmp rfl) (Fin.wk (by simp) trivial trivial) ?_
          exact ⟨by rw [any_some hx hc3]; rfl, rfl⟩
        · skip
          refine awp_skip ?_
          refine awp_region ?_
          refine al_d rfl rfl rfl (by exact opd_move rfl rfl) ?_
          refine al_d rfl rfl rfl (by exact opd_add rfl rfl rfl (by exact w64 (by omega) (by omega))) ?_
          refine al_d rfl rfl rfl (by exact opd_assign rfl rfl) ?_
          refine al_nil ?_
          -- end of a round
          exact ⟨k + 1, ⟨by omega, pre_succ hno hx hc3⟩, by omega, Ent.e0 ⟨⟨_, rfl, rfl⟩, ⟨_, rfl, rfl⟩, trivial⟩⟩
      · have hge : k = l.length := by have := of_decide_eq_false hc2; omega
        subst hge
        refine awp_exit ?_
        refine awp_seq ?_
        refine awp_region ?_
        refine al_d rfl rfl rfl (by exact opd_assign rfl rfl) ?_
        refine al_nil ?_
        refine awp_ret ?_
        -- return
        refine aret1 (H' := []) (by exact .inr rfl) rfl (rval_tmp rfl) (Fin.wk (by simp) trivial trivial) ?_
        exact ⟨by rw [any_none hno]; rfl, rfl⟩
end Go.Proofs.YtdgoodjhndeojaaGreat
end
