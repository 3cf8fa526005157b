/-
  CONTRACTS: package edit: edits compared, valid edits; valid change sets. Conditions: lengths below 2^62.
  CONTRACTS: edit.Valid, change.Valid. Conditions: lengths below 2^62.
  CONTRACTS: atlas.Find, distances, package evidence's kinds. Conditions: lengths below 2^62.
  CONTRACTS: package evidence's kinds: what shows, what fits. Conditions: lengths below 2^62.
-/
import Derived.Test.YtdgoodjhndeojaaGreatKL1M4
import Derived.ChangeKeysEq
section
set_option linter.unusedVariables false
set_option linter.unusedSimpArgs false
set_option maxRecDepth 100000
namespace Go.Proofs.YtdgoodjhndeojaaGreat
open Go.Abs
theorem seS4 (a0 b0 a1 b1 a2 b2 a3 b3 : ByteArray) (w : World) : (Op.equalIn 10000 134 (.agg [.string a0, .string a1, .string a2, .string a3].toArray) (.agg [.string b0, .string b1, .string b2, .string b3].toArray)).run Tryz.prog w =
    .ok (decide (a0 = b0) && decide (a1 = b1) && decide (a2 = b2) && decide (a3 = b3)) w := by
  obtain ⟨i, hi⟩ := info_of_underlying Tryz.underlying9
  refine (run_equalIn_array (P := Tryz.prog) w 9999 _ _ Tryz.underlying134 hi).trans ?_
  have hs : ∀ (d : Nat) (a b : ByteArray) (w : World), (Op.equalIn (d + 1) 9 (.string a) (.string b)).run Tryz.prog w = .ok (decide (a = b)) w := fun d a b w => by rw [run_equalIn_string w d 9 a b Tryz.underlying9, list_beq]
  have hc : Tryz.prog.cellsOf 9 = 1 := by kernel_rfl
  by_cases e0 : a0 = b0 <;> by_cases e1 : a1 = b1 <;> by_cases e2 : a2 = b2 <;> by_cases e3 : a3 = b3 <;> simp [List.range_succ, Op.eqItems, part, hc, hs, Tryz.isAgg9, e0, e1, e2, e3]
theorem eqStrs_c (a b : List ByteArray) (H : Heap) (ha : a.length < 4611686018427387904) : ACalls Tryz.prog 86 [.pv (slStrs a), .pv (slStrs b)] H (fun r H' => r = bv (decide (a = b)) ∧ H' = H) := by
  refine ACalls.pure ?_ (by simp) H
  have hma : (a.map encStr).length = a.length := List.length_map _
  have hmb : (b.map encStr).length = b.length := List.length_map _
  refine ACalls.body Tryz.func86 rfl Tryz.ntmps86 (Nat.le_of_ble_eq_true rfl) ?_
  refine awp_seq ?_
  refine awp_region ?_
  refine al_d rfl rfl rfl (by exact opd_assign rfl rfl) ?_
  refine al_nil ?_
  refine awp_seq ?_
  refine awp_seq ?_
  refine awp_region ?_
  refine al_d rfl rfl rfl (by exact opd_move rfl rfl) ?_
  refine al_d rfl rfl rfl (by exact (by exact opd_len_sl rfl Tryz.underlying39 rfl)) ?_
  refine al_d rfl rfl rfl (by exact opd_move rfl rfl) ?_
  refine al_d rfl rfl rfl (by exact (by exact opd_len_sl rfl Tryz.underlying39 rfl)) ?_
  refine al_d rfl rfl rfl (by exact opd_neq rfl rfl rfl) ?_
  refine al_nil ?_
  refine awp_cond rfl (fun hc1 => ?_) (fun hc1 => ?_)
  -- cond 1
  · have hne : ¬ a = b := by
      intro e
      subst e
      simp at hc1
    refine awp_seq ?_
    refine awp_region ?_
    refine al_d rfl rfl rfl (by exact opd_assign rfl rfl) ?_
    refine al_nil ?_
    refine awp_ret ?_
    -- return
    refine aret1 (H' := []) (by exact .inr rfl) rfl (rval_tmp rfl) (Fin.wk (by simp) trivial trivial) ?_
    exact ⟨by rw [decide_eq_false hne], rfl⟩
  · have heq : a.length = b.length := by
      simp only [hma, hmb, Bool.not_eq_false', decide_eq_true_eq] at hc1
      omega
    refine awp_skip ?_
    refine awp_seq ?_
    refine awp_seq ?_
    refine awp_region ?_
    refine al_d rfl rfl rfl (by exact opd_move rfl rfl) ?_
    refine al_d rfl rfl rfl (by exact (by exact opd_len_sl rfl Tryz.underlying39 rfl)) ?_
    refine al_d rfl rfl rfl (by exact opd_move rfl rfl) ?_
    refine al_nil ?_
    refine awp_block ?_
    -- loop
    refine awp_loop (σ := Nat) (fun k => ([(0, .pv (slStrs a)), (1, .pv (slStrs b)), (12, iv ((a.map encStr).length : Int)), (13, iv (k : Int))], [])) (fun k => k ≤ a.length ∧ a.take k = b.take k) (fun k => a.length - k) 0 ⟨by omega, by simp⟩ ?_ ?_
    · exact Ent.e0 ⟨⟨_, rfl, rfl⟩, ⟨_, rfl, rfl⟩, ⟨_, rfl, rfl⟩, ⟨_, rfl, rfl⟩, trivial⟩
    · rintro k ⟨hk, hall⟩
      refine awp_seq ?_
      refine awp_region ?_
      refine al_d rfl rfl rfl (by exact opd_lss rfl rfl rfl) ?_
      refine al_nil ?_
      refine awp_seq ?_
      refine awp_cond rfl (fun hc2 => ?_) (fun hc2 => ?_)
      -- cond 2
      · have hlt : k < a.length := by have := of_decide_eq_true hc2; omega
        obtain ⟨x, hx⟩ := get_of_lt hlt
        obtain ⟨y, hy⟩ := get_of_lt (l := b) (k := k) (by omega)
        have hi := map_get (f := encStr) hx
        have hi2 := map_get (f := encStr) hy
        refine awp_skip ?_
        refine awp_seq ?_
        refine awp_block ?_
        refine awp_seq ?_
        refine awp_region ?_
        refine al_d rfl rfl rfl (by exact opd_move rfl rfl) ?_
        refine al_d rfl rfl rfl (by exact opd_assign rfl rfl) ?_
        refine al_nil ?_
        refine awp_seq ?_
        refine awp_drawc follows ?_
        refine dc_cons (DStep.q rfl (by exact opd_move rfl rfl)) rfl ?_
        refine dc_cons (DStep.q rfl (by exact opd_move rfl rfl)) rfl ?_
        refine dc_cons (DStep.q rfl (by exact (by exact x_index_pad rfl so39 rfl rfl (by omega) (by exact Int.toNat_natCast _) (by assumption) rfl))) rfl ?_
        refine dc_cons (DStep.q rfl (by exact (by exact opd_load1_pad rfl Tryz.isAgg9 rfl (by omega) rfl))) rfl ?_
        refine dc_cons (DStep.q rfl (by exact opd_move rfl rfl)) rfl ?_
        refine dc_cons (DStep.q rfl (by exact opd_move rfl rfl)) rfl ?_
        refine dc_cons (DStep.q rfl (by exact (by exact x_index_pad rfl so39 rfl rfl (by omega) (by exact Int.toNat_natCast _) (by assumption) rfl))) rfl ?_
        refine dc_cons (DStep.q rfl (by exact (by exact opd_load1_pad rfl Tryz.isAgg9 rfl (by omega) rfl))) rfl ?_
        refine dc_cons (DStep.q rfl (by exact opd_sneq rfl rfl rfl)) rfl ?_
        refine dc_nil ⟨by kernel_rfl, ?_⟩
        refine awp_cond rfl (fun hc3 => ?_) (fun hc3 => ?_)
        -- cond 3
        · have ht : ¬ x = y := by
            have h : (!decide (x = y)) = true := hc3
            simpa using h
          have hne : ¬ a = b := by
            intro e
            subst e
            rw [hx] at hy
            exact ht (Option.some.inj hy)
          refine awp_seq ?_
          refine awp_region ?_
          refine al_d rfl rfl rfl (by exact opd_assign rfl rfl) ?_
          refine al_nil ?_
          refine awp_ret ?_
          -- return
          refine aret1 (H' := []) (by exact .inr rfl) rfl (rval_tmp rfl) (Fin.wk (by simp) trivial trivial) ?_
          exact ⟨by rw [decide_eq_false hne], rfl⟩
        · have ht : x = y := by
            have h : (!decide (x = y)) = false := hc3
            simpa using h
          refine awp_skip ?_
          refine awp_region ?_
          refine al_d rfl rfl rfl (by exact opd_add rfl rfl rfl (by exact w64 (by omega) (by omega))) ?_
          refine al_d rfl rfl rfl (by exact opd_move rfl rfl) ?_
          refine al_nil ?_
          -- end of a round
          refine ⟨k + 1, ⟨by omega, ?_⟩, by omega, Ent.e0 ⟨⟨_, rfl, rfl⟩, ⟨_, rfl, rfl⟩, ⟨_, rfl, rfl⟩, ⟨_, rfl, rfl⟩, trivial⟩⟩
          rw [List.take_add_one, List.take_add_one, hx, hy, hall, ht]
      · have hge : k = a.length := by have := of_decide_eq_false hc2; omega
        have he : a = b := by
          have h := hall
          rw [hge, List.take_length, heq, List.take_length] at h
          exact h
        refine awp_exit ?_
        refine awp_seq ?_
        refine awp_region ?_
        refine al_d rfl rfl rfl (by exact opd_assign rfl rfl) ?_
        refine al_nil ?_
        refine awp_ret ?_
        -- return
        refine aret1 (H' := []) (by exact .inr rfl) rfl (rval_tmp rfl) (Fin.wk (by simp) trivial trivial) ?_
        exact ⟨by rw [decide_eq_true he], rfl⟩
def gSameO (a b : GObj) : Bool := ((decide (a.id = b.id) && decide (a.kind = b.kind) && (decide (a.x = b.x) && decide (a.y = b.y))) && decide (a.refs = b.refs)) && tagsEq a.tags b.tags
theorem gSameO_iff {a b : GObj} : gSameO a b = true ↔ a = b := by
  cases a; cases b
  simp only [gSameO, Bool.and_eq_true, decide_eq_true_eq, tagsEq_iff, GObj.mk.injEq]
  constructor
  · rintro ⟨⟨⟨⟨a1, a2⟩, a3, a4⟩, a5⟩, a6⟩
    exact ⟨a1, a2, a3, a4, a5, a6⟩
  · rintro ⟨a1, a2, a3, a4, a5, a6⟩
    exact ⟨⟨⟨⟨a1, a2⟩, a3, a4⟩, a5⟩, a6⟩
def okS (o : GObj) : Prop := o.refs.length < 4611686018427387904 ∧ o.tags.length < 4611686018427387904
theorem sameO_c (a b : GObj) (H : Heap) (ha : okS a) : ACalls Tryz.prog 41 [av (encObj a), av (encObj b)] H (fun r H' => r = bv (gSameO a b) ∧ H' = H) := by
  refine ACalls.pure ?_ (by simp) H
  refine ACalls.body Tryz.func41 rfl Tryz.ntmps41 (Nat.le_of_ble_eq_true rfl) ?_
  refine awp_seq ?_
  refine awp_region ?_
  refine al_d rfl rfl rfl (by exact opd_box (id := 2) rfl rfl rfl rfl rfl) ?_
  refine al_d rfl rfl rfl (by exact opd_box (id := 3) rfl rfl rfl rfl rfl) ?_
  refine al_d rfl rfl rfl (by exact opd_assign rfl rfl) ?_
  refine al_nil ?_
  refine awp_seq ?_
  refine awp_bool (t := 4) (n := 38) (X := gSameO a b) ?_ ?_
  · all_goals (refine al_d rfl rfl rfl (by exact (by exact opd_field_ref rfl fo42_0 rfl rfl rfl rfl)) ?_)
    all_goals (refine al_d rfl rfl rfl (by exact (by exact opd_load1_ref rfl Tryz.isAgg9 rfl rfl rfl rfl rfl)) ?_)
    all_goals (refine al_d rfl rfl rfl (by exact (by exact opd_field_ref rfl fo42_0 rfl rfl rfl rfl)) ?_)
    all_goals (refine al_d rfl rfl rfl (by exact (by exact opd_load1_ref rfl Tryz.isAgg9 rfl rfl rfl rfl rfl)) ?_)
    all_goals (refine al_d rfl rfl rfl (by exact opd_seql rfl rfl rfl) ?_)
    all_goals (refine al_d rfl rfl rfl (by exact opd_move rfl rfl) ?_)
    all_goals (refine al_split (t := 10) rfl (fun h10 => ?_) (fun h10 => ?_))
    all_goals (try contradiction)
    all_goals (first | refine al_off rfl rfl rfl rfl rfl ?_ | refine al_ond rfl rfl rfl rfl rfl rfl (by exact (by exact opd_field_ref rfl fo42_1 rfl rfl rfl rfl)) ?_)
    all_goals (first | refine al_off rfl rfl rfl rfl rfl ?_ | refine al_ond rfl rfl rfl rfl rfl rfl (by exact (by exact opd_load1_ref rfl Tryz.isAgg3 rfl rfl rfl rfl rfl)) ?_)
    all_goals (first | refine al_off rfl rfl rfl rfl rfl ?_ | refine al_ond rfl rfl rfl rfl rfl rfl (by exact (by exact opd_field_ref rfl fo42_1 rfl rfl rfl rfl)) ?_)
    all_goals (first | refine al_off rfl rfl rfl rfl rfl ?_ | refine al_ond rfl rfl rfl rfl rfl rfl (by exact (by exact opd_load1_ref rfl Tryz.isAgg3 rfl rfl rfl rfl rfl)) ?_)
    all_goals (first | refine al_off rfl rfl rfl rfl rfl ?_ | refine al_ond rfl rfl rfl rfl rfl rfl (by exact opd_eql rfl rfl rfl) ?_)
    all_goals (refine al_d rfl rfl rfl (by exact (by first | exact opd_pick_t rfl rfl rfl | exact opd_pick_f rfl rfl rfl)) ?_)
    all_goals (refine al_d rfl rfl rfl (by exact opd_move rfl rfl) ?_)
    all_goals (refine al_split (t := 17) rfl (fun h17 => ?_) (fun h17 => ?_))
    all_goals (try contradiction)
    all_goals (first | refine al_off rfl rfl rfl rfl rfl ?_ | refine al_ond rfl rfl rfl rfl rfl rfl (by exact (by exact opd_field_ref rfl fo42_2 rfl rfl rfl rfl)) ?_)
    all_goals (first | refine al_off rfl rfl rfl rfl rfl ?_ | refine al_ond rfl rfl rfl rfl rfl rfl (by exact (by exact opd_loadn_ref rfl Tryz.isAgg38 Tryz.sizeOf38 rfl rfl rfl rfl (by simp only [List.drop_succ_cons, List.drop_zero, List.take_succ_cons, List.take_zero, List.take_nil, List.map_cons, List.map_nil, List.set_cons_zero, List.set_cons_succ, List.cons_append, List.nil_append, encTag, encObj, encStr, encEdit]; rfl) rfl)) ?_)
    all_goals (first | refine al_off rfl rfl rfl rfl rfl ?_ | refine al_ond rfl rfl rfl rfl rfl rfl (by exact (by exact opd_field_ref rfl fo42_2 rfl rfl rfl rfl)) ?_)
    all_goals (first | refine al_off rfl rfl rfl rfl rfl ?_ | refine al_ond rfl rfl rfl rfl rfl rfl (by exact (by exact opd_loadn_ref rfl Tryz.isAgg38 Tryz.sizeOf38 rfl rfl rfl rfl (by simp only [List.drop_succ_cons, List.drop_zero, List.take_succ_cons, List.take_zero, List.take_nil, List.map_cons, List.map_nil, List.set_cons_zero, List.set_cons_succ, List.cons_append, List.nil_append, encTag, encObj, encStr, encEdit]; rfl) rfl)) ?_)
    all_goals (first | refine al_off rfl rfl rfl rfl rfl ?_ | refine al_ond rfl rfl rfl rfl rfl rfl (by exact opd_aeql rfl rfl rfl rfl rfl Tryz.eqGuardType38 (se38 _ _ _ _)) ?_)
    all_goals (refine al_d rfl rfl rfl (by exact (by first | exact opd_pick_t rfl rfl rfl | exact opd_pick_f rfl rfl rfl)) ?_)
    all_goals (refine al_d rfl rfl rfl (by exact opd_move rfl rfl) ?_)
    all_goals (refine al_split (t := 24) rfl (fun h24 => ?_) (fun h24 => ?_))
    all_goals (try contradiction)
    all_goals (first | refine al_off rfl rfl rfl rfl rfl ?_ | refine al_ond rfl rfl rfl rfl rfl rfl (by exact (by exact opd_field_ref rfl fo42_3 rfl rfl rfl rfl)) ?_)
    all_goals (first | refine al_off rfl rfl rfl rfl rfl ?_ | refine al_ond rfl rfl rfl rfl rfl rfl (by exact (by exact opd_load1_ref rfl Tryz.isAgg39 rfl rfl rfl rfl rfl)) ?_)
    all_goals (first | refine al_off rfl rfl rfl rfl rfl ?_ | refine al_ond rfl rfl rfl rfl rfl rfl (by exact (by exact opd_field_ref rfl fo42_3 rfl rfl rfl rfl)) ?_)
    all_goals (first | refine al_off rfl rfl rfl rfl rfl ?_ | refine al_ond rfl rfl rfl rfl rfl rfl (by exact (by exact opd_load1_ref rfl Tryz.isAgg39 rfl rfl rfl rfl rfl)) ?_)
    all_goals (first | refine al_off rfl rfl rfl rfl rfl ?_ | refine al_ond rfl rfl rfl rfl rfl rfl (by exact opr_call rfl rfl Tryz.call86 rfl (eqStrs_c a.refs b.refs _ ha.1)) ?_)
    all_goals (refine al_d rfl rfl rfl (by exact (by first | exact opd_pick_t rfl rfl rfl | exact opd_pick_f rfl rfl rfl)) ?_)
    all_goals (refine al_d rfl rfl rfl (by exact opd_move rfl rfl) ?_)
    all_goals (refine al_split (t := 31) rfl (fun h31 => ?_) (fun h31 => ?_))
    all_goals (try contradiction)
    all_goals (first | refine al_off rfl rfl rfl rfl rfl ?_ | refine al_ond rfl rfl rfl rfl rfl rfl (by exact (by exact opd_field_ref rfl fo42_4 rfl rfl rfl rfl)) ?_)
    all_goals (first | refine al_off rfl rfl rfl rfl rfl ?_ | refine al_ond rfl rfl rfl rfl rfl rfl (by exact (by exact opd_load1_ref rfl Tryz.isAgg40 rfl rfl rfl rfl rfl)) ?_)
    all_goals (first | refine al_off rfl rfl rfl rfl rfl ?_ | refine al_ond rfl rfl rfl rfl rfl rfl (by exact (by exact opd_field_ref rfl fo42_4 rfl rfl rfl rfl)) ?_)
    all_goals (first | refine al_off rfl rfl rfl rfl rfl ?_ | refine al_ond rfl rfl rfl rfl rfl rfl (by exact (by exact opd_load1_ref rfl Tryz.isAgg40 rfl rfl rfl rfl rfl)) ?_)
    all_goals (first | refine al_off rfl rfl rfl rfl rfl ?_ | refine al_ond rfl rfl rfl rfl rfl rfl (by exact opr_call rfl rfl Tryz.call87 rfl (equalTags_c a.tags b.tags _ ha.2)) ?_)
    all_goals (refine al_d rfl rfl rfl (by exact (by first | exact opd_pick_t rfl rfl rfl | exact opd_pick_f rfl rfl rfl)) ?_)
    all_goals (refine al_d rfl rfl rfl (by exact opd_assign rfl rfl) ?_)
    all_goals (refine al_nil ?_)
    all_goals (exact ⟨⟨_, rfl, by (simp only [gSameO, *]; rfl)⟩, rfl, rfl, rfl⟩)
  refine awp_ret ?_
  -- return
  refine aret1 (H' := []) (by exact .inr rfl) rfl (rval_tmp rfl) (Fin.wk (by simp) trivial trivial) ?_
  exact ⟨rfl, rfl⟩
def gSameE (a b : GEdit) : Bool := ((((decide (a.refs = b.refs) && gSameO a.obj b.obj) && decide (a.op = b.op)) && (decide (a.id = b.id) && decide (a.other = b.other) && decide (a.node = b.node) && decide (a.key = b.key))) && decide (a.val = b.val)) && (decide (a.x = b.x) && decide (a.y = b.y))
theorem gSameE_iff {a b : GEdit} : gSameE a b = true ↔ a = b := by
  cases a; cases b
  simp only [gSameE, Bool.and_eq_true, decide_eq_true_eq, gSameO_iff, GEdit.mk.injEq]
  constructor
  · rintro ⟨⟨⟨⟨⟨a1, a2⟩, a3⟩, ⟨⟨a4, a5⟩, a6⟩, a7⟩, a8⟩, a9, a10⟩
    exact ⟨a3, a4, a5, a6, a9, a10, a7, a8, a1, a2⟩
  · rintro ⟨a3, a4, a5, a6, a9, a10, a7, a8, a1, a2⟩
    exact ⟨⟨⟨⟨⟨a1, a2⟩, a3⟩, ⟨⟨a4, a5⟩, a6⟩, a7⟩, a8⟩, a9, a10⟩
theorem sameE_c (a b : GEdit) (H : Heap) (h1 : a.refs.length < 4611686018427387904) (h2 : okS a.obj) : ACalls Tryz.prog 69 [av (encEdit a), av (encEdit b)] H (fun r H' => r = bv (gSameE a b) ∧ H' = H) := by
  refine ACalls.pure ?_ (by simp) H
  refine ACalls.body Tryz.func69 rfl Tryz.ntmps69 (Nat.le_of_ble_eq_true rfl) ?_
  refine awp_seq ?_
  refine awp_region ?_
  refine al_d rfl rfl rfl (by exact opd_box (id := 2) rfl rfl rfl rfl rfl) ?_
  refine al_d rfl rfl rfl (by exact opd_box (id := 3) rfl rfl rfl rfl rfl) ?_
  refine al_d rfl rfl rfl (by exact opd_assign rfl rfl) ?_
  refine al_nil ?_
  refine awp_seq ?_
  refine awp_bool (t := 5) (n := 14) (X := decide (a.refs = b.refs) && gSameO a.obj b.obj) ?_ ?_
  · all_goals (refine al_d rfl rfl rfl (by exact (by exact opd_field_ref rfl fo44_7 rfl rfl rfl rfl)) ?_)
    all_goals (refine al_d rfl rfl rfl (by exact (by exact opd_load1_ref rfl Tryz.isAgg39 rfl rfl rfl rfl rfl)) ?_)
    all_goals (refine al_d rfl rfl rfl (by exact (by exact opd_field_ref rfl fo44_7 rfl rfl rfl rfl)) ?_)
    all_goals (refine al_d rfl rfl rfl (by exact (by exact opd_load1_ref rfl Tryz.isAgg39 rfl rfl rfl rfl rfl)) ?_)
    all_goals (refine al_d rfl rfl rfl (by exact opr_call rfl rfl Tryz.call86 rfl (eqStrs_c a.refs b.refs _ h1)) ?_)
    all_goals (refine al_d rfl rfl rfl (by exact opd_move rfl rfl) ?_)
    all_goals (refine al_split (t := 11) rfl (fun h11 => ?_) (fun h11 => ?_))
    all_goals (try contradiction)
    all_goals (first | refine al_off rfl rfl rfl rfl rfl ?_ | refine al_ond rfl rfl rfl rfl rfl rfl (by exact (by exact opd_field_ref rfl fo44_8 rfl rfl rfl rfl)) ?_)
    all_goals (first | refine al_off rfl rfl rfl rfl rfl ?_ | refine al_ond rfl rfl rfl rfl rfl rfl (by exact (by exact opd_loadn_ref rfl Tryz.isAgg42 Tryz.sizeOf42 rfl rfl rfl rfl (by simp only [List.drop_succ_cons, List.drop_zero, List.take_succ_cons, List.take_zero, List.take_nil, List.map_cons, List.map_nil, List.set_cons_zero, List.set_cons_succ, List.cons_append, List.nil_append, encTag, encObj, encStr, encEdit]; rfl) rfl)) ?_)
    all_goals (first | refine al_off rfl rfl rfl rfl rfl ?_ | refine al_ond rfl rfl rfl rfl rfl rfl (by exact (by exact opd_field_ref rfl fo44_8 rfl rfl rfl rfl)) ?_)
    all_goals (first | refine al_off rfl rfl rfl rfl rfl ?_ | refine al_ond rfl rfl rfl rfl rfl rfl (by exact (by exact opd_loadn_ref rfl Tryz.isAgg42 Tryz.sizeOf42 rfl rfl rfl rfl (by simp only [List.drop_succ_cons, List.drop_zero, List.take_succ_cons, List.take_zero, List.take_nil, List.map_cons, List.map_nil, List.set_cons_zero, List.set_cons_succ, List.cons_append, List.nil_append, encTag, encObj, encStr, encEdit]; rfl) rfl)) ?_)
    all_goals (first | refine al_off rfl rfl rfl rfl rfl ?_ | refine al_ond rfl rfl rfl rfl rfl rfl (by exact opr_call rfl rfl Tryz.call41 rfl (sameO_c a.obj b.obj _ h2)) ?_)
    all_goals (refine al_d rfl rfl rfl (by exact (by first | exact opd_pick_t rfl rfl rfl | exact opd_pick_f rfl rfl rfl)) ?_)
    all_goals (refine al_d rfl rfl rfl (by exact opd_assign rfl rfl) ?_)
    all_goals (refine al_nil ?_)
    all_goals (exact ⟨⟨_, rfl, by (simp only [*]; rfl)⟩, rfl, rfl, rfl⟩)
  refine awp_seq ?_
  refine awp_bool (t := 4) (n := 48) (X := gSameE a b) ?_ ?_
  · all_goals (refine al_d rfl rfl rfl (by exact opd_move rfl rfl) ?_)
    all_goals (refine al_d rfl rfl rfl (by exact opd_move rfl rfl) ?_)
    all_goals (refine al_split (t := 19) rfl (fun h19 => ?_) (fun h19 => ?_))
    all_goals (try contradiction)
    all_goals (first | refine al_off rfl rfl rfl rfl rfl ?_ | refine al_ond rfl rfl rfl rfl rfl rfl (by exact (by exact opd_field_ref rfl fo44_0 rfl rfl rfl rfl)) ?_)
    all_goals (first | refine al_off rfl rfl rfl rfl rfl ?_ | refine al_ond rfl rfl rfl rfl rfl rfl (by exact (by exact opd_load1_ref rfl Tryz.isAgg3 rfl rfl rfl rfl rfl)) ?_)
    all_goals (first | refine al_off rfl rfl rfl rfl rfl ?_ | refine al_ond rfl rfl rfl rfl rfl rfl (by exact (by exact opd_field_ref rfl fo44_0 rfl rfl rfl rfl)) ?_)
    all_goals (first | refine al_off rfl rfl rfl rfl rfl ?_ | refine al_ond rfl rfl rfl rfl rfl rfl (by exact (by exact opd_load1_ref rfl Tryz.isAgg3 rfl rfl rfl rfl rfl)) ?_)
    all_goals (first | refine al_off rfl rfl rfl rfl rfl ?_ | refine al_ond rfl rfl rfl rfl rfl rfl (by exact opd_eql rfl rfl rfl) ?_)
    all_goals (refine al_d rfl rfl rfl (by exact (by first | exact opd_pick_t rfl rfl rfl | exact opd_pick_f rfl rfl rfl)) ?_)
    all_goals (refine al_d rfl rfl rfl (by exact opd_move rfl rfl) ?_)
    all_goals (refine al_split (t := 26) rfl (fun h26 => ?_) (fun h26 => ?_))
    all_goals (try contradiction)
    all_goals (first | refine al_off rfl rfl rfl rfl rfl ?_ | refine al_ond rfl rfl rfl rfl rfl rfl (by exact (by exact opd_field_ref rfl fo44_1 rfl rfl rfl rfl)) ?_)
    all_goals (first | refine al_off rfl rfl rfl rfl rfl ?_ | refine al_ond rfl rfl rfl rfl rfl rfl (by exact (by exact opd_load1_ref rfl Tryz.isAgg9 rfl rfl rfl rfl rfl)) ?_)
    all_goals (first | refine al_off rfl rfl rfl rfl rfl ?_ | refine al_ond rfl rfl rfl rfl rfl rfl (by exact (by exact opd_field_ref rfl fo44_2 rfl rfl rfl rfl)) ?_)
    all_goals (first | refine al_off rfl rfl rfl rfl rfl ?_ | refine al_ond rfl rfl rfl rfl rfl rfl (by exact (by exact opd_load1_ref rfl Tryz.isAgg9 rfl rfl rfl rfl rfl)) ?_)
    all_goals (first | refine al_off rfl rfl rfl rfl rfl ?_ | refine al_ond rfl rfl rfl rfl rfl rfl (by exact (by exact opd_field_ref rfl fo44_3 rfl rfl rfl rfl)) ?_)
    all_goals (first | refine al_off rfl rfl rfl rfl rfl ?_ | refine al_ond rfl rfl rfl rfl rfl rfl (by exact (by exact opd_load1_ref rfl Tryz.isAgg9 rfl rfl rfl rfl rfl)) ?_)
    all_goals (first | refine al_off rfl rfl rfl rfl rfl ?_ | refine al_ond rfl rfl rfl rfl rfl rfl (by exact (by exact opd_field_ref rfl fo44_5 rfl rfl rfl rfl)) ?_)
    all_goals (first | refine al_off rfl rfl rfl rfl rfl ?_ | refine al_ond rfl rfl rfl rfl rfl rfl (by exact (by exact opd_load1_ref rfl Tryz.isAgg9 rfl rfl rfl rfl rfl)) ?_)
    all_goals (first | refine al_off rfl rfl rfl rfl rfl ?_ | refine al_ond rfl rfl rfl rfl rfl rfl (by exact x_build_arr rfl ao134 rfl rfl) ?_)
    all_goals (first | refine al_off rfl rfl rfl rfl rfl ?_ | refine al_ond rfl rfl rfl rfl rfl rfl (by exact (by exact opd_field_ref rfl fo44_1 rfl rfl rfl rfl)) ?_)
    all_goals (first | refine al_off rfl rfl rfl rfl rfl ?_ | refine al_ond rfl rfl rfl rfl rfl rfl (by exact (by exact opd_load1_ref rfl Tryz.isAgg9 rfl rfl rfl rfl rfl)) ?_)
    all_goals (first | refine al_off rfl rfl rfl rfl rfl ?_ | refine al_ond rfl rfl rfl rfl rfl rfl (by exact (by exact opd_field_ref rfl fo44_2 rfl rfl rfl rfl)) ?_)
    all_goals (first | refine al_off rfl rfl rfl rfl rfl ?_ | refine al_ond rfl rfl rfl rfl rfl rfl (by exact (by exact opd_load1_ref rfl Tryz.isAgg9 rfl rfl rfl rfl rfl)) ?_)
    all_goals (first | refine al_off rfl rfl rfl rfl rfl ?_ | refine al_ond rfl rfl rfl rfl rfl rfl (by exact (by exact opd_field_ref rfl fo44_3 rfl rfl rfl rfl)) ?_)
    all_goals (first | refine al_off rfl rfl rfl rfl rfl ?_ | refine al_ond rfl rfl rfl rfl rfl rfl (by exact (by exact opd_load1_ref rfl Tryz.isAgg9 rfl rfl rfl rfl rfl)) ?_)
    all_goals (first | refine al_off rfl rfl rfl rfl rfl ?_ | refine al_ond rfl rfl rfl rfl rfl rfl (by exact (by exact opd_field_ref rfl fo44_5 rfl rfl rfl rfl)) ?_)
    all_goals (first | refine al_off rfl rfl rfl rfl rfl ?_ | refine al_ond rfl rfl rfl rfl rfl rfl (by exact (by exact opd_load1_ref rfl Tryz.isAgg9 rfl rfl rfl rfl rfl)) ?_)
    all_goals (first | refine al_off rfl rfl rfl rfl rfl ?_ | refine al_ond rfl rfl rfl rfl rfl rfl (by exact x_build_arr rfl ao134 rfl rfl) ?_)
    all_goals (first | refine al_off rfl rfl rfl rfl rfl ?_ | refine al_ond rfl rfl rfl rfl rfl rfl (by exact opd_aeql rfl rfl rfl rfl rfl Tryz.eqGuardType134 (seS4 a.id b.id a.other b.other a.node b.node a.key b.key)) ?_)
    all_goals (refine al_d rfl rfl rfl (by exact (by first | exact opd_pick_t rfl rfl rfl | exact opd_pick_f rfl rfl rfl)) ?_)
    all_goals (refine al_d rfl rfl rfl (by exact opd_move rfl rfl) ?_)
    all_goals (refine al_split (t := 47) rfl (fun h47 => ?_) (fun h47 => ?_))
    all_goals (try contradiction)
    all_goals (first | refine al_off rfl rfl rfl rfl rfl ?_ | refine al_ond rfl rfl rfl rfl rfl rfl (by exact (by exact opd_field_ref rfl fo44_6 rfl rfl rfl rfl)) ?_)
    all_goals (first | refine al_off rfl rfl rfl rfl rfl ?_ | refine al_ond rfl rfl rfl rfl rfl rfl (by exact (by exact opd_load1_ref rfl Tryz.isAgg9 rfl rfl rfl rfl rfl)) ?_)
    all_goals (first | refine al_off rfl rfl rfl rfl rfl ?_ | refine al_ond rfl rfl rfl rfl rfl rfl (by exact (by exact opd_field_ref rfl fo44_6 rfl rfl rfl rfl)) ?_)
    all_goals (first | refine al_off rfl rfl rfl rfl rfl ?_ | refine al_ond rfl rfl rfl rfl rfl rfl (by exact (by exact opd_load1_ref rfl Tryz.isAgg9 rfl rfl rfl rfl rfl)) ?_)
    all_goals (first | refine al_off rfl rfl rfl rfl rfl ?_ | refine al_ond rfl rfl rfl rfl rfl rfl (by exact opd_seql rfl rfl rfl) ?_)
    all_goals (refine al_d rfl rfl rfl (by exact (by first | exact opd_pick_t rfl rfl rfl | exact opd_pick_f rfl rfl rfl)) ?_)
    all_goals (refine al_d rfl rfl rfl (by exact opd_move rfl rfl) ?_)
    all_goals (refine al_split (t := 54) rfl (fun h54 => ?_) (fun h54 => ?_))
    all_goals (try contradiction)
    all_goals (first | refine al_off rfl rfl rfl rfl rfl ?_ | refine al_ond rfl rfl rfl rfl rfl rfl (by exact (by exact opd_field_ref rfl fo44_4 rfl rfl rfl rfl)) ?_)
    all_goals (first | refine al_off rfl rfl rfl rfl rfl ?_ | refine al_ond rfl rfl rfl rfl rfl rfl (by exact (by exact opd_loadn_ref rfl Tryz.isAgg38 Tryz.sizeOf38 rfl rfl rfl rfl (by simp only [List.drop_succ_cons, List.drop_zero, List.take_succ_cons, List.take_zero, List.take_nil, List.map_cons, List.map_nil, List.set_cons_zero, List.set_cons_succ, List.cons_append, List.nil_append, encTag, encObj, encStr, encEdit]; rfl) rfl)) ?_)
    all_goals (first | refine al_off rfl rfl rfl rfl rfl ?_ | refine al_ond rfl rfl rfl rfl rfl rfl (by exact (by exact opd_field_ref rfl fo44_4 rfl rfl rfl rfl)) ?_)
    all_goals (first | refine al_off rfl rfl rfl rfl rfl ?_ | refine al_ond rfl rfl rfl rfl rfl rfl (by exact (by exact opd_loadn_ref rfl Tryz.isAgg38 Tryz.sizeOf38 rfl rfl rfl rfl (by simp only [List.drop_succ_cons, List.drop_zero, List.take_succ_cons, List.take_zero, List.take_nil, List.map_cons, List.map_nil, List.set_cons_zero, List.set_cons_succ, List.cons_append, List.nil_append, encTag, encObj, encStr, encEdit]; rfl) rfl)) ?_)
    all_goals (first | refine al_off rfl rfl rfl rfl rfl ?_ | refine al_ond rfl rfl rfl rfl rfl rfl (by exact opd_aeql rfl rfl rfl rfl rfl Tryz.eqGuardType38 (se38 _ _ _ _)) ?_)
    all_goals (refine al_d rfl rfl rfl (by exact (by first | exact opd_pick_t rfl rfl rfl | exact opd_pick_f rfl rfl rfl)) ?_)
    all_goals (refine al_d rfl rfl rfl (by exact opd_assign rfl rfl) ?_)
    all_goals (refine al_nil ?_)
    all_goals (exact ⟨⟨_, rfl, by (simp only [gSameE, *]; rfl)⟩, rfl, rfl, rfl⟩)
  refine awp_ret ?_
  -- return
  refine aret1 (H' := []) (by exact .inr rfl) rfl (rval_tmp rfl) (Fin.wk (by simp) trivial trivial) ?_
  exact ⟨rfl, rfl⟩
def atP {α : Type} (l : List α) (p : α → Bool) (k : Nat) : Bool := match l[k]? with
  | some s => p s
  | none => false
theorem atP_some {α : Type} {l : List α} {p : α → Bool} {k : Nat} {s : α} (h : l[k]? = some s) : atP l p k = p s := by rw [atP, h]
theorem range_any_get {α : Type} (l : List α) (p : α → Bool) : (List.range l.length).any (atP l p) = l.any p := by
  rw [Bool.eq_iff_iff, List.any_eq_true, List.any_eq_true]
  constructor
  · rintro ⟨k, hk, h⟩
    have hlt := List.mem_range.1 hk
    rw [atP_some (List.getElem?_eq_getElem hlt)] at h
    exact ⟨_, List.getElem_mem hlt, h⟩
  · rintro ⟨x, hx, h⟩
    obtain ⟨k, hk⟩ := List.mem_iff_getElem?.1 hx
    exact ⟨k, List.mem_range.2 (List.getElem?_eq_some_iff.1 hk).1, by rw [atP_some hk]; exact h⟩
theorem names1_c (s : ByteArray) (H : Heap) (hs : s.size < 4611686018427387904) : ACalls Tryz.prog 121 [sv s] H (fun r H' => r = bv (!gName s) ∧ H' = H) := by
  refine ACalls.pure ?_ (by simp) H
  refine ACalls.body Tryz.func121 rfl Tryz.ntmps121 (Nat.le_of_ble_eq_true rfl) ?_
  refine awp_seq ?_
  refine awp_region ?_
  refine al_d rfl rfl rfl (by exact opd_assign rfl rfl) ?_
  refine al_nil ?_
  refine awp_seq ?_
  refine awp_region ?_
  refine al_d rfl rfl rfl (by exact opd_move rfl rfl) ?_
  refine al_d rfl rfl rfl (by exact opr_call rfl rfl Tryz.call122 rfl (name_c s _ hs)) ?_
  refine al_d rfl rfl rfl (by exact opd_not rfl rfl) ?_
  refine al_d rfl rfl rfl (by exact opd_assign rfl rfl) ?_
  refine al_nil ?_
  refine awp_ret ?_
  -- return
  refine aret1 (H' := []) (by exact .inr rfl) rfl (rval_tmp rfl) (Fin.wk (by simp) trivial trivial) ?_
  exact ⟨rfl, rfl⟩
theorem names_c (l : List ByteArray) (H : Heap) (hl : l.length < 4611686018427387904) (hs : ∀ s ∈ l, s.size < 4611686018427387904) : ACalls Tryz.prog 67 [.pv (slStrs l)] H (fun r H' => r = bv (l.all gName) ∧ H' = H) := by
  refine ACalls.pure ?_ (by simp) H
  have e : l.all gName = !(List.range l.length).any (atP l (fun s => !gName s)) := by
    rw [range_any_get l (fun s => !gName s), List.any_eq_not_all_not]
    simp
  rw [e]
  refine ACalls.body Tryz.func67 rfl Tryz.ntmps67 (Nat.le_of_ble_eq_true rfl) ?_
  refine awp_seq ?_
  refine awp_region ?_
  refine al_d rfl rfl rfl (by exact opd_assign rfl rfl) ?_
  refine al_nil ?_
  refine awp_seq ?_
  refine awp_region ?_
  refine al_d rfl rfl rfl (by exact opd_move rfl rfl) ?_
  refine al_d rfl rfl rfl (by exact opr_call rfl rfl Tryz.call120 rfl (containsFuncS (.pv (.fn 121)) l (atP l (fun s => !gName s)) (fun _ => []) hl (fun k s hk => CallsV.fn Tryz.call121 (by rw [atP_some hk]; exact names1_c s _ (hs s (List.mem_of_getElem? hk)))))) ?_
  refine al_d rfl rfl rfl (by exact opd_not rfl rfl) ?_
  refine al_d rfl rfl rfl (by exact opd_assign rfl rfl) ?_
  refine al_nil ?_
  refine awp_ret ?_
  -- return
  refine aret1 (H' := []) (by exact .inr rfl) rfl (rval_tmp rfl) (Fin.wk (by simp) trivial trivial) ?_
  exact ⟨rfl, rfl⟩
end Go.Proofs.YtdgoodjhndeojaaGreat
end
section
set_option linter.unusedVariables false
set_option linter.unusedSimpArgs false
set_option maxRecDepth 100000
namespace Go.Proofs.YtdgoodjhndeojaaGreat
open Go.Abs
/-- The fields that an edit's operation uses, all others zero. -/
def xOf (e : GEdit) : GEdit :=
  if e.op = 1 then ⟨e.op, sNil, sNil, sNil, 0, 0, sNil, sNil, [], e.obj⟩
  else if e.op = 2 then ⟨e.op, e.id, sNil, sNil, e.x, e.y, sNil, sNil, [], zObj⟩
  else if e.op = 3 then ⟨e.op, e.id, sNil, sNil, 0, 0, e.key, e.val, [], zObj⟩
  else if e.op = 4 then ⟨e.op, e.id, sNil, sNil, 0, 0, sNil, sNil, e.refs, zObj⟩
  else if e.op = 5 then ⟨e.op, e.id, sNil, sNil, 0, 0, sNil, sNil, [], zObj⟩
  else if e.op = 6 then ⟨e.op, e.id, e.other, e.node, 0, 0, sNil, sNil, [], zObj⟩
  else ⟨e.op, e.id, e.other, sNil, 0, 0, sNil, sNil, [], zObj⟩
def okOf (e : GEdit) : Bool :=
  if e.op = 1 then gObj e.obj
  else gName e.id && (if e.op = 2 then onP e.x e.y else if e.op = 3 then gName e.key && decide ((e.val.size : Int) ≤ 200)
    else if e.op = 4 then decide ((0 : Int) < (e.refs.length : Int)) && decide ((e.refs.length : Int) ≤ 2000) && e.refs.all gName
    else if e.op = 5 then true else if e.op = 6 then gName e.node && gName e.other else gName e.other)
def gEditV (e : GEdit) : Bool := (decide (1 ≤ e.op) && decide (e.op ≤ 7)) && (okOf e && gSameE (xOf e) e)
def okE (e : GEdit) : Prop := (e.id.size < 4611686018427387904 ∧ e.other.size < 4611686018427387904 ∧ e.node.size < 4611686018427387904 ∧ e.key.size < 4611686018427387904) ∧ (e.refs.length < 4611686018427387904 ∧ ∀ s ∈ e.refs, s.size < 4611686018427387904) ∧ okO e.obj
theorem okS_of {o : GObj} (h : okO o) : okS o := ⟨h.2.2.1, h.2.1.1⟩
theorem okS_z : okS zObj := ⟨by decide, by decide⟩
theorem n1_c (s : ByteArray) (H : Heap) (hs : s.size < 4611686018427387904) : ACalls Tryz.prog 67 [.pv (slStrs [s])] H (fun r H' => r = bv (gName s) ∧ H' = H) := by
  have h := names_c [s] H (by show 1 < _; omega) (by simpa using hs)
  simpa using h
theorem n2_c (s t : ByteArray) (H : Heap) (hs : s.size < 4611686018427387904) (ht : t.size < 4611686018427387904) : ACalls Tryz.prog 67 [.pv (slStrs [s, t])] H (fun r H' => r = bv (gName s && gName t) ∧ H' = H) := by
  have h := names_c [s, t] H (by show 2 < _; omega) (by simpa using ⟨hs, ht⟩)
  simpa using h
theorem editValid_c (e : GEdit) (H : Heap) (he : okE e) : ACalls Tryz.prog 25 [av (encEdit e)] H (fun r H' => r = bv (gEditV e) ∧ H' = H) := by
  refine ACalls.pure ?_ (by simp) H
  obtain ⟨⟨h1, h2, h3, h4⟩, ⟨h5, h6⟩, h7⟩ := he
  have hrl : (e.refs.map encStr).length = e.refs.length := List.length_map _
  refine ACalls.body Tryz.func25 rfl Tryz.ntmps25 (Nat.le_of_ble_eq_true rfl) ?_
  refine awp_seq ?_
  refine awp_region ?_
  refine al_d rfl rfl rfl (by exact opd_box (id := 1) rfl rfl rfl rfl rfl) ?_
  refine al_d rfl rfl rfl (by exact opd_assign rfl rfl) ?_
  refine al_nil ?_
  refine awp_seq ?_
  refine awp_region ?_
  refine al_d rfl rfl rfl (by exact (by exact opd_field_ref rfl fo44_0 rfl rfl rfl rfl)) ?_
  refine al_d rfl rfl rfl (by exact (by exact opd_load1_ref rfl Tryz.isAgg3 rfl rfl rfl rfl rfl)) ?_
  refine al_d rfl rfl rfl (by exact (by exact opd_field_ref rfl fo44_1 rfl rfl rfl rfl)) ?_
  refine al_d rfl rfl rfl (by exact (by exact opd_load1_ref rfl Tryz.isAgg9 rfl rfl rfl rfl rfl)) ?_
  refine al_d rfl rfl rfl (by exact x_build rfl bo44 rfl rfl) ?_
  refine al_d rfl rfl rfl (by exact x_alloc (id := 3) rfl zo44 rfl rfl) ?_
  refine al_n rfl rfl (by exact (by exact x_store_all rfl Tryz.sizeOf44 rfl rfl rfl rfl rfl rfl rfl rfl)) ?_
  refine al_nil ?_
  refine awp_seq ?_
  refine awp_region ?_
  refine al_d rfl rfl rfl (by exact (by exact opd_field_ref rfl fo44_1 rfl rfl rfl rfl)) ?_
  refine al_d rfl rfl rfl (by exact (by exact opd_load1_ref rfl Tryz.isAgg9 rfl rfl rfl rfl rfl)) ?_
  refine al_d rfl rfl rfl (by exact x_buildSlice ([e.id].map encStr) rfl so39 rfl rfl rfl rfl rfl (by simp [encStr])) ?_
  refine al_d rfl rfl rfl (by exact opr_call rfl rfl Tryz.call67 rfl (n1_c e.id _ h1)) ?_
  refine al_d rfl rfl rfl (by exact opd_assign rfl rfl) ?_
  refine al_nil ?_
  refine awp_seq ?_
  refine awp_seq ?_
  refine awp_region ?_
  refine al_d rfl rfl rfl (by exact (by exact opd_field_ref rfl fo44_0 rfl rfl rfl rfl)) ?_
  refine al_d rfl rfl rfl (by exact (by exact opd_load1_ref rfl Tryz.isAgg3 rfl rfl rfl rfl rfl)) ?_
  refine al_nil ?_
  refine awp_block ?_
  refine awp_seq ?_
  refine awp_region ?_
  refine al_d rfl rfl rfl (by exact opd_eql rfl rfl rfl) ?_
  refine al_d rfl rfl rfl (by exact opd_assign rfl rfl) ?_
  refine al_nil ?_
  refine awp_cond rfl (fun hc1 => ?_) (fun hc1 => ?_)
  -- cond 1
  · have ho : e.op = 1 := of_decide_eq_true hc1
    have hx : xOf e = ⟨e.op, sNil, sNil, sNil, 0, 0, sNil, sNil, [], e.obj⟩ := by rw [xOf, if_pos ho]
    have hk : okOf e = gObj e.obj := by rw [okOf, if_pos ho]
    have hv : gEditV e = (gObj e.obj && gSameE ⟨e.op, sNil, sNil, sNil, 0, 0, sNil, sNil, [], e.obj⟩ e) := by rw [gEditV, hx, hk, ho]; rfl
    refine awp_drawc follows ?_
    refine dc_cons (r := ⟨_, some [1], []⟩) (DStep.plain rfl (fun H1 hH => by exact (by exact opd_field_ref rfl fo44_8 rfl ((hH _ rfl).trans rfl) rfl rfl))) rfl ?_
    refine dc_cons (r := ⟨_, some [1], []⟩) (DStep.plain rfl (fun H1 hH => by exact (by exact opd_loadn_ref rfl Tryz.isAgg42 Tryz.sizeOf42 rfl ((hH _ rfl).trans rfl) rfl rfl (by simp only [List.drop_succ_cons, List.drop_zero, List.take_succ_cons, List.take_zero, List.take_nil, List.map_cons, List.map_nil, List.set_cons_zero, List.set_cons_succ, List.cons_append, List.nil_append, encTag, encObj, encStr, encEdit, zObj]; rfl) rfl))) rfl ?_
    refine dc_cons (r := ⟨_, some [1], []⟩) (DStep.plain rfl (fun H1 hH => by exact (by exact opd_field_ref rfl fo44_8 rfl ((hH _ rfl).trans rfl) rfl rfl))) rfl ?_
    refine dc_cons (r := ⟨_, some [1], []⟩) (DStep.plain rfl (fun H1 hH => by exact (by exact opd_loadn_ref rfl Tryz.isAgg42 Tryz.sizeOf42 rfl ((hH _ rfl).trans rfl) rfl rfl (by simp only [List.drop_succ_cons, List.drop_zero, List.take_succ_cons, List.take_zero, List.take_nil, List.map_cons, List.map_nil, List.set_cons_zero, List.set_cons_succ, List.cons_append, List.nil_append, encTag, encObj, encStr, encEdit, zObj]; rfl) rfl))) rfl ?_
    refine dc_cons (r := ⟨_, some [], []⟩) (DStep.plain rfl (fun H1 hH => by exact opr_call rfl rfl Tryz.call68 rfl (objValid_c e.obj _ h7))) rfl ?_
    refine dc_cons (r := ⟨_, some [3], []⟩) (DStep.plain rfl (fun H1 hH => by exact (by exact opd_field_ref rfl fo44_1 rfl ((hH _ rfl).trans rfl) rfl rfl))) rfl ?_
    refine dc_cons (r := ⟨_, some [3], [_]⟩) (DStep.plain rfl (fun H1 hH => by exact (by exact x_store1 rfl Tryz.sizeOf9 rfl rfl rfl ((hH _ rfl).trans rfl) rfl rfl (Nat.le_of_ble_eq_true rfl) rfl rfl))) rfl ?_
    refine dc_cons (r := ⟨_, some [3], []⟩) (DStep.plain rfl (fun H1 hH => by exact (by exact opd_field_ref rfl fo44_8 rfl ((hH _ rfl).trans rfl) rfl rfl))) rfl ?_
    refine dc_cons (r := ⟨_, some [3], [_]⟩) (DStep.plain rfl (fun H1 hH => by exact (by exact x_store rfl Tryz.sizeOf42 rfl rfl rfl rfl ((hH _ rfl).trans rfl) rfl rfl (Nat.le_of_ble_eq_true rfl) rfl rfl))) rfl ?_
    refine dc_cons (r := ⟨_, some [], []⟩) (DStep.plain rfl (fun H1 hH => by exact opd_assign rfl rfl)) rfl ?_
    refine dc_nil ⟨by kernel_rfl, ?_⟩
    refine awp_seq ?_
    refine awp_bool (t := 2) (n := 8) (X := gObj e.obj && gSameE ⟨e.op, sNil, sNil, sNil, 0, 0, sNil, sNil, [], e.obj⟩ e) ?_ ?_
    · all_goals (refine al_d rfl rfl rfl (by exact opd_move rfl rfl) ?_)
      all_goals (refine al_d rfl rfl rfl (by exact opd_move rfl rfl) ?_)
      all_goals (refine al_split (t := 127) rfl (fun h127 => ?_) (fun h127 => ?_))
      all_goals (try contradiction)
      all_goals (first | refine al_off rfl rfl rfl rfl rfl ?_ | refine al_ond rfl rfl rfl rfl rfl rfl (by exact (by exact opd_loadn_ref rfl Tryz.isAgg44 Tryz.sizeOf44 rfl rfl rfl rfl (by simp only [List.drop_succ_cons, List.drop_zero, List.take_succ_cons, List.take_zero, List.take_nil, List.map_cons, List.map_nil, List.set_cons_zero, List.set_cons_succ, List.cons_append, List.nil_append, encTag, encObj, encStr, encEdit, zObj]; rfl) rfl)) ?_)
      all_goals (first | refine al_off rfl rfl rfl rfl rfl ?_ | refine al_ond rfl rfl rfl rfl rfl rfl (by exact (by exact opd_loadn_ref rfl Tryz.isAgg44 Tryz.sizeOf44 rfl rfl rfl rfl (by simp only [List.drop_succ_cons, List.drop_zero, List.take_succ_cons, List.take_zero, List.take_nil, List.map_cons, List.map_nil, List.set_cons_zero, List.set_cons_succ, List.cons_append, List.nil_append, encTag, encObj, encStr, encEdit, zObj]; rfl) rfl)) ?_)
      all_goals (first | refine al_off rfl rfl rfl rfl rfl ?_ | refine al_ond rfl rfl rfl rfl rfl rfl (by exact opr_call rfl rfl Tryz.call69 rfl (sameE_c ⟨e.op, sNil, sNil, sNil, 0, 0, sNil, sNil, [], e.obj⟩ e _ (by show 0 < _; omega) (okS_of h7))) ?_)
      all_goals (refine al_d rfl rfl rfl (by exact (by first | exact opd_pick_t rfl rfl rfl | exact opd_pick_f rfl rfl rfl)) ?_)
      all_goals (refine al_d rfl rfl rfl (by exact opd_assign rfl rfl) ?_)
      all_goals (refine al_nil ?_)
      all_goals (exact ⟨⟨_, rfl, by (simp_all [gObj]; done)⟩, rfl, rfl, rfl⟩)
    refine awp_ret ?_
    -- return
    refine aret1 (H' := []) (by exact .inr rfl) rfl (rval_tmp rfl) (Fin.wk (by simp) trivial trivial) ?_
    exact ⟨by rw [hv], rfl⟩
  · have ho1 : ¬ e.op = 1 := of_decide_eq_false hc1
    refine awp_seq ?_
    refine awp_region ?_
    refine al_d rfl rfl rfl (by exact opd_eql rfl rfl rfl) ?_
    refine al_d rfl rfl rfl (by exact opd_assign rfl rfl) ?_
    refine al_nil ?_
    refine awp_cond rfl (fun hc2 => ?_) (fun hc2 => ?_)
    -- cond 2
    · have ho : e.op = 2 := of_decide_eq_true hc2
      have hx : xOf e = ⟨e.op, e.id, sNil, sNil, e.x, e.y, sNil, sNil, [], zObj⟩ := by rw [xOf, if_neg ho1, if_pos ho]
      have hk : okOf e = (gName e.id && onP e.x e.y) := by rw [okOf, if_neg ho1, if_pos ho]
      have hb : (gName e.id && decide (0 ≤ min e.x e.y) && decide (max e.x e.y < 1048576)) = (gName e.id && onP e.x e.y) := by rw [onP, Bool.and_assoc]
      have hv : gEditV e = ((gName e.id && decide (0 ≤ min e.x e.y) && decide (max e.x e.y < 1048576)) && gSameE ⟨e.op, e.id, sNil, sNil, e.x, e.y, sNil, sNil, [], zObj⟩ e) := by rw [gEditV, hx, hk, hb, ho]; rfl
      apply awp_mergeW (t := 4) (n := 25) (X := gName e.id && decide (0 ≤ min e.x e.y) && decide (max e.x e.y < 1048576))
      · cases hg30 : (gName e.id : Bool)
        · refine awp_drawc follows ?_
          refine dc_cons (r := ⟨_, some [1], []⟩) (DStep.plain rfl (fun H1 hH => by exact (by exact opd_field_ref rfl fo44_4 rfl ((hH _ rfl).trans rfl) rfl rfl))) rfl ?_
          refine dc_cons (r := ⟨_, some [1], []⟩) (DStep.plain rfl (fun H1 hH => by exact (by exact opd_loadn_ref rfl Tryz.isAgg38 Tryz.sizeOf38 rfl ((hH _ rfl).trans rfl) rfl rfl (by simp only [List.drop_succ_cons, List.drop_zero, List.take_succ_cons, List.take_zero, List.take_nil, List.map_cons, List.map_nil, List.set_cons_zero, List.set_cons_succ, List.cons_append, List.nil_append, encTag, encObj, encStr, encEdit, zObj]; rfl) rfl))) rfl ?_
          refine dc_cons (r := ⟨_, some [], []⟩) (DStep.plain rfl (fun H1 hH => by exact opd_move rfl rfl)) rfl ?_
          refine dc_cons (r := ⟨_, some [], []⟩) (DStep.plain rfl (fun H1 hH => by exact opd_move rfl rfl)) rfl ?_
          refine dc_cons (q_off_t rfl rfl rfl (by rfl)) rfl ?_
          refine dc_cons (q_off_t rfl rfl rfl (by rfl)) rfl ?_
          refine dc_cons (q_off_t rfl rfl rfl (by rfl)) rfl ?_
          refine dc_cons (q_off_t rfl rfl rfl (by rfl)) rfl ?_
          refine dc_cons (q_off_t rfl rfl rfl (by rfl)) rfl ?_
          refine dc_cons (q_off_t rfl rfl rfl (by rfl)) rfl ?_
          refine dc_cons (q_off_t rfl rfl rfl (by rfl)) rfl ?_
          refine dc_cons (q_off_t rfl rfl rfl (by rfl)) rfl ?_
          refine dc_cons (r := ⟨_, some [], []⟩) (DStep.plain rfl (fun H1 hH => by exact (by exact opd_pick_f rfl rfl rfl))) rfl ?_
          refine dc_cons (r := ⟨_, some [], []⟩) (DStep.plain rfl (fun H1 hH => by exact opd_move rfl rfl)) rfl ?_
          refine dc_cons (q_off_t rfl rfl rfl (by rfl)) rfl ?_
          refine dc_cons (q_off_t rfl rfl rfl (by rfl)) rfl ?_
          refine dc_cons (q_off_t rfl rfl rfl (by rfl)) rfl ?_
          refine dc_cons (q_off_t rfl rfl rfl (by rfl)) rfl ?_
          refine dc_cons (q_off_t rfl rfl rfl (by rfl)) rfl ?_
          refine dc_cons (q_off_t rfl rfl rfl (by rfl)) rfl ?_
          refine dc_cons (q_off_t rfl rfl rfl (by rfl)) rfl ?_
          refine dc_cons (q_off_t rfl rfl rfl (by rfl)) rfl ?_
          refine dc_cons (r := ⟨_, some [], []⟩) (DStep.plain rfl (fun H1 hH => by exact (by exact opd_pick_f rfl rfl rfl))) rfl ?_
          refine dc_cons (r := ⟨_, some [3], []⟩) (DStep.plain rfl (fun H1 hH => by exact (by exact opd_field_ref rfl fo44_4 rfl ((hH _ rfl).trans rfl) rfl rfl))) rfl ?_
          refine dc_cons (r := ⟨_, some [3], [_]⟩) (DStep.plain rfl (fun H1 hH => by exact (by exact x_store rfl Tryz.sizeOf38 rfl rfl rfl rfl ((hH _ rfl).trans rfl) rfl rfl (Nat.le_of_ble_eq_true rfl) rfl rfl))) rfl ?_
          refine dc_cons (r := ⟨_, some [], []⟩) (DStep.plain rfl (fun H1 hH => by exact opd_assign rfl rfl)) rfl ?_
          refine dc_nil ⟨by kernel_rfl, ?_⟩
          exact ⟨rfl, ⟨_, rfl, by rfl⟩, rfl, rfl, rfl⟩
        · cases hg40 : (decide (0 ≤ min e.x e.y) : Bool)
          · refine awp_drawc follows ?_
            refine dc_cons (r := ⟨_, some [1], []⟩) (DStep.plain rfl (fun H1 hH => by exact (by exact opd_field_ref rfl fo44_4 rfl ((hH _ rfl).trans rfl) rfl rfl))) rfl ?_
            refine dc_cons (r := ⟨_, some [1], []⟩) (DStep.plain rfl (fun H1 hH => by exact (by exact opd_loadn_ref rfl Tryz.isAgg38 Tryz.sizeOf38 rfl ((hH _ rfl).trans rfl) rfl rfl (by simp only [List.drop_succ_cons, List.drop_zero, List.take_succ_cons, List.take_zero, List.take_nil, List.map_cons, List.map_nil, List.set_cons_zero, List.set_cons_succ, List.cons_append, List.nil_append, encTag, encObj, encStr, encEdit, zObj]; rfl) rfl))) rfl ?_
            refine dc_cons (r := ⟨_, some [], []⟩) (DStep.plain rfl (fun H1 hH => by exact opd_move rfl rfl)) rfl ?_
            refine dc_cons (r := ⟨_, some [], []⟩) (DStep.plain rfl (fun H1 hH => by exact opd_move rfl rfl)) rfl ?_
            refine dc_cons (r := ⟨_, some [1], []⟩) (l_on_t rfl rfl rfl (by rfl) (fun H1 hH => by exact (by exact opd_field_ref rfl fo44_4 rfl ((hH _ rfl).trans rfl) rfl rfl))) rfl ?_
            refine dc_cons (r := ⟨_, some [1], []⟩) (l_on_t rfl rfl rfl (by rfl) (fun H1 hH => by exact (by exact opd_field_ref rfl fo38_0 rfl ((hH _ rfl).trans rfl) rfl rfl))) rfl ?_
            refine dc_cons (r := ⟨_, some [1], []⟩) (l_on_t rfl rfl rfl (by rfl) (fun H1 hH => by exact (by exact opd_load1_ref rfl Tryz.isAgg3 rfl ((hH _ rfl).trans rfl) rfl rfl rfl))) rfl ?_
            refine dc_cons (r := ⟨_, some [1], []⟩) (l_on_t rfl rfl rfl (by rfl) (fun H1 hH => by exact (by exact opd_field_ref rfl fo44_4 rfl ((hH _ rfl).trans rfl) rfl rfl))) rfl ?_
            refine dc_cons (r := ⟨_, some [1], []⟩) (l_on_t rfl rfl rfl (by rfl) (fun H1 hH => by exact (by exact opd_field_ref rfl fo38_1 rfl ((hH _ rfl).trans rfl) rfl rfl))) rfl ?_
            refine dc_cons (r := ⟨_, some [1], []⟩) (l_on_t rfl rfl rfl (by rfl) (fun H1 hH => by exact (by exact opd_load1_ref rfl Tryz.isAgg3 rfl ((hH _ rfl).trans rfl) rfl rfl rfl))) rfl ?_
            refine dc_cons (r := ⟨_, some [], []⟩) (l_on_t rfl rfl rfl (by rfl) (fun H1 hH => by exact opd_min rfl rfl rfl rfl)) rfl ?_
            refine dc_cons (r := ⟨_, some [], []⟩) (l_on_t rfl rfl rfl (by rfl) (fun H1 hH => by exact opd_geq rfl rfl rfl)) rfl ?_
            refine dc_cons (r := ⟨_, some [], []⟩) (DStep.plain rfl (fun H1 hH => by exact (by exact opd_pick_t rfl rfl rfl))) rfl ?_
            refine dc_cons (r := ⟨_, some [], []⟩) (DStep.plain rfl (fun H1 hH => by exact opd_move rfl rfl)) rfl ?_
            refine dc_cons (q_off_t rfl rfl rfl (by assumption)) rfl ?_
            refine dc_cons (q_off_t rfl rfl rfl (by assumption)) rfl ?_
            refine dc_cons (q_off_t rfl rfl rfl (by assumption)) rfl ?_
            refine dc_cons (q_off_t rfl rfl rfl (by assumption)) rfl ?_
            refine dc_cons (q_off_t rfl rfl rfl (by assumption)) rfl ?_
            refine dc_cons (q_off_t rfl rfl rfl (by assumption)) rfl ?_
            refine dc_cons (q_off_t rfl rfl rfl (by assumption)) rfl ?_
            refine dc_cons (q_off_t rfl rfl rfl (by assumption)) rfl ?_
            refine dc_cons (r := ⟨_, some [], []⟩) (DStep.plain rfl (fun H1 hH => by exact (by exact opd_pickf rfl rfl (by assumption) rfl))) rfl ?_
            refine dc_cons (r := ⟨_, some [3], []⟩) (DStep.plain rfl (fun H1 hH => by exact (by exact opd_field_ref rfl fo44_4 rfl ((hH _ rfl).trans rfl) rfl rfl))) rfl ?_
            refine dc_cons (r := ⟨_, some [3], [_]⟩) (DStep.plain rfl (fun H1 hH => by exact (by exact x_store rfl Tryz.sizeOf38 rfl rfl rfl rfl ((hH _ rfl).trans rfl) rfl rfl (Nat.le_of_ble_eq_true rfl) rfl rfl))) rfl ?_
            refine dc_cons (r := ⟨_, some [], []⟩) (DStep.plain rfl (fun H1 hH => by exact opd_assign rfl rfl)) rfl ?_
            refine dc_nil ⟨by kernel_rfl, ?_⟩
            exact ⟨rfl, ⟨_, rfl, by rfl⟩, rfl, rfl, rfl⟩
          · refine awp_drawc follows ?_
            refine dc_cons (r := ⟨_, some [1], []⟩) (DStep.plain rfl (fun H1 hH => by exact (by exact opd_field_ref rfl fo44_4 rfl ((hH _ rfl).trans rfl) rfl rfl))) rfl ?_
            refine dc_cons (r := ⟨_, some [1], []⟩) (DStep.plain rfl (fun H1 hH => by exact (by exact opd_loadn_ref rfl Tryz.isAgg38 Tryz.sizeOf38 rfl ((hH _ rfl).trans rfl) rfl rfl (by simp only [List.drop_succ_cons, List.drop_zero, List.take_succ_cons, List.take_zero, List.take_nil, List.map_cons, List.map_nil, List.set_cons_zero, List.set_cons_succ, List.cons_append, List.nil_append, encTag, encObj, encStr, encEdit, zObj]; rfl) rfl))) rfl ?_
            refine dc_cons (r := ⟨_, some [], []⟩) (DStep.plain rfl (fun H1 hH => by exact opd_move rfl rfl)) rfl ?_
            refine dc_cons (r := ⟨_, some [], []⟩) (DStep.plain rfl (fun H1 hH => by exact opd_move rfl rfl)) rfl ?_
            refine dc_cons (r := ⟨_, some [1], []⟩) (l_on_t rfl rfl rfl (by rfl) (fun H1 hH => by exact (by exact opd_field_ref rfl fo44_4 rfl ((hH _ rfl).trans rfl) rfl rfl))) rfl ?_
            refine dc_cons (r := ⟨_, some [1], []⟩) (l_on_t rfl rfl rfl (by rfl) (fun H1 hH => by exact (by exact opd_field_ref rfl fo38_0 rfl ((hH _ rfl).trans rfl) rfl rfl))) rfl ?_
            refine dc_cons (r := ⟨_, some [1], []⟩) (l_on_t rfl rfl rfl (by rfl) (fun H1 hH => by exact (by exact opd_load1_ref rfl Tryz.isAgg3 rfl ((hH _ rfl).trans rfl) rfl rfl rfl))) rfl ?_
            refine dc_cons (r := ⟨_, some [1], []⟩) (l_on_t rfl rfl rfl (by rfl) (fun H1 hH => by exact (by exact opd_field_ref rfl fo44_4 rfl ((hH _ rfl).trans rfl) rfl rfl))) rfl ?_
            refine dc_cons (r := ⟨_, some [1], []⟩) (l_on_t rfl rfl rfl (by rfl) (fun H1 hH => by exact (by exact opd_field_ref rfl fo38_1 rfl ((hH _ rfl).trans rfl) rfl rfl))) rfl ?_
            refine dc_cons (r := ⟨_, some [1], []⟩) (l_on_t rfl rfl rfl (by rfl) (fun H1 hH => by exact (by exact opd_load1_ref rfl Tryz.isAgg3 rfl ((hH _ rfl).trans rfl) rfl rfl rfl))) rfl ?_
            refine dc_cons (r := ⟨_, some [], []⟩) (l_on_t rfl rfl rfl (by rfl) (fun H1 hH => by exact opd_min rfl rfl rfl rfl)) rfl ?_
            refine dc_cons (r := ⟨_, some [], []⟩) (l_on_t rfl rfl rfl (by rfl) (fun H1 hH => by exact opd_geq rfl rfl rfl)) rfl ?_
            refine dc_cons (r := ⟨_, some [], []⟩) (DStep.plain rfl (fun H1 hH => by exact (by exact opd_pick_t rfl rfl rfl))) rfl ?_
            refine dc_cons (r := ⟨_, some [], []⟩) (DStep.plain rfl (fun H1 hH => by exact opd_move rfl rfl)) rfl ?_
            refine dc_cons (r := ⟨_, some [1], []⟩) (l_on_t rfl rfl rfl (by assumption) (fun H1 hH => by exact (by exact opd_field_ref rfl fo44_4 rfl ((hH _ rfl).trans rfl) rfl rfl))) rfl ?_
            refine dc_cons (r := ⟨_, some [1], []⟩) (l_on_t rfl rfl rfl (by assumption) (fun H1 hH => by exact (by exact opd_field_ref rfl fo38_0 rfl ((hH _ rfl).trans rfl) rfl rfl))) rfl ?_
            refine dc_cons (r := ⟨_, some [1], []⟩) (l_on_t rfl rfl rfl (by assumption) (fun H1 hH => by exact (by exact opd_load1_ref rfl Tryz.isAgg3 rfl ((hH _ rfl).trans rfl) rfl rfl rfl))) rfl ?_
            refine dc_cons (r := ⟨_, some [1], []⟩) (l_on_t rfl rfl rfl (by assumption) (fun H1 hH => by exact (by exact opd_field_ref rfl fo44_4 rfl ((hH _ rfl).trans rfl) rfl rfl))) rfl ?_
            refine dc_cons (r := ⟨_, some [1], []⟩) (l_on_t rfl rfl rfl (by assumption) (fun H1 hH => by exact (by exact opd_field_ref rfl fo38_1 rfl ((hH _ rfl).trans rfl) rfl rfl))) rfl ?_
            refine dc_cons (r := ⟨_, some [1], []⟩) (l_on_t rfl rfl rfl (by assumption) (fun H1 hH => by exact (by exact opd_load1_ref rfl Tryz.isAgg3 rfl ((hH _ rfl).trans rfl) rfl rfl rfl))) rfl ?_
            refine dc_cons (r := ⟨_, some [], []⟩) (l_on_t rfl rfl rfl (by assumption) (fun H1 hH => by exact opd_max rfl rfl rfl rfl)) rfl ?_
            refine dc_cons (r := ⟨_, some [], []⟩) (l_on_t rfl rfl rfl (by assumption) (fun H1 hH => by exact opd_lss rfl rfl rfl)) rfl ?_
            refine dc_cons (r := ⟨_, some [], []⟩) (DStep.plain rfl (fun H1 hH => by exact (by exact opd_pickt rfl rfl (by assumption) rfl))) rfl ?_
            refine dc_cons (r := ⟨_, some [3], []⟩) (DStep.plain rfl (fun H1 hH => by exact (by exact opd_field_ref rfl fo44_4 rfl ((hH _ rfl).trans rfl) rfl rfl))) rfl ?_
            refine dc_cons (r := ⟨_, some [3], [_]⟩) (DStep.plain rfl (fun H1 hH => by exact (by exact x_store rfl Tryz.sizeOf38 rfl rfl rfl rfl ((hH _ rfl).trans rfl) rfl rfl (Nat.le_of_ble_eq_true rfl) rfl rfl))) rfl ?_
            refine dc_cons (r := ⟨_, some [], []⟩) (DStep.plain rfl (fun H1 hH => by exact opd_assign rfl rfl)) rfl ?_
            refine dc_nil ⟨by kernel_rfl, ?_⟩
            exact ⟨rfl, ⟨_, rfl, by rfl⟩, rfl, rfl, rfl⟩
      refine awp_seq ?_
      refine awp_bool (t := 2) (n := 8) (X := (gName e.id && decide (0 ≤ min e.x e.y) && decide (max e.x e.y < 1048576)) && gSameE ⟨e.op, e.id, sNil, sNil, e.x, e.y, sNil, sNil, [], zObj⟩ e) ?_ ?_
      · all_goals (refine al_d rfl rfl rfl (by exact opd_move rfl rfl) ?_)
        all_goals (refine al_d rfl rfl rfl (by exact opd_move rfl rfl) ?_)
        all_goals (refine al_split (t := 127) rfl (fun h127 => ?_) (fun h127 => ?_))
        all_goals (try contradiction)
        all_goals (first | refine al_off rfl rfl rfl rfl rfl ?_ | refine al_ond rfl rfl rfl rfl rfl rfl (by exact (by exact opd_loadn_ref rfl Tryz.isAgg44 Tryz.sizeOf44 rfl rfl rfl rfl (by simp only [List.drop_succ_cons, List.drop_zero, List.take_succ_cons, List.take_zero, List.take_nil, List.map_cons, List.map_nil, List.set_cons_zero, List.set_cons_succ, List.cons_append, List.nil_append, encTag, encObj, encStr, encEdit, zObj]; rfl) rfl)) ?_)
        all_goals (first | refine al_off rfl rfl rfl rfl rfl ?_ | refine al_ond rfl rfl rfl rfl rfl rfl (by exact (by exact opd_loadn_ref rfl Tryz.isAgg44 Tryz.sizeOf44 rfl rfl rfl rfl (by simp only [List.drop_succ_cons, List.drop_zero, List.take_succ_cons, List.take_zero, List.take_nil, List.map_cons, List.map_nil, List.set_cons_zero, List.set_cons_succ, List.cons_append, List.nil_append, encTag, encObj, encStr, encEdit, zObj]; rfl) rfl)) ?_)
        all_goals (first | refine al_off rfl rfl rfl rfl rfl ?_ | refine al_ond rfl rfl rfl rfl rfl rfl (by exact opr_call rfl rfl Tryz.call69 rfl (sameE_c ⟨e.op, e.id, sNil, sNil, e.x, e.y, sNil, sNil, [], zObj⟩ e _ (by (show 0 < _; omega)) okS_z)) ?_)
        all_goals (refine al_d rfl rfl rfl (by exact (by first | exact opd_pick_t rfl rfl rfl | exact opd_pick_f rfl rfl rfl)) ?_)
        all_goals (refine al_d rfl rfl rfl (by exact opd_assign rfl rfl) ?_)
        all_goals (refine al_nil ?_)
        all_goals (exact ⟨⟨_, rfl, by (rw [h127]; rfl)⟩, rfl, rfl, rfl⟩)
      refine awp_ret ?_
      -- return
      refine aret1 (H' := []) (by exact .inr rfl) rfl (rval_tmp rfl) (Fin.wk (by simp) trivial trivial) ?_
      exact ⟨by rw [hv], rfl⟩
    · have ho2 : ¬ e.op = 2 := of_decide_eq_false hc2
      refine awp_seq ?_
      refine awp_region ?_
      refine al_d rfl rfl rfl (by exact opd_eql rfl rfl rfl) ?_
      refine al_d rfl rfl rfl (by exact opd_assign rfl rfl) ?_
      refine al_nil ?_
      refine awp_cond rfl (fun hc3 => ?_) (fun hc3 => ?_)
      -- cond 3
      · have ho : e.op = 3 := of_decide_eq_true hc3
        have hx : xOf e = ⟨e.op, e.id, sNil, sNil, 0, 0, e.key, e.val, [], zObj⟩ := by rw [xOf, if_neg ho1, if_neg ho2, if_pos ho]
        have hk : okOf e = (gName e.id && (gName e.key && decide ((e.val.size : Int) ≤ 200))) := by rw [okOf, if_neg ho1, if_neg ho2, if_pos ho]
        have hb : (gName e.id && gName e.key && decide ((e.val.size : Int) ≤ 200)) = (gName e.id && (gName e.key && decide ((e.val.size : Int) ≤ 200))) := by rw [Bool.and_assoc]
        have hv : gEditV e = ((gName e.id && gName e.key && decide ((e.val.size : Int) ≤ 200)) && gSameE ⟨e.op, e.id, sNil, sNil, 0, 0, e.key, e.val, [], zObj⟩ e) := by rw [gEditV, hx, hk, hb, ho]; rfl
        apply awp_mergeW (t := 4) (n := 20) (X := gName e.id && gName e.key && decide ((e.val.size : Int) ≤ 200))
        · cases hg58 : (gName e.id : Bool)
          · refine awp_drawc follows ?_
            refine dc_cons (r := ⟨_, some [1], []⟩) (DStep.plain rfl (fun H1 hH => by exact (by exact opd_field_ref rfl fo44_5 rfl ((hH _ rfl).trans rfl) rfl rfl))) rfl ?_
            refine dc_cons (r := ⟨_, some [1], []⟩) (DStep.plain rfl (fun H1 hH => by exact (by exact opd_load1_ref rfl Tryz.isAgg9 rfl ((hH _ rfl).trans rfl) rfl rfl rfl))) rfl ?_
            refine dc_cons (r := ⟨_, some [1], []⟩) (DStep.plain rfl (fun H1 hH => by exact (by exact opd_field_ref rfl fo44_6 rfl ((hH _ rfl).trans rfl) rfl rfl))) rfl ?_
            refine dc_cons (r := ⟨_, some [1], []⟩) (DStep.plain rfl (fun H1 hH => by exact (by exact opd_load1_ref rfl Tryz.isAgg9 rfl ((hH _ rfl).trans rfl) rfl rfl rfl))) rfl ?_
            refine dc_cons (r := ⟨_, some [], []⟩) (DStep.plain rfl (fun H1 hH => by exact opd_move rfl rfl)) rfl ?_
            refine dc_cons (r := ⟨_, some [], []⟩) (DStep.plain rfl (fun H1 hH => by exact opd_move rfl rfl)) rfl ?_
            refine dc_cons (q_off_t rfl rfl rfl (by rfl)) rfl ?_
            refine dc_cons (q_off_t rfl rfl rfl (by rfl)) rfl ?_
            refine dc_cons (q_off_t rfl rfl rfl (by rfl)) rfl ?_
            refine dc_cons (q_off_t rfl rfl rfl (by rfl)) rfl ?_
            refine dc_cons (r := ⟨_, some [], []⟩) (DStep.plain rfl (fun H1 hH => by exact (by exact opd_pick_f rfl rfl rfl))) rfl ?_
            refine dc_cons (r := ⟨_, some [], []⟩) (DStep.plain rfl (fun H1 hH => by exact opd_move rfl rfl)) rfl ?_
            refine dc_cons (q_off_t rfl rfl rfl (by rfl)) rfl ?_
            refine dc_cons (q_off_t rfl rfl rfl (by rfl)) rfl ?_
            refine dc_cons (q_off_t rfl rfl rfl (by rfl)) rfl ?_
            refine dc_cons (q_off_t rfl rfl rfl (by rfl)) rfl ?_
            refine dc_cons (r := ⟨_, some [], []⟩) (DStep.plain rfl (fun H1 hH => by exact (by exact opd_pick_f rfl rfl rfl))) rfl ?_
            refine dc_cons (r := ⟨_, some [3], []⟩) (DStep.plain rfl (fun H1 hH => by exact (by exact opd_field_ref rfl fo44_5 rfl ((hH _ rfl).trans rfl) rfl rfl))) rfl ?_
            refine dc_cons (r := ⟨_, some [3], [_]⟩) (DStep.plain rfl (fun H1 hH => by exact (by exact x_store1 rfl Tryz.sizeOf9 rfl rfl rfl ((hH _ rfl).trans rfl) rfl rfl (Nat.le_of_ble_eq_true rfl) rfl rfl))) rfl ?_
            refine dc_cons (r := ⟨_, some [3], []⟩) (DStep.plain rfl (fun H1 hH => by exact (by exact opd_field_ref rfl fo44_6 rfl ((hH _ rfl).trans rfl) rfl rfl))) rfl ?_
            refine dc_cons (r := ⟨_, some [3], [_]⟩) (DStep.plain rfl (fun H1 hH => by exact (by exact x_store1 rfl Tryz.sizeOf9 rfl rfl rfl ((hH _ rfl).trans rfl) rfl rfl (Nat.le_of_ble_eq_true rfl) rfl rfl))) rfl ?_
            refine dc_cons (r := ⟨_, some [], []⟩) (DStep.plain rfl (fun H1 hH => by exact opd_assign rfl rfl)) rfl ?_
            refine dc_nil ⟨by kernel_rfl, ?_⟩
            exact ⟨rfl, ⟨_, rfl, by rfl⟩, rfl, rfl, rfl⟩
          · cases hg64 : (gName e.key : Bool)
            · refine awp_drawc follows ?_
              refine dc_cons (r := ⟨_, some [1], []⟩) (DStep.plain rfl (fun H1 hH => by exact (by exact opd_field_ref rfl fo44_5 rfl ((hH _ rfl).trans rfl) rfl rfl))) rfl ?_
              refine dc_cons (r := ⟨_, some [1], []⟩) (DStep.plain rfl (fun H1 hH => by exact (by exact opd_load1_ref rfl Tryz.isAgg9 rfl ((hH _ rfl).trans rfl) rfl rfl rfl))) rfl ?_
              refine dc_cons (r := ⟨_, some [1], []⟩) (DStep.plain rfl (fun H1 hH => by exact (by exact opd_field_ref rfl fo44_6 rfl ((hH _ rfl).trans rfl) rfl rfl))) rfl ?_
              refine dc_cons (r := ⟨_, some [1], []⟩) (DStep.plain rfl (fun H1 hH => by exact (by exact opd_load1_ref rfl Tryz.isAgg9 rfl ((hH _ rfl).trans rfl) rfl rfl rfl))) rfl ?_
              refine dc_cons (r := ⟨_, some [], []⟩) (DStep.plain rfl (fun H1 hH => by exact opd_move rfl rfl)) rfl ?_
              refine dc_cons (r := ⟨_, some [], []⟩) (DStep.plain rfl (fun H1 hH => by exact opd_move rfl rfl)) rfl ?_
              refine dc_cons (r := ⟨_, some [1], []⟩) (l_on_t rfl rfl rfl (by rfl) (fun H1 hH => by exact (by exact opd_field_ref rfl fo44_5 rfl ((hH _ rfl).trans rfl) rfl rfl))) rfl ?_
              refine dc_cons (r := ⟨_, some [1], []⟩) (l_on_t rfl rfl rfl (by rfl) (fun H1 hH => by exact (by exact opd_load1_ref rfl Tryz.isAgg9 rfl ((hH _ rfl).trans rfl) rfl rfl rfl))) rfl ?_
              refine dc_cons (r := ⟨_, some [], []⟩) (l_on_t rfl rfl rfl (by rfl) (fun H1 hH => by exact x_buildSlice ([e.key].map encStr) rfl so39 rfl rfl rfl rfl rfl (by simp [encStr]))) rfl ?_
              refine dc_cons (r := ⟨_, some [], []⟩) (l_on_t rfl rfl rfl (by rfl) (fun H1 hH => by exact opr_call rfl rfl Tryz.call67 rfl (n1_c e.key _ h4))) rfl ?_
              refine dc_cons (r := ⟨_, some [], []⟩) (DStep.plain rfl (fun H1 hH => by exact (by exact opd_pick_t rfl rfl rfl))) rfl ?_
              refine dc_cons (r := ⟨_, some [], []⟩) (DStep.plain rfl (fun H1 hH => by exact opd_move rfl rfl)) rfl ?_
              refine dc_cons (q_off_t rfl rfl rfl (by assumption)) rfl ?_
              refine dc_cons (q_off_t rfl rfl rfl (by assumption)) rfl ?_
              refine dc_cons (q_off_t rfl rfl rfl (by assumption)) rfl ?_
              refine dc_cons (q_off_t rfl rfl rfl (by assumption)) rfl ?_
              refine dc_cons (r := ⟨_, some [], []⟩) (DStep.plain rfl (fun H1 hH => by exact (by exact opd_pickf rfl rfl (by assumption) rfl))) rfl ?_
              refine dc_cons (r := ⟨_, some [3], []⟩) (DStep.plain rfl (fun H1 hH => by exact (by exact opd_field_ref rfl fo44_5 rfl ((hH _ rfl).trans rfl) rfl rfl))) rfl ?_
              refine dc_cons (r := ⟨_, some [3], [_]⟩) (DStep.plain rfl (fun H1 hH => by exact (by exact x_store1 rfl Tryz.sizeOf9 rfl rfl rfl ((hH _ rfl).trans rfl) rfl rfl (Nat.le_of_ble_eq_true rfl) rfl rfl))) rfl ?_
              refine dc_cons (r := ⟨_, some [3], []⟩) (DStep.plain rfl (fun H1 hH => by exact (by exact opd_field_ref rfl fo44_6 rfl ((hH _ rfl).trans rfl) rfl rfl))) rfl ?_
              refine dc_cons (r := ⟨_, some [3], [_]⟩) (DStep.plain rfl (fun H1 hH => by exact (by exact x_store1 rfl Tryz.sizeOf9 rfl rfl rfl ((hH _ rfl).trans rfl) rfl rfl (Nat.le_of_ble_eq_true rfl) rfl rfl))) rfl ?_
              refine dc_cons (r := ⟨_, some [], []⟩) (DStep.plain rfl (fun H1 hH => by exact opd_assign rfl rfl)) rfl ?_
              refine dc_nil ⟨by kernel_rfl, ?_⟩
              exact ⟨rfl, ⟨_, rfl, by rfl⟩, rfl, rfl, rfl⟩
            · refine awp_drawc follows ?_
              refine dc_cons (r := ⟨_, some [1], []⟩) (DStep.plain rfl (fun H1 hH => by exact (by exact opd_field_ref rfl fo44_5 rfl ((hH _ rfl).trans rfl) rfl rfl))) rfl ?_
              refine dc_cons (r := ⟨_, some [1], []⟩) (DStep.plain rfl (fun H1 hH => by exact (by exact opd_load1_ref rfl Tryz.isAgg9 rfl ((hH _ rfl).trans rfl) rfl rfl rfl))) rfl ?_
              refine dc_cons (r := ⟨_, some [1], []⟩) (DStep.plain rfl (fun H1 hH => by exact (by exact opd_field_ref rfl fo44_6 rfl ((hH _ rfl).trans rfl) rfl rfl))) rfl ?_
              refine dc_cons (r := ⟨_, some [1], []⟩) (DStep.plain rfl (fun H1 hH => by exact (by exact opd_load1_ref rfl Tryz.isAgg9 rfl ((hH _ rfl).trans rfl) rfl rfl rfl))) rfl ?_
              refine dc_cons (r := ⟨_, some [], []⟩) (DStep.plain rfl (fun H1 hH => by exact opd_move rfl rfl)) rfl ?_
              refine dc_cons (r := ⟨_, some [], []⟩) (DStep.plain rfl (fun H1 hH => by exact opd_move rfl rfl)) rfl ?_
              refine dc_cons (r := ⟨_, some [1], []⟩) (l_on_t rfl rfl rfl (by rfl) (fun H1 hH => by exact (by exact opd_field_ref rfl fo44_5 rfl ((hH _ rfl).trans rfl) rfl rfl))) rfl ?_
              refine dc_cons (r := ⟨_, some [1], []⟩) (l_on_t rfl rfl rfl (by rfl) (fun H1 hH => by exact (by exact opd_load1_ref rfl Tryz.isAgg9 rfl ((hH _ rfl).trans rfl) rfl rfl rfl))) rfl ?_
              refine dc_cons (r := ⟨_, some [], []⟩) (l_on_t rfl rfl rfl (by rfl) (fun H1 hH => by exact x_buildSlice ([e.key].map encStr) rfl so39 rfl rfl rfl rfl rfl (by simp [encStr]))) rfl ?_
              refine dc_cons (r := ⟨_, some [], []⟩) (l_on_t rfl rfl rfl (by rfl) (fun H1 hH => by exact opr_call rfl rfl Tryz.call67 rfl (n1_c e.key _ h4))) rfl ?_
              refine dc_cons (r := ⟨_, some [], []⟩) (DStep.plain rfl (fun H1 hH => by exact (by exact opd_pick_t rfl rfl rfl))) rfl ?_
              refine dc_cons (r := ⟨_, some [], []⟩) (DStep.plain rfl (fun H1 hH => by exact opd_move rfl rfl)) rfl ?_
              refine dc_cons (r := ⟨_, some [1], []⟩) (l_on_t rfl rfl rfl (by assumption) (fun H1 hH => by exact (by exact opd_field_ref rfl fo44_6 rfl ((hH _ rfl).trans rfl) rfl rfl))) rfl ?_
              refine dc_cons (r := ⟨_, some [1], []⟩) (l_on_t rfl rfl rfl (by assumption) (fun H1 hH => by exact (by exact opd_load1_ref rfl Tryz.isAgg9 rfl ((hH _ rfl).trans rfl) rfl rfl rfl))) rfl ?_
              refine dc_cons (r := ⟨_, some [], []⟩) (l_on_t rfl rfl rfl (by assumption) (fun H1 hH => by exact opd_len_str rfl Tryz.underlying9 rfl)) rfl ?_
              refine dc_cons (r := ⟨_, some [], []⟩) (l_on_t rfl rfl rfl (by assumption) (fun H1 hH => by exact opd_leq rfl rfl rfl)) rfl ?_
              refine dc_cons (r := ⟨_, some [], []⟩) (DStep.plain rfl (fun H1 hH => by exact (by exact opd_pickt rfl rfl (by assumption) rfl))) rfl ?_
              refine dc_cons (r := ⟨_, some [3], []⟩) (DStep.plain rfl (fun H1 hH => by exact (by exact opd_field_ref rfl fo44_5 rfl ((hH _ rfl).trans rfl) rfl rfl))) rfl ?_
              refine dc_cons (r := ⟨_, some [3], [_]⟩) (DStep.plain rfl (fun H1 hH => by exact (by exact x_store1 rfl Tryz.sizeOf9 rfl rfl rfl ((hH _ rfl).trans rfl) rfl rfl (Nat.le_of_ble_eq_true rfl) rfl rfl))) rfl ?_
              refine dc_cons (r := ⟨_, some [3], []⟩) (DStep.plain rfl (fun H1 hH => by exact (by exact opd_field_ref rfl fo44_6 rfl ((hH _ rfl).trans rfl) rfl rfl))) rfl ?_
              refine dc_cons (r := ⟨_, some [3], [_]⟩) (DStep.plain rfl (fun H1 hH => by exact (by exact x_store1 rfl Tryz.sizeOf9 rfl rfl rfl ((hH _ rfl).trans rfl) rfl rfl (Nat.le_of_ble_eq_true rfl) rfl rfl))) rfl ?_
              refine dc_cons (r := ⟨_, some [], []⟩) (DStep.plain rfl (fun H1 hH => by exact opd_assign rfl rfl)) rfl ?_
              refine dc_nil ⟨by kernel_rfl, ?_⟩
              exact ⟨rfl, ⟨_, rfl, by rfl⟩, rfl, rfl, rfl⟩
        refine awp_seq ?_
        refine awp_bool (t := 2) (n := 8) (X := (gName e.id && gName e.key && decide ((e.val.size : Int) ≤ 200)) && gSameE ⟨e.op, e.id, sNil, sNil, 0, 0, e.key, e.val, [], zObj⟩ e) ?_ ?_
        · all_goals (refine al_d rfl rfl rfl (by exact opd_move rfl rfl) ?_)
          all_goals (refine al_d rfl rfl rfl (by exact opd_move rfl rfl) ?_)
          all_goals (refine al_split (t := 127) rfl (fun h127 => ?_) (fun h127 => ?_))
          all_goals (try contradiction)
          all_goals (first | refine al_off rfl rfl rfl rfl rfl ?_ | refine al_ond rfl rfl rfl rfl rfl rfl (by exact (by exact opd_loadn_ref rfl Tryz.isAgg44 Tryz.sizeOf44 rfl rfl rfl rfl (by simp only [List.drop_succ_cons, List.drop_zero, List.take_succ_cons, List.take_zero, List.take_nil, List.map_cons, List.map_nil, List.set_cons_zero, List.set_cons_succ, List.cons_append, List.nil_append, encTag, encObj, encStr, encEdit, zObj]; rfl) rfl)) ?_)
          all_goals (first | refine al_off rfl rfl rfl rfl rfl ?_ | refine al_ond rfl rfl rfl rfl rfl rfl (by exact (by exact opd_loadn_ref rfl Tryz.isAgg44 Tryz.sizeOf44 rfl rfl rfl rfl (by simp only [List.drop_succ_cons, List.drop_zero, List.take_succ_cons, List.take_zero, List.take_nil, List.map_cons, List.map_nil, List.set_cons_zero, List.set_cons_succ, List.cons_append, List.nil_append, encTag, encObj, encStr, encEdit, zObj]; rfl) rfl)) ?_)
          all_goals (first | refine al_off rfl rfl rfl rfl rfl ?_ | refine al_ond rfl rfl rfl rfl rfl rfl (by exact opr_call rfl rfl Tryz.call69 rfl (sameE_c ⟨e.op, e.id, sNil, sNil, 0, 0, e.key, e.val, [], zObj⟩ e _ (by (show 0 < _; omega)) okS_z)) ?_)
          all_goals (refine al_d rfl rfl rfl (by exact (by first | exact opd_pick_t rfl rfl rfl | exact opd_pick_f rfl rfl rfl)) ?_)
          all_goals (refine al_d rfl rfl rfl (by exact opd_assign rfl rfl) ?_)
          all_goals (refine al_nil ?_)
          all_goals (exact ⟨⟨_, rfl, by (rw [h127]; rfl)⟩, rfl, rfl, rfl⟩)
        refine awp_ret ?_
        -- return
        refine aret1 (H' := []) (by exact .inr rfl) rfl (rval_tmp rfl) (Fin.wk (by simp) trivial trivial) ?_
        exact ⟨by rw [hv], rfl⟩
      · have ho3 : ¬ e.op = 3 := of_decide_eq_false hc3
        refine awp_seq ?_
        refine awp_region ?_
        refine al_d rfl rfl rfl (by exact opd_eql rfl rfl rfl) ?_
        refine al_d rfl rfl rfl (by exact opd_assign rfl rfl) ?_
        refine al_nil ?_
        refine awp_cond rfl (fun hc4 => ?_) (fun hc4 => ?_)
        -- cond 4
        · have ho : e.op = 4 := of_decide_eq_true hc4
          have hx : xOf e = ⟨e.op, e.id, sNil, sNil, 0, 0, sNil, sNil, e.refs, zObj⟩ := by rw [xOf, if_neg ho1, if_neg ho2, if_neg ho3, if_pos ho]
          have hk : okOf e = (gName e.id && (decide ((0 : Int) < (e.refs.length : Int)) && decide ((e.refs.length : Int) ≤ 2000) && e.refs.all gName)) := by rw [okOf, if_neg ho1, if_neg ho2, if_neg ho3, if_pos ho]
          have hb : (gName e.id && decide ((0 : Int) < ((e.refs.map encStr).length : Int)) && decide (((e.refs.map encStr).length : Int) ≤ 2000) && e.refs.all gName) = (gName e.id && (decide ((0 : Int) < (e.refs.length : Int)) && decide ((e.refs.length : Int) ≤ 2000) && e.refs.all gName)) := by rw [hrl]; simp only [Bool.and_assoc]
          have hv : gEditV e = ((gName e.id && decide ((0 : Int) < ((e.refs.map encStr).length : Int)) && decide (((e.refs.map encStr).length : Int) ≤ 2000) && e.refs.all gName) && gSameE ⟨e.op, e.id, sNil, sNil, 0, 0, sNil, sNil, e.refs, zObj⟩ e) := by rw [gEditV, hx, hk, hb, ho]; rfl
          apply awp_mergeW (t := 4) (n := 22) (X := gName e.id && decide ((0 : Int) < ((e.refs.map encStr).length : Int)) && decide (((e.refs.map encStr).length : Int) ≤ 2000) && e.refs.all gName)
          · cases hg77 : (gName e.id : Bool)
            · refine awp_drawc follows ?_
              refine dc_cons (r := ⟨_, some [1], []⟩) (DStep.plain rfl (fun H1 hH => by exact (by exact opd_field_ref rfl fo44_7 rfl ((hH _ rfl).trans rfl) rfl rfl))) rfl ?_
              refine dc_cons (r := ⟨_, some [1], []⟩) (DStep.plain rfl (fun H1 hH => by exact (by exact opd_load1_ref rfl Tryz.isAgg39 rfl ((hH _ rfl).trans rfl) rfl rfl rfl))) rfl ?_
              refine dc_cons (r := ⟨_, some [], []⟩) (DStep.plain rfl (fun H1 hH => by exact opd_move rfl rfl)) rfl ?_
              refine dc_cons (r := ⟨_, some [], []⟩) (DStep.plain rfl (fun H1 hH => by exact opd_move rfl rfl)) rfl ?_
              refine dc_cons (q_off_t rfl rfl rfl (by rfl)) rfl ?_
              refine dc_cons (q_off_t rfl rfl rfl (by rfl)) rfl ?_
              refine dc_cons (q_off_t rfl rfl rfl (by rfl)) rfl ?_
              refine dc_cons (q_off_t rfl rfl rfl (by rfl)) rfl ?_
              refine dc_cons (r := ⟨_, some [], []⟩) (DStep.plain rfl (fun H1 hH => by exact (by exact opd_pick_f rfl rfl rfl))) rfl ?_
              refine dc_cons (r := ⟨_, some [], []⟩) (DStep.plain rfl (fun H1 hH => by exact opd_move rfl rfl)) rfl ?_
              refine dc_cons (q_off_t rfl rfl rfl (by rfl)) rfl ?_
              refine dc_cons (q_off_t rfl rfl rfl (by rfl)) rfl ?_
              refine dc_cons (q_off_t rfl rfl rfl (by rfl)) rfl ?_
              refine dc_cons (q_off_t rfl rfl rfl (by rfl)) rfl ?_
              refine dc_cons (r := ⟨_, some [], []⟩) (DStep.plain rfl (fun H1 hH => by exact (by exact opd_pick_f rfl rfl rfl))) rfl ?_
              refine dc_cons (r := ⟨_, some [], []⟩) (DStep.plain rfl (fun H1 hH => by exact opd_move rfl rfl)) rfl ?_
              refine dc_cons (q_off_t rfl rfl rfl (by rfl)) rfl ?_
              refine dc_cons (q_off_t rfl rfl rfl (by rfl)) rfl ?_
              refine dc_cons (q_off_t rfl rfl rfl (by rfl)) rfl ?_
              refine dc_cons (r := ⟨_, some [], []⟩) (DStep.plain rfl (fun H1 hH => by exact (by exact opd_pick_f rfl rfl rfl))) rfl ?_
              refine dc_cons (r := ⟨_, some [3], []⟩) (DStep.plain rfl (fun H1 hH => by exact (by exact opd_field_ref rfl fo44_7 rfl ((hH _ rfl).trans rfl) rfl rfl))) rfl ?_
              refine dc_cons (r := ⟨_, some [3], [_]⟩) (DStep.plain rfl (fun H1 hH => by exact (by exact x_store1 rfl Tryz.sizeOf39 rfl rfl rfl ((hH _ rfl).trans rfl) rfl rfl (Nat.le_of_ble_eq_true rfl) rfl rfl))) rfl ?_
              refine dc_cons (r := ⟨_, some [], []⟩) (DStep.plain rfl (fun H1 hH => by exact opd_assign rfl rfl)) rfl ?_
              refine dc_nil ⟨by kernel_rfl, ?_⟩
              exact ⟨rfl, ⟨_, rfl, by rfl⟩, rfl, rfl, rfl⟩
            · cases hg83 : (decide ((0 : Int) < ((e.refs.map encStr).length : Int)) : Bool)
              · refine awp_drawc follows ?_
                refine dc_cons (r := ⟨_, some [1], []⟩) (DStep.plain rfl (fun H1 hH => by exact (by exact opd_field_ref rfl fo44_7 rfl ((hH _ rfl).trans rfl) rfl rfl))) rfl ?_
                refine dc_cons (r := ⟨_, some [1], []⟩) (DStep.plain rfl (fun H1 hH => by exact (by exact opd_load1_ref rfl Tryz.isAgg39 rfl ((hH _ rfl).trans rfl) rfl rfl rfl))) rfl ?_
                refine dc_cons (r := ⟨_, some [], []⟩) (DStep.plain rfl (fun H1 hH => by exact opd_move rfl rfl)) rfl ?_
                refine dc_cons (r := ⟨_, some [], []⟩) (DStep.plain rfl (fun H1 hH => by exact opd_move rfl rfl)) rfl ?_
                refine dc_cons (r := ⟨_, some [1], []⟩) (l_on_t rfl rfl rfl (by rfl) (fun H1 hH => by exact (by exact opd_field_ref rfl fo44_7 rfl ((hH _ rfl).trans rfl) rfl rfl))) rfl ?_
                refine dc_cons (r := ⟨_, some [1], []⟩) (l_on_t rfl rfl rfl (by rfl) (fun H1 hH => by exact (by exact opd_load1_ref rfl Tryz.isAgg39 rfl ((hH _ rfl).trans rfl) rfl rfl rfl))) rfl ?_
                refine dc_cons (r := ⟨_, some [], []⟩) (l_on_t rfl rfl rfl (by rfl) (fun H1 hH => by exact (by exact opd_len_sl rfl Tryz.underlying39 rfl))) rfl ?_
                refine dc_cons (r := ⟨_, some [], []⟩) (l_on_t rfl rfl rfl (by rfl) (fun H1 hH => by exact opd_gtr rfl rfl rfl)) rfl ?_
                refine dc_cons (r := ⟨_, some [], []⟩) (DStep.plain rfl (fun H1 hH => by exact (by exact opd_pick_t rfl rfl rfl))) rfl ?_
                refine dc_cons (r := ⟨_, some [], []⟩) (DStep.plain rfl (fun H1 hH => by exact opd_move rfl rfl)) rfl ?_
                refine dc_cons (q_off_t rfl rfl rfl (by assumption)) rfl ?_
                refine dc_cons (q_off_t rfl rfl rfl (by assumption)) rfl ?_
                refine dc_cons (q_off_t rfl rfl rfl (by assumption)) rfl ?_
                refine dc_cons (q_off_t rfl rfl rfl (by assumption)) rfl ?_
                refine dc_cons (r := ⟨_, some [], []⟩) (DStep.plain rfl (fun H1 hH => by exact (by exact opd_pickf rfl rfl (by assumption) rfl))) rfl ?_
                refine dc_cons (r := ⟨_, some [], []⟩) (DStep.plain rfl (fun H1 hH => by exact opd_move rfl rfl)) rfl ?_
                refine dc_cons (q_off_t rfl rfl rfl (by rfl)) rfl ?_
                refine dc_cons (q_off_t rfl rfl rfl (by rfl)) rfl ?_
                refine dc_cons (q_off_t rfl rfl rfl (by rfl)) rfl ?_
                refine dc_cons (r := ⟨_, some [], []⟩) (DStep.plain rfl (fun H1 hH => by exact (by exact opd_pick_f rfl rfl rfl))) rfl ?_
                refine dc_cons (r := ⟨_, some [3], []⟩) (DStep.plain rfl (fun H1 hH => by exact (by exact opd_field_ref rfl fo44_7 rfl ((hH _ rfl).trans rfl) rfl rfl))) rfl ?_
                refine dc_cons (r := ⟨_, some [3], [_]⟩) (DStep.plain rfl (fun H1 hH => by exact (by exact x_store1 rfl Tryz.sizeOf39 rfl rfl rfl ((hH _ rfl).trans rfl) rfl rfl (Nat.le_of_ble_eq_true rfl) rfl rfl))) rfl ?_
                refine dc_cons (r := ⟨_, some [], []⟩) (DStep.plain rfl (fun H1 hH => by exact opd_assign rfl rfl)) rfl ?_
                refine dc_nil ⟨by kernel_rfl, ?_⟩
                exact ⟨rfl, ⟨_, rfl, by rfl⟩, rfl, rfl, rfl⟩
              · cases hg89 : (decide (((e.refs.map encStr).length : Int) ≤ 2000) : Bool)
                · refine awp_drawc follows ?_
                  refine dc_cons (r := ⟨_, some [1], []⟩) (DStep.plain rfl (fun H1 hH => by exact (by exact opd_field_ref rfl fo44_7 rfl ((hH _ rfl).trans rfl) rfl rfl))) rfl ?_
                  refine dc_cons (r := ⟨_, some [1], []⟩) (DStep.plain rfl (fun H1 hH => by exact (by exact opd_load1_ref rfl Tryz.isAgg39 rfl ((hH _ rfl).trans rfl) rfl rfl rfl))) rfl ?_
                  refine dc_cons (r := ⟨_, some [], []⟩) (DStep.plain rfl (fun H1 hH => by exact opd_move rfl rfl)) rfl ?_
                  refine dc_cons (r := ⟨_, some [], []⟩) (DStep.plain rfl (fun H1 hH => by exact opd_move rfl rfl)) rfl ?_
                  refine dc_cons (r := ⟨_, some [1], []⟩) (l_on_t rfl rfl rfl (by rfl) (fun H1 hH => by exact (by exact opd_field_ref rfl fo44_7 rfl ((hH _ rfl).trans rfl) rfl rfl))) rfl ?_
                  refine dc_cons (r := ⟨_, some [1], []⟩) (l_on_t rfl rfl rfl (by rfl) (fun H1 hH => by exact (by exact opd_load1_ref rfl Tryz.isAgg39 rfl ((hH _ rfl).trans rfl) rfl rfl rfl))) rfl ?_
                  refine dc_cons (r := ⟨_, some [], []⟩) (l_on_t rfl rfl rfl (by rfl) (fun H1 hH => by exact (by exact opd_len_sl rfl Tryz.underlying39 rfl))) rfl ?_
                  refine dc_cons (r := ⟨_, some [], []⟩) (l_on_t rfl rfl rfl (by rfl) (fun H1 hH => by exact opd_gtr rfl rfl rfl)) rfl ?_
                  refine dc_cons (r := ⟨_, some [], []⟩) (DStep.plain rfl (fun H1 hH => by exact (by exact opd_pick_t rfl rfl rfl))) rfl ?_
                  refine dc_cons (r := ⟨_, some [], []⟩) (DStep.plain rfl (fun H1 hH => by exact opd_move rfl rfl)) rfl ?_
                  refine dc_cons (r := ⟨_, some [1], []⟩) (l_on_t rfl rfl rfl (by assumption) (fun H1 hH => by exact (by exact opd_field_ref rfl fo44_7 rfl ((hH _ rfl).trans rfl) rfl rfl))) rfl ?_
                  refine dc_cons (r := ⟨_, some [1], []⟩) (l_on_t rfl rfl rfl (by assumption) (fun H1 hH => by exact (by exact opd_load1_ref rfl Tryz.isAgg39 rfl ((hH _ rfl).trans rfl) rfl rfl rfl))) rfl ?_
                  refine dc_cons (r := ⟨_, some [], []⟩) (l_on_t rfl rfl rfl (by assumption) (fun H1 hH => by exact (by exact opd_len_sl rfl Tryz.underlying39 rfl))) rfl ?_
                  refine dc_cons (r := ⟨_, some [], []⟩) (l_on_t rfl rfl rfl (by assumption) (fun H1 hH => by exact opd_leq rfl rfl rfl)) rfl ?_
                  refine dc_cons (r := ⟨_, some [], []⟩) (DStep.plain rfl (fun H1 hH => by exact (by exact opd_pickt rfl rfl (by assumption) rfl))) rfl ?_
                  refine dc_cons (r := ⟨_, some [], []⟩) (DStep.plain rfl (fun H1 hH => by exact opd_move rfl rfl)) rfl ?_
                  refine dc_cons (q_off_t rfl rfl rfl (by assumption)) rfl ?_
                  refine dc_cons (q_off_t rfl rfl rfl (by assumption)) rfl ?_
                  refine dc_cons (q_off_t rfl rfl rfl (by assumption)) rfl ?_
                  refine dc_cons (r := ⟨_, some [], []⟩) (DStep.plain rfl (fun H1 hH => by exact (by exact opd_pickf rfl rfl (by assumption) rfl))) rfl ?_
                  refine dc_cons (r := ⟨_, some [3], []⟩) (DStep.plain rfl (fun H1 hH => by exact (by exact opd_field_ref rfl fo44_7 rfl ((hH _ rfl).trans rfl) rfl rfl))) rfl ?_
                  refine dc_cons (r := ⟨_, some [3], [_]⟩) (DStep.plain rfl (fun H1 hH => by exact (by exact x_store1 rfl Tryz.sizeOf39 rfl rfl rfl ((hH _ rfl).trans rfl) rfl rfl (Nat.le_of_ble_eq_true rfl) rfl rfl))) rfl ?_
                  refine dc_cons (r := ⟨_, some [], []⟩) (DStep.plain rfl (fun H1 hH => by exact opd_assign rfl rfl)) rfl ?_
                  refine dc_nil ⟨by kernel_rfl, ?_⟩
                  exact ⟨rfl, ⟨_, rfl, by rfl⟩, rfl, rfl, rfl⟩
                · refine awp_drawc follows ?_
                  refine dc_cons (r := ⟨_, some [1], []⟩) (DStep.plain rfl (fun H1 hH => by exact (by exact opd_field_ref rfl fo44_7 rfl ((hH _ rfl).trans rfl) rfl rfl))) rfl ?_
                  refine dc_cons (r := ⟨_, some [1], []⟩) (DStep.plain rfl (fun H1 hH => by exact (by exact opd_load1_ref rfl Tryz.isAgg39 rfl ((hH _ rfl).trans rfl) rfl rfl rfl))) rfl ?_
                  refine dc_cons (r := ⟨_, some [], []⟩) (DStep.plain rfl (fun H1 hH => by exact opd_move rfl rfl)) rfl ?_
                  refine dc_cons (r := ⟨_, some [], []⟩) (DStep.plain rfl (fun H1 hH => by exact opd_move rfl rfl)) rfl ?_
                  refine dc_cons (r := ⟨_, some [1], []⟩) (l_on_t rfl rfl rfl (by rfl) (fun H1 hH => by exact (by exact opd_field_ref rfl fo44_7 rfl ((hH _ rfl).trans rfl) rfl rfl))) rfl ?_
                  refine dc_cons (r := ⟨_, some [1], []⟩) (l_on_t rfl rfl rfl (by rfl) (fun H1 hH => by exact (by exact opd_load1_ref rfl Tryz.isAgg39 rfl ((hH _ rfl).trans rfl) rfl rfl rfl))) rfl ?_
                  refine dc_cons (r := ⟨_, some [], []⟩) (l_on_t rfl rfl rfl (by rfl) (fun H1 hH => by exact (by exact opd_len_sl rfl Tryz.underlying39 rfl))) rfl ?_
                  refine dc_cons (r := ⟨_, some [], []⟩) (l_on_t rfl rfl rfl (by rfl) (fun H1 hH => by exact opd_gtr rfl rfl rfl)) rfl ?_
                  refine dc_cons (r := ⟨_, some [], []⟩) (DStep.plain rfl (fun H1 hH => by exact (by exact opd_pick_t rfl rfl rfl))) rfl ?_
                  refine dc_cons (r := ⟨_, some [], []⟩) (DStep.plain rfl (fun H1 hH => by exact opd_move rfl rfl)) rfl ?_
                  refine dc_cons (r := ⟨_, some [1], []⟩) (l_on_t rfl rfl rfl (by assumption) (fun H1 hH => by exact (by exact opd_field_ref rfl fo44_7 rfl ((hH _ rfl).trans rfl) rfl rfl))) rfl ?_
                  refine dc_cons (r := ⟨_, some [1], []⟩) (l_on_t rfl rfl rfl (by assumption) (fun H1 hH => by exact (by exact opd_load1_ref rfl Tryz.isAgg39 rfl ((hH _ rfl).trans rfl) rfl rfl rfl))) rfl ?_
                  refine dc_cons (r := ⟨_, some [], []⟩) (l_on_t rfl rfl rfl (by assumption) (fun H1 hH => by exact (by exact opd_len_sl rfl Tryz.underlying39 rfl))) rfl ?_
                  refine dc_cons (r := ⟨_, some [], []⟩) (l_on_t rfl rfl rfl (by assumption) (fun H1 hH => by exact opd_leq rfl rfl rfl)) rfl ?_
                  refine dc_cons (r := ⟨_, some [], []⟩) (DStep.plain rfl (fun H1 hH => by exact (by exact opd_pickt rfl rfl (by assumption) rfl))) rfl ?_
                  refine dc_cons (r := ⟨_, some [], []⟩) (DStep.plain rfl (fun H1 hH => by exact opd_move rfl rfl)) rfl ?_
                  refine dc_cons (r := ⟨_, some [1], []⟩) (l_on_t rfl rfl rfl (by assumption) (fun H1 hH => by exact (by exact opd_field_ref rfl fo44_7 rfl ((hH _ rfl).trans rfl) rfl rfl))) rfl ?_
                  refine dc_cons (r := ⟨_, some [1], []⟩) (l_on_t rfl rfl rfl (by assumption) (fun H1 hH => by exact (by exact opd_load1_ref rfl Tryz.isAgg39 rfl ((hH _ rfl).trans rfl) rfl rfl rfl))) rfl ?_
                  refine dc_cons (r := ⟨_, some [], []⟩) (l_on_t rfl rfl rfl (by assumption) (fun H1 hH => by exact opr_call rfl rfl Tryz.call67 rfl (names_c e.refs _ h5 h6))) rfl ?_
                  refine dc_cons (r := ⟨_, some [], []⟩) (DStep.plain rfl (fun H1 hH => by exact (by exact opd_pickt rfl rfl (by assumption) rfl))) rfl ?_
                  refine dc_cons (r := ⟨_, some [3], []⟩) (DStep.plain rfl (fun H1 hH => by exact (by exact opd_field_ref rfl fo44_7 rfl ((hH _ rfl).trans rfl) rfl rfl))) rfl ?_
                  refine dc_cons (r := ⟨_, some [3], [_]⟩) (DStep.plain rfl (fun H1 hH => by exact (by exact x_store1 rfl Tryz.sizeOf39 rfl rfl rfl ((hH _ rfl).trans rfl) rfl rfl (Nat.le_of_ble_eq_true rfl) rfl rfl))) rfl ?_
                  refine dc_cons (r := ⟨_, some [], []⟩) (DStep.plain rfl (fun H1 hH => by exact opd_assign rfl rfl)) rfl ?_
                  refine dc_nil ⟨by kernel_rfl, ?_⟩
                  exact ⟨rfl, ⟨_, rfl, by rfl⟩, rfl, rfl, rfl⟩
          refine awp_seq ?_
          refine awp_bool (t := 2) (n := 8) (X := (gName e.id && decide ((0 : Int) < ((e.refs.map encStr).length : Int)) && decide (((e.refs.map encStr).length : Int) ≤ 2000) && e.refs.all gName) && gSameE ⟨e.op, e.id, sNil, sNil, 0, 0, sNil, sNil, e.refs, zObj⟩ e) ?_ ?_
          · all_goals (refine al_d rfl rfl rfl (by exact opd_move rfl rfl) ?_)
            all_goals (refine al_d rfl rfl rfl (by exact opd_move rfl rfl) ?_)
            all_goals (refine al_split (t := 127) rfl (fun h127 => ?_) (fun h127 => ?_))
            all_goals (try contradiction)
            all_goals (first | refine al_off rfl rfl rfl rfl rfl ?_ | refine al_ond rfl rfl rfl rfl rfl rfl (by exact (by exact opd_loadn_ref rfl Tryz.isAgg44 Tryz.sizeOf44 rfl rfl rfl rfl (by simp only [List.drop_succ_cons, List.drop_zero, List.take_succ_cons, List.take_zero, List.take_nil, List.map_cons, List.map_nil, List.set_cons_zero, List.set_cons_succ, List.cons_append, List.nil_append, encTag, encObj, encStr, encEdit, zObj]; rfl) rfl)) ?_)
            all_goals (first | refine al_off rfl rfl rfl rfl rfl ?_ | refine al_ond rfl rfl rfl rfl rfl rfl (by exact (by exact opd_loadn_ref rfl Tryz.isAgg44 Tryz.sizeOf44 rfl rfl rfl rfl (by simp only [List.drop_succ_cons, List.drop_zero, List.take_succ_cons, List.take_zero, List.take_nil, List.map_cons, List.map_nil, List.set_cons_zero, List.set_cons_succ, List.cons_append, List.nil_append, encTag, encObj, encStr, encEdit, zObj]; rfl) rfl)) ?_)
            all_goals (first | refine al_off rfl rfl rfl rfl rfl ?_ | refine al_ond rfl rfl rfl rfl rfl rfl (by exact opr_call rfl rfl Tryz.call69 rfl (sameE_c ⟨e.op, e.id, sNil, sNil, 0, 0, sNil, sNil, e.refs, zObj⟩ e _ (by exact h5) okS_z)) ?_)
            all_goals (refine al_d rfl rfl rfl (by exact (by first | exact opd_pick_t rfl rfl rfl | exact opd_pick_f rfl rfl rfl)) ?_)
            all_goals (refine al_d rfl rfl rfl (by exact opd_assign rfl rfl) ?_)
            all_goals (refine al_nil ?_)
            all_goals (exact ⟨⟨_, rfl, by (rw [h127]; rfl)⟩, rfl, rfl, rfl⟩)
          refine awp_ret ?_
          -- return
          refine aret1 (H' := []) (by exact .inr rfl) rfl (rval_tmp rfl) (Fin.wk (by simp) trivial trivial) ?_
          exact ⟨by rw [hv], rfl⟩
        · have ho4 : ¬ e.op = 4 := of_decide_eq_false hc4
          refine awp_seq ?_
          refine awp_region ?_
          refine al_d rfl rfl rfl (by exact opd_eql rfl rfl rfl) ?_
          refine al_d rfl rfl rfl (by exact opd_assign rfl rfl) ?_
          refine al_nil ?_
          refine awp_cond rfl (fun hc5 => ?_) (fun hc5 => ?_)
          -- cond 5
          · have ho : e.op = 5 := of_decide_eq_true hc5
            have hx : xOf e = ⟨e.op, e.id, sNil, sNil, 0, 0, sNil, sNil, [], zObj⟩ := by rw [xOf, if_neg ho1, if_neg ho2, if_neg ho3, if_neg ho4, if_pos ho]
            have hk : okOf e = (gName e.id) := by rw [okOf, if_neg ho1, if_neg ho2, if_neg ho3, if_neg ho4, if_pos ho]; simp
            have hv : gEditV e = ((gName e.id) && gSameE ⟨e.op, e.id, sNil, sNil, 0, 0, sNil, sNil, [], zObj⟩ e) := by rw [gEditV, hx, hk, ho]; rfl
            refine awp_skip ?_
            refine awp_seq ?_
            refine awp_bool (t := 2) (n := 8) (X := (gName e.id) && gSameE ⟨e.op, e.id, sNil, sNil, 0, 0, sNil, sNil, [], zObj⟩ e) ?_ ?_
            · all_goals (refine al_d rfl rfl rfl (by exact opd_move rfl rfl) ?_)
              all_goals (refine al_d rfl rfl rfl (by exact opd_move rfl rfl) ?_)
              all_goals (refine al_split (t := 127) rfl (fun h127 => ?_) (fun h127 => ?_))
              all_goals (try contradiction)
              all_goals (first | refine al_off rfl rfl rfl rfl rfl ?_ | refine al_ond rfl rfl rfl rfl rfl rfl (by exact (by exact opd_loadn_ref rfl Tryz.isAgg44 Tryz.sizeOf44 rfl rfl rfl rfl (by simp only [List.drop_succ_cons, List.drop_zero, List.take_succ_cons, List.take_zero, List.take_nil, List.map_cons, List.map_nil, List.set_cons_zero, List.set_cons_succ, List.cons_append, List.nil_append, encTag, encObj, encStr, encEdit, zObj]; rfl) rfl)) ?_)
              all_goals (first | refine al_off rfl rfl rfl rfl rfl ?_ | refine al_ond rfl rfl rfl rfl rfl rfl (by exact (by exact opd_loadn_ref rfl Tryz.isAgg44 Tryz.sizeOf44 rfl rfl rfl rfl (by simp only [List.drop_succ_cons, List.drop_zero, List.take_succ_cons, List.take_zero, List.take_nil, List.map_cons, List.map_nil, List.set_cons_zero, List.set_cons_succ, List.cons_append, List.nil_append, encTag, encObj, encStr, encEdit, zObj]; rfl) rfl)) ?_)
              all_goals (first | refine al_off rfl rfl rfl rfl rfl ?_ | refine al_ond rfl rfl rfl rfl rfl rfl (by exact opr_call rfl rfl Tryz.call69 rfl (sameE_c ⟨e.op, e.id, sNil, sNil, 0, 0, sNil, sNil, [], zObj⟩ e _ (by (show 0 < _; omega)) okS_z)) ?_)
              all_goals (refine al_d rfl rfl rfl (by exact (by first | exact opd_pick_t rfl rfl rfl | exact opd_pick_f rfl rfl rfl)) ?_)
              all_goals (refine al_d rfl rfl rfl (by exact opd_assign rfl rfl) ?_)
              all_goals (refine al_nil ?_)
              all_goals (exact ⟨⟨_, rfl, by (rw [h127]; rfl)⟩, rfl, rfl, rfl⟩)
            refine awp_ret ?_
            -- return
            refine aret1 (H' := []) (by exact .inr rfl) rfl (rval_tmp rfl) (Fin.wk (by simp) trivial trivial) ?_
            exact ⟨by rw [hv], rfl⟩
          · have ho5 : ¬ e.op = 5 := of_decide_eq_false hc5
            refine awp_seq ?_
            refine awp_region ?_
            refine al_d rfl rfl rfl (by exact opd_eql rfl rfl rfl) ?_
            refine al_d rfl rfl rfl (by exact opd_assign rfl rfl) ?_
            refine al_nil ?_
            refine awp_cond rfl (fun hc6 => ?_) (fun hc6 => ?_)
            -- cond 6
            · have ho : e.op = 6 := of_decide_eq_true hc6
              have hx : xOf e = ⟨e.op, e.id, e.other, e.node, 0, 0, sNil, sNil, [], zObj⟩ := by rw [xOf, if_neg ho1, if_neg ho2, if_neg ho3, if_neg ho4, if_neg ho5, if_pos ho]
              have hk : okOf e = (gName e.id && (gName e.node && gName e.other)) := by rw [okOf, if_neg ho1, if_neg ho2, if_neg ho3, if_neg ho4, if_neg ho5, if_pos ho]
              have hb : (gName e.id && (gName e.node && gName e.other)) = (gName e.id && (gName e.node && gName e.other)) := by rfl
              have hv : gEditV e = ((gName e.id && (gName e.node && gName e.other)) && gSameE ⟨e.op, e.id, e.other, e.node, 0, 0, sNil, sNil, [], zObj⟩ e) := by rw [gEditV, hx, hk, hb, ho]; rfl
              apply awp_mergeW (t := 4) (n := 16) (X := gName e.id && (gName e.node && gName e.other))
              · cases hg104 : (gName e.id : Bool)
                · refine awp_drawc follows ?_
                  refine dc_cons (r := ⟨_, some [1], []⟩) (DStep.plain rfl (fun H1 hH => by exact (by exact opd_field_ref rfl fo44_3 rfl ((hH _ rfl).trans rfl) rfl rfl))) rfl ?_
                  refine dc_cons (r := ⟨_, some [1], []⟩) (DStep.plain rfl (fun H1 hH => by exact (by exact opd_load1_ref rfl Tryz.isAgg9 rfl ((hH _ rfl).trans rfl) rfl rfl rfl))) rfl ?_
                  refine dc_cons (r := ⟨_, some [1], []⟩) (DStep.plain rfl (fun H1 hH => by exact (by exact opd_field_ref rfl fo44_2 rfl ((hH _ rfl).trans rfl) rfl rfl))) rfl ?_
                  refine dc_cons (r := ⟨_, some [1], []⟩) (DStep.plain rfl (fun H1 hH => by exact (by exact opd_load1_ref rfl Tryz.isAgg9 rfl ((hH _ rfl).trans rfl) rfl rfl rfl))) rfl ?_
                  refine dc_cons (r := ⟨_, some [], []⟩) (DStep.plain rfl (fun H1 hH => by exact opd_move rfl rfl)) rfl ?_
                  refine dc_cons (r := ⟨_, some [], []⟩) (DStep.plain rfl (fun H1 hH => by exact opd_move rfl rfl)) rfl ?_
                  refine dc_cons (q_off_t rfl rfl rfl (by rfl)) rfl ?_
                  refine dc_cons (q_off_t rfl rfl rfl (by rfl)) rfl ?_
                  refine dc_cons (q_off_t rfl rfl rfl (by rfl)) rfl ?_
                  refine dc_cons (q_off_t rfl rfl rfl (by rfl)) rfl ?_
                  refine dc_cons (q_off_t rfl rfl rfl (by rfl)) rfl ?_
                  refine dc_cons (q_off_t rfl rfl rfl (by rfl)) rfl ?_
                  refine dc_cons (r := ⟨_, some [], []⟩) (DStep.plain rfl (fun H1 hH => by exact (by exact opd_pick_f rfl rfl rfl))) rfl ?_
                  refine dc_cons (r := ⟨_, some [3], []⟩) (DStep.plain rfl (fun H1 hH => by exact (by exact opd_field_ref rfl fo44_3 rfl ((hH _ rfl).trans rfl) rfl rfl))) rfl ?_
                  refine dc_cons (r := ⟨_, some [3], [_]⟩) (DStep.plain rfl (fun H1 hH => by exact (by exact x_store1 rfl Tryz.sizeOf9 rfl rfl rfl ((hH _ rfl).trans rfl) rfl rfl (Nat.le_of_ble_eq_true rfl) rfl rfl))) rfl ?_
                  refine dc_cons (r := ⟨_, some [3], []⟩) (DStep.plain rfl (fun H1 hH => by exact (by exact opd_field_ref rfl fo44_2 rfl ((hH _ rfl).trans rfl) rfl rfl))) rfl ?_
                  refine dc_cons (r := ⟨_, some [3], [_]⟩) (DStep.plain rfl (fun H1 hH => by exact (by exact x_store1 rfl Tryz.sizeOf9 rfl rfl rfl ((hH _ rfl).trans rfl) rfl rfl (Nat.le_of_ble_eq_true rfl) rfl rfl))) rfl ?_
                  refine dc_cons (r := ⟨_, some [], []⟩) (DStep.plain rfl (fun H1 hH => by exact opd_assign rfl rfl)) rfl ?_
                  refine dc_nil ⟨by kernel_rfl, ?_⟩
                  exact ⟨rfl, ⟨_, rfl, by rfl⟩, rfl, rfl, rfl⟩
                · refine awp_drawc follows ?_
                  refine dc_cons (r := ⟨_, some [1], []⟩) (DStep.plain rfl (fun H1 hH => by exact (by exact opd_field_ref rfl fo44_3 rfl ((hH _ rfl).trans rfl) rfl rfl))) rfl ?_
                  refine dc_cons (r := ⟨_, some [1], []⟩) (DStep.plain rfl (fun H1 hH => by exact (by exact opd_load1_ref rfl Tryz.isAgg9 rfl ((hH _ rfl).trans rfl) rfl rfl rfl))) rfl ?_
                  refine dc_cons (r := ⟨_, some [1], []⟩) (DStep.plain rfl (fun H1 hH => by exact (by exact opd_field_ref rfl fo44_2 rfl ((hH _ rfl).trans rfl) rfl rfl))) rfl ?_
                  refine dc_cons (r := ⟨_, some [1], []⟩) (DStep.plain rfl (fun H1 hH => by exact (by exact opd_load1_ref rfl Tryz.isAgg9 rfl ((hH _ rfl).trans rfl) rfl rfl rfl))) rfl ?_
                  refine dc_cons (r := ⟨_, some [], []⟩) (DStep.plain rfl (fun H1 hH => by exact opd_move rfl rfl)) rfl ?_
                  refine dc_cons (r := ⟨_, some [], []⟩) (DStep.plain rfl (fun H1 hH => by exact opd_move rfl rfl)) rfl ?_
                  refine dc_cons (r := ⟨_, some [1], []⟩) (l_on_t rfl rfl rfl (by rfl) (fun H1 hH => by exact (by exact opd_field_ref rfl fo44_3 rfl ((hH _ rfl).trans rfl) rfl rfl))) rfl ?_
                  refine dc_cons (r := ⟨_, some [1], []⟩) (l_on_t rfl rfl rfl (by rfl) (fun H1 hH => by exact (by exact opd_load1_ref rfl Tryz.isAgg9 rfl ((hH _ rfl).trans rfl) rfl rfl rfl))) rfl ?_
                  refine dc_cons (r := ⟨_, some [1], []⟩) (l_on_t rfl rfl rfl (by rfl) (fun H1 hH => by exact (by exact opd_field_ref rfl fo44_2 rfl ((hH _ rfl).trans rfl) rfl rfl))) rfl ?_
                  refine dc_cons (r := ⟨_, some [1], []⟩) (l_on_t rfl rfl rfl (by rfl) (fun H1 hH => by exact (by exact opd_load1_ref rfl Tryz.isAgg9 rfl ((hH _ rfl).trans rfl) rfl rfl rfl))) rfl ?_
                  refine dc_cons (r := ⟨_, some [], []⟩) (l_on_t rfl rfl rfl (by rfl) (fun H1 hH => by exact x_buildSlice ([e.node, e.other].map encStr) rfl so39 rfl rfl rfl rfl rfl (by simp [encStr]))) rfl ?_
                  refine dc_cons (r := ⟨_, some [], []⟩) (l_on_t rfl rfl rfl (by rfl) (fun H1 hH => by exact opr_call rfl rfl Tryz.call67 rfl (n2_c e.node e.other _ h3 h2))) rfl ?_
                  refine dc_cons (r := ⟨_, some [], []⟩) (DStep.plain rfl (fun H1 hH => by exact (by exact opd_pick_t rfl rfl rfl))) rfl ?_
                  refine dc_cons (r := ⟨_, some [3], []⟩) (DStep.plain rfl (fun H1 hH => by exact (by exact opd_field_ref rfl fo44_3 rfl ((hH _ rfl).trans rfl) rfl rfl))) rfl ?_
                  refine dc_cons (r := ⟨_, some [3], [_]⟩) (DStep.plain rfl (fun H1 hH => by exact (by exact x_store1 rfl Tryz.sizeOf9 rfl rfl rfl ((hH _ rfl).trans rfl) rfl rfl (Nat.le_of_ble_eq_true rfl) rfl rfl))) rfl ?_
                  refine dc_cons (r := ⟨_, some [3], []⟩) (DStep.plain rfl (fun H1 hH => by exact (by exact opd_field_ref rfl fo44_2 rfl ((hH _ rfl).trans rfl) rfl rfl))) rfl ?_
                  refine dc_cons (r := ⟨_, some [3], [_]⟩) (DStep.plain rfl (fun H1 hH => by exact (by exact x_store1 rfl Tryz.sizeOf9 rfl rfl rfl ((hH _ rfl).trans rfl) rfl rfl (Nat.le_of_ble_eq_true rfl) rfl rfl))) rfl ?_
                  refine dc_cons (r := ⟨_, some [], []⟩) (DStep.plain rfl (fun H1 hH => by exact opd_assign rfl rfl)) rfl ?_
                  refine dc_nil ⟨by kernel_rfl, ?_⟩
                  exact ⟨rfl, ⟨_, rfl, by rfl⟩, rfl, rfl, rfl⟩
              refine awp_seq ?_
              refine awp_bool (t := 2) (n := 8) (X := (gName e.id && (gName e.node && gName e.other)) && gSameE ⟨e.op, e.id, e.other, e.node, 0, 0, sNil, sNil, [], zObj⟩ e) ?_ ?_
              · all_goals (refine al_d rfl rfl rfl (by exact opd_move rfl rfl) ?_)
                all_goals (refine al_d rfl rfl rfl (by exact opd_move rfl rfl) ?_)
                all_goals (refine al_split (t := 127) rfl (fun h127 => ?_) (fun h127 => ?_))
                all_goals (try contradiction)
                all_goals (first | refine al_off rfl rfl rfl rfl rfl ?_ | refine al_ond rfl rfl rfl rfl rfl rfl (by exact (by exact opd_loadn_ref rfl Tryz.isAgg44 Tryz.sizeOf44 rfl rfl rfl rfl (by simp only [List.drop_succ_cons, List.drop_zero, List.take_succ_cons, List.take_zero, List.take_nil, List.map_cons, List.map_nil, List.set_cons_zero, List.set_cons_succ, List.cons_append, List.nil_append, encTag, encObj, encStr, encEdit, zObj]; rfl) rfl)) ?_)
                all_goals (first | refine al_off rfl rfl rfl rfl rfl ?_ | refine al_ond rfl rfl rfl rfl rfl rfl (by exact (by exact opd_loadn_ref rfl Tryz.isAgg44 Tryz.sizeOf44 rfl rfl rfl rfl (by simp only [List.drop_succ_cons, List.drop_zero, List.take_succ_cons, List.take_zero, List.take_nil, List.map_cons, List.map_nil, List.set_cons_zero, List.set_cons_succ, List.cons_append, List.nil_append, encTag, encObj, encStr, encEdit, zObj]; rfl) rfl)) ?_)
                all_goals (first | refine al_off rfl rfl rfl rfl rfl ?_ | refine al_ond rfl rfl rfl rfl rfl rfl (by exact opr_call rfl rfl Tryz.call69 rfl (sameE_c ⟨e.op, e.id, e.other, e.node, 0, 0, sNil, sNil, [], zObj⟩ e _ (by (show 0 < _; omega)) okS_z)) ?_)
                all_goals (refine al_d rfl rfl rfl (by exact (by first | exact opd_pick_t rfl rfl rfl | exact opd_pick_f rfl rfl rfl)) ?_)
                all_goals (refine al_d rfl rfl rfl (by exact opd_assign rfl rfl) ?_)
                all_goals (refine al_nil ?_)
                all_goals (exact ⟨⟨_, rfl, by (rw [h127]; rfl)⟩, rfl, rfl, rfl⟩)
              refine awp_ret ?_
              -- return
              refine aret1 (H' := []) (by exact .inr rfl) rfl (rval_tmp rfl) (Fin.wk (by simp) trivial trivial) ?_
              exact ⟨by rw [hv], rfl⟩
            · have ho6 : ¬ e.op = 6 := of_decide_eq_false hc6
              refine awp_seq ?_
              refine awp_region ?_
              refine al_d rfl rfl rfl (by exact opd_eql rfl rfl rfl) ?_
              refine al_d rfl rfl rfl (by exact opd_assign rfl rfl) ?_
              refine al_nil ?_
              refine awp_cond rfl (fun hc7 => ?_) (fun hc7 => ?_)
              -- cond 7
              · have ho : e.op = 7 := of_decide_eq_true hc7
                have hx : xOf e = ⟨e.op, e.id, e.other, sNil, 0, 0, sNil, sNil, [], zObj⟩ := by rw [xOf, if_neg ho1, if_neg ho2, if_neg ho3, if_neg ho4, if_neg ho5, if_neg ho6]
                have hk : okOf e = (gName e.id && gName e.other) := by rw [okOf, if_neg ho1, if_neg ho2, if_neg ho3, if_neg ho4, if_neg ho5, if_neg ho6]
                have hb : (gName e.id && gName e.other) = (gName e.id && gName e.other) := by rfl
                have hv : gEditV e = ((gName e.id && gName e.other) && gSameE ⟨e.op, e.id, e.other, sNil, 0, 0, sNil, sNil, [], zObj⟩ e) := by rw [gEditV, hx, hk, hb, ho]; rfl
                apply awp_mergeW (t := 4) (n := 11) (X := gName e.id && gName e.other)
                · cases hg119 : (gName e.id : Bool)
                  · refine awp_drawc follows ?_
                    refine dc_cons (r := ⟨_, some [1], []⟩) (DStep.plain rfl (fun H1 hH => by exact (by exact opd_field_ref rfl fo44_2 rfl ((hH _ rfl).trans rfl) rfl rfl))) rfl ?_
                    refine dc_cons (r := ⟨_, some [1], []⟩) (DStep.plain rfl (fun H1 hH => by exact (by exact opd_load1_ref rfl Tryz.isAgg9 rfl ((hH _ rfl).trans rfl) rfl rfl rfl))) rfl ?_
                    refine dc_cons (r := ⟨_, some [], []⟩) (DStep.plain rfl (fun H1 hH => by exact opd_move rfl rfl)) rfl ?_
                    refine dc_cons (r := ⟨_, some [], []⟩) (DStep.plain rfl (fun H1 hH => by exact opd_move rfl rfl)) rfl ?_
                    refine dc_cons (q_off_t rfl rfl rfl (by rfl)) rfl ?_
                    refine dc_cons (q_off_t rfl rfl rfl (by rfl)) rfl ?_
                    refine dc_cons (q_off_t rfl rfl rfl (by rfl)) rfl ?_
                    refine dc_cons (q_off_t rfl rfl rfl (by rfl)) rfl ?_
                    refine dc_cons (r := ⟨_, some [], []⟩) (DStep.plain rfl (fun H1 hH => by exact (by exact opd_pick_f rfl rfl rfl))) rfl ?_
                    refine dc_cons (r := ⟨_, some [3], []⟩) (DStep.plain rfl (fun H1 hH => by exact (by exact opd_field_ref rfl fo44_2 rfl ((hH _ rfl).trans rfl) rfl rfl))) rfl ?_
                    refine dc_cons (r := ⟨_, some [3], [_]⟩) (DStep.plain rfl (fun H1 hH => by exact (by exact x_store1 rfl Tryz.sizeOf9 rfl rfl rfl ((hH _ rfl).trans rfl) rfl rfl (Nat.le_of_ble_eq_true rfl) rfl rfl))) rfl ?_
                    refine dc_cons (r := ⟨_, some [], []⟩) (DStep.plain rfl (fun H1 hH => by exact opd_assign rfl rfl)) rfl ?_
                    refine dc_nil ⟨by kernel_rfl, ?_⟩
                    exact ⟨rfl, ⟨_, rfl, by rfl⟩, rfl, rfl, rfl⟩
                  · refine awp_drawc follows ?_
                    refine dc_cons (r := ⟨_, some [1], []⟩) (DStep.plain rfl (fun H1 hH => by exact (by exact opd_field_ref rfl fo44_2 rfl ((hH _ rfl).trans rfl) rfl rfl))) rfl ?_
                    refine dc_cons (r := ⟨_, some [1], []⟩) (DStep.plain rfl (fun H1 hH => by exact (by exact opd_load1_ref rfl Tryz.isAgg9 rfl ((hH _ rfl).trans rfl) rfl rfl rfl))) rfl ?_
                    refine dc_cons (r := ⟨_, some [], []⟩) (DStep.plain rfl (fun H1 hH => by exact opd_move rfl rfl)) rfl ?_
                    refine dc_cons (r := ⟨_, some [], []⟩) (DStep.plain rfl (fun H1 hH => by exact opd_move rfl rfl)) rfl ?_
                    refine dc_cons (r := ⟨_, some [1], []⟩) (l_on_t rfl rfl rfl (by rfl) (fun H1 hH => by exact (by exact opd_field_ref rfl fo44_2 rfl ((hH _ rfl).trans rfl) rfl rfl))) rfl ?_
                    refine dc_cons (r := ⟨_, some [1], []⟩) (l_on_t rfl rfl rfl (by rfl) (fun H1 hH => by exact (by exact opd_load1_ref rfl Tryz.isAgg9 rfl ((hH _ rfl).trans rfl) rfl rfl rfl))) rfl ?_
                    refine dc_cons (r := ⟨_, some [], []⟩) (l_on_t rfl rfl rfl (by rfl) (fun H1 hH => by exact x_buildSlice ([e.other].map encStr) rfl so39 rfl rfl rfl rfl rfl (by simp [encStr]))) rfl ?_
                    refine dc_cons (r := ⟨_, some [], []⟩) (l_on_t rfl rfl rfl (by rfl) (fun H1 hH => by exact opr_call rfl rfl Tryz.call67 rfl (n1_c e.other _ h2))) rfl ?_
                    refine dc_cons (r := ⟨_, some [], []⟩) (DStep.plain rfl (fun H1 hH => by exact (by exact opd_pick_t rfl rfl rfl))) rfl ?_
                    refine dc_cons (r := ⟨_, some [3], []⟩) (DStep.plain rfl (fun H1 hH => by exact (by exact opd_field_ref rfl fo44_2 rfl ((hH _ rfl).trans rfl) rfl rfl))) rfl ?_
                    refine dc_cons (r := ⟨_, some [3], [_]⟩) (DStep.plain rfl (fun H1 hH => by exact (by exact x_store1 rfl Tryz.sizeOf9 rfl rfl rfl ((hH _ rfl).trans rfl) rfl rfl (Nat.le_of_ble_eq_true rfl) rfl rfl))) rfl ?_
                    refine dc_cons (r := ⟨_, some [], []⟩) (DStep.plain rfl (fun H1 hH => by exact opd_assign rfl rfl)) rfl ?_
                    refine dc_nil ⟨by kernel_rfl, ?_⟩
                    exact ⟨rfl, ⟨_, rfl, by rfl⟩, rfl, rfl, rfl⟩
                refine awp_seq ?_
                refine awp_bool (t := 2) (n := 8) (X := (gName e.id && gName e.other) && gSameE ⟨e.op, e.id, e.other, sNil, 0, 0, sNil, sNil, [], zObj⟩ e) ?_ ?_
                · all_goals (refine al_d rfl rfl rfl (by exact opd_move rfl rfl) ?_)
                  all_goals (refine al_d rfl rfl rfl (by exact opd_move rfl rfl) ?_)
                  all_goals (refine al_split (t := 127) rfl (fun h127 => ?_) (fun h127 => ?_))
                  all_goals (try contradiction)
                  all_goals (first | refine al_off rfl rfl rfl rfl rfl ?_ | refine al_ond rfl rfl rfl rfl rfl rfl (by exact (by exact opd_loadn_ref rfl Tryz.isAgg44 Tryz.sizeOf44 rfl rfl rfl rfl (by simp only [List.drop_succ_cons, List.drop_zero, List.take_succ_cons, List.take_zero, List.take_nil, List.map_cons, List.map_nil, List.set_cons_zero, List.set_cons_succ, List.cons_append, List.nil_append, encTag, encObj, encStr, encEdit, zObj]; rfl) rfl)) ?_)
                  all_goals (first | refine al_off rfl rfl rfl rfl rfl ?_ | refine al_ond rfl rfl rfl rfl rfl rfl (by exact (by exact opd_loadn_ref rfl Tryz.isAgg44 Tryz.sizeOf44 rfl rfl rfl rfl (by simp only [List.drop_succ_cons, List.drop_zero, List.take_succ_cons, List.take_zero, List.take_nil, List.map_cons, List.map_nil, List.set_cons_zero, List.set_cons_succ, List.cons_append, List.nil_append, encTag, encObj, encStr, encEdit, zObj]; rfl) rfl)) ?_)
                  all_goals (first | refine al_off rfl rfl rfl rfl rfl ?_ | refine al_ond rfl rfl rfl rfl rfl rfl (by exact opr_call rfl rfl Tryz.call69 rfl (sameE_c ⟨e.op, e.id, e.other, sNil, 0, 0, sNil, sNil, [], zObj⟩ e _ (by (show 0 < _; omega)) okS_z)) ?_)
                  all_goals (refine al_d rfl rfl rfl (by exact (by first | exact opd_pick_t rfl rfl rfl | exact opd_pick_f rfl rfl rfl)) ?_)
                  all_goals (refine al_d rfl rfl rfl (by exact opd_assign rfl rfl) ?_)
                  all_goals (refine al_nil ?_)
                  all_goals (exact ⟨⟨_, rfl, by (rw [h127]; rfl)⟩, rfl, rfl, rfl⟩)
                refine awp_ret ?_
                -- return
                refine aret1 (H' := []) (by exact .inr rfl) rfl (rval_tmp rfl) (Fin.wk (by simp) trivial trivial) ?_
                exact ⟨by rw [hv], rfl⟩
              · have ho7 : ¬ e.op = 7 := of_decide_eq_false hc7
                refine awp_seq ?_
                refine awp_region ?_
                refine al_d rfl rfl rfl (by exact opd_assign rfl rfl) ?_
                refine al_nil ?_
                refine awp_ret ?_
                -- return
                refine aret1 (H' := []) (by exact .inr rfl) rfl (rval_tmp rfl) (Fin.wk (by simp) trivial trivial) ?_
                refine ⟨?_, rfl⟩
                have : gEditV e = false := by
                  rw [gEditV, Bool.and_eq_false_iff]
                  left
                  rw [Bool.and_eq_false_iff, decide_eq_false_iff_not, decide_eq_false_iff_not]
                  omega
                rw [this]
theorem changeValid1_c (e : GEdit) (H : Heap) (he : okE e) : ACalls Tryz.prog 64 [av (encEdit e)] H (fun r H' => r = bv (!gEditV e) ∧ H' = H) := by
  refine ACalls.pure ?_ (by simp) H
  refine ACalls.body Tryz.func64 rfl Tryz.ntmps64 (Nat.le_of_ble_eq_true rfl) ?_
  refine awp_seq ?_
  refine awp_region ?_
  refine al_d rfl rfl rfl (by exact opd_box (id := 1) rfl rfl rfl rfl rfl) ?_
  refine al_d rfl rfl rfl (by exact opd_assign rfl rfl) ?_
  refine al_nil ?_
  refine awp_seq ?_
  refine awp_region ?_
  refine al_d rfl rfl rfl (by exact (by exact opd_loadn_ref rfl Tryz.isAgg44 Tryz.sizeOf44 rfl rfl rfl rfl (by simp only [List.drop_succ_cons, List.drop_zero, List.take_succ_cons, List.take_zero, List.take_nil, List.map_cons, List.map_nil, List.set_cons_zero, List.set_cons_succ, List.cons_append, List.nil_append, encTag, encObj, encStr, encEdit, zObj]; rfl) rfl)) ?_
  refine al_d rfl rfl rfl (by exact opr_call rfl rfl Tryz.call25 rfl (editValid_c e _ he)) ?_
  refine al_d rfl rfl rfl (by exact opd_not rfl rfl) ?_
  refine al_d rfl rfl rfl (by exact opd_assign rfl rfl) ?_
  refine al_nil ?_
  refine awp_ret ?_
  -- return
  refine aret1 (H' := []) (by exact .inr rfl) rfl (rval_tmp rfl) (Fin.wk (by simp) trivial trivial) ?_
  exact ⟨rfl, rfl⟩
def gChange (l : List GEdit) : Bool := decide ((0 : Int) < (l.length : Int)) && decide ((l.length : Int) ≤ 200) && !(l.any (fun e => !gEditV e))
theorem changeValid_c (l : List GEdit) (H : Heap) (hl : l.length < 4611686018427387904) (he : ∀ e ∈ l, okE e) : ACalls Tryz.prog 22 [.pv (slEdits l)] H (fun r H' => r = bv (gChange l) ∧ H' = H) := by
  refine ACalls.pure ?_ (by simp) H
  have hml : (l.map encEdit).length = l.length := List.length_map _
  refine ACalls.body Tryz.func22 rfl Tryz.ntmps22 (Nat.le_of_ble_eq_true rfl) ?_
  refine awp_seq ?_
  refine awp_region ?_
  refine al_d rfl rfl rfl (by exact opd_assign rfl rfl) ?_
  refine al_nil ?_
  refine awp_seq ?_
  refine awp_bool (t := 2) (n := 16) (X := decide ((0 : Int) < ((l.map encEdit).length : Int)) && decide (((l.map encEdit).length : Int) ≤ 200) && !(l.any (fun e => !gEditV e))) ?_ ?_
  · all_goals (refine al_d rfl rfl rfl (by exact opd_move rfl rfl) ?_)
    all_goals (refine al_d rfl rfl rfl (by exact (by exact opd_len_sl rfl Tryz.underlying25 rfl)) ?_)
    all_goals (refine al_d rfl rfl rfl (by exact opd_gtr rfl rfl rfl) ?_)
    all_goals (refine al_d rfl rfl rfl (by exact opd_move rfl rfl) ?_)
    all_goals (refine al_split (t := 6) rfl (fun h6 => ?_) (fun h6 => ?_))
    all_goals (try contradiction)
    all_goals (first | refine al_off rfl rfl rfl rfl rfl ?_ | refine al_ond rfl rfl rfl rfl rfl rfl (by exact opd_move rfl rfl) ?_)
    all_goals (first | refine al_off rfl rfl rfl rfl rfl ?_ | refine al_ond rfl rfl rfl rfl rfl rfl (by exact (by exact opd_len_sl rfl Tryz.underlying25 rfl)) ?_)
    all_goals (first | refine al_off rfl rfl rfl rfl rfl ?_ | refine al_ond rfl rfl rfl rfl rfl rfl (by exact opd_leq rfl rfl rfl) ?_)
    all_goals (refine al_d rfl rfl rfl (by exact (by first | exact opd_pick_t rfl rfl rfl | exact opd_pick_f rfl rfl rfl)) ?_)
    all_goals (refine al_d rfl rfl rfl (by exact opd_move rfl rfl) ?_)
    all_goals (refine al_split (t := 11) rfl (fun h11 => ?_) (fun h11 => ?_))
    all_goals (try contradiction)
    all_goals (first | refine al_off rfl rfl rfl rfl rfl ?_ | refine al_ond rfl rfl rfl rfl rfl rfl (by exact opd_move rfl rfl) ?_)
    all_goals (first | refine al_off rfl rfl rfl rfl rfl ?_ | refine al_ond rfl rfl rfl rfl rfl rfl (by exact opr_call rfl rfl Tryz.call58 rfl (containsFunc_GEdit (.pv (.fn 64)) l (fun e => !gEditV e) _ hl (fun e h => CallsV.fn Tryz.call64 (changeValid1_c e _ (he e h))))) ?_)
    all_goals (first | refine al_off rfl rfl rfl rfl rfl ?_ | refine al_ond rfl rfl rfl rfl rfl rfl (by exact opd_not rfl rfl) ?_)
    all_goals (refine al_d rfl rfl rfl (by exact (by first | exact opd_pick_t rfl rfl rfl | exact opd_pick_f rfl rfl rfl)) ?_)
    all_goals (refine al_d rfl rfl rfl (by exact opd_assign rfl rfl) ?_)
    all_goals (refine al_nil ?_)
    all_goals (exact ⟨⟨_, rfl, by first | (simp_all; done) | (simp_all; omega)⟩, rfl, rfl, rfl⟩)
  refine awp_ret ?_
  -- return
  refine aret1 (H' := []) (by exact .inr rfl) rfl (rval_tmp rfl) (Fin.wk (by simp) trivial trivial) ?_
  exact ⟨by rw [gChange, hml], rfl⟩
end Go.Proofs.YtdgoodjhndeojaaGreat
end
section
set_option linter.unusedVariables false
set_option linter.unusedSimpArgs false
set_option maxRecDepth 100000
namespace Go.Proofs.YtdgoodjhndeojaaGreat
open Go.Abs
theorem find1_c (o : GObj) (id : ByteArray) (H : Heap) (T : Nat) (h3 : H.get 3 = some (bx 1 T [sv id])) (h9 : H.get 972 = none) (hc : Closed H) :
    ACalls Tryz.prog 82 [av (encObj o), .ref 3 0 0 0] H (fun r H' => r = bv (idIs id o) ∧ H' = H) := by
  have h3' : Heap.get ((972, bx 6 42 ((encObj o).map .pv)) :: H) 3 = some (bx 1 T [sv id]) := h3
  refine ACalls.body Tryz.func82 rfl Tryz.ntmps82 (Nat.le_of_ble_eq_true rfl) ?_
  refine awp_seq ?_
  refine awp_region ?_
  refine al_d rfl rfl rfl (by exact opd_box (id := 972) rfl rfl rfl rfl h9) ?_
  refine al_d rfl rfl rfl (by exact opd_assign rfl rfl) ?_
  refine al_nil ?_
  refine awp_seq ?_
  refine awp_region ?_
  refine al_d rfl rfl rfl (by exact (by exact opd_field_ref rfl fo42_0 rfl rfl rfl rfl)) ?_
  refine al_d rfl rfl rfl (by exact (by exact opd_load1_ref rfl Tryz.isAgg9 rfl rfl rfl rfl rfl)) ?_
  refine al_d rfl rfl rfl (by exact opd_load1_ref rfl Tryz.isAgg9 rfl h3' rfl rfl rfl) ?_
  refine al_d rfl rfl rfl (by exact opd_seql rfl rfl rfl) ?_
  refine al_d rfl rfl rfl (by exact opd_assign rfl rfl) ?_
  refine al_nil ?_
  refine awp_ret ?_
  -- return
  refine aret1 (H' := H) (.inr rfl) rfl (rval_tmp rfl) (Fin.pops [(972, bx 6 42 ((encObj o).map .pv))] (by simp) hc (by simp [h9])) ⟨rfl, rfl⟩
theorem find_c (m : List GObj) (id : ByteArray) (H : Heap) (hm : m.length < 4611686018427387904) : ACalls Tryz.prog 36 [.agg [.pv (slObjs m)], sv id] H (fun r H' => r = iv (gidx (idIs id) m) ∧ H' = H) := by
  refine ACalls.pure ?_ (by simp) H
  have hf : ∀ o, o ∈ m → CallsV Tryz.prog (.clo 82 [.ref 3 0 0 0]) [.agg ((encObj o).map .pv)] [(3, bx 1 9 [sv id]), (2, bx 1 24 [.pv (slObjs m)])] (fun r H' => r = bv (idIs id o) ∧ H' = [(3, bx 1 9 [sv id]), (2, bx 1 24 [.pv (slObjs m)])]) :=
    fun o _ => CallsV.clo Tryz.call82 (find1_c o id _ 9 rfl rfl (Closed.of (by simp)))
  refine ACalls.body Tryz.func36 rfl Tryz.ntmps36 (Nat.le_of_ble_eq_true rfl) ?_
  refine awp_seq ?_
  refine awp_region ?_
  refine al_d rfl rfl rfl (by exact opd_box (id := 2) rfl rfl rfl rfl rfl) ?_
  refine al_d rfl rfl rfl (by exact opd_box (id := 3) rfl rfl rfl rfl rfl) ?_
  refine al_d rfl rfl rfl (by exact opd_assign rfl rfl) ?_
  refine al_nil ?_
  refine awp_seq ?_
  refine awp_region ?_
  refine al_d rfl rfl rfl (by exact (by exact opd_field_ref rfl fo24_0 rfl rfl rfl rfl)) ?_
  refine al_d rfl rfl rfl (by exact (by exact opd_load1_ref rfl Tryz.isAgg22 rfl rfl rfl rfl rfl)) ?_
  refine al_d rfl rfl rfl (by exact opd_makeFunc rfl rfl) ?_
  refine al_d rfl rfl rfl (by exact opr_call rfl rfl Tryz.call81 rfl (indexFunc_GObj _ m (idIs id) _ hm hf)) ?_
  refine al_d rfl rfl rfl (by exact opd_assign rfl rfl) ?_
  refine al_nil ?_
  refine awp_ret ?_
  -- return
  refine aret1 (H' := []) (by exact .inr rfl) rfl (rval_tmp rfl) (Fin.wk (by simp) trivial trivial) ?_
  exact ⟨rfl, rfl⟩
def ptRow (p : Int × Int) : List PV := [.int .i64 p.1, .int .i64 p.2]
theorem near_c (x y u v : Int) (H : Heap) : ACalls Tryz.prog 159 [lv [[.int .i64 x, .int .i64 y], [.int .i64 u, .int .i64 v]]] H (fun r H' => r = bv (nearP x y && nearP u v) ∧ H' = H) := by
  refine ACalls.pure ?_ (by simp) H
  obtain ⟨L, hL⟩ : ∃ L : List (Int × Int), L = [(x, y), (u, v)] := ⟨_, rfl⟩
  have e1 : ([[.int .i64 x, .int .i64 y], [.int .i64 u, .int .i64 v]] : List (List PV)) = L.map ptRow := by rw [hL]; rfl
  have e2 : (nearP x y && nearP u v) = L.all (fun p => nearP p.1 p.2) := by rw [hL]; simp
  have hl : L.length = 2 := by rw [hL]; rfl
  rw [e1, e2]
  clear hL e1 e2
  have hml : (L.map ptRow).length = L.length := List.length_map _
  refine ACalls.body Tryz.func159 rfl Tryz.ntmps159 (Nat.le_of_ble_eq_true rfl) ?_
  refine awp_seq ?_
  refine awp_region ?_
  refine al_d rfl rfl rfl (by exact opd_assign rfl rfl) ?_
  refine al_nil ?_
  refine awp_seq ?_
  refine awp_seq ?_
  refine awp_region ?_
  refine al_d rfl rfl rfl (by exact opd_move rfl rfl) ?_
  refine al_d rfl rfl rfl (by exact (by exact opd_len_sl rfl Tryz.underlying199 rfl)) ?_
  refine al_d rfl rfl rfl (by exact opd_move rfl rfl) ?_
  refine al_nil ?_
  refine awp_block ?_
  -- loop
  refine awp_loop (σ := Nat) (fun k => ([(5, lv (L.map ptRow)), (6, iv ((L.map ptRow).length : Int)), (7, iv (k : Int))], [])) (fun k => k ≤ L.length ∧ ∀ j, j < k → ∀ b, L[j]? = some b → (!nearP b.1 b.2) = false) (fun k => L.length - k) 0 ⟨by omega, by omega⟩ ?_ ?_
  · exact (Ent.wk ⟨⟨_, rfl, rfl⟩, (by (simp; done)), ⟨_, rfl, rfl⟩, (by (simp; done)), ⟨_, rfl, rfl⟩, (by (simp; done)), trivial⟩ trivial trivial)
  · rintro k ⟨hk, hno⟩
    refine awp_seq ?_
    refine awp_region ?_
    refine al_d rfl rfl rfl (by exact opd_lss rfl rfl rfl) ?_
    refine al_nil ?_
    refine awp_seq ?_
    refine awp_cond rfl (fun hc1 => ?_) (fun hc1 => ?_)
    -- cond 1
    · have hlt : k < L.length := by have := of_decide_eq_true hc1; omega
      obtain ⟨p, hp⟩ := get_of_lt hlt
      have hi := map_get (f := ptRow) hp
      refine awp_skip ?_
      refine awp_seq ?_
      refine awp_block ?_
      refine awp_seq ?_
      refine awp_region ?_
      refine al_d rfl rfl rfl (by exact (by exact x_index_pad rfl so199 rfl rfl (by omega) (by exact Int.toNat_natCast _) (by assumption) rfl)) ?_
      refine al_d rfl rfl rfl (by exact (by exact opd_loadn_pad rfl Tryz.isAgg38 Tryz.sizeOf38 rfl (by omega) (by simp only [List.drop_succ_cons, List.drop_zero, List.take_succ_cons, List.take_zero, List.take_nil, List.map_cons, List.map_nil, List.set_cons_zero, List.set_cons_succ, List.cons_append, List.nil_append, ptRow]; rfl) rfl)) ?_
      refine al_d rfl rfl rfl (by exact x_alloc (id := 4) rfl zo38 rfl rfl) ?_
      refine al_n rfl rfl (by exact (by exact x_store_all rfl Tryz.sizeOf38 rfl rfl rfl rfl rfl rfl rfl rfl)) ?_
      refine al_nil ?_
      refine awp_seq ?_
      refine awp_bool (t := 24) (n := 15) (X := !nearP p.1 p.2) ?_ ?_
      · all_goals (refine al_d rfl rfl rfl (by exact (by exact opd_field_ref rfl fo38_0 rfl rfl rfl rfl)) ?_)
        all_goals (refine al_d rfl rfl rfl (by exact (by exact opd_load1_ref rfl Tryz.isAgg3 rfl rfl rfl rfl rfl)) ?_)
        all_goals (refine al_d rfl rfl rfl (by exact (by exact opd_field_ref rfl fo38_1 rfl rfl rfl rfl)) ?_)
        all_goals (refine al_d rfl rfl rfl (by exact (by exact opd_load1_ref rfl Tryz.isAgg3 rfl rfl rfl rfl rfl)) ?_)
        all_goals (refine al_d rfl rfl rfl (by exact opd_max rfl rfl rfl rfl) ?_)
        all_goals (refine al_d rfl rfl rfl (by exact opd_gtr rfl rfl rfl) ?_)
        all_goals (refine al_d rfl rfl rfl (by exact opd_move rfl rfl) ?_)
        all_goals (refine al_split (t := 17) rfl (fun h17 => ?_) (fun h17 => ?_))
        all_goals (try contradiction)
        all_goals (first | refine al_off rfl rfl rfl rfl rfl ?_ | refine al_ond rfl rfl rfl rfl rfl rfl (by exact (by exact opd_field_ref rfl fo38_0 rfl rfl rfl rfl)) ?_)
        all_goals (first | refine al_off rfl rfl rfl rfl rfl ?_ | refine al_ond rfl rfl rfl rfl rfl rfl (by exact (by exact opd_load1_ref rfl Tryz.isAgg3 rfl rfl rfl rfl rfl)) ?_)
        all_goals (first | refine al_off rfl rfl rfl rfl rfl ?_ | refine al_ond rfl rfl rfl rfl rfl rfl (by exact (by exact opd_field_ref rfl fo38_1 rfl rfl rfl rfl)) ?_)
        all_goals (first | refine al_off rfl rfl rfl rfl rfl ?_ | refine al_ond rfl rfl rfl rfl rfl rfl (by exact (by exact opd_load1_ref rfl Tryz.isAgg3 rfl rfl rfl rfl rfl)) ?_)
        all_goals (first | refine al_off rfl rfl rfl rfl rfl ?_ | refine al_ond rfl rfl rfl rfl rfl rfl (by exact opd_min rfl rfl rfl rfl) ?_)
        all_goals (first | refine al_off rfl rfl rfl rfl rfl ?_ | refine al_ond rfl rfl rfl rfl rfl rfl (by exact opd_lss rfl rfl rfl) ?_)
        all_goals (refine al_d rfl rfl rfl (by exact (by first | exact opd_pick_t rfl rfl rfl | exact opd_pick_f rfl rfl rfl)) ?_)
        all_goals (refine al_nil ?_)
        all_goals (exact ⟨⟨_, rfl, by (simp only [nearP, Bool.not_not, *]; rfl)⟩, rfl, rfl, rfl⟩)
      refine awp_cond rfl (fun hc2 => ?_) (fun hc2 => ?_)
      -- cond 2
      · have hb : L.all (fun p => nearP p.1 p.2) = false := by
          rw [List.all_eq_false]
          exact ⟨p, List.mem_of_getElem? hp, by simpa using hc2⟩
        refine awp_seq ?_
        refine awp_region ?_
        refine al_d rfl rfl rfl (by exact opd_assign rfl rfl) ?_
        refine al_nil ?_
        refine awp_ret ?_
        -- return
        refine aret1 (H' := []) (by exact .inr rfl) rfl (rval_tmp rfl) (Fin.wk (by simp) trivial trivial) ?_
        exact ⟨by rw [hb], rfl⟩
      · skip
        refine awp_skip ?_
        refine awp_region ?_
        refine al_d rfl rfl rfl (by exact opd_add rfl rfl rfl (by exact w64 (by omega) (by omega))) ?_
        refine al_d rfl rfl rfl (by exact opd_move rfl rfl) ?_
        refine al_nil ?_
        -- end of a round
        exact ⟨k + 1, ⟨by omega, pre_succ hno hp hc2⟩, by omega, (Ent.wk ⟨⟨_, rfl, rfl⟩, (by (simp; done)), ⟨_, rfl, rfl⟩, (by (simp; done)), ⟨_, rfl, rfl⟩, (by (simp; done)), trivial⟩ trivial trivial)⟩
    · have hge : k = L.length := by have := of_decide_eq_false hc1; omega
      subst hge
      have hb : L.all (fun p => nearP p.1 p.2) = true := by
        rw [List.all_eq_true]
        intro p hp
        obtain ⟨j, hj⟩ := List.mem_iff_getElem?.1 hp
        have := hno j (List.getElem?_eq_some_iff.1 hj).1 p hj
        simpa using this
      refine awp_exit ?_
      refine awp_seq ?_
      refine awp_region ?_
      refine al_d rfl rfl rfl (by exact opd_assign rfl rfl) ?_
      refine al_nil ?_
      refine awp_ret ?_
      -- return
      refine aret1 (H' := []) (by exact .inr rfl) rfl (rval_tmp rfl) (Fin.wk (by simp) trivial trivial) ?_
      exact ⟨by rw [hb], rfl⟩
theorem nearP_lo {x y : Int} (h : nearP x y = true) : (-2097152 ≤ x ∧ x ≤ 2097152) ∧ -2097152 ≤ y ∧ y ≤ 2097152 := by
  simp only [nearP, Bool.not_eq_true', Bool.or_eq_false_iff, decide_eq_false_iff_not] at h
  omega
theorem to_c (x y u v : Int) (H : Heap) (h1 : nearP x y = true) (h2 : nearP u v = true) : ACalls Tryz.prog 160 [.agg [iv x, iv y], .agg [iv u, iv v]] H (fun r H' => r = .agg [iv (u - x), iv (v - y)] ∧ H' = H) := by
  refine ACalls.pure ?_ (by simp) H
  have b1 := nearP_lo h1
  have b2 := nearP_lo h2
  refine ACalls.body Tryz.func160 rfl Tryz.ntmps160 (Nat.le_of_ble_eq_true rfl) ?_
  refine awp_seq ?_
  refine awp_region ?_
  refine al_d rfl rfl rfl (by exact opd_box (id := 2) rfl rfl rfl rfl rfl) ?_
  refine al_d rfl rfl rfl (by exact opd_box (id := 3) rfl rfl rfl rfl rfl) ?_
  refine al_d rfl rfl rfl (by exact x_alloc (id := 4) rfl zo159 rfl rfl) ?_
  refine al_nil ?_
  refine awp_seq ?_
  refine awp_region ?_
  refine al_d rfl rfl rfl (by exact (by exact opd_field_ref rfl fo38_0 rfl rfl rfl rfl)) ?_
  refine al_d rfl rfl rfl (by exact (by exact opd_load1_ref rfl Tryz.isAgg3 rfl rfl rfl rfl rfl)) ?_
  refine al_d rfl rfl rfl (by exact (by exact opd_field_ref rfl fo38_0 rfl rfl rfl rfl)) ?_
  refine al_d rfl rfl rfl (by exact (by exact opd_load1_ref rfl Tryz.isAgg3 rfl rfl rfl rfl rfl)) ?_
  refine al_d rfl rfl rfl (by exact opd_sub rfl rfl rfl (by exact w64 (by omega) (by omega))) ?_
  refine al_d rfl rfl rfl (by exact (by exact opd_field_ref rfl fo38_1 rfl rfl rfl rfl)) ?_
  refine al_d rfl rfl rfl (by exact (by exact opd_load1_ref rfl Tryz.isAgg3 rfl rfl rfl rfl rfl)) ?_
  refine al_d rfl rfl rfl (by exact (by exact opd_field_ref rfl fo38_1 rfl rfl rfl rfl)) ?_
  refine al_d rfl rfl rfl (by exact (by exact opd_load1_ref rfl Tryz.isAgg3 rfl rfl rfl rfl rfl)) ?_
  refine al_d rfl rfl rfl (by exact opd_sub rfl rfl rfl (by exact w64 (by omega) (by omega))) ?_
  refine al_d rfl rfl rfl (by exact x_build rfl bo159 rfl rfl) ?_
  refine al_n rfl rfl (by exact (by exact x_store_all rfl Tryz.sizeOf159 rfl rfl rfl rfl rfl rfl rfl rfl)) ?_
  refine al_nil ?_
  refine awp_ret ?_
  -- return
  refine aret1 (H' := []) (by exact .inr rfl) rfl (rval_cell rfl Tryz.isAgg159 Tryz.sizeOf159 rfl rfl rfl (by simp only [List.drop_succ_cons, List.drop_zero, List.take_succ_cons, List.take_zero, List.take_nil, List.map_cons, List.map_nil, List.set_cons_zero, List.set_cons_succ, List.cons_append, List.nil_append, encTag, encObj, encStr, encEdit, zObj]; rfl) rfl) (Fin.wk (r := .agg [iv (u - x), iv (v - y)]) (by simp) trivial trivial) ?_
  exact ⟨rfl, rfl⟩
theorem sq_bd {d : Int} (h1 : -4194304 ≤ d) (h2 : d ≤ 4194304) : 0 ≤ d * d ∧ d * d ≤ 17592186044416 := by
  constructor
  · rcases Int.le_total 0 d with h | h
    · exact Int.mul_nonneg h h
    · exact Int.mul_nonneg_of_nonpos_of_nonpos h h
  · have h3 : (4194304 - d) * (4194304 + d) ≥ 0 := Int.mul_nonneg (by omega) (by omega)
    have h4 : (4194304 - d) * (4194304 + d) = 17592186044416 - d * d := by
      rw [Int.sub_mul, Int.mul_add, Int.mul_add]; rw [Int.mul_comm d 4194304]; omega
    omega
theorem dot_c (a b : Int) (H : Heap) (ha : -4194304 ≤ a ∧ a ≤ 4194304) (hb : -4194304 ≤ b ∧ b ≤ 4194304) : ACalls Tryz.prog 161 [.agg [iv a, iv b], .agg [iv a, iv b]] H (fun r H' => r = iv (a * a + b * b) ∧ H' = H) := by
  refine ACalls.pure ?_ (by simp) H
  have q1 := sq_bd ha.1 ha.2
  have q2 := sq_bd hb.1 hb.2
  refine ACalls.body Tryz.func161 rfl Tryz.ntmps161 (Nat.le_of_ble_eq_true rfl) ?_
  refine awp_seq ?_
  refine awp_region ?_
  refine al_d rfl rfl rfl (by exact opd_box (id := 2) rfl rfl rfl rfl rfl) ?_
  refine al_d rfl rfl rfl (by exact opd_box (id := 3) rfl rfl rfl rfl rfl) ?_
  refine al_d rfl rfl rfl (by exact opd_assign rfl rfl) ?_
  refine al_nil ?_
  refine awp_seq ?_
  refine awp_region ?_
  refine al_d rfl rfl rfl (by exact (by exact opd_field_ref rfl fo159_0 rfl rfl rfl rfl)) ?_
  refine al_d rfl rfl rfl (by exact (by exact opd_load1_ref rfl Tryz.isAgg3 rfl rfl rfl rfl rfl)) ?_
  refine al_d rfl rfl rfl (by exact (by exact opd_field_ref rfl fo159_0 rfl rfl rfl rfl)) ?_
  refine al_d rfl rfl rfl (by exact (by exact opd_load1_ref rfl Tryz.isAgg3 rfl rfl rfl rfl rfl)) ?_
  refine al_d rfl rfl rfl (by exact opd_mul rfl rfl rfl (by exact w64 (by omega) (by omega))) ?_
  refine al_d rfl rfl rfl (by exact (by exact opd_field_ref rfl fo159_1 rfl rfl rfl rfl)) ?_
  refine al_d rfl rfl rfl (by exact (by exact opd_load1_ref rfl Tryz.isAgg3 rfl rfl rfl rfl rfl)) ?_
  refine al_d rfl rfl rfl (by exact (by exact opd_field_ref rfl fo159_1 rfl rfl rfl rfl)) ?_
  refine al_d rfl rfl rfl (by exact (by exact opd_load1_ref rfl Tryz.isAgg3 rfl rfl rfl rfl rfl)) ?_
  refine al_d rfl rfl rfl (by exact opd_mul rfl rfl rfl (by exact w64 (by omega) (by omega))) ?_
  refine al_d rfl rfl rfl (by exact opd_add rfl rfl rfl (by exact w64 (by omega) (by omega))) ?_
  refine al_d rfl rfl rfl (by exact opd_assign rfl rfl) ?_
  refine al_nil ?_
  refine awp_ret ?_
  -- return
  refine aret1 (H' := []) (by exact .inr rfl) rfl (rval_tmp rfl) (Fin.wk (by simp) trivial trivial) ?_
  exact ⟨rfl, rfl⟩
theorem distance_c (x y u v : Int) (H : Heap) : ACalls Tryz.prog 111 [.agg [iv x, iv y], .agg [iv u, iv v]] H (fun r H' => r = iv (gDist x y u v) ∧ H' = H) := by
  refine ACalls.pure ?_ (by simp) H
  refine ACalls.body Tryz.func111 rfl Tryz.ntmps111 (Nat.le_of_ble_eq_true rfl) ?_
  refine awp_seq ?_
  refine awp_region ?_
  refine al_d rfl rfl rfl (by exact opd_box (id := 2) rfl rfl rfl rfl rfl) ?_
  refine al_d rfl rfl rfl (by exact opd_box (id := 3) rfl rfl rfl rfl rfl) ?_
  refine al_d rfl rfl rfl (by exact opd_assign rfl rfl) ?_
  refine al_nil ?_
  refine awp_seq ?_
  refine awp_seq ?_
  refine awp_region ?_
  refine al_d rfl rfl rfl (by exact (by exact opd_loadn_ref rfl Tryz.isAgg38 Tryz.sizeOf38 rfl rfl rfl rfl (by simp only [List.drop_succ_cons, List.drop_zero, List.take_succ_cons, List.take_zero, List.take_nil, List.map_cons, List.map_nil, List.set_cons_zero, List.set_cons_succ, List.cons_append, List.nil_append, encTag, encObj, encStr, encEdit, zObj]; rfl) rfl)) ?_
  refine al_d rfl rfl rfl (by exact (by exact opd_loadn_ref rfl Tryz.isAgg38 Tryz.sizeOf38 rfl rfl rfl rfl (by simp only [List.drop_succ_cons, List.drop_zero, List.take_succ_cons, List.take_zero, List.take_nil, List.map_cons, List.map_nil, List.set_cons_zero, List.set_cons_succ, List.cons_append, List.nil_append, encTag, encObj, encStr, encEdit, zObj]; rfl) rfl)) ?_
  refine al_d rfl rfl rfl (by exact x_buildSlice [[.int .i64 x, .int .i64 y], [.int .i64 u, .int .i64 v]] rfl so199 rfl rfl rfl rfl rfl (by simp)) ?_
  refine al_d rfl rfl rfl (by exact opr_call rfl rfl Tryz.call159 rfl (near_c x y u v _)) ?_
  refine al_d rfl rfl rfl (by exact opd_not rfl rfl) ?_
  refine al_nil ?_
  refine awp_cond rfl (fun hc1 => ?_) (fun hc1 => ?_)
  -- cond 1
  · have hb : (nearP x y && nearP u v) = false := by
      have h : (!(nearP x y && nearP u v)) = true := hc1
      rw [Bool.not_eq_true'] at h
      exact h
    refine awp_seq ?_
    refine awp_region ?_
    refine al_d rfl rfl rfl (by exact opd_assign rfl rfl) ?_
    refine al_nil ?_
    refine awp_ret ?_
    -- return
    refine aret1 (H' := []) (by exact .inr rfl) rfl (rval_tmp rfl) (Fin.wk (by simp) trivial trivial) ?_
    exact ⟨by rw [gDist, hb]; rfl, rfl⟩
  · have hb : (nearP x y && nearP u v) = true := by
      have h : (!(nearP x y && nearP u v)) = false := hc1
      rw [Bool.not_eq_false'] at h
      exact h
    have hb2 := hb
    rw [Bool.and_eq_true] at hb2
    have b1 := nearP_lo hb2.1
    have b2 := nearP_lo hb2.2
    refine awp_skip ?_
    refine awp_seq ?_
    refine awp_region ?_
    refine al_d rfl rfl rfl (by exact (by exact opd_loadn_ref rfl Tryz.isAgg38 Tryz.sizeOf38 rfl rfl rfl rfl (by simp only [List.drop_succ_cons, List.drop_zero, List.take_succ_cons, List.take_zero, List.take_nil, List.map_cons, List.map_nil, List.set_cons_zero, List.set_cons_succ, List.cons_append, List.nil_append, encTag, encObj, encStr, encEdit, zObj]; rfl) rfl)) ?_
    refine al_d rfl rfl rfl (by exact (by exact opd_loadn_ref rfl Tryz.isAgg38 Tryz.sizeOf38 rfl rfl rfl rfl (by simp only [List.drop_succ_cons, List.drop_zero, List.take_succ_cons, List.take_zero, List.take_nil, List.map_cons, List.map_nil, List.set_cons_zero, List.set_cons_succ, List.cons_append, List.nil_append, encTag, encObj, encStr, encEdit, zObj]; rfl) rfl)) ?_
    refine al_d rfl rfl rfl (by exact opr_call rfl rfl Tryz.call160 rfl (to_c x y u v _ hb2.1 hb2.2)) ?_
    refine al_d rfl rfl rfl (by exact x_alloc (id := 5) rfl zo159 rfl rfl) ?_
    refine al_n rfl rfl (by exact (by exact x_store_all rfl Tryz.sizeOf159 rfl rfl rfl rfl rfl rfl rfl rfl)) ?_
    refine al_nil ?_
    refine awp_seq ?_
    refine awp_region ?_
    refine al_d rfl rfl rfl (by exact (by exact opd_loadn_ref rfl Tryz.isAgg159 Tryz.sizeOf159 rfl rfl rfl rfl (by simp only [List.drop_succ_cons, List.drop_zero, List.take_succ_cons, List.take_zero, List.take_nil, List.map_cons, List.map_nil, List.set_cons_zero, List.set_cons_succ, List.cons_append, List.nil_append, encTag, encObj, encStr, encEdit, zObj]; rfl) rfl)) ?_
    refine al_d rfl rfl rfl (by exact (by exact opd_loadn_ref rfl Tryz.isAgg159 Tryz.sizeOf159 rfl rfl rfl rfl (by simp only [List.drop_succ_cons, List.drop_zero, List.take_succ_cons, List.take_zero, List.take_nil, List.map_cons, List.map_nil, List.set_cons_zero, List.set_cons_succ, List.cons_append, List.nil_append, encTag, encObj, encStr, encEdit, zObj]; rfl) rfl)) ?_
    refine al_d rfl rfl rfl (by exact opr_call rfl rfl Tryz.call161 rfl (dot_c (u - x) (v - y) _ (by omega) (by omega))) ?_
    refine al_d rfl rfl rfl (by exact opd_assign rfl rfl) ?_
    refine al_nil ?_
    refine awp_ret ?_
    -- return
    refine aret1 (H' := []) (by exact .inr rfl) rfl (rval_tmp rfl) (Fin.wk (by simp) trivial trivial) ?_
    exact ⟨by rw [gDist, hb]; rfl, rfl⟩
end Go.Proofs.YtdgoodjhndeojaaGreat
end
section
set_option linter.unusedVariables false
set_option linter.unusedSimpArgs false
set_option maxRecDepth 100000
namespace Go.Proofs.YtdgoodjhndeojaaGreat
open Go.Abs
theorem obOf_some {m : List GObj} {id : ByteArray} {o : GObj} (h : m.find? (idIs id) = some o) : obOf m id = o ∧ isOb m id = true := by
  constructor
  · rw [obOf, h]; rfl
  · rw [isOb, h]; rfl
theorem obOf_none {m : List GObj} {id : ByteArray} (h : m.find? (idIs id) = none) : obOf m id = zObj ∧ isOb m id = false := by
  constructor
  · rw [obOf, h]; rfl
  · rw [isOb, h]; rfl
abbrev bEd (e : GEdit) : Ob := bx 15 44 ((encEdit e).map .pv)
abbrev bOb (o : GObj) : Ob := bx 6 42 ((encObj o).map .pv)
theorem sus1_c (m : List GObj) (id : ByteArray) (H : Heap) (hm : m.length < 4611686018427387904) (h1 : H.get 801 = some (bx 1 24 [.pv (slObjs m)])) (h9 : H.get 971 = none) (hc : Closed H) :
    ACalls Tryz.prog 106 [sv id, .ref 801 0 0 0] H (fun r H' => r = .tup [av (encObj (obOf m id)), bv (isOb m id)] ∧ H' = H) := by
  refine ACalls.body Tryz.func106 rfl Tryz.ntmps106 (Nat.le_of_ble_eq_true rfl) ?_
  refine awp_seq ?_
  refine awp_region ?_
  refine al_d rfl rfl rfl (by exact x_alloc (id := 971) rfl zo42 rfl h9) ?_
  refine al_d rfl rfl rfl (by exact opd_assign rfl rfl) ?_
  refine al_nil ?_
  refine awp_seq ?_
  refine awp_region ?_
  refine al_d rfl rfl rfl (by exact (by exact opd_loadn_ref rfl Tryz.isAgg24 Tryz.sizeOf24 rfl h1 rfl rfl (by simp only [List.drop_succ_cons, List.drop_zero, List.take_succ_cons, List.take_zero, List.take_nil, List.map_cons, List.map_nil, List.set_cons_zero, List.set_cons_succ, List.cons_append, List.nil_append, encTag, encObj, encStr, encEdit, zObj]; rfl) rfl)) ?_
  refine al_d rfl rfl rfl (by exact opd_move rfl rfl) ?_
  refine al_d rfl rfl rfl (by exact opr_call rfl rfl Tryz.call36 rfl (find_c m id _ hm)) ?_
  refine al_d rfl rfl rfl (by exact opd_assign rfl rfl) ?_
  refine al_nil ?_
  refine awp_seq ?_
  refine awp_seq ?_
  refine awp_region ?_
  refine al_d rfl rfl rfl (by exact opd_move rfl rfl) ?_
  refine al_d rfl rfl rfl (by exact opd_lss rfl rfl rfl) ?_
  refine al_nil ?_
  refine awp_cond rfl (fun hc1 => ?_) (fun hc1 => ?_)
  -- cond 1
  · have hn : m.find? (idIs id) = none := by
      rcases gidx_cases (idIs id) m with ⟨_, h⟩ | ⟨k, o, h, _, _⟩
      · exact h
      · have := of_decide_eq_true hc1
        omega
    rw [(obOf_none hn).1, (obOf_none hn).2]
    refine awp_seq ?_
    refine awp_region ?_
    refine al_d rfl rfl rfl (by exact x_build rfl bo42 rfl rfl) ?_
    refine al_n rfl rfl (by exact (by exact x_store_all rfl Tryz.sizeOf42 rfl rfl rfl rfl rfl rfl rfl rfl)) ?_
    refine al_d rfl rfl rfl (by exact opd_assign rfl rfl) ?_
    refine al_nil ?_
    refine awp_ret ?_
    -- return
    refine aret2 (H' := H) (.inr rfl) rfl (rval_cell rfl Tryz.isAgg42 Tryz.sizeOf42 rfl rfl rfl rfl rfl) (rval_tmp rfl) (Fin.pops [(971, bOb zObj), (971, bOb zObj)] (by simp [encObj, zObj]) hc (by simp [h9])) ⟨rfl, rfl⟩
  · obtain ⟨k, o, hk, ho, hf⟩ : ∃ (k : Nat) (o : GObj), gidx (idIs id) m = (k : Int) ∧ m[k]? = some o ∧ m.find? (idIs id) = some o := by
      rcases gidx_cases (idIs id) m with ⟨h, _⟩ | h
      · have := of_decide_eq_false hc1
        omega
      · exact h
    have hi := map_get (f := encObj) ho
    have hkl := (List.getElem?_eq_some_iff.1 ho).1
    have hml : (m.map encObj).length = m.length := List.length_map _
    rw [(obOf_some hf).1, (obOf_some hf).2, hk]
    refine awp_skip ?_
    refine awp_seq ?_
    refine awp_region ?_
    refine al_d rfl rfl rfl (by exact (by exact opd_field_ref rfl fo24_0 rfl h1 rfl rfl)) ?_
    refine al_d rfl rfl rfl (by exact (by exact opd_load1_ref rfl Tryz.isAgg22 rfl h1 rfl rfl rfl)) ?_
    refine al_d rfl rfl rfl (by exact opd_move rfl rfl) ?_
    refine al_d rfl rfl rfl (by exact (by exact x_index_pad rfl so22 rfl rfl (by omega) (by exact Int.toNat_natCast _) (by assumption) rfl)) ?_
    refine al_d rfl rfl rfl (by exact (by exact opd_loadn_pad rfl Tryz.isAgg42 Tryz.sizeOf42 rfl (by omega) (by simp only [List.drop_succ_cons, List.drop_zero, List.take_succ_cons, List.take_zero, List.take_nil, List.map_cons, List.map_nil, List.set_cons_zero, List.set_cons_succ, List.cons_append, List.nil_append, encTag, encObj, encStr, encEdit, zObj]; rfl) rfl)) ?_
    refine al_n rfl rfl (by exact (by exact x_store_all rfl Tryz.sizeOf42 rfl rfl rfl rfl rfl rfl rfl rfl)) ?_
    refine al_d rfl rfl rfl (by exact opd_assign rfl rfl) ?_
    refine al_nil ?_
    refine awp_ret ?_
    -- return
    refine aret2 (H' := H) (.inr rfl) rfl (rval_cell rfl Tryz.isAgg42 Tryz.sizeOf42 rfl rfl rfl rfl rfl) (rval_tmp rfl) (Fin.pops [(971, bOb o), (971, bOb zObj)] (by simp [encObj]) hc (by simp [h9])) ⟨rfl, rfl⟩
abbrev sFn : AV := .clo 106 [.ref 801 0 0 0]
/-- What the closures of the kinds lean on. -/
structure SusH (m : List GObj) (H : Heap) : Prop where
  m : H.get 801 = some (bx 1 24 [.pv (slObjs m)])
  f : H.get 803 = some (bx 1 124 [sFn])
  f1 : H.get 971 = none
  f2 : H.get 973 = none
  f3 : H.get 974 = none
  c : Closed H
theorem sus2_c (m : List GObj) (e : GEdit) (H : Heap) (hm : m.length < 4611686018427387904) (hH : SusH m H) :
    ACalls Tryz.prog 107 [av (encEdit e), .ref 803 0 0 0] H (fun r H' => r = bv (eShows 1 m e) ∧ H' = H) := by
  have h803 : Heap.get ((973, bEd e) :: H) 803 = some (bx 1 124 [sFn]) := hH.f
  refine ACalls.body Tryz.func107 rfl Tryz.ntmps107 (Nat.le_of_ble_eq_true rfl) ?_
  refine awp_seq ?_
  refine awp_region ?_
  refine al_d rfl rfl rfl (by exact opd_box (id := 973) rfl rfl rfl rfl hH.f2) ?_
  refine al_d rfl rfl rfl (by exact opd_assign rfl rfl) ?_
  refine al_nil ?_
  refine awp_seq ?_
  refine awp_region ?_
  refine al_d rfl rfl rfl (by exact (by exact opd_load1_ref rfl Tryz.isAgg124 rfl h803 rfl rfl rfl)) ?_
  refine al_d rfl rfl rfl (by exact (by exact opd_field_ref rfl fo44_1 rfl rfl rfl rfl)) ?_
  refine al_d rfl rfl rfl (by exact (by exact opd_load1_ref rfl Tryz.isAgg9 rfl rfl rfl rfl rfl)) ?_
  refine al_d rfl rfl rfl (by exact opr_callV rfl rfl rfl (CallsV.clo Tryz.call106 (sus1_c m e.id _ hm hH.m hH.f1 (Closed.cons (by simp [encEdit]) hH.c)))) ?_
  refine al_d rfl rfl rfl (by exact opd_move rfl rfl) ?_
  refine al_d rfl rfl rfl (by exact opd_extract rfl rfl rfl) ?_
  refine al_d rfl rfl rfl (by exact opd_extract rfl rfl rfl) ?_
  refine al_d rfl rfl rfl (by exact x_alloc (id := 974) rfl zo42 rfl hH.f3) ?_
  refine al_n rfl rfl (by exact (by exact x_store_all rfl Tryz.sizeOf42 rfl rfl rfl rfl rfl rfl rfl rfl)) ?_
  refine al_d rfl rfl rfl (by exact opd_assign rfl rfl) ?_
  refine al_nil ?_
  refine awp_seq ?_
  refine awp_bool (t := 3) (n := 8) (X := eShows 1 m e) ?_ ?_
  · all_goals (refine al_d rfl rfl rfl (by exact (by exact opd_field_ref rfl fo44_0 rfl rfl rfl rfl)) ?_)
    all_goals (refine al_d rfl rfl rfl (by exact (by exact opd_load1_ref rfl Tryz.isAgg3 rfl rfl rfl rfl rfl)) ?_)
    all_goals (refine al_d rfl rfl rfl (by exact opd_eql rfl rfl rfl) ?_)
    all_goals (refine al_d rfl rfl rfl (by exact opd_move rfl rfl) ?_)
    all_goals (refine al_split (t := 16) rfl (fun h16 => ?_) (fun h16 => ?_))
    all_goals (try contradiction)
    all_goals (first | refine al_off rfl rfl rfl rfl rfl ?_ | refine al_ond rfl rfl rfl rfl rfl rfl (by exact opd_move rfl rfl) ?_)
    all_goals (refine al_d rfl rfl rfl (by exact (by first | exact opd_pick_t rfl rfl rfl | exact opd_pick_f rfl rfl rfl)) ?_)
    all_goals (refine al_d rfl rfl rfl (by exact opd_assign rfl rfl) ?_)
    all_goals (refine al_nil ?_)
    all_goals (exact ⟨⟨_, rfl, by (simp only [eShows, *]; rfl)⟩, rfl, rfl, rfl⟩)
  refine awp_ret ?_
  -- return
  refine aret1 (H' := H) (.inr rfl) rfl (rval_tmp rfl) (Fin.pops [(974, bOb (obOf m e.id)), (974, bOb zObj), (973, bEd e)] (by simp) hH.c (by simp [hH.f2, hH.f3])) ⟨rfl, rfl⟩
end Go.Proofs.YtdgoodjhndeojaaGreat
end
