/-
  CONTRACTS: edit.Valid, change.Valid. Conditions: lengths below 2^62.
-/
import Derived.Test.YtdgoodjhndeojaaGreatKK1M7
section
set_option linter.unusedVariables false
set_option linter.unusedSimpArgs false
set_option maxRecDepth 100000
namespace Go.Proofs.YtdgoodjhndeojaaGreat
open Go.Abs
/-- The fields that an edit's operation uses, all others zero. -/
def xOf (e : GEdit) : GEdit :=
  if e.op = 1 then ⟨e.op, sNil, sNil, sNil, 0, 0, sNil, sNil, [], e.obj⟩
  else if e.op = 2 then ⟨e.op, e.id, sNil, sNil, e.x, e.y, sNil, sNil, [], zObj⟩
  else if e.op = 3 then ⟨e.op, e.id, sNil, sNil, 0, 0, e.key, e.val, [], zObj⟩
  else if e.op = 4 then ⟨e.op, e.id, sNil, sNil, 0, 0, sNil, sNil, e.refs, zObj⟩
  else if e.op = 5 then ⟨e.op, e.id, sNil, sNil, 0, 0, sNil, sNil, [], zObj⟩
  else if e.op = 6 then ⟨e.op, e.id, e.other, e.node, 0, 0, sNil, sNil, [], zObj⟩
  else ⟨e.op, e.id, e.other, sNil, 0, 0, sNil, sNil, [], zObj⟩
def okOf (e : GEdit) : Bool :=
  if e.op = 1 then gObj e.obj
  else gName e.id && (if e.op = 2 then onP e.x e.y else if e.op = 3 then gName e.key && decide ((e.val.size : Int) ≤ 200)
    else if e.op = 4 then decide ((0 : Int) < (e.refs.length : Int)) && decide ((e.refs.length : Int) ≤ 2000) && e.refs.all gName
    else if e.op = 5 then true else if e.op = 6 then gName e.node && gName e.other else gName e.other)
def gEditV (e : GEdit) : Bool := (decide (1 ≤ e.op) && decide (e.op ≤ 7)) && (okOf e && gSameE (xOf e) e)
def okE (e : GEdit) : Prop := (e.id.size < 4611686018427387904 ∧ e.other.size < 4611686018427387904 ∧ e.node.size < 4611686018427387904 ∧ e.key.size < 4611686018427387904) ∧ (e.refs.length < 4611686018427387904 ∧ ∀ s ∈ e.refs, s.size < 4611686018427387904) ∧ okO e.obj
theorem okS_of {o : GObj} (h : okO o) : okS o := ⟨h.2.2.1, h.2.1.1⟩
theorem okS_z : okS zObj := ⟨by decide, by decide⟩
theorem n1_c (s : ByteArray) (H : Heap) (hs : s.size < 4611686018427387904) : ACalls Tryz.prog 67 [.pv (slStrs [s])] H (fun r H' => r = bv (gName s) ∧ H' = H) := by
  have h := names_c [s] H (by show 1 < _; omega) (by simpa using hs)
  simpa using h
theorem n2_c (s t : ByteArray) (H : Heap) (hs : s.size < 4611686018427387904) (ht : t.size < 4611686018427387904) : ACalls Tryz.prog 67 [.pv (slStrs [s, t])] H (fun r H' => r = bv (gName s && gName t) ∧ H' = H) := by
  have h := names_c [s, t] H (by show 2 < _; omega) (by simpa using ⟨hs, ht⟩)
  simpa using h
theorem editValid_c (e : GEdit) (H : Heap) (he : okE e) : ACalls Tryz.prog 25 [av (encEdit e)] H (fun r H' => r = bv (gEditV e) ∧ H' = H) := by
  refine ACalls.pure ?_ (by simp) H
  obtain ⟨⟨h1, h2, h3, h4⟩, ⟨h5, h6⟩, h7⟩ := he
  have hrl : (e.refs.map encStr).length = e.refs.length := List.length_map _
  refine ACalls.body Tryz.func25 rfl Tryz.ntmps25 (Nat.le_of_ble_eq_true rfl) ?_
  refine awp_seq ?_
  refine awp_region ?_
  refine al_d rfl rfl rfl (by exact opd_box (id := 1) rfl rfl rfl rfl rfl) ?_
  refine al_d rfl rfl rfl (by exact opd_assign rfl rfl) ?_
  refine al_nil ?_
  refine awp_seq ?_
  refine awp_region ?_
  refine al_d rfl rfl rfl (by exact (by first | exact opd_field_ref rfl fo44_0 rfl rfl rfl rfl | exact opd_field_pad rfl fo44_0 rfl rfl)) ?_
  refine al_d rfl rfl rfl (by exact (by first | exact opd_load1_ref rfl Tryz.isAgg3 rfl rfl rfl rfl rfl | exact opd_load1_pad rfl Tryz.isAgg3 rfl (by first | omega | assumption) rfl)) ?_
  refine al_d rfl rfl rfl (by exact (by first | exact opd_field_ref rfl fo44_1 rfl rfl rfl rfl | exact opd_field_pad rfl fo44_1 rfl rfl)) ?_
  refine al_d rfl rfl rfl (by exact (by first | exact opd_load1_ref rfl Tryz.isAgg9 rfl rfl rfl rfl rfl | exact opd_load1_pad rfl Tryz.isAgg9 rfl (by first | omega | assumption) rfl)) ?_
  refine al_d rfl rfl rfl (by exact x_build rfl bo44 rfl rfl) ?_
  refine al_d rfl rfl rfl (by exact x_alloc (id := 3) rfl zo44 rfl rfl) ?_
  refine al_n rfl rfl (by exact (by first | exact x_store_all rfl Tryz.sizeOf44 rfl rfl rfl rfl rfl rfl rfl rfl | exact x_store rfl Tryz.sizeOf44 rfl rfl rfl rfl rfl rfl rfl (by simp only [List.length_cons, List.length_nil]; omega) (by simp only [List.drop_succ_cons, List.drop_zero, List.take_succ_cons, List.take_zero, List.take_nil, List.map_cons, List.map_nil, List.set_cons_zero, List.set_cons_succ, List.cons_append, List.nil_append, encTag, encObj, encStr, encEdit, zObj]; rfl) (by simp only [List.drop_succ_cons, List.drop_zero, List.take_succ_cons, List.take_zero, List.take_nil, List.map_cons, List.map_nil, List.set_cons_zero, List.set_cons_succ, List.cons_append, List.nil_append, encTag, encObj, encStr, encEdit, zObj]; rfl) | exact x_store rfl Tryz.sizeOf44 rfl rfl rfl rfl rfl rfl rfl (Nat.le_of_ble_eq_true rfl) rfl rfl)) ?_
  refine al_nil ?_
  refine awp_seq ?_
  refine awp_region ?_
  refine al_d rfl rfl rfl (by exact (by first | exact opd_field_ref rfl fo44_1 rfl rfl rfl rfl | exact opd_field_pad rfl fo44_1 rfl rfl)) ?_
  refine al_d rfl rfl rfl (by exact (by first | exact opd_load1_ref rfl Tryz.isAgg9 rfl rfl rfl rfl rfl | exact opd_load1_pad rfl Tryz.isAgg9 rfl (by first | omega | assumption) rfl)) ?_
  refine al_d rfl rfl rfl (by exact x_buildSlice ([e.id].map encStr) rfl so39 rfl rfl rfl rfl rfl (by simp [encStr])) ?_
  refine al_d rfl rfl rfl (by exact opr_call rfl rfl Tryz.call67 rfl (n1_c e.id _ h1)) ?_
  refine al_d rfl rfl rfl (by exact opd_assign rfl rfl) ?_
  refine al_nil ?_
  refine awp_seq ?_
  refine awp_seq ?_
  refine awp_region ?_
  refine al_d rfl rfl rfl (by exact (by first | exact opd_field_ref rfl fo44_0 rfl rfl rfl rfl | exact opd_field_pad rfl fo44_0 rfl rfl)) ?_
  refine al_d rfl rfl rfl (by exact (by first | exact opd_load1_ref rfl Tryz.isAgg3 rfl rfl rfl rfl rfl | exact opd_load1_pad rfl Tryz.isAgg3 rfl (by first | omega | assumption) rfl)) ?_
  refine al_nil ?_
  refine awp_block ?_
  refine awp_seq ?_
  refine awp_region ?_
  refine al_d rfl rfl rfl (by exact opd_eql rfl rfl rfl) ?_
  refine al_d rfl rfl rfl (by exact opd_assign rfl rfl) ?_
  refine al_nil ?_
  refine awp_cond rfl (fun hc1 => ?_) (fun hc1 => ?_)
  -- cond 1
  · have ho : e.op = 1 := of_decide_eq_true hc1
    have hx : xOf e = ⟨e.op, sNil, sNil, sNil, 0, 0, sNil, sNil, [], e.obj⟩ := by rw [xOf, if_pos ho]
    have hk : okOf e = gObj e.obj := by rw [okOf, if_pos ho]
    have hv : gEditV e = (gObj e.obj && gSameE ⟨e.op, sNil, sNil, sNil, 0, 0, sNil, sNil, [], e.obj⟩ e) := by rw [gEditV, hx, hk, ho]; rfl
    refine awp_drawc follows ?_
    refine dc_cons (r := ⟨_, some [1], []⟩) (DStep.plain rfl (fun H1 hH => by exact (by first | exact opd_field_ref rfl fo44_8 rfl ((hH _ rfl).trans rfl) rfl rfl | exact opd_field_pad rfl fo44_8 rfl rfl))) rfl ?_
    refine dc_cons (r := ⟨_, some [1], []⟩) (DStep.plain rfl (fun H1 hH => by exact (by first | exact opd_loadn_ref rfl Tryz.isAgg42 Tryz.sizeOf42 rfl ((hH _ rfl).trans rfl) rfl rfl (by simp only [List.drop_succ_cons, List.drop_zero, List.take_succ_cons, List.take_zero, List.take_nil, List.map_cons, List.map_nil, List.set_cons_zero, List.set_cons_succ, List.cons_append, List.nil_append, encTag, encObj, encStr, encEdit, zObj]; rfl) rfl | exact opd_loadn_pad rfl Tryz.isAgg42 Tryz.sizeOf42 rfl (by first | omega | assumption) (by simp only [List.drop_succ_cons, List.drop_zero, List.take_succ_cons, List.take_zero, List.take_nil, List.map_cons, List.map_nil, List.set_cons_zero, List.set_cons_succ, List.cons_append, List.nil_append, encTag, encObj, encStr, encEdit, zObj]; rfl) rfl))) rfl ?_
    refine dc_cons (r := ⟨_, some [1], []⟩) (DStep.plain rfl (fun H1 hH => by exact (by first | exact opd_field_ref rfl fo44_8 rfl ((hH _ rfl).trans rfl) rfl rfl | exact opd_field_pad rfl fo44_8 rfl rfl))) rfl ?_
    refine dc_cons (r := ⟨_, some [1], []⟩) (DStep.plain rfl (fun H1 hH => by exact (by first | exact opd_loadn_ref rfl Tryz.isAgg42 Tryz.sizeOf42 rfl ((hH _ rfl).trans rfl) rfl rfl (by simp only [List.drop_succ_cons, List.drop_zero, List.take_succ_cons, List.take_zero, List.take_nil, List.map_cons, List.map_nil, List.set_cons_zero, List.set_cons_succ, List.cons_append, List.nil_append, encTag, encObj, encStr, encEdit, zObj]; rfl) rfl | exact opd_loadn_pad rfl Tryz.isAgg42 Tryz.sizeOf42 rfl (by first | omega | assumption) (by simp only [List.drop_succ_cons, List.drop_zero, List.take_succ_cons, List.take_zero, List.take_nil, List.map_cons, List.map_nil, List.set_cons_zero, List.set_cons_succ, List.cons_append, List.nil_append, encTag, encObj, encStr, encEdit, zObj]; rfl) rfl))) rfl ?_
    refine dc_cons (r := ⟨_, some [], []⟩) (DStep.plain rfl (fun H1 hH => by exact opr_call rfl rfl Tryz.call68 rfl (objValid_c e.obj _ h7))) rfl ?_
    refine dc_cons (r := ⟨_, some [3], []⟩) (DStep.plain rfl (fun H1 hH => by exact (by first | exact opd_field_ref rfl fo44_1 rfl ((hH _ rfl).trans rfl) rfl rfl | exact opd_field_pad rfl fo44_1 rfl rfl))) rfl ?_
    refine dc_cons (r := ⟨_, some [3], [_]⟩) (DStep.plain rfl (fun H1 hH => by exact (by first | exact x_store_all rfl Tryz.sizeOf9 rfl rfl rfl rfl ((hH _ rfl).trans rfl) rfl rfl rfl | exact x_store1 rfl Tryz.sizeOf9 rfl rfl rfl ((hH _ rfl).trans rfl) rfl rfl (by simp only [List.length_cons, List.length_nil]; omega) (by simp only [List.drop_succ_cons, List.drop_zero, List.take_succ_cons, List.take_zero, List.take_nil, List.map_cons, List.map_nil, List.set_cons_zero, List.set_cons_succ, List.cons_append, List.nil_append, encTag, encObj, encStr, encEdit, zObj]; rfl) (by simp only [List.drop_succ_cons, List.drop_zero, List.take_succ_cons, List.take_zero, List.take_nil, List.map_cons, List.map_nil, List.set_cons_zero, List.set_cons_succ, List.cons_append, List.nil_append, encTag, encObj, encStr, encEdit, zObj]; rfl) | exact x_store1 rfl Tryz.sizeOf9 rfl rfl rfl ((hH _ rfl).trans rfl) rfl rfl (Nat.le_of_ble_eq_true rfl) rfl rfl))) rfl ?_
    refine dc_cons (r := ⟨_, some [3], []⟩) (DStep.plain rfl (fun H1 hH => by exact (by first | exact opd_field_ref rfl fo44_8 rfl ((hH _ rfl).trans rfl) rfl rfl | exact opd_field_pad rfl fo44_8 rfl rfl))) rfl ?_
    refine dc_cons (r := ⟨_, some [3], [_]⟩) (DStep.plain rfl (fun H1 hH => by exact (by first | exact x_store_all rfl Tryz.sizeOf42 rfl rfl rfl rfl ((hH _ rfl).trans rfl) rfl rfl rfl | exact x_store rfl Tryz.sizeOf42 rfl rfl rfl rfl ((hH _ rfl).trans rfl) rfl rfl (by simp only [List.length_cons, List.length_nil]; omega) (by simp only [List.drop_succ_cons, List.drop_zero, List.take_succ_cons, List.take_zero, List.take_nil, List.map_cons, List.map_nil, List.set_cons_zero, List.set_cons_succ, List.cons_append, List.nil_append, encTag, encObj, encStr, encEdit, zObj]; rfl) (by simp only [List.drop_succ_cons, List.drop_zero, List.take_succ_cons, List.take_zero, List.take_nil, List.map_cons, List.map_nil, List.set_cons_zero, List.set_cons_succ, List.cons_append, List.nil_append, encTag, encObj, encStr, encEdit, zObj]; rfl) | exact x_store rfl Tryz.sizeOf42 rfl rfl rfl rfl ((hH _ rfl).trans rfl) rfl rfl (Nat.le_of_ble_eq_true rfl) rfl rfl))) rfl ?_
    refine dc_cons (r := ⟨_, some [], []⟩) (DStep.plain rfl (fun H1 hH => by exact opd_assign rfl rfl)) rfl ?_
    refine dc_nil ⟨by kernel_rfl, ?_⟩
    refine awp_seq ?_
    refine awp_bool (t := 2) (n := 8) (X := gObj e.obj && gSameE ⟨e.op, sNil, sNil, sNil, 0, 0, sNil, sNil, [], e.obj⟩ e) ?_ ?_
    · all_goals (refine al_d rfl rfl rfl (by exact opd_move rfl rfl) ?_)
      all_goals (refine al_d rfl rfl rfl (by exact opd_move rfl rfl) ?_)
      all_goals (first | refine al_split (t := 127) rfl (fun h127 => ?_) (fun h127 => ?_) | refine al_dup (t := 127) rfl ?_ | skip)
      all_goals (try contradiction)
      all_goals (first | refine al_off rfl rfl rfl rfl rfl ?_ | refine al_offu rfl rfl rfl rfl ?_ | refine al_ond rfl rfl rfl rfl rfl rfl (by exact (by first | exact opd_loadn_ref rfl Tryz.isAgg44 Tryz.sizeOf44 rfl rfl rfl rfl (by simp only [List.drop_succ_cons, List.drop_zero, List.take_succ_cons, List.take_zero, List.take_nil, List.map_cons, List.map_nil, List.set_cons_zero, List.set_cons_succ, List.cons_append, List.nil_append, encTag, encObj, encStr, encEdit, zObj]; rfl) rfl | exact opd_loadn_pad rfl Tryz.isAgg44 Tryz.sizeOf44 rfl (by first | omega | assumption) (by simp only [List.drop_succ_cons, List.drop_zero, List.take_succ_cons, List.take_zero, List.take_nil, List.map_cons, List.map_nil, List.set_cons_zero, List.set_cons_succ, List.cons_append, List.nil_append, encTag, encObj, encStr, encEdit, zObj]; rfl) rfl)) ?_)
      all_goals (first | refine al_off rfl rfl rfl rfl rfl ?_ | refine al_offu rfl rfl rfl rfl ?_ | refine al_ond rfl rfl rfl rfl rfl rfl (by exact (by first | exact opd_loadn_ref rfl Tryz.isAgg44 Tryz.sizeOf44 rfl rfl rfl rfl (by simp only [List.drop_succ_cons, List.drop_zero, List.take_succ_cons, List.take_zero, List.take_nil, List.map_cons, List.map_nil, List.set_cons_zero, List.set_cons_succ, List.cons_append, List.nil_append, encTag, encObj, encStr, encEdit, zObj]; rfl) rfl | exact opd_loadn_pad rfl Tryz.isAgg44 Tryz.sizeOf44 rfl (by first | omega | assumption) (by simp only [List.drop_succ_cons, List.drop_zero, List.take_succ_cons, List.take_zero, List.take_nil, List.map_cons, List.map_nil, List.set_cons_zero, List.set_cons_succ, List.cons_append, List.nil_append, encTag, encObj, encStr, encEdit, zObj]; rfl) rfl)) ?_)
      all_goals (first | refine al_off rfl rfl rfl rfl rfl ?_ | refine al_offu rfl rfl rfl rfl ?_ | refine al_ond rfl rfl rfl rfl rfl rfl (by exact opr_call rfl rfl Tryz.call69 rfl (sameE_c ⟨e.op, sNil, sNil, sNil, 0, 0, sNil, sNil, [], e.obj⟩ e _ (by show 0 < _; omega) (okS_of h7))) ?_)
      all_goals (refine al_d rfl rfl rfl (by exact (by first | exact opd_pick_t rfl rfl rfl | exact opd_pick_f rfl rfl rfl | exact opd_pickt rfl rfl (by assumption) rfl | exact opd_pickf rfl rfl (by assumption) rfl | exact opd_pick rfl rfl rfl)) ?_)
      all_goals (refine al_d rfl rfl rfl (by exact opd_assign rfl rfl) ?_)
      all_goals (refine al_nil ?_)
      all_goals (exact ⟨⟨_, rfl, by first | rfl | (simp only [gObj, *]; rfl) | (simp_all [gObj]; done) | (simp only [*, Bool.false_and, Bool.true_and, Bool.and_false, Bool.and_true, Bool.true_or, Bool.false_or, Bool.or_true, Bool.or_false, Bool.not_true, Bool.not_false]; done) | (simp_all; omega) | (simp_all [gObj]; omega)⟩, rfl, rfl, rfl⟩)
    refine awp_ret ?_
    -- return
    refine aret1 (H' := []) (by first | exact .inr rfl | exact .inl rfl) rfl (rval_tmp rfl) (Fin.wk (by simp) trivial trivial) ?_
    exact ⟨by rw [hv], rfl⟩
  · have ho1 : ¬ e.op = 1 := of_decide_eq_false hc1
    refine awp_seq ?_
    refine awp_region ?_
    refine al_d rfl rfl rfl (by exact opd_eql rfl rfl rfl) ?_
    refine al_d rfl rfl rfl (by exact opd_assign rfl rfl) ?_
    refine al_nil ?_
    refine awp_cond rfl (fun hc2 => ?_) (fun hc2 => ?_)
    -- cond 2
    · have ho : e.op = 2 := of_decide_eq_true hc2
      have hx : xOf e = ⟨e.op, e.id, sNil, sNil, e.x, e.y, sNil, sNil, [], zObj⟩ := by rw [xOf, if_neg ho1, if_pos ho]
      have hk : okOf e = (gName e.id && onP e.x e.y) := by rw [okOf, if_neg ho1, if_pos ho]
      have hb : (gName e.id && decide (0 ≤ min e.x e.y) && decide (max e.x e.y < 1048576)) = (gName e.id && onP e.x e.y) := by rw [onP, Bool.and_assoc]
      have hv : gEditV e = ((gName e.id && decide (0 ≤ min e.x e.y) && decide (max e.x e.y < 1048576)) && gSameE ⟨e.op, e.id, sNil, sNil, e.x, e.y, sNil, sNil, [], zObj⟩ e) := by rw [gEditV, hx, hk, hb, ho]; rfl
      apply awp_mergeW (t := 4) (n := 25) (X := gName e.id && decide (0 ≤ min e.x e.y) && decide (max e.x e.y < 1048576))
      · cases hg30 : (gName e.id : Bool)
        · refine awp_drawc follows ?_
          refine dc_cons (r := ⟨_, some [1], []⟩) (DStep.plain rfl (fun H1 hH => by exact (by first | exact opd_field_ref rfl fo44_4 rfl ((hH _ rfl).trans rfl) rfl rfl | exact opd_field_pad rfl fo44_4 rfl rfl))) rfl ?_
          refine dc_cons (r := ⟨_, some [1], []⟩) (DStep.plain rfl (fun H1 hH => by exact (by first | exact opd_loadn_ref rfl Tryz.isAgg38 Tryz.sizeOf38 rfl ((hH _ rfl).trans rfl) rfl rfl (by simp only [List.drop_succ_cons, List.drop_zero, List.take_succ_cons, List.take_zero, List.take_nil, List.map_cons, List.map_nil, List.set_cons_zero, List.set_cons_succ, List.cons_append, List.nil_append, encTag, encObj, encStr, encEdit, zObj]; rfl) rfl | exact opd_loadn_pad rfl Tryz.isAgg38 Tryz.sizeOf38 rfl (by first | omega | assumption) (by simp only [List.drop_succ_cons, List.drop_zero, List.take_succ_cons, List.take_zero, List.take_nil, List.map_cons, List.map_nil, List.set_cons_zero, List.set_cons_succ, List.cons_append, List.nil_append, encTag, encObj, encStr, encEdit, zObj]; rfl) rfl))) rfl ?_
          refine dc_cons (r := ⟨_, some [], []⟩) (DStep.plain rfl (fun H1 hH => by exact opd_move rfl rfl)) rfl ?_
          refine dc_cons (r := ⟨_, some [], []⟩) (DStep.plain rfl (fun H1 hH => by exact opd_move rfl rfl)) rfl ?_
          refine dc_cons (q_off_t rfl rfl rfl (by first | rfl | assumption)) rfl ?_
          refine dc_cons (q_off_t rfl rfl rfl (by first | rfl | assumption)) rfl ?_
          refine dc_cons (q_off_t rfl rfl rfl (by first | rfl | assumption)) rfl ?_
          refine dc_cons (q_off_t rfl rfl rfl (by first | rfl | assumption)) rfl ?_
          refine dc_cons (q_off_t rfl rfl rfl (by first | rfl | assumption)) rfl ?_
          refine dc_cons (q_off_t rfl rfl rfl (by first | rfl | assumption)) rfl ?_
          refine dc_cons (q_off_t rfl rfl rfl (by first | rfl | assumption)) rfl ?_
          refine dc_cons (q_off_t rfl rfl rfl (by first | rfl | assumption)) rfl ?_
          refine dc_cons (r := ⟨_, some [], []⟩) (DStep.plain rfl (fun H1 hH => by exact (by first | exact opd_pick_t rfl rfl rfl | exact opd_pick_f rfl rfl rfl | exact opd_pickt rfl rfl (by assumption) rfl | exact opd_pickf rfl rfl (by assumption) rfl | exact opd_pick rfl rfl rfl))) rfl ?_
          refine dc_cons (r := ⟨_, some [], []⟩) (DStep.plain rfl (fun H1 hH => by exact opd_move rfl rfl)) rfl ?_
          refine dc_cons (q_off_t rfl rfl rfl (by first | rfl | assumption)) rfl ?_
          refine dc_cons (q_off_t rfl rfl rfl (by first | rfl | assumption)) rfl ?_
          refine dc_cons (q_off_t rfl rfl rfl (by first | rfl | assumption)) rfl ?_
          refine dc_cons (q_off_t rfl rfl rfl (by first | rfl | assumption)) rfl ?_
          refine dc_cons (q_off_t rfl rfl rfl (by first | rfl | assumption)) rfl ?_
          refine dc_cons (q_off_t rfl rfl rfl (by first | rfl | assumption)) rfl ?_
          refine dc_cons (q_off_t rfl rfl rfl (by first | rfl | assumption)) rfl ?_
          refine dc_cons (q_off_t rfl rfl rfl (by first | rfl | assumption)) rfl ?_
          refine dc_cons (r := ⟨_, some [], []⟩) (DStep.plain rfl (fun H1 hH => by exact (by first | exact opd_pick_t rfl rfl rfl | exact opd_pick_f rfl rfl rfl | exact opd_pickt rfl rfl (by assumption) rfl | exact opd_pickf rfl rfl (by assumption) rfl | exact opd_pick rfl rfl rfl))) rfl ?_
          refine dc_cons (r := ⟨_, some [3], []⟩) (DStep.plain rfl (fun H1 hH => by exact (by first | exact opd_field_ref rfl fo44_4 rfl ((hH _ rfl).trans rfl) rfl rfl | exact opd_field_pad rfl fo44_4 rfl rfl))) rfl ?_
          refine dc_cons (r := ⟨_, some [3], [_]⟩) (DStep.plain rfl (fun H1 hH => by exact (by first | exact x_store_all rfl Tryz.sizeOf38 rfl rfl rfl rfl ((hH _ rfl).trans rfl) rfl rfl rfl | exact x_store rfl Tryz.sizeOf38 rfl rfl rfl rfl ((hH _ rfl).trans rfl) rfl rfl (by simp only [List.length_cons, List.length_nil]; omega) (by simp only [List.drop_succ_cons, List.drop_zero, List.take_succ_cons, List.take_zero, List.take_nil, List.map_cons, List.map_nil, List.set_cons_zero, List.set_cons_succ, List.cons_append, List.nil_append, encTag, encObj, encStr, encEdit, zObj]; rfl) (by simp only [List.drop_succ_cons, List.drop_zero, List.take_succ_cons, List.take_zero, List.take_nil, List.map_cons, List.map_nil, List.set_cons_zero, List.set_cons_succ, List.cons_append, List.nil_append, encTag, encObj, encStr, encEdit, zObj]; rfl) | exact x_store rfl Tryz.sizeOf38 rfl rfl rfl rfl ((hH _ rfl).trans rfl) rfl rfl (Nat.le_of_ble_eq_true rfl) rfl rfl))) rfl ?_
          refine dc_cons (r := ⟨_, some [], []⟩) (DStep.plain rfl (fun H1 hH => by exact opd_assign rfl rfl)) rfl ?_
          refine dc_nil ⟨by kernel_rfl, ?_⟩
          exact ⟨rfl, ⟨_, rfl, by first | rfl | (rw [h127]; rfl) | (rw [h127, Bool.true_and])⟩, rfl, rfl, rfl⟩
        · cases hg40 : (decide (0 ≤ min e.x e.y) : Bool)
          · refine awp_drawc follows ?_
            refine dc_cons (r := ⟨_, some [1], []⟩) (DStep.plain rfl (fun H1 hH => by exact (by first | exact opd_field_ref rfl fo44_4 rfl ((hH _ rfl).trans rfl) rfl rfl | exact opd_field_pad rfl fo44_4 rfl rfl))) rfl ?_
            refine dc_cons (r := ⟨_, some [1], []⟩) (DStep.plain rfl (fun H1 hH => by exact (by first | exact opd_loadn_ref rfl Tryz.isAgg38 Tryz.sizeOf38 rfl ((hH _ rfl).trans rfl) rfl rfl (by simp only [List.drop_succ_cons, List.drop_zero, List.take_succ_cons, List.take_zero, List.take_nil, List.map_cons, List.map_nil, List.set_cons_zero, List.set_cons_succ, List.cons_append, List.nil_append, encTag, encObj, encStr, encEdit, zObj]; rfl) rfl | exact opd_loadn_pad rfl Tryz.isAgg38 Tryz.sizeOf38 rfl (by first | omega | assumption) (by simp only [List.drop_succ_cons, List.drop_zero, List.take_succ_cons, List.take_zero, List.take_nil, List.map_cons, List.map_nil, List.set_cons_zero, List.set_cons_succ, List.cons_append, List.nil_append, encTag, encObj, encStr, encEdit, zObj]; rfl) rfl))) rfl ?_
            refine dc_cons (r := ⟨_, some [], []⟩) (DStep.plain rfl (fun H1 hH => by exact opd_move rfl rfl)) rfl ?_
            refine dc_cons (r := ⟨_, some [], []⟩) (DStep.plain rfl (fun H1 hH => by exact opd_move rfl rfl)) rfl ?_
            refine dc_cons (r := ⟨_, some [1], []⟩) (l_on_t rfl rfl rfl (by first | rfl | assumption) (fun H1 hH => by exact (by first | exact opd_field_ref rfl fo44_4 rfl ((hH _ rfl).trans rfl) rfl rfl | exact opd_field_pad rfl fo44_4 rfl rfl))) rfl ?_
            refine dc_cons (r := ⟨_, some [1], []⟩) (l_on_t rfl rfl rfl (by first | rfl | assumption) (fun H1 hH => by exact (by first | exact opd_field_ref rfl fo38_0 rfl ((hH _ rfl).trans rfl) rfl rfl | exact opd_field_pad rfl fo38_0 rfl rfl))) rfl ?_
            refine dc_cons (r := ⟨_, some [1], []⟩) (l_on_t rfl rfl rfl (by first | rfl | assumption) (fun H1 hH => by exact (by first | exact opd_load1_ref rfl Tryz.isAgg3 rfl ((hH _ rfl).trans rfl) rfl rfl rfl | exact opd_load1_pad rfl Tryz.isAgg3 rfl (by first | omega | assumption) rfl))) rfl ?_
            refine dc_cons (r := ⟨_, some [1], []⟩) (l_on_t rfl rfl rfl (by first | rfl | assumption) (fun H1 hH => by exact (by first | exact opd_field_ref rfl fo44_4 rfl ((hH _ rfl).trans rfl) rfl rfl | exact opd_field_pad rfl fo44_4 rfl rfl))) rfl ?_
            refine dc_cons (r := ⟨_, some [1], []⟩) (l_on_t rfl rfl rfl (by first | rfl | assumption) (fun H1 hH => by exact (by first | exact opd_field_ref rfl fo38_1 rfl ((hH _ rfl).trans rfl) rfl rfl | exact opd_field_pad rfl fo38_1 rfl rfl))) rfl ?_
            refine dc_cons (r := ⟨_, some [1], []⟩) (l_on_t rfl rfl rfl (by first | rfl | assumption) (fun H1 hH => by exact (by first | exact opd_load1_ref rfl Tryz.isAgg3 rfl ((hH _ rfl).trans rfl) rfl rfl rfl | exact opd_load1_pad rfl Tryz.isAgg3 rfl (by first | omega | assumption) rfl))) rfl ?_
            refine dc_cons (r := ⟨_, some [], []⟩) (l_on_t rfl rfl rfl (by first | rfl | assumption) (fun H1 hH => by exact opd_min rfl rfl rfl rfl)) rfl ?_
            refine dc_cons (r := ⟨_, some [], []⟩) (l_on_t rfl rfl rfl (by first | rfl | assumption) (fun H1 hH => by exact opd_geq rfl rfl rfl)) rfl ?_
            refine dc_cons (r := ⟨_, some [], []⟩) (DStep.plain rfl (fun H1 hH => by exact (by first | exact opd_pick_t rfl rfl rfl | exact opd_pick_f rfl rfl rfl | exact opd_pickt rfl rfl (by assumption) rfl | exact opd_pickf rfl rfl (by assumption) rfl | exact opd_pick rfl rfl rfl))) rfl ?_
            refine dc_cons (r := ⟨_, some [], []⟩) (DStep.plain rfl (fun H1 hH => by exact opd_move rfl rfl)) rfl ?_
            refine dc_cons (q_off_t rfl rfl rfl (by first | rfl | assumption)) rfl ?_
            refine dc_cons (q_off_t rfl rfl rfl (by first | rfl | assumption)) rfl ?_
            refine dc_cons (q_off_t rfl rfl rfl (by first | rfl | assumption)) rfl ?_
            refine dc_cons (q_off_t rfl rfl rfl (by first | rfl | assumption)) rfl ?_
            refine dc_cons (q_off_t rfl rfl rfl (by first | rfl | assumption)) rfl ?_
            refine dc_cons (q_off_t rfl rfl rfl (by first | rfl | assumption)) rfl ?_
            refine dc_cons (q_off_t rfl rfl rfl (by first | rfl | assumption)) rfl ?_
            refine dc_cons (q_off_t rfl rfl rfl (by first | rfl | assumption)) rfl ?_
            refine dc_cons (r := ⟨_, some [], []⟩) (DStep.plain rfl (fun H1 hH => by exact (by first | exact opd_pick_t rfl rfl rfl | exact opd_pick_f rfl rfl rfl | exact opd_pickt rfl rfl (by assumption) rfl | exact opd_pickf rfl rfl (by assumption) rfl | exact opd_pick rfl rfl rfl))) rfl ?_
            refine dc_cons (r := ⟨_, some [3], []⟩) (DStep.plain rfl (fun H1 hH => by exact (by first | exact opd_field_ref rfl fo44_4 rfl ((hH _ rfl).trans rfl) rfl rfl | exact opd_field_pad rfl fo44_4 rfl rfl))) rfl ?_
            refine dc_cons (r := ⟨_, some [3], [_]⟩) (DStep.plain rfl (fun H1 hH => by exact (by first | exact x_store_all rfl Tryz.sizeOf38 rfl rfl rfl rfl ((hH _ rfl).trans rfl) rfl rfl rfl | exact x_store rfl Tryz.sizeOf38 rfl rfl rfl rfl ((hH _ rfl).trans rfl) rfl rfl (by simp only [List.length_cons, List.length_nil]; omega) (by simp only [List.drop_succ_cons, List.drop_zero, List.take_succ_cons, List.take_zero, List.take_nil, List.map_cons, List.map_nil, List.set_cons_zero, List.set_cons_succ, List.cons_append, List.nil_append, encTag, encObj, encStr, encEdit, zObj]; rfl) (by simp only [List.drop_succ_cons, List.drop_zero, List.take_succ_cons, List.take_zero, List.take_nil, List.map_cons, List.map_nil, List.set_cons_zero, List.set_cons_succ, List.cons_append, List.nil_append, encTag, encObj, encStr, encEdit, zObj]; rfl) | exact x_store rfl Tryz.sizeOf38 rfl rfl rfl rfl ((hH _ rfl).trans rfl) rfl rfl (Nat.le_of_ble_eq_true rfl) rfl rfl))) rfl ?_
            refine dc_cons (r := ⟨_, some [], []⟩) (DStep.plain rfl (fun H1 hH => by exact opd_assign rfl rfl)) rfl ?_
            refine dc_nil ⟨by kernel_rfl, ?_⟩
            exact ⟨rfl, ⟨_, rfl, by first | rfl | (rw [h127]; rfl) | (rw [h127, Bool.true_and])⟩, rfl, rfl, rfl⟩
          · refine awp_drawc follows ?_
            refine dc_cons (r := ⟨_, some [1], []⟩) (DStep.plain rfl (fun H1 hH => by exact (by first | exact opd_field_ref rfl fo44_4 rfl ((hH _ rfl).trans rfl) rfl rfl | exact opd_field_pad rfl fo44_4 rfl rfl))) rfl ?_
            refine dc_cons (r := ⟨_, some [1], []⟩) (DStep.plain rfl (fun H1 hH => by exact (by first | exact opd_loadn_ref rfl Tryz.isAgg38 Tryz.sizeOf38 rfl ((hH _ rfl).trans rfl) rfl rfl (by simp only [List.drop_succ_cons, List.drop_zero, List.take_succ_cons, List.take_zero, List.take_nil, List.map_cons, List.map_nil, List.set_cons_zero, List.set_cons_succ, List.cons_append, List.nil_append, encTag, encObj, encStr, encEdit, zObj]; rfl) rfl | exact opd_loadn_pad rfl Tryz.isAgg38 Tryz.sizeOf38 rfl (by first | omega | assumption) (by simp only [List.drop_succ_cons, List.drop_zero, List.take_succ_cons, List.take_zero, List.take_nil, List.map_cons, List.map_nil, List.set_cons_zero, List.set_cons_succ, List.cons_append, List.nil_append, encTag, encObj, encStr, encEdit, zObj]; rfl) rfl))) rfl ?_
            refine dc_cons (r := ⟨_, some [], []⟩) (DStep.plain rfl (fun H1 hH => by exact opd_move rfl rfl)) rfl ?_
            refine dc_cons (r := ⟨_, some [], []⟩) (DStep.plain rfl (fun H1 hH => by exact opd_move rfl rfl)) rfl ?_
            refine dc_cons (r := ⟨_, some [1], []⟩) (l_on_t rfl rfl rfl (by first | rfl | assumption) (fun H1 hH => by exact (by first | exact opd_field_ref rfl fo44_4 rfl ((hH _ rfl).trans rfl) rfl rfl | exact opd_field_pad rfl fo44_4 rfl rfl))) rfl ?_
            refine dc_cons (r := ⟨_, some [1], []⟩) (l_on_t rfl rfl rfl (by first | rfl | assumption) (fun H1 hH => by exact (by first | exact opd_field_ref rfl fo38_0 rfl ((hH _ rfl).trans rfl) rfl rfl | exact opd_field_pad rfl fo38_0 rfl rfl))) rfl ?_
            refine dc_cons (r := ⟨_, some [1], []⟩) (l_on_t rfl rfl rfl (by first | rfl | assumption) (fun H1 hH => by exact (by first | exact opd_load1_ref rfl Tryz.isAgg3 rfl ((hH _ rfl).trans rfl) rfl rfl rfl | exact opd_load1_pad rfl Tryz.isAgg3 rfl (by first | omega | assumption) rfl))) rfl ?_
            refine dc_cons (r := ⟨_, some [1], []⟩) (l_on_t rfl rfl rfl (by first | rfl | assumption) (fun H1 hH => by exact (by first | exact opd_field_ref rfl fo44_4 rfl ((hH _ rfl).trans rfl) rfl rfl | exact opd_field_pad rfl fo44_4 rfl rfl))) rfl ?_
            refine dc_cons (r := ⟨_, some [1], []⟩) (l_on_t rfl rfl rfl (by first | rfl | assumption) (fun H1 hH => by exact (by first | exact opd_field_ref rfl fo38_1 rfl ((hH _ rfl).trans rfl) rfl rfl | exact opd_field_pad rfl fo38_1 rfl rfl))) rfl ?_
            refine dc_cons (r := ⟨_, some [1], []⟩) (l_on_t rfl rfl rfl (by first | rfl | assumption) (fun H1 hH => by exact (by first | exact opd_load1_ref rfl Tryz.isAgg3 rfl ((hH _ rfl).trans rfl) rfl rfl rfl | exact opd_load1_pad rfl Tryz.isAgg3 rfl (by first | omega | assumption) rfl))) rfl ?_
            refine dc_cons (r := ⟨_, some [], []⟩) (l_on_t rfl rfl rfl (by first | rfl | assumption) (fun H1 hH => by exact opd_min rfl rfl rfl rfl)) rfl ?_
            refine dc_cons (r := ⟨_, some [], []⟩) (l_on_t rfl rfl rfl (by first | rfl | assumption) (fun H1 hH => by exact opd_geq rfl rfl rfl)) rfl ?_
            refine dc_cons (r := ⟨_, some [], []⟩) (DStep.plain rfl (fun H1 hH => by exact (by first | exact opd_pick_t rfl rfl rfl | exact opd_pick_f rfl rfl rfl | exact opd_pickt rfl rfl (by assumption) rfl | exact opd_pickf rfl rfl (by assumption) rfl | exact opd_pick rfl rfl rfl))) rfl ?_
            refine dc_cons (r := ⟨_, some [], []⟩) (DStep.plain rfl (fun H1 hH => by exact opd_move rfl rfl)) rfl ?_
            refine dc_cons (r := ⟨_, some [1], []⟩) (l_on_t rfl rfl rfl (by first | rfl | assumption) (fun H1 hH => by exact (by first | exact opd_field_ref rfl fo44_4 rfl ((hH _ rfl).trans rfl) rfl rfl | exact opd_field_pad rfl fo44_4 rfl rfl))) rfl ?_
            refine dc_cons (r := ⟨_, some [1], []⟩) (l_on_t rfl rfl rfl (by first | rfl | assumption) (fun H1 hH => by exact (by first | exact opd_field_ref rfl fo38_0 rfl ((hH _ rfl).trans rfl) rfl rfl | exact opd_field_pad rfl fo38_0 rfl rfl))) rfl ?_
            refine dc_cons (r := ⟨_, some [1], []⟩) (l_on_t rfl rfl rfl (by first | rfl | assumption) (fun H1 hH => by exact (by first | exact opd_load1_ref rfl Tryz.isAgg3 rfl ((hH _ rfl).trans rfl) rfl rfl rfl | exact opd_load1_pad rfl Tryz.isAgg3 rfl (by first | omega | assumption) rfl))) rfl ?_
            refine dc_cons (r := ⟨_, some [1], []⟩) (l_on_t rfl rfl rfl (by first | rfl | assumption) (fun H1 hH => by exact (by first | exact opd_field_ref rfl fo44_4 rfl ((hH _ rfl).trans rfl) rfl rfl | exact opd_field_pad rfl fo44_4 rfl rfl))) rfl ?_
            refine dc_cons (r := ⟨_, some [1], []⟩) (l_on_t rfl rfl rfl (by first | rfl | assumption) (fun H1 hH => by exact (by first | exact opd_field_ref rfl fo38_1 rfl ((hH _ rfl).trans rfl) rfl rfl | exact opd_field_pad rfl fo38_1 rfl rfl))) rfl ?_
            refine dc_cons (r := ⟨_, some [1], []⟩) (l_on_t rfl rfl rfl (by first | rfl | assumption) (fun H1 hH => by exact (by first | exact opd_load1_ref rfl Tryz.isAgg3 rfl ((hH _ rfl).trans rfl) rfl rfl rfl | exact opd_load1_pad rfl Tryz.isAgg3 rfl (by first | omega | assumption) rfl))) rfl ?_
            refine dc_cons (r := ⟨_, some [], []⟩) (l_on_t rfl rfl rfl (by first | rfl | assumption) (fun H1 hH => by exact opd_max rfl rfl rfl rfl)) rfl ?_
            refine dc_cons (r := ⟨_, some [], []⟩) (l_on_t rfl rfl rfl (by first | rfl | assumption) (fun H1 hH => by exact opd_lss rfl rfl rfl)) rfl ?_
            refine dc_cons (r := ⟨_, some [], []⟩) (DStep.plain rfl (fun H1 hH => by exact (by first | exact opd_pick_t rfl rfl rfl | exact opd_pick_f rfl rfl rfl | exact opd_pickt rfl rfl (by assumption) rfl | exact opd_pickf rfl rfl (by assumption) rfl | exact opd_pick rfl rfl rfl))) rfl ?_
            refine dc_cons (r := ⟨_, some [3], []⟩) (DStep.plain rfl (fun H1 hH => by exact (by first | exact opd_field_ref rfl fo44_4 rfl ((hH _ rfl).trans rfl) rfl rfl | exact opd_field_pad rfl fo44_4 rfl rfl))) rfl ?_
            refine dc_cons (r := ⟨_, some [3], [_]⟩) (DStep.plain rfl (fun H1 hH => by exact (by first | exact x_store_all rfl Tryz.sizeOf38 rfl rfl rfl rfl ((hH _ rfl).trans rfl) rfl rfl rfl | exact x_store rfl Tryz.sizeOf38 rfl rfl rfl rfl ((hH _ rfl).trans rfl) rfl rfl (by simp only [List.length_cons, List.length_nil]; omega) (by simp only [List.drop_succ_cons, List.drop_zero, List.take_succ_cons, List.take_zero, List.take_nil, List.map_cons, List.map_nil, List.set_cons_zero, List.set_cons_succ, List.cons_append, List.nil_append, encTag, encObj, encStr, encEdit, zObj]; rfl) (by simp only [List.drop_succ_cons, List.drop_zero, List.take_succ_cons, List.take_zero, List.take_nil, List.map_cons, List.map_nil, List.set_cons_zero, List.set_cons_succ, List.cons_append, List.nil_append, encTag, encObj, encStr, encEdit, zObj]; rfl) | exact x_store rfl Tryz.sizeOf38 rfl rfl rfl rfl ((hH _ rfl).trans rfl) rfl rfl (Nat.le_of_ble_eq_true rfl) rfl rfl))) rfl ?_
            refine dc_cons (r := ⟨_, some [], []⟩) (DStep.plain rfl (fun H1 hH => by exact opd_assign rfl rfl)) rfl ?_
            refine dc_nil ⟨by kernel_rfl, ?_⟩
            exact ⟨rfl, ⟨_, rfl, by first | rfl | (rw [h127]; rfl) | (rw [h127, Bool.true_and])⟩, rfl, rfl, rfl⟩
      refine awp_seq ?_
      refine awp_bool (t := 2) (n := 8) (X := (gName e.id && decide (0 ≤ min e.x e.y) && decide (max e.x e.y < 1048576)) && gSameE ⟨e.op, e.id, sNil, sNil, e.x, e.y, sNil, sNil, [], zObj⟩ e) ?_ ?_
      · all_goals (refine al_d rfl rfl rfl (by exact opd_move rfl rfl) ?_)
        all_goals (refine al_d rfl rfl rfl (by exact opd_move rfl rfl) ?_)
        all_goals (first | refine al_split (t := 127) rfl (fun h127 => ?_) (fun h127 => ?_) | refine al_dup (t := 127) rfl ?_ | skip)
        all_goals (try contradiction)
        all_goals (first | refine al_off rfl rfl rfl rfl rfl ?_ | refine al_offu rfl rfl rfl rfl ?_ | refine al_ond rfl rfl rfl rfl rfl rfl (by exact (by first | exact opd_loadn_ref rfl Tryz.isAgg44 Tryz.sizeOf44 rfl rfl rfl rfl (by simp only [List.drop_succ_cons, List.drop_zero, List.take_succ_cons, List.take_zero, List.take_nil, List.map_cons, List.map_nil, List.set_cons_zero, List.set_cons_succ, List.cons_append, List.nil_append, encTag, encObj, encStr, encEdit, zObj]; rfl) rfl | exact opd_loadn_pad rfl Tryz.isAgg44 Tryz.sizeOf44 rfl (by first | omega | assumption) (by simp only [List.drop_succ_cons, List.drop_zero, List.take_succ_cons, List.take_zero, List.take_nil, List.map_cons, List.map_nil, List.set_cons_zero, List.set_cons_succ, List.cons_append, List.nil_append, encTag, encObj, encStr, encEdit, zObj]; rfl) rfl)) ?_)
        all_goals (first | refine al_off rfl rfl rfl rfl rfl ?_ | refine al_offu rfl rfl rfl rfl ?_ | refine al_ond rfl rfl rfl rfl rfl rfl (by exact (by first | exact opd_loadn_ref rfl Tryz.isAgg44 Tryz.sizeOf44 rfl rfl rfl rfl (by simp only [List.drop_succ_cons, List.drop_zero, List.take_succ_cons, List.take_zero, List.take_nil, List.map_cons, List.map_nil, List.set_cons_zero, List.set_cons_succ, List.cons_append, List.nil_append, encTag, encObj, encStr, encEdit, zObj]; rfl) rfl | exact opd_loadn_pad rfl Tryz.isAgg44 Tryz.sizeOf44 rfl (by first | omega | assumption) (by simp only [List.drop_succ_cons, List.drop_zero, List.take_succ_cons, List.take_zero, List.take_nil, List.map_cons, List.map_nil, List.set_cons_zero, List.set_cons_succ, List.cons_append, List.nil_append, encTag, encObj, encStr, encEdit, zObj]; rfl) rfl)) ?_)
        all_goals (first | refine al_off rfl rfl rfl rfl rfl ?_ | refine al_offu rfl rfl rfl rfl ?_ | refine al_ond rfl rfl rfl rfl rfl rfl (by exact opr_call rfl rfl Tryz.call69 rfl (sameE_c ⟨e.op, e.id, sNil, sNil, e.x, e.y, sNil, sNil, [], zObj⟩ e _ (by first | exact h5 | (show 0 < _; omega)) okS_z)) ?_)
        all_goals (refine al_d rfl rfl rfl (by exact (by first | exact opd_pick_t rfl rfl rfl | exact opd_pick_f rfl rfl rfl | exact opd_pickt rfl rfl (by assumption) rfl | exact opd_pickf rfl rfl (by assumption) rfl | exact opd_pick rfl rfl rfl)) ?_)
        all_goals (refine al_d rfl rfl rfl (by exact opd_assign rfl rfl) ?_)
        all_goals (refine al_nil ?_)
        all_goals (exact ⟨⟨_, rfl, by first | rfl | (rw [h127]; rfl) | (rw [h127, Bool.true_and])⟩, rfl, rfl, rfl⟩)
      refine awp_ret ?_
      -- return
      refine aret1 (H' := []) (by first | exact .inr rfl | exact .inl rfl) rfl (rval_tmp rfl) (Fin.wk (by simp) trivial trivial) ?_
      exact ⟨by rw [hv], rfl⟩
    · have ho2 : ¬ e.op = 2 := of_decide_eq_false hc2
      refine awp_seq ?_
      refine awp_region ?_
      refine al_d rfl rfl rfl (by exact opd_eql rfl rfl rfl) ?_
      refine al_d rfl rfl rfl (by exact opd_assign rfl rfl) ?_
      refine al_nil ?_
      refine awp_cond rfl (fun hc3 => ?_) (fun hc3 => ?_)
      -- cond 3
      · have ho : e.op = 3 := of_decide_eq_true hc3
        have hx : xOf e = ⟨e.op, e.id, sNil, sNil, 0, 0, e.key, e.val, [], zObj⟩ := by rw [xOf, if_neg ho1, if_neg ho2, if_pos ho]
        have hk : okOf e = (gName e.id && (gName e.key && decide ((e.val.size : Int) ≤ 200))) := by rw [okOf, if_neg ho1, if_neg ho2, if_pos ho]
        have hb : (gName e.id && gName e.key && decide ((e.val.size : Int) ≤ 200)) = (gName e.id && (gName e.key && decide ((e.val.size : Int) ≤ 200))) := by rw [Bool.and_assoc]
        have hv : gEditV e = ((gName e.id && gName e.key && decide ((e.val.size : Int) ≤ 200)) && gSameE ⟨e.op, e.id, sNil, sNil, 0, 0, e.key, e.val, [], zObj⟩ e) := by rw [gEditV, hx, hk, hb, ho]; rfl
        apply awp_mergeW (t := 4) (n := 20) (X := gName e.id && gName e.key && decide ((e.val.size : Int) ≤ 200))
        · cases hg58 : (gName e.id : Bool)
          · refine awp_drawc follows ?_
            refine dc_cons (r := ⟨_, some [1], []⟩) (DStep.plain rfl (fun H1 hH => by exact (by first | exact opd_field_ref rfl fo44_5 rfl ((hH _ rfl).trans rfl) rfl rfl | exact opd_field_pad rfl fo44_5 rfl rfl))) rfl ?_
            refine dc_cons (r := ⟨_, some [1], []⟩) (DStep.plain rfl (fun H1 hH => by exact (by first | exact opd_load1_ref rfl Tryz.isAgg9 rfl ((hH _ rfl).trans rfl) rfl rfl rfl | exact opd_load1_pad rfl Tryz.isAgg9 rfl (by first | omega | assumption) rfl))) rfl ?_
            refine dc_cons (r := ⟨_, some [1], []⟩) (DStep.plain rfl (fun H1 hH => by exact (by first | exact opd_field_ref rfl fo44_6 rfl ((hH _ rfl).trans rfl) rfl rfl | exact opd_field_pad rfl fo44_6 rfl rfl))) rfl ?_
            refine dc_cons (r := ⟨_, some [1], []⟩) (DStep.plain rfl (fun H1 hH => by exact (by first | exact opd_load1_ref rfl Tryz.isAgg9 rfl ((hH _ rfl).trans rfl) rfl rfl rfl | exact opd_load1_pad rfl Tryz.isAgg9 rfl (by first | omega | assumption) rfl))) rfl ?_
            refine dc_cons (r := ⟨_, some [], []⟩) (DStep.plain rfl (fun H1 hH => by exact opd_move rfl rfl)) rfl ?_
            refine dc_cons (r := ⟨_, some [], []⟩) (DStep.plain rfl (fun H1 hH => by exact opd_move rfl rfl)) rfl ?_
            refine dc_cons (q_off_t rfl rfl rfl (by first | rfl | assumption)) rfl ?_
            refine dc_cons (q_off_t rfl rfl rfl (by first | rfl | assumption)) rfl ?_
            refine dc_cons (q_off_t rfl rfl rfl (by first | rfl | assumption)) rfl ?_
            refine dc_cons (q_off_t rfl rfl rfl (by first | rfl | assumption)) rfl ?_
            refine dc_cons (r := ⟨_, some [], []⟩) (DStep.plain rfl (fun H1 hH => by exact (by first | exact opd_pick_t rfl rfl rfl | exact opd_pick_f rfl rfl rfl | exact opd_pickt rfl rfl (by assumption) rfl | exact opd_pickf rfl rfl (by assumption) rfl | exact opd_pick rfl rfl rfl))) rfl ?_
            refine dc_cons (r := ⟨_, some [], []⟩) (DStep.plain rfl (fun H1 hH => by exact opd_move rfl rfl)) rfl ?_
            refine dc_cons (q_off_t rfl rfl rfl (by first | rfl | assumption)) rfl ?_
            refine dc_cons (q_off_t rfl rfl rfl (by first | rfl | assumption)) rfl ?_
            refine dc_cons (q_off_t rfl rfl rfl (by first | rfl | assumption)) rfl ?_
            refine dc_cons (q_off_t rfl rfl rfl (by first | rfl | assumption)) rfl ?_
            refine dc_cons (r := ⟨_, some [], []⟩) (DStep.plain rfl (fun H1 hH => by exact (by first | exact opd_pick_t rfl rfl rfl | exact opd_pick_f rfl rfl rfl | exact opd_pickt rfl rfl (by assumption) rfl | exact opd_pickf rfl rfl (by assumption) rfl | exact opd_pick rfl rfl rfl))) rfl ?_
            refine dc_cons (r := ⟨_, some [3], []⟩) (DStep.plain rfl (fun H1 hH => by exact (by first | exact opd_field_ref rfl fo44_5 rfl ((hH _ rfl).trans rfl) rfl rfl | exact opd_field_pad rfl fo44_5 rfl rfl))) rfl ?_
            refine dc_cons (r := ⟨_, some [3], [_]⟩) (DStep.plain rfl (fun H1 hH => by exact (by first | exact x_store_all rfl Tryz.sizeOf9 rfl rfl rfl rfl ((hH _ rfl).trans rfl) rfl rfl rfl | exact x_store1 rfl Tryz.sizeOf9 rfl rfl rfl ((hH _ rfl).trans rfl) rfl rfl (by simp only [List.length_cons, List.length_nil]; omega) (by simp only [List.drop_succ_cons, List.drop_zero, List.take_succ_cons, List.take_zero, List.take_nil, List.map_cons, List.map_nil, List.set_cons_zero, List.set_cons_succ, List.cons_append, List.nil_append, encTag, encObj, encStr, encEdit, zObj]; rfl) (by simp only [List.drop_succ_cons, List.drop_zero, List.take_succ_cons, List.take_zero, List.take_nil, List.map_cons, List.map_nil, List.set_cons_zero, List.set_cons_succ, List.cons_append, List.nil_append, encTag, encObj, encStr, encEdit, zObj]; rfl) | exact x_store1 rfl Tryz.sizeOf9 rfl rfl rfl ((hH _ rfl).trans rfl) rfl rfl (Nat.le_of_ble_eq_true rfl) rfl rfl))) rfl ?_
            refine dc_cons (r := ⟨_, some [3], []⟩) (DStep.plain rfl (fun H1 hH => by exact (by first | exact opd_field_ref rfl fo44_6 rfl ((hH _ rfl).trans rfl) rfl rfl | exact opd_field_pad rfl fo44_6 rfl rfl))) rfl ?_
            refine dc_cons (r := ⟨_, some [3], [_]⟩) (DStep.plain rfl (fun H1 hH => by exact (by first | exact x_store_all rfl Tryz.sizeOf9 rfl rfl rfl rfl ((hH _ rfl).trans rfl) rfl rfl rfl | exact x_store1 rfl Tryz.sizeOf9 rfl rfl rfl ((hH _ rfl).trans rfl) rfl rfl (by simp only [List.length_cons, List.length_nil]; omega) (by simp only [List.drop_succ_cons, List.drop_zero, List.take_succ_cons, List.take_zero, List.take_nil, List.map_cons, List.map_nil, List.set_cons_zero, List.set_cons_succ, List.cons_append, List.nil_append, encTag, encObj, encStr, encEdit, zObj]; rfl) (by simp only [List.drop_succ_cons, List.drop_zero, List.take_succ_cons, List.take_zero, List.take_nil, List.map_cons, List.map_nil, List.set_cons_zero, List.set_cons_succ, List.cons_append, List.nil_append, encTag, encObj, encStr, encEdit, zObj]; rfl) | exact x_store1 rfl Tryz.sizeOf9 rfl rfl rfl ((hH _ rfl).trans rfl) rfl rfl (Nat.le_of_ble_eq_true rfl) rfl rfl))) rfl ?_
            refine dc_cons (r := ⟨_, some [], []⟩) (DStep.plain rfl (fun H1 hH => by exact opd_assign rfl rfl)) rfl ?_
            refine dc_nil ⟨by kernel_rfl, ?_⟩
            exact ⟨rfl, ⟨_, rfl, by first | rfl | (rw [h127]; rfl) | (rw [h127, Bool.true_and])⟩, rfl, rfl, rfl⟩
          · cases hg64 : (gName e.key : Bool)
            · refine awp_drawc follows ?_
              refine dc_cons (r := ⟨_, some [1], []⟩) (DStep.plain rfl (fun H1 hH => by exact (by first | exact opd_field_ref rfl fo44_5 rfl ((hH _ rfl).trans rfl) rfl rfl | exact opd_field_pad rfl fo44_5 rfl rfl))) rfl ?_
              refine dc_cons (r := ⟨_, some [1], []⟩) (DStep.plain rfl (fun H1 hH => by exact (by first | exact opd_load1_ref rfl Tryz.isAgg9 rfl ((hH _ rfl).trans rfl) rfl rfl rfl | exact opd_load1_pad rfl Tryz.isAgg9 rfl (by first | omega | assumption) rfl))) rfl ?_
              refine dc_cons (r := ⟨_, some [1], []⟩) (DStep.plain rfl (fun H1 hH => by exact (by first | exact opd_field_ref rfl fo44_6 rfl ((hH _ rfl).trans rfl) rfl rfl | exact opd_field_pad rfl fo44_6 rfl rfl))) rfl ?_
              refine dc_cons (r := ⟨_, some [1], []⟩) (DStep.plain rfl (fun H1 hH => by exact (by first | exact opd_load1_ref rfl Tryz.isAgg9 rfl ((hH _ rfl).trans rfl) rfl rfl rfl | exact opd_load1_pad rfl Tryz.isAgg9 rfl (by first | omega | assumption) rfl))) rfl ?_
              refine dc_cons (r := ⟨_, some [], []⟩) (DStep.plain rfl (fun H1 hH => by exact opd_move rfl rfl)) rfl ?_
              refine dc_cons (r := ⟨_, some [], []⟩) (DStep.plain rfl (fun H1 hH => by exact opd_move rfl rfl)) rfl ?_
              refine dc_cons (r := ⟨_, some [1], []⟩) (l_on_t rfl rfl rfl (by first | rfl | assumption) (fun H1 hH => by exact (by first | exact opd_field_ref rfl fo44_5 rfl ((hH _ rfl).trans rfl) rfl rfl | exact opd_field_pad rfl fo44_5 rfl rfl))) rfl ?_
              refine dc_cons (r := ⟨_, some [1], []⟩) (l_on_t rfl rfl rfl (by first | rfl | assumption) (fun H1 hH => by exact (by first | exact opd_load1_ref rfl Tryz.isAgg9 rfl ((hH _ rfl).trans rfl) rfl rfl rfl | exact opd_load1_pad rfl Tryz.isAgg9 rfl (by first | omega | assumption) rfl))) rfl ?_
              refine dc_cons (r := ⟨_, some [], []⟩) (l_on_t rfl rfl rfl (by first | rfl | assumption) (fun H1 hH => by exact x_buildSlice ([e.key].map encStr) rfl so39 rfl rfl rfl rfl rfl (by simp [encStr]))) rfl ?_
              refine dc_cons (r := ⟨_, some [], []⟩) (l_on_t rfl rfl rfl (by first | rfl | assumption) (fun H1 hH => by exact opr_call rfl rfl Tryz.call67 rfl (n1_c e.key _ h4))) rfl ?_
              refine dc_cons (r := ⟨_, some [], []⟩) (DStep.plain rfl (fun H1 hH => by exact (by first | exact opd_pick_t rfl rfl rfl | exact opd_pick_f rfl rfl rfl | exact opd_pickt rfl rfl (by assumption) rfl | exact opd_pickf rfl rfl (by assumption) rfl | exact opd_pick rfl rfl rfl))) rfl ?_
              refine dc_cons (r := ⟨_, some [], []⟩) (DStep.plain rfl (fun H1 hH => by exact opd_move rfl rfl)) rfl ?_
              refine dc_cons (q_off_t rfl rfl rfl (by first | rfl | assumption)) rfl ?_
              refine dc_cons (q_off_t rfl rfl rfl (by first | rfl | assumption)) rfl ?_
              refine dc_cons (q_off_t rfl rfl rfl (by first | rfl | assumption)) rfl ?_
              refine dc_cons (q_off_t rfl rfl rfl (by first | rfl | assumption)) rfl ?_
              refine dc_cons (r := ⟨_, some [], []⟩) (DStep.plain rfl (fun H1 hH => by exact (by first | exact opd_pick_t rfl rfl rfl | exact opd_pick_f rfl rfl rfl | exact opd_pickt rfl rfl (by assumption) rfl | exact opd_pickf rfl rfl (by assumption) rfl | exact opd_pick rfl rfl rfl))) rfl ?_
              refine dc_cons (r := ⟨_, some [3], []⟩) (DStep.plain rfl (fun H1 hH => by exact (by first | exact opd_field_ref rfl fo44_5 rfl ((hH _ rfl).trans rfl) rfl rfl | exact opd_field_pad rfl fo44_5 rfl rfl))) rfl ?_
              refine dc_cons (r := ⟨_, some [3], [_]⟩) (DStep.plain rfl (fun H1 hH => by exact (by first | exact x_store_all rfl Tryz.sizeOf9 rfl rfl rfl rfl ((hH _ rfl).trans rfl) rfl rfl rfl | exact x_store1 rfl Tryz.sizeOf9 rfl rfl rfl ((hH _ rfl).trans rfl) rfl rfl (by simp only [List.length_cons, List.length_nil]; omega) (by simp only [List.drop_succ_cons, List.drop_zero, List.take_succ_cons, List.take_zero, List.take_nil, List.map_cons, List.map_nil, List.set_cons_zero, List.set_cons_succ, List.cons_append, List.nil_append, encTag, encObj, encStr, encEdit, zObj]; rfl) (by simp only [List.drop_succ_cons, List.drop_zero, List.take_succ_cons, List.take_zero, List.take_nil, List.map_cons, List.map_nil, List.set_cons_zero, List.set_cons_succ, List.cons_append, List.nil_append, encTag, encObj, encStr, encEdit, zObj]; rfl) | exact x_store1 rfl Tryz.sizeOf9 rfl rfl rfl ((hH _ rfl).trans rfl) rfl rfl (Nat.le_of_ble_eq_true rfl) rfl rfl))) rfl ?_
              refine dc_cons (r := ⟨_, some [3], []⟩) (DStep.plain rfl (fun H1 hH => by exact (by first | exact opd_field_ref rfl fo44_6 rfl ((hH _ rfl).trans rfl) rfl rfl | exact opd_field_pad rfl fo44_6 rfl rfl))) rfl ?_
              refine dc_cons (r := ⟨_, some [3], [_]⟩) (DStep.plain rfl (fun H1 hH => by exact (by first | exact x_store_all rfl Tryz.sizeOf9 rfl rfl rfl rfl ((hH _ rfl).trans rfl) rfl rfl rfl | exact x_store1 rfl Tryz.sizeOf9 rfl rfl rfl ((hH _ rfl).trans rfl) rfl rfl (by simp only [List.length_cons, List.length_nil]; omega) (by simp only [List.drop_succ_cons, List.drop_zero, List.take_succ_cons, List.take_zero, List.take_nil, List.map_cons, List.map_nil, List.set_cons_zero, List.set_cons_succ, List.cons_append, List.nil_append, encTag, encObj, encStr, encEdit, zObj]; rfl) (by simp only [List.drop_succ_cons, List.drop_zero, List.take_succ_cons, List.take_zero, List.take_nil, List.map_cons, List.map_nil, List.set_cons_zero, List.set_cons_succ, List.cons_append, List.nil_append, encTag, encObj, encStr, encEdit, zObj]; rfl) | exact x_store1 rfl Tryz.sizeOf9 rfl rfl rfl ((hH _ rfl).trans rfl) rfl rfl (Nat.le_of_ble_eq_true rfl) rfl rfl))) rfl ?_
              refine dc_cons (r := ⟨_, some [], []⟩) (DStep.plain rfl (fun H1 hH => by exact opd_assign rfl rfl)) rfl ?_
              refine dc_nil ⟨by kernel_rfl, ?_⟩
              exact ⟨rfl, ⟨_, rfl, by first | rfl | (rw [h127]; rfl) | (rw [h127, Bool.true_and])⟩, rfl, rfl, rfl⟩
            · refine awp_drawc follows ?_
              refine dc_cons (r := ⟨_, some [1], []⟩) (DStep.plain rfl (fun H1 hH => by exact (by first | exact opd_field_ref rfl fo44_5 rfl ((hH _ rfl).trans rfl) rfl rfl | exact opd_field_pad rfl fo44_5 rfl rfl))) rfl ?_
              refine dc_cons (r := ⟨_, some [1], []⟩) (DStep.plain rfl (fun H1 hH => by exact (by first | exact opd_load1_ref rfl Tryz.isAgg9 rfl ((hH _ rfl).trans rfl) rfl rfl rfl | exact opd_load1_pad rfl Tryz.isAgg9 rfl (by first | omega | assumption) rfl))) rfl ?_
              refine dc_cons (r := ⟨_, some [1], []⟩) (DStep.plain rfl (fun H1 hH => by exact (by first | exact opd_field_ref rfl fo44_6 rfl ((hH _ rfl).trans rfl) rfl rfl | exact opd_field_pad rfl fo44_6 rfl rfl))) rfl ?_
              refine dc_cons (r := ⟨_, some [1], []⟩) (DStep.plain rfl (fun H1 hH => by exact (by first | exact opd_load1_ref rfl Tryz.isAgg9 rfl ((hH _ rfl).trans rfl) rfl rfl rfl | exact opd_load1_pad rfl Tryz.isAgg9 rfl (by first | omega | assumption) rfl))) rfl ?_
              refine dc_cons (r := ⟨_, some [], []⟩) (DStep.plain rfl (fun H1 hH => by exact opd_move rfl rfl)) rfl ?_
              refine dc_cons (r := ⟨_, some [], []⟩) (DStep.plain rfl (fun H1 hH => by exact opd_move rfl rfl)) rfl ?_
              refine dc_cons (r := ⟨_, some [1], []⟩) (l_on_t rfl rfl rfl (by first | rfl | assumption) (fun H1 hH => by exact (by first | exact opd_field_ref rfl fo44_5 rfl ((hH _ rfl).trans rfl) rfl rfl | exact opd_field_pad rfl fo44_5 rfl rfl))) rfl ?_
              refine dc_cons (r := ⟨_, some [1], []⟩) (l_on_t rfl rfl rfl (by first | rfl | assumption) (fun H1 hH => by exact (by first | exact opd_load1_ref rfl Tryz.isAgg9 rfl ((hH _ rfl).trans rfl) rfl rfl rfl | exact opd_load1_pad rfl Tryz.isAgg9 rfl (by first | omega | assumption) rfl))) rfl ?_
              refine dc_cons (r := ⟨_, some [], []⟩) (l_on_t rfl rfl rfl (by first | rfl | assumption) (fun H1 hH => by exact x_buildSlice ([e.key].map encStr) rfl so39 rfl rfl rfl rfl rfl (by simp [encStr]))) rfl ?_
              refine dc_cons (r := ⟨_, some [], []⟩) (l_on_t rfl rfl rfl (by first | rfl | assumption) (fun H1 hH => by exact opr_call rfl rfl Tryz.call67 rfl (n1_c e.key _ h4))) rfl ?_
              refine dc_cons (r := ⟨_, some [], []⟩) (DStep.plain rfl (fun H1 hH => by exact (by first | exact opd_pick_t rfl rfl rfl | exact opd_pick_f rfl rfl rfl | exact opd_pickt rfl rfl (by assumption) rfl | exact opd_pickf rfl rfl (by assumption) rfl | exact opd_pick rfl rfl rfl))) rfl ?_
              refine dc_cons (r := ⟨_, some [], []⟩) (DStep.plain rfl (fun H1 hH => by exact opd_move rfl rfl)) rfl ?_
              refine dc_cons (r := ⟨_, some [1], []⟩) (l_on_t rfl rfl rfl (by first | rfl | assumption) (fun H1 hH => by exact (by first | exact opd_field_ref rfl fo44_6 rfl ((hH _ rfl).trans rfl) rfl rfl | exact opd_field_pad rfl fo44_6 rfl rfl))) rfl ?_
              refine dc_cons (r := ⟨_, some [1], []⟩) (l_on_t rfl rfl rfl (by first | rfl | assumption) (fun H1 hH => by exact (by first | exact opd_load1_ref rfl Tryz.isAgg9 rfl ((hH _ rfl).trans rfl) rfl rfl rfl | exact opd_load1_pad rfl Tryz.isAgg9 rfl (by first | omega | assumption) rfl))) rfl ?_
              refine dc_cons (r := ⟨_, some [], []⟩) (l_on_t rfl rfl rfl (by first | rfl | assumption) (fun H1 hH => by exact opd_len_str rfl Tryz.underlying9 rfl)) rfl ?_
              refine dc_cons (r := ⟨_, some [], []⟩) (l_on_t rfl rfl rfl (by first | rfl | assumption) (fun H1 hH => by exact opd_leq rfl rfl rfl)) rfl ?_
              refine dc_cons (r := ⟨_, some [], []⟩) (DStep.plain rfl (fun H1 hH => by exact (by first | exact opd_pick_t rfl rfl rfl | exact opd_pick_f rfl rfl rfl | exact opd_pickt rfl rfl (by assumption) rfl | exact opd_pickf rfl rfl (by assumption) rfl | exact opd_pick rfl rfl rfl))) rfl ?_
              refine dc_cons (r := ⟨_, some [3], []⟩) (DStep.plain rfl (fun H1 hH => by exact (by first | exact opd_field_ref rfl fo44_5 rfl ((hH _ rfl).trans rfl) rfl rfl | exact opd_field_pad rfl fo44_5 rfl rfl))) rfl ?_
              refine dc_cons (r := ⟨_, some [3], [_]⟩) (DStep.plain rfl (fun H1 hH => by exact (by first | exact x_store_all rfl Tryz.sizeOf9 rfl rfl rfl rfl ((hH _ rfl).trans rfl) rfl rfl rfl | exact x_store1 rfl Tryz.sizeOf9 rfl rfl rfl ((hH _ rfl).trans rfl) rfl rfl (by simp only [List.length_cons, List.length_nil]; omega) (by simp only [List.drop_succ_cons, List.drop_zero, List.take_succ_cons, List.take_zero, List.take_nil, List.map_cons, List.map_nil, List.set_cons_zero, List.set_cons_succ, List.cons_append, List.nil_append, encTag, encObj, encStr, encEdit, zObj]; rfl) (by simp only [List.drop_succ_cons, List.drop_zero, List.take_succ_cons, List.take_zero, List.take_nil, List.map_cons, List.map_nil, List.set_cons_zero, List.set_cons_succ, List.cons_append, List.nil_append, encTag, encObj, encStr, encEdit, zObj]; rfl) | exact x_store1 rfl Tryz.sizeOf9 rfl rfl rfl ((hH _ rfl).trans rfl) rfl rfl (Nat.le_of_ble_eq_true rfl) rfl rfl))) rfl ?_
              refine dc_cons (r := ⟨_, some [3], []⟩) (DStep.plain rfl (fun H1 hH => by exact (by first | exact opd_field_ref rfl fo44_6 rfl ((hH _ rfl).trans rfl) rfl rfl | exact opd_field_pad rfl fo44_6 rfl rfl))) rfl ?_
              refine dc_cons (r := ⟨_, some [3], [_]⟩) (DStep.plain rfl (fun H1 hH => by exact (by first | exact x_store_all rfl Tryz.sizeOf9 rfl rfl rfl rfl ((hH _ rfl).trans rfl) rfl rfl rfl | exact x_store1 rfl Tryz.sizeOf9 rfl rfl rfl ((hH _ rfl).trans rfl) rfl rfl (by simp only [List.length_cons, List.length_nil]; omega) (by simp only [List.drop_succ_cons, List.drop_zero, List.take_succ_cons, List.take_zero, List.take_nil, List.map_cons, List.map_nil, List.set_cons_zero, List.set_cons_succ, List.cons_append, List.nil_append, encTag, encObj, encStr, encEdit, zObj]; rfl) (by simp only [List.drop_succ_cons, List.drop_zero, List.take_succ_cons, List.take_zero, List.take_nil, List.map_cons, List.map_nil, List.set_cons_zero, List.set_cons_succ, List.cons_append, List.nil_append, encTag, encObj, encStr, encEdit, zObj]; rfl) | exact x_store1 rfl Tryz.sizeOf9 rfl rfl rfl ((hH _ rfl).trans rfl) rfl rfl (Nat.le_of_ble_eq_true rfl) rfl rfl))) rfl ?_
              refine dc_cons (r := ⟨_, some [], []⟩) (DStep.plain rfl (fun H1 hH => by exact opd_assign rfl rfl)) rfl ?_
              refine dc_nil ⟨by kernel_rfl, ?_⟩
              exact ⟨rfl, ⟨_, rfl, by first | rfl | (rw [h127]; rfl) | (rw [h127, Bool.true_and])⟩, rfl, rfl, rfl⟩
        refine awp_seq ?_
        refine awp_bool (t := 2) (n := 8) (X := (gName e.id && gName e.key && decide ((e.val.size : Int) ≤ 200)) && gSameE ⟨e.op, e.id, sNil, sNil, 0, 0, e.key, e.val, [], zObj⟩ e) ?_ ?_
        · all_goals (refine al_d rfl rfl rfl (by exact opd_move rfl rfl) ?_)
          all_goals (refine al_d rfl rfl rfl (by exact opd_move rfl rfl) ?_)
          all_goals (first | refine al_split (t := 127) rfl (fun h127 => ?_) (fun h127 => ?_) | refine al_dup (t := 127) rfl ?_ | skip)
          all_goals (try contradiction)
          all_goals (first | refine al_off rfl rfl rfl rfl rfl ?_ | refine al_offu rfl rfl rfl rfl ?_ | refine al_ond rfl rfl rfl rfl rfl rfl (by exact (by first | exact opd_loadn_ref rfl Tryz.isAgg44 Tryz.sizeOf44 rfl rfl rfl rfl (by simp only [List.drop_succ_cons, List.drop_zero, List.take_succ_cons, List.take_zero, List.take_nil, List.map_cons, List.map_nil, List.set_cons_zero, List.set_cons_succ, List.cons_append, List.nil_append, encTag, encObj, encStr, encEdit, zObj]; rfl) rfl | exact opd_loadn_pad rfl Tryz.isAgg44 Tryz.sizeOf44 rfl (by first | omega | assumption) (by simp only [List.drop_succ_cons, List.drop_zero, List.take_succ_cons, List.take_zero, List.take_nil, List.map_cons, List.map_nil, List.set_cons_zero, List.set_cons_succ, List.cons_append, List.nil_append, encTag, encObj, encStr, encEdit, zObj]; rfl) rfl)) ?_)
          all_goals (first | refine al_off rfl rfl rfl rfl rfl ?_ | refine al_offu rfl rfl rfl rfl ?_ | refine al_ond rfl rfl rfl rfl rfl rfl (by exact (by first | exact opd_loadn_ref rfl Tryz.isAgg44 Tryz.sizeOf44 rfl rfl rfl rfl (by simp only [List.drop_succ_cons, List.drop_zero, List.take_succ_cons, List.take_zero, List.take_nil, List.map_cons, List.map_nil, List.set_cons_zero, List.set_cons_succ, List.cons_append, List.nil_append, encTag, encObj, encStr, encEdit, zObj]; rfl) rfl | exact opd_loadn_pad rfl Tryz.isAgg44 Tryz.sizeOf44 rfl (by first | omega | assumption) (by simp only [List.drop_succ_cons, List.drop_zero, List.take_succ_cons, List.take_zero, List.take_nil, List.map_cons, List.map_nil, List.set_cons_zero, List.set_cons_succ, List.cons_append, List.nil_append, encTag, encObj, encStr, encEdit, zObj]; rfl) rfl)) ?_)
          all_goals (first | refine al_off rfl rfl rfl rfl rfl ?_ | refine al_offu rfl rfl rfl rfl ?_ | refine al_ond rfl rfl rfl rfl rfl rfl (by exact opr_call rfl rfl Tryz.call69 rfl (sameE_c ⟨e.op, e.id, sNil, sNil, 0, 0, e.key, e.val, [], zObj⟩ e _ (by first | exact h5 | (show 0 < _; omega)) okS_z)) ?_)
          all_goals (refine al_d rfl rfl rfl (by exact (by first | exact opd_pick_t rfl rfl rfl | exact opd_pick_f rfl rfl rfl | exact opd_pickt rfl rfl (by assumption) rfl | exact opd_pickf rfl rfl (by assumption) rfl | exact opd_pick rfl rfl rfl)) ?_)
          all_goals (refine al_d rfl rfl rfl (by exact opd_assign rfl rfl) ?_)
          all_goals (refine al_nil ?_)
          all_goals (exact ⟨⟨_, rfl, by first | rfl | (rw [h127]; rfl) | (rw [h127, Bool.true_and])⟩, rfl, rfl, rfl⟩)
        refine awp_ret ?_
        -- return
        refine aret1 (H' := []) (by first | exact .inr rfl | exact .inl rfl) rfl (rval_tmp rfl) (Fin.wk (by simp) trivial trivial) ?_
        exact ⟨by rw [hv], rfl⟩
      · have ho3 : ¬ e.op = 3 := of_decide_eq_false hc3
        refine awp_seq ?_
        refine awp_region ?_
        refine al_d rfl rfl rfl (by exact opd_eql rfl rfl rfl) ?_
        refine al_d rfl rfl rfl (by exact opd_assign rfl rfl) ?_
        refine al_nil ?_
        refine awp_cond rfl (fun hc4 => ?_) (fun hc4 => ?_)
        -- cond 4
        · have ho : e.op = 4 := of_decide_eq_true hc4
          have hx : xOf e = ⟨e.op, e.id, sNil, sNil, 0, 0, sNil, sNil, e.refs, zObj⟩ := by rw [xOf, if_neg ho1, if_neg ho2, if_neg ho3, if_pos ho]
          have hk : okOf e = (gName e.id && (decide ((0 : Int) < (e.refs.length : Int)) && decide ((e.refs.length : Int) ≤ 2000) && e.refs.all gName)) := by rw [okOf, if_neg ho1, if_neg ho2, if_neg ho3, if_pos ho]
          have hb : (gName e.id && decide ((0 : Int) < ((e.refs.map encStr).length : Int)) && decide (((e.refs.map encStr).length : Int) ≤ 2000) && e.refs.all gName) = (gName e.id && (decide ((0 : Int) < (e.refs.length : Int)) && decide ((e.refs.length : Int) ≤ 2000) && e.refs.all gName)) := by rw [hrl]; simp only [Bool.and_assoc]
          have hv : gEditV e = ((gName e.id && decide ((0 : Int) < ((e.refs.map encStr).length : Int)) && decide (((e.refs.map encStr).length : Int) ≤ 2000) && e.refs.all gName) && gSameE ⟨e.op, e.id, sNil, sNil, 0, 0, sNil, sNil, e.refs, zObj⟩ e) := by rw [gEditV, hx, hk, hb, ho]; rfl
          apply awp_mergeW (t := 4) (n := 22) (X := gName e.id && decide ((0 : Int) < ((e.refs.map encStr).length : Int)) && decide (((e.refs.map encStr).length : Int) ≤ 2000) && e.refs.all gName)
          · cases hg77 : (gName e.id : Bool)
            · refine awp_drawc follows ?_
              refine dc_cons (r := ⟨_, some [1], []⟩) (DStep.plain rfl (fun H1 hH => by exact (by first | exact opd_field_ref rfl fo44_7 rfl ((hH _ rfl).trans rfl) rfl rfl | exact opd_field_pad rfl fo44_7 rfl rfl))) rfl ?_
              refine dc_cons (r := ⟨_, some [1], []⟩) (DStep.plain rfl (fun H1 hH => by exact (by first | exact opd_load1_ref rfl Tryz.isAgg39 rfl ((hH _ rfl).trans rfl) rfl rfl rfl | exact opd_load1_pad rfl Tryz.isAgg39 rfl (by first | omega | assumption) rfl))) rfl ?_
              refine dc_cons (r := ⟨_, some [], []⟩) (DStep.plain rfl (fun H1 hH => by exact opd_move rfl rfl)) rfl ?_
              refine dc_cons (r := ⟨_, some [], []⟩) (DStep.plain rfl (fun H1 hH => by exact opd_move rfl rfl)) rfl ?_
              refine dc_cons (q_off_t rfl rfl rfl (by first | rfl | assumption)) rfl ?_
              refine dc_cons (q_off_t rfl rfl rfl (by first | rfl | assumption)) rfl ?_
              refine dc_cons (q_off_t rfl rfl rfl (by first | rfl | assumption)) rfl ?_
              refine dc_cons (q_off_t rfl rfl rfl (by first | rfl | assumption)) rfl ?_
              refine dc_cons (r := ⟨_, some [], []⟩) (DStep.plain rfl (fun H1 hH => by exact (by first | exact opd_pick_t rfl rfl rfl | exact opd_pick_f rfl rfl rfl | exact opd_pickt rfl rfl (by assumption) rfl | exact opd_pickf rfl rfl (by assumption) rfl | exact opd_pick rfl rfl rfl))) rfl ?_
              refine dc_cons (r := ⟨_, some [], []⟩) (DStep.plain rfl (fun H1 hH => by exact opd_move rfl rfl)) rfl ?_
              refine dc_cons (q_off_t rfl rfl rfl (by first | rfl | assumption)) rfl ?_
              refine dc_cons (q_off_t rfl rfl rfl (by first | rfl | assumption)) rfl ?_
              refine dc_cons (q_off_t rfl rfl rfl (by first | rfl | assumption)) rfl ?_
              refine dc_cons (q_off_t rfl rfl rfl (by first | rfl | assumption)) rfl ?_
              refine dc_cons (r := ⟨_, some [], []⟩) (DStep.plain rfl (fun H1 hH => by exact (by first | exact opd_pick_t rfl rfl rfl | exact opd_pick_f rfl rfl rfl | exact opd_pickt rfl rfl (by assumption) rfl | exact opd_pickf rfl rfl (by assumption) rfl | exact opd_pick rfl rfl rfl))) rfl ?_
              refine dc_cons (r := ⟨_, some [], []⟩) (DStep.plain rfl (fun H1 hH => by exact opd_move rfl rfl)) rfl ?_
              refine dc_cons (q_off_t rfl rfl rfl (by first | rfl | assumption)) rfl ?_
              refine dc_cons (q_off_t rfl rfl rfl (by first | rfl | assumption)) rfl ?_
              refine dc_cons (q_off_t rfl rfl rfl (by first | rfl | assumption)) rfl ?_
              refine dc_cons (r := ⟨_, some [], []⟩) (DStep.plain rfl (fun H1 hH => by exact (by first | exact opd_pick_t rfl rfl rfl | exact opd_pick_f rfl rfl rfl | exact opd_pickt rfl rfl (by assumption) rfl | exact opd_pickf rfl rfl (by assumption) rfl | exact opd_pick rfl rfl rfl))) rfl ?_
              refine dc_cons (r := ⟨_, some [3], []⟩) (DStep.plain rfl (fun H1 hH => by exact (by first | exact opd_field_ref rfl fo44_7 rfl ((hH _ rfl).trans rfl) rfl rfl | exact opd_field_pad rfl fo44_7 rfl rfl))) rfl ?_
              refine dc_cons (r := ⟨_, some [3], [_]⟩) (DStep.plain rfl (fun H1 hH => by exact (by first | exact x_store_all rfl Tryz.sizeOf39 rfl rfl rfl rfl ((hH _ rfl).trans rfl) rfl rfl rfl | exact x_store1 rfl Tryz.sizeOf39 rfl rfl rfl ((hH _ rfl).trans rfl) rfl rfl (by simp only [List.length_cons, List.length_nil]; omega) (by simp only [List.drop_succ_cons, List.drop_zero, List.take_succ_cons, List.take_zero, List.take_nil, List.map_cons, List.map_nil, List.set_cons_zero, List.set_cons_succ, List.cons_append, List.nil_append, encTag, encObj, encStr, encEdit, zObj]; rfl) (by simp only [List.drop_succ_cons, List.drop_zero, List.take_succ_cons, List.take_zero, List.take_nil, List.map_cons, List.map_nil, List.set_cons_zero, List.set_cons_succ, List.cons_append, List.nil_append, encTag, encObj, encStr, encEdit, zObj]; rfl) | exact x_store1 rfl Tryz.sizeOf39 rfl rfl rfl ((hH _ rfl).trans rfl) rfl rfl (Nat.le_of_ble_eq_true rfl) rfl rfl))) rfl ?_
              refine dc_cons (r := ⟨_, some [], []⟩) (DStep.plain rfl (fun H1 hH => by exact opd_assign rfl rfl)) rfl ?_
              refine dc_nil ⟨by kernel_rfl, ?_⟩
              exact ⟨rfl, ⟨_, rfl, by first | rfl | (rw [h127]; rfl) | (rw [h127, Bool.true_and])⟩, rfl, rfl, rfl⟩
            · cases hg83 : (decide ((0 : Int) < ((e.refs.map encStr).length : Int)) : Bool)
              · refine awp_drawc follows ?_
                refine dc_cons (r := ⟨_, some [1], []⟩) (DStep.plain rfl (fun H1 hH => by exact (by first | exact opd_field_ref rfl fo44_7 rfl ((hH _ rfl).trans rfl) rfl rfl | exact opd_field_pad rfl fo44_7 rfl rfl))) rfl ?_
                refine dc_cons (r := ⟨_, some [1], []⟩) (DStep.plain rfl (fun H1 hH => by exact (by first | exact opd_load1_ref rfl Tryz.isAgg39 rfl ((hH _ rfl).trans rfl) rfl rfl rfl | exact opd_load1_pad rfl Tryz.isAgg39 rfl (by first | omega | assumption) rfl))) rfl ?_
                refine dc_cons (r := ⟨_, some [], []⟩) (DStep.plain rfl (fun H1 hH => by exact opd_move rfl rfl)) rfl ?_
                refine dc_cons (r := ⟨_, some [], []⟩) (DStep.plain rfl (fun H1 hH => by exact opd_move rfl rfl)) rfl ?_
                refine dc_cons (r := ⟨_, some [1], []⟩) (l_on_t rfl rfl rfl (by first | rfl | assumption) (fun H1 hH => by exact (by first | exact opd_field_ref rfl fo44_7 rfl ((hH _ rfl).trans rfl) rfl rfl | exact opd_field_pad rfl fo44_7 rfl rfl))) rfl ?_
                refine dc_cons (r := ⟨_, some [1], []⟩) (l_on_t rfl rfl rfl (by first | rfl | assumption) (fun H1 hH => by exact (by first | exact opd_load1_ref rfl Tryz.isAgg39 rfl ((hH _ rfl).trans rfl) rfl rfl rfl | exact opd_load1_pad rfl Tryz.isAgg39 rfl (by first | omega | assumption) rfl))) rfl ?_
                refine dc_cons (r := ⟨_, some [], []⟩) (l_on_t rfl rfl rfl (by first | rfl | assumption) (fun H1 hH => by exact (by first | exact opd_len_sl rfl Tryz.underlying39 rfl | exact opd_len_osl rfl Tryz.underlying39 rfl ((hH _ rfl).trans rfl) rfl))) rfl ?_
                refine dc_cons (r := ⟨_, some [], []⟩) (l_on_t rfl rfl rfl (by first | rfl | assumption) (fun H1 hH => by exact opd_gtr rfl rfl rfl)) rfl ?_
                refine dc_cons (r := ⟨_, some [], []⟩) (DStep.plain rfl (fun H1 hH => by exact (by first | exact opd_pick_t rfl rfl rfl | exact opd_pick_f rfl rfl rfl | exact opd_pickt rfl rfl (by assumption) rfl | exact opd_pickf rfl rfl (by assumption) rfl | exact opd_pick rfl rfl rfl))) rfl ?_
                refine dc_cons (r := ⟨_, some [], []⟩) (DStep.plain rfl (fun H1 hH => by exact opd_move rfl rfl)) rfl ?_
                refine dc_cons (q_off_t rfl rfl rfl (by first | rfl | assumption)) rfl ?_
                refine dc_cons (q_off_t rfl rfl rfl (by first | rfl | assumption)) rfl ?_
                refine dc_cons (q_off_t rfl rfl rfl (by first | rfl | assumption)) rfl ?_
                refine dc_cons (q_off_t rfl rfl rfl (by first | rfl | assumption)) rfl ?_
                refine dc_cons (r := ⟨_, some [], []⟩) (DStep.plain rfl (fun H1 hH => by exact (by first | exact opd_pick_t rfl rfl rfl | exact opd_pick_f rfl rfl rfl | exact opd_pickt rfl rfl (by assumption) rfl | exact opd_pickf rfl rfl (by assumption) rfl | exact opd_pick rfl rfl rfl))) rfl ?_
                refine dc_cons (r := ⟨_, some [], []⟩) (DStep.plain rfl (fun H1 hH => by exact opd_move rfl rfl)) rfl ?_
                refine dc_cons (q_off_t rfl rfl rfl (by first | rfl | assumption)) rfl ?_
                refine dc_cons (q_off_t rfl rfl rfl (by first | rfl | assumption)) rfl ?_
                refine dc_cons (q_off_t rfl rfl rfl (by first | rfl | assumption)) rfl ?_
                refine dc_cons (r := ⟨_, some [], []⟩) (DStep.plain rfl (fun H1 hH => by exact (by first | exact opd_pick_t rfl rfl rfl | exact opd_pick_f rfl rfl rfl | exact opd_pickt rfl rfl (by assumption) rfl | exact opd_pickf rfl rfl (by assumption) rfl | exact opd_pick rfl rfl rfl))) rfl ?_
                refine dc_cons (r := ⟨_, some [3], []⟩) (DStep.plain rfl (fun H1 hH => by exact (by first | exact opd_field_ref rfl fo44_7 rfl ((hH _ rfl).trans rfl) rfl rfl | exact opd_field_pad rfl fo44_7 rfl rfl))) rfl ?_
                refine dc_cons (r := ⟨_, some [3], [_]⟩) (DStep.plain rfl (fun H1 hH => by exact (by first | exact x_store_all rfl Tryz.sizeOf39 rfl rfl rfl rfl ((hH _ rfl).trans rfl) rfl rfl rfl | exact x_store1 rfl Tryz.sizeOf39 rfl rfl rfl ((hH _ rfl).trans rfl) rfl rfl (by simp only [List.length_cons, List.length_nil]; omega) (by simp only [List.drop_succ_cons, List.drop_zero, List.take_succ_cons, List.take_zero, List.take_nil, List.map_cons, List.map_nil, List.set_cons_zero, List.set_cons_succ, List.cons_append, List.nil_append, encTag, encObj, encStr, encEdit, zObj]; rfl) (by simp only [List.drop_succ_cons, List.drop_zero, List.take_succ_cons, List.take_zero, List.take_nil, List.map_cons, List.map_nil, List.set_cons_zero, List.set_cons_succ, List.cons_append, List.nil_append, encTag, encObj, encStr, encEdit, zObj]; rfl) | exact x_store1 rfl Tryz.sizeOf39 rfl rfl rfl ((hH _ rfl).trans rfl) rfl rfl (Nat.le_of_ble_eq_true rfl) rfl rfl))) rfl ?_
                refine dc_cons (r := ⟨_, some [], []⟩) (DStep.plain rfl (fun H1 hH => by exact opd_assign rfl rfl)) rfl ?_
                refine dc_nil ⟨by kernel_rfl, ?_⟩
                exact ⟨rfl, ⟨_, rfl, by first | rfl | (rw [h127]; rfl) | (rw [h127, Bool.true_and])⟩, rfl, rfl, rfl⟩
              · cases hg89 : (decide (((e.refs.map encStr).length : Int) ≤ 2000) : Bool)
                · refine awp_drawc follows ?_
                  refine dc_cons (r := ⟨_, some [1], []⟩) (DStep.plain rfl (fun H1 hH => by exact (by first | exact opd_field_ref rfl fo44_7 rfl ((hH _ rfl).trans rfl) rfl rfl | exact opd_field_pad rfl fo44_7 rfl rfl))) rfl ?_
                  refine dc_cons (r := ⟨_, some [1], []⟩) (DStep.plain rfl (fun H1 hH => by exact (by first | exact opd_load1_ref rfl Tryz.isAgg39 rfl ((hH _ rfl).trans rfl) rfl rfl rfl | exact opd_load1_pad rfl Tryz.isAgg39 rfl (by first | omega | assumption) rfl))) rfl ?_
                  refine dc_cons (r := ⟨_, some [], []⟩) (DStep.plain rfl (fun H1 hH => by exact opd_move rfl rfl)) rfl ?_
                  refine dc_cons (r := ⟨_, some [], []⟩) (DStep.plain rfl (fun H1 hH => by exact opd_move rfl rfl)) rfl ?_
                  refine dc_cons (r := ⟨_, some [1], []⟩) (l_on_t rfl rfl rfl (by first | rfl | assumption) (fun H1 hH => by exact (by first | exact opd_field_ref rfl fo44_7 rfl ((hH _ rfl).trans rfl) rfl rfl | exact opd_field_pad rfl fo44_7 rfl rfl))) rfl ?_
                  refine dc_cons (r := ⟨_, some [1], []⟩) (l_on_t rfl rfl rfl (by first | rfl | assumption) (fun H1 hH => by exact (by first | exact opd_load1_ref rfl Tryz.isAgg39 rfl ((hH _ rfl).trans rfl) rfl rfl rfl | exact opd_load1_pad rfl Tryz.isAgg39 rfl (by first | omega | assumption) rfl))) rfl ?_
                  refine dc_cons (r := ⟨_, some [], []⟩) (l_on_t rfl rfl rfl (by first | rfl | assumption) (fun H1 hH => by exact (by first | exact opd_len_sl rfl Tryz.underlying39 rfl | exact opd_len_osl rfl Tryz.underlying39 rfl ((hH _ rfl).trans rfl) rfl))) rfl ?_
                  refine dc_cons (r := ⟨_, some [], []⟩) (l_on_t rfl rfl rfl (by first | rfl | assumption) (fun H1 hH => by exact opd_gtr rfl rfl rfl)) rfl ?_
                  refine dc_cons (r := ⟨_, some [], []⟩) (DStep.plain rfl (fun H1 hH => by exact (by first | exact opd_pick_t rfl rfl rfl | exact opd_pick_f rfl rfl rfl | exact opd_pickt rfl rfl (by assumption) rfl | exact opd_pickf rfl rfl (by assumption) rfl | exact opd_pick rfl rfl rfl))) rfl ?_
                  refine dc_cons (r := ⟨_, some [], []⟩) (DStep.plain rfl (fun H1 hH => by exact opd_move rfl rfl)) rfl ?_
                  refine dc_cons (r := ⟨_, some [1], []⟩) (l_on_t rfl rfl rfl (by first | rfl | assumption) (fun H1 hH => by exact (by first | exact opd_field_ref rfl fo44_7 rfl ((hH _ rfl).trans rfl) rfl rfl | exact opd_field_pad rfl fo44_7 rfl rfl))) rfl ?_
                  refine dc_cons (r := ⟨_, some [1], []⟩) (l_on_t rfl rfl rfl (by first | rfl | assumption) (fun H1 hH => by exact (by first | exact opd_load1_ref rfl Tryz.isAgg39 rfl ((hH _ rfl).trans rfl) rfl rfl rfl | exact opd_load1_pad rfl Tryz.isAgg39 rfl (by first | omega | assumption) rfl))) rfl ?_
                  refine dc_cons (r := ⟨_, some [], []⟩) (l_on_t rfl rfl rfl (by first | rfl | assumption) (fun H1 hH => by exact (by first | exact opd_len_sl rfl Tryz.underlying39 rfl | exact opd_len_osl rfl Tryz.underlying39 rfl ((hH _ rfl).trans rfl) rfl))) rfl ?_
                  refine dc_cons (r := ⟨_, some [], []⟩) (l_on_t rfl rfl rfl (by first | rfl | assumption) (fun H1 hH => by exact opd_leq rfl rfl rfl)) rfl ?_
                  refine dc_cons (r := ⟨_, some [], []⟩) (DStep.plain rfl (fun H1 hH => by exact (by first | exact opd_pick_t rfl rfl rfl | exact opd_pick_f rfl rfl rfl | exact opd_pickt rfl rfl (by assumption) rfl | exact opd_pickf rfl rfl (by assumption) rfl | exact opd_pick rfl rfl rfl))) rfl ?_
                  refine dc_cons (r := ⟨_, some [], []⟩) (DStep.plain rfl (fun H1 hH => by exact opd_move rfl rfl)) rfl ?_
                  refine dc_cons (q_off_t rfl rfl rfl (by first | rfl | assumption)) rfl ?_
                  refine dc_cons (q_off_t rfl rfl rfl (by first | rfl | assumption)) rfl ?_
                  refine dc_cons (q_off_t rfl rfl rfl (by first | rfl | assumption)) rfl ?_
                  refine dc_cons (r := ⟨_, some [], []⟩) (DStep.plain rfl (fun H1 hH => by exact (by first | exact opd_pick_t rfl rfl rfl | exact opd_pick_f rfl rfl rfl | exact opd_pickt rfl rfl (by assumption) rfl | exact opd_pickf rfl rfl (by assumption) rfl | exact opd_pick rfl rfl rfl))) rfl ?_
                  refine dc_cons (r := ⟨_, some [3], []⟩) (DStep.plain rfl (fun H1 hH => by exact (by first | exact opd_field_ref rfl fo44_7 rfl ((hH _ rfl).trans rfl) rfl rfl | exact opd_field_pad rfl fo44_7 rfl rfl))) rfl ?_
                  refine dc_cons (r := ⟨_, some [3], [_]⟩) (DStep.plain rfl (fun H1 hH => by exact (by first | exact x_store_all rfl Tryz.sizeOf39 rfl rfl rfl rfl ((hH _ rfl).trans rfl) rfl rfl rfl | exact x_store1 rfl Tryz.sizeOf39 rfl rfl rfl ((hH _ rfl).trans rfl) rfl rfl (by simp only [List.length_cons, List.length_nil]; omega) (by simp only [List.drop_succ_cons, List.drop_zero, List.take_succ_cons, List.take_zero, List.take_nil, List.map_cons, List.map_nil, List.set_cons_zero, List.set_cons_succ, List.cons_append, List.nil_append, encTag, encObj, encStr, encEdit, zObj]; rfl) (by simp only [List.drop_succ_cons, List.drop_zero, List.take_succ_cons, List.take_zero, List.take_nil, List.map_cons, List.map_nil, List.set_cons_zero, List.set_cons_succ, List.cons_append, List.nil_append, encTag, encObj, encStr, encEdit, zObj]; rfl) | exact x_store1 rfl Tryz.sizeOf39 rfl rfl rfl ((hH _ rfl).trans rfl) rfl rfl (Nat.le_of_ble_eq_true rfl) rfl rfl))) rfl ?_
                  refine dc_cons (r := ⟨_, some [], []⟩) (DStep.plain rfl (fun H1 hH => by exact opd_assign rfl rfl)) rfl ?_
                  refine dc_nil ⟨by kernel_rfl, ?_⟩
                  exact ⟨rfl, ⟨_, rfl, by first | rfl | (rw [h127]; rfl) | (rw [h127, Bool.true_and])⟩, rfl, rfl, rfl⟩
                · refine awp_drawc follows ?_
                  refine dc_cons (r := ⟨_, some [1], []⟩) (DStep.plain rfl (fun H1 hH => by exact (by first | exact opd_field_ref rfl fo44_7 rfl ((hH _ rfl).trans rfl) rfl rfl | exact opd_field_pad rfl fo44_7 rfl rfl))) rfl ?_
                  refine dc_cons (r := ⟨_, some [1], []⟩) (DStep.plain rfl (fun H1 hH => by exact (by first | exact opd_load1_ref rfl Tryz.isAgg39 rfl ((hH _ rfl).trans rfl) rfl rfl rfl | exact opd_load1_pad rfl Tryz.isAgg39 rfl (by first | omega | assumption) rfl))) rfl ?_
                  refine dc_cons (r := ⟨_, some [], []⟩) (DStep.plain rfl (fun H1 hH => by exact opd_move rfl rfl)) rfl ?_
                  refine dc_cons (r := ⟨_, some [], []⟩) (DStep.plain rfl (fun H1 hH => by exact opd_move rfl rfl)) rfl ?_
                  refine dc_cons (r := ⟨_, some [1], []⟩) (l_on_t rfl rfl rfl (by first | rfl | assumption) (fun H1 hH => by exact (by first | exact opd_field_ref rfl fo44_7 rfl ((hH _ rfl).trans rfl) rfl rfl | exact opd_field_pad rfl fo44_7 rfl rfl))) rfl ?_
                  refine dc_cons (r := ⟨_, some [1], []⟩) (l_on_t rfl rfl rfl (by first | rfl | assumption) (fun H1 hH => by exact (by first | exact opd_load1_ref rfl Tryz.isAgg39 rfl ((hH _ rfl).trans rfl) rfl rfl rfl | exact opd_load1_pad rfl Tryz.isAgg39 rfl (by first | omega | assumption) rfl))) rfl ?_
                  refine dc_cons (r := ⟨_, some [], []⟩) (l_on_t rfl rfl rfl (by first | rfl | assumption) (fun H1 hH => by exact (by first | exact opd_len_sl rfl Tryz.underlying39 rfl | exact opd_len_osl rfl Tryz.underlying39 rfl ((hH _ rfl).trans rfl) rfl))) rfl ?_
                  refine dc_cons (r := ⟨_, some [], []⟩) (l_on_t rfl rfl rfl (by first | rfl | assumption) (fun H1 hH => by exact opd_gtr rfl rfl rfl)) rfl ?_
                  refine dc_cons (r := ⟨_, some [], []⟩) (DStep.plain rfl (fun H1 hH => by exact (by first | exact opd_pick_t rfl rfl rfl | exact opd_pick_f rfl rfl rfl | exact opd_pickt rfl rfl (by assumption) rfl | exact opd_pickf rfl rfl (by assumption) rfl | exact opd_pick rfl rfl rfl))) rfl ?_
                  refine dc_cons (r := ⟨_, some [], []⟩) (DStep.plain rfl (fun H1 hH => by exact opd_move rfl rfl)) rfl ?_
                  refine dc_cons (r := ⟨_, some [1], []⟩) (l_on_t rfl rfl rfl (by first | rfl | assumption) (fun H1 hH => by exact (by first | exact opd_field_ref rfl fo44_7 rfl ((hH _ rfl).trans rfl) rfl rfl | exact opd_field_pad rfl fo44_7 rfl rfl))) rfl ?_
                  refine dc_cons (r := ⟨_, some [1], []⟩) (l_on_t rfl rfl rfl (by first | rfl | assumption) (fun H1 hH => by exact (by first | exact opd_load1_ref rfl Tryz.isAgg39 rfl ((hH _ rfl).trans rfl) rfl rfl rfl | exact opd_load1_pad rfl Tryz.isAgg39 rfl (by first | omega | assumption) rfl))) rfl ?_
                  refine dc_cons (r := ⟨_, some [], []⟩) (l_on_t rfl rfl rfl (by first | rfl | assumption) (fun H1 hH => by exact (by first | exact opd_len_sl rfl Tryz.underlying39 rfl | exact opd_len_osl rfl Tryz.underlying39 rfl ((hH _ rfl).trans rfl) rfl))) rfl ?_
                  refine dc_cons (r := ⟨_, some [], []⟩) (l_on_t rfl rfl rfl (by first | rfl | assumption) (fun H1 hH => by exact opd_leq rfl rfl rfl)) rfl ?_
                  refine dc_cons (r := ⟨_, some [], []⟩) (DStep.plain rfl (fun H1 hH => by exact (by first | exact opd_pick_t rfl rfl rfl | exact opd_pick_f rfl rfl rfl | exact opd_pickt rfl rfl (by assumption) rfl | exact opd_pickf rfl rfl (by assumption) rfl | exact opd_pick rfl rfl rfl))) rfl ?_
                  refine dc_cons (r := ⟨_, some [], []⟩) (DStep.plain rfl (fun H1 hH => by exact opd_move rfl rfl)) rfl ?_
                  refine dc_cons (r := ⟨_, some [1], []⟩) (l_on_t rfl rfl rfl (by first | rfl | assumption) (fun H1 hH => by exact (by first | exact opd_field_ref rfl fo44_7 rfl ((hH _ rfl).trans rfl) rfl rfl | exact opd_field_pad rfl fo44_7 rfl rfl))) rfl ?_
                  refine dc_cons (r := ⟨_, some [1], []⟩) (l_on_t rfl rfl rfl (by first | rfl | assumption) (fun H1 hH => by exact (by first | exact opd_load1_ref rfl Tryz.isAgg39 rfl ((hH _ rfl).trans rfl) rfl rfl rfl | exact opd_load1_pad rfl Tryz.isAgg39 rfl (by first | omega | assumption) rfl))) rfl ?_
                  refine dc_cons (r := ⟨_, some [], []⟩) (l_on_t rfl rfl rfl (by first | rfl | assumption) (fun H1 hH => by exact opr_call rfl rfl Tryz.call67 rfl (names_c e.refs _ h5 h6))) rfl ?_
                  refine dc_cons (r := ⟨_, some [], []⟩) (DStep.plain rfl (fun H1 hH => by exact (by first | exact opd_pick_t rfl rfl rfl | exact opd_pick_f rfl rfl rfl | exact opd_pickt rfl rfl (by assumption) rfl | exact opd_pickf rfl rfl (by assumption) rfl | exact opd_pick rfl rfl rfl))) rfl ?_
                  refine dc_cons (r := ⟨_, some [3], []⟩) (DStep.plain rfl (fun H1 hH => by exact (by first | exact opd_field_ref rfl fo44_7 rfl ((hH _ rfl).trans rfl) rfl rfl | exact opd_field_pad rfl fo44_7 rfl rfl))) rfl ?_
                  refine dc_cons (r := ⟨_, some [3], [_]⟩) (DStep.plain rfl (fun H1 hH => by exact (by first | exact x_store_all rfl Tryz.sizeOf39 rfl rfl rfl rfl ((hH _ rfl).trans rfl) rfl rfl rfl | exact x_store1 rfl Tryz.sizeOf39 rfl rfl rfl ((hH _ rfl).trans rfl) rfl rfl (by simp only [List.length_cons, List.length_nil]; omega) (by simp only [List.drop_succ_cons, List.drop_zero, List.take_succ_cons, List.take_zero, List.take_nil, List.map_cons, List.map_nil, List.set_cons_zero, List.set_cons_succ, List.cons_append, List.nil_append, encTag, encObj, encStr, encEdit, zObj]; rfl) (by simp only [List.drop_succ_cons, List.drop_zero, List.take_succ_cons, List.take_zero, List.take_nil, List.map_cons, List.map_nil, List.set_cons_zero, List.set_cons_succ, List.cons_append, List.nil_append, encTag, encObj, encStr, encEdit, zObj]; rfl) | exact x_store1 rfl Tryz.sizeOf39 rfl rfl rfl ((hH _ rfl).trans rfl) rfl rfl (Nat.le_of_ble_eq_true rfl) rfl rfl))) rfl ?_
                  refine dc_cons (r := ⟨_, some [], []⟩) (DStep.plain rfl (fun H1 hH => by exact opd_assign rfl rfl)) rfl ?_
                  refine dc_nil ⟨by kernel_rfl, ?_⟩
                  exact ⟨rfl, ⟨_, rfl, by first | rfl | (rw [h127]; rfl) | (rw [h127, Bool.true_and])⟩, rfl, rfl, rfl⟩
          refine awp_seq ?_
          refine awp_bool (t := 2) (n := 8) (X := (gName e.id && decide ((0 : Int) < ((e.refs.map encStr).length : Int)) && decide (((e.refs.map encStr).length : Int) ≤ 2000) && e.refs.all gName) && gSameE ⟨e.op, e.id, sNil, sNil, 0, 0, sNil, sNil, e.refs, zObj⟩ e) ?_ ?_
          · all_goals (refine al_d rfl rfl rfl (by exact opd_move rfl rfl) ?_)
            all_goals (refine al_d rfl rfl rfl (by exact opd_move rfl rfl) ?_)
            all_goals (first | refine al_split (t := 127) rfl (fun h127 => ?_) (fun h127 => ?_) | refine al_dup (t := 127) rfl ?_ | skip)
            all_goals (try contradiction)
            all_goals (first | refine al_off rfl rfl rfl rfl rfl ?_ | refine al_offu rfl rfl rfl rfl ?_ | refine al_ond rfl rfl rfl rfl rfl rfl (by exact (by first | exact opd_loadn_ref rfl Tryz.isAgg44 Tryz.sizeOf44 rfl rfl rfl rfl (by simp only [List.drop_succ_cons, List.drop_zero, List.take_succ_cons, List.take_zero, List.take_nil, List.map_cons, List.map_nil, List.set_cons_zero, List.set_cons_succ, List.cons_append, List.nil_append, encTag, encObj, encStr, encEdit, zObj]; rfl) rfl | exact opd_loadn_pad rfl Tryz.isAgg44 Tryz.sizeOf44 rfl (by first | omega | assumption) (by simp only [List.drop_succ_cons, List.drop_zero, List.take_succ_cons, List.take_zero, List.take_nil, List.map_cons, List.map_nil, List.set_cons_zero, List.set_cons_succ, List.cons_append, List.nil_append, encTag, encObj, encStr, encEdit, zObj]; rfl) rfl)) ?_)
            all_goals (first | refine al_off rfl rfl rfl rfl rfl ?_ | refine al_offu rfl rfl rfl rfl ?_ | refine al_ond rfl rfl rfl rfl rfl rfl (by exact (by first | exact opd_loadn_ref rfl Tryz.isAgg44 Tryz.sizeOf44 rfl rfl rfl rfl (by simp only [List.drop_succ_cons, List.drop_zero, List.take_succ_cons, List.take_zero, List.take_nil, List.map_cons, List.map_nil, List.set_cons_zero, List.set_cons_succ, List.cons_append, List.nil_append, encTag, encObj, encStr, encEdit, zObj]; rfl) rfl | exact opd_loadn_pad rfl Tryz.isAgg44 Tryz.sizeOf44 rfl (by first | omega | assumption) (by simp only [List.drop_succ_cons, List.drop_zero, List.take_succ_cons, List.take_zero, List.take_nil, List.map_cons, List.map_nil, List.set_cons_zero, List.set_cons_succ, List.cons_append, List.nil_append, encTag, encObj, encStr, encEdit, zObj]; rfl) rfl)) ?_)
            all_goals (first | refine al_off rfl rfl rfl rfl rfl ?_ | refine al_offu rfl rfl rfl rfl ?_ | refine al_ond rfl rfl rfl rfl rfl rfl (by exact opr_call rfl rfl Tryz.call69 rfl (sameE_c ⟨e.op, e.id, sNil, sNil, 0, 0, sNil, sNil, e.refs, zObj⟩ e _ (by first | exact h5 | (show 0 < _; omega)) okS_z)) ?_)
            all_goals (refine al_d rfl rfl rfl (by exact (by first | exact opd_pick_t rfl rfl rfl | exact opd_pick_f rfl rfl rfl | exact opd_pickt rfl rfl (by assumption) rfl | exact opd_pickf rfl rfl (by assumption) rfl | exact opd_pick rfl rfl rfl)) ?_)
            all_goals (refine al_d rfl rfl rfl (by exact opd_assign rfl rfl) ?_)
            all_goals (refine al_nil ?_)
            all_goals (exact ⟨⟨_, rfl, by first | rfl | (rw [h127]; rfl) | (rw [h127, Bool.true_and])⟩, rfl, rfl, rfl⟩)
          refine awp_ret ?_
          -- return
          refine aret1 (H' := []) (by first | exact .inr rfl | exact .inl rfl) rfl (rval_tmp rfl) (Fin.wk (by simp) trivial trivial) ?_
          exact ⟨by rw [hv], rfl⟩
        · have ho4 : ¬ e.op = 4 := of_decide_eq_false hc4
          refine awp_seq ?_
          refine awp_region ?_
          refine al_d rfl rfl rfl (by exact opd_eql rfl rfl rfl) ?_
          refine al_d rfl rfl rfl (by exact opd_assign rfl rfl) ?_
          refine al_nil ?_
          refine awp_cond rfl (fun hc5 => ?_) (fun hc5 => ?_)
          -- cond 5
          · have ho : e.op = 5 := of_decide_eq_true hc5
            have hx : xOf e = ⟨e.op, e.id, sNil, sNil, 0, 0, sNil, sNil, [], zObj⟩ := by rw [xOf, if_neg ho1, if_neg ho2, if_neg ho3, if_neg ho4, if_pos ho]
            have hk : okOf e = (gName e.id) := by rw [okOf, if_neg ho1, if_neg ho2, if_neg ho3, if_neg ho4, if_pos ho]; simp
            have hv : gEditV e = ((gName e.id) && gSameE ⟨e.op, e.id, sNil, sNil, 0, 0, sNil, sNil, [], zObj⟩ e) := by rw [gEditV, hx, hk, ho]; rfl
            refine awp_skip ?_
            refine awp_seq ?_
            refine awp_bool (t := 2) (n := 8) (X := (gName e.id) && gSameE ⟨e.op, e.id, sNil, sNil, 0, 0, sNil, sNil, [], zObj⟩ e) ?_ ?_
            · all_goals (refine al_d rfl rfl rfl (by exact opd_move rfl rfl) ?_)
              all_goals (refine al_d rfl rfl rfl (by exact opd_move rfl rfl) ?_)
              all_goals (first | refine al_split (t := 127) rfl (fun h127 => ?_) (fun h127 => ?_) | refine al_dup (t := 127) rfl ?_ | skip)
              all_goals (try contradiction)
              all_goals (first | refine al_off rfl rfl rfl rfl rfl ?_ | refine al_offu rfl rfl rfl rfl ?_ | refine al_ond rfl rfl rfl rfl rfl rfl (by exact (by first | exact opd_loadn_ref rfl Tryz.isAgg44 Tryz.sizeOf44 rfl rfl rfl rfl (by simp only [List.drop_succ_cons, List.drop_zero, List.take_succ_cons, List.take_zero, List.take_nil, List.map_cons, List.map_nil, List.set_cons_zero, List.set_cons_succ, List.cons_append, List.nil_append, encTag, encObj, encStr, encEdit, zObj]; rfl) rfl | exact opd_loadn_pad rfl Tryz.isAgg44 Tryz.sizeOf44 rfl (by first | omega | assumption) (by simp only [List.drop_succ_cons, List.drop_zero, List.take_succ_cons, List.take_zero, List.take_nil, List.map_cons, List.map_nil, List.set_cons_zero, List.set_cons_succ, List.cons_append, List.nil_append, encTag, encObj, encStr, encEdit, zObj]; rfl) rfl)) ?_)
              all_goals (first | refine al_off rfl rfl rfl rfl rfl ?_ | refine al_offu rfl rfl rfl rfl ?_ | refine al_ond rfl rfl rfl rfl rfl rfl (by exact (by first | exact opd_loadn_ref rfl Tryz.isAgg44 Tryz.sizeOf44 rfl rfl rfl rfl (by simp only [List.drop_succ_cons, List.drop_zero, List.take_succ_cons, List.take_zero, List.take_nil, List.map_cons, List.map_nil, List.set_cons_zero, List.set_cons_succ, List.cons_append, List.nil_append, encTag, encObj, encStr, encEdit, zObj]; rfl) rfl | exact opd_loadn_pad rfl Tryz.isAgg44 Tryz.sizeOf44 rfl (by first | omega | assumption) (by simp only [List.drop_succ_cons, List.drop_zero, List.take_succ_cons, List.take_zero, List.take_nil, List.map_cons, List.map_nil, List.set_cons_zero, List.set_cons_succ, List.cons_append, List.nil_append, encTag, encObj, encStr, encEdit, zObj]; rfl) rfl)) ?_)
              all_goals (first | refine al_off rfl rfl rfl rfl rfl ?_ | refine al_offu rfl rfl rfl rfl ?_ | refine al_ond rfl rfl rfl rfl rfl rfl (by exact opr_call rfl rfl Tryz.call69 rfl (sameE_c ⟨e.op, e.id, sNil, sNil, 0, 0, sNil, sNil, [], zObj⟩ e _ (by first | exact h5 | (show 0 < _; omega)) okS_z)) ?_)
              all_goals (refine al_d rfl rfl rfl (by exact (by first | exact opd_pick_t rfl rfl rfl | exact opd_pick_f rfl rfl rfl | exact opd_pickt rfl rfl (by assumption) rfl | exact opd_pickf rfl rfl (by assumption) rfl | exact opd_pick rfl rfl rfl)) ?_)
              all_goals (refine al_d rfl rfl rfl (by exact opd_assign rfl rfl) ?_)
              all_goals (refine al_nil ?_)
              all_goals (exact ⟨⟨_, rfl, by first | rfl | (rw [h127]; rfl) | (rw [h127, Bool.true_and])⟩, rfl, rfl, rfl⟩)
            refine awp_ret ?_
            -- return
            refine aret1 (H' := []) (by first | exact .inr rfl | exact .inl rfl) rfl (rval_tmp rfl) (Fin.wk (by simp) trivial trivial) ?_
            exact ⟨by rw [hv], rfl⟩
          · have ho5 : ¬ e.op = 5 := of_decide_eq_false hc5
            refine awp_seq ?_
            refine awp_region ?_
            refine al_d rfl rfl rfl (by exact opd_eql rfl rfl rfl) ?_
            refine al_d rfl rfl rfl (by exact opd_assign rfl rfl) ?_
            refine al_nil ?_
            refine awp_cond rfl (fun hc6 => ?_) (fun hc6 => ?_)
            -- cond 6
            · have ho : e.op = 6 := of_decide_eq_true hc6
              have hx : xOf e = ⟨e.op, e.id, e.other, e.node, 0, 0, sNil, sNil, [], zObj⟩ := by rw [xOf, if_neg ho1, if_neg ho2, if_neg ho3, if_neg ho4, if_neg ho5, if_pos ho]
              have hk : okOf e = (gName e.id && (gName e.node && gName e.other)) := by rw [okOf, if_neg ho1, if_neg ho2, if_neg ho3, if_neg ho4, if_neg ho5, if_pos ho]
              have hb : (gName e.id && (gName e.node && gName e.other)) = (gName e.id && (gName e.node && gName e.other)) := by rfl
              have hv : gEditV e = ((gName e.id && (gName e.node && gName e.other)) && gSameE ⟨e.op, e.id, e.other, e.node, 0, 0, sNil, sNil, [], zObj⟩ e) := by rw [gEditV, hx, hk, hb, ho]; rfl
              apply awp_mergeW (t := 4) (n := 16) (X := gName e.id && (gName e.node && gName e.other))
              · cases hg104 : (gName e.id : Bool)
                · refine awp_drawc follows ?_
                  refine dc_cons (r := ⟨_, some [1], []⟩) (DStep.plain rfl (fun H1 hH => by exact (by first | exact opd_field_ref rfl fo44_3 rfl ((hH _ rfl).trans rfl) rfl rfl | exact opd_field_pad rfl fo44_3 rfl rfl))) rfl ?_
                  refine dc_cons (r := ⟨_, some [1], []⟩) (DStep.plain rfl (fun H1 hH => by exact (by first | exact opd_load1_ref rfl Tryz.isAgg9 rfl ((hH _ rfl).trans rfl) rfl rfl rfl | exact opd_load1_pad rfl Tryz.isAgg9 rfl (by first | omega | assumption) rfl))) rfl ?_
                  refine dc_cons (r := ⟨_, some [1], []⟩) (DStep.plain rfl (fun H1 hH => by exact (by first | exact opd_field_ref rfl fo44_2 rfl ((hH _ rfl).trans rfl) rfl rfl | exact opd_field_pad rfl fo44_2 rfl rfl))) rfl ?_
                  refine dc_cons (r := ⟨_, some [1], []⟩) (DStep.plain rfl (fun H1 hH => by exact (by first | exact opd_load1_ref rfl Tryz.isAgg9 rfl ((hH _ rfl).trans rfl) rfl rfl rfl | exact opd_load1_pad rfl Tryz.isAgg9 rfl (by first | omega | assumption) rfl))) rfl ?_
                  refine dc_cons (r := ⟨_, some [], []⟩) (DStep.plain rfl (fun H1 hH => by exact opd_move rfl rfl)) rfl ?_
                  refine dc_cons (r := ⟨_, some [], []⟩) (DStep.plain rfl (fun H1 hH => by exact opd_move rfl rfl)) rfl ?_
                  refine dc_cons (q_off_t rfl rfl rfl (by first | rfl | assumption)) rfl ?_
                  refine dc_cons (q_off_t rfl rfl rfl (by first | rfl | assumption)) rfl ?_
                  refine dc_cons (q_off_t rfl rfl rfl (by first | rfl | assumption)) rfl ?_
                  refine dc_cons (q_off_t rfl rfl rfl (by first | rfl | assumption)) rfl ?_
                  refine dc_cons (q_off_t rfl rfl rfl (by first | rfl | assumption)) rfl ?_
                  refine dc_cons (q_off_t rfl rfl rfl (by first | rfl | assumption)) rfl ?_
                  refine dc_cons (r := ⟨_, some [], []⟩) (DStep.plain rfl (fun H1 hH => by exact (by first | exact opd_pick_t rfl rfl rfl | exact opd_pick_f rfl rfl rfl | exact opd_pickt rfl rfl (by assumption) rfl | exact opd_pickf rfl rfl (by assumption) rfl | exact opd_pick rfl rfl rfl))) rfl ?_
                  refine dc_cons (r := ⟨_, some [3], []⟩) (DStep.plain rfl (fun H1 hH => by exact (by first | exact opd_field_ref rfl fo44_3 rfl ((hH _ rfl).trans rfl) rfl rfl | exact opd_field_pad rfl fo44_3 rfl rfl))) rfl ?_
                  refine dc_cons (r := ⟨_, some [3], [_]⟩) (DStep.plain rfl (fun H1 hH => by exact (by first | exact x_store_all rfl Tryz.sizeOf9 rfl rfl rfl rfl ((hH _ rfl).trans rfl) rfl rfl rfl | exact x_store1 rfl Tryz.sizeOf9 rfl rfl rfl ((hH _ rfl).trans rfl) rfl rfl (by simp only [List.length_cons, List.length_nil]; omega) (by simp only [List.drop_succ_cons, List.drop_zero, List.take_succ_cons, List.take_zero, List.take_nil, List.map_cons, List.map_nil, List.set_cons_zero, List.set_cons_succ, List.cons_append, List.nil_append, encTag, encObj, encStr, encEdit, zObj]; rfl) (by simp only [List.drop_succ_cons, List.drop_zero, List.take_succ_cons, List.take_zero, List.take_nil, List.map_cons, List.map_nil, List.set_cons_zero, List.set_cons_succ, List.cons_append, List.nil_append, encTag, encObj, encStr, encEdit, zObj]; rfl) | exact x_store1 rfl Tryz.sizeOf9 rfl rfl rfl ((hH _ rfl).trans rfl) rfl rfl (Nat.le_of_ble_eq_true rfl) rfl rfl))) rfl ?_
                  refine dc_cons (r := ⟨_, some [3], []⟩) (DStep.plain rfl (fun H1 hH => by exact (by first | exact opd_field_ref rfl fo44_2 rfl ((hH _ rfl).trans rfl) rfl rfl | exact opd_field_pad rfl fo44_2 rfl rfl))) rfl ?_
                  refine dc_cons (r := ⟨_, some [3], [_]⟩) (DStep.plain rfl (fun H1 hH => by exact (by first | exact x_store_all rfl Tryz.sizeOf9 rfl rfl rfl rfl ((hH _ rfl).trans rfl) rfl rfl rfl | exact x_store1 rfl Tryz.sizeOf9 rfl rfl rfl ((hH _ rfl).trans rfl) rfl rfl (by simp only [List.length_cons, List.length_nil]; omega) (by simp only [List.drop_succ_cons, List.drop_zero, List.take_succ_cons, List.take_zero, List.take_nil, List.map_cons, List.map_nil, List.set_cons_zero, List.set_cons_succ, List.cons_append, List.nil_append, encTag, encObj, encStr, encEdit, zObj]; rfl) (by simp only [List.drop_succ_cons, List.drop_zero, List.take_succ_cons, List.take_zero, List.take_nil, List.map_cons, List.map_nil, List.set_cons_zero, List.set_cons_succ, List.cons_append, List.nil_append, encTag, encObj, encStr, encEdit, zObj]; rfl) | exact x_store1 rfl Tryz.sizeOf9 rfl rfl rfl ((hH _ rfl).trans rfl) rfl rfl (Nat.le_of_ble_eq_true rfl) rfl rfl))) rfl ?_
                  refine dc_cons (r := ⟨_, some [], []⟩) (DStep.plain rfl (fun H1 hH => by exact opd_assign rfl rfl)) rfl ?_
                  refine dc_nil ⟨by kernel_rfl, ?_⟩
                  exact ⟨rfl, ⟨_, rfl, by first | rfl | (rw [h127]; rfl) | (rw [h127, Bool.true_and])⟩, rfl, rfl, rfl⟩
                · refine awp_drawc follows ?_
                  refine dc_cons (r := ⟨_, some [1], []⟩) (DStep.plain rfl (fun H1 hH => by exact (by first | exact opd_field_ref rfl fo44_3 rfl ((hH _ rfl).trans rfl) rfl rfl | exact opd_field_pad rfl fo44_3 rfl rfl))) rfl ?_
                  refine dc_cons (r := ⟨_, some [1], []⟩) (DStep.plain rfl (fun H1 hH => by exact (by first | exact opd_load1_ref rfl Tryz.isAgg9 rfl ((hH _ rfl).trans rfl) rfl rfl rfl | exact opd_load1_pad rfl Tryz.isAgg9 rfl (by first | omega | assumption) rfl))) rfl ?_
                  refine dc_cons (r := ⟨_, some [1], []⟩) (DStep.plain rfl (fun H1 hH => by exact (by first | exact opd_field_ref rfl fo44_2 rfl ((hH _ rfl).trans rfl) rfl rfl | exact opd_field_pad rfl fo44_2 rfl rfl))) rfl ?_
                  refine dc_cons (r := ⟨_, some [1], []⟩) (DStep.plain rfl (fun H1 hH => by exact (by first | exact opd_load1_ref rfl Tryz.isAgg9 rfl ((hH _ rfl).trans rfl) rfl rfl rfl | exact opd_load1_pad rfl Tryz.isAgg9 rfl (by first | omega | assumption) rfl))) rfl ?_
                  refine dc_cons (r := ⟨_, some [], []⟩) (DStep.plain rfl (fun H1 hH => by exact opd_move rfl rfl)) rfl ?_
                  refine dc_cons (r := ⟨_, some [], []⟩) (DStep.plain rfl (fun H1 hH => by exact opd_move rfl rfl)) rfl ?_
                  refine dc_cons (r := ⟨_, some [1], []⟩) (l_on_t rfl rfl rfl (by first | rfl | assumption) (fun H1 hH => by exact (by first | exact opd_field_ref rfl fo44_3 rfl ((hH _ rfl).trans rfl) rfl rfl | exact opd_field_pad rfl fo44_3 rfl rfl))) rfl ?_
                  refine dc_cons (r := ⟨_, some [1], []⟩) (l_on_t rfl rfl rfl (by first | rfl | assumption) (fun H1 hH => by exact (by first | exact opd_load1_ref rfl Tryz.isAgg9 rfl ((hH _ rfl).trans rfl) rfl rfl rfl | exact opd_load1_pad rfl Tryz.isAgg9 rfl (by first | omega | assumption) rfl))) rfl ?_
                  refine dc_cons (r := ⟨_, some [1], []⟩) (l_on_t rfl rfl rfl (by first | rfl | assumption) (fun H1 hH => by exact (by first | exact opd_field_ref rfl fo44_2 rfl ((hH _ rfl).trans rfl) rfl rfl | exact opd_field_pad rfl fo44_2 rfl rfl))) rfl ?_
                  refine dc_cons (r := ⟨_, some [1], []⟩) (l_on_t rfl rfl rfl (by first | rfl | assumption) (fun H1 hH => by exact (by first | exact opd_load1_ref rfl Tryz.isAgg9 rfl ((hH _ rfl).trans rfl) rfl rfl rfl | exact opd_load1_pad rfl Tryz.isAgg9 rfl (by first | omega | assumption) rfl))) rfl ?_
                  refine dc_cons (r := ⟨_, some [], []⟩) (l_on_t rfl rfl rfl (by first | rfl | assumption) (fun H1 hH => by exact x_buildSlice ([e.node, e.other].map encStr) rfl so39 rfl rfl rfl rfl rfl (by simp [encStr]))) rfl ?_
                  refine dc_cons (r := ⟨_, some [], []⟩) (l_on_t rfl rfl rfl (by first | rfl | assumption) (fun H1 hH => by exact opr_call rfl rfl Tryz.call67 rfl (n2_c e.node e.other _ h3 h2))) rfl ?_
                  refine dc_cons (r := ⟨_, some [], []⟩) (DStep.plain rfl (fun H1 hH => by exact (by first | exact opd_pick_t rfl rfl rfl | exact opd_pick_f rfl rfl rfl | exact opd_pickt rfl rfl (by assumption) rfl | exact opd_pickf rfl rfl (by assumption) rfl | exact opd_pick rfl rfl rfl))) rfl ?_
                  refine dc_cons (r := ⟨_, some [3], []⟩) (DStep.plain rfl (fun H1 hH => by exact (by first | exact opd_field_ref rfl fo44_3 rfl ((hH _ rfl).trans rfl) rfl rfl | exact opd_field_pad rfl fo44_3 rfl rfl))) rfl ?_
                  refine dc_cons (r := ⟨_, some [3], [_]⟩) (DStep.plain rfl (fun H1 hH => by exact (by first | exact x_store_all rfl Tryz.sizeOf9 rfl rfl rfl rfl ((hH _ rfl).trans rfl) rfl rfl rfl | exact x_store1 rfl Tryz.sizeOf9 rfl rfl rfl ((hH _ rfl).trans rfl) rfl rfl (by simp only [List.length_cons, List.length_nil]; omega) (by simp only [List.drop_succ_cons, List.drop_zero, List.take_succ_cons, List.take_zero, List.take_nil, List.map_cons, List.map_nil, List.set_cons_zero, List.set_cons_succ, List.cons_append, List.nil_append, encTag, encObj, encStr, encEdit, zObj]; rfl) (by simp only [List.drop_succ_cons, List.drop_zero, List.take_succ_cons, List.take_zero, List.take_nil, List.map_cons, List.map_nil, List.set_cons_zero, List.set_cons_succ, List.cons_append, List.nil_append, encTag, encObj, encStr, encEdit, zObj]; rfl) | exact x_store1 rfl Tryz.sizeOf9 rfl rfl rfl ((hH _ rfl).trans rfl) rfl rfl (Nat.le_of_ble_eq_true rfl) rfl rfl))) rfl ?_
                  refine dc_cons (r := ⟨_, some [3], []⟩) (DStep.plain rfl (fun H1 hH => by exact (by first | exact opd_field_ref rfl fo44_2 rfl ((hH _ rfl).trans rfl) rfl rfl | exact opd_field_pad rfl fo44_2 rfl rfl))) rfl ?_
                  refine dc_cons (r := ⟨_, some [3], [_]⟩) (DStep.plain rfl (fun H1 hH => by exact (by first | exact x_store_all rfl Tryz.sizeOf9 rfl rfl rfl rfl ((hH _ rfl).trans rfl) rfl rfl rfl | exact x_store1 rfl Tryz.sizeOf9 rfl rfl rfl ((hH _ rfl).trans rfl) rfl rfl (by simp only [List.length_cons, List.length_nil]; omega) (by simp only [List.drop_succ_cons, List.drop_zero, List.take_succ_cons, List.take_zero, List.take_nil, List.map_cons, List.map_nil, List.set_cons_zero, List.set_cons_succ, List.cons_append, List.nil_append, encTag, encObj, encStr, encEdit, zObj]; rfl) (by simp only [List.drop_succ_cons, List.drop_zero, List.take_succ_cons, List.take_zero, List.take_nil, List.map_cons, List.map_nil, List.set_cons_zero, List.set_cons_succ, List.cons_append, List.nil_append, encTag, encObj, encStr, encEdit, zObj]; rfl) | exact x_store1 rfl Tryz.sizeOf9 rfl rfl rfl ((hH _ rfl).trans rfl) rfl rfl (Nat.le_of_ble_eq_true rfl) rfl rfl))) rfl ?_
                  refine dc_cons (r := ⟨_, some [], []⟩) (DStep.plain rfl (fun H1 hH => by exact opd_assign rfl rfl)) rfl ?_
                  refine dc_nil ⟨by kernel_rfl, ?_⟩
                  exact ⟨rfl, ⟨_, rfl, by first | rfl | (rw [h127]; rfl) | (rw [h127, Bool.true_and])⟩, rfl, rfl, rfl⟩
              refine awp_seq ?_
              refine awp_bool (t := 2) (n := 8) (X := (gName e.id && (gName e.node && gName e.other)) && gSameE ⟨e.op, e.id, e.other, e.node, 0, 0, sNil, sNil, [], zObj⟩ e) ?_ ?_
              · all_goals (refine al_d rfl rfl rfl (by exact opd_move rfl rfl) ?_)
                all_goals (refine al_d rfl rfl rfl (by exact opd_move rfl rfl) ?_)
                all_goals (first | refine al_split (t := 127) rfl (fun h127 => ?_) (fun h127 => ?_) | refine al_dup (t := 127) rfl ?_ | skip)
                all_goals (try contradiction)
                all_goals (first | refine al_off rfl rfl rfl rfl rfl ?_ | refine al_offu rfl rfl rfl rfl ?_ | refine al_ond rfl rfl rfl rfl rfl rfl (by exact (by first | exact opd_loadn_ref rfl Tryz.isAgg44 Tryz.sizeOf44 rfl rfl rfl rfl (by simp only [List.drop_succ_cons, List.drop_zero, List.take_succ_cons, List.take_zero, List.take_nil, List.map_cons, List.map_nil, List.set_cons_zero, List.set_cons_succ, List.cons_append, List.nil_append, encTag, encObj, encStr, encEdit, zObj]; rfl) rfl | exact opd_loadn_pad rfl Tryz.isAgg44 Tryz.sizeOf44 rfl (by first | omega | assumption) (by simp only [List.drop_succ_cons, List.drop_zero, List.take_succ_cons, List.take_zero, List.take_nil, List.map_cons, List.map_nil, List.set_cons_zero, List.set_cons_succ, List.cons_append, List.nil_append, encTag, encObj, encStr, encEdit, zObj]; rfl) rfl)) ?_)
                all_goals (first | refine al_off rfl rfl rfl rfl rfl ?_ | refine al_offu rfl rfl rfl rfl ?_ | refine al_ond rfl rfl rfl rfl rfl rfl (by exact (by first | exact opd_loadn_ref rfl Tryz.isAgg44 Tryz.sizeOf44 rfl rfl rfl rfl (by simp only [List.drop_succ_cons, List.drop_zero, List.take_succ_cons, List.take_zero, List.take_nil, List.map_cons, List.map_nil, List.set_cons_zero, List.set_cons_succ, List.cons_append, List.nil_append, encTag, encObj, encStr, encEdit, zObj]; rfl) rfl | exact opd_loadn_pad rfl Tryz.isAgg44 Tryz.sizeOf44 rfl (by first | omega | assumption) (by simp only [List.drop_succ_cons, List.drop_zero, List.take_succ_cons, List.take_zero, List.take_nil, List.map_cons, List.map_nil, List.set_cons_zero, List.set_cons_succ, List.cons_append, List.nil_append, encTag, encObj, encStr, encEdit, zObj]; rfl) rfl)) ?_)
                all_goals (first | refine al_off rfl rfl rfl rfl rfl ?_ | refine al_offu rfl rfl rfl rfl ?_ | refine al_ond rfl rfl rfl rfl rfl rfl (by exact opr_call rfl rfl Tryz.call69 rfl (sameE_c ⟨e.op, e.id, e.other, e.node, 0, 0, sNil, sNil, [], zObj⟩ e _ (by first | exact h5 | (show 0 < _; omega)) okS_z)) ?_)
                all_goals (refine al_d rfl rfl rfl (by exact (by first | exact opd_pick_t rfl rfl rfl | exact opd_pick_f rfl rfl rfl | exact opd_pickt rfl rfl (by assumption) rfl | exact opd_pickf rfl rfl (by assumption) rfl | exact opd_pick rfl rfl rfl)) ?_)
                all_goals (refine al_d rfl rfl rfl (by exact opd_assign rfl rfl) ?_)
                all_goals (refine al_nil ?_)
                all_goals (exact ⟨⟨_, rfl, by first | rfl | (rw [h127]; rfl) | (rw [h127, Bool.true_and])⟩, rfl, rfl, rfl⟩)
              refine awp_ret ?_
              -- return
              refine aret1 (H' := []) (by first | exact .inr rfl | exact .inl rfl) rfl (rval_tmp rfl) (Fin.wk (by simp) trivial trivial) ?_
              exact ⟨by rw [hv], rfl⟩
            · have ho6 : ¬ e.op = 6 := of_decide_eq_false hc6
              refine awp_seq ?_
              refine awp_region ?_
              refine al_d rfl rfl rfl (by exact opd_eql rfl rfl rfl) ?_
              refine al_d rfl rfl rfl (by exact opd_assign rfl rfl) ?_
              refine al_nil ?_
              refine awp_cond rfl (fun hc7 => ?_) (fun hc7 => ?_)
              -- cond 7
              · have ho : e.op = 7 := of_decide_eq_true hc7
                have hx : xOf e = ⟨e.op, e.id, e.other, sNil, 0, 0, sNil, sNil, [], zObj⟩ := by rw [xOf, if_neg ho1, if_neg ho2, if_neg ho3, if_neg ho4, if_neg ho5, if_neg ho6]
                have hk : okOf e = (gName e.id && gName e.other) := by rw [okOf, if_neg ho1, if_neg ho2, if_neg ho3, if_neg ho4, if_neg ho5, if_neg ho6]
                have hb : (gName e.id && gName e.other) = (gName e.id && gName e.other) := by rfl
                have hv : gEditV e = ((gName e.id && gName e.other) && gSameE ⟨e.op, e.id, e.other, sNil, 0, 0, sNil, sNil, [], zObj⟩ e) := by rw [gEditV, hx, hk, hb, ho]; rfl
                apply awp_mergeW (t := 4) (n := 11) (X := gName e.id && gName e.other)
                · cases hg119 : (gName e.id : Bool)
                  · refine awp_drawc follows ?_
                    refine dc_cons (r := ⟨_, some [1], []⟩) (DStep.plain rfl (fun H1 hH => by exact (by first | exact opd_field_ref rfl fo44_2 rfl ((hH _ rfl).trans rfl) rfl rfl | exact opd_field_pad rfl fo44_2 rfl rfl))) rfl ?_
                    refine dc_cons (r := ⟨_, some [1], []⟩) (DStep.plain rfl (fun H1 hH => by exact (by first | exact opd_load1_ref rfl Tryz.isAgg9 rfl ((hH _ rfl).trans rfl) rfl rfl rfl | exact opd_load1_pad rfl Tryz.isAgg9 rfl (by first | omega | assumption) rfl))) rfl ?_
                    refine dc_cons (r := ⟨_, some [], []⟩) (DStep.plain rfl (fun H1 hH => by exact opd_move rfl rfl)) rfl ?_
                    refine dc_cons (r := ⟨_, some [], []⟩) (DStep.plain rfl (fun H1 hH => by exact opd_move rfl rfl)) rfl ?_
                    refine dc_cons (q_off_t rfl rfl rfl (by first | rfl | assumption)) rfl ?_
                    refine dc_cons (q_off_t rfl rfl rfl (by first | rfl | assumption)) rfl ?_
                    refine dc_cons (q_off_t rfl rfl rfl (by first | rfl | assumption)) rfl ?_
                    refine dc_cons (q_off_t rfl rfl rfl (by first | rfl | assumption)) rfl ?_
                    refine dc_cons (r := ⟨_, some [], []⟩) (DStep.plain rfl (fun H1 hH => by exact (by first | exact opd_pick_t rfl rfl rfl | exact opd_pick_f rfl rfl rfl | exact opd_pickt rfl rfl (by assumption) rfl | exact opd_pickf rfl rfl (by assumption) rfl | exact opd_pick rfl rfl rfl))) rfl ?_
                    refine dc_cons (r := ⟨_, some [3], []⟩) (DStep.plain rfl (fun H1 hH => by exact (by first | exact opd_field_ref rfl fo44_2 rfl ((hH _ rfl).trans rfl) rfl rfl | exact opd_field_pad rfl fo44_2 rfl rfl))) rfl ?_
                    refine dc_cons (r := ⟨_, some [3], [_]⟩) (DStep.plain rfl (fun H1 hH => by exact (by first | exact x_store_all rfl Tryz.sizeOf9 rfl rfl rfl rfl ((hH _ rfl).trans rfl) rfl rfl rfl | exact x_store1 rfl Tryz.sizeOf9 rfl rfl rfl ((hH _ rfl).trans rfl) rfl rfl (by simp only [List.length_cons, List.length_nil]; omega) (by simp only [List.drop_succ_cons, List.drop_zero, List.take_succ_cons, List.take_zero, List.take_nil, List.map_cons, List.map_nil, List.set_cons_zero, List.set_cons_succ, List.cons_append, List.nil_append, encTag, encObj, encStr, encEdit, zObj]; rfl) (by simp only [List.drop_succ_cons, List.drop_zero, List.take_succ_cons, List.take_zero, List.take_nil, List.map_cons, List.map_nil, List.set_cons_zero, List.set_cons_succ, List.cons_append, List.nil_append, encTag, encObj, encStr, encEdit, zObj]; rfl) | exact x_store1 rfl Tryz.sizeOf9 rfl rfl rfl ((hH _ rfl).trans rfl) rfl rfl (Nat.le_of_ble_eq_true rfl) rfl rfl))) rfl ?_
                    refine dc_cons (r := ⟨_, some [], []⟩) (DStep.plain rfl (fun H1 hH => by exact opd_assign rfl rfl)) rfl ?_
                    refine dc_nil ⟨by kernel_rfl, ?_⟩
                    exact ⟨rfl, ⟨_, rfl, by first | rfl | (rw [h127]; rfl) | (rw [h127, Bool.true_and])⟩, rfl, rfl, rfl⟩
                  · refine awp_drawc follows ?_
                    refine dc_cons (r := ⟨_, some [1], []⟩) (DStep.plain rfl (fun H1 hH => by exact (by first | exact opd_field_ref rfl fo44_2 rfl ((hH _ rfl).trans rfl) rfl rfl | exact opd_field_pad rfl fo44_2 rfl rfl))) rfl ?_
                    refine dc_cons (r := ⟨_, some [1], []⟩) (DStep.plain rfl (fun H1 hH => by exact (by first | exact opd_load1_ref rfl Tryz.isAgg9 rfl ((hH _ rfl).trans rfl) rfl rfl rfl | exact opd_load1_pad rfl Tryz.isAgg9 rfl (by first | omega | assumption) rfl))) rfl ?_
                    refine dc_cons (r := ⟨_, some [], []⟩) (DStep.plain rfl (fun H1 hH => by exact opd_move rfl rfl)) rfl ?_
                    refine dc_cons (r := ⟨_, some [], []⟩) (DStep.plain rfl (fun H1 hH => by exact opd_move rfl rfl)) rfl ?_
                    refine dc_cons (r := ⟨_, some [1], []⟩) (l_on_t rfl rfl rfl (by first | rfl | assumption) (fun H1 hH => by exact (by first | exact opd_field_ref rfl fo44_2 rfl ((hH _ rfl).trans rfl) rfl rfl | exact opd_field_pad rfl fo44_2 rfl rfl))) rfl ?_
                    refine dc_cons (r := ⟨_, some [1], []⟩) (l_on_t rfl rfl rfl (by first | rfl | assumption) (fun H1 hH => by exact (by first | exact opd_load1_ref rfl Tryz.isAgg9 rfl ((hH _ rfl).trans rfl) rfl rfl rfl | exact opd_load1_pad rfl Tryz.isAgg9 rfl (by first | omega | assumption) rfl))) rfl ?_
                    refine dc_cons (r := ⟨_, some [], []⟩) (l_on_t rfl rfl rfl (by first | rfl | assumption) (fun H1 hH => by exact x_buildSlice ([e.other].map encStr) rfl so39 rfl rfl rfl rfl rfl (by simp [encStr]))) rfl ?_
                    refine dc_cons (r := ⟨_, some [], []⟩) (l_on_t rfl rfl rfl (by first | rfl | assumption) (fun H1 hH => by exact opr_call rfl rfl Tryz.call67 rfl (n1_c e.other _ h2))) rfl ?_
                    refine dc_cons (r := ⟨_, some [], []⟩) (DStep.plain rfl (fun H1 hH => by exact (by first | exact opd_pick_t rfl rfl rfl | exact opd_pick_f rfl rfl rfl | exact opd_pickt rfl rfl (by assumption) rfl | exact opd_pickf rfl rfl (by assumption) rfl | exact opd_pick rfl rfl rfl))) rfl ?_
                    refine dc_cons (r := ⟨_, some [3], []⟩) (DStep.plain rfl (fun H1 hH => by exact (by first | exact opd_field_ref rfl fo44_2 rfl ((hH _ rfl).trans rfl) rfl rfl | exact opd_field_pad rfl fo44_2 rfl rfl))) rfl ?_
                    refine dc_cons (r := ⟨_, some [3], [_]⟩) (DStep.plain rfl (fun H1 hH => by exact (by first | exact x_store_all rfl Tryz.sizeOf9 rfl rfl rfl rfl ((hH _ rfl).trans rfl) rfl rfl rfl | exact x_store1 rfl Tryz.sizeOf9 rfl rfl rfl ((hH _ rfl).trans rfl) rfl rfl (by simp only [List.length_cons, List.length_nil]; omega) (by simp only [List.drop_succ_cons, List.drop_zero, List.take_succ_cons, List.take_zero, List.take_nil, List.map_cons, List.map_nil, List.set_cons_zero, List.set_cons_succ, List.cons_append, List.nil_append, encTag, encObj, encStr, encEdit, zObj]; rfl) (by simp only [List.drop_succ_cons, List.drop_zero, List.take_succ_cons, List.take_zero, List.take_nil, List.map_cons, List.map_nil, List.set_cons_zero, List.set_cons_succ, List.cons_append, List.nil_append, encTag, encObj, encStr, encEdit, zObj]; rfl) | exact x_store1 rfl Tryz.sizeOf9 rfl rfl rfl ((hH _ rfl).trans rfl) rfl rfl (Nat.le_of_ble_eq_true rfl) rfl rfl))) rfl ?_
                    refine dc_cons (r := ⟨_, some [], []⟩) (DStep.plain rfl (fun H1 hH => by exact opd_assign rfl rfl)) rfl ?_
                    refine dc_nil ⟨by kernel_rfl, ?_⟩
                    exact ⟨rfl, ⟨_, rfl, by first | rfl | (rw [h127]; rfl) | (rw [h127, Bool.true_and])⟩, rfl, rfl, rfl⟩
                refine awp_seq ?_
                refine awp_bool (t := 2) (n := 8) (X := (gName e.id && gName e.other) && gSameE ⟨e.op, e.id, e.other, sNil, 0, 0, sNil, sNil, [], zObj⟩ e) ?_ ?_
                · all_goals (refine al_d rfl rfl rfl (by exact opd_move rfl rfl) ?_)
                  all_goals (refine al_d rfl rfl rfl (by exact opd_move rfl rfl) ?_)
                  all_goals (first | refine al_split (t := 127) rfl (fun h127 => ?_) (fun h127 => ?_) | refine al_dup (t := 127) rfl ?_ | skip)
                  all_goals (try contradiction)
                  all_goals (first | refine al_off rfl rfl rfl rfl rfl ?_ | refine al_offu rfl rfl rfl rfl ?_ | refine al_ond rfl rfl rfl rfl rfl rfl (by exact (by first | exact opd_loadn_ref rfl Tryz.isAgg44 Tryz.sizeOf44 rfl rfl rfl rfl (by simp only [List.drop_succ_cons, List.drop_zero, List.take_succ_cons, List.take_zero, List.take_nil, List.map_cons, List.map_nil, List.set_cons_zero, List.set_cons_succ, List.cons_append, List.nil_append, encTag, encObj, encStr, encEdit, zObj]; rfl) rfl | exact opd_loadn_pad rfl Tryz.isAgg44 Tryz.sizeOf44 rfl (by first | omega | assumption) (by simp only [List.drop_succ_cons, List.drop_zero, List.take_succ_cons, List.take_zero, List.take_nil, List.map_cons, List.map_nil, List.set_cons_zero, List.set_cons_succ, List.cons_append, List.nil_append, encTag, encObj, encStr, encEdit, zObj]; rfl) rfl)) ?_)
                  all_goals (first | refine al_off rfl rfl rfl rfl rfl ?_ | refine al_offu rfl rfl rfl rfl ?_ | refine al_ond rfl rfl rfl rfl rfl rfl (by exact (by first | exact opd_loadn_ref rfl Tryz.isAgg44 Tryz.sizeOf44 rfl rfl rfl rfl (by simp only [List.drop_succ_cons, List.drop_zero, List.take_succ_cons, List.take_zero, List.take_nil, List.map_cons, List.map_nil, List.set_cons_zero, List.set_cons_succ, List.cons_append, List.nil_append, encTag, encObj, encStr, encEdit, zObj]; rfl) rfl | exact opd_loadn_pad rfl Tryz.isAgg44 Tryz.sizeOf44 rfl (by first | omega | assumption) (by simp only [List.drop_succ_cons, List.drop_zero, List.take_succ_cons, List.take_zero, List.take_nil, List.map_cons, List.map_nil, List.set_cons_zero, List.set_cons_succ, List.cons_append, List.nil_append, encTag, encObj, encStr, encEdit, zObj]; rfl) rfl)) ?_)
                  all_goals (first | refine al_off rfl rfl rfl rfl rfl ?_ | refine al_offu rfl rfl rfl rfl ?_ | refine al_ond rfl rfl rfl rfl rfl rfl (by exact opr_call rfl rfl Tryz.call69 rfl (sameE_c ⟨e.op, e.id, e.other, sNil, 0, 0, sNil, sNil, [], zObj⟩ e _ (by first | exact h5 | (show 0 < _; omega)) okS_z)) ?_)
                  all_goals (refine al_d rfl rfl rfl (by exact (by first | exact opd_pick_t rfl rfl rfl | exact opd_pick_f rfl rfl rfl | exact opd_pickt rfl rfl (by assumption) rfl | exact opd_pickf rfl rfl (by assumption) rfl | exact opd_pick rfl rfl rfl)) ?_)
                  all_goals (refine al_d rfl rfl rfl (by exact opd_assign rfl rfl) ?_)
                  all_goals (refine al_nil ?_)
                  all_goals (exact ⟨⟨_, rfl, by first | rfl | (rw [h127]; rfl) | (rw [h127, Bool.true_and])⟩, rfl, rfl, rfl⟩)
                refine awp_ret ?_
                -- return
                refine aret1 (H' := []) (by first | exact .inr rfl | exact .inl rfl) rfl (rval_tmp rfl) (Fin.wk (by simp) trivial trivial) ?_
                exact ⟨by rw [hv], rfl⟩
              · have ho7 : ¬ e.op = 7 := of_decide_eq_false hc7
                refine awp_seq ?_
                refine awp_region ?_
                refine al_d rfl rfl rfl (by exact opd_assign rfl rfl) ?_
                refine al_nil ?_
                refine awp_ret ?_
                -- return
                refine aret1 (H' := []) (by first | exact .inr rfl | exact .inl rfl) rfl (rval_tmp rfl) (Fin.wk (by simp) trivial trivial) ?_
                refine ⟨?_, rfl⟩
                have : gEditV e = false := by
                  rw [gEditV, Bool.and_eq_false_iff]
                  left
                  rw [Bool.and_eq_false_iff, decide_eq_false_iff_not, decide_eq_false_iff_not]
                  omega
                rw [this]
theorem changeValid1_c (e : GEdit) (H : Heap) (he : okE e) : ACalls Tryz.prog 64 [av (encEdit e)] H (fun r H' => r = bv (!gEditV e) ∧ H' = H) := by
  refine ACalls.pure ?_ (by simp) H
  refine ACalls.body Tryz.func64 rfl Tryz.ntmps64 (Nat.le_of_ble_eq_true rfl) ?_
  refine awp_seq ?_
  refine awp_region ?_
  refine al_d rfl rfl rfl (by exact opd_box (id := 1) rfl rfl rfl rfl rfl) ?_
  refine al_d rfl rfl rfl (by exact opd_assign rfl rfl) ?_
  refine al_nil ?_
  refine awp_seq ?_
  refine awp_region ?_
  refine al_d rfl rfl rfl (by exact (by first | exact opd_loadn_ref rfl Tryz.isAgg44 Tryz.sizeOf44 rfl rfl rfl rfl (by simp only [List.drop_succ_cons, List.drop_zero, List.take_succ_cons, List.take_zero, List.take_nil, List.map_cons, List.map_nil, List.set_cons_zero, List.set_cons_succ, List.cons_append, List.nil_append, encTag, encObj, encStr, encEdit, zObj]; rfl) rfl | exact opd_loadn_pad rfl Tryz.isAgg44 Tryz.sizeOf44 rfl (by first | omega | assumption) (by simp only [List.drop_succ_cons, List.drop_zero, List.take_succ_cons, List.take_zero, List.take_nil, List.map_cons, List.map_nil, List.set_cons_zero, List.set_cons_succ, List.cons_append, List.nil_append, encTag, encObj, encStr, encEdit, zObj]; rfl) rfl)) ?_
  refine al_d rfl rfl rfl (by exact opr_call rfl rfl Tryz.call25 rfl (editValid_c e _ he)) ?_
  refine al_d rfl rfl rfl (by exact opd_not rfl rfl) ?_
  refine al_d rfl rfl rfl (by exact opd_assign rfl rfl) ?_
  refine al_nil ?_
  refine awp_ret ?_
  -- return
  refine aret1 (H' := []) (by first | exact .inr rfl | exact .inl rfl) rfl (rval_tmp rfl) (Fin.wk (by simp) trivial trivial) ?_
  exact ⟨rfl, rfl⟩
def gChange (l : List GEdit) : Bool := decide ((0 : Int) < (l.length : Int)) && decide ((l.length : Int) ≤ 200) && !(l.any (fun e => !gEditV e))
theorem changeValid_c (l : List GEdit) (H : Heap) (hl : l.length < 4611686018427387904) (he : ∀ e ∈ l, okE e) : ACalls Tryz.prog 22 [.pv (slEdits l)] H (fun r H' => r = bv (gChange l) ∧ H' = H) := by
  refine ACalls.pure ?_ (by simp) H
  have hml : (l.map encEdit).length = l.length := List.length_map _
  refine ACalls.body Tryz.func22 rfl Tryz.ntmps22 (Nat.le_of_ble_eq_true rfl) ?_
  refine awp_seq ?_
  refine awp_region ?_
  refine al_d rfl rfl rfl (by exact opd_assign rfl rfl) ?_
  refine al_nil ?_
  refine awp_seq ?_
  refine awp_bool (t := 2) (n := 16) (X := decide ((0 : Int) < ((l.map encEdit).length : Int)) && decide (((l.map encEdit).length : Int) ≤ 200) && !(l.any (fun e => !gEditV e))) ?_ ?_
  · all_goals (refine al_d rfl rfl rfl (by exact opd_move rfl rfl) ?_)
    all_goals (refine al_d rfl rfl rfl (by exact (by first | exact opd_len_sl rfl Tryz.underlying25 rfl | exact opd_len_osl rfl Tryz.underlying25 rfl rfl rfl)) ?_)
    all_goals (refine al_d rfl rfl rfl (by exact opd_gtr rfl rfl rfl) ?_)
    all_goals (refine al_d rfl rfl rfl (by exact opd_move rfl rfl) ?_)
    all_goals (first | refine al_split (t := 6) rfl (fun h6 => ?_) (fun h6 => ?_) | refine al_dup (t := 6) rfl ?_ | skip)
    all_goals (try contradiction)
    all_goals (first | refine al_off rfl rfl rfl rfl rfl ?_ | refine al_offu rfl rfl rfl rfl ?_ | refine al_ond rfl rfl rfl rfl rfl rfl (by exact opd_move rfl rfl) ?_)
    all_goals (first | refine al_off rfl rfl rfl rfl rfl ?_ | refine al_offu rfl rfl rfl rfl ?_ | refine al_ond rfl rfl rfl rfl rfl rfl (by exact (by first | exact opd_len_sl rfl Tryz.underlying25 rfl | exact opd_len_osl rfl Tryz.underlying25 rfl rfl rfl)) ?_)
    all_goals (first | refine al_off rfl rfl rfl rfl rfl ?_ | refine al_offu rfl rfl rfl rfl ?_ | refine al_ond rfl rfl rfl rfl rfl rfl (by exact opd_leq rfl rfl rfl) ?_)
    all_goals (refine al_d rfl rfl rfl (by exact (by first | exact opd_pick_t rfl rfl rfl | exact opd_pick_f rfl rfl rfl | exact opd_pickt rfl rfl (by assumption) rfl | exact opd_pickf rfl rfl (by assumption) rfl | exact opd_pick rfl rfl rfl)) ?_)
    all_goals (refine al_d rfl rfl rfl (by exact opd_move rfl rfl) ?_)
    all_goals (first | refine al_split (t := 11) rfl (fun h11 => ?_) (fun h11 => ?_) | refine al_dup (t := 11) rfl ?_ | skip)
    all_goals (try contradiction)
    all_goals (first | refine al_off rfl rfl rfl rfl rfl ?_ | refine al_offu rfl rfl rfl rfl ?_ | refine al_ond rfl rfl rfl rfl rfl rfl (by exact opd_move rfl rfl) ?_)
    all_goals (first | refine al_off rfl rfl rfl rfl rfl ?_ | refine al_offu rfl rfl rfl rfl ?_ | refine al_ond rfl rfl rfl rfl rfl rfl (by exact opr_call rfl rfl Tryz.call58 rfl (containsFunc_GEdit (.pv (.fn 64)) l (fun e => !gEditV e) _ hl (fun e h => CallsV.fn Tryz.call64 (changeValid1_c e _ (he e h))))) ?_)
    all_goals (first | refine al_off rfl rfl rfl rfl rfl ?_ | refine al_offu rfl rfl rfl rfl ?_ | refine al_ond rfl rfl rfl rfl rfl rfl (by exact opd_not rfl rfl) ?_)
    all_goals (refine al_d rfl rfl rfl (by exact (by first | exact opd_pick_t rfl rfl rfl | exact opd_pick_f rfl rfl rfl | exact opd_pickt rfl rfl (by assumption) rfl | exact opd_pickf rfl rfl (by assumption) rfl | exact opd_pick rfl rfl rfl)) ?_)
    all_goals (refine al_d rfl rfl rfl (by exact opd_assign rfl rfl) ?_)
    all_goals (refine al_nil ?_)
    all_goals (exact ⟨⟨_, rfl, by first | rfl | (simp only [*, Bool.false_and, Bool.true_and, Bool.and_false, Bool.and_true, Bool.true_or, Bool.false_or, Bool.or_true, Bool.or_false, Bool.not_true, Bool.not_false]; done) | (simp_all; done) | (simp_all; omega)⟩, rfl, rfl, rfl⟩)
  refine awp_ret ?_
  -- return
  refine aret1 (H' := []) (by first | exact .inr rfl | exact .inl rfl) rfl (rval_tmp rfl) (Fin.wk (by simp) trivial trivial) ?_
  exact ⟨by rw [gChange, hml], rfl⟩
end Go.Proofs.YtdgoodjhndeojaaGreat
end
