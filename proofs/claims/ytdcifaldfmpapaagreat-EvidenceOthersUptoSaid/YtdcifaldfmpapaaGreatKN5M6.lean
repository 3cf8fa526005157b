/-
  CONTRACTS: edit.Valid, change.Valid. Conditions: lengths below 2^62.
  CONTRACTS: atlas.Find, distances, package evidence's kinds. Conditions: lengths below 2^62.
  CONTRACTS: package evidence's kinds: what shows, what fits. Conditions: lengths below 2^62.
  CONTRACTS: package evidence's kinds, the others; the list of kinds. Conditions: lengths below 2^62.
-/
import Derived.Test.YtdcifaldfmpapaaGreatKN5M5
section
set_option linter.unusedVariables false
set_option linter.unusedSimpArgs false
set_option maxRecDepth 100000
namespace Go.Proofs.YtdcifaldfmpapaaGreat
open Go.Abs
/-- The fields that an edit's operation uses, all others zero. -/
def xOf (e : GEdit) : GEdit :=
  if e.op = 1 then ⟨e.op, sNil, sNil, sNil, 0, 0, sNil, sNil, [], e.obj⟩
  else if e.op = 2 then ⟨e.op, e.id, sNil, sNil, e.x, e.y, sNil, sNil, [], zObj⟩
  else if e.op = 3 then ⟨e.op, e.id, sNil, sNil, 0, 0, e.key, e.val, [], zObj⟩
  else if e.op = 4 then ⟨e.op, e.id, sNil, sNil, 0, 0, sNil, sNil, e.refs, zObj⟩
  else if e.op = 5 then ⟨e.op, e.id, sNil, sNil, 0, 0, sNil, sNil, [], zObj⟩
  else if e.op = 6 then ⟨e.op, e.id, e.other, e.node, 0, 0, sNil, sNil, [], zObj⟩
  else ⟨e.op, e.id, e.other, sNil, 0, 0, sNil, sNil, [], zObj⟩
def okOf (e : GEdit) : Bool :=
  if e.op = 1 then gObj e.obj
  else gName e.id && (if e.op = 2 then onP e.x e.y else if e.op = 3 then gName e.key && decide ((e.val.size : Int) ≤ 200)
    else if e.op = 4 then decide ((0 : Int) < (e.refs.length : Int)) && decide ((e.refs.length : Int) ≤ 2000) && e.refs.all gName
    else if e.op = 5 then true else if e.op = 6 then gName e.node && gName e.other else gName e.other)
def gEditV (e : GEdit) : Bool := (decide (1 ≤ e.op) && decide (e.op ≤ 7)) && (okOf e && gSameE (xOf e) e)
def okE (e : GEdit) : Prop := (e.id.size < 4611686018427387904 ∧ e.other.size < 4611686018427387904 ∧ e.node.size < 4611686018427387904 ∧ e.key.size < 4611686018427387904) ∧ (e.refs.length < 4611686018427387904 ∧ ∀ s ∈ e.refs, s.size < 4611686018427387904) ∧ okO e.obj
theorem okS_of {o : GObj} (h : okO o) : okS o := ⟨h.2.2.1, h.2.1.1⟩
theorem okS_z : okS zObj := ⟨by decide, by decide⟩
theorem n1_c (s : ByteArray) (H : Heap) (hs : s.size < 4611686018427387904) : ACalls Tryz.prog 43 [.pv (slStrs [s])] H (fun r H' => r = bv (gName s) ∧ H' = H) := by
  have h := names_c [s] H (by show 1 < _; omega) (by simpa using hs)
  simpa using h
theorem n2_c (s t : ByteArray) (H : Heap) (hs : s.size < 4611686018427387904) (ht : t.size < 4611686018427387904) : ACalls Tryz.prog 43 [.pv (slStrs [s, t])] H (fun r H' => r = bv (gName s && gName t) ∧ H' = H) := by
  have h := names_c [s, t] H (by show 2 < _; omega) (by simpa using ⟨hs, ht⟩)
  simpa using h
theorem editValid_c (e : GEdit) (H : Heap) (he : okE e) : ACalls Tryz.prog 14 [av (encEdit e)] H (fun r H' => r = bv (gEditV e) ∧ H' = H) := by
  refine ACalls.pure ?_ (by simp) H
  obtain ⟨⟨h1, h2, h3, h4⟩, ⟨h5, h6⟩, h7⟩ := he
  have hrl : (e.refs.map encStr).length = e.refs.length := List.length_map _
  refine ACalls.body Tryz.func14 rfl Tryz.ntmps14 (Nat.le_of_ble_eq_true rfl) ?_
  refine awp_seq ?_
  refine awp_region ?_
  refine al_d rfl rfl rfl (by exact opd_box (id := 1) rfl rfl rfl rfl rfl) ?_
  refine al_d rfl rfl rfl (by exact opd_assign rfl rfl) ?_
  refine al_nil ?_
  refine awp_seq ?_
  refine awp_region ?_
  refine al_d rfl rfl rfl (by exact (by exact opd_field_ref rfl fo32_0 rfl rfl rfl rfl)) ?_
  refine al_d rfl rfl rfl (by exact (by exact opd_load1_ref rfl Tryz.isAgg3 rfl rfl rfl rfl rfl)) ?_
  refine al_d rfl rfl rfl (by exact (by exact opd_field_ref rfl fo32_1 rfl rfl rfl rfl)) ?_
  refine al_d rfl rfl rfl (by exact (by exact opd_load1_ref rfl Tryz.isAgg9 rfl rfl rfl rfl rfl)) ?_
  refine al_d rfl rfl rfl (by exact x_build rfl bo32 rfl rfl) ?_
  refine al_d rfl rfl rfl (by exact x_alloc (id := 3) rfl zo32 rfl rfl) ?_
  refine al_n rfl rfl (by exact (by exact x_store_all rfl Tryz.sizeOf32 rfl rfl rfl rfl rfl rfl rfl rfl)) ?_
  refine al_nil ?_
  refine awp_seq ?_
  refine awp_region ?_
  refine al_d rfl rfl rfl (by exact (by exact opd_field_ref rfl fo32_1 rfl rfl rfl rfl)) ?_
  refine al_d rfl rfl rfl (by exact (by exact opd_load1_ref rfl Tryz.isAgg9 rfl rfl rfl rfl rfl)) ?_
  refine al_d rfl rfl rfl (by exact (by exact x_buildSlice ([e.id].map encStr) rfl so27 rfl rfl rfl rfl rfl (by simp [encStr]))) ?_
  refine al_d rfl rfl rfl (by exact opr_call rfl rfl Tryz.call43 rfl (n1_c e.id _ h1)) ?_
  refine al_d rfl rfl rfl (by exact opd_assign rfl rfl) ?_
  refine al_nil ?_
  refine awp_seq ?_
  refine awp_seq ?_
  refine awp_region ?_
  refine al_d rfl rfl rfl (by exact (by exact opd_field_ref rfl fo32_0 rfl rfl rfl rfl)) ?_
  refine al_d rfl rfl rfl (by exact (by exact opd_load1_ref rfl Tryz.isAgg3 rfl rfl rfl rfl rfl)) ?_
  refine al_nil ?_
  refine awp_block ?_
  refine awp_seq ?_
  refine awp_region ?_
  refine al_d rfl rfl rfl (by exact opd_eql rfl rfl rfl) ?_
  refine al_d rfl rfl rfl (by exact opd_assign rfl rfl) ?_
  refine al_nil ?_
  refine awp_cond rfl (fun hc1 => ?_) (fun hc1 => ?_)
  -- cond 1
  · have ho : e.op = 1 := of_decide_eq_true hc1
    have hx : xOf e = ⟨e.op, sNil, sNil, sNil, 0, 0, sNil, sNil, [], e.obj⟩ := by rw [xOf, if_pos ho]
    have hk : okOf e = gObj e.obj := by rw [okOf, if_pos ho]
    have hv : gEditV e = (gObj e.obj && gSameE ⟨e.op, sNil, sNil, sNil, 0, 0, sNil, sNil, [], e.obj⟩ e) := by rw [gEditV, hx, hk, ho]; rfl
    refine awp_drawc follows ?_
    refine dc_cons (r := ⟨_, some [1], []⟩) (DStep.plain rfl (fun H1 hH => by exact (by exact opd_field_ref rfl fo32_8 rfl ((hH _ rfl).trans rfl) rfl rfl))) rfl ?_
    refine dc_cons (r := ⟨_, some [1], []⟩) (DStep.plain rfl (fun H1 hH => by exact (by exact opd_loadn_ref rfl Tryz.isAgg30 Tryz.sizeOf30 rfl ((hH _ rfl).trans rfl) rfl rfl (by simp only [List.drop_succ_cons, List.drop_zero, List.take_succ_cons, List.take_zero, List.take_nil, List.map_cons, List.map_nil, List.set_cons_zero, List.set_cons_succ, List.cons_append, List.nil_append, encTag, encObj, encStr, encEdit, zObj]; rfl) rfl))) rfl ?_
    refine dc_cons (r := ⟨_, some [1], []⟩) (DStep.plain rfl (fun H1 hH => by exact (by exact opd_field_ref rfl fo32_8 rfl ((hH _ rfl).trans rfl) rfl rfl))) rfl ?_
    refine dc_cons (r := ⟨_, some [1], []⟩) (DStep.plain rfl (fun H1 hH => by exact (by exact opd_loadn_ref rfl Tryz.isAgg30 Tryz.sizeOf30 rfl ((hH _ rfl).trans rfl) rfl rfl (by simp only [List.drop_succ_cons, List.drop_zero, List.take_succ_cons, List.take_zero, List.take_nil, List.map_cons, List.map_nil, List.set_cons_zero, List.set_cons_succ, List.cons_append, List.nil_append, encTag, encObj, encStr, encEdit, zObj]; rfl) rfl))) rfl ?_
    refine dc_cons (r := ⟨_, some [], []⟩) (DStep.plain rfl (fun H1 hH => by exact opr_call rfl rfl Tryz.call44 rfl (objValid_c e.obj _ h7))) rfl ?_
    refine dc_cons (r := ⟨_, some [3], []⟩) (DStep.plain rfl (fun H1 hH => by exact (by exact opd_field_ref rfl fo32_1 rfl ((hH _ rfl).trans rfl) rfl rfl))) rfl ?_
    refine dc_cons (r := ⟨_, some [3], [_]⟩) (DStep.plain rfl (fun H1 hH => by exact (by exact x_store1 rfl Tryz.sizeOf9 rfl rfl rfl ((hH _ rfl).trans rfl) rfl rfl (Nat.le_of_ble_eq_true rfl) rfl rfl))) rfl ?_
    refine dc_cons (r := ⟨_, some [3], []⟩) (DStep.plain rfl (fun H1 hH => by exact (by exact opd_field_ref rfl fo32_8 rfl ((hH _ rfl).trans rfl) rfl rfl))) rfl ?_
    refine dc_cons (r := ⟨_, some [3], [_]⟩) (DStep.plain rfl (fun H1 hH => by exact (by exact x_store rfl Tryz.sizeOf30 rfl rfl rfl rfl ((hH _ rfl).trans rfl) rfl rfl (Nat.le_of_ble_eq_true rfl) rfl rfl))) rfl ?_
    refine dc_cons (r := ⟨_, some [], []⟩) (DStep.plain rfl (fun H1 hH => by exact opd_assign rfl rfl)) rfl ?_
    refine dc_nil ⟨by kernel_rfl, ?_⟩
    refine awp_seq ?_
    refine awp_bool (t := 2) (n := 8) (X := gObj e.obj && gSameE ⟨e.op, sNil, sNil, sNil, 0, 0, sNil, sNil, [], e.obj⟩ e) ?_ ?_
    · all_goals (refine al_d rfl rfl rfl (by exact opd_move rfl rfl) ?_)
      all_goals (refine al_d rfl rfl rfl (by exact opd_move rfl rfl) ?_)
      all_goals (refine al_split (t := 127) rfl (fun h127 => ?_) (fun h127 => ?_))
      all_goals (try contradiction)
      all_goals (first | refine al_off rfl rfl rfl rfl rfl ?_ | refine al_ond rfl rfl rfl rfl rfl rfl (by exact (by exact opd_loadn_ref rfl Tryz.isAgg32 Tryz.sizeOf32 rfl rfl rfl rfl (by simp only [List.drop_succ_cons, List.drop_zero, List.take_succ_cons, List.take_zero, List.take_nil, List.map_cons, List.map_nil, List.set_cons_zero, List.set_cons_succ, List.cons_append, List.nil_append, encTag, encObj, encStr, encEdit, zObj]; rfl) rfl)) ?_)
      all_goals (first | refine al_off rfl rfl rfl rfl rfl ?_ | refine al_ond rfl rfl rfl rfl rfl rfl (by exact (by exact opd_loadn_ref rfl Tryz.isAgg32 Tryz.sizeOf32 rfl rfl rfl rfl (by simp only [List.drop_succ_cons, List.drop_zero, List.take_succ_cons, List.take_zero, List.take_nil, List.map_cons, List.map_nil, List.set_cons_zero, List.set_cons_succ, List.cons_append, List.nil_append, encTag, encObj, encStr, encEdit, zObj]; rfl) rfl)) ?_)
      all_goals (first | refine al_off rfl rfl rfl rfl rfl ?_ | refine al_ond rfl rfl rfl rfl rfl rfl (by exact opr_call rfl rfl Tryz.call45 rfl (sameE_c ⟨e.op, sNil, sNil, sNil, 0, 0, sNil, sNil, [], e.obj⟩ e _ (by show 0 < _; omega) (okS_of h7))) ?_)
      all_goals (refine al_d rfl rfl rfl (by exact (by first | exact opd_pick_t rfl rfl rfl | exact opd_pick_f rfl rfl rfl)) ?_)
      all_goals (refine al_d rfl rfl rfl (by exact opd_assign rfl rfl) ?_)
      all_goals (refine al_nil ?_)
      all_goals (exact ⟨⟨_, rfl, by (simp_all [gObj]; done)⟩, rfl, rfl, rfl⟩)
    refine awp_ret ?_
    -- return
    refine aret1 (H' := []) (by exact .inr rfl) rfl (rval_tmp rfl) (Fin.wk (by simp) trivial trivial) ?_
    exact ⟨by rw [hv], rfl⟩
  · have ho1 : ¬ e.op = 1 := of_decide_eq_false hc1
    refine awp_seq ?_
    refine awp_region ?_
    refine al_d rfl rfl rfl (by exact opd_eql rfl rfl rfl) ?_
    refine al_d rfl rfl rfl (by exact opd_assign rfl rfl) ?_
    refine al_nil ?_
    refine awp_cond rfl (fun hc2 => ?_) (fun hc2 => ?_)
    -- cond 2
    · have ho : e.op = 2 := of_decide_eq_true hc2
      have hx : xOf e = ⟨e.op, e.id, sNil, sNil, e.x, e.y, sNil, sNil, [], zObj⟩ := by rw [xOf, if_neg ho1, if_pos ho]
      have hk : okOf e = (gName e.id && onP e.x e.y) := by rw [okOf, if_neg ho1, if_pos ho]
      have hb : (gName e.id && decide (0 ≤ min e.x e.y) && decide (max e.x e.y < 1048576)) = (gName e.id && onP e.x e.y) := by rw [onP, Bool.and_assoc]
      have hv : gEditV e = ((gName e.id && decide (0 ≤ min e.x e.y) && decide (max e.x e.y < 1048576)) && gSameE ⟨e.op, e.id, sNil, sNil, e.x, e.y, sNil, sNil, [], zObj⟩ e) := by rw [gEditV, hx, hk, hb, ho]; rfl
      apply awp_mergeW (t := 4) (n := 25) (X := gName e.id && decide (0 ≤ min e.x e.y) && decide (max e.x e.y < 1048576))
      · cases hg30 : (gName e.id : Bool)
        · refine awp_drawc follows ?_
          refine dc_cons (r := ⟨_, some [1], []⟩) (DStep.plain rfl (fun H1 hH => by exact (by exact opd_field_ref rfl fo32_4 rfl ((hH _ rfl).trans rfl) rfl rfl))) rfl ?_
          refine dc_cons (r := ⟨_, some [1], []⟩) (DStep.plain rfl (fun H1 hH => by exact (by exact opd_loadn_ref rfl Tryz.isAgg26 Tryz.sizeOf26 rfl ((hH _ rfl).trans rfl) rfl rfl (by simp only [List.drop_succ_cons, List.drop_zero, List.take_succ_cons, List.take_zero, List.take_nil, List.map_cons, List.map_nil, List.set_cons_zero, List.set_cons_succ, List.cons_append, List.nil_append, encTag, encObj, encStr, encEdit, zObj]; rfl) rfl))) rfl ?_
          refine dc_cons (r := ⟨_, some [], []⟩) (DStep.plain rfl (fun H1 hH => by exact opd_move rfl rfl)) rfl ?_
          refine dc_cons (r := ⟨_, some [], []⟩) (DStep.plain rfl (fun H1 hH => by exact opd_move rfl rfl)) rfl ?_
          refine dc_cons (q_off_t rfl rfl rfl (by rfl)) rfl ?_
          refine dc_cons (q_off_t rfl rfl rfl (by rfl)) rfl ?_
          refine dc_cons (q_off_t rfl rfl rfl (by rfl)) rfl ?_
          refine dc_cons (q_off_t rfl rfl rfl (by rfl)) rfl ?_
          refine dc_cons (q_off_t rfl rfl rfl (by rfl)) rfl ?_
          refine dc_cons (q_off_t rfl rfl rfl (by rfl)) rfl ?_
          refine dc_cons (q_off_t rfl rfl rfl (by rfl)) rfl ?_
          refine dc_cons (q_off_t rfl rfl rfl (by rfl)) rfl ?_
          refine dc_cons (r := ⟨_, some [], []⟩) (DStep.plain rfl (fun H1 hH => by exact (by exact opd_pick_f rfl rfl rfl))) rfl ?_
          refine dc_cons (r := ⟨_, some [], []⟩) (DStep.plain rfl (fun H1 hH => by exact opd_move rfl rfl)) rfl ?_
          refine dc_cons (q_off_t rfl rfl rfl (by rfl)) rfl ?_
          refine dc_cons (q_off_t rfl rfl rfl (by rfl)) rfl ?_
          refine dc_cons (q_off_t rfl rfl rfl (by rfl)) rfl ?_
          refine dc_cons (q_off_t rfl rfl rfl (by rfl)) rfl ?_
          refine dc_cons (q_off_t rfl rfl rfl (by rfl)) rfl ?_
          refine dc_cons (q_off_t rfl rfl rfl (by rfl)) rfl ?_
          refine dc_cons (q_off_t rfl rfl rfl (by rfl)) rfl ?_
          refine dc_cons (q_off_t rfl rfl rfl (by rfl)) rfl ?_
          refine dc_cons (r := ⟨_, some [], []⟩) (DStep.plain rfl (fun H1 hH => by exact (by exact opd_pick_f rfl rfl rfl))) rfl ?_
          refine dc_cons (r := ⟨_, some [3], []⟩) (DStep.plain rfl (fun H1 hH => by exact (by exact opd_field_ref rfl fo32_4 rfl ((hH _ rfl).trans rfl) rfl rfl))) rfl ?_
          refine dc_cons (r := ⟨_, some [3], [_]⟩) (DStep.plain rfl (fun H1 hH => by exact (by exact x_store rfl Tryz.sizeOf26 rfl rfl rfl rfl ((hH _ rfl).trans rfl) rfl rfl (Nat.le_of_ble_eq_true rfl) rfl rfl))) rfl ?_
          refine dc_cons (r := ⟨_, some [], []⟩) (DStep.plain rfl (fun H1 hH => by exact opd_assign rfl rfl)) rfl ?_
          refine dc_nil ⟨by kernel_rfl, ?_⟩
          exact ⟨rfl, ⟨_, rfl, by rfl⟩, rfl, rfl, rfl⟩
        · cases hg40 : (decide (0 ≤ min e.x e.y) : Bool)
          · refine awp_drawc follows ?_
            refine dc_cons (r := ⟨_, some [1], []⟩) (DStep.plain rfl (fun H1 hH => by exact (by exact opd_field_ref rfl fo32_4 rfl ((hH _ rfl).trans rfl) rfl rfl))) rfl ?_
            refine dc_cons (r := ⟨_, some [1], []⟩) (DStep.plain rfl (fun H1 hH => by exact (by exact opd_loadn_ref rfl Tryz.isAgg26 Tryz.sizeOf26 rfl ((hH _ rfl).trans rfl) rfl rfl (by simp only [List.drop_succ_cons, List.drop_zero, List.take_succ_cons, List.take_zero, List.take_nil, List.map_cons, List.map_nil, List.set_cons_zero, List.set_cons_succ, List.cons_append, List.nil_append, encTag, encObj, encStr, encEdit, zObj]; rfl) rfl))) rfl ?_
            refine dc_cons (r := ⟨_, some [], []⟩) (DStep.plain rfl (fun H1 hH => by exact opd_move rfl rfl)) rfl ?_
            refine dc_cons (r := ⟨_, some [], []⟩) (DStep.plain rfl (fun H1 hH => by exact opd_move rfl rfl)) rfl ?_
            refine dc_cons (r := ⟨_, some [1], []⟩) (l_on_t rfl rfl rfl (by rfl) (fun H1 hH => by exact (by exact opd_field_ref rfl fo32_4 rfl ((hH _ rfl).trans rfl) rfl rfl))) rfl ?_
            refine dc_cons (r := ⟨_, some [1], []⟩) (l_on_t rfl rfl rfl (by rfl) (fun H1 hH => by exact (by exact opd_field_ref rfl fo26_0 rfl ((hH _ rfl).trans rfl) rfl rfl))) rfl ?_
            refine dc_cons (r := ⟨_, some [1], []⟩) (l_on_t rfl rfl rfl (by rfl) (fun H1 hH => by exact (by exact opd_load1_ref rfl Tryz.isAgg3 rfl ((hH _ rfl).trans rfl) rfl rfl rfl))) rfl ?_
            refine dc_cons (r := ⟨_, some [1], []⟩) (l_on_t rfl rfl rfl (by rfl) (fun H1 hH => by exact (by exact opd_field_ref rfl fo32_4 rfl ((hH _ rfl).trans rfl) rfl rfl))) rfl ?_
            refine dc_cons (r := ⟨_, some [1], []⟩) (l_on_t rfl rfl rfl (by rfl) (fun H1 hH => by exact (by exact opd_field_ref rfl fo26_1 rfl ((hH _ rfl).trans rfl) rfl rfl))) rfl ?_
            refine dc_cons (r := ⟨_, some [1], []⟩) (l_on_t rfl rfl rfl (by rfl) (fun H1 hH => by exact (by exact opd_load1_ref rfl Tryz.isAgg3 rfl ((hH _ rfl).trans rfl) rfl rfl rfl))) rfl ?_
            refine dc_cons (r := ⟨_, some [], []⟩) (l_on_t rfl rfl rfl (by rfl) (fun H1 hH => by exact opd_min rfl rfl rfl rfl)) rfl ?_
            refine dc_cons (r := ⟨_, some [], []⟩) (l_on_t rfl rfl rfl (by rfl) (fun H1 hH => by exact opd_geq rfl rfl rfl)) rfl ?_
            refine dc_cons (r := ⟨_, some [], []⟩) (DStep.plain rfl (fun H1 hH => by exact (by exact opd_pick_t rfl rfl rfl))) rfl ?_
            refine dc_cons (r := ⟨_, some [], []⟩) (DStep.plain rfl (fun H1 hH => by exact opd_move rfl rfl)) rfl ?_
            refine dc_cons (q_off_t rfl rfl rfl (by assumption)) rfl ?_
            refine dc_cons (q_off_t rfl rfl rfl (by assumption)) rfl ?_
            refine dc_cons (q_off_t rfl rfl rfl (by assumption)) rfl ?_
            refine dc_cons (q_off_t rfl rfl rfl (by assumption)) rfl ?_
            refine dc_cons (q_off_t rfl rfl rfl (by assumption)) rfl ?_
            refine dc_cons (q_off_t rfl rfl rfl (by assumption)) rfl ?_
            refine dc_cons (q_off_t rfl rfl rfl (by assumption)) rfl ?_
            refine dc_cons (q_off_t rfl rfl rfl (by assumption)) rfl ?_
            refine dc_cons (r := ⟨_, some [], []⟩) (DStep.plain rfl (fun H1 hH => by exact (by exact opd_pickf rfl rfl (by assumption) rfl))) rfl ?_
            refine dc_cons (r := ⟨_, some [3], []⟩) (DStep.plain rfl (fun H1 hH => by exact (by exact opd_field_ref rfl fo32_4 rfl ((hH _ rfl).trans rfl) rfl rfl))) rfl ?_
            refine dc_cons (r := ⟨_, some [3], [_]⟩) (DStep.plain rfl (fun H1 hH => by exact (by exact x_store rfl Tryz.sizeOf26 rfl rfl rfl rfl ((hH _ rfl).trans rfl) rfl rfl (Nat.le_of_ble_eq_true rfl) rfl rfl))) rfl ?_
            refine dc_cons (r := ⟨_, some [], []⟩) (DStep.plain rfl (fun H1 hH => by exact opd_assign rfl rfl)) rfl ?_
            refine dc_nil ⟨by kernel_rfl, ?_⟩
            exact ⟨rfl, ⟨_, rfl, by rfl⟩, rfl, rfl, rfl⟩
          · refine awp_drawc follows ?_
            refine dc_cons (r := ⟨_, some [1], []⟩) (DStep.plain rfl (fun H1 hH => by exact (by exact opd_field_ref rfl fo32_4 rfl ((hH _ rfl).trans rfl) rfl rfl))) rfl ?_
            refine dc_cons (r := ⟨_, some [1], []⟩) (DStep.plain rfl (fun H1 hH => by exact (by exact opd_loadn_ref rfl Tryz.isAgg26 Tryz.sizeOf26 rfl ((hH _ rfl).trans rfl) rfl rfl (by simp only [List.drop_succ_cons, List.drop_zero, List.take_succ_cons, List.take_zero, List.take_nil, List.map_cons, List.map_nil, List.set_cons_zero, List.set_cons_succ, List.cons_append, List.nil_append, encTag, encObj, encStr, encEdit, zObj]; rfl) rfl))) rfl ?_
            refine dc_cons (r := ⟨_, some [], []⟩) (DStep.plain rfl (fun H1 hH => by exact opd_move rfl rfl)) rfl ?_
            refine dc_cons (r := ⟨_, some [], []⟩) (DStep.plain rfl (fun H1 hH => by exact opd_move rfl rfl)) rfl ?_
            refine dc_cons (r := ⟨_, some [1], []⟩) (l_on_t rfl rfl rfl (by rfl) (fun H1 hH => by exact (by exact opd_field_ref rfl fo32_4 rfl ((hH _ rfl).trans rfl) rfl rfl))) rfl ?_
            refine dc_cons (r := ⟨_, some [1], []⟩) (l_on_t rfl rfl rfl (by rfl) (fun H1 hH => by exact (by exact opd_field_ref rfl fo26_0 rfl ((hH _ rfl).trans rfl) rfl rfl))) rfl ?_
            refine dc_cons (r := ⟨_, some [1], []⟩) (l_on_t rfl rfl rfl (by rfl) (fun H1 hH => by exact (by exact opd_load1_ref rfl Tryz.isAgg3 rfl ((hH _ rfl).trans rfl) rfl rfl rfl))) rfl ?_
            refine dc_cons (r := ⟨_, some [1], []⟩) (l_on_t rfl rfl rfl (by rfl) (fun H1 hH => by exact (by exact opd_field_ref rfl fo32_4 rfl ((hH _ rfl).trans rfl) rfl rfl))) rfl ?_
            refine dc_cons (r := ⟨_, some [1], []⟩) (l_on_t rfl rfl rfl (by rfl) (fun H1 hH => by exact (by exact opd_field_ref rfl fo26_1 rfl ((hH _ rfl).trans rfl) rfl rfl))) rfl ?_
            refine dc_cons (r := ⟨_, some [1], []⟩) (l_on_t rfl rfl rfl (by rfl) (fun H1 hH => by exact (by exact opd_load1_ref rfl Tryz.isAgg3 rfl ((hH _ rfl).trans rfl) rfl rfl rfl))) rfl ?_
            refine dc_cons (r := ⟨_, some [], []⟩) (l_on_t rfl rfl rfl (by rfl) (fun H1 hH => by exact opd_min rfl rfl rfl rfl)) rfl ?_
            refine dc_cons (r := ⟨_, some [], []⟩) (l_on_t rfl rfl rfl (by rfl) (fun H1 hH => by exact opd_geq rfl rfl rfl)) rfl ?_
            refine dc_cons (r := ⟨_, some [], []⟩) (DStep.plain rfl (fun H1 hH => by exact (by exact opd_pick_t rfl rfl rfl))) rfl ?_
            refine dc_cons (r := ⟨_, some [], []⟩) (DStep.plain rfl (fun H1 hH => by exact opd_move rfl rfl)) rfl ?_
            refine dc_cons (r := ⟨_, some [1], []⟩) (l_on_t rfl rfl rfl (by assumption) (fun H1 hH => by exact (by exact opd_field_ref rfl fo32_4 rfl ((hH _ rfl).trans rfl) rfl rfl))) rfl ?_
            refine dc_cons (r := ⟨_, some [1], []⟩) (l_on_t rfl rfl rfl (by assumption) (fun H1 hH => by exact (by exact opd_field_ref rfl fo26_0 rfl ((hH _ rfl).trans rfl) rfl rfl))) rfl ?_
            refine dc_cons (r := ⟨_, some [1], []⟩) (l_on_t rfl rfl rfl (by assumption) (fun H1 hH => by exact (by exact opd_load1_ref rfl Tryz.isAgg3 rfl ((hH _ rfl).trans rfl) rfl rfl rfl))) rfl ?_
            refine dc_cons (r := ⟨_, some [1], []⟩) (l_on_t rfl rfl rfl (by assumption) (fun H1 hH => by exact (by exact opd_field_ref rfl fo32_4 rfl ((hH _ rfl).trans rfl) rfl rfl))) rfl ?_
            refine dc_cons (r := ⟨_, some [1], []⟩) (l_on_t rfl rfl rfl (by assumption) (fun H1 hH => by exact (by exact opd_field_ref rfl fo26_1 rfl ((hH _ rfl).trans rfl) rfl rfl))) rfl ?_
            refine dc_cons (r := ⟨_, some [1], []⟩) (l_on_t rfl rfl rfl (by assumption) (fun H1 hH => by exact (by exact opd_load1_ref rfl Tryz.isAgg3 rfl ((hH _ rfl).trans rfl) rfl rfl rfl))) rfl ?_
            refine dc_cons (r := ⟨_, some [], []⟩) (l_on_t rfl rfl rfl (by assumption) (fun H1 hH => by exact opd_max rfl rfl rfl rfl)) rfl ?_
            refine dc_cons (r := ⟨_, some [], []⟩) (l_on_t rfl rfl rfl (by assumption) (fun H1 hH => by exact opd_lss rfl rfl rfl)) rfl ?_
            refine dc_cons (r := ⟨_, some [], []⟩) (DStep.plain rfl (fun H1 hH => by exact (by exact opd_pickt rfl rfl (by assumption) rfl))) rfl ?_
            refine dc_cons (r := ⟨_, some [3], []⟩) (DStep.plain rfl (fun H1 hH => by exact (by exact opd_field_ref rfl fo32_4 rfl ((hH _ rfl).trans rfl) rfl rfl))) rfl ?_
            refine dc_cons (r := ⟨_, some [3], [_]⟩) (DStep.plain rfl (fun H1 hH => by exact (by exact x_store rfl Tryz.sizeOf26 rfl rfl rfl rfl ((hH _ rfl).trans rfl) rfl rfl (Nat.le_of_ble_eq_true rfl) rfl rfl))) rfl ?_
            refine dc_cons (r := ⟨_, some [], []⟩) (DStep.plain rfl (fun H1 hH => by exact opd_assign rfl rfl)) rfl ?_
            refine dc_nil ⟨by kernel_rfl, ?_⟩
            exact ⟨rfl, ⟨_, rfl, by rfl⟩, rfl, rfl, rfl⟩
      refine awp_seq ?_
      refine awp_bool (t := 2) (n := 8) (X := (gName e.id && decide (0 ≤ min e.x e.y) && decide (max e.x e.y < 1048576)) && gSameE ⟨e.op, e.id, sNil, sNil, e.x, e.y, sNil, sNil, [], zObj⟩ e) ?_ ?_
      · all_goals (refine al_d rfl rfl rfl (by exact opd_move rfl rfl) ?_)
        all_goals (refine al_d rfl rfl rfl (by exact opd_move rfl rfl) ?_)
        all_goals (refine al_split (t := 127) rfl (fun h127 => ?_) (fun h127 => ?_))
        all_goals (try contradiction)
        all_goals (first | refine al_off rfl rfl rfl rfl rfl ?_ | refine al_ond rfl rfl rfl rfl rfl rfl (by exact (by exact opd_loadn_ref rfl Tryz.isAgg32 Tryz.sizeOf32 rfl rfl rfl rfl (by simp only [List.drop_succ_cons, List.drop_zero, List.take_succ_cons, List.take_zero, List.take_nil, List.map_cons, List.map_nil, List.set_cons_zero, List.set_cons_succ, List.cons_append, List.nil_append, encTag, encObj, encStr, encEdit, zObj]; rfl) rfl)) ?_)
        all_goals (first | refine al_off rfl rfl rfl rfl rfl ?_ | refine al_ond rfl rfl rfl rfl rfl rfl (by exact (by exact opd_loadn_ref rfl Tryz.isAgg32 Tryz.sizeOf32 rfl rfl rfl rfl (by simp only [List.drop_succ_cons, List.drop_zero, List.take_succ_cons, List.take_zero, List.take_nil, List.map_cons, List.map_nil, List.set_cons_zero, List.set_cons_succ, List.cons_append, List.nil_append, encTag, encObj, encStr, encEdit, zObj]; rfl) rfl)) ?_)
        all_goals (first | refine al_off rfl rfl rfl rfl rfl ?_ | refine al_ond rfl rfl rfl rfl rfl rfl (by exact opr_call rfl rfl Tryz.call45 rfl (sameE_c ⟨e.op, e.id, sNil, sNil, e.x, e.y, sNil, sNil, [], zObj⟩ e _ (by (show 0 < _; omega)) okS_z)) ?_)
        all_goals (refine al_d rfl rfl rfl (by exact (by first | exact opd_pick_t rfl rfl rfl | exact opd_pick_f rfl rfl rfl)) ?_)
        all_goals (refine al_d rfl rfl rfl (by exact opd_assign rfl rfl) ?_)
        all_goals (refine al_nil ?_)
        all_goals (exact ⟨⟨_, rfl, by (rw [h127]; rfl)⟩, rfl, rfl, rfl⟩)
      refine awp_ret ?_
      -- return
      refine aret1 (H' := []) (by exact .inr rfl) rfl (rval_tmp rfl) (Fin.wk (by simp) trivial trivial) ?_
      exact ⟨by rw [hv], rfl⟩
    · have ho2 : ¬ e.op = 2 := of_decide_eq_false hc2
      refine awp_seq ?_
      refine awp_region ?_
      refine al_d rfl rfl rfl (by exact opd_eql rfl rfl rfl) ?_
      refine al_d rfl rfl rfl (by exact opd_assign rfl rfl) ?_
      refine al_nil ?_
      refine awp_cond rfl (fun hc3 => ?_) (fun hc3 => ?_)
      -- cond 3
      · have ho : e.op = 3 := of_decide_eq_true hc3
        have hx : xOf e = ⟨e.op, e.id, sNil, sNil, 0, 0, e.key, e.val, [], zObj⟩ := by rw [xOf, if_neg ho1, if_neg ho2, if_pos ho]
        have hk : okOf e = (gName e.id && (gName e.key && decide ((e.val.size : Int) ≤ 200))) := by rw [okOf, if_neg ho1, if_neg ho2, if_pos ho]
        have hb : (gName e.id && gName e.key && decide ((e.val.size : Int) ≤ 200)) = (gName e.id && (gName e.key && decide ((e.val.size : Int) ≤ 200))) := by rw [Bool.and_assoc]
        have hv : gEditV e = ((gName e.id && gName e.key && decide ((e.val.size : Int) ≤ 200)) && gSameE ⟨e.op, e.id, sNil, sNil, 0, 0, e.key, e.val, [], zObj⟩ e) := by rw [gEditV, hx, hk, hb, ho]; rfl
        apply awp_mergeW (t := 4) (n := 20) (X := gName e.id && gName e.key && decide ((e.val.size : Int) ≤ 200))
        · cases hg58 : (gName e.id : Bool)
          · refine awp_drawc follows ?_
            refine dc_cons (r := ⟨_, some [1], []⟩) (DStep.plain rfl (fun H1 hH => by exact (by exact opd_field_ref rfl fo32_5 rfl ((hH _ rfl).trans rfl) rfl rfl))) rfl ?_
            refine dc_cons (r := ⟨_, some [1], []⟩) (DStep.plain rfl (fun H1 hH => by exact (by exact opd_load1_ref rfl Tryz.isAgg9 rfl ((hH _ rfl).trans rfl) rfl rfl rfl))) rfl ?_
            refine dc_cons (r := ⟨_, some [1], []⟩) (DStep.plain rfl (fun H1 hH => by exact (by exact opd_field_ref rfl fo32_6 rfl ((hH _ rfl).trans rfl) rfl rfl))) rfl ?_
            refine dc_cons (r := ⟨_, some [1], []⟩) (DStep.plain rfl (fun H1 hH => by exact (by exact opd_load1_ref rfl Tryz.isAgg9 rfl ((hH _ rfl).trans rfl) rfl rfl rfl))) rfl ?_
            refine dc_cons (r := ⟨_, some [], []⟩) (DStep.plain rfl (fun H1 hH => by exact opd_move rfl rfl)) rfl ?_
            refine dc_cons (r := ⟨_, some [], []⟩) (DStep.plain rfl (fun H1 hH => by exact opd_move rfl rfl)) rfl ?_
            refine dc_cons (q_off_t rfl rfl rfl (by rfl)) rfl ?_
            refine dc_cons (q_off_t rfl rfl rfl (by rfl)) rfl ?_
            refine dc_cons (q_off_t rfl rfl rfl (by rfl)) rfl ?_
            refine dc_cons (q_off_t rfl rfl rfl (by rfl)) rfl ?_
            refine dc_cons (r := ⟨_, some [], []⟩) (DStep.plain rfl (fun H1 hH => by exact (by exact opd_pick_f rfl rfl rfl))) rfl ?_
            refine dc_cons (r := ⟨_, some [], []⟩) (DStep.plain rfl (fun H1 hH => by exact opd_move rfl rfl)) rfl ?_
            refine dc_cons (q_off_t rfl rfl rfl (by rfl)) rfl ?_
            refine dc_cons (q_off_t rfl rfl rfl (by rfl)) rfl ?_
            refine dc_cons (q_off_t rfl rfl rfl (by rfl)) rfl ?_
            refine dc_cons (q_off_t rfl rfl rfl (by rfl)) rfl ?_
            refine dc_cons (r := ⟨_, some [], []⟩) (DStep.plain rfl (fun H1 hH => by exact (by exact opd_pick_f rfl rfl rfl))) rfl ?_
            refine dc_cons (r := ⟨_, some [3], []⟩) (DStep.plain rfl (fun H1 hH => by exact (by exact opd_field_ref rfl fo32_5 rfl ((hH _ rfl).trans rfl) rfl rfl))) rfl ?_
            refine dc_cons (r := ⟨_, some [3], [_]⟩) (DStep.plain rfl (fun H1 hH => by exact (by exact x_store1 rfl Tryz.sizeOf9 rfl rfl rfl ((hH _ rfl).trans rfl) rfl rfl (Nat.le_of_ble_eq_true rfl) rfl rfl))) rfl ?_
            refine dc_cons (r := ⟨_, some [3], []⟩) (DStep.plain rfl (fun H1 hH => by exact (by exact opd_field_ref rfl fo32_6 rfl ((hH _ rfl).trans rfl) rfl rfl))) rfl ?_
            refine dc_cons (r := ⟨_, some [3], [_]⟩) (DStep.plain rfl (fun H1 hH => by exact (by exact x_store1 rfl Tryz.sizeOf9 rfl rfl rfl ((hH _ rfl).trans rfl) rfl rfl (Nat.le_of_ble_eq_true rfl) rfl rfl))) rfl ?_
            refine dc_cons (r := ⟨_, some [], []⟩) (DStep.plain rfl (fun H1 hH => by exact opd_assign rfl rfl)) rfl ?_
            refine dc_nil ⟨by kernel_rfl, ?_⟩
            exact ⟨rfl, ⟨_, rfl, by rfl⟩, rfl, rfl, rfl⟩
          · cases hg64 : (gName e.key : Bool)
            · refine awp_drawc follows ?_
              refine dc_cons (r := ⟨_, some [1], []⟩) (DStep.plain rfl (fun H1 hH => by exact (by exact opd_field_ref rfl fo32_5 rfl ((hH _ rfl).trans rfl) rfl rfl))) rfl ?_
              refine dc_cons (r := ⟨_, some [1], []⟩) (DStep.plain rfl (fun H1 hH => by exact (by exact opd_load1_ref rfl Tryz.isAgg9 rfl ((hH _ rfl).trans rfl) rfl rfl rfl))) rfl ?_
              refine dc_cons (r := ⟨_, some [1], []⟩) (DStep.plain rfl (fun H1 hH => by exact (by exact opd_field_ref rfl fo32_6 rfl ((hH _ rfl).trans rfl) rfl rfl))) rfl ?_
              refine dc_cons (r := ⟨_, some [1], []⟩) (DStep.plain rfl (fun H1 hH => by exact (by exact opd_load1_ref rfl Tryz.isAgg9 rfl ((hH _ rfl).trans rfl) rfl rfl rfl))) rfl ?_
              refine dc_cons (r := ⟨_, some [], []⟩) (DStep.plain rfl (fun H1 hH => by exact opd_move rfl rfl)) rfl ?_
              refine dc_cons (r := ⟨_, some [], []⟩) (DStep.plain rfl (fun H1 hH => by exact opd_move rfl rfl)) rfl ?_
              refine dc_cons (r := ⟨_, some [1], []⟩) (l_on_t rfl rfl rfl (by rfl) (fun H1 hH => by exact (by exact opd_field_ref rfl fo32_5 rfl ((hH _ rfl).trans rfl) rfl rfl))) rfl ?_
              refine dc_cons (r := ⟨_, some [1], []⟩) (l_on_t rfl rfl rfl (by rfl) (fun H1 hH => by exact (by exact opd_load1_ref rfl Tryz.isAgg9 rfl ((hH _ rfl).trans rfl) rfl rfl rfl))) rfl ?_
              refine dc_cons (r := ⟨_, some [], []⟩) (l_on_t rfl rfl rfl (by rfl) (fun H1 hH => by exact (by exact x_buildSlice ([e.key].map encStr) rfl so27 rfl rfl rfl rfl rfl (by simp [encStr])))) rfl ?_
              refine dc_cons (r := ⟨_, some [], []⟩) (l_on_t rfl rfl rfl (by rfl) (fun H1 hH => by exact opr_call rfl rfl Tryz.call43 rfl (n1_c e.key _ h4))) rfl ?_
              refine dc_cons (r := ⟨_, some [], []⟩) (DStep.plain rfl (fun H1 hH => by exact (by exact opd_pick_t rfl rfl rfl))) rfl ?_
              refine dc_cons (r := ⟨_, some [], []⟩) (DStep.plain rfl (fun H1 hH => by exact opd_move rfl rfl)) rfl ?_
              refine dc_cons (q_off_t rfl rfl rfl (by assumption)) rfl ?_
              refine dc_cons (q_off_t rfl rfl rfl (by assumption)) rfl ?_
              refine dc_cons (q_off_t rfl rfl rfl (by assumption)) rfl ?_
              refine dc_cons (q_off_t rfl rfl rfl (by assumption)) rfl ?_
              refine dc_cons (r := ⟨_, some [], []⟩) (DStep.plain rfl (fun H1 hH => by exact (by exact opd_pickf rfl rfl (by assumption) rfl))) rfl ?_
              refine dc_cons (r := ⟨_, some [3], []⟩) (DStep.plain rfl (fun H1 hH => by exact (by exact opd_field_ref rfl fo32_5 rfl ((hH _ rfl).trans rfl) rfl rfl))) rfl ?_
              refine dc_cons (r := ⟨_, some [3], [_]⟩) (DStep.plain rfl (fun H1 hH => by exact (by exact x_store1 rfl Tryz.sizeOf9 rfl rfl rfl ((hH _ rfl).trans rfl) rfl rfl (Nat.le_of_ble_eq_true rfl) rfl rfl))) rfl ?_
              refine dc_cons (r := ⟨_, some [3], []⟩) (DStep.plain rfl (fun H1 hH => by exact (by exact opd_field_ref rfl fo32_6 rfl ((hH _ rfl).trans rfl) rfl rfl))) rfl ?_
              refine dc_cons (r := ⟨_, some [3], [_]⟩) (DStep.plain rfl (fun H1 hH => by exact (by exact x_store1 rfl Tryz.sizeOf9 rfl rfl rfl ((hH _ rfl).trans rfl) rfl rfl (Nat.le_of_ble_eq_true rfl) rfl rfl))) rfl ?_
              refine dc_cons (r := ⟨_, some [], []⟩) (DStep.plain rfl (fun H1 hH => by exact opd_assign rfl rfl)) rfl ?_
              refine dc_nil ⟨by kernel_rfl, ?_⟩
              exact ⟨rfl, ⟨_, rfl, by rfl⟩, rfl, rfl, rfl⟩
            · refine awp_drawc follows ?_
              refine dc_cons (r := ⟨_, some [1], []⟩) (DStep.plain rfl (fun H1 hH => by exact (by exact opd_field_ref rfl fo32_5 rfl ((hH _ rfl).trans rfl) rfl rfl))) rfl ?_
              refine dc_cons (r := ⟨_, some [1], []⟩) (DStep.plain rfl (fun H1 hH => by exact (by exact opd_load1_ref rfl Tryz.isAgg9 rfl ((hH _ rfl).trans rfl) rfl rfl rfl))) rfl ?_
              refine dc_cons (r := ⟨_, some [1], []⟩) (DStep.plain rfl (fun H1 hH => by exact (by exact opd_field_ref rfl fo32_6 rfl ((hH _ rfl).trans rfl) rfl rfl))) rfl ?_
              refine dc_cons (r := ⟨_, some [1], []⟩) (DStep.plain rfl (fun H1 hH => by exact (by exact opd_load1_ref rfl Tryz.isAgg9 rfl ((hH _ rfl).trans rfl) rfl rfl rfl))) rfl ?_
              refine dc_cons (r := ⟨_, some [], []⟩) (DStep.plain rfl (fun H1 hH => by exact opd_move rfl rfl)) rfl ?_
              refine dc_cons (r := ⟨_, some [], []⟩) (DStep.plain rfl (fun H1 hH => by exact opd_move rfl rfl)) rfl ?_
              refine dc_cons (r := ⟨_, some [1], []⟩) (l_on_t rfl rfl rfl (by rfl) (fun H1 hH => by exact (by exact opd_field_ref rfl fo32_5 rfl ((hH _ rfl).trans rfl) rfl rfl))) rfl ?_
              refine dc_cons (r := ⟨_, some [1], []⟩) (l_on_t rfl rfl rfl (by rfl) (fun H1 hH => by exact (by exact opd_load1_ref rfl Tryz.isAgg9 rfl ((hH _ rfl).trans rfl) rfl rfl rfl))) rfl ?_
              refine dc_cons (r := ⟨_, some [], []⟩) (l_on_t rfl rfl rfl (by rfl) (fun H1 hH => by exact (by exact x_buildSlice ([e.key].map encStr) rfl so27 rfl rfl rfl rfl rfl (by simp [encStr])))) rfl ?_
              refine dc_cons (r := ⟨_, some [], []⟩) (l_on_t rfl rfl rfl (by rfl) (fun H1 hH => by exact opr_call rfl rfl Tryz.call43 rfl (n1_c e.key _ h4))) rfl ?_
              refine dc_cons (r := ⟨_, some [], []⟩) (DStep.plain rfl (fun H1 hH => by exact (by exact opd_pick_t rfl rfl rfl))) rfl ?_
              refine dc_cons (r := ⟨_, some [], []⟩) (DStep.plain rfl (fun H1 hH => by exact opd_move rfl rfl)) rfl ?_
              refine dc_cons (r := ⟨_, some [1], []⟩) (l_on_t rfl rfl rfl (by assumption) (fun H1 hH => by exact (by exact opd_field_ref rfl fo32_6 rfl ((hH _ rfl).trans rfl) rfl rfl))) rfl ?_
              refine dc_cons (r := ⟨_, some [1], []⟩) (l_on_t rfl rfl rfl (by assumption) (fun H1 hH => by exact (by exact opd_load1_ref rfl Tryz.isAgg9 rfl ((hH _ rfl).trans rfl) rfl rfl rfl))) rfl ?_
              refine dc_cons (r := ⟨_, some [], []⟩) (l_on_t rfl rfl rfl (by assumption) (fun H1 hH => by exact opd_len_str rfl Tryz.underlying9 rfl)) rfl ?_
              refine dc_cons (r := ⟨_, some [], []⟩) (l_on_t rfl rfl rfl (by assumption) (fun H1 hH => by exact opd_leq rfl rfl rfl)) rfl ?_
              refine dc_cons (r := ⟨_, some [], []⟩) (DStep.plain rfl (fun H1 hH => by exact (by exact opd_pickt rfl rfl (by assumption) rfl))) rfl ?_
              refine dc_cons (r := ⟨_, some [3], []⟩) (DStep.plain rfl (fun H1 hH => by exact (by exact opd_field_ref rfl fo32_5 rfl ((hH _ rfl).trans rfl) rfl rfl))) rfl ?_
              refine dc_cons (r := ⟨_, some [3], [_]⟩) (DStep.plain rfl (fun H1 hH => by exact (by exact x_store1 rfl Tryz.sizeOf9 rfl rfl rfl ((hH _ rfl).trans rfl) rfl rfl (Nat.le_of_ble_eq_true rfl) rfl rfl))) rfl ?_
              refine dc_cons (r := ⟨_, some [3], []⟩) (DStep.plain rfl (fun H1 hH => by exact (by exact opd_field_ref rfl fo32_6 rfl ((hH _ rfl).trans rfl) rfl rfl))) rfl ?_
              refine dc_cons (r := ⟨_, some [3], [_]⟩) (DStep.plain rfl (fun H1 hH => by exact (by exact x_store1 rfl Tryz.sizeOf9 rfl rfl rfl ((hH _ rfl).trans rfl) rfl rfl (Nat.le_of_ble_eq_true rfl) rfl rfl))) rfl ?_
              refine dc_cons (r := ⟨_, some [], []⟩) (DStep.plain rfl (fun H1 hH => by exact opd_assign rfl rfl)) rfl ?_
              refine dc_nil ⟨by kernel_rfl, ?_⟩
              exact ⟨rfl, ⟨_, rfl, by rfl⟩, rfl, rfl, rfl⟩
        refine awp_seq ?_
        refine awp_bool (t := 2) (n := 8) (X := (gName e.id && gName e.key && decide ((e.val.size : Int) ≤ 200)) && gSameE ⟨e.op, e.id, sNil, sNil, 0, 0, e.key, e.val, [], zObj⟩ e) ?_ ?_
        · all_goals (refine al_d rfl rfl rfl (by exact opd_move rfl rfl) ?_)
          all_goals (refine al_d rfl rfl rfl (by exact opd_move rfl rfl) ?_)
          all_goals (refine al_split (t := 127) rfl (fun h127 => ?_) (fun h127 => ?_))
          all_goals (try contradiction)
          all_goals (first | refine al_off rfl rfl rfl rfl rfl ?_ | refine al_ond rfl rfl rfl rfl rfl rfl (by exact (by exact opd_loadn_ref rfl Tryz.isAgg32 Tryz.sizeOf32 rfl rfl rfl rfl (by simp only [List.drop_succ_cons, List.drop_zero, List.take_succ_cons, List.take_zero, List.take_nil, List.map_cons, List.map_nil, List.set_cons_zero, List.set_cons_succ, List.cons_append, List.nil_append, encTag, encObj, encStr, encEdit, zObj]; rfl) rfl)) ?_)
          all_goals (first | refine al_off rfl rfl rfl rfl rfl ?_ | refine al_ond rfl rfl rfl rfl rfl rfl (by exact (by exact opd_loadn_ref rfl Tryz.isAgg32 Tryz.sizeOf32 rfl rfl rfl rfl (by simp only [List.drop_succ_cons, List.drop_zero, List.take_succ_cons, List.take_zero, List.take_nil, List.map_cons, List.map_nil, List.set_cons_zero, List.set_cons_succ, List.cons_append, List.nil_append, encTag, encObj, encStr, encEdit, zObj]; rfl) rfl)) ?_)
          all_goals (first | refine al_off rfl rfl rfl rfl rfl ?_ | refine al_ond rfl rfl rfl rfl rfl rfl (by exact opr_call rfl rfl Tryz.call45 rfl (sameE_c ⟨e.op, e.id, sNil, sNil, 0, 0, e.key, e.val, [], zObj⟩ e _ (by (show 0 < _; omega)) okS_z)) ?_)
          all_goals (refine al_d rfl rfl rfl (by exact (by first | exact opd_pick_t rfl rfl rfl | exact opd_pick_f rfl rfl rfl)) ?_)
          all_goals (refine al_d rfl rfl rfl (by exact opd_assign rfl rfl) ?_)
          all_goals (refine al_nil ?_)
          all_goals (exact ⟨⟨_, rfl, by (rw [h127]; rfl)⟩, rfl, rfl, rfl⟩)
        refine awp_ret ?_
        -- return
        refine aret1 (H' := []) (by exact .inr rfl) rfl (rval_tmp rfl) (Fin.wk (by simp) trivial trivial) ?_
        exact ⟨by rw [hv], rfl⟩
      · have ho3 : ¬ e.op = 3 := of_decide_eq_false hc3
        refine awp_seq ?_
        refine awp_region ?_
        refine al_d rfl rfl rfl (by exact opd_eql rfl rfl rfl) ?_
        refine al_d rfl rfl rfl (by exact opd_assign rfl rfl) ?_
        refine al_nil ?_
        refine awp_cond rfl (fun hc4 => ?_) (fun hc4 => ?_)
        -- cond 4
        · have ho : e.op = 4 := of_decide_eq_true hc4
          have hx : xOf e = ⟨e.op, e.id, sNil, sNil, 0, 0, sNil, sNil, e.refs, zObj⟩ := by rw [xOf, if_neg ho1, if_neg ho2, if_neg ho3, if_pos ho]
          have hk : okOf e = (gName e.id && (decide ((0 : Int) < (e.refs.length : Int)) && decide ((e.refs.length : Int) ≤ 2000) && e.refs.all gName)) := by rw [okOf, if_neg ho1, if_neg ho2, if_neg ho3, if_pos ho]
          have hb : (gName e.id && decide ((0 : Int) < ((e.refs.map encStr).length : Int)) && decide (((e.refs.map encStr).length : Int) ≤ 2000) && e.refs.all gName) = (gName e.id && (decide ((0 : Int) < (e.refs.length : Int)) && decide ((e.refs.length : Int) ≤ 2000) && e.refs.all gName)) := by rw [hrl]; simp only [Bool.and_assoc]
          have hv : gEditV e = ((gName e.id && decide ((0 : Int) < ((e.refs.map encStr).length : Int)) && decide (((e.refs.map encStr).length : Int) ≤ 2000) && e.refs.all gName) && gSameE ⟨e.op, e.id, sNil, sNil, 0, 0, sNil, sNil, e.refs, zObj⟩ e) := by rw [gEditV, hx, hk, hb, ho]; rfl
          apply awp_mergeW (t := 4) (n := 22) (X := gName e.id && decide ((0 : Int) < ((e.refs.map encStr).length : Int)) && decide (((e.refs.map encStr).length : Int) ≤ 2000) && e.refs.all gName)
          · cases hg77 : (gName e.id : Bool)
            · refine awp_drawc follows ?_
              refine dc_cons (r := ⟨_, some [1], []⟩) (DStep.plain rfl (fun H1 hH => by exact (by exact opd_field_ref rfl fo32_7 rfl ((hH _ rfl).trans rfl) rfl rfl))) rfl ?_
              refine dc_cons (r := ⟨_, some [1], []⟩) (DStep.plain rfl (fun H1 hH => by exact (by exact opd_load1_ref rfl Tryz.isAgg27 rfl ((hH _ rfl).trans rfl) rfl rfl rfl))) rfl ?_
              refine dc_cons (r := ⟨_, some [], []⟩) (DStep.plain rfl (fun H1 hH => by exact opd_move rfl rfl)) rfl ?_
              refine dc_cons (r := ⟨_, some [], []⟩) (DStep.plain rfl (fun H1 hH => by exact opd_move rfl rfl)) rfl ?_
              refine dc_cons (q_off_t rfl rfl rfl (by rfl)) rfl ?_
              refine dc_cons (q_off_t rfl rfl rfl (by rfl)) rfl ?_
              refine dc_cons (q_off_t rfl rfl rfl (by rfl)) rfl ?_
              refine dc_cons (q_off_t rfl rfl rfl (by rfl)) rfl ?_
              refine dc_cons (r := ⟨_, some [], []⟩) (DStep.plain rfl (fun H1 hH => by exact (by exact opd_pick_f rfl rfl rfl))) rfl ?_
              refine dc_cons (r := ⟨_, some [], []⟩) (DStep.plain rfl (fun H1 hH => by exact opd_move rfl rfl)) rfl ?_
              refine dc_cons (q_off_t rfl rfl rfl (by rfl)) rfl ?_
              refine dc_cons (q_off_t rfl rfl rfl (by rfl)) rfl ?_
              refine dc_cons (q_off_t rfl rfl rfl (by rfl)) rfl ?_
              refine dc_cons (q_off_t rfl rfl rfl (by rfl)) rfl ?_
              refine dc_cons (r := ⟨_, some [], []⟩) (DStep.plain rfl (fun H1 hH => by exact (by exact opd_pick_f rfl rfl rfl))) rfl ?_
              refine dc_cons (r := ⟨_, some [], []⟩) (DStep.plain rfl (fun H1 hH => by exact opd_move rfl rfl)) rfl ?_
              refine dc_cons (q_off_t rfl rfl rfl (by rfl)) rfl ?_
              refine dc_cons (q_off_t rfl rfl rfl (by rfl)) rfl ?_
              refine dc_cons (q_off_t rfl rfl rfl (by rfl)) rfl ?_
              refine dc_cons (r := ⟨_, some [], []⟩) (DStep.plain rfl (fun H1 hH => by exact (by exact opd_pick_f rfl rfl rfl))) rfl ?_
              refine dc_cons (r := ⟨_, some [3], []⟩) (DStep.plain rfl (fun H1 hH => by exact (by exact opd_field_ref rfl fo32_7 rfl ((hH _ rfl).trans rfl) rfl rfl))) rfl ?_
              refine dc_cons (r := ⟨_, some [3], [_]⟩) (DStep.plain rfl (fun H1 hH => by exact (by exact x_store1 rfl Tryz.sizeOf27 rfl rfl rfl ((hH _ rfl).trans rfl) rfl rfl (Nat.le_of_ble_eq_true rfl) rfl rfl))) rfl ?_
              refine dc_cons (r := ⟨_, some [], []⟩) (DStep.plain rfl (fun H1 hH => by exact opd_assign rfl rfl)) rfl ?_
              refine dc_nil ⟨by kernel_rfl, ?_⟩
              exact ⟨rfl, ⟨_, rfl, by rfl⟩, rfl, rfl, rfl⟩
            · cases hg83 : (decide ((0 : Int) < ((e.refs.map encStr).length : Int)) : Bool)
              · refine awp_drawc follows ?_
                refine dc_cons (r := ⟨_, some [1], []⟩) (DStep.plain rfl (fun H1 hH => by exact (by exact opd_field_ref rfl fo32_7 rfl ((hH _ rfl).trans rfl) rfl rfl))) rfl ?_
                refine dc_cons (r := ⟨_, some [1], []⟩) (DStep.plain rfl (fun H1 hH => by exact (by exact opd_load1_ref rfl Tryz.isAgg27 rfl ((hH _ rfl).trans rfl) rfl rfl rfl))) rfl ?_
                refine dc_cons (r := ⟨_, some [], []⟩) (DStep.plain rfl (fun H1 hH => by exact opd_move rfl rfl)) rfl ?_
                refine dc_cons (r := ⟨_, some [], []⟩) (DStep.plain rfl (fun H1 hH => by exact opd_move rfl rfl)) rfl ?_
                refine dc_cons (r := ⟨_, some [1], []⟩) (l_on_t rfl rfl rfl (by rfl) (fun H1 hH => by exact (by exact opd_field_ref rfl fo32_7 rfl ((hH _ rfl).trans rfl) rfl rfl))) rfl ?_
                refine dc_cons (r := ⟨_, some [1], []⟩) (l_on_t rfl rfl rfl (by rfl) (fun H1 hH => by exact (by exact opd_load1_ref rfl Tryz.isAgg27 rfl ((hH _ rfl).trans rfl) rfl rfl rfl))) rfl ?_
                refine dc_cons (r := ⟨_, some [], []⟩) (l_on_t rfl rfl rfl (by rfl) (fun H1 hH => by exact (by exact opd_len_sl rfl Tryz.underlying27 rfl))) rfl ?_
                refine dc_cons (r := ⟨_, some [], []⟩) (l_on_t rfl rfl rfl (by rfl) (fun H1 hH => by exact opd_gtr rfl rfl rfl)) rfl ?_
                refine dc_cons (r := ⟨_, some [], []⟩) (DStep.plain rfl (fun H1 hH => by exact (by exact opd_pick_t rfl rfl rfl))) rfl ?_
                refine dc_cons (r := ⟨_, some [], []⟩) (DStep.plain rfl (fun H1 hH => by exact opd_move rfl rfl)) rfl ?_
                refine dc_cons (q_off_t rfl rfl rfl (by assumption)) rfl ?_
                refine dc_cons (q_off_t rfl rfl rfl (by assumption)) rfl ?_
                refine dc_cons (q_off_t rfl rfl rfl (by assumption)) rfl ?_
                refine dc_cons (q_off_t rfl rfl rfl (by assumption)) rfl ?_
                refine dc_cons (r := ⟨_, some [], []⟩) (DStep.plain rfl (fun H1 hH => by exact (by exact opd_pickf rfl rfl (by assumption) rfl))) rfl ?_
                refine dc_cons (r := ⟨_, some [], []⟩) (DStep.plain rfl (fun H1 hH => by exact opd_move rfl rfl)) rfl ?_
                refine dc_cons (q_off_t rfl rfl rfl (by rfl)) rfl ?_
                refine dc_cons (q_off_t rfl rfl rfl (by rfl)) rfl ?_
                refine dc_cons (q_off_t rfl rfl rfl (by rfl)) rfl ?_
                refine dc_cons (r := ⟨_, some [], []⟩) (DStep.plain rfl (fun H1 hH => by exact (by exact opd_pick_f rfl rfl rfl))) rfl ?_
                refine dc_cons (r := ⟨_, some [3], []⟩) (DStep.plain rfl (fun H1 hH => by exact (by exact opd_field_ref rfl fo32_7 rfl ((hH _ rfl).trans rfl) rfl rfl))) rfl ?_
                refine dc_cons (r := ⟨_, some [3], [_]⟩) (DStep.plain rfl (fun H1 hH => by exact (by exact x_store1 rfl Tryz.sizeOf27 rfl rfl rfl ((hH _ rfl).trans rfl) rfl rfl (Nat.le_of_ble_eq_true rfl) rfl rfl))) rfl ?_
                refine dc_cons (r := ⟨_, some [], []⟩) (DStep.plain rfl (fun H1 hH => by exact opd_assign rfl rfl)) rfl ?_
                refine dc_nil ⟨by kernel_rfl, ?_⟩
                exact ⟨rfl, ⟨_, rfl, by rfl⟩, rfl, rfl, rfl⟩
              · cases hg89 : (decide (((e.refs.map encStr).length : Int) ≤ 2000) : Bool)
                · refine awp_drawc follows ?_
                  refine dc_cons (r := ⟨_, some [1], []⟩) (DStep.plain rfl (fun H1 hH => by exact (by exact opd_field_ref rfl fo32_7 rfl ((hH _ rfl).trans rfl) rfl rfl))) rfl ?_
                  refine dc_cons (r := ⟨_, some [1], []⟩) (DStep.plain rfl (fun H1 hH => by exact (by exact opd_load1_ref rfl Tryz.isAgg27 rfl ((hH _ rfl).trans rfl) rfl rfl rfl))) rfl ?_
                  refine dc_cons (r := ⟨_, some [], []⟩) (DStep.plain rfl (fun H1 hH => by exact opd_move rfl rfl)) rfl ?_
                  refine dc_cons (r := ⟨_, some [], []⟩) (DStep.plain rfl (fun H1 hH => by exact opd_move rfl rfl)) rfl ?_
                  refine dc_cons (r := ⟨_, some [1], []⟩) (l_on_t rfl rfl rfl (by rfl) (fun H1 hH => by exact (by exact opd_field_ref rfl fo32_7 rfl ((hH _ rfl).trans rfl) rfl rfl))) rfl ?_
                  refine dc_cons (r := ⟨_, some [1], []⟩) (l_on_t rfl rfl rfl (by rfl) (fun H1 hH => by exact (by exact opd_load1_ref rfl Tryz.isAgg27 rfl ((hH _ rfl).trans rfl) rfl rfl rfl))) rfl ?_
                  refine dc_cons (r := ⟨_, some [], []⟩) (l_on_t rfl rfl rfl (by rfl) (fun H1 hH => by exact (by exact opd_len_sl rfl Tryz.underlying27 rfl))) rfl ?_
                  refine dc_cons (r := ⟨_, some [], []⟩) (l_on_t rfl rfl rfl (by rfl) (fun H1 hH => by exact opd_gtr rfl rfl rfl)) rfl ?_
                  refine dc_cons (r := ⟨_, some [], []⟩) (DStep.plain rfl (fun H1 hH => by exact (by exact opd_pick_t rfl rfl rfl))) rfl ?_
                  refine dc_cons (r := ⟨_, some [], []⟩) (DStep.plain rfl (fun H1 hH => by exact opd_move rfl rfl)) rfl ?_
                  refine dc_cons (r := ⟨_, some [1], []⟩) (l_on_t rfl rfl rfl (by assumption) (fun H1 hH => by exact (by exact opd_field_ref rfl fo32_7 rfl ((hH _ rfl).trans rfl) rfl rfl))) rfl ?_
                  refine dc_cons (r := ⟨_, some [1], []⟩) (l_on_t rfl rfl rfl (by assumption) (fun H1 hH => by exact (by exact opd_load1_ref rfl Tryz.isAgg27 rfl ((hH _ rfl).trans rfl) rfl rfl rfl))) rfl ?_
                  refine dc_cons (r := ⟨_, some [], []⟩) (l_on_t rfl rfl rfl (by assumption) (fun H1 hH => by exact (by exact opd_len_sl rfl Tryz.underlying27 rfl))) rfl ?_
                  refine dc_cons (r := ⟨_, some [], []⟩) (l_on_t rfl rfl rfl (by assumption) (fun H1 hH => by exact opd_leq rfl rfl rfl)) rfl ?_
                  refine dc_cons (r := ⟨_, some [], []⟩) (DStep.plain rfl (fun H1 hH => by exact (by exact opd_pickt rfl rfl (by assumption) rfl))) rfl ?_
                  refine dc_cons (r := ⟨_, some [], []⟩) (DStep.plain rfl (fun H1 hH => by exact opd_move rfl rfl)) rfl ?_
                  refine dc_cons (q_off_t rfl rfl rfl (by assumption)) rfl ?_
                  refine dc_cons (q_off_t rfl rfl rfl (by assumption)) rfl ?_
                  refine dc_cons (q_off_t rfl rfl rfl (by assumption)) rfl ?_
                  refine dc_cons (r := ⟨_, some [], []⟩) (DStep.plain rfl (fun H1 hH => by exact (by exact opd_pickf rfl rfl (by assumption) rfl))) rfl ?_
                  refine dc_cons (r := ⟨_, some [3], []⟩) (DStep.plain rfl (fun H1 hH => by exact (by exact opd_field_ref rfl fo32_7 rfl ((hH _ rfl).trans rfl) rfl rfl))) rfl ?_
                  refine dc_cons (r := ⟨_, some [3], [_]⟩) (DStep.plain rfl (fun H1 hH => by exact (by exact x_store1 rfl Tryz.sizeOf27 rfl rfl rfl ((hH _ rfl).trans rfl) rfl rfl (Nat.le_of_ble_eq_true rfl) rfl rfl))) rfl ?_
                  refine dc_cons (r := ⟨_, some [], []⟩) (DStep.plain rfl (fun H1 hH => by exact opd_assign rfl rfl)) rfl ?_
                  refine dc_nil ⟨by kernel_rfl, ?_⟩
                  exact ⟨rfl, ⟨_, rfl, by rfl⟩, rfl, rfl, rfl⟩
                · refine awp_drawc follows ?_
                  refine dc_cons (r := ⟨_, some [1], []⟩) (DStep.plain rfl (fun H1 hH => by exact (by exact opd_field_ref rfl fo32_7 rfl ((hH _ rfl).trans rfl) rfl rfl))) rfl ?_
                  refine dc_cons (r := ⟨_, some [1], []⟩) (DStep.plain rfl (fun H1 hH => by exact (by exact opd_load1_ref rfl Tryz.isAgg27 rfl ((hH _ rfl).trans rfl) rfl rfl rfl))) rfl ?_
                  refine dc_cons (r := ⟨_, some [], []⟩) (DStep.plain rfl (fun H1 hH => by exact opd_move rfl rfl)) rfl ?_
                  refine dc_cons (r := ⟨_, some [], []⟩) (DStep.plain rfl (fun H1 hH => by exact opd_move rfl rfl)) rfl ?_
                  refine dc_cons (r := ⟨_, some [1], []⟩) (l_on_t rfl rfl rfl (by rfl) (fun H1 hH => by exact (by exact opd_field_ref rfl fo32_7 rfl ((hH _ rfl).trans rfl) rfl rfl))) rfl ?_
                  refine dc_cons (r := ⟨_, some [1], []⟩) (l_on_t rfl rfl rfl (by rfl) (fun H1 hH => by exact (by exact opd_load1_ref rfl Tryz.isAgg27 rfl ((hH _ rfl).trans rfl) rfl rfl rfl))) rfl ?_
                  refine dc_cons (r := ⟨_, some [], []⟩) (l_on_t rfl rfl rfl (by rfl) (fun H1 hH => by exact (by exact opd_len_sl rfl Tryz.underlying27 rfl))) rfl ?_
                  refine dc_cons (r := ⟨_, some [], []⟩) (l_on_t rfl rfl rfl (by rfl) (fun H1 hH => by exact opd_gtr rfl rfl rfl)) rfl ?_
                  refine dc_cons (r := ⟨_, some [], []⟩) (DStep.plain rfl (fun H1 hH => by exact (by exact opd_pick_t rfl rfl rfl))) rfl ?_
                  refine dc_cons (r := ⟨_, some [], []⟩) (DStep.plain rfl (fun H1 hH => by exact opd_move rfl rfl)) rfl ?_
                  refine dc_cons (r := ⟨_, some [1], []⟩) (l_on_t rfl rfl rfl (by assumption) (fun H1 hH => by exact (by exact opd_field_ref rfl fo32_7 rfl ((hH _ rfl).trans rfl) rfl rfl))) rfl ?_
                  refine dc_cons (r := ⟨_, some [1], []⟩) (l_on_t rfl rfl rfl (by assumption) (fun H1 hH => by exact (by exact opd_load1_ref rfl Tryz.isAgg27 rfl ((hH _ rfl).trans rfl) rfl rfl rfl))) rfl ?_
                  refine dc_cons (r := ⟨_, some [], []⟩) (l_on_t rfl rfl rfl (by assumption) (fun H1 hH => by exact (by exact opd_len_sl rfl Tryz.underlying27 rfl))) rfl ?_
                  refine dc_cons (r := ⟨_, some [], []⟩) (l_on_t rfl rfl rfl (by assumption) (fun H1 hH => by exact opd_leq rfl rfl rfl)) rfl ?_
                  refine dc_cons (r := ⟨_, some [], []⟩) (DStep.plain rfl (fun H1 hH => by exact (by exact opd_pickt rfl rfl (by assumption) rfl))) rfl ?_
                  refine dc_cons (r := ⟨_, some [], []⟩) (DStep.plain rfl (fun H1 hH => by exact opd_move rfl rfl)) rfl ?_
                  refine dc_cons (r := ⟨_, some [1], []⟩) (l_on_t rfl rfl rfl (by assumption) (fun H1 hH => by exact (by exact opd_field_ref rfl fo32_7 rfl ((hH _ rfl).trans rfl) rfl rfl))) rfl ?_
                  refine dc_cons (r := ⟨_, some [1], []⟩) (l_on_t rfl rfl rfl (by assumption) (fun H1 hH => by exact (by exact opd_load1_ref rfl Tryz.isAgg27 rfl ((hH _ rfl).trans rfl) rfl rfl rfl))) rfl ?_
                  refine dc_cons (r := ⟨_, some [], []⟩) (l_on_t rfl rfl rfl (by assumption) (fun H1 hH => by exact opr_call rfl rfl Tryz.call43 rfl (names_c e.refs _ h5 h6))) rfl ?_
                  refine dc_cons (r := ⟨_, some [], []⟩) (DStep.plain rfl (fun H1 hH => by exact (by exact opd_pickt rfl rfl (by assumption) rfl))) rfl ?_
                  refine dc_cons (r := ⟨_, some [3], []⟩) (DStep.plain rfl (fun H1 hH => by exact (by exact opd_field_ref rfl fo32_7 rfl ((hH _ rfl).trans rfl) rfl rfl))) rfl ?_
                  refine dc_cons (r := ⟨_, some [3], [_]⟩) (DStep.plain rfl (fun H1 hH => by exact (by exact x_store1 rfl Tryz.sizeOf27 rfl rfl rfl ((hH _ rfl).trans rfl) rfl rfl (Nat.le_of_ble_eq_true rfl) rfl rfl))) rfl ?_
                  refine dc_cons (r := ⟨_, some [], []⟩) (DStep.plain rfl (fun H1 hH => by exact opd_assign rfl rfl)) rfl ?_
                  refine dc_nil ⟨by kernel_rfl, ?_⟩
                  exact ⟨rfl, ⟨_, rfl, by rfl⟩, rfl, rfl, rfl⟩
          refine awp_seq ?_
          refine awp_bool (t := 2) (n := 8) (X := (gName e.id && decide ((0 : Int) < ((e.refs.map encStr).length : Int)) && decide (((e.refs.map encStr).length : Int) ≤ 2000) && e.refs.all gName) && gSameE ⟨e.op, e.id, sNil, sNil, 0, 0, sNil, sNil, e.refs, zObj⟩ e) ?_ ?_
          · all_goals (refine al_d rfl rfl rfl (by exact opd_move rfl rfl) ?_)
            all_goals (refine al_d rfl rfl rfl (by exact opd_move rfl rfl) ?_)
            all_goals (refine al_split (t := 127) rfl (fun h127 => ?_) (fun h127 => ?_))
            all_goals (try contradiction)
            all_goals (first | refine al_off rfl rfl rfl rfl rfl ?_ | refine al_ond rfl rfl rfl rfl rfl rfl (by exact (by exact opd_loadn_ref rfl Tryz.isAgg32 Tryz.sizeOf32 rfl rfl rfl rfl (by simp only [List.drop_succ_cons, List.drop_zero, List.take_succ_cons, List.take_zero, List.take_nil, List.map_cons, List.map_nil, List.set_cons_zero, List.set_cons_succ, List.cons_append, List.nil_append, encTag, encObj, encStr, encEdit, zObj]; rfl) rfl)) ?_)
            all_goals (first | refine al_off rfl rfl rfl rfl rfl ?_ | refine al_ond rfl rfl rfl rfl rfl rfl (by exact (by exact opd_loadn_ref rfl Tryz.isAgg32 Tryz.sizeOf32 rfl rfl rfl rfl (by simp only [List.drop_succ_cons, List.drop_zero, List.take_succ_cons, List.take_zero, List.take_nil, List.map_cons, List.map_nil, List.set_cons_zero, List.set_cons_succ, List.cons_append, List.nil_append, encTag, encObj, encStr, encEdit, zObj]; rfl) rfl)) ?_)
            all_goals (first | refine al_off rfl rfl rfl rfl rfl ?_ | refine al_ond rfl rfl rfl rfl rfl rfl (by exact opr_call rfl rfl Tryz.call45 rfl (sameE_c ⟨e.op, e.id, sNil, sNil, 0, 0, sNil, sNil, e.refs, zObj⟩ e _ (by exact h5) okS_z)) ?_)
            all_goals (refine al_d rfl rfl rfl (by exact (by first | exact opd_pick_t rfl rfl rfl | exact opd_pick_f rfl rfl rfl)) ?_)
            all_goals (refine al_d rfl rfl rfl (by exact opd_assign rfl rfl) ?_)
            all_goals (refine al_nil ?_)
            all_goals (exact ⟨⟨_, rfl, by (rw [h127]; rfl)⟩, rfl, rfl, rfl⟩)
          refine awp_ret ?_
          -- return
          refine aret1 (H' := []) (by exact .inr rfl) rfl (rval_tmp rfl) (Fin.wk (by simp) trivial trivial) ?_
          exact ⟨by rw [hv], rfl⟩
        · have ho4 : ¬ e.op = 4 := of_decide_eq_false hc4
          refine awp_seq ?_
          refine awp_region ?_
          refine al_d rfl rfl rfl (by exact opd_eql rfl rfl rfl) ?_
          refine al_d rfl rfl rfl (by exact opd_assign rfl rfl) ?_
          refine al_nil ?_
          refine awp_cond rfl (fun hc5 => ?_) (fun hc5 => ?_)
          -- cond 5
          · have ho : e.op = 5 := of_decide_eq_true hc5
            have hx : xOf e = ⟨e.op, e.id, sNil, sNil, 0, 0, sNil, sNil, [], zObj⟩ := by rw [xOf, if_neg ho1, if_neg ho2, if_neg ho3, if_neg ho4, if_pos ho]
            have hk : okOf e = (gName e.id) := by rw [okOf, if_neg ho1, if_neg ho2, if_neg ho3, if_neg ho4, if_pos ho]; simp
            have hv : gEditV e = ((gName e.id) && gSameE ⟨e.op, e.id, sNil, sNil, 0, 0, sNil, sNil, [], zObj⟩ e) := by rw [gEditV, hx, hk, ho]; rfl
            refine awp_skip ?_
            refine awp_seq ?_
            refine awp_bool (t := 2) (n := 8) (X := (gName e.id) && gSameE ⟨e.op, e.id, sNil, sNil, 0, 0, sNil, sNil, [], zObj⟩ e) ?_ ?_
            · all_goals (refine al_d rfl rfl rfl (by exact opd_move rfl rfl) ?_)
              all_goals (refine al_d rfl rfl rfl (by exact opd_move rfl rfl) ?_)
              all_goals (refine al_split (t := 127) rfl (fun h127 => ?_) (fun h127 => ?_))
              all_goals (try contradiction)
              all_goals (first | refine al_off rfl rfl rfl rfl rfl ?_ | refine al_ond rfl rfl rfl rfl rfl rfl (by exact (by exact opd_loadn_ref rfl Tryz.isAgg32 Tryz.sizeOf32 rfl rfl rfl rfl (by simp only [List.drop_succ_cons, List.drop_zero, List.take_succ_cons, List.take_zero, List.take_nil, List.map_cons, List.map_nil, List.set_cons_zero, List.set_cons_succ, List.cons_append, List.nil_append, encTag, encObj, encStr, encEdit, zObj]; rfl) rfl)) ?_)
              all_goals (first | refine al_off rfl rfl rfl rfl rfl ?_ | refine al_ond rfl rfl rfl rfl rfl rfl (by exact (by exact opd_loadn_ref rfl Tryz.isAgg32 Tryz.sizeOf32 rfl rfl rfl rfl (by simp only [List.drop_succ_cons, List.drop_zero, List.take_succ_cons, List.take_zero, List.take_nil, List.map_cons, List.map_nil, List.set_cons_zero, List.set_cons_succ, List.cons_append, List.nil_append, encTag, encObj, encStr, encEdit, zObj]; rfl) rfl)) ?_)
              all_goals (first | refine al_off rfl rfl rfl rfl rfl ?_ | refine al_ond rfl rfl rfl rfl rfl rfl (by exact opr_call rfl rfl Tryz.call45 rfl (sameE_c ⟨e.op, e.id, sNil, sNil, 0, 0, sNil, sNil, [], zObj⟩ e _ (by (show 0 < _; omega)) okS_z)) ?_)
              all_goals (refine al_d rfl rfl rfl (by exact (by first | exact opd_pick_t rfl rfl rfl | exact opd_pick_f rfl rfl rfl)) ?_)
              all_goals (refine al_d rfl rfl rfl (by exact opd_assign rfl rfl) ?_)
              all_goals (refine al_nil ?_)
              all_goals (exact ⟨⟨_, rfl, by (rw [h127]; rfl)⟩, rfl, rfl, rfl⟩)
            refine awp_ret ?_
            -- return
            refine aret1 (H' := []) (by exact .inr rfl) rfl (rval_tmp rfl) (Fin.wk (by simp) trivial trivial) ?_
            exact ⟨by rw [hv], rfl⟩
          · have ho5 : ¬ e.op = 5 := of_decide_eq_false hc5
            refine awp_seq ?_
            refine awp_region ?_
            refine al_d rfl rfl rfl (by exact opd_eql rfl rfl rfl) ?_
            refine al_d rfl rfl rfl (by exact opd_assign rfl rfl) ?_
            refine al_nil ?_
            refine awp_cond rfl (fun hc6 => ?_) (fun hc6 => ?_)
            -- cond 6
            · have ho : e.op = 6 := of_decide_eq_true hc6
              have hx : xOf e = ⟨e.op, e.id, e.other, e.node, 0, 0, sNil, sNil, [], zObj⟩ := by rw [xOf, if_neg ho1, if_neg ho2, if_neg ho3, if_neg ho4, if_neg ho5, if_pos ho]
              have hk : okOf e = (gName e.id && (gName e.node && gName e.other)) := by rw [okOf, if_neg ho1, if_neg ho2, if_neg ho3, if_neg ho4, if_neg ho5, if_pos ho]
              have hb : (gName e.id && (gName e.node && gName e.other)) = (gName e.id && (gName e.node && gName e.other)) := by rfl
              have hv : gEditV e = ((gName e.id && (gName e.node && gName e.other)) && gSameE ⟨e.op, e.id, e.other, e.node, 0, 0, sNil, sNil, [], zObj⟩ e) := by rw [gEditV, hx, hk, hb, ho]; rfl
              apply awp_mergeW (t := 4) (n := 16) (X := gName e.id && (gName e.node && gName e.other))
              · cases hg104 : (gName e.id : Bool)
                · refine awp_drawc follows ?_
                  refine dc_cons (r := ⟨_, some [1], []⟩) (DStep.plain rfl (fun H1 hH => by exact (by exact opd_field_ref rfl fo32_3 rfl ((hH _ rfl).trans rfl) rfl rfl))) rfl ?_
                  refine dc_cons (r := ⟨_, some [1], []⟩) (DStep.plain rfl (fun H1 hH => by exact (by exact opd_load1_ref rfl Tryz.isAgg9 rfl ((hH _ rfl).trans rfl) rfl rfl rfl))) rfl ?_
                  refine dc_cons (r := ⟨_, some [1], []⟩) (DStep.plain rfl (fun H1 hH => by exact (by exact opd_field_ref rfl fo32_2 rfl ((hH _ rfl).trans rfl) rfl rfl))) rfl ?_
                  refine dc_cons (r := ⟨_, some [1], []⟩) (DStep.plain rfl (fun H1 hH => by exact (by exact opd_load1_ref rfl Tryz.isAgg9 rfl ((hH _ rfl).trans rfl) rfl rfl rfl))) rfl ?_
                  refine dc_cons (r := ⟨_, some [], []⟩) (DStep.plain rfl (fun H1 hH => by exact opd_move rfl rfl)) rfl ?_
                  refine dc_cons (r := ⟨_, some [], []⟩) (DStep.plain rfl (fun H1 hH => by exact opd_move rfl rfl)) rfl ?_
                  refine dc_cons (q_off_t rfl rfl rfl (by rfl)) rfl ?_
                  refine dc_cons (q_off_t rfl rfl rfl (by rfl)) rfl ?_
                  refine dc_cons (q_off_t rfl rfl rfl (by rfl)) rfl ?_
                  refine dc_cons (q_off_t rfl rfl rfl (by rfl)) rfl ?_
                  refine dc_cons (q_off_t rfl rfl rfl (by rfl)) rfl ?_
                  refine dc_cons (q_off_t rfl rfl rfl (by rfl)) rfl ?_
                  refine dc_cons (r := ⟨_, some [], []⟩) (DStep.plain rfl (fun H1 hH => by exact (by exact opd_pick_f rfl rfl rfl))) rfl ?_
                  refine dc_cons (r := ⟨_, some [3], []⟩) (DStep.plain rfl (fun H1 hH => by exact (by exact opd_field_ref rfl fo32_3 rfl ((hH _ rfl).trans rfl) rfl rfl))) rfl ?_
                  refine dc_cons (r := ⟨_, some [3], [_]⟩) (DStep.plain rfl (fun H1 hH => by exact (by exact x_store1 rfl Tryz.sizeOf9 rfl rfl rfl ((hH _ rfl).trans rfl) rfl rfl (Nat.le_of_ble_eq_true rfl) rfl rfl))) rfl ?_
                  refine dc_cons (r := ⟨_, some [3], []⟩) (DStep.plain rfl (fun H1 hH => by exact (by exact opd_field_ref rfl fo32_2 rfl ((hH _ rfl).trans rfl) rfl rfl))) rfl ?_
                  refine dc_cons (r := ⟨_, some [3], [_]⟩) (DStep.plain rfl (fun H1 hH => by exact (by exact x_store1 rfl Tryz.sizeOf9 rfl rfl rfl ((hH _ rfl).trans rfl) rfl rfl (Nat.le_of_ble_eq_true rfl) rfl rfl))) rfl ?_
                  refine dc_cons (r := ⟨_, some [], []⟩) (DStep.plain rfl (fun H1 hH => by exact opd_assign rfl rfl)) rfl ?_
                  refine dc_nil ⟨by kernel_rfl, ?_⟩
                  exact ⟨rfl, ⟨_, rfl, by rfl⟩, rfl, rfl, rfl⟩
                · refine awp_drawc follows ?_
                  refine dc_cons (r := ⟨_, some [1], []⟩) (DStep.plain rfl (fun H1 hH => by exact (by exact opd_field_ref rfl fo32_3 rfl ((hH _ rfl).trans rfl) rfl rfl))) rfl ?_
                  refine dc_cons (r := ⟨_, some [1], []⟩) (DStep.plain rfl (fun H1 hH => by exact (by exact opd_load1_ref rfl Tryz.isAgg9 rfl ((hH _ rfl).trans rfl) rfl rfl rfl))) rfl ?_
                  refine dc_cons (r := ⟨_, some [1], []⟩) (DStep.plain rfl (fun H1 hH => by exact (by exact opd_field_ref rfl fo32_2 rfl ((hH _ rfl).trans rfl) rfl rfl))) rfl ?_
                  refine dc_cons (r := ⟨_, some [1], []⟩) (DStep.plain rfl (fun H1 hH => by exact (by exact opd_load1_ref rfl Tryz.isAgg9 rfl ((hH _ rfl).trans rfl) rfl rfl rfl))) rfl ?_
                  refine dc_cons (r := ⟨_, some [], []⟩) (DStep.plain rfl (fun H1 hH => by exact opd_move rfl rfl)) rfl ?_
                  refine dc_cons (r := ⟨_, some [], []⟩) (DStep.plain rfl (fun H1 hH => by exact opd_move rfl rfl)) rfl ?_
                  refine dc_cons (r := ⟨_, some [1], []⟩) (l_on_t rfl rfl rfl (by rfl) (fun H1 hH => by exact (by exact opd_field_ref rfl fo32_3 rfl ((hH _ rfl).trans rfl) rfl rfl))) rfl ?_
                  refine dc_cons (r := ⟨_, some [1], []⟩) (l_on_t rfl rfl rfl (by rfl) (fun H1 hH => by exact (by exact opd_load1_ref rfl Tryz.isAgg9 rfl ((hH _ rfl).trans rfl) rfl rfl rfl))) rfl ?_
                  refine dc_cons (r := ⟨_, some [1], []⟩) (l_on_t rfl rfl rfl (by rfl) (fun H1 hH => by exact (by exact opd_field_ref rfl fo32_2 rfl ((hH _ rfl).trans rfl) rfl rfl))) rfl ?_
                  refine dc_cons (r := ⟨_, some [1], []⟩) (l_on_t rfl rfl rfl (by rfl) (fun H1 hH => by exact (by exact opd_load1_ref rfl Tryz.isAgg9 rfl ((hH _ rfl).trans rfl) rfl rfl rfl))) rfl ?_
                  refine dc_cons (r := ⟨_, some [], []⟩) (l_on_t rfl rfl rfl (by rfl) (fun H1 hH => by exact (by exact x_buildSlice ([e.node, e.other].map encStr) rfl so27 rfl rfl rfl rfl rfl (by simp [encStr])))) rfl ?_
                  refine dc_cons (r := ⟨_, some [], []⟩) (l_on_t rfl rfl rfl (by rfl) (fun H1 hH => by exact opr_call rfl rfl Tryz.call43 rfl (n2_c e.node e.other _ h3 h2))) rfl ?_
                  refine dc_cons (r := ⟨_, some [], []⟩) (DStep.plain rfl (fun H1 hH => by exact (by exact opd_pick_t rfl rfl rfl))) rfl ?_
                  refine dc_cons (r := ⟨_, some [3], []⟩) (DStep.plain rfl (fun H1 hH => by exact (by exact opd_field_ref rfl fo32_3 rfl ((hH _ rfl).trans rfl) rfl rfl))) rfl ?_
                  refine dc_cons (r := ⟨_, some [3], [_]⟩) (DStep.plain rfl (fun H1 hH => by exact (by exact x_store1 rfl Tryz.sizeOf9 rfl rfl rfl ((hH _ rfl).trans rfl) rfl rfl (Nat.le_of_ble_eq_true rfl) rfl rfl))) rfl ?_
                  refine dc_cons (r := ⟨_, some [3], []⟩) (DStep.plain rfl (fun H1 hH => by exact (by exact opd_field_ref rfl fo32_2 rfl ((hH _ rfl).trans rfl) rfl rfl))) rfl ?_
                  refine dc_cons (r := ⟨_, some [3], [_]⟩) (DStep.plain rfl (fun H1 hH => by exact (by exact x_store1 rfl Tryz.sizeOf9 rfl rfl rfl ((hH _ rfl).trans rfl) rfl rfl (Nat.le_of_ble_eq_true rfl) rfl rfl))) rfl ?_
                  refine dc_cons (r := ⟨_, some [], []⟩) (DStep.plain rfl (fun H1 hH => by exact opd_assign rfl rfl)) rfl ?_
                  refine dc_nil ⟨by kernel_rfl, ?_⟩
                  exact ⟨rfl, ⟨_, rfl, by rfl⟩, rfl, rfl, rfl⟩
              refine awp_seq ?_
              refine awp_bool (t := 2) (n := 8) (X := (gName e.id && (gName e.node && gName e.other)) && gSameE ⟨e.op, e.id, e.other, e.node, 0, 0, sNil, sNil, [], zObj⟩ e) ?_ ?_
              · all_goals (refine al_d rfl rfl rfl (by exact opd_move rfl rfl) ?_)
                all_goals (refine al_d rfl rfl rfl (by exact opd_move rfl rfl) ?_)
                all_goals (refine al_split (t := 127) rfl (fun h127 => ?_) (fun h127 => ?_))
                all_goals (try contradiction)
                all_goals (first | refine al_off rfl rfl rfl rfl rfl ?_ | refine al_ond rfl rfl rfl rfl rfl rfl (by exact (by exact opd_loadn_ref rfl Tryz.isAgg32 Tryz.sizeOf32 rfl rfl rfl rfl (by simp only [List.drop_succ_cons, List.drop_zero, List.take_succ_cons, List.take_zero, List.take_nil, List.map_cons, List.map_nil, List.set_cons_zero, List.set_cons_succ, List.cons_append, List.nil_append, encTag, encObj, encStr, encEdit, zObj]; rfl) rfl)) ?_)
                all_goals (first | refine al_off rfl rfl rfl rfl rfl ?_ | refine al_ond rfl rfl rfl rfl rfl rfl (by exact (by exact opd_loadn_ref rfl Tryz.isAgg32 Tryz.sizeOf32 rfl rfl rfl rfl (by simp only [List.drop_succ_cons, List.drop_zero, List.take_succ_cons, List.take_zero, List.take_nil, List.map_cons, List.map_nil, List.set_cons_zero, List.set_cons_succ, List.cons_append, List.nil_append, encTag, encObj, encStr, encEdit, zObj]; rfl) rfl)) ?_)
                all_goals (first | refine al_off rfl rfl rfl rfl rfl ?_ | refine al_ond rfl rfl rfl rfl rfl rfl (by exact opr_call rfl rfl Tryz.call45 rfl (sameE_c ⟨e.op, e.id, e.other, e.node, 0, 0, sNil, sNil, [], zObj⟩ e _ (by (show 0 < _; omega)) okS_z)) ?_)
                all_goals (refine al_d rfl rfl rfl (by exact (by first | exact opd_pick_t rfl rfl rfl | exact opd_pick_f rfl rfl rfl)) ?_)
                all_goals (refine al_d rfl rfl rfl (by exact opd_assign rfl rfl) ?_)
                all_goals (refine al_nil ?_)
                all_goals (exact ⟨⟨_, rfl, by (rw [h127]; rfl)⟩, rfl, rfl, rfl⟩)
              refine awp_ret ?_
              -- return
              refine aret1 (H' := []) (by exact .inr rfl) rfl (rval_tmp rfl) (Fin.wk (by simp) trivial trivial) ?_
              exact ⟨by rw [hv], rfl⟩
            · have ho6 : ¬ e.op = 6 := of_decide_eq_false hc6
              refine awp_seq ?_
              refine awp_region ?_
              refine al_d rfl rfl rfl (by exact opd_eql rfl rfl rfl) ?_
              refine al_d rfl rfl rfl (by exact opd_assign rfl rfl) ?_
              refine al_nil ?_
              refine awp_cond rfl (fun hc7 => ?_) (fun hc7 => ?_)
              -- cond 7
              · have ho : e.op = 7 := of_decide_eq_true hc7
                have hx : xOf e = ⟨e.op, e.id, e.other, sNil, 0, 0, sNil, sNil, [], zObj⟩ := by rw [xOf, if_neg ho1, if_neg ho2, if_neg ho3, if_neg ho4, if_neg ho5, if_neg ho6]
                have hk : okOf e = (gName e.id && gName e.other) := by rw [okOf, if_neg ho1, if_neg ho2, if_neg ho3, if_neg ho4, if_neg ho5, if_neg ho6]
                have hb : (gName e.id && gName e.other) = (gName e.id && gName e.other) := by rfl
                have hv : gEditV e = ((gName e.id && gName e.other) && gSameE ⟨e.op, e.id, e.other, sNil, 0, 0, sNil, sNil, [], zObj⟩ e) := by rw [gEditV, hx, hk, hb, ho]; rfl
                apply awp_mergeW (t := 4) (n := 11) (X := gName e.id && gName e.other)
                · cases hg119 : (gName e.id : Bool)
                  · refine awp_drawc follows ?_
                    refine dc_cons (r := ⟨_, some [1], []⟩) (DStep.plain rfl (fun H1 hH => by exact (by exact opd_field_ref rfl fo32_2 rfl ((hH _ rfl).trans rfl) rfl rfl))) rfl ?_
                    refine dc_cons (r := ⟨_, some [1], []⟩) (DStep.plain rfl (fun H1 hH => by exact (by exact opd_load1_ref rfl Tryz.isAgg9 rfl ((hH _ rfl).trans rfl) rfl rfl rfl))) rfl ?_
                    refine dc_cons (r := ⟨_, some [], []⟩) (DStep.plain rfl (fun H1 hH => by exact opd_move rfl rfl)) rfl ?_
                    refine dc_cons (r := ⟨_, some [], []⟩) (DStep.plain rfl (fun H1 hH => by exact opd_move rfl rfl)) rfl ?_
                    refine dc_cons (q_off_t rfl rfl rfl (by rfl)) rfl ?_
                    refine dc_cons (q_off_t rfl rfl rfl (by rfl)) rfl ?_
                    refine dc_cons (q_off_t rfl rfl rfl (by rfl)) rfl ?_
                    refine dc_cons (q_off_t rfl rfl rfl (by rfl)) rfl ?_
                    refine dc_cons (r := ⟨_, some [], []⟩) (DStep.plain rfl (fun H1 hH => by exact (by exact opd_pick_f rfl rfl rfl))) rfl ?_
                    refine dc_cons (r := ⟨_, some [3], []⟩) (DStep.plain rfl (fun H1 hH => by exact (by exact opd_field_ref rfl fo32_2 rfl ((hH _ rfl).trans rfl) rfl rfl))) rfl ?_
                    refine dc_cons (r := ⟨_, some [3], [_]⟩) (DStep.plain rfl (fun H1 hH => by exact (by exact x_store1 rfl Tryz.sizeOf9 rfl rfl rfl ((hH _ rfl).trans rfl) rfl rfl (Nat.le_of_ble_eq_true rfl) rfl rfl))) rfl ?_
                    refine dc_cons (r := ⟨_, some [], []⟩) (DStep.plain rfl (fun H1 hH => by exact opd_assign rfl rfl)) rfl ?_
                    refine dc_nil ⟨by kernel_rfl, ?_⟩
                    exact ⟨rfl, ⟨_, rfl, by rfl⟩, rfl, rfl, rfl⟩
                  · refine awp_drawc follows ?_
                    refine dc_cons (r := ⟨_, some [1], []⟩) (DStep.plain rfl (fun H1 hH => by exact (by exact opd_field_ref rfl fo32_2 rfl ((hH _ rfl).trans rfl) rfl rfl))) rfl ?_
                    refine dc_cons (r := ⟨_, some [1], []⟩) (DStep.plain rfl (fun H1 hH => by exact (by exact opd_load1_ref rfl Tryz.isAgg9 rfl ((hH _ rfl).trans rfl) rfl rfl rfl))) rfl ?_
                    refine dc_cons (r := ⟨_, some [], []⟩) (DStep.plain rfl (fun H1 hH => by exact opd_move rfl rfl)) rfl ?_
                    refine dc_cons (r := ⟨_, some [], []⟩) (DStep.plain rfl (fun H1 hH => by exact opd_move rfl rfl)) rfl ?_
                    refine dc_cons (r := ⟨_, some [1], []⟩) (l_on_t rfl rfl rfl (by rfl) (fun H1 hH => by exact (by exact opd_field_ref rfl fo32_2 rfl ((hH _ rfl).trans rfl) rfl rfl))) rfl ?_
                    refine dc_cons (r := ⟨_, some [1], []⟩) (l_on_t rfl rfl rfl (by rfl) (fun H1 hH => by exact (by exact opd_load1_ref rfl Tryz.isAgg9 rfl ((hH _ rfl).trans rfl) rfl rfl rfl))) rfl ?_
                    refine dc_cons (r := ⟨_, some [], []⟩) (l_on_t rfl rfl rfl (by rfl) (fun H1 hH => by exact (by exact x_buildSlice ([e.other].map encStr) rfl so27 rfl rfl rfl rfl rfl (by simp [encStr])))) rfl ?_
                    refine dc_cons (r := ⟨_, some [], []⟩) (l_on_t rfl rfl rfl (by rfl) (fun H1 hH => by exact opr_call rfl rfl Tryz.call43 rfl (n1_c e.other _ h2))) rfl ?_
                    refine dc_cons (r := ⟨_, some [], []⟩) (DStep.plain rfl (fun H1 hH => by exact (by exact opd_pick_t rfl rfl rfl))) rfl ?_
                    refine dc_cons (r := ⟨_, some [3], []⟩) (DStep.plain rfl (fun H1 hH => by exact (by exact opd_field_ref rfl fo32_2 rfl ((hH _ rfl).trans rfl) rfl rfl))) rfl ?_
                    refine dc_cons (r := ⟨_, some [3], [_]⟩) (DStep.plain rfl (fun H1 hH => by exact (by exact x_store1 rfl Tryz.sizeOf9 rfl rfl rfl ((hH _ rfl).trans rfl) rfl rfl (Nat.le_of_ble_eq_true rfl) rfl rfl))) rfl ?_
                    refine dc_cons (r := ⟨_, some [], []⟩) (DStep.plain rfl (fun H1 hH => by exact opd_assign rfl rfl)) rfl ?_
                    refine dc_nil ⟨by kernel_rfl, ?_⟩
                    exact ⟨rfl, ⟨_, rfl, by rfl⟩, rfl, rfl, rfl⟩
                refine awp_seq ?_
                refine awp_bool (t := 2) (n := 8) (X := (gName e.id && gName e.other) && gSameE ⟨e.op, e.id, e.other, sNil, 0, 0, sNil, sNil, [], zObj⟩ e) ?_ ?_
                · all_goals (refine al_d rfl rfl rfl (by exact opd_move rfl rfl) ?_)
                  all_goals (refine al_d rfl rfl rfl (by exact opd_move rfl rfl) ?_)
                  all_goals (refine al_split (t := 127) rfl (fun h127 => ?_) (fun h127 => ?_))
                  all_goals (try contradiction)
                  all_goals (first | refine al_off rfl rfl rfl rfl rfl ?_ | refine al_ond rfl rfl rfl rfl rfl rfl (by exact (by exact opd_loadn_ref rfl Tryz.isAgg32 Tryz.sizeOf32 rfl rfl rfl rfl (by simp only [List.drop_succ_cons, List.drop_zero, List.take_succ_cons, List.take_zero, List.take_nil, List.map_cons, List.map_nil, List.set_cons_zero, List.set_cons_succ, List.cons_append, List.nil_append, encTag, encObj, encStr, encEdit, zObj]; rfl) rfl)) ?_)
                  all_goals (first | refine al_off rfl rfl rfl rfl rfl ?_ | refine al_ond rfl rfl rfl rfl rfl rfl (by exact (by exact opd_loadn_ref rfl Tryz.isAgg32 Tryz.sizeOf32 rfl rfl rfl rfl (by simp only [List.drop_succ_cons, List.drop_zero, List.take_succ_cons, List.take_zero, List.take_nil, List.map_cons, List.map_nil, List.set_cons_zero, List.set_cons_succ, List.cons_append, List.nil_append, encTag, encObj, encStr, encEdit, zObj]; rfl) rfl)) ?_)
                  all_goals (first | refine al_off rfl rfl rfl rfl rfl ?_ | refine al_ond rfl rfl rfl rfl rfl rfl (by exact opr_call rfl rfl Tryz.call45 rfl (sameE_c ⟨e.op, e.id, e.other, sNil, 0, 0, sNil, sNil, [], zObj⟩ e _ (by (show 0 < _; omega)) okS_z)) ?_)
                  all_goals (refine al_d rfl rfl rfl (by exact (by first | exact opd_pick_t rfl rfl rfl | exact opd_pick_f rfl rfl rfl)) ?_)
                  all_goals (refine al_d rfl rfl rfl (by exact opd_assign rfl rfl) ?_)
                  all_goals (refine al_nil ?_)
                  all_goals (exact ⟨⟨_, rfl, by (rw [h127]; rfl)⟩, rfl, rfl, rfl⟩)
                refine awp_ret ?_
                -- return
                refine aret1 (H' := []) (by exact .inr rfl) rfl (rval_tmp rfl) (Fin.wk (by simp) trivial trivial) ?_
                exact ⟨by rw [hv], rfl⟩
              · have ho7 : ¬ e.op = 7 := of_decide_eq_false hc7
                refine awp_seq ?_
                refine awp_region ?_
                refine al_d rfl rfl rfl (by exact opd_assign rfl rfl) ?_
                refine al_nil ?_
                refine awp_ret ?_
                -- return
                refine aret1 (H' := []) (by exact .inr rfl) rfl (rval_tmp rfl) (Fin.wk (by simp) trivial trivial) ?_
                refine ⟨?_, rfl⟩
                have : gEditV e = false := by
                  rw [gEditV, Bool.and_eq_false_iff]
                  left
                  rw [Bool.and_eq_false_iff, decide_eq_false_iff_not, decide_eq_false_iff_not]
                  omega
                rw [this]
theorem changeValid1_c (e : GEdit) (H : Heap) (he : okE e) : ACalls Tryz.prog 61 [av (encEdit e)] H (fun r H' => r = bv (!gEditV e) ∧ H' = H) := by
  refine ACalls.pure ?_ (by simp) H
  refine ACalls.body Tryz.func61 rfl Tryz.ntmps61 (Nat.le_of_ble_eq_true rfl) ?_
  refine awp_seq ?_
  refine awp_region ?_
  refine al_d rfl rfl rfl (by exact opd_box (id := 1) rfl rfl rfl rfl rfl) ?_
  refine al_d rfl rfl rfl (by exact opd_assign rfl rfl) ?_
  refine al_nil ?_
  refine awp_seq ?_
  refine awp_region ?_
  refine al_d rfl rfl rfl (by exact (by exact opd_loadn_ref rfl Tryz.isAgg32 Tryz.sizeOf32 rfl rfl rfl rfl (by simp only [List.drop_succ_cons, List.drop_zero, List.take_succ_cons, List.take_zero, List.take_nil, List.map_cons, List.map_nil, List.set_cons_zero, List.set_cons_succ, List.cons_append, List.nil_append, encTag, encObj, encStr, encEdit, zObj]; rfl) rfl)) ?_
  refine al_d rfl rfl rfl (by exact opr_call rfl rfl Tryz.call14 rfl (editValid_c e _ he)) ?_
  refine al_d rfl rfl rfl (by exact opd_not rfl rfl) ?_
  refine al_d rfl rfl rfl (by exact opd_assign rfl rfl) ?_
  refine al_nil ?_
  refine awp_ret ?_
  -- return
  refine aret1 (H' := []) (by exact .inr rfl) rfl (rval_tmp rfl) (Fin.wk (by simp) trivial trivial) ?_
  exact ⟨rfl, rfl⟩
def gChange (l : List GEdit) : Bool := decide ((0 : Int) < (l.length : Int)) && decide ((l.length : Int) ≤ 200) && !(l.any (fun e => !gEditV e))
theorem changeValid_c (l : List GEdit) (H : Heap) (hl : l.length < 4611686018427387904) (he : ∀ e ∈ l, okE e) : ACalls Tryz.prog 26 [.pv (slEdits l)] H (fun r H' => r = bv (gChange l) ∧ H' = H) := by
  refine ACalls.pure ?_ (by simp) H
  have hml : (l.map encEdit).length = l.length := List.length_map _
  refine ACalls.body Tryz.func26 rfl Tryz.ntmps26 (Nat.le_of_ble_eq_true rfl) ?_
  refine awp_seq ?_
  refine awp_region ?_
  refine al_d rfl rfl rfl (by exact opd_assign rfl rfl) ?_
  refine al_nil ?_
  refine awp_seq ?_
  refine awp_bool (t := 2) (n := 16) (X := decide ((0 : Int) < ((l.map encEdit).length : Int)) && decide (((l.map encEdit).length : Int) ≤ 200) && !(l.any (fun e => !gEditV e))) ?_ ?_
  · all_goals (refine al_d rfl rfl rfl (by exact opd_move rfl rfl) ?_)
    all_goals (refine al_d rfl rfl rfl (by exact (by exact opd_len_sl rfl Tryz.underlying46 rfl)) ?_)
    all_goals (refine al_d rfl rfl rfl (by exact opd_gtr rfl rfl rfl) ?_)
    all_goals (refine al_d rfl rfl rfl (by exact opd_move rfl rfl) ?_)
    all_goals (refine al_split (t := 6) rfl (fun h6 => ?_) (fun h6 => ?_))
    all_goals (try contradiction)
    all_goals (first | refine al_off rfl rfl rfl rfl rfl ?_ | refine al_ond rfl rfl rfl rfl rfl rfl (by exact opd_move rfl rfl) ?_)
    all_goals (first | refine al_off rfl rfl rfl rfl rfl ?_ | refine al_ond rfl rfl rfl rfl rfl rfl (by exact (by exact opd_len_sl rfl Tryz.underlying46 rfl)) ?_)
    all_goals (first | refine al_off rfl rfl rfl rfl rfl ?_ | refine al_ond rfl rfl rfl rfl rfl rfl (by exact opd_leq rfl rfl rfl) ?_)
    all_goals (refine al_d rfl rfl rfl (by exact (by first | exact opd_pick_t rfl rfl rfl | exact opd_pick_f rfl rfl rfl)) ?_)
    all_goals (refine al_d rfl rfl rfl (by exact opd_move rfl rfl) ?_)
    all_goals (refine al_split (t := 11) rfl (fun h11 => ?_) (fun h11 => ?_))
    all_goals (try contradiction)
    all_goals (first | refine al_off rfl rfl rfl rfl rfl ?_ | refine al_ond rfl rfl rfl rfl rfl rfl (by exact opd_move rfl rfl) ?_)
    all_goals (first | refine al_off rfl rfl rfl rfl rfl ?_ | refine al_ond rfl rfl rfl rfl rfl rfl (by exact opr_call rfl rfl Tryz.call60 rfl (containsFunc_GEdit (.pv (.fn 61)) l (fun e => !gEditV e) _ hl (fun e h => CallsV.fn Tryz.call61 (changeValid1_c e _ (he e h))))) ?_)
    all_goals (first | refine al_off rfl rfl rfl rfl rfl ?_ | refine al_ond rfl rfl rfl rfl rfl rfl (by exact opd_not rfl rfl) ?_)
    all_goals (refine al_d rfl rfl rfl (by exact (by first | exact opd_pick_t rfl rfl rfl | exact opd_pick_f rfl rfl rfl)) ?_)
    all_goals (refine al_d rfl rfl rfl (by exact opd_assign rfl rfl) ?_)
    all_goals (refine al_nil ?_)
    all_goals (exact ⟨⟨_, rfl, by first | (simp_all; done) | (simp_all; omega)⟩, rfl, rfl, rfl⟩)
  refine awp_ret ?_
  -- return
  refine aret1 (H' := []) (by exact .inr rfl) rfl (rval_tmp rfl) (Fin.wk (by simp) trivial trivial) ?_
  exact ⟨by rw [gChange, hml], rfl⟩
end Go.Proofs.YtdcifaldfmpapaaGreat
end
section
set_option linter.unusedVariables false
set_option linter.unusedSimpArgs false
set_option maxRecDepth 100000
namespace Go.Proofs.YtdcifaldfmpapaaGreat
open Go.Abs
theorem find1_c (o : GObj) (id : ByteArray) (H : Heap) (T : Nat) (h3 : H.get 3 = some (bx 1 T [sv id])) (h9 : H.get 972 = none) (hc : Closed H) :
    ACalls Tryz.prog 47 [av (encObj o), .ref 3 0 0 0] H (fun r H' => r = bv (idIs id o) ∧ H' = H) := by
  have h3' : Heap.get ((972, bx 6 30 ((encObj o).map .pv)) :: H) 3 = some (bx 1 T [sv id]) := h3
  refine ACalls.body Tryz.func47 rfl Tryz.ntmps47 (Nat.le_of_ble_eq_true rfl) ?_
  refine awp_seq ?_
  refine awp_region ?_
  refine al_d rfl rfl rfl (by exact opd_box (id := 972) rfl rfl rfl rfl h9) ?_
  refine al_d rfl rfl rfl (by exact opd_assign rfl rfl) ?_
  refine al_nil ?_
  refine awp_seq ?_
  refine awp_region ?_
  refine al_d rfl rfl rfl (by exact (by exact opd_field_ref rfl fo30_0 rfl rfl rfl rfl)) ?_
  refine al_d rfl rfl rfl (by exact (by exact opd_load1_ref rfl Tryz.isAgg9 rfl rfl rfl rfl rfl)) ?_
  refine al_d rfl rfl rfl (by exact opd_load1_ref rfl Tryz.isAgg9 rfl h3' rfl rfl rfl) ?_
  refine al_d rfl rfl rfl (by exact opd_seql rfl rfl rfl) ?_
  refine al_d rfl rfl rfl (by exact opd_assign rfl rfl) ?_
  refine al_nil ?_
  refine awp_ret ?_
  -- return
  refine aret1 (H' := H) (.inr rfl) rfl (rval_tmp rfl) (Fin.pops [(972, bx 6 30 ((encObj o).map .pv))] (by simp) hc (by simp [h9])) ⟨rfl, rfl⟩
theorem find_c (m : List GObj) (id : ByteArray) (H : Heap) (hm : m.length < 4611686018427387904) : ACalls Tryz.prog 16 [.agg [.pv (slObjs m)], sv id] H (fun r H' => r = iv (gidx (idIs id) m) ∧ H' = H) := by
  refine ACalls.pure ?_ (by simp) H
  have hf : ∀ o, o ∈ m → CallsV Tryz.prog (.clo 47 [.ref 3 0 0 0]) [.agg ((encObj o).map .pv)] [(3, bx 1 9 [sv id]), (2, bx 1 24 [.pv (slObjs m)])] (fun r H' => r = bv (idIs id o) ∧ H' = [(3, bx 1 9 [sv id]), (2, bx 1 24 [.pv (slObjs m)])]) :=
    fun o _ => CallsV.clo Tryz.call47 (find1_c o id _ 9 rfl rfl (Closed.of (by simp)))
  refine ACalls.body Tryz.func16 rfl Tryz.ntmps16 (Nat.le_of_ble_eq_true rfl) ?_
  refine awp_seq ?_
  refine awp_region ?_
  refine al_d rfl rfl rfl (by exact opd_box (id := 2) rfl rfl rfl rfl rfl) ?_
  refine al_d rfl rfl rfl (by exact opd_box (id := 3) rfl rfl rfl rfl rfl) ?_
  refine al_d rfl rfl rfl (by exact opd_assign rfl rfl) ?_
  refine al_nil ?_
  refine awp_seq ?_
  refine awp_region ?_
  refine al_d rfl rfl rfl (by exact (by exact opd_field_ref rfl fo24_0 rfl rfl rfl rfl)) ?_
  refine al_d rfl rfl rfl (by exact (by exact opd_load1_ref rfl Tryz.isAgg22 rfl rfl rfl rfl rfl)) ?_
  refine al_d rfl rfl rfl (by exact opd_makeFunc rfl rfl) ?_
  refine al_d rfl rfl rfl (by exact opr_call rfl rfl Tryz.call46 rfl (indexFunc_GObj _ m (idIs id) _ hm hf)) ?_
  refine al_d rfl rfl rfl (by exact opd_assign rfl rfl) ?_
  refine al_nil ?_
  refine awp_ret ?_
  -- return
  refine aret1 (H' := []) (by exact .inr rfl) rfl (rval_tmp rfl) (Fin.wk (by simp) trivial trivial) ?_
  exact ⟨rfl, rfl⟩
def ptRow (p : Int × Int) : List PV := [.int .i64 p.1, .int .i64 p.2]
theorem near_c (x y u v : Int) (H : Heap) : ACalls Tryz.prog 150 [lv [[.int .i64 x, .int .i64 y], [.int .i64 u, .int .i64 v]]] H (fun r H' => r = bv (nearP x y && nearP u v) ∧ H' = H) := by
  refine ACalls.pure ?_ (by simp) H
  obtain ⟨L, hL⟩ : ∃ L : List (Int × Int), L = [(x, y), (u, v)] := ⟨_, rfl⟩
  have e1 : ([[.int .i64 x, .int .i64 y], [.int .i64 u, .int .i64 v]] : List (List PV)) = L.map ptRow := by rw [hL]; rfl
  have e2 : (nearP x y && nearP u v) = L.all (fun p => nearP p.1 p.2) := by rw [hL]; simp
  have hl : L.length = 2 := by rw [hL]; rfl
  rw [e1, e2]
  clear hL e1 e2
  have hml : (L.map ptRow).length = L.length := List.length_map _
  refine ACalls.body Tryz.func150 rfl Tryz.ntmps150 (Nat.le_of_ble_eq_true rfl) ?_
  refine awp_seq ?_
  refine awp_region ?_
  refine al_d rfl rfl rfl (by exact opd_assign rfl rfl) ?_
  refine al_nil ?_
  refine awp_seq ?_
  refine awp_seq ?_
  refine awp_region ?_
  refine al_d rfl rfl rfl (by exact opd_move rfl rfl) ?_
  refine al_d rfl rfl rfl (by exact (by exact opd_len_sl rfl Tryz.underlying200 rfl)) ?_
  refine al_d rfl rfl rfl (by exact opd_move rfl rfl) ?_
  refine al_nil ?_
  refine awp_block ?_
  -- loop
  refine awp_loop (σ := Nat) (fun k => ([(5, lv (L.map ptRow)), (6, iv ((L.map ptRow).length : Int)), (7, iv (k : Int))], [])) (fun k => k ≤ L.length ∧ ∀ j, j < k → ∀ b, L[j]? = some b → (!nearP b.1 b.2) = false) (fun k => L.length - k) 0 ⟨by omega, by omega⟩ ?_ ?_
  · exact (Ent.wk ⟨⟨_, rfl, rfl⟩, (by (simp; done)), ⟨_, rfl, rfl⟩, (by (simp; done)), ⟨_, rfl, rfl⟩, (by (simp; done)), trivial⟩ trivial trivial)
  · rintro k ⟨hk, hno⟩
    refine awp_seq ?_
    refine awp_region ?_
    refine al_d rfl rfl rfl (by exact opd_lss rfl rfl rfl) ?_
    refine al_nil ?_
    refine awp_seq ?_
    refine awp_cond rfl (fun hc1 => ?_) (fun hc1 => ?_)
    -- cond 1
    · have hlt : k < L.length := by have := of_decide_eq_true hc1; omega
      obtain ⟨p, hp⟩ := get_of_lt hlt
      have hi := map_get (f := ptRow) hp
      refine awp_skip ?_
      refine awp_seq ?_
      refine awp_block ?_
      refine awp_seq ?_
      refine awp_region ?_
      refine al_d rfl rfl rfl (by exact (by exact x_index_pad rfl so200 rfl rfl (by omega) (by exact Int.toNat_natCast _) (by assumption) rfl)) ?_
      refine al_d rfl rfl rfl (by exact (by exact opd_loadn_pad rfl Tryz.isAgg26 Tryz.sizeOf26 rfl (by omega) (by simp only [List.drop_succ_cons, List.drop_zero, List.take_succ_cons, List.take_zero, List.take_nil, List.map_cons, List.map_nil, List.set_cons_zero, List.set_cons_succ, List.cons_append, List.nil_append, ptRow]; rfl) rfl)) ?_
      refine al_d rfl rfl rfl (by exact x_alloc (id := 4) rfl zo26 rfl rfl) ?_
      refine al_n rfl rfl (by exact (by exact x_store_all rfl Tryz.sizeOf26 rfl rfl rfl rfl rfl rfl rfl rfl)) ?_
      refine al_nil ?_
      refine awp_seq ?_
      refine awp_bool (t := 24) (n := 15) (X := !nearP p.1 p.2) ?_ ?_
      · all_goals (refine al_d rfl rfl rfl (by exact (by exact opd_field_ref rfl fo26_0 rfl rfl rfl rfl)) ?_)
        all_goals (refine al_d rfl rfl rfl (by exact (by exact opd_load1_ref rfl Tryz.isAgg3 rfl rfl rfl rfl rfl)) ?_)
        all_goals (refine al_d rfl rfl rfl (by exact (by exact opd_field_ref rfl fo26_1 rfl rfl rfl rfl)) ?_)
        all_goals (refine al_d rfl rfl rfl (by exact (by exact opd_load1_ref rfl Tryz.isAgg3 rfl rfl rfl rfl rfl)) ?_)
        all_goals (refine al_d rfl rfl rfl (by exact opd_max rfl rfl rfl rfl) ?_)
        all_goals (refine al_d rfl rfl rfl (by exact opd_gtr rfl rfl rfl) ?_)
        all_goals (refine al_d rfl rfl rfl (by exact opd_move rfl rfl) ?_)
        all_goals (refine al_split (t := 17) rfl (fun h17 => ?_) (fun h17 => ?_))
        all_goals (try contradiction)
        all_goals (first | refine al_off rfl rfl rfl rfl rfl ?_ | refine al_ond rfl rfl rfl rfl rfl rfl (by exact (by exact opd_field_ref rfl fo26_0 rfl rfl rfl rfl)) ?_)
        all_goals (first | refine al_off rfl rfl rfl rfl rfl ?_ | refine al_ond rfl rfl rfl rfl rfl rfl (by exact (by exact opd_load1_ref rfl Tryz.isAgg3 rfl rfl rfl rfl rfl)) ?_)
        all_goals (first | refine al_off rfl rfl rfl rfl rfl ?_ | refine al_ond rfl rfl rfl rfl rfl rfl (by exact (by exact opd_field_ref rfl fo26_1 rfl rfl rfl rfl)) ?_)
        all_goals (first | refine al_off rfl rfl rfl rfl rfl ?_ | refine al_ond rfl rfl rfl rfl rfl rfl (by exact (by exact opd_load1_ref rfl Tryz.isAgg3 rfl rfl rfl rfl rfl)) ?_)
        all_goals (first | refine al_off rfl rfl rfl rfl rfl ?_ | refine al_ond rfl rfl rfl rfl rfl rfl (by exact opd_min rfl rfl rfl rfl) ?_)
        all_goals (first | refine al_off rfl rfl rfl rfl rfl ?_ | refine al_ond rfl rfl rfl rfl rfl rfl (by exact opd_lss rfl rfl rfl) ?_)
        all_goals (refine al_d rfl rfl rfl (by exact (by first | exact opd_pick_t rfl rfl rfl | exact opd_pick_f rfl rfl rfl)) ?_)
        all_goals (refine al_nil ?_)
        all_goals (exact ⟨⟨_, rfl, by (simp only [nearP, Bool.not_not, *]; rfl)⟩, rfl, rfl, rfl⟩)
      refine awp_cond rfl (fun hc2 => ?_) (fun hc2 => ?_)
      -- cond 2
      · have hb : L.all (fun p => nearP p.1 p.2) = false := by
          rw [List.all_eq_false]
          exact ⟨p, List.mem_of_getElem? hp, by simpa using hc2⟩
        refine awp_seq ?_
        refine awp_region ?_
        refine al_d rfl rfl rfl (by exact opd_assign rfl rfl) ?_
        refine al_nil ?_
        refine awp_ret ?_
        -- return
        refine aret1 (H' := []) (by exact .inr rfl) rfl (rval_tmp rfl) (Fin.wk (by simp) trivial trivial) ?_
        exact ⟨by rw [hb], rfl⟩
      · skip
        refine awp_skip ?_
        refine awp_region ?_
        refine al_d rfl rfl rfl (by exact opd_add rfl rfl rfl (by exact w64 (by omega) (by omega))) ?_
        refine al_d rfl rfl rfl (by exact opd_move rfl rfl) ?_
        refine al_nil ?_
        -- end of a round
        exact ⟨k + 1, ⟨by omega, pre_succ hno hp hc2⟩, by omega, (Ent.wk ⟨⟨_, rfl, rfl⟩, (by (simp; done)), ⟨_, rfl, rfl⟩, (by (simp; done)), ⟨_, rfl, rfl⟩, (by (simp; done)), trivial⟩ trivial trivial)⟩
    · have hge : k = L.length := by have := of_decide_eq_false hc1; omega
      subst hge
      have hb : L.all (fun p => nearP p.1 p.2) = true := by
        rw [List.all_eq_true]
        intro p hp
        obtain ⟨j, hj⟩ := List.mem_iff_getElem?.1 hp
        have := hno j (List.getElem?_eq_some_iff.1 hj).1 p hj
        simpa using this
      refine awp_exit ?_
      refine awp_seq ?_
      refine awp_region ?_
      refine al_d rfl rfl rfl (by exact opd_assign rfl rfl) ?_
      refine al_nil ?_
      refine awp_ret ?_
      -- return
      refine aret1 (H' := []) (by exact .inr rfl) rfl (rval_tmp rfl) (Fin.wk (by simp) trivial trivial) ?_
      exact ⟨by rw [hb], rfl⟩
theorem nearP_lo {x y : Int} (h : nearP x y = true) : (-2097152 ≤ x ∧ x ≤ 2097152) ∧ -2097152 ≤ y ∧ y ≤ 2097152 := by
  simp only [nearP, Bool.not_eq_true', Bool.or_eq_false_iff, decide_eq_false_iff_not] at h
  omega
theorem to_c (x y u v : Int) (H : Heap) (h1 : nearP x y = true) (h2 : nearP u v = true) : ACalls Tryz.prog 151 [.agg [iv x, iv y], .agg [iv u, iv v]] H (fun r H' => r = .agg [iv (u - x), iv (v - y)] ∧ H' = H) := by
  refine ACalls.pure ?_ (by simp) H
  have b1 := nearP_lo h1
  have b2 := nearP_lo h2
  refine ACalls.body Tryz.func151 rfl Tryz.ntmps151 (Nat.le_of_ble_eq_true rfl) ?_
  refine awp_seq ?_
  refine awp_region ?_
  refine al_d rfl rfl rfl (by exact opd_box (id := 2) rfl rfl rfl rfl rfl) ?_
  refine al_d rfl rfl rfl (by exact opd_box (id := 3) rfl rfl rfl rfl rfl) ?_
  refine al_d rfl rfl rfl (by exact x_alloc (id := 4) rfl zo173 rfl rfl) ?_
  refine al_nil ?_
  refine awp_seq ?_
  refine awp_region ?_
  refine al_d rfl rfl rfl (by exact (by exact opd_field_ref rfl fo26_0 rfl rfl rfl rfl)) ?_
  refine al_d rfl rfl rfl (by exact (by exact opd_load1_ref rfl Tryz.isAgg3 rfl rfl rfl rfl rfl)) ?_
  refine al_d rfl rfl rfl (by exact (by exact opd_field_ref rfl fo26_0 rfl rfl rfl rfl)) ?_
  refine al_d rfl rfl rfl (by exact (by exact opd_load1_ref rfl Tryz.isAgg3 rfl rfl rfl rfl rfl)) ?_
  refine al_d rfl rfl rfl (by exact opd_sub rfl rfl rfl (by exact w64 (by omega) (by omega))) ?_
  refine al_d rfl rfl rfl (by exact (by exact opd_field_ref rfl fo26_1 rfl rfl rfl rfl)) ?_
  refine al_d rfl rfl rfl (by exact (by exact opd_load1_ref rfl Tryz.isAgg3 rfl rfl rfl rfl rfl)) ?_
  refine al_d rfl rfl rfl (by exact (by exact opd_field_ref rfl fo26_1 rfl rfl rfl rfl)) ?_
  refine al_d rfl rfl rfl (by exact (by exact opd_load1_ref rfl Tryz.isAgg3 rfl rfl rfl rfl rfl)) ?_
  refine al_d rfl rfl rfl (by exact opd_sub rfl rfl rfl (by exact w64 (by omega) (by omega))) ?_
  refine al_d rfl rfl rfl (by exact x_build rfl bo173 rfl rfl) ?_
  refine al_n rfl rfl (by exact (by exact x_store_all rfl Tryz.sizeOf173 rfl rfl rfl rfl rfl rfl rfl rfl)) ?_
  refine al_nil ?_
  refine awp_ret ?_
  -- return
  refine aret1 (H' := []) (by exact .inr rfl) rfl (rval_cell rfl Tryz.isAgg173 Tryz.sizeOf173 rfl rfl rfl (by simp only [List.drop_succ_cons, List.drop_zero, List.take_succ_cons, List.take_zero, List.take_nil, List.map_cons, List.map_nil, List.set_cons_zero, List.set_cons_succ, List.cons_append, List.nil_append, encTag, encObj, encStr, encEdit, zObj]; rfl) rfl) (Fin.wk (r := .agg [iv (u - x), iv (v - y)]) (by simp) trivial trivial) ?_
  exact ⟨rfl, rfl⟩
theorem sq_bd {d : Int} (h1 : -4194304 ≤ d) (h2 : d ≤ 4194304) : 0 ≤ d * d ∧ d * d ≤ 17592186044416 := by
  constructor
  · rcases Int.le_total 0 d with h | h
    · exact Int.mul_nonneg h h
    · exact Int.mul_nonneg_of_nonpos_of_nonpos h h
  · have h3 : (4194304 - d) * (4194304 + d) ≥ 0 := Int.mul_nonneg (by omega) (by omega)
    have h4 : (4194304 - d) * (4194304 + d) = 17592186044416 - d * d := by
      rw [Int.sub_mul, Int.mul_add, Int.mul_add]; rw [Int.mul_comm d 4194304]; omega
    omega
theorem dot_c (a b : Int) (H : Heap) (ha : -4194304 ≤ a ∧ a ≤ 4194304) (hb : -4194304 ≤ b ∧ b ≤ 4194304) : ACalls Tryz.prog 152 [.agg [iv a, iv b], .agg [iv a, iv b]] H (fun r H' => r = iv (a * a + b * b) ∧ H' = H) := by
  refine ACalls.pure ?_ (by simp) H
  have q1 := sq_bd ha.1 ha.2
  have q2 := sq_bd hb.1 hb.2
  refine ACalls.body Tryz.func152 rfl Tryz.ntmps152 (Nat.le_of_ble_eq_true rfl) ?_
  refine awp_seq ?_
  refine awp_region ?_
  refine al_d rfl rfl rfl (by exact opd_box (id := 2) rfl rfl rfl rfl rfl) ?_
  refine al_d rfl rfl rfl (by exact opd_box (id := 3) rfl rfl rfl rfl rfl) ?_
  refine al_d rfl rfl rfl (by exact opd_assign rfl rfl) ?_
  refine al_nil ?_
  refine awp_seq ?_
  refine awp_region ?_
  refine al_d rfl rfl rfl (by exact (by exact opd_field_ref rfl fo173_0 rfl rfl rfl rfl)) ?_
  refine al_d rfl rfl rfl (by exact (by exact opd_load1_ref rfl Tryz.isAgg3 rfl rfl rfl rfl rfl)) ?_
  refine al_d rfl rfl rfl (by exact (by exact opd_field_ref rfl fo173_0 rfl rfl rfl rfl)) ?_
  refine al_d rfl rfl rfl (by exact (by exact opd_load1_ref rfl Tryz.isAgg3 rfl rfl rfl rfl rfl)) ?_
  refine al_d rfl rfl rfl (by exact opd_mul rfl rfl rfl (by exact w64 (by omega) (by omega))) ?_
  refine al_d rfl rfl rfl (by exact (by exact opd_field_ref rfl fo173_1 rfl rfl rfl rfl)) ?_
  refine al_d rfl rfl rfl (by exact (by exact opd_load1_ref rfl Tryz.isAgg3 rfl rfl rfl rfl rfl)) ?_
  refine al_d rfl rfl rfl (by exact (by exact opd_field_ref rfl fo173_1 rfl rfl rfl rfl)) ?_
  refine al_d rfl rfl rfl (by exact (by exact opd_load1_ref rfl Tryz.isAgg3 rfl rfl rfl rfl rfl)) ?_
  refine al_d rfl rfl rfl (by exact opd_mul rfl rfl rfl (by exact w64 (by omega) (by omega))) ?_
  refine al_d rfl rfl rfl (by exact opd_add rfl rfl rfl (by exact w64 (by omega) (by omega))) ?_
  refine al_d rfl rfl rfl (by exact opd_assign rfl rfl) ?_
  refine al_nil ?_
  refine awp_ret ?_
  -- return
  refine aret1 (H' := []) (by exact .inr rfl) rfl (rval_tmp rfl) (Fin.wk (by simp) trivial trivial) ?_
  exact ⟨rfl, rfl⟩
theorem distance_c (x y u v : Int) (H : Heap) : ACalls Tryz.prog 107 [.agg [iv x, iv y], .agg [iv u, iv v]] H (fun r H' => r = iv (gDist x y u v) ∧ H' = H) := by
  refine ACalls.pure ?_ (by simp) H
  refine ACalls.body Tryz.func107 rfl Tryz.ntmps107 (Nat.le_of_ble_eq_true rfl) ?_
  refine awp_seq ?_
  refine awp_region ?_
  refine al_d rfl rfl rfl (by exact opd_box (id := 2) rfl rfl rfl rfl rfl) ?_
  refine al_d rfl rfl rfl (by exact opd_box (id := 3) rfl rfl rfl rfl rfl) ?_
  refine al_d rfl rfl rfl (by exact opd_assign rfl rfl) ?_
  refine al_nil ?_
  refine awp_seq ?_
  refine awp_seq ?_
  refine awp_region ?_
  refine al_d rfl rfl rfl (by exact (by exact opd_loadn_ref rfl Tryz.isAgg26 Tryz.sizeOf26 rfl rfl rfl rfl (by simp only [List.drop_succ_cons, List.drop_zero, List.take_succ_cons, List.take_zero, List.take_nil, List.map_cons, List.map_nil, List.set_cons_zero, List.set_cons_succ, List.cons_append, List.nil_append, encTag, encObj, encStr, encEdit, zObj]; rfl) rfl)) ?_
  refine al_d rfl rfl rfl (by exact (by exact opd_loadn_ref rfl Tryz.isAgg26 Tryz.sizeOf26 rfl rfl rfl rfl (by simp only [List.drop_succ_cons, List.drop_zero, List.take_succ_cons, List.take_zero, List.take_nil, List.map_cons, List.map_nil, List.set_cons_zero, List.set_cons_succ, List.cons_append, List.nil_append, encTag, encObj, encStr, encEdit, zObj]; rfl) rfl)) ?_
  refine al_d rfl rfl rfl (by exact (by exact x_buildSlice [[.int .i64 x, .int .i64 y], [.int .i64 u, .int .i64 v]] rfl so200 rfl rfl rfl rfl rfl (by simp))) ?_
  refine al_d rfl rfl rfl (by exact opr_call rfl rfl Tryz.call150 rfl (near_c x y u v _)) ?_
  refine al_d rfl rfl rfl (by exact opd_not rfl rfl) ?_
  refine al_nil ?_
  refine awp_cond rfl (fun hc1 => ?_) (fun hc1 => ?_)
  -- cond 1
  · have hb : (nearP x y && nearP u v) = false := by
      have h : (!(nearP x y && nearP u v)) = true := hc1
      rw [Bool.not_eq_true'] at h
      exact h
    refine awp_seq ?_
    refine awp_region ?_
    refine al_d rfl rfl rfl (by exact opd_assign rfl rfl) ?_
    refine al_nil ?_
    refine awp_ret ?_
    -- return
    refine aret1 (H' := []) (by exact .inr rfl) rfl (rval_tmp rfl) (Fin.wk (by simp) trivial trivial) ?_
    exact ⟨by rw [gDist, hb]; rfl, rfl⟩
  · have hb : (nearP x y && nearP u v) = true := by
      have h : (!(nearP x y && nearP u v)) = false := hc1
      rw [Bool.not_eq_false'] at h
      exact h
    have hb2 := hb
    rw [Bool.and_eq_true] at hb2
    have b1 := nearP_lo hb2.1
    have b2 := nearP_lo hb2.2
    refine awp_skip ?_
    refine awp_seq ?_
    refine awp_region ?_
    refine al_d rfl rfl rfl (by exact (by exact opd_loadn_ref rfl Tryz.isAgg26 Tryz.sizeOf26 rfl rfl rfl rfl (by simp only [List.drop_succ_cons, List.drop_zero, List.take_succ_cons, List.take_zero, List.take_nil, List.map_cons, List.map_nil, List.set_cons_zero, List.set_cons_succ, List.cons_append, List.nil_append, encTag, encObj, encStr, encEdit, zObj]; rfl) rfl)) ?_
    refine al_d rfl rfl rfl (by exact (by exact opd_loadn_ref rfl Tryz.isAgg26 Tryz.sizeOf26 rfl rfl rfl rfl (by simp only [List.drop_succ_cons, List.drop_zero, List.take_succ_cons, List.take_zero, List.take_nil, List.map_cons, List.map_nil, List.set_cons_zero, List.set_cons_succ, List.cons_append, List.nil_append, encTag, encObj, encStr, encEdit, zObj]; rfl) rfl)) ?_
    refine al_d rfl rfl rfl (by exact opr_call rfl rfl Tryz.call151 rfl (to_c x y u v _ hb2.1 hb2.2)) ?_
    refine al_d rfl rfl rfl (by exact x_alloc (id := 5) rfl zo173 rfl rfl) ?_
    refine al_n rfl rfl (by exact (by exact x_store_all rfl Tryz.sizeOf173 rfl rfl rfl rfl rfl rfl rfl rfl)) ?_
    refine al_nil ?_
    refine awp_seq ?_
    refine awp_region ?_
    refine al_d rfl rfl rfl (by exact (by exact opd_loadn_ref rfl Tryz.isAgg173 Tryz.sizeOf173 rfl rfl rfl rfl (by simp only [List.drop_succ_cons, List.drop_zero, List.take_succ_cons, List.take_zero, List.take_nil, List.map_cons, List.map_nil, List.set_cons_zero, List.set_cons_succ, List.cons_append, List.nil_append, encTag, encObj, encStr, encEdit, zObj]; rfl) rfl)) ?_
    refine al_d rfl rfl rfl (by exact (by exact opd_loadn_ref rfl Tryz.isAgg173 Tryz.sizeOf173 rfl rfl rfl rfl (by simp only [List.drop_succ_cons, List.drop_zero, List.take_succ_cons, List.take_zero, List.take_nil, List.map_cons, List.map_nil, List.set_cons_zero, List.set_cons_succ, List.cons_append, List.nil_append, encTag, encObj, encStr, encEdit, zObj]; rfl) rfl)) ?_
    refine al_d rfl rfl rfl (by exact opr_call rfl rfl Tryz.call152 rfl (dot_c (u - x) (v - y) _ (by omega) (by omega))) ?_
    refine al_d rfl rfl rfl (by exact opd_assign rfl rfl) ?_
    refine al_nil ?_
    refine awp_ret ?_
    -- return
    refine aret1 (H' := []) (by exact .inr rfl) rfl (rval_tmp rfl) (Fin.wk (by simp) trivial trivial) ?_
    exact ⟨by rw [gDist, hb]; rfl, rfl⟩
end Go.Proofs.YtdcifaldfmpapaaGreat
end
section
set_option linter.unusedVariables false
set_option linter.unusedSimpArgs false
set_option maxRecDepth 100000
namespace Go.Proofs.YtdcifaldfmpapaaGreat
open Go.Abs
theorem obOf_some {m : List GObj} {id : ByteArray} {o : GObj} (h : m.find? (idIs id) = some o) : obOf m id = o ∧ isOb m id = true := by
  constructor
  · rw [obOf, h]; rfl
  · rw [isOb, h]; rfl
theorem obOf_none {m : List GObj} {id : ByteArray} (h : m.find? (idIs id) = none) : obOf m id = zObj ∧ isOb m id = false := by
  constructor
  · rw [obOf, h]; rfl
  · rw [isOb, h]; rfl
abbrev bEd (e : GEdit) : Ob := bx 15 32 ((encEdit e).map .pv)
abbrev bOb (o : GObj) : Ob := bx 6 30 ((encObj o).map .pv)
theorem sus1_c (m : List GObj) (id : ByteArray) (H : Heap) (hm : m.length < 4611686018427387904) (h1 : H.get 801 = some (bx 1 24 [.pv (slObjs m)])) (h9 : H.get 971 = none) (hc : Closed H) :
    ACalls Tryz.prog 102 [sv id, .ref 801 0 0 0] H (fun r H' => r = .tup [av (encObj (obOf m id)), bv (isOb m id)] ∧ H' = H) := by
  refine ACalls.body Tryz.func102 rfl Tryz.ntmps102 (Nat.le_of_ble_eq_true rfl) ?_
  refine awp_seq ?_
  refine awp_region ?_
  refine al_d rfl rfl rfl (by exact x_alloc (id := 971) rfl zo30 rfl h9) ?_
  refine al_d rfl rfl rfl (by exact opd_assign rfl rfl) ?_
  refine al_nil ?_
  refine awp_seq ?_
  refine awp_region ?_
  refine al_d rfl rfl rfl (by exact (by exact opd_loadn_ref rfl Tryz.isAgg24 Tryz.sizeOf24 rfl h1 rfl rfl (by simp only [List.drop_succ_cons, List.drop_zero, List.take_succ_cons, List.take_zero, List.take_nil, List.map_cons, List.map_nil, List.set_cons_zero, List.set_cons_succ, List.cons_append, List.nil_append, encTag, encObj, encStr, encEdit, zObj]; rfl) rfl)) ?_
  refine al_d rfl rfl rfl (by exact opd_move rfl rfl) ?_
  refine al_d rfl rfl rfl (by exact opr_call rfl rfl Tryz.call16 rfl (find_c m id _ hm)) ?_
  refine al_d rfl rfl rfl (by exact opd_assign rfl rfl) ?_
  refine al_nil ?_
  refine awp_seq ?_
  refine awp_seq ?_
  refine awp_region ?_
  refine al_d rfl rfl rfl (by exact opd_move rfl rfl) ?_
  refine al_d rfl rfl rfl (by exact opd_lss rfl rfl rfl) ?_
  refine al_nil ?_
  refine awp_cond rfl (fun hc1 => ?_) (fun hc1 => ?_)
  -- cond 1
  · have hn : m.find? (idIs id) = none := by
      rcases gidx_cases (idIs id) m with ⟨_, h⟩ | ⟨k, o, h, _, _⟩
      · exact h
      · have := of_decide_eq_true hc1
        omega
    rw [(obOf_none hn).1, (obOf_none hn).2]
    refine awp_seq ?_
    refine awp_region ?_
    refine al_d rfl rfl rfl (by exact x_build rfl bo30 rfl rfl) ?_
    refine al_n rfl rfl (by exact (by exact x_store_all rfl Tryz.sizeOf30 rfl rfl rfl rfl rfl rfl rfl rfl)) ?_
    refine al_d rfl rfl rfl (by exact opd_assign rfl rfl) ?_
    refine al_nil ?_
    refine awp_ret ?_
    -- return
    refine aret2 (H' := H) (.inr rfl) rfl (rval_cell rfl Tryz.isAgg30 Tryz.sizeOf30 rfl rfl rfl rfl rfl) (rval_tmp rfl) (Fin.pops [(971, bOb zObj), (971, bOb zObj)] (by simp [encObj, zObj]) hc (by simp [h9])) ⟨rfl, rfl⟩
  · obtain ⟨k, o, hk, ho, hf⟩ : ∃ (k : Nat) (o : GObj), gidx (idIs id) m = (k : Int) ∧ m[k]? = some o ∧ m.find? (idIs id) = some o := by
      rcases gidx_cases (idIs id) m with ⟨h, _⟩ | h
      · have := of_decide_eq_false hc1
        omega
      · exact h
    have hi := map_get (f := encObj) ho
    have hkl := (List.getElem?_eq_some_iff.1 ho).1
    have hml : (m.map encObj).length = m.length := List.length_map _
    rw [(obOf_some hf).1, (obOf_some hf).2, hk]
    refine awp_skip ?_
    refine awp_seq ?_
    refine awp_region ?_
    refine al_d rfl rfl rfl (by exact (by exact opd_field_ref rfl fo24_0 rfl h1 rfl rfl)) ?_
    refine al_d rfl rfl rfl (by exact (by exact opd_load1_ref rfl Tryz.isAgg22 rfl h1 rfl rfl rfl)) ?_
    refine al_d rfl rfl rfl (by exact opd_move rfl rfl) ?_
    refine al_d rfl rfl rfl (by exact (by exact x_index_pad rfl so22 rfl rfl (by omega) (by exact Int.toNat_natCast _) (by assumption) rfl)) ?_
    refine al_d rfl rfl rfl (by exact (by exact opd_loadn_pad rfl Tryz.isAgg30 Tryz.sizeOf30 rfl (by omega) (by simp only [List.drop_succ_cons, List.drop_zero, List.take_succ_cons, List.take_zero, List.take_nil, List.map_cons, List.map_nil, List.set_cons_zero, List.set_cons_succ, List.cons_append, List.nil_append, encTag, encObj, encStr, encEdit, zObj]; rfl) rfl)) ?_
    refine al_n rfl rfl (by exact (by exact x_store_all rfl Tryz.sizeOf30 rfl rfl rfl rfl rfl rfl rfl rfl)) ?_
    refine al_d rfl rfl rfl (by exact opd_assign rfl rfl) ?_
    refine al_nil ?_
    refine awp_ret ?_
    -- return
    refine aret2 (H' := H) (.inr rfl) rfl (rval_cell rfl Tryz.isAgg30 Tryz.sizeOf30 rfl rfl rfl rfl rfl) (rval_tmp rfl) (Fin.pops [(971, bOb o), (971, bOb zObj)] (by simp [encObj]) hc (by simp [h9])) ⟨rfl, rfl⟩
abbrev sFn : AV := .clo 102 [.ref 801 0 0 0]
/-- What the closures of the kinds lean on. -/
structure SusH (m : List GObj) (H : Heap) : Prop where
  m : H.get 801 = some (bx 1 24 [.pv (slObjs m)])
  f : H.get 803 = some (bx 1 130 [sFn])
  f1 : H.get 971 = none
  f2 : H.get 973 = none
  f3 : H.get 974 = none
  c : Closed H
theorem sus2_c (m : List GObj) (e : GEdit) (H : Heap) (hm : m.length < 4611686018427387904) (hH : SusH m H) :
    ACalls Tryz.prog 103 [av (encEdit e), .ref 803 0 0 0] H (fun r H' => r = bv (eShows 1 m e) ∧ H' = H) := by
  have h803 : Heap.get ((973, bEd e) :: H) 803 = some (bx 1 130 [sFn]) := hH.f
  refine ACalls.body Tryz.func103 rfl Tryz.ntmps103 (Nat.le_of_ble_eq_true rfl) ?_
  refine awp_seq ?_
  refine awp_region ?_
  refine al_d rfl rfl rfl (by exact opd_box (id := 973) rfl rfl rfl rfl hH.f2) ?_
  refine al_d rfl rfl rfl (by exact opd_assign rfl rfl) ?_
  refine al_nil ?_
  refine awp_seq ?_
  refine awp_region ?_
  refine al_d rfl rfl rfl (by exact (by exact opd_load1_ref rfl Tryz.isAgg130 rfl h803 rfl rfl rfl)) ?_
  refine al_d rfl rfl rfl (by exact (by exact opd_field_ref rfl fo32_1 rfl rfl rfl rfl)) ?_
  refine al_d rfl rfl rfl (by exact (by exact opd_load1_ref rfl Tryz.isAgg9 rfl rfl rfl rfl rfl)) ?_
  refine al_d rfl rfl rfl (by exact opr_callV rfl rfl rfl (CallsV.clo Tryz.call102 (sus1_c m e.id _ hm hH.m hH.f1 (Closed.cons (by simp [encEdit]) hH.c)))) ?_
  refine al_d rfl rfl rfl (by exact opd_move rfl rfl) ?_
  refine al_d rfl rfl rfl (by exact opd_extract rfl rfl rfl) ?_
  refine al_d rfl rfl rfl (by exact opd_extract rfl rfl rfl) ?_
  refine al_d rfl rfl rfl (by exact x_alloc (id := 974) rfl zo30 rfl hH.f3) ?_
  refine al_n rfl rfl (by exact (by exact x_store_all rfl Tryz.sizeOf30 rfl rfl rfl rfl rfl rfl rfl rfl)) ?_
  refine al_d rfl rfl rfl (by exact opd_assign rfl rfl) ?_
  refine al_nil ?_
  refine awp_seq ?_
  refine awp_bool (t := 3) (n := 8) (X := eShows 1 m e) ?_ ?_
  · all_goals (refine al_d rfl rfl rfl (by exact (by exact opd_field_ref rfl fo32_0 rfl rfl rfl rfl)) ?_)
    all_goals (refine al_d rfl rfl rfl (by exact (by exact opd_load1_ref rfl Tryz.isAgg3 rfl rfl rfl rfl rfl)) ?_)
    all_goals (refine al_d rfl rfl rfl (by exact opd_eql rfl rfl rfl) ?_)
    all_goals (refine al_d rfl rfl rfl (by exact opd_move rfl rfl) ?_)
    all_goals (refine al_split (t := 16) rfl (fun h16 => ?_) (fun h16 => ?_))
    all_goals (try contradiction)
    all_goals (first | refine al_off rfl rfl rfl rfl rfl ?_ | refine al_ond rfl rfl rfl rfl rfl rfl (by exact opd_move rfl rfl) ?_)
    all_goals (refine al_d rfl rfl rfl (by exact (by first | exact opd_pick_t rfl rfl rfl | exact opd_pick_f rfl rfl rfl)) ?_)
    all_goals (refine al_d rfl rfl rfl (by exact opd_assign rfl rfl) ?_)
    all_goals (refine al_nil ?_)
    all_goals (exact ⟨⟨_, rfl, by (simp only [eShows, *]; rfl)⟩, rfl, rfl, rfl⟩)
  refine awp_ret ?_
  -- return
  refine aret1 (H' := H) (.inr rfl) rfl (rval_tmp rfl) (Fin.pops [(974, bOb (obOf m e.id)), (974, bOb zObj), (973, bEd e)] (by simp) hH.c (by simp [hH.f2, hH.f3])) ⟨rfl, rfl⟩
end Go.Proofs.YtdcifaldfmpapaaGreat
end
section
set_option linter.unusedVariables false
set_option linter.unusedSimpArgs false
set_option maxRecDepth 100000
namespace Go.Proofs.YtdcifaldfmpapaaGreat
open Go.Abs
theorem okO_z : okO zObj := ⟨by decide, ⟨by decide, fun t ht => by cases ht⟩, by decide, fun s hs => by cases hs⟩
theorem obOf_ok {m : List GObj} (h : okM m) (id : ByteArray) : okO (obOf m id) := by
  cases e : m.find? (idIs id) with
  | none => rw [(obOf_none e).1]; exact okO_z
  | some o => rw [(obOf_some e).1]; exact h.2 o (List.mem_of_find?_eq_some e)
theorem sus3_c (m : List GObj) (e : GEdit) (H : Heap) (hm : okM m) (hH : SusH m H) :
    ACalls Tryz.prog 105 [av (encEdit e), .ref 803 0 0 0] H (fun r H' => r = bv (eShows 2 m e) ∧ H' = H) := by
  have h803 : Heap.get ((973, bEd e) :: H) 803 = some (bx 1 130 [sFn]) := hH.f
  refine ACalls.body Tryz.func105 rfl Tryz.ntmps105 (Nat.le_of_ble_eq_true rfl) ?_
  refine awp_seq ?_
  refine awp_region ?_
  refine al_d rfl rfl rfl (by exact opd_box (id := 973) rfl rfl rfl rfl hH.f2) ?_
  refine al_d rfl rfl rfl (by exact opd_assign rfl rfl) ?_
  refine al_nil ?_
  refine awp_seq ?_
  refine awp_region ?_
  refine al_d rfl rfl rfl (by exact (by exact opd_load1_ref rfl Tryz.isAgg130 rfl h803 rfl rfl rfl)) ?_
  refine al_d rfl rfl rfl (by exact (by exact opd_field_ref rfl fo32_1 rfl rfl rfl rfl)) ?_
  refine al_d rfl rfl rfl (by exact (by exact opd_load1_ref rfl Tryz.isAgg9 rfl rfl rfl rfl rfl)) ?_
  refine al_d rfl rfl rfl (by exact opr_callV rfl rfl rfl (CallsV.clo Tryz.call102 (sus1_c m e.id _ hm.1 hH.m hH.f1 (Closed.cons (by simp [encEdit]) hH.c)))) ?_
  refine al_d rfl rfl rfl (by exact opd_move rfl rfl) ?_
  refine al_d rfl rfl rfl (by exact opd_extract rfl rfl rfl) ?_
  refine al_d rfl rfl rfl (by exact opd_extract rfl rfl rfl) ?_
  refine al_d rfl rfl rfl (by exact x_alloc (id := 974) rfl zo30 rfl hH.f3) ?_
  refine al_n rfl rfl (by exact (by exact x_store_all rfl Tryz.sizeOf30 rfl rfl rfl rfl rfl rfl rfl rfl)) ?_
  refine al_d rfl rfl rfl (by exact opd_assign rfl rfl) ?_
  refine al_nil ?_
  refine awp_seq ?_
  refine awp_region ?_
  refine al_d rfl rfl rfl (by exact (by exact opd_field_ref rfl fo30_4 rfl rfl rfl rfl)) ?_
  refine al_d rfl rfl rfl (by exact (by exact opd_load1_ref rfl Tryz.isAgg28 rfl rfl rfl rfl rfl)) ?_
  refine al_d rfl rfl rfl (by exact opr_call rfl rfl Tryz.call72 rfl (tagGet_c (obOf m e.id).tags sName _ (obOf_ok hm e.id).2.1.1)) ?_
  refine al_d rfl rfl rfl (by exact opd_move rfl rfl) ?_
  refine al_d rfl rfl rfl (by exact opd_extract rfl rfl rfl) ?_
  refine al_d rfl rfl rfl (by exact opd_extract rfl rfl rfl) ?_
  refine al_d rfl rfl rfl (by exact opd_assign rfl rfl) ?_
  refine al_d rfl rfl rfl (by exact opd_assign rfl rfl) ?_
  refine al_nil ?_
  refine awp_seq ?_
  refine awp_bool (t := 3) (n := 20) (X := eShows 2 m e) ?_ ?_
  · all_goals (refine al_d rfl rfl rfl (by exact (by exact opd_field_ref rfl fo32_0 rfl rfl rfl rfl)) ?_)
    all_goals (refine al_d rfl rfl rfl (by exact (by exact opd_load1_ref rfl Tryz.isAgg3 rfl rfl rfl rfl rfl)) ?_)
    all_goals (refine al_d rfl rfl rfl (by exact opd_eql rfl rfl rfl) ?_)
    all_goals (refine al_d rfl rfl rfl (by exact opd_move rfl rfl) ?_)
    all_goals (refine al_split (t := 24) rfl (fun h24 => ?_) (fun h24 => ?_))
    all_goals (try contradiction)
    all_goals (first | refine al_off rfl rfl rfl rfl rfl ?_ | refine al_ond rfl rfl rfl rfl rfl rfl (by exact (by exact opd_field_ref rfl fo32_5 rfl rfl rfl rfl)) ?_)
    all_goals (first | refine al_off rfl rfl rfl rfl rfl ?_ | refine al_ond rfl rfl rfl rfl rfl rfl (by exact (by exact opd_load1_ref rfl Tryz.isAgg9 rfl rfl rfl rfl rfl)) ?_)
    all_goals (first | refine al_off rfl rfl rfl rfl rfl ?_ | refine al_ond rfl rfl rfl rfl rfl rfl (by exact opd_seql rfl rfl rfl) ?_)
    all_goals (refine al_d rfl rfl rfl (by exact (by first | exact opd_pick_t rfl rfl rfl | exact opd_pick_f rfl rfl rfl)) ?_)
    all_goals (refine al_d rfl rfl rfl (by exact opd_move rfl rfl) ?_)
    all_goals (refine al_split (t := 29) rfl (fun h29 => ?_) (fun h29 => ?_))
    all_goals (try contradiction)
    all_goals (first | refine al_off rfl rfl rfl rfl rfl ?_ | refine al_ond rfl rfl rfl rfl rfl rfl (by exact (by exact opd_field_ref rfl fo32_6 rfl rfl rfl rfl)) ?_)
    all_goals (first | refine al_off rfl rfl rfl rfl rfl ?_ | refine al_ond rfl rfl rfl rfl rfl rfl (by exact (by exact opd_load1_ref rfl Tryz.isAgg9 rfl rfl rfl rfl rfl)) ?_)
    all_goals (first | refine al_off rfl rfl rfl rfl rfl ?_ | refine al_ond rfl rfl rfl rfl rfl rfl (by exact opd_seql rfl rfl rfl) ?_)
    all_goals (refine al_d rfl rfl rfl (by exact (by first | exact opd_pick_t rfl rfl rfl | exact opd_pick_f rfl rfl rfl)) ?_)
    all_goals (refine al_d rfl rfl rfl (by exact opd_move rfl rfl) ?_)
    all_goals (refine al_split (t := 34) rfl (fun h34 => ?_) (fun h34 => ?_))
    all_goals (try contradiction)
    all_goals (first | refine al_off rfl rfl rfl rfl rfl ?_ | refine al_ond rfl rfl rfl rfl rfl rfl (by exact opd_move rfl rfl) ?_)
    all_goals (refine al_d rfl rfl rfl (by exact (by first | exact opd_pick_t rfl rfl rfl | exact opd_pick_f rfl rfl rfl)) ?_)
    all_goals (refine al_d rfl rfl rfl (by exact opd_assign rfl rfl) ?_)
    all_goals (refine al_nil ?_)
    all_goals (exact ⟨⟨_, rfl, by (simp only [eShows, *]; rfl)⟩, rfl, rfl, rfl⟩)
  refine awp_ret ?_
  -- return
  refine aret1 (H' := H) (.inr rfl) rfl (rval_tmp rfl) (Fin.pops [(974, bOb (obOf m e.id)), (974, bOb zObj), (973, bEd e)] (by simp) hH.c (by simp [hH.f2, hH.f3])) ⟨rfl, rfl⟩
theorem sus4_c (m : List GObj) (e : GEdit) (H : Heap) (hm : okM m) (hH : SusH m H) :
    ACalls Tryz.prog 106 [av (encEdit e), .ref 803 0 0 0] H (fun r H' => r = bv (eShows 3 m e) ∧ H' = H) := by
  have h803 : Heap.get ((973, bEd e) :: H) 803 = some (bx 1 130 [sFn]) := hH.f
  refine ACalls.body Tryz.func106 rfl Tryz.ntmps106 (Nat.le_of_ble_eq_true rfl) ?_
  refine awp_seq ?_
  refine awp_region ?_
  refine al_d rfl rfl rfl (by exact opd_box (id := 973) rfl rfl rfl rfl hH.f2) ?_
  refine al_d rfl rfl rfl (by exact opd_assign rfl rfl) ?_
  refine al_nil ?_
  refine awp_seq ?_
  refine awp_region ?_
  refine al_d rfl rfl rfl (by exact (by exact opd_load1_ref rfl Tryz.isAgg130 rfl h803 rfl rfl rfl)) ?_
  refine al_d rfl rfl rfl (by exact (by exact opd_field_ref rfl fo32_1 rfl rfl rfl rfl)) ?_
  refine al_d rfl rfl rfl (by exact (by exact opd_load1_ref rfl Tryz.isAgg9 rfl rfl rfl rfl rfl)) ?_
  refine al_d rfl rfl rfl (by exact opr_callV rfl rfl rfl (CallsV.clo Tryz.call102 (sus1_c m e.id _ hm.1 hH.m hH.f1 (Closed.cons (by simp [encEdit]) hH.c)))) ?_
  refine al_d rfl rfl rfl (by exact opd_move rfl rfl) ?_
  refine al_d rfl rfl rfl (by exact opd_extract rfl rfl rfl) ?_
  refine al_d rfl rfl rfl (by exact opd_extract rfl rfl rfl) ?_
  refine al_d rfl rfl rfl (by exact x_alloc (id := 974) rfl zo30 rfl hH.f3) ?_
  refine al_n rfl rfl (by exact (by exact x_store_all rfl Tryz.sizeOf30 rfl rfl rfl rfl rfl rfl rfl rfl)) ?_
  refine al_d rfl rfl rfl (by exact opd_assign rfl rfl) ?_
  refine al_nil ?_
  refine awp_seq ?_
  refine awp_bool (t := 3) (n := 23) (X := eShows 3 m e) ?_ ?_
  · all_goals (refine al_d rfl rfl rfl (by exact (by exact opd_field_ref rfl fo32_0 rfl rfl rfl rfl)) ?_)
    all_goals (refine al_d rfl rfl rfl (by exact (by exact opd_load1_ref rfl Tryz.isAgg3 rfl rfl rfl rfl rfl)) ?_)
    all_goals (refine al_d rfl rfl rfl (by exact opd_eql rfl rfl rfl) ?_)
    all_goals (refine al_d rfl rfl rfl (by exact opd_move rfl rfl) ?_)
    all_goals (refine al_split (t := 16) rfl (fun h16 => ?_) (fun h16 => ?_))
    all_goals (try contradiction)
    all_goals (first | refine al_off rfl rfl rfl rfl rfl ?_ | refine al_ond rfl rfl rfl rfl rfl rfl (by exact opd_move rfl rfl) ?_)
    all_goals (refine al_d rfl rfl rfl (by exact (by first | exact opd_pick_t rfl rfl rfl | exact opd_pick_f rfl rfl rfl)) ?_)
    all_goals (refine al_d rfl rfl rfl (by exact opd_move rfl rfl) ?_)
    all_goals (refine al_split (t := 19) rfl (fun h19 => ?_) (fun h19 => ?_))
    all_goals (try contradiction)
    all_goals (first | refine al_off rfl rfl rfl rfl rfl ?_ | refine al_ond rfl rfl rfl rfl rfl rfl (by exact (by exact opd_field_ref rfl fo30_1 rfl rfl rfl rfl)) ?_)
    all_goals (first | refine al_off rfl rfl rfl rfl rfl ?_ | refine al_ond rfl rfl rfl rfl rfl rfl (by exact (by exact opd_load1_ref rfl Tryz.isAgg3 rfl rfl rfl rfl rfl)) ?_)
    all_goals (first | refine al_off rfl rfl rfl rfl rfl ?_ | refine al_ond rfl rfl rfl rfl rfl rfl (by exact opd_eql rfl rfl rfl) ?_)
    all_goals (refine al_d rfl rfl rfl (by exact (by first | exact opd_pick_t rfl rfl rfl | exact opd_pick_f rfl rfl rfl)) ?_)
    all_goals (refine al_d rfl rfl rfl (by exact opd_move rfl rfl) ?_)
    all_goals (refine al_split (t := 24) rfl (fun h24 => ?_) (fun h24 => ?_))
    all_goals (try contradiction)
    all_goals (first | refine al_off rfl rfl rfl rfl rfl ?_ | refine al_ond rfl rfl rfl rfl rfl rfl (by exact (by exact opd_field_ref rfl fo30_2 rfl rfl rfl rfl)) ?_)
    all_goals (first | refine al_off rfl rfl rfl rfl rfl ?_ | refine al_ond rfl rfl rfl rfl rfl rfl (by exact (by exact opd_loadn_ref rfl Tryz.isAgg26 Tryz.sizeOf26 rfl rfl rfl rfl (by simp only [List.drop_succ_cons, List.drop_zero, List.take_succ_cons, List.take_zero, List.take_nil, List.map_cons, List.map_nil, List.set_cons_zero, List.set_cons_succ, List.cons_append, List.nil_append, encTag, encObj, encStr, encEdit, zObj]; rfl) rfl)) ?_)
    all_goals (first | refine al_off rfl rfl rfl rfl rfl ?_ | refine al_ond rfl rfl rfl rfl rfl rfl (by exact (by exact opd_field_ref rfl fo32_4 rfl rfl rfl rfl)) ?_)
    all_goals (first | refine al_off rfl rfl rfl rfl rfl ?_ | refine al_ond rfl rfl rfl rfl rfl rfl (by exact (by exact opd_loadn_ref rfl Tryz.isAgg26 Tryz.sizeOf26 rfl rfl rfl rfl (by simp only [List.drop_succ_cons, List.drop_zero, List.take_succ_cons, List.take_zero, List.take_nil, List.map_cons, List.map_nil, List.set_cons_zero, List.set_cons_succ, List.cons_append, List.nil_append, encTag, encObj, encStr, encEdit, zObj]; rfl) rfl)) ?_)
    all_goals (first | refine al_off rfl rfl rfl rfl rfl ?_ | refine al_ond rfl rfl rfl rfl rfl rfl (by exact opr_call rfl rfl Tryz.call107 rfl (distance_c (obOf m e.id).x (obOf m e.id).y e.x e.y _)) ?_)
    all_goals (first | refine al_off rfl rfl rfl rfl rfl ?_ | refine al_ond rfl rfl rfl rfl rfl rfl (by exact opd_geq rfl rfl rfl) ?_)
    all_goals (refine al_d rfl rfl rfl (by exact (by first | exact opd_pick_t rfl rfl rfl | exact opd_pick_f rfl rfl rfl)) ?_)
    all_goals (refine al_d rfl rfl rfl (by exact opd_assign rfl rfl) ?_)
    all_goals (refine al_nil ?_)
    all_goals (exact ⟨⟨_, rfl, by (simp only [eShows, *]; rfl)⟩, rfl, rfl, rfl⟩)
  refine awp_ret ?_
  -- return
  refine aret1 (H' := H) (.inr rfl) rfl (rval_tmp rfl) (Fin.pops [(974, bOb (obOf m e.id)), (974, bOb zObj), (973, bEd e)] (by simp) hH.c (by simp [hH.f2, hH.f3])) ⟨rfl, rfl⟩
theorem sus5_c (m : List GObj) (e : GEdit) (H : Heap) : ACalls Tryz.prog 108 [av (encEdit e)] H (fun r H' => r = bv (eShows 4 m e) ∧ H' = H) := by
  refine ACalls.pure ?_ (by simp) H
  refine ACalls.body Tryz.func108 rfl Tryz.ntmps108 (Nat.le_of_ble_eq_true rfl) ?_
  refine awp_seq ?_
  refine awp_region ?_
  refine al_d rfl rfl rfl (by exact opd_box (id := 1) rfl rfl rfl rfl rfl) ?_
  refine al_d rfl rfl rfl (by exact opd_assign rfl rfl) ?_
  refine al_nil ?_
  refine awp_seq ?_
  refine awp_bool (t := 2) (n := 11) (X := eShows 4 m e) ?_ ?_
  · all_goals (refine al_d rfl rfl rfl (by exact (by exact opd_field_ref rfl fo32_0 rfl rfl rfl rfl)) ?_)
    all_goals (refine al_d rfl rfl rfl (by exact (by exact opd_load1_ref rfl Tryz.isAgg3 rfl rfl rfl rfl rfl)) ?_)
    all_goals (refine al_d rfl rfl rfl (by exact opd_eql rfl rfl rfl) ?_)
    all_goals (refine al_d rfl rfl rfl (by exact opd_move rfl rfl) ?_)
    all_goals (refine al_split (t := 6) rfl (fun h6 => ?_) (fun h6 => ?_))
    all_goals (try contradiction)
    all_goals (first | refine al_off rfl rfl rfl rfl rfl ?_ | refine al_ond rfl rfl rfl rfl rfl rfl (by exact (by exact opd_field_ref rfl fo32_8 rfl rfl rfl rfl)) ?_)
    all_goals (first | refine al_off rfl rfl rfl rfl rfl ?_ | refine al_ond rfl rfl rfl rfl rfl rfl (by exact (by exact opd_field_ref rfl fo30_1 rfl rfl rfl rfl)) ?_)
    all_goals (first | refine al_off rfl rfl rfl rfl rfl ?_ | refine al_ond rfl rfl rfl rfl rfl rfl (by exact (by exact opd_load1_ref rfl Tryz.isAgg3 rfl rfl rfl rfl rfl)) ?_)
    all_goals (first | refine al_off rfl rfl rfl rfl rfl ?_ | refine al_ond rfl rfl rfl rfl rfl rfl (by exact opd_eql rfl rfl rfl) ?_)
    all_goals (refine al_d rfl rfl rfl (by exact (by first | exact opd_pick_t rfl rfl rfl | exact opd_pick_f rfl rfl rfl)) ?_)
    all_goals (refine al_d rfl rfl rfl (by exact opd_assign rfl rfl) ?_)
    all_goals (refine al_nil ?_)
    all_goals (exact ⟨⟨_, rfl, by (simp only [eShows, *]; rfl)⟩, rfl, rfl, rfl⟩)
  refine awp_ret ?_
  -- return
  refine aret1 (H' := []) (by exact .inr rfl) rfl (rval_tmp rfl) (Fin.wk (by simp) trivial trivial) ?_
  exact ⟨rfl, rfl⟩
theorem sus6_c (a b : GEdit) (H : Heap) (ha : a.obj.tags.length < 4611686018427387904) : ACalls Tryz.prog 109 [av (encEdit a), av (encEdit b)] H (fun r H' => r = bv (eAlike a b) ∧ H' = H) := by
  refine ACalls.pure ?_ (by simp) H
  refine ACalls.body Tryz.func109 rfl Tryz.ntmps109 (Nat.le_of_ble_eq_true rfl) ?_
  refine awp_seq ?_
  refine awp_region ?_
  refine al_d rfl rfl rfl (by exact opd_box (id := 2) rfl rfl rfl rfl rfl) ?_
  refine al_d rfl rfl rfl (by exact opd_box (id := 3) rfl rfl rfl rfl rfl) ?_
  refine al_d rfl rfl rfl (by exact opd_assign rfl rfl) ?_
  refine al_nil ?_
  refine awp_seq ?_
  refine awp_bool (t := 4) (n := 28) (X := eAlike a b) ?_ ?_
  · all_goals (refine al_d rfl rfl rfl (by exact (by exact opd_field_ref rfl fo32_8 rfl rfl rfl rfl)) ?_)
    all_goals (refine al_d rfl rfl rfl (by exact (by exact opd_field_ref rfl fo30_0 rfl rfl rfl rfl)) ?_)
    all_goals (refine al_d rfl rfl rfl (by exact (by exact opd_load1_ref rfl Tryz.isAgg9 rfl rfl rfl rfl rfl)) ?_)
    all_goals (refine al_d rfl rfl rfl (by exact (by exact opd_field_ref rfl fo32_8 rfl rfl rfl rfl)) ?_)
    all_goals (refine al_d rfl rfl rfl (by exact (by exact opd_field_ref rfl fo30_0 rfl rfl rfl rfl)) ?_)
    all_goals (refine al_d rfl rfl rfl (by exact (by exact opd_load1_ref rfl Tryz.isAgg9 rfl rfl rfl rfl rfl)) ?_)
    all_goals (refine al_d rfl rfl rfl (by exact opd_sneq rfl rfl rfl) ?_)
    all_goals (refine al_d rfl rfl rfl (by exact opd_move rfl rfl) ?_)
    all_goals (refine al_split (t := 12) rfl (fun h12 => ?_) (fun h12 => ?_))
    all_goals (try contradiction)
    all_goals (first | refine al_off rfl rfl rfl rfl rfl ?_ | refine al_ond rfl rfl rfl rfl rfl rfl (by exact (by exact opd_field_ref rfl fo32_8 rfl rfl rfl rfl)) ?_)
    all_goals (first | refine al_off rfl rfl rfl rfl rfl ?_ | refine al_ond rfl rfl rfl rfl rfl rfl (by exact (by exact opd_field_ref rfl fo30_2 rfl rfl rfl rfl)) ?_)
    all_goals (first | refine al_off rfl rfl rfl rfl rfl ?_ | refine al_ond rfl rfl rfl rfl rfl rfl (by exact (by exact opd_loadn_ref rfl Tryz.isAgg26 Tryz.sizeOf26 rfl rfl rfl rfl (by simp only [List.drop_succ_cons, List.drop_zero, List.take_succ_cons, List.take_zero, List.take_nil, List.map_cons, List.map_nil, List.set_cons_zero, List.set_cons_succ, List.cons_append, List.nil_append, encTag, encObj, encStr, encEdit, zObj]; rfl) rfl)) ?_)
    all_goals (first | refine al_off rfl rfl rfl rfl rfl ?_ | refine al_ond rfl rfl rfl rfl rfl rfl (by exact (by exact opd_field_ref rfl fo32_8 rfl rfl rfl rfl)) ?_)
    all_goals (first | refine al_off rfl rfl rfl rfl rfl ?_ | refine al_ond rfl rfl rfl rfl rfl rfl (by exact (by exact opd_field_ref rfl fo30_2 rfl rfl rfl rfl)) ?_)
    all_goals (first | refine al_off rfl rfl rfl rfl rfl ?_ | refine al_ond rfl rfl rfl rfl rfl rfl (by exact (by exact opd_loadn_ref rfl Tryz.isAgg26 Tryz.sizeOf26 rfl rfl rfl rfl (by simp only [List.drop_succ_cons, List.drop_zero, List.take_succ_cons, List.take_zero, List.take_nil, List.map_cons, List.map_nil, List.set_cons_zero, List.set_cons_succ, List.cons_append, List.nil_append, encTag, encObj, encStr, encEdit, zObj]; rfl) rfl)) ?_)
    all_goals (first | refine al_off rfl rfl rfl rfl rfl ?_ | refine al_ond rfl rfl rfl rfl rfl rfl (by exact opd_aeql rfl rfl rfl rfl rfl Tryz.eqGuardType26 (se26 _ _ _ _)) ?_)
    all_goals (refine al_d rfl rfl rfl (by exact (by first | exact opd_pick_t rfl rfl rfl | exact opd_pick_f rfl rfl rfl)) ?_)
    all_goals (refine al_d rfl rfl rfl (by exact opd_move rfl rfl) ?_)
    all_goals (refine al_split (t := 21) rfl (fun h21 => ?_) (fun h21 => ?_))
    all_goals (try contradiction)
    all_goals (first | refine al_off rfl rfl rfl rfl rfl ?_ | refine al_ond rfl rfl rfl rfl rfl rfl (by exact (by exact opd_field_ref rfl fo32_8 rfl rfl rfl rfl)) ?_)
    all_goals (first | refine al_off rfl rfl rfl rfl rfl ?_ | refine al_ond rfl rfl rfl rfl rfl rfl (by exact (by exact opd_field_ref rfl fo30_4 rfl rfl rfl rfl)) ?_)
    all_goals (first | refine al_off rfl rfl rfl rfl rfl ?_ | refine al_ond rfl rfl rfl rfl rfl rfl (by exact (by exact opd_load1_ref rfl Tryz.isAgg28 rfl rfl rfl rfl rfl)) ?_)
    all_goals (first | refine al_off rfl rfl rfl rfl rfl ?_ | refine al_ond rfl rfl rfl rfl rfl rfl (by exact (by exact opd_field_ref rfl fo32_8 rfl rfl rfl rfl)) ?_)
    all_goals (first | refine al_off rfl rfl rfl rfl rfl ?_ | refine al_ond rfl rfl rfl rfl rfl rfl (by exact (by exact opd_field_ref rfl fo30_4 rfl rfl rfl rfl)) ?_)
    all_goals (first | refine al_off rfl rfl rfl rfl rfl ?_ | refine al_ond rfl rfl rfl rfl rfl rfl (by exact (by exact opd_load1_ref rfl Tryz.isAgg28 rfl rfl rfl rfl rfl)) ?_)
    all_goals (first | refine al_off rfl rfl rfl rfl rfl ?_ | refine al_ond rfl rfl rfl rfl rfl rfl (by exact opr_call rfl rfl Tryz.call52 rfl (equalTags_c a.obj.tags b.obj.tags _ ha)) ?_)
    all_goals (refine al_d rfl rfl rfl (by exact (by first | exact opd_pick_t rfl rfl rfl | exact opd_pick_f rfl rfl rfl)) ?_)
    all_goals (refine al_d rfl rfl rfl (by exact opd_assign rfl rfl) ?_)
    all_goals (refine al_nil ?_)
    all_goals (exact ⟨⟨_, rfl, by (simp only [eAlike, *]; rfl)⟩, rfl, rfl, rfl⟩)
  refine awp_ret ?_
  -- return
  refine aret1 (H' := []) (by exact .inr rfl) rfl (rval_tmp rfl) (Fin.wk (by simp) trivial trivial) ?_
  exact ⟨rfl, rfl⟩
theorem apart_c (a b : GEdit) (H : Heap) : ACalls Tryz.prog 104 [av (encEdit a), av (encEdit b)] H (fun r H' => r = bv (eApart a b) ∧ H' = H) := by
  refine ACalls.pure ?_ (by simp) H
  refine ACalls.body Tryz.func104 rfl Tryz.ntmps104 (Nat.le_of_ble_eq_true rfl) ?_
  refine awp_seq ?_
  refine awp_region ?_
  refine al_d rfl rfl rfl (by exact opd_box (id := 2) rfl rfl rfl rfl rfl) ?_
  refine al_d rfl rfl rfl (by exact opd_box (id := 3) rfl rfl rfl rfl rfl) ?_
  refine al_d rfl rfl rfl (by exact opd_assign rfl rfl) ?_
  refine al_nil ?_
  refine awp_seq ?_
  refine awp_region ?_
  refine al_d rfl rfl rfl (by exact (by exact opd_field_ref rfl fo32_1 rfl rfl rfl rfl)) ?_
  refine al_d rfl rfl rfl (by exact (by exact opd_load1_ref rfl Tryz.isAgg9 rfl rfl rfl rfl rfl)) ?_
  refine al_d rfl rfl rfl (by exact (by exact opd_field_ref rfl fo32_1 rfl rfl rfl rfl)) ?_
  refine al_d rfl rfl rfl (by exact (by exact opd_load1_ref rfl Tryz.isAgg9 rfl rfl rfl rfl rfl)) ?_
  refine al_d rfl rfl rfl (by exact opd_sneq rfl rfl rfl) ?_
  refine al_d rfl rfl rfl (by exact opd_assign rfl rfl) ?_
  refine al_nil ?_
  refine awp_ret ?_
  -- return
  refine aret1 (H' := []) (by exact .inr rfl) rfl (rval_tmp rfl) (Fin.wk (by simp) trivial trivial) ?_
  exact ⟨rfl, rfl⟩
def eF1 (k : Nat) : AV := match k with
  | 1 => .clo 103 [.ref 803 0 0 0]
  | 2 => .clo 105 [.ref 803 0 0 0]
  | 3 => .clo 106 [.ref 803 0 0 0]
  | _ => .pv (.fn 108)
def eF2 (k : Nat) : AV := match k with
  | 4 => .pv (.fn 109)
  | _ => .pv (.fn 104)
def susRow (k : Nat) : List AV := [iv (k : Int), iv (nMany k : Nat), eF1 k, eF2 k]
abbrev susRows : List (List AV) := [susRow 1, susRow 2, susRow 3, susRow 4]
abbrev sH (m : List GObj) : Heap := [(812, ⟨0, 4, 96, susRows⟩), (803, bx 1 130 [sFn]), (801, bx 1 24 [.pv (slObjs m)])]
theorem susRow_at {i : Nat} (h : i < 4) : susRows[i]? = some (susRow (i + 1)) := by
  match i, h with
  | 0, _ => rfl
  | 1, _ => rfl
  | 2, _ => rfl
  | 3, _ => rfl
  | n + 4, h => exact absurd h (by omega)
theorem susRows_len : ∀ r ∈ susRows, r.length = 4 := by
  intro r hr
  simp only [List.mem_cons, List.not_mem_nil, or_false] at hr
  rcases hr with rfl | rfl | rfl | rfl <;> rfl
theorem eF1_clo (k : Nat) {H : Heap} (h : (H.get 803).isSome = true) : Clo H (eF1 k) := by
  have hr : Clo H (.ref 803 0 0 0) := .ref h
  unfold eF1
  split
  · exact .clo (by simpa using h)
  · exact .clo (by simpa using h)
  · exact .clo (by simpa using h)
  · exact .pv _
theorem eF2_clo (k : Nat) (H : Heap) : Clo H (eF2 k) := by
  unfold eF2
  split <;> exact .pv _
theorem susRow_clo (k : Nat) {H : Heap} (h : (H.get 803).isSome = true) : ∀ a ∈ susRow k, Clo H a := by
  intro a ha
  simp only [susRow, List.mem_cons, List.not_mem_nil, or_false] at ha
  rcases ha with rfl | rfl | rfl | rfl
  · exact .pv _
  · exact .pv _
  · exact eF1_clo k h
  · exact eF2_clo k H
theorem susRows_clo {H : Heap} (h : (H.get 803).isSome = true) : ∀ r ∈ susRows, ∀ a ∈ r, Clo H a := by
  intro r hr
  simp only [List.mem_cons, List.not_mem_nil, or_false] at hr
  rcases hr with rfl | rfl | rfl | rfl <;> exact susRow_clo _ h
theorem zoFn : ZeroOf Tryz.prog 130 [.pv .nilfn] := ⟨_, _, Tryz.zeroValue130, .inl rfl, rfl⟩
theorem suspicions_c (m : List GObj) : ACalls Tryz.prog 62 [.agg [.pv (slObjs m)]] [] (fun r H' => r = .osl 812 0 0 4 ∧ H' = sH m) := by
  refine ACalls.body Tryz.func62 rfl Tryz.ntmps62 (Nat.le_of_ble_eq_true rfl) ?_
  refine awp_seq ?_
  refine awp_region ?_
  refine al_d rfl rfl rfl (by exact opd_box (id := 801) rfl rfl rfl rfl rfl) ?_
  refine al_d rfl rfl rfl (by exact opd_assign rfl rfl) ?_
  refine al_nil ?_
  refine awp_seq ?_
  refine awp_region ?_
  refine al_d rfl rfl rfl (by exact opd_makeFunc rfl rfl) ?_
  refine al_d rfl rfl rfl (by exact x_alloc (id := 803) rfl zoFn rfl rfl) ?_
  refine al_n rfl rfl (by exact (by exact x_store_all rfl Tryz.sizeOf130 rfl rfl rfl rfl rfl rfl rfl rfl)) ?_
  refine al_nil ?_
  refine awp_seq ?_
  refine awp_region ?_
  refine al_d rfl rfl rfl (by exact opd_makeFunc rfl rfl) ?_
  refine al_d rfl rfl rfl (by exact x_build rfl bo96 rfl rfl) ?_
  refine al_d rfl rfl rfl (by exact opd_makeFunc rfl rfl) ?_
  refine al_d rfl rfl rfl (by exact x_build rfl bo96 rfl rfl) ?_
  refine al_d rfl rfl rfl (by exact opd_makeFunc rfl rfl) ?_
  refine al_d rfl rfl rfl (by exact x_build rfl bo96 rfl rfl) ?_
  refine al_d rfl rfl rfl (by exact x_build rfl bo96 rfl rfl) ?_
  refine al_d rfl rfl rfl (by exact x_buildSlice_own (id := 812) rfl so93 rfl rfl rfl rfl (show ∀ r ∈ susRows, r.length = 4 from susRows_len) rfl) ?_
  refine al_d rfl rfl rfl (by exact opd_assign rfl rfl) ?_
  refine al_nil ?_
  refine awp_ret ?_
  -- return
  refine aret1 (H' := sH m) (.inr rfl) rfl (rval_tmp rfl) (Fin.wk (.osl rfl) ⟨⟨_, rfl, rfl⟩, susRows_clo rfl, ⟨_, rfl, rfl⟩, (by (simp; rfl)), ⟨_, rfl, rfl⟩, (by simp), trivial⟩ trivial) ⟨rfl, rfl⟩
theorem eshows_c (k : Nat) (m : List GObj) (e : GEdit) (H : Heap) (hm : okM m) (hH : SusH m H) (h1 : 1 ≤ k) (h4 : k ≤ 4) : CallsV Tryz.prog (eF1 k) [av (encEdit e)] H (fun r H' => r = bv (eShows k m e) ∧ H' = H) := by
  match k, h1, h4 with
  | 1, _, _ => exact CallsV.clo Tryz.call103 (sus2_c m e H hm.1 hH)
  | 2, _, _ => exact CallsV.clo Tryz.call105 (sus3_c m e H hm hH)
  | 3, _, _ => exact CallsV.clo Tryz.call106 (sus4_c m e H hm hH)
  | 4, _, _ => exact CallsV.fn Tryz.call108 (sus5_c m e H)
  | n + 5, _, h => exact absurd h (by omega)
theorem etog_c (k : Nat) (a b : GEdit) (H : Heap) (ha : a.obj.tags.length < 4611686018427387904) (h1 : 1 ≤ k) (h4 : k ≤ 4) : CallsV Tryz.prog (eF2 k) [av (encEdit a), av (encEdit b)] H (fun r H' => r = bv (eTog k a b) ∧ H' = H) := by
  match k, h1, h4 with
  | 1, _, _ => exact CallsV.fn Tryz.call104 (apart_c a b H)
  | 2, _, _ => exact CallsV.fn Tryz.call104 (apart_c a b H)
  | 3, _, _ => exact CallsV.fn Tryz.call104 (apart_c a b H)
  | 4, _, _ => exact CallsV.fn Tryz.call109 (sus6_c a b H ha)
  | n + 5, _, h => exact absurd h (by omega)
end Go.Proofs.YtdcifaldfmpapaaGreat
end
