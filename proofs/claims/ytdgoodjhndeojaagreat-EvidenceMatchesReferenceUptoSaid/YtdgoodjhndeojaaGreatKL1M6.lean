/-
  CONTRACTS: package evidence's kinds, the others; the list of kinds. Conditions: lengths below 2^62.
  CONTRACTS: evidence.Find's closures, evidence.first. Conditions: lengths below 2^40.
  CONTRACT: evidence.Find. Conditions: lengths below 2^40.
  PLAIN LAWS: the law's own test of evidence says what evidence is. Conditions: none.
  CONTRACTS: package planispherelaw31: what is moderate, evidence compared, drops counted, one edit, lists of indices. Conditions: lengths below 2^62.
  CONTRACTS: planispherelaw31.holds: evidence that holds. Conditions: lengths below 2^62.
  CONTRACTS: package planispherelaw32: nodes, head. Conditions: none.
  A SLICE WITHOUT ROOM behind it (s[:n:n]): what is appended to it lies in a new block. Conditions: each rule's own premises.
  CONTRACT: planispherelaw31.head: the chapter's examples hold. Conditions: none.
  EvidenceHolds, EvidenceFirst answer true. Conditions: the arguments' sizes.
  WHAT THE ARGUMENTS OF THE LAWS HOLD: maps and edits, as the contracts of layer 31 ask. Conditions: none.
-/
import Derived.Test.YtdgoodjhndeojaaGreatKL1M5
section
set_option linter.unusedVariables false
set_option linter.unusedSimpArgs false
set_option maxRecDepth 100000
namespace Go.Proofs.YtdgoodjhndeojaaGreat
open Go.Abs
theorem okO_z : okO zObj := ⟨by decide, ⟨by decide, fun t ht => by cases ht⟩, by decide, fun s hs => by cases hs⟩
theorem obOf_ok {m : List GObj} (h : okM m) (id : ByteArray) : okO (obOf m id) := by
  cases e : m.find? (idIs id) with
  | none => rw [(obOf_none e).1]; exact okO_z
  | some o => rw [(obOf_some e).1]; exact h.2 o (List.mem_of_find?_eq_some e)
theorem sus3_c (m : List GObj) (e : GEdit) (H : Heap) (hm : okM m) (hH : SusH m H) :
    ACalls Tryz.prog 109 [av (encEdit e), .ref 803 0 0 0] H (fun r H' => r = bv (eShows 2 m e) ∧ H' = H) := by
  have h803 : Heap.get ((973, bEd e) :: H) 803 = some (bx 1 124 [sFn]) := hH.f
  refine ACalls.body Tryz.func109 rfl Tryz.ntmps109 (Nat.le_of_ble_eq_true rfl) ?_
  refine awp_seq ?_
  refine awp_region ?_
  refine al_d rfl rfl rfl (by exact opd_box (id := 973) rfl rfl rfl rfl hH.f2) ?_
  refine al_d rfl rfl rfl (by exact opd_assign rfl rfl) ?_
  refine al_nil ?_
  refine awp_seq ?_
  refine awp_region ?_
  refine al_d rfl rfl rfl (by exact (by exact opd_load1_ref rfl Tryz.isAgg124 rfl h803 rfl rfl rfl)) ?_
  refine al_d rfl rfl rfl (by exact (by exact opd_field_ref rfl fo44_1 rfl rfl rfl rfl)) ?_
  refine al_d rfl rfl rfl (by exact (by exact opd_load1_ref rfl Tryz.isAgg9 rfl rfl rfl rfl rfl)) ?_
  refine al_d rfl rfl rfl (by exact opr_callV rfl rfl rfl (CallsV.clo Tryz.call106 (sus1_c m e.id _ hm.1 hH.m hH.f1 (Closed.cons (by simp [encEdit]) hH.c)))) ?_
  refine al_d rfl rfl rfl (by exact opd_move rfl rfl) ?_
  refine al_d rfl rfl rfl (by exact opd_extract rfl rfl rfl) ?_
  refine al_d rfl rfl rfl (by exact opd_extract rfl rfl rfl) ?_
  refine al_d rfl rfl rfl (by exact x_alloc (id := 974) rfl zo42 rfl hH.f3) ?_
  refine al_n rfl rfl (by exact (by exact x_store_all rfl Tryz.sizeOf42 rfl rfl rfl rfl rfl rfl rfl rfl)) ?_
  refine al_d rfl rfl rfl (by exact opd_assign rfl rfl) ?_
  refine al_nil ?_
  refine awp_seq ?_
  refine awp_region ?_
  refine al_d rfl rfl rfl (by exact (by exact opd_field_ref rfl fo42_4 rfl rfl rfl rfl)) ?_
  refine al_d rfl rfl rfl (by exact (by exact opd_load1_ref rfl Tryz.isAgg40 rfl rfl rfl rfl rfl)) ?_
  refine al_d rfl rfl rfl (by exact opr_call rfl rfl Tryz.call95 rfl (tagGet_c (obOf m e.id).tags sName _ (obOf_ok hm e.id).2.1.1)) ?_
  refine al_d rfl rfl rfl (by exact opd_move rfl rfl) ?_
  refine al_d rfl rfl rfl (by exact opd_extract rfl rfl rfl) ?_
  refine al_d rfl rfl rfl (by exact opd_extract rfl rfl rfl) ?_
  refine al_d rfl rfl rfl (by exact opd_assign rfl rfl) ?_
  refine al_d rfl rfl rfl (by exact opd_assign rfl rfl) ?_
  refine al_nil ?_
  refine awp_seq ?_
  refine awp_bool (t := 3) (n := 20) (X := eShows 2 m e) ?_ ?_
  · all_goals (refine al_d rfl rfl rfl (by exact (by exact opd_field_ref rfl fo44_0 rfl rfl rfl rfl)) ?_)
    all_goals (refine al_d rfl rfl rfl (by exact (by exact opd_load1_ref rfl Tryz.isAgg3 rfl rfl rfl rfl rfl)) ?_)
    all_goals (refine al_d rfl rfl rfl (by exact opd_eql rfl rfl rfl) ?_)
    all_goals (refine al_d rfl rfl rfl (by exact opd_move rfl rfl) ?_)
    all_goals (refine al_split (t := 24) rfl (fun h24 => ?_) (fun h24 => ?_))
    all_goals (try contradiction)
    all_goals (first | refine al_off rfl rfl rfl rfl rfl ?_ | refine al_ond rfl rfl rfl rfl rfl rfl (by exact (by exact opd_field_ref rfl fo44_5 rfl rfl rfl rfl)) ?_)
    all_goals (first | refine al_off rfl rfl rfl rfl rfl ?_ | refine al_ond rfl rfl rfl rfl rfl rfl (by exact (by exact opd_load1_ref rfl Tryz.isAgg9 rfl rfl rfl rfl rfl)) ?_)
    all_goals (first | refine al_off rfl rfl rfl rfl rfl ?_ | refine al_ond rfl rfl rfl rfl rfl rfl (by exact opd_seql rfl rfl rfl) ?_)
    all_goals (refine al_d rfl rfl rfl (by exact (by first | exact opd_pick_t rfl rfl rfl | exact opd_pick_f rfl rfl rfl)) ?_)
    all_goals (refine al_d rfl rfl rfl (by exact opd_move rfl rfl) ?_)
    all_goals (refine al_split (t := 29) rfl (fun h29 => ?_) (fun h29 => ?_))
    all_goals (try contradiction)
    all_goals (first | refine al_off rfl rfl rfl rfl rfl ?_ | refine al_ond rfl rfl rfl rfl rfl rfl (by exact (by exact opd_field_ref rfl fo44_6 rfl rfl rfl rfl)) ?_)
    all_goals (first | refine al_off rfl rfl rfl rfl rfl ?_ | refine al_ond rfl rfl rfl rfl rfl rfl (by exact (by exact opd_load1_ref rfl Tryz.isAgg9 rfl rfl rfl rfl rfl)) ?_)
    all_goals (first | refine al_off rfl rfl rfl rfl rfl ?_ | refine al_ond rfl rfl rfl rfl rfl rfl (by exact opd_seql rfl rfl rfl) ?_)
    all_goals (refine al_d rfl rfl rfl (by exact (by first | exact opd_pick_t rfl rfl rfl | exact opd_pick_f rfl rfl rfl)) ?_)
    all_goals (refine al_d rfl rfl rfl (by exact opd_move rfl rfl) ?_)
    all_goals (refine al_split (t := 34) rfl (fun h34 => ?_) (fun h34 => ?_))
    all_goals (try contradiction)
    all_goals (first | refine al_off rfl rfl rfl rfl rfl ?_ | refine al_ond rfl rfl rfl rfl rfl rfl (by exact opd_move rfl rfl) ?_)
    all_goals (refine al_d rfl rfl rfl (by exact (by first | exact opd_pick_t rfl rfl rfl | exact opd_pick_f rfl rfl rfl)) ?_)
    all_goals (refine al_d rfl rfl rfl (by exact opd_assign rfl rfl) ?_)
    all_goals (refine al_nil ?_)
    all_goals (exact ⟨⟨_, rfl, by (simp only [eShows, *]; rfl)⟩, rfl, rfl, rfl⟩)
  refine awp_ret ?_
  -- return
  refine aret1 (H' := H) (.inr rfl) rfl (rval_tmp rfl) (Fin.pops [(974, bOb (obOf m e.id)), (974, bOb zObj), (973, bEd e)] (by simp) hH.c (by simp [hH.f2, hH.f3])) ⟨rfl, rfl⟩
theorem sus4_c (m : List GObj) (e : GEdit) (H : Heap) (hm : okM m) (hH : SusH m H) :
    ACalls Tryz.prog 110 [av (encEdit e), .ref 803 0 0 0] H (fun r H' => r = bv (eShows 3 m e) ∧ H' = H) := by
  have h803 : Heap.get ((973, bEd e) :: H) 803 = some (bx 1 124 [sFn]) := hH.f
  refine ACalls.body Tryz.func110 rfl Tryz.ntmps110 (Nat.le_of_ble_eq_true rfl) ?_
  refine awp_seq ?_
  refine awp_region ?_
  refine al_d rfl rfl rfl (by exact opd_box (id := 973) rfl rfl rfl rfl hH.f2) ?_
  refine al_d rfl rfl rfl (by exact opd_assign rfl rfl) ?_
  refine al_nil ?_
  refine awp_seq ?_
  refine awp_region ?_
  refine al_d rfl rfl rfl (by exact (by exact opd_load1_ref rfl Tryz.isAgg124 rfl h803 rfl rfl rfl)) ?_
  refine al_d rfl rfl rfl (by exact (by exact opd_field_ref rfl fo44_1 rfl rfl rfl rfl)) ?_
  refine al_d rfl rfl rfl (by exact (by exact opd_load1_ref rfl Tryz.isAgg9 rfl rfl rfl rfl rfl)) ?_
  refine al_d rfl rfl rfl (by exact opr_callV rfl rfl rfl (CallsV.clo Tryz.call106 (sus1_c m e.id _ hm.1 hH.m hH.f1 (Closed.cons (by simp [encEdit]) hH.c)))) ?_
  refine al_d rfl rfl rfl (by exact opd_move rfl rfl) ?_
  refine al_d rfl rfl rfl (by exact opd_extract rfl rfl rfl) ?_
  refine al_d rfl rfl rfl (by exact opd_extract rfl rfl rfl) ?_
  refine al_d rfl rfl rfl (by exact x_alloc (id := 974) rfl zo42 rfl hH.f3) ?_
  refine al_n rfl rfl (by exact (by exact x_store_all rfl Tryz.sizeOf42 rfl rfl rfl rfl rfl rfl rfl rfl)) ?_
  refine al_d rfl rfl rfl (by exact opd_assign rfl rfl) ?_
  refine al_nil ?_
  refine awp_seq ?_
  refine awp_bool (t := 3) (n := 23) (X := eShows 3 m e) ?_ ?_
  · all_goals (refine al_d rfl rfl rfl (by exact (by exact opd_field_ref rfl fo44_0 rfl rfl rfl rfl)) ?_)
    all_goals (refine al_d rfl rfl rfl (by exact (by exact opd_load1_ref rfl Tryz.isAgg3 rfl rfl rfl rfl rfl)) ?_)
    all_goals (refine al_d rfl rfl rfl (by exact opd_eql rfl rfl rfl) ?_)
    all_goals (refine al_d rfl rfl rfl (by exact opd_move rfl rfl) ?_)
    all_goals (refine al_split (t := 16) rfl (fun h16 => ?_) (fun h16 => ?_))
    all_goals (try contradiction)
    all_goals (first | refine al_off rfl rfl rfl rfl rfl ?_ | refine al_ond rfl rfl rfl rfl rfl rfl (by exact opd_move rfl rfl) ?_)
    all_goals (refine al_d rfl rfl rfl (by exact (by first | exact opd_pick_t rfl rfl rfl | exact opd_pick_f rfl rfl rfl)) ?_)
    all_goals (refine al_d rfl rfl rfl (by exact opd_move rfl rfl) ?_)
    all_goals (refine al_split (t := 19) rfl (fun h19 => ?_) (fun h19 => ?_))
    all_goals (try contradiction)
    all_goals (first | refine al_off rfl rfl rfl rfl rfl ?_ | refine al_ond rfl rfl rfl rfl rfl rfl (by exact (by exact opd_field_ref rfl fo42_1 rfl rfl rfl rfl)) ?_)
    all_goals (first | refine al_off rfl rfl rfl rfl rfl ?_ | refine al_ond rfl rfl rfl rfl rfl rfl (by exact (by exact opd_load1_ref rfl Tryz.isAgg3 rfl rfl rfl rfl rfl)) ?_)
    all_goals (first | refine al_off rfl rfl rfl rfl rfl ?_ | refine al_ond rfl rfl rfl rfl rfl rfl (by exact opd_eql rfl rfl rfl) ?_)
    all_goals (refine al_d rfl rfl rfl (by exact (by first | exact opd_pick_t rfl rfl rfl | exact opd_pick_f rfl rfl rfl)) ?_)
    all_goals (refine al_d rfl rfl rfl (by exact opd_move rfl rfl) ?_)
    all_goals (refine al_split (t := 24) rfl (fun h24 => ?_) (fun h24 => ?_))
    all_goals (try contradiction)
    all_goals (first | refine al_off rfl rfl rfl rfl rfl ?_ | refine al_ond rfl rfl rfl rfl rfl rfl (by exact (by exact opd_field_ref rfl fo42_2 rfl rfl rfl rfl)) ?_)
    all_goals (first | refine al_off rfl rfl rfl rfl rfl ?_ | refine al_ond rfl rfl rfl rfl rfl rfl (by exact (by exact opd_loadn_ref rfl Tryz.isAgg38 Tryz.sizeOf38 rfl rfl rfl rfl (by simp only [List.drop_succ_cons, List.drop_zero, List.take_succ_cons, List.take_zero, List.take_nil, List.map_cons, List.map_nil, List.set_cons_zero, List.set_cons_succ, List.cons_append, List.nil_append, encTag, encObj, encStr, encEdit, zObj]; rfl) rfl)) ?_)
    all_goals (first | refine al_off rfl rfl rfl rfl rfl ?_ | refine al_ond rfl rfl rfl rfl rfl rfl (by exact (by exact opd_field_ref rfl fo44_4 rfl rfl rfl rfl)) ?_)
    all_goals (first | refine al_off rfl rfl rfl rfl rfl ?_ | refine al_ond rfl rfl rfl rfl rfl rfl (by exact (by exact opd_loadn_ref rfl Tryz.isAgg38 Tryz.sizeOf38 rfl rfl rfl rfl (by simp only [List.drop_succ_cons, List.drop_zero, List.take_succ_cons, List.take_zero, List.take_nil, List.map_cons, List.map_nil, List.set_cons_zero, List.set_cons_succ, List.cons_append, List.nil_append, encTag, encObj, encStr, encEdit, zObj]; rfl) rfl)) ?_)
    all_goals (first | refine al_off rfl rfl rfl rfl rfl ?_ | refine al_ond rfl rfl rfl rfl rfl rfl (by exact opr_call rfl rfl Tryz.call111 rfl (distance_c (obOf m e.id).x (obOf m e.id).y e.x e.y _)) ?_)
    all_goals (first | refine al_off rfl rfl rfl rfl rfl ?_ | refine al_ond rfl rfl rfl rfl rfl rfl (by exact opd_geq rfl rfl rfl) ?_)
    all_goals (refine al_d rfl rfl rfl (by exact (by first | exact opd_pick_t rfl rfl rfl | exact opd_pick_f rfl rfl rfl)) ?_)
    all_goals (refine al_d rfl rfl rfl (by exact opd_assign rfl rfl) ?_)
    all_goals (refine al_nil ?_)
    all_goals (exact ⟨⟨_, rfl, by (simp only [eShows, *]; rfl)⟩, rfl, rfl, rfl⟩)
  refine awp_ret ?_
  -- return
  refine aret1 (H' := H) (.inr rfl) rfl (rval_tmp rfl) (Fin.pops [(974, bOb (obOf m e.id)), (974, bOb zObj), (973, bEd e)] (by simp) hH.c (by simp [hH.f2, hH.f3])) ⟨rfl, rfl⟩
theorem sus5_c (m : List GObj) (e : GEdit) (H : Heap) : ACalls Tryz.prog 112 [av (encEdit e)] H (fun r H' => r = bv (eShows 4 m e) ∧ H' = H) := by
  refine ACalls.pure ?_ (by simp) H
  refine ACalls.body Tryz.func112 rfl Tryz.ntmps112 (Nat.le_of_ble_eq_true rfl) ?_
  refine awp_seq ?_
  refine awp_region ?_
  refine al_d rfl rfl rfl (by exact opd_box (id := 1) rfl rfl rfl rfl rfl) ?_
  refine al_d rfl rfl rfl (by exact opd_assign rfl rfl) ?_
  refine al_nil ?_
  refine awp_seq ?_
  refine awp_bool (t := 2) (n := 11) (X := eShows 4 m e) ?_ ?_
  · all_goals (refine al_d rfl rfl rfl (by exact (by exact opd_field_ref rfl fo44_0 rfl rfl rfl rfl)) ?_)
    all_goals (refine al_d rfl rfl rfl (by exact (by exact opd_load1_ref rfl Tryz.isAgg3 rfl rfl rfl rfl rfl)) ?_)
    all_goals (refine al_d rfl rfl rfl (by exact opd_eql rfl rfl rfl) ?_)
    all_goals (refine al_d rfl rfl rfl (by exact opd_move rfl rfl) ?_)
    all_goals (refine al_split (t := 6) rfl (fun h6 => ?_) (fun h6 => ?_))
    all_goals (try contradiction)
    all_goals (first | refine al_off rfl rfl rfl rfl rfl ?_ | refine al_ond rfl rfl rfl rfl rfl rfl (by exact (by exact opd_field_ref rfl fo44_8 rfl rfl rfl rfl)) ?_)
    all_goals (first | refine al_off rfl rfl rfl rfl rfl ?_ | refine al_ond rfl rfl rfl rfl rfl rfl (by exact (by exact opd_field_ref rfl fo42_1 rfl rfl rfl rfl)) ?_)
    all_goals (first | refine al_off rfl rfl rfl rfl rfl ?_ | refine al_ond rfl rfl rfl rfl rfl rfl (by exact (by exact opd_load1_ref rfl Tryz.isAgg3 rfl rfl rfl rfl rfl)) ?_)
    all_goals (first | refine al_off rfl rfl rfl rfl rfl ?_ | refine al_ond rfl rfl rfl rfl rfl rfl (by exact opd_eql rfl rfl rfl) ?_)
    all_goals (refine al_d rfl rfl rfl (by exact (by first | exact opd_pick_t rfl rfl rfl | exact opd_pick_f rfl rfl rfl)) ?_)
    all_goals (refine al_d rfl rfl rfl (by exact opd_assign rfl rfl) ?_)
    all_goals (refine al_nil ?_)
    all_goals (exact ⟨⟨_, rfl, by (simp only [eShows, *]; rfl)⟩, rfl, rfl, rfl⟩)
  refine awp_ret ?_
  -- return
  refine aret1 (H' := []) (by exact .inr rfl) rfl (rval_tmp rfl) (Fin.wk (by simp) trivial trivial) ?_
  exact ⟨rfl, rfl⟩
theorem sus6_c (a b : GEdit) (H : Heap) (ha : a.obj.tags.length < 4611686018427387904) : ACalls Tryz.prog 113 [av (encEdit a), av (encEdit b)] H (fun r H' => r = bv (eAlike a b) ∧ H' = H) := by
  refine ACalls.pure ?_ (by simp) H
  refine ACalls.body Tryz.func113 rfl Tryz.ntmps113 (Nat.le_of_ble_eq_true rfl) ?_
  refine awp_seq ?_
  refine awp_region ?_
  refine al_d rfl rfl rfl (by exact opd_box (id := 2) rfl rfl rfl rfl rfl) ?_
  refine al_d rfl rfl rfl (by exact opd_box (id := 3) rfl rfl rfl rfl rfl) ?_
  refine al_d rfl rfl rfl (by exact opd_assign rfl rfl) ?_
  refine al_nil ?_
  refine awp_seq ?_
  refine awp_bool (t := 4) (n := 28) (X := eAlike a b) ?_ ?_
  · all_goals (refine al_d rfl rfl rfl (by exact (by exact opd_field_ref rfl fo44_8 rfl rfl rfl rfl)) ?_)
    all_goals (refine al_d rfl rfl rfl (by exact (by exact opd_field_ref rfl fo42_0 rfl rfl rfl rfl)) ?_)
    all_goals (refine al_d rfl rfl rfl (by exact (by exact opd_load1_ref rfl Tryz.isAgg9 rfl rfl rfl rfl rfl)) ?_)
    all_goals (refine al_d rfl rfl rfl (by exact (by exact opd_field_ref rfl fo44_8 rfl rfl rfl rfl)) ?_)
    all_goals (refine al_d rfl rfl rfl (by exact (by exact opd_field_ref rfl fo42_0 rfl rfl rfl rfl)) ?_)
    all_goals (refine al_d rfl rfl rfl (by exact (by exact opd_load1_ref rfl Tryz.isAgg9 rfl rfl rfl rfl rfl)) ?_)
    all_goals (refine al_d rfl rfl rfl (by exact opd_sneq rfl rfl rfl) ?_)
    all_goals (refine al_d rfl rfl rfl (by exact opd_move rfl rfl) ?_)
    all_goals (refine al_split (t := 12) rfl (fun h12 => ?_) (fun h12 => ?_))
    all_goals (try contradiction)
    all_goals (first | refine al_off rfl rfl rfl rfl rfl ?_ | refine al_ond rfl rfl rfl rfl rfl rfl (by exact (by exact opd_field_ref rfl fo44_8 rfl rfl rfl rfl)) ?_)
    all_goals (first | refine al_off rfl rfl rfl rfl rfl ?_ | refine al_ond rfl rfl rfl rfl rfl rfl (by exact (by exact opd_field_ref rfl fo42_2 rfl rfl rfl rfl)) ?_)
    all_goals (first | refine al_off rfl rfl rfl rfl rfl ?_ | refine al_ond rfl rfl rfl rfl rfl rfl (by exact (by exact opd_loadn_ref rfl Tryz.isAgg38 Tryz.sizeOf38 rfl rfl rfl rfl (by simp only [List.drop_succ_cons, List.drop_zero, List.take_succ_cons, List.take_zero, List.take_nil, List.map_cons, List.map_nil, List.set_cons_zero, List.set_cons_succ, List.cons_append, List.nil_append, encTag, encObj, encStr, encEdit, zObj]; rfl) rfl)) ?_)
    all_goals (first | refine al_off rfl rfl rfl rfl rfl ?_ | refine al_ond rfl rfl rfl rfl rfl rfl (by exact (by exact opd_field_ref rfl fo44_8 rfl rfl rfl rfl)) ?_)
    all_goals (first | refine al_off rfl rfl rfl rfl rfl ?_ | refine al_ond rfl rfl rfl rfl rfl rfl (by exact (by exact opd_field_ref rfl fo42_2 rfl rfl rfl rfl)) ?_)
    all_goals (first | refine al_off rfl rfl rfl rfl rfl ?_ | refine al_ond rfl rfl rfl rfl rfl rfl (by exact (by exact opd_loadn_ref rfl Tryz.isAgg38 Tryz.sizeOf38 rfl rfl rfl rfl (by simp only [List.drop_succ_cons, List.drop_zero, List.take_succ_cons, List.take_zero, List.take_nil, List.map_cons, List.map_nil, List.set_cons_zero, List.set_cons_succ, List.cons_append, List.nil_append, encTag, encObj, encStr, encEdit, zObj]; rfl) rfl)) ?_)
    all_goals (first | refine al_off rfl rfl rfl rfl rfl ?_ | refine al_ond rfl rfl rfl rfl rfl rfl (by exact opd_aeql rfl rfl rfl rfl rfl Tryz.eqGuardType38 (se38 _ _ _ _)) ?_)
    all_goals (refine al_d rfl rfl rfl (by exact (by first | exact opd_pick_t rfl rfl rfl | exact opd_pick_f rfl rfl rfl)) ?_)
    all_goals (refine al_d rfl rfl rfl (by exact opd_move rfl rfl) ?_)
    all_goals (refine al_split (t := 21) rfl (fun h21 => ?_) (fun h21 => ?_))
    all_goals (try contradiction)
    all_goals (first | refine al_off rfl rfl rfl rfl rfl ?_ | refine al_ond rfl rfl rfl rfl rfl rfl (by exact (by exact opd_field_ref rfl fo44_8 rfl rfl rfl rfl)) ?_)
    all_goals (first | refine al_off rfl rfl rfl rfl rfl ?_ | refine al_ond rfl rfl rfl rfl rfl rfl (by exact (by exact opd_field_ref rfl fo42_4 rfl rfl rfl rfl)) ?_)
    all_goals (first | refine al_off rfl rfl rfl rfl rfl ?_ | refine al_ond rfl rfl rfl rfl rfl rfl (by exact (by exact opd_load1_ref rfl Tryz.isAgg40 rfl rfl rfl rfl rfl)) ?_)
    all_goals (first | refine al_off rfl rfl rfl rfl rfl ?_ | refine al_ond rfl rfl rfl rfl rfl rfl (by exact (by exact opd_field_ref rfl fo44_8 rfl rfl rfl rfl)) ?_)
    all_goals (first | refine al_off rfl rfl rfl rfl rfl ?_ | refine al_ond rfl rfl rfl rfl rfl rfl (by exact (by exact opd_field_ref rfl fo42_4 rfl rfl rfl rfl)) ?_)
    all_goals (first | refine al_off rfl rfl rfl rfl rfl ?_ | refine al_ond rfl rfl rfl rfl rfl rfl (by exact (by exact opd_load1_ref rfl Tryz.isAgg40 rfl rfl rfl rfl rfl)) ?_)
    all_goals (first | refine al_off rfl rfl rfl rfl rfl ?_ | refine al_ond rfl rfl rfl rfl rfl rfl (by exact opr_call rfl rfl Tryz.call87 rfl (equalTags_c a.obj.tags b.obj.tags _ ha)) ?_)
    all_goals (refine al_d rfl rfl rfl (by exact (by first | exact opd_pick_t rfl rfl rfl | exact opd_pick_f rfl rfl rfl)) ?_)
    all_goals (refine al_d rfl rfl rfl (by exact opd_assign rfl rfl) ?_)
    all_goals (refine al_nil ?_)
    all_goals (exact ⟨⟨_, rfl, by (simp only [eAlike, *]; rfl)⟩, rfl, rfl, rfl⟩)
  refine awp_ret ?_
  -- return
  refine aret1 (H' := []) (by exact .inr rfl) rfl (rval_tmp rfl) (Fin.wk (by simp) trivial trivial) ?_
  exact ⟨rfl, rfl⟩
theorem apart_c (a b : GEdit) (H : Heap) : ACalls Tryz.prog 108 [av (encEdit a), av (encEdit b)] H (fun r H' => r = bv (eApart a b) ∧ H' = H) := by
  refine ACalls.pure ?_ (by simp) H
  refine ACalls.body Tryz.func108 rfl Tryz.ntmps108 (Nat.le_of_ble_eq_true rfl) ?_
  refine awp_seq ?_
  refine awp_region ?_
  refine al_d rfl rfl rfl (by exact opd_box (id := 2) rfl rfl rfl rfl rfl) ?_
  refine al_d rfl rfl rfl (by exact opd_box (id := 3) rfl rfl rfl rfl rfl) ?_
  refine al_d rfl rfl rfl (by exact opd_assign rfl rfl) ?_
  refine al_nil ?_
  refine awp_seq ?_
  refine awp_region ?_
  refine al_d rfl rfl rfl (by exact (by exact opd_field_ref rfl fo44_1 rfl rfl rfl rfl)) ?_
  refine al_d rfl rfl rfl (by exact (by exact opd_load1_ref rfl Tryz.isAgg9 rfl rfl rfl rfl rfl)) ?_
  refine al_d rfl rfl rfl (by exact (by exact opd_field_ref rfl fo44_1 rfl rfl rfl rfl)) ?_
  refine al_d rfl rfl rfl (by exact (by exact opd_load1_ref rfl Tryz.isAgg9 rfl rfl rfl rfl rfl)) ?_
  refine al_d rfl rfl rfl (by exact opd_sneq rfl rfl rfl) ?_
  refine al_d rfl rfl rfl (by exact opd_assign rfl rfl) ?_
  refine al_nil ?_
  refine awp_ret ?_
  -- return
  refine aret1 (H' := []) (by exact .inr rfl) rfl (rval_tmp rfl) (Fin.wk (by simp) trivial trivial) ?_
  exact ⟨rfl, rfl⟩
def eF1 (k : Nat) : AV := match k with
  | 1 => .clo 107 [.ref 803 0 0 0]
  | 2 => .clo 109 [.ref 803 0 0 0]
  | 3 => .clo 110 [.ref 803 0 0 0]
  | _ => .pv (.fn 112)
def eF2 (k : Nat) : AV := match k with
  | 4 => .pv (.fn 113)
  | _ => .pv (.fn 108)
def susRow (k : Nat) : List AV := [iv (k : Int), iv (nMany k : Nat), eF1 k, eF2 k]
abbrev susRows : List (List AV) := [susRow 1, susRow 2, susRow 3, susRow 4]
abbrev sH (m : List GObj) : Heap := [(812, ⟨0, 4, 80, susRows⟩), (803, bx 1 124 [sFn]), (801, bx 1 24 [.pv (slObjs m)])]
theorem susRow_at {i : Nat} (h : i < 4) : susRows[i]? = some (susRow (i + 1)) := by
  match i, h with
  | 0, _ => rfl
  | 1, _ => rfl
  | 2, _ => rfl
  | 3, _ => rfl
  | n + 4, h => exact absurd h (by omega)
theorem susRows_len : ∀ r ∈ susRows, r.length = 4 := by
  intro r hr
  simp only [List.mem_cons, List.not_mem_nil, or_false] at hr
  rcases hr with rfl | rfl | rfl | rfl <;> rfl
theorem eF1_clo (k : Nat) {H : Heap} (h : (H.get 803).isSome = true) : Clo H (eF1 k) := by
  have hr : Clo H (.ref 803 0 0 0) := .ref h
  unfold eF1
  split
  · exact .clo (by simpa using h)
  · exact .clo (by simpa using h)
  · exact .clo (by simpa using h)
  · exact .pv _
theorem eF2_clo (k : Nat) (H : Heap) : Clo H (eF2 k) := by
  unfold eF2
  split <;> exact .pv _
theorem susRow_clo (k : Nat) {H : Heap} (h : (H.get 803).isSome = true) : ∀ a ∈ susRow k, Clo H a := by
  intro a ha
  simp only [susRow, List.mem_cons, List.not_mem_nil, or_false] at ha
  rcases ha with rfl | rfl | rfl | rfl
  · exact .pv _
  · exact .pv _
  · exact eF1_clo k h
  · exact eF2_clo k H
theorem susRows_clo {H : Heap} (h : (H.get 803).isSome = true) : ∀ r ∈ susRows, ∀ a ∈ r, Clo H a := by
  intro r hr
  simp only [List.mem_cons, List.not_mem_nil, or_false] at hr
  rcases hr with rfl | rfl | rfl | rfl <;> exact susRow_clo _ h
theorem zoFn : ZeroOf Tryz.prog 124 [.pv .nilfn] := ⟨_, _, Tryz.zeroValue124, .inl rfl, rfl⟩
theorem suspicions_c (m : List GObj) : ACalls Tryz.prog 55 [.agg [.pv (slObjs m)]] [] (fun r H' => r = .osl 812 0 0 4 ∧ H' = sH m) := by
  refine ACalls.body Tryz.func55 rfl Tryz.ntmps55 (Nat.le_of_ble_eq_true rfl) ?_
  refine awp_seq ?_
  refine awp_region ?_
  refine al_d rfl rfl rfl (by exact opd_box (id := 801) rfl rfl rfl rfl rfl) ?_
  refine al_d rfl rfl rfl (by exact opd_assign rfl rfl) ?_
  refine al_nil ?_
  refine awp_seq ?_
  refine awp_region ?_
  refine al_d rfl rfl rfl (by exact opd_makeFunc rfl rfl) ?_
  refine al_d rfl rfl rfl (by exact x_alloc (id := 803) rfl zoFn rfl rfl) ?_
  refine al_n rfl rfl (by exact (by exact x_store_all rfl Tryz.sizeOf124 rfl rfl rfl rfl rfl rfl rfl rfl)) ?_
  refine al_nil ?_
  refine awp_seq ?_
  refine awp_region ?_
  refine al_d rfl rfl rfl (by exact opd_makeFunc rfl rfl) ?_
  refine al_d rfl rfl rfl (by exact x_build rfl bo80 rfl rfl) ?_
  refine al_d rfl rfl rfl (by exact opd_makeFunc rfl rfl) ?_
  refine al_d rfl rfl rfl (by exact x_build rfl bo80 rfl rfl) ?_
  refine al_d rfl rfl rfl (by exact opd_makeFunc rfl rfl) ?_
  refine al_d rfl rfl rfl (by exact x_build rfl bo80 rfl rfl) ?_
  refine al_d rfl rfl rfl (by exact x_build rfl bo80 rfl rfl) ?_
  refine al_d rfl rfl rfl (by exact x_buildSlice_own (id := 812) rfl so76 rfl rfl rfl rfl (show ∀ r ∈ susRows, r.length = 4 from susRows_len) rfl) ?_
  refine al_d rfl rfl rfl (by exact opd_assign rfl rfl) ?_
  refine al_nil ?_
  refine awp_ret ?_
  -- return
  refine aret1 (H' := sH m) (.inr rfl) rfl (rval_tmp rfl) (Fin.wk (.osl rfl) ⟨⟨_, rfl, rfl⟩, susRows_clo rfl, ⟨_, rfl, rfl⟩, (by (simp; rfl)), ⟨_, rfl, rfl⟩, (by simp), trivial⟩ trivial) ⟨rfl, rfl⟩
theorem eshows_c (k : Nat) (m : List GObj) (e : GEdit) (H : Heap) (hm : okM m) (hH : SusH m H) (h1 : 1 ≤ k) (h4 : k ≤ 4) : CallsV Tryz.prog (eF1 k) [av (encEdit e)] H (fun r H' => r = bv (eShows k m e) ∧ H' = H) := by
  match k, h1, h4 with
  | 1, _, _ => exact CallsV.clo Tryz.call107 (sus2_c m e H hm.1 hH)
  | 2, _, _ => exact CallsV.clo Tryz.call109 (sus3_c m e H hm hH)
  | 3, _, _ => exact CallsV.clo Tryz.call110 (sus4_c m e H hm hH)
  | 4, _, _ => exact CallsV.fn Tryz.call112 (sus5_c m e H)
  | n + 5, _, h => exact absurd h (by omega)
theorem etog_c (k : Nat) (a b : GEdit) (H : Heap) (ha : a.obj.tags.length < 4611686018427387904) (h1 : 1 ≤ k) (h4 : k ≤ 4) : CallsV Tryz.prog (eF2 k) [av (encEdit a), av (encEdit b)] H (fun r H' => r = bv (eTog k a b) ∧ H' = H) := by
  match k, h1, h4 with
  | 1, _, _ => exact CallsV.fn Tryz.call108 (apart_c a b H)
  | 2, _, _ => exact CallsV.fn Tryz.call108 (apart_c a b H)
  | 3, _, _ => exact CallsV.fn Tryz.call108 (apart_c a b H)
  | 4, _, _ => exact CallsV.fn Tryz.call113 (sus6_c a b H ha)
  | n + 5, _, h => exact absurd h (by omega)
end Go.Proofs.YtdgoodjhndeojaaGreat
end
section
set_option linter.unusedVariables false
set_option linter.unusedSimpArgs false
set_option maxRecDepth 100000
namespace Go.Proofs.YtdgoodjhndeojaaGreat
open Go.Abs
theorem SusH.cons {m : List GObj} {H : Heap} {i : Nat} {o : Ob} (h : SusH m H) (h1 : Nat.beq i 801 = false) (h2 : Nat.beq i 803 = false) (h3 : Nat.beq i 971 = false) (h4 : Nat.beq i 973 = false) (h5 : Nat.beq i 974 = false) (hc : ∀ r ∈ o.rows, ∀ a ∈ r, Clo ((i, o) :: H) a) : SusH m ((i, o) :: H) where
  m := by simp only [Heap.get, h1]; exact h.m
  f := by simp only [Heap.get, h2]; exact h.f
  f1 := by simp only [Heap.get, h3]; exact h.f1
  f2 := by simp only [Heap.get, h4]; exact h.f2
  f3 := by simp only [Heap.get, h5]; exact h.f3
  c := Closed.cons hc h.c
theorem find11_c (k : Nat) (x e : GEdit) (H : Heap) (h12 : H.get 12 = some (bx 4 80 (susRow k))) (h83 : H.get 983 = some (bEd e)) (h84 : H.get 984 = none) (hc : Closed H) (hx : x.obj.tags.length < 4611686018427387904) (h1 : 1 ≤ k) (h4 : k ≤ 4) :
    ACalls Tryz.prog 59 [av (encEdit x), .ref 12 0 0 0, .ref 983 0 0 0] H (fun r H' => r = bv (!eTog k x e) ∧ H' = H) := by
  have h12' : Heap.get ((984, bEd x) :: H) 12 = some (bx 4 80 (susRow k)) := h12
  have h83' : Heap.get ((984, bEd x) :: H) 983 = some (bEd e) := h83
  have htog := fun H => etog_c k x e H hx h1 h4
  refine ACalls.body Tryz.func59 rfl Tryz.ntmps59 (Nat.le_of_ble_eq_true rfl) ?_
  refine awp_seq ?_
  refine awp_region ?_
  refine al_d rfl rfl rfl (by exact opd_box (id := 984) rfl rfl rfl rfl h84) ?_
  refine al_d rfl rfl rfl (by exact opd_assign rfl rfl) ?_
  refine al_nil ?_
  refine awp_seq ?_
  refine awp_region ?_
  refine al_d rfl rfl rfl (by exact opd_field_ref rfl fo80_3 rfl h12' rfl rfl) ?_
  refine al_d rfl rfl rfl (by exact opd_load1_ref rfl Tryz.isAgg78 rfl h12' rfl rfl rfl) ?_
  refine al_d rfl rfl rfl (by exact (by exact opd_loadn_ref rfl Tryz.isAgg44 Tryz.sizeOf44 rfl rfl rfl rfl (by simp only [List.drop_succ_cons, List.drop_zero, List.take_succ_cons, List.take_zero, List.take_nil, List.map_cons, List.map_nil, List.set_cons_zero, List.set_cons_succ, List.cons_append, List.nil_append, encTag, encObj, encStr, encEdit, encInt]; rfl) rfl)) ?_
  refine al_d rfl rfl rfl (by exact (by exact opd_loadn_ref rfl Tryz.isAgg44 Tryz.sizeOf44 rfl h83' rfl rfl (by simp only [List.drop_succ_cons, List.drop_zero, List.take_succ_cons, List.take_zero, List.take_nil, List.map_cons, List.map_nil, List.set_cons_zero, List.set_cons_succ, List.cons_append, List.nil_append, encTag, encObj, encStr, encEdit, encInt]; rfl) rfl)) ?_
  refine al_d rfl rfl rfl (by exact opr_callV rfl rfl rfl (htog _)) ?_
  refine al_d rfl rfl rfl (by exact opd_not rfl rfl) ?_
  refine al_d rfl rfl rfl (by exact opd_assign rfl rfl) ?_
  refine al_nil ?_
  refine awp_ret ?_
  -- return
  refine aret1 (H' := H) (.inr rfl) rfl (rval_tmp rfl) (Fin.pops [(984, bEd x)] (by simp) hc (by simp [h84])) ⟨rfl, rfl⟩
theorem findC_c (k : Nat) (m : List GObj) (e : GEdit) (tk : List GEdit) (g : Nat) (H : Heap) (hm : okM m) (hS : SusH m H) (h12 : H.get 12 = some (bx 4 80 (susRow k))) (h10 : H.get 910 = some ⟨g, 15, 44, edRows tk⟩)
    (h83 : H.get 983 = none) (h84 : H.get 984 = none) (ht : tk.length < 4611686018427387904) (htk : ∀ x ∈ tk, x.obj.tags.length < 4611686018427387904) (h1 : 1 ≤ k) (h4 : k ≤ 4) :
    ACalls Tryz.prog 57 [av (encEdit e), .osl 910 g 0 tk.length, .ref 12 0 0 0] H (fun r H' => r = bv (eShows k m e && !(tk.any fun y => !eTog k y e)) ∧ H' = H) := by
  have h12' : Heap.get ((983, bEd e) :: H) 12 = some (bx 4 80 (susRow k)) := h12
  have h10' : Heap.get ((983, bEd e) :: H) 910 = some ⟨g, 15, 44, edRows tk⟩ := h10
  have hS' : SusH m ((983, bEd e) :: H) := hS.cons rfl rfl rfl rfl rfl (by simp [encEdit])
  have hsh := eshows_c k m e _ hm hS' h1 h4
  refine ACalls.body Tryz.func57 rfl Tryz.ntmps57 (Nat.le_of_ble_eq_true rfl) ?_
  refine awp_seq ?_
  refine awp_region ?_
  refine al_d rfl rfl rfl (by exact opd_box (id := 983) rfl rfl rfl rfl h83) ?_
  refine al_d rfl rfl rfl (by exact opd_assign rfl rfl) ?_
  refine al_nil ?_
  refine awp_seq ?_
  refine awp_bool (t := 5) (n := 12) (X := eShows k m e && !(tk.any fun y => !eTog k y e)) ?_ ?_
  · all_goals (refine al_d rfl rfl rfl (by exact opd_field_ref rfl fo80_2 rfl h12' rfl rfl) ?_)
    all_goals (refine al_d rfl rfl rfl (by exact opd_load1_ref rfl Tryz.isAgg45 rfl h12' rfl rfl rfl) ?_)
    all_goals (refine al_d rfl rfl rfl (by exact (by exact opd_loadn_ref rfl Tryz.isAgg44 Tryz.sizeOf44 rfl rfl rfl rfl (by simp only [List.drop_succ_cons, List.drop_zero, List.take_succ_cons, List.take_zero, List.take_nil, List.map_cons, List.map_nil, List.set_cons_zero, List.set_cons_succ, List.cons_append, List.nil_append, encTag, encObj, encStr, encEdit, encInt]; rfl) rfl)) ?_)
    all_goals (refine al_d rfl rfl rfl (by exact opr_callV rfl rfl rfl (hsh)) ?_)
    all_goals (refine al_d rfl rfl rfl (by exact opd_move rfl rfl) ?_)
    all_goals (refine al_split (t := 10) rfl (fun h10 => ?_) (fun h10 => ?_))
    all_goals (try contradiction)
    all_goals (first | refine al_off rfl rfl rfl rfl rfl ?_ | refine al_ond rfl rfl rfl rfl rfl rfl (by exact opd_move rfl rfl) ?_)
    all_goals (first | refine al_off rfl rfl rfl rfl rfl ?_ | refine al_ond rfl rfl rfl rfl rfl rfl (by exact opd_makeFunc rfl rfl) ?_)
    all_goals (first | refine al_off rfl rfl rfl rfl rfl ?_ | refine al_ond rfl rfl rfl rfl rfl rfl (by exact opr_call rfl rfl Tryz.call58 rfl (containsOwn_GEdit (.clo 59 [.ref 12 0 0 0, .ref 983 0 0 0]) tk (fun y => !eTog k y e) _ 910 g 15 _ h10' rfl rfl rfl rfl ht (fun x hx => CallsV.clo Tryz.call59 (find11_c k x e _ h12' rfl h84 hS'.c (htk x hx) h1 h4)))) ?_)
    all_goals (first | refine al_off rfl rfl rfl rfl rfl ?_ | refine al_ond rfl rfl rfl rfl rfl rfl (by exact opd_not rfl rfl) ?_)
    all_goals (refine al_d rfl rfl rfl (by exact (by first | exact opd_pick_t rfl rfl rfl | exact opd_pick_f rfl rfl rfl)) ?_)
    all_goals (refine al_d rfl rfl rfl (by exact opd_assign rfl rfl) ?_)
    all_goals (refine al_nil ?_)
    all_goals (exact ⟨⟨_, rfl, by (simp_all [eShows]; done)⟩, rfl, rfl, rfl⟩)
  refine awp_ret ?_
  -- return
  refine aret1 (H' := H) (.inr rfl) rfl (rval_tmp rfl) (Fin.pops [(983, bEd e)] (by simp) hS.c (by simp [h83])) ⟨rfl, rfl⟩
abbrev inRows (l : List Int) : List (List AV) := l.map (fun e => (encInt e).map .pv)
theorem gr_zero {α : Type} (S : α → Bool) (T : α → α → Bool) (l : List α) (i : Nat) (tk : List α) : gr S T l i 0 tk = [] := by
  cases l <;> rfl
theorem rows_of {α : Type} (f : α → List PV) (l : List α) : l.map (fun e => (f e).map AV.pv) = (l.map f).map (·.map .pv) := by rw [List.map_map]; rfl
theorem in_snoc (outs : List Nat) (i : Nat) : inRows (toI outs) ++ [[iv (i : Int)]] = inRows (toI (outs ++ [i])) := by simp [inRows, encInt]
theorem first_c (S : GEdit → Bool) (T : GEdit → GEdit → Bool) (fv : AV) (l : List GEdit) (frm n : Nat) (K : Heap) (hl : l.length < 1099511627776) (hn : n ≤ 5) (hfr : frm ≤ l.length) (h9 : K.get 909 = none) (h10 : K.get 910 = none) (hc : Closed K) (hfc : Clo K fv)
    (hf : ∀ x, x ∈ l → ∀ (tk : List GEdit) (g : Nat) (o9 : Ob), tk.length ≤ 5 → (∀ y ∈ tk, y ∈ l) → (∀ r ∈ o9.rows, ∀ a ∈ r, ∃ p, a = .pv p) → CallsV Tryz.prog fv [av (encEdit x), .osl 910 g 0 tk.length] ((910, ⟨g, 15, 44, edRows tk⟩) :: (909, o9) :: K) (fun r H' => r = bv (S x && !(tk.any fun y => !T y x)) ∧ H' = (910, ⟨g, 15, 44, edRows tk⟩) :: (909, o9) :: K)) :
    ACalls Tryz.prog 56 [.pv (slEdits l), iv (frm : Int), iv (n : Int), fv] K (fun r H' => r = .pv (slInts (toI (gr S T (l.drop frm) frm n []))) ∧ H' = K) := by
  have hml : (l.map encEdit).length = l.length := List.length_map _
  have h10' : Heap.get ((909, (⟨0, 1, 3, []⟩ : Ob)) :: K) 910 = none := h10
  refine ACalls.body Tryz.func56 rfl Tryz.ntmps56 (Nat.le_of_ble_eq_true rfl) ?_
  refine awp_seq ?_
  refine awp_region ?_
  refine al_d rfl rfl rfl (by exact opd_assign rfl rfl) ?_
  refine al_nil ?_
  refine awp_seq ?_
  refine awp_region ?_
  refine al_d rfl rfl rfl (by exact opd_assign_own (id := 909) (sz := 1) (ty := 3) rfl h9 rfl) ?_
  refine al_nil ?_
  refine awp_seq ?_
  refine awp_region ?_
  refine al_d rfl rfl rfl (by exact opd_assign_own (id := 910) (sz := 15) (ty := 44) rfl h10' rfl) ?_
  refine al_nil ?_
  refine awp_seq ?_
  refine awp_seq ?_
  refine awp_region ?_
  refine al_d rfl rfl rfl (by exact opd_move rfl rfl) ?_
  refine al_d rfl rfl rfl (by exact opd_assign rfl rfl) ?_
  refine al_nil ?_
  refine awp_block ?_
  -- loop
  refine awp_loop5 (fun (i : Nat) (outs : List Nat) (tk : List GEdit) (g : Nat) (g2 : Nat) => ([(0, .pv (slEdits l)), (2, iv (n : Int)), (3, fv), (9, .osl 909 g 0 outs.length), (10, .osl 910 g2 0 tk.length), (11, iv (i : Int))], (910, ⟨g2, 15, 44, edRows tk⟩) :: (909, ⟨g, 1, 3, inRows (toI outs)⟩) :: K))
    (fun i outs tk g g2 => i ≤ l.length ∧ outs.length = tk.length ∧ outs.length ≤ n ∧ (∀ y ∈ tk, y ∈ l) ∧ gr S T (l.drop frm) frm n [] = outs ++ gr S T (l.drop i) i (n - outs.length) tk) (fun i _ _ _ _ => l.length - i) frm [] [] 0 0 ⟨hfr, rfl, by simp, by simp, by simp⟩ ?_ ?_
  · exact Ent.e0 ⟨⟨_, rfl, rfl⟩, ⟨_, rfl, rfl⟩, ⟨_, rfl, rfl⟩, ⟨_, rfl, rfl⟩, ⟨_, rfl, rfl⟩, ⟨_, rfl, rfl⟩, trivial⟩
  · rintro i outs tk g g2 ⟨hi, hlen, hon, htl, hinv⟩
    refine awp_seq ?_
    refine awp_seq ?_
    refine awp_bool (t := 22) (n := 11) (X := decide ((i : Int) < ((l.map encEdit).length : Int)) && decide ((outs.length : Int) < (n : Int))) ?_ ?_
    · all_goals (refine al_d rfl rfl rfl (by exact opd_move rfl rfl) ?_)
      all_goals (refine al_d rfl rfl rfl (by exact opd_move rfl rfl) ?_)
      all_goals (refine al_d rfl rfl rfl (by exact (by exact opd_len_sl rfl Tryz.underlying25 rfl)) ?_)
      all_goals (refine al_d rfl rfl rfl (by exact opd_lss rfl rfl rfl) ?_)
      all_goals (refine al_d rfl rfl rfl (by exact opd_move rfl rfl) ?_)
      all_goals (refine al_split (t := 17) rfl (fun h17 => ?_) (fun h17 => ?_))
      all_goals (try contradiction)
      all_goals (first | refine al_off rfl rfl rfl rfl rfl ?_ | refine al_ond rfl rfl rfl rfl rfl rfl (by exact opd_move rfl rfl) ?_)
      all_goals (first | refine al_off rfl rfl rfl rfl rfl ?_ | refine al_ond rfl rfl rfl rfl rfl rfl (by exact (by exact opd_len_osl rfl Tryz.underlying29 rfl rfl rfl)) ?_)
      all_goals (first | refine al_off rfl rfl rfl rfl rfl ?_ | refine al_ond rfl rfl rfl rfl rfl rfl (by exact opd_move rfl rfl) ?_)
      all_goals (first | refine al_off rfl rfl rfl rfl rfl ?_ | refine al_ond rfl rfl rfl rfl rfl rfl (by exact opd_lss rfl rfl rfl) ?_)
      all_goals (refine al_d rfl rfl rfl (by exact (by first | exact opd_pick_t rfl rfl rfl | exact opd_pick_f rfl rfl rfl)) ?_)
      all_goals (refine al_nil ?_)
      all_goals (exact ⟨⟨_, rfl, by first | (simp_all; done) | (simp_all; omega)⟩, rfl, rfl, rfl⟩)
    refine awp_cond rfl (fun hc1 => ?_) (fun hc1 => ?_)
    -- cond 1
    · have hlt : i < l.length ∧ outs.length < n := by
        simp only [Bool.and_eq_true, decide_eq_true_eq] at hc1
        omega
      obtain ⟨x, hx⟩ := get_of_lt hlt.1
      have hxi := map_get (f := encEdit) hx
      have hxm := List.mem_of_getElem? hx
      have hdr : l.drop i = x :: l.drop (i + 1) := by
        obtain ⟨hl1, he1⟩ := List.getElem?_eq_some_iff.1 hx
        rw [List.drop_eq_getElem_cons hl1, he1]
      obtain ⟨d, hd⟩ : ∃ d, n - outs.length = d + 1 := ⟨n - outs.length - 1, by omega⟩
      rw [hdr, hd, gr] at hinv
      have hcl : ∀ r ∈ inRows (toI outs), ∀ a ∈ r, ∃ p, a = AV.pv p := by
        intro r hr a ha
        obtain ⟨z, _, rfl⟩ := List.mem_map.1 hr
        obtain ⟨p, _, rfl⟩ := List.mem_map.1 ha
        exact ⟨p, rfl⟩
      refine awp_skip ?_
      refine awp_seq ?_
      refine awp_block ?_
      refine awp_seq ?_
      refine awp_region ?_
      refine al_d rfl rfl rfl (by exact opd_move rfl rfl) ?_
      refine al_d rfl rfl rfl (by exact opd_move rfl rfl) ?_
      refine al_d rfl rfl rfl (by exact opd_move rfl rfl) ?_
      refine al_d rfl rfl rfl (by exact (by exact x_index_pad rfl so25 rfl rfl (by omega) (by exact Int.toNat_natCast _) (by assumption) rfl)) ?_
      refine al_d rfl rfl rfl (by exact (by exact opd_loadn_pad rfl Tryz.isAgg44 Tryz.sizeOf44 rfl (by omega) (by simp only [List.drop_succ_cons, List.drop_zero, List.take_succ_cons, List.take_zero, List.take_nil, List.map_cons, List.map_nil, List.set_cons_zero, List.set_cons_succ, List.cons_append, List.nil_append, encTag, encObj, encStr, encEdit, encInt]; rfl) rfl)) ?_
      refine al_d rfl rfl rfl (by exact opd_move rfl rfl) ?_
      refine al_d rfl rfl rfl (by exact opr_callV rfl rfl rfl (hf x hxm tk g2 ⟨g, 1, 3, inRows (toI outs)⟩ (by omega) htl hcl)) ?_
      refine al_nil ?_
      refine awp_cond rfl (fun hc2 => ?_) (fun hc2 => ?_)
      -- cond 2
      · rw [if_pos hc2] at hinv
        refine awp_drawc follows ?_
        refine dc_cons (r := ⟨_, some [909], []⟩) (DStep.plain rfl (fun H1 hH => by exact opd_move rfl rfl)) rfl ?_
        refine dc_cons (r := ⟨_, some [], []⟩) (DStep.plain rfl (fun H1 hH => by exact opd_move rfl rfl)) rfl ?_
        refine dc_cons (r := ⟨_, some [], []⟩) (DStep.plain rfl (fun H1 hH => by exact x_buildSlice [encInt (i : Int)] rfl so29 rfl rfl rfl rfl rfl (by simp [encInt]))) rfl ?_
        refine dc_cons (r := ⟨_, some [909], [_]⟩) (DStep.plain rfl (fun H1 hH => by exact (by exact x_append rfl so29 ei3 rfl ((hH _ rfl).trans rfl) rfl rfl rfl (by simp : _ = outs.length) rfl (by simp [encInt]) (rfl : _ = 1) (by omega) (len_snoc outs i) (in_snoc outs i)))) rfl ?_
        refine dc_cons (r := ⟨_, some [910], []⟩) (DStep.plain rfl (fun H1 hH => by exact opd_move rfl rfl)) rfl ?_
        refine dc_cons (r := ⟨_, some [], []⟩) (DStep.plain rfl (fun H1 hH => by exact opd_move rfl rfl)) rfl ?_
        refine dc_cons (r := ⟨_, some [], []⟩) (DStep.plain rfl (fun H1 hH => by exact opd_move rfl rfl)) rfl ?_
        refine dc_cons (r := ⟨_, some [], []⟩) (DStep.plain rfl (fun H1 hH => by exact (by exact x_index_pad rfl so25 rfl rfl (by omega) (by exact Int.toNat_natCast _) (by assumption) rfl))) rfl ?_
        refine dc_cons (r := ⟨_, some [], []⟩) (DStep.plain rfl (fun H1 hH => by exact (by exact opd_loadn_pad rfl Tryz.isAgg44 Tryz.sizeOf44 rfl (by omega) (by simp only [List.drop_succ_cons, List.drop_zero, List.take_succ_cons, List.take_zero, List.take_nil, List.map_cons, List.map_nil, List.set_cons_zero, List.set_cons_succ, List.cons_append, List.nil_append, encTag, encObj, encStr, encEdit, encInt]; rfl) rfl))) rfl ?_
        refine dc_cons (r := ⟨_, some [], []⟩) (DStep.plain rfl (fun H1 hH => by exact x_buildSlice [encEdit x] rfl so25 rfl rfl rfl rfl rfl (by simp [encEdit]))) rfl ?_
        refine dc_cons (r := ⟨_, some [910], [_]⟩) (DStep.plain rfl (fun H1 hH => by exact (by exact x_append rfl so25 ei44 rfl ((hH _ rfl).trans rfl) rfl rfl rfl (List.length_map _) rfl (by simp [encEdit]) (rfl : _ = 1) (by omega) (len_snoc tk x) ((List.map_append (l₂ := [x])).symm)))) rfl ?_
        refine dc_cons (r := ⟨_, some [909], []⟩) (DStep.plain rfl (fun H1 hH => by exact opd_assign rfl rfl)) rfl ?_
        refine dc_cons (r := ⟨_, some [910], []⟩) (DStep.plain rfl (fun H1 hH => by exact opd_assign rfl rfl)) rfl ?_
        refine dc_nil ⟨by kernel_rfl, ?_⟩
        refine awp_region ?_
        refine al_d rfl rfl rfl (by exact opd_move rfl rfl) ?_
        refine al_d rfl rfl rfl (by exact opd_add rfl rfl rfl (by exact w64 (by omega) (by omega))) ?_
        refine al_d rfl rfl rfl (by exact opd_assign rfl rfl) ?_
        refine al_nil ?_
        -- end of a round
        refine ⟨i + 1, outs ++ [i], tk ++ [x], g + 1, g2 + 1, ⟨by omega, by simp [hlen], by simp; omega, ?_, ?_⟩, by omega, ?_⟩
        · intro y hy
          rcases List.mem_append.1 hy with h | h
          · exact htl y h
          · rw [List.mem_singleton] at h; subst h; exact hxm
        · rw [hinv, List.append_assoc]
          congr 1
          rw [show n - (outs ++ [i]).length = d by simp; omega]
          rfl
        · exact Ent.front' [(910, ⟨g2 + 1, 15, 44, edRows (tk ++ [x])⟩), (909, ⟨g + 1, 1, 3, inRows (toI (outs ++ [i]))⟩), (910, ⟨g2, 15, 44, edRows tk⟩), (909, ⟨g, 1, 3, inRows (toI outs)⟩)] [(910, ⟨g2 + 1, 15, 44, edRows (tk ++ [x])⟩), (909, ⟨g + 1, 1, 3, inRows (toI (outs ++ [i]))⟩)]
            ⟨⟨_, rfl, rfl⟩, (by (simp; done)), ⟨_, rfl, rfl⟩, (by (simp; done)), ⟨_, rfl, rfl⟩, (by exact hfc.cons.cons), ⟨_, rfl, rfl⟩, (by exact .osl rfl), ⟨_, rfl, rfl⟩, (by exact .osl rfl), ⟨_, rfl, rfl⟩, (by (simp; done)), trivial⟩ (by intro p hp; simp only [List.mem_cons, List.not_mem_nil, or_false] at hp; rcases hp with rfl | rfl | rfl | rfl <;> exact .inl rfl) (by intro p hp; simp only [List.mem_cons, List.not_mem_nil, or_false] at hp; rcases hp with rfl | rfl <;> rfl) (by intro p hp; simp only [List.mem_cons, List.not_mem_nil, or_false] at hp; rcases hp with rfl | rfl <;> exact clo_map _ _ _) hc (by intro p hp; simp only [List.mem_cons, List.not_mem_nil, or_false] at hp; rcases hp with rfl | rfl | rfl | rfl <;> exact .inl rfl)
      · rw [if_neg (by rw [hc2]; simp)] at hinv
        refine awp_skip ?_
        refine awp_region ?_
        refine al_d rfl rfl rfl (by exact opd_move rfl rfl) ?_
        refine al_d rfl rfl rfl (by exact opd_add rfl rfl rfl (by exact w64 (by omega) (by omega))) ?_
        refine al_d rfl rfl rfl (by exact opd_assign rfl rfl) ?_
        refine al_nil ?_
        -- end of a round
        refine ⟨i + 1, outs, tk, g, g2, ⟨by omega, hlen, hon, htl, by rw [hd]; exact hinv⟩, by omega, Ent.e0 ⟨⟨_, rfl, rfl⟩, ⟨_, rfl, rfl⟩, ⟨_, rfl, rfl⟩, ⟨_, rfl, rfl⟩, ⟨_, rfl, rfl⟩, ⟨_, rfl, rfl⟩, trivial⟩⟩
    · have hge : gr S T (l.drop i) i (n - outs.length) tk = [] := by
        simp only [Bool.and_eq_false_iff, decide_eq_false_iff_not] at hc1
        rcases hc1 with h | h
        · rw [List.drop_eq_nil_of_le (by omega)]; rfl
        · rw [show n - outs.length = 0 by omega]; exact gr_zero _ _ _ _ _
      rw [hge, List.append_nil] at hinv
      rw [hinv]
      refine awp_exit ?_
      refine awp_seq ?_
      refine awp_region ?_
      refine al_d rfl rfl rfl (by exact opd_move rfl rfl) ?_
      refine al_d rfl rfl rfl (by exact opd_assign rfl rfl) ?_
      refine al_nil ?_
      refine awp_ret ?_
      -- return
      refine aret1 (H' := K) (.inr rfl) rfl (rval_tmp rfl) (Fin.slice [(910, ⟨g2, 15, 44, edRows tk⟩), (909, ⟨g, 1, 3, inRows (toI outs)⟩)] ((toI outs).map encInt) rfl rfl (rows_of encInt _) (by simp) hc (by simp [h9, h10]) (by simp [h9, h10]) h9) ⟨rfl, rfl⟩
end Go.Proofs.YtdgoodjhndeojaaGreat
end
section
set_option linter.unusedVariables false
set_option linter.unusedSimpArgs false
set_option maxRecDepth 100000
namespace Go.Proofs.YtdgoodjhndeojaaGreat
open Go.Abs

theorem susBox_clo (k : Nat) {H : Heap} (h : (H.get 803).isSome = true) : ∀ r ∈ [susRow k], ∀ a ∈ r, Clo H a := by
  intro r hr
  rw [List.mem_singleton] at hr
  subst hr
  exact susRow_clo k h
theorem allT_c (m : List GObj) (H : Heap) (hm : okM m) (hcl : closedB m = true) : ACalls Tryz.prog 40 [.agg [.pv (slObjs m)], lv []] H (fun r H' => r = .tup [.agg [.pv (slObjs m)], iv (-1), iv 0] ∧ H' = H) := by
  have h := allNil_c m H hm
  simp only [hcl, if_true] at h
  exact h
theorem allF_c (m : List GObj) (H : Heap) (hm : okM m) (hcl : closedB m = false) : ACalls Tryz.prog 40 [.agg [.pv (slObjs m)], lv []] H (fun r H' => r = .tup [.agg [lv []], iv (-1), iv 1] ∧ H' = H) := by
  have h := allNil_c m H hm
  simp only [hcl, Bool.false_eq_true, if_false] at h
  exact h
theorem susF_c (m : List GObj) (H : Heap) (h1 : H.get 812 = none) (h2 : H.get 803 = none) (h3 : H.get 801 = none) : ACalls Tryz.prog 55 [.agg [.pv (slObjs m)]] H (fun r H' => r = .osl 812 0 0 4 ∧ H' = sH m ++ H) :=
  ACalls.frame (suspicions_c m) (fun _ _ h => by cases h) (fun _ _ h => by cases h) (by simp) (fun id hi => by
    right
    have : id = 812 ∨ id = 803 ∨ id = 801 := by
      simp only [Heap.get] at hi
      cases e1 : Nat.beq 812 id with
      | true => exact .inl (Nat.eq_of_beq_eq_true e1).symm
      | false =>
        cases e2 : Nat.beq 803 id with
        | true => exact .inr (.inl (Nat.eq_of_beq_eq_true e2).symm)
        | false =>
          cases e3 : Nat.beq 801 id with
          | true => exact .inr (.inr (Nat.eq_of_beq_eq_true e3).symm)
          | false => rw [e1, e2, e3] at hi; cases hi
    rcases this with rfl | rfl | rfl
    · exact h1
    · exact h2
    · exact h3)
def gFind (m : List GObj) (l : List GEdit) : Int × List Int := if closedB m && gChange l then ((((gFind0 m l).1 : Nat) : Int), toI (gFind0 m l).2) else (0, [])
abbrev ev0 : Ob := bx 2 31 [iv 0, lv []]
theorem evFind_c (m : List GObj) (l : List GEdit) (H : Heap) (hm : okM m) (hl : l.length < 1099511627776) (he : ∀ e ∈ l, okE e) : ACalls Tryz.prog 19 [.agg [.pv (slObjs m)], .pv (slEdits l)] H (fun r H' => r = .agg [iv (gFind m l).1, .pv (slInts (gFind m l).2)] ∧ H' = H) := by
  refine ACalls.pure ?_ (by simp) H
  have hml : (l.map encEdit).length = l.length := List.length_map _
  have het : ∀ y ∈ l, y.obj.tags.length < 4611686018427387904 := fun y hy => (he y hy).2.2.2.1.1
  refine ACalls.body Tryz.func19 rfl Tryz.ntmps19 (Nat.le_of_ble_eq_true rfl) ?_
  cases hcl : closedB m with
  | false =>
    have hg : gFind m l = (0, []) := by rw [gFind, hcl]; rfl
    rw [hg]
    refine awp_seq ?_
    refine awp_region ?_
    refine al_d rfl rfl rfl (by exact opd_box (id := 2) rfl rfl rfl rfl rfl) ?_
    refine al_d rfl rfl rfl (by exact x_alloc (id := 4) rfl zo31 rfl rfl) ?_
    refine al_nil ?_
    refine awp_scope ?_
    refine awp_seq ?_
    refine awp_seq ?_
    refine awp_region ?_
    refine al_d rfl rfl rfl (by exact (by exact opd_loadn_ref rfl Tryz.isAgg24 Tryz.sizeOf24 rfl rfl rfl rfl (by simp only [List.drop_succ_cons, List.drop_zero, List.take_succ_cons, List.take_zero, List.take_nil, List.map_cons, List.map_nil, List.set_cons_zero, List.set_cons_succ, List.cons_append, List.nil_append, encTag, encObj, encStr, encEdit, encInt]; rfl) rfl)) ?_
    refine al_d rfl rfl rfl (by exact opr_call rfl rfl Tryz.call40 rfl (allF_c m _ hm hcl)) ?_
    refine al_d rfl rfl rfl (by exact opd_move rfl rfl) ?_
    refine al_d rfl rfl rfl (by exact opd_extract rfl rfl rfl) ?_
    refine al_d rfl rfl rfl (by exact opd_extract rfl rfl rfl) ?_
    refine al_d rfl rfl rfl (by exact opd_extract rfl rfl rfl) ?_
    refine al_d rfl rfl rfl (by exact x_alloc (id := 5) rfl zo24 rfl rfl) ?_
    refine al_n rfl rfl (by exact (by exact x_store_all rfl Tryz.sizeOf24 rfl rfl rfl rfl rfl rfl rfl rfl)) ?_
    refine al_d rfl rfl rfl (by exact opd_assign rfl rfl) ?_
    refine al_d rfl rfl rfl (by exact opd_assign rfl rfl) ?_
    refine al_nil ?_
    refine awp_seq ?_
    refine awp_bool (t := 28) (n := 8) (X := true) ?_ ?_
    · all_goals (refine al_d rfl rfl rfl (by exact opd_move rfl rfl) ?_)
      all_goals (refine al_d rfl rfl rfl (by exact opd_neq rfl rfl rfl) ?_)
      all_goals (refine al_d rfl rfl rfl (by exact opd_move rfl rfl) ?_)
      all_goals (refine al_split (t := 24) rfl (fun h24 => ?_) (fun h24 => ?_))
      all_goals (try contradiction)
      all_goals (refine al_off rfl rfl rfl rfl rfl ?_)
      all_goals (refine al_off rfl rfl rfl rfl rfl ?_)
      all_goals (refine al_off rfl rfl rfl rfl rfl ?_)
      all_goals (refine al_d rfl rfl rfl (by exact (by exact opd_pick_t rfl rfl rfl)) ?_)
      all_goals (refine al_nil ?_)
      all_goals (exact ⟨⟨_, rfl, by rfl⟩, rfl, rfl, rfl⟩)
    refine awp_cond rfl (fun hc1 => ?_) (fun hc1 => ?_)
    -- cond 1
    · skip
      refine awp_seq ?_
      refine awp_region ?_
      refine al_d rfl rfl rfl (by exact x_build rfl bo31 rfl rfl) ?_
      refine al_n rfl rfl (by exact (by exact x_store_all rfl Tryz.sizeOf31 rfl rfl rfl rfl rfl rfl rfl rfl)) ?_
      refine al_nil ?_
      refine awp_ret ?_
      -- return
      refine aret1 (H' := []) (by exact .inr rfl) rfl (rval_cell rfl Tryz.isAgg31 Tryz.sizeOf31 rfl rfl rfl rfl rfl) (Fin.wk (r := .agg [iv 0, lv []]) (by simp) trivial trivial) ?_
      exact ⟨rfl, rfl⟩
    · cases hc1
  | true =>
    refine awp_seq ?_
    refine awp_region ?_
    refine al_d rfl rfl rfl (by exact opd_box (id := 2) rfl rfl rfl rfl rfl) ?_
    refine al_d rfl rfl rfl (by exact x_alloc (id := 4) rfl zo31 rfl rfl) ?_
    refine al_nil ?_
    refine awp_scope ?_
    refine awp_seq ?_
    refine awp_seq ?_
    refine awp_region ?_
    refine al_d rfl rfl rfl (by exact (by exact opd_loadn_ref rfl Tryz.isAgg24 Tryz.sizeOf24 rfl rfl rfl rfl (by simp only [List.drop_succ_cons, List.drop_zero, List.take_succ_cons, List.take_zero, List.take_nil, List.map_cons, List.map_nil, List.set_cons_zero, List.set_cons_succ, List.cons_append, List.nil_append, encTag, encObj, encStr, encEdit, encInt]; rfl) rfl)) ?_
    refine al_d rfl rfl rfl (by exact opr_call rfl rfl Tryz.call40 rfl (allT_c m _ hm hcl)) ?_
    refine al_d rfl rfl rfl (by exact opd_move rfl rfl) ?_
    refine al_d rfl rfl rfl (by exact opd_extract rfl rfl rfl) ?_
    refine al_d rfl rfl rfl (by exact opd_extract rfl rfl rfl) ?_
    refine al_d rfl rfl rfl (by exact opd_extract rfl rfl rfl) ?_
    refine al_d rfl rfl rfl (by exact x_alloc (id := 5) rfl zo24 rfl rfl) ?_
    refine al_n rfl rfl (by exact (by exact x_store_all rfl Tryz.sizeOf24 rfl rfl rfl rfl rfl rfl rfl rfl)) ?_
    refine al_d rfl rfl rfl (by exact opd_assign rfl rfl) ?_
    refine al_d rfl rfl rfl (by exact opd_assign rfl rfl) ?_
    refine al_nil ?_
    refine awp_seq ?_
    refine awp_bool (t := 28) (n := 8) (X := !gChange l) ?_ ?_
    · all_goals (refine al_d rfl rfl rfl (by exact opd_move rfl rfl) ?_)
      all_goals (refine al_d rfl rfl rfl (by exact opd_neq rfl rfl rfl) ?_)
      all_goals (refine al_d rfl rfl rfl (by exact opd_move rfl rfl) ?_)
      all_goals (refine al_split (t := 24) rfl (fun h24 => ?_) (fun h24 => ?_))
      all_goals (try contradiction)
      all_goals (refine al_ond rfl rfl rfl rfl rfl rfl (by exact opd_move rfl rfl) ?_)
      all_goals (refine al_ond rfl rfl rfl rfl rfl rfl (by exact opr_call rfl rfl Tryz.call22 rfl (changeValid_c l _ (by omega) he)) ?_)
      all_goals (refine al_ond rfl rfl rfl rfl rfl rfl (by exact opd_not rfl rfl) ?_)
      all_goals (refine al_d rfl rfl rfl (by exact (by exact opd_pick_f rfl rfl rfl)) ?_)
      all_goals (refine al_nil ?_)
      all_goals (exact ⟨⟨_, rfl, by rfl⟩, rfl, rfl, rfl⟩)
    refine awp_cond rfl (fun hc2 => ?_) (fun hc2 => ?_)
    -- cond 2
    · have hch : gChange l = false := by simpa using hc2
      have hg : gFind m l = (0, []) := by rw [gFind, hcl, hch]; rfl
      rw [hg]
      refine awp_seq ?_
      refine awp_region ?_
      refine al_d rfl rfl rfl (by exact x_build rfl bo31 rfl rfl) ?_
      refine al_n rfl rfl (by exact (by exact x_store_all rfl Tryz.sizeOf31 rfl rfl rfl rfl rfl rfl rfl rfl)) ?_
      refine al_nil ?_
      refine awp_ret ?_
      -- return
      refine aret1 (H' := []) (by exact .inr rfl) rfl (rval_cell rfl Tryz.isAgg31 Tryz.sizeOf31 rfl rfl rfl rfl rfl) (Fin.wk (r := .agg [iv 0, lv []]) (by simp) trivial trivial) ?_
      exact ⟨rfl, rfl⟩
    · have hch : gChange l = true := by simpa using hc2
      have hg : gFind m l = ((((gFind0 m l).1 : Nat) : Int), toI (gFind0 m l).2) := by rw [gFind, hcl, hch]; rfl
      rw [hg]
      refine awp_skip ?_
      refine awp_seq ?_
      refine awp_region ?_
      refine al_d rfl rfl rfl (by exact opd_assign rfl rfl) ?_
      refine al_nil ?_
      refine awp_seq ?_
      refine awp_seq ?_
      refine awp_region ?_
      refine al_d rfl rfl rfl (by exact opd_move rfl rfl) ?_
      refine al_d rfl rfl rfl (by exact (by exact opd_len_sl rfl Tryz.underlying25 rfl)) ?_
      refine al_d rfl rfl rfl (by exact opd_move rfl rfl) ?_
      refine al_nil ?_
      refine awp_block ?_
      -- loop
      refine awp_loop (σ := Nat) (fun k => ([(1, .pv (slEdits l)), (2, .ref 2 0 0 0), (4, .ref 4 0 0 0), (8, iv (nDrops (l.take k) : Nat)), (30, .pv (slEdits l)), (31, iv ((l.map encEdit).length : Int)), (32, iv (k : Int))], [(4, ev0), (2, bx 1 24 [.pv (slObjs m)])])) (fun k => k ≤ l.length) (fun k => l.length - k) 0 (by omega) ?_ ?_
      · exact (Ent.wk ⟨⟨_, rfl, rfl⟩, (by (simp; done)), ⟨_, rfl, rfl⟩, (by (simp; rfl)), ⟨_, rfl, rfl⟩, (by (simp; rfl)), ⟨_, rfl, rfl⟩, (by (simp; done)), ⟨_, rfl, rfl⟩, (by (simp; done)), ⟨_, rfl, rfl⟩, (by (simp; done)), ⟨_, rfl, rfl⟩, (by (simp; done)), trivial⟩ ⟨⟨_, rfl, rfl⟩, (by (simp; done)), ⟨_, rfl, rfl⟩, (by (simp; done)), trivial⟩ trivial)
      · intro k hk
        refine awp_seq ?_
        refine awp_region ?_
        refine al_d rfl rfl rfl (by exact opd_lss rfl rfl rfl) ?_
        refine al_nil ?_
        refine awp_seq ?_
        refine awp_cond rfl (fun hc3 => ?_) (fun hc3 => ?_)
        -- cond 3
        · have hlt : k < l.length := by have := of_decide_eq_true hc3; omega
          obtain ⟨e, hke⟩ := get_of_lt hlt
          have hi := map_get (f := encEdit) hke
          have hct : nDrops (l.take (k + 1)) = nDrops (l.take k) + (if isDrop e then 1 else 0) := countP_take isDrop hke
          have hcb : nDrops (l.take k) ≤ (l.take k).length := List.countP_le_length
          rw [List.length_take] at hcb
          refine awp_skip ?_
          refine awp_seq ?_
          refine awp_block ?_
          refine awp_seq ?_
          refine awp_region ?_
          refine al_d rfl rfl rfl (by exact (by exact x_index_pad rfl so25 rfl rfl (by omega) (by exact Int.toNat_natCast _) (by assumption) rfl)) ?_
          refine al_d rfl rfl rfl (by exact (by exact opd_loadn_pad rfl Tryz.isAgg44 Tryz.sizeOf44 rfl (by omega) (by simp only [List.drop_succ_cons, List.drop_zero, List.take_succ_cons, List.take_zero, List.take_nil, List.map_cons, List.map_nil, List.set_cons_zero, List.set_cons_succ, List.cons_append, List.nil_append, encTag, encObj, encStr, encEdit, encInt]; rfl) rfl)) ?_
          refine al_d rfl rfl rfl (by exact x_alloc (id := 10) rfl zo44 rfl rfl) ?_
          refine al_n rfl rfl (by exact (by exact x_store_all rfl Tryz.sizeOf44 rfl rfl rfl rfl rfl rfl rfl rfl)) ?_
          refine al_nil ?_
          refine awp_seq ?_
          refine awp_region ?_
          refine al_d rfl rfl rfl (by exact (by exact opd_field_ref rfl fo44_0 rfl rfl rfl rfl)) ?_
          refine al_d rfl rfl rfl (by exact (by exact opd_load1_ref rfl Tryz.isAgg3 rfl rfl rfl rfl rfl)) ?_
          refine al_d rfl rfl rfl (by exact opd_eql rfl rfl rfl) ?_
          refine al_nil ?_
          refine awp_cond rfl (fun hc4 => ?_) (fun hc4 => ?_)
          -- cond 4
          · have hd : isDrop e = true := hc4
            rw [hd] at hct
            refine awp_region ?_
            refine al_d rfl rfl rfl (by exact opd_move rfl rfl) ?_
            refine al_d rfl rfl rfl (by exact opd_add rfl rfl rfl (by exact w64 (by omega) (by omega))) ?_
            refine al_d rfl rfl rfl (by exact opd_assign rfl rfl) ?_
            refine al_nil ?_
            refine awp_region ?_
            refine al_d rfl rfl rfl (by exact opd_add rfl rfl rfl (by exact w64 (by omega) (by omega))) ?_
            refine al_d rfl rfl rfl (by exact opd_move rfl rfl) ?_
            refine al_nil ?_
            -- end of a round
            refine ⟨k + 1, by omega, by omega, ?_⟩
            rw [hct]
            exact (Ent.wk ⟨⟨_, rfl, rfl⟩, (by (simp; done)), ⟨_, rfl, rfl⟩, (by (simp; rfl)), ⟨_, rfl, rfl⟩, (by (simp; rfl)), ⟨_, rfl, rfl⟩, (by (simp; done)), ⟨_, rfl, rfl⟩, (by (simp; done)), ⟨_, rfl, rfl⟩, (by (simp; done)), ⟨_, rfl, rfl⟩, (by (simp; done)), trivial⟩ ⟨⟨_, rfl, rfl⟩, (by (simp; done)), ⟨_, rfl, rfl⟩, (by (simp; done)), trivial⟩ trivial)
          · have hd : isDrop e = false := hc4
            rw [hd] at hct
            refine awp_skip ?_
            refine awp_region ?_
            refine al_d rfl rfl rfl (by exact opd_add rfl rfl rfl (by exact w64 (by omega) (by omega))) ?_
            refine al_d rfl rfl rfl (by exact opd_move rfl rfl) ?_
            refine al_nil ?_
            -- end of a round
            refine ⟨k + 1, by omega, by omega, ?_⟩
            rw [hct]
            exact (Ent.wk ⟨⟨_, rfl, rfl⟩, (by (simp; done)), ⟨_, rfl, rfl⟩, (by (simp; rfl)), ⟨_, rfl, rfl⟩, (by (simp; rfl)), ⟨_, rfl, rfl⟩, (by (simp; done)), ⟨_, rfl, rfl⟩, (by (simp; done)), ⟨_, rfl, rfl⟩, (by (simp; done)), ⟨_, rfl, rfl⟩, (by (simp; done)), trivial⟩ ⟨⟨_, rfl, rfl⟩, (by (simp; done)), ⟨_, rfl, rfl⟩, (by (simp; done)), trivial⟩ trivial)
        · have hge : k = l.length := by have := of_decide_eq_false hc3; omega
          subst hge
          rw [List.take_length]
          have hnd : nDrops l ≤ l.length := List.countP_le_length
          refine awp_exit ?_
          refine awp_seq ?_
          refine awp_label ?_
          refine awp_seq ?_
          refine awp_seq ?_
          refine awp_region ?_
          refine al_d rfl rfl rfl (by exact (by exact opd_loadn_ref rfl Tryz.isAgg24 Tryz.sizeOf24 rfl rfl rfl rfl (by simp only [List.drop_succ_cons, List.drop_zero, List.take_succ_cons, List.take_zero, List.take_nil, List.map_cons, List.map_nil, List.set_cons_zero, List.set_cons_succ, List.cons_append, List.nil_append, encTag, encObj, encStr, encEdit, encInt]; rfl) rfl)) ?_
          refine al_d rfl rfl rfl (by exact opr_call rfl rfl Tryz.call55 rfl (susF_c m _ rfl rfl rfl)) ?_
          refine al_d rfl rfl rfl (by exact (by exact opd_len_osl rfl Tryz.underlying76 rfl rfl rfl)) ?_
          refine al_d rfl rfl rfl (by exact opd_move rfl rfl) ?_
          refine al_nil ?_
          refine awp_block ?_
          -- loop
          refine awp_loop (σ := Nat) (fun i => ([(1, .pv (slEdits l)), (4, .ref 4 0 0 0), (8, iv (nDrops l : Nat)), (43, .osl 812 0 0 4), (44, iv 4), (45, iv (i : Int))], sH m ++ [(4, ev0)])) (fun i => i ≤ 4 ∧ kFirst m l (4 - i) (i + 1) = gFind0 m l) (fun i => 4 - i) 0 ⟨by omega, rfl⟩ ?_ ?_
          · exact (Ent.wk ⟨⟨_, rfl, rfl⟩, (by (simp; done)), ⟨_, rfl, rfl⟩, (by (simp; rfl)), ⟨_, rfl, rfl⟩, (by (simp; done)), ⟨_, rfl, rfl⟩, (by (simp; rfl)), ⟨_, rfl, rfl⟩, (by (simp; done)), ⟨_, rfl, rfl⟩, (by (simp; done)), trivial⟩ ⟨⟨_, rfl, rfl⟩, (by exact susRows_clo rfl), ⟨_, rfl, rfl⟩, (by (simp; rfl)), ⟨_, rfl, rfl⟩, (by (simp; done)), ⟨_, rfl, rfl⟩, (by (simp; done)), trivial⟩ trivial)
          · rintro i ⟨hi4, hinv⟩
            refine awp_seq ?_
            refine awp_region ?_
            refine al_d rfl rfl rfl (by exact opd_lss rfl rfl rfl) ?_
            refine al_nil ?_
            refine awp_seq ?_
            refine awp_cond rfl (fun hc5 => ?_) (fun hc5 => ?_)
            -- cond 5
            · have hi : i < 4 := by have := of_decide_eq_true hc5; omega
              obtain ⟨d, hd⟩ : ∃ d, 4 - i = d + 1 := ⟨4 - i - 1, by omega⟩
              have hd2 : 4 - (i + 1) = d := by omega
              rw [hd, kFirst] at hinv
              have hrow : susRows[0 + i]? = some (susRow (i + 1)) := by rw [Nat.zero_add]; exact susRow_at hi
              have hw : (((i + 1 : Nat) : Int) = 1) ↔ (i + 1 = 1) := by omega
              refine awp_skip ?_
              refine awp_seq ?_
              refine awp_block ?_
              refine awp_seq ?_
              refine awp_region ?_
              refine al_d rfl rfl rfl (by exact x_index_osl rfl so76 rfl rfl rfl rfl rfl (by omega) (Int.toNat_natCast _) hi rfl) ?_
              refine al_d rfl rfl rfl (by exact opd_loadn_ref (r := susRow (i + 1)) (cs := susRow (i + 1)) rfl Tryz.isAgg80 Tryz.sizeOf80 rfl rfl rfl hrow rfl rfl) ?_
              refine al_d rfl rfl rfl (by exact x_alloc (id := 12) rfl zo80 rfl rfl) ?_
              refine al_n rfl rfl (by exact (by exact x_store_all rfl Tryz.sizeOf80 rfl rfl rfl rfl rfl rfl rfl rfl)) ?_
              refine al_nil ?_
              refine awp_seq ?_
              refine awp_seq ?_
              refine awp_bool (t := 58) (n := 11) (X := decide (((i + 1 : Nat) : Int) = 1) && decide (2 * (nDrops l : Int) ≤ ((l.map encEdit).length : Int))) ?_ ?_
              · all_goals (refine al_d rfl rfl rfl (by exact (by exact opd_field_ref rfl fo80_0 rfl rfl rfl rfl)) ?_)
                all_goals (refine al_d rfl rfl rfl (by exact (by exact opd_load1_ref rfl Tryz.isAgg3 rfl rfl rfl rfl rfl)) ?_)
                all_goals (refine al_d rfl rfl rfl (by exact opd_eql rfl rfl rfl) ?_)
                all_goals (refine al_d rfl rfl rfl (by exact opd_move rfl rfl) ?_)
                all_goals (refine al_split (t := 52) rfl (fun h52 => ?_) (fun h52 => ?_))
                all_goals (try contradiction)
                all_goals (first | refine al_off rfl rfl rfl rfl rfl ?_ | refine al_ond rfl rfl rfl rfl rfl rfl (by exact opd_move rfl rfl) ?_)
                all_goals (first | refine al_off rfl rfl rfl rfl rfl ?_ | refine al_ond rfl rfl rfl rfl rfl rfl (by exact opd_mul rfl rfl rfl (by exact w64 (by omega) (by omega))) ?_)
                all_goals (first | refine al_off rfl rfl rfl rfl rfl ?_ | refine al_ond rfl rfl rfl rfl rfl rfl (by exact opd_move rfl rfl) ?_)
                all_goals (first | refine al_off rfl rfl rfl rfl rfl ?_ | refine al_ond rfl rfl rfl rfl rfl rfl (by exact (by exact opd_len_sl rfl Tryz.underlying25 rfl)) ?_)
                all_goals (first | refine al_off rfl rfl rfl rfl rfl ?_ | refine al_ond rfl rfl rfl rfl rfl rfl (by exact opd_leq rfl rfl rfl) ?_)
                all_goals (refine al_d rfl rfl rfl (by exact (by first | exact opd_pick_t rfl rfl rfl | exact opd_pick_f rfl rfl rfl)) ?_)
                all_goals (refine al_nil ?_)
                all_goals (exact ⟨⟨_, rfl, by (simp_all; done)⟩, rfl, rfl, rfl⟩)
              refine awp_cond rfl (fun hc6 => ?_) (fun hc6 => ?_)
              -- cond 6
              · have hk1 : i + 1 = 1 ∧ 2 * nDrops l ≤ l.length := by
                  simp only [Bool.and_eq_true, decide_eq_true_eq, hml] at hc6
                  omega
                have hno : kAns m l (i + 1) = none := by rw [kAns, if_pos hk1]
                rw [hno] at hinv
                refine awp_exit ?_
                refine awp_region ?_
                refine al_d rfl rfl rfl (by exact opd_add rfl rfl rfl (by exact w64 (by omega) (by omega))) ?_
                refine al_d rfl rfl rfl (by exact opd_move rfl rfl) ?_
                refine al_nil ?_
                -- end of a round
                refine ⟨i + 1, ⟨by omega, ?_⟩, by omega, (Ent.wk ⟨⟨_, rfl, rfl⟩, (by (simp; done)), ⟨_, rfl, rfl⟩, (by (simp; rfl)), ⟨_, rfl, rfl⟩, (by (simp; done)), ⟨_, rfl, rfl⟩, (by (simp; rfl)), ⟨_, rfl, rfl⟩, (by (simp; done)), ⟨_, rfl, rfl⟩, (by (simp; done)), trivial⟩ ⟨⟨_, rfl, rfl⟩, (by exact susRows_clo rfl), ⟨_, rfl, rfl⟩, (by (simp; rfl)), ⟨_, rfl, rfl⟩, (by (simp; done)), ⟨_, rfl, rfl⟩, (by (simp; done)), trivial⟩ trivial)⟩
                rw [hd2]; exact hinv
              · have hk1 : ¬ (i + 1 = 1 ∧ 2 * nDrops l ≤ l.length) := by
                  intro h
                  simp only [Bool.and_eq_false_iff, decide_eq_false_iff_not, hml] at hc6
                  omega
                have hans : kAns m l (i + 1) = kLoop (decide (i + 1 ≠ 4)) (eShows (i + 1) m) (eTog (i + 1)) (nMany (i + 1)) l 0 := by rw [kAns, if_neg hk1]
                have hnm := nMany_pos (i + 1)
                refine awp_skip ?_
                refine awp_seq ?_
                refine awp_region ?_
                refine al_d rfl rfl rfl (by exact opd_move rfl rfl) ?_
                refine al_d rfl rfl rfl (by exact (by exact opd_len_sl rfl Tryz.underlying25 rfl)) ?_
                refine al_d rfl rfl rfl (by exact opd_move rfl rfl) ?_
                refine al_nil ?_
                refine awp_block ?_
                -- loop
                refine awp_loop (σ := Nat) (fun j => ([(1, .pv (slEdits l)), (4, .ref 4 0 0 0), (8, iv (nDrops l : Nat)), (43, .osl 812 0 0 4), (44, iv 4), (45, iv (i : Int)), (12, .ref 12 0 0 0), (59, .pv (slEdits l)), (60, iv ((l.map encEdit).length : Int)), (61, iv (j : Int))], (12, bx 4 80 (susRow (i + 1))) :: (sH m ++ [(4, ev0)])))
                  (fun j => j ≤ l.length ∧ kLoop (decide (i + 1 ≠ 4)) (eShows (i + 1) m) (eTog (i + 1)) (nMany (i + 1)) (l.drop j) j = kAns m l (i + 1)) (fun j => l.length - j) 0 ⟨by omega, by rw [hans]; rfl⟩ ?_ ?_
                · exact (Ent.wk ⟨⟨_, rfl, rfl⟩, (by (simp; done)), ⟨_, rfl, rfl⟩, (by (simp; rfl)), ⟨_, rfl, rfl⟩, (by (simp; done)), ⟨_, rfl, rfl⟩, (by (simp; rfl)), ⟨_, rfl, rfl⟩, (by (simp; done)), ⟨_, rfl, rfl⟩, (by (simp; done)), ⟨_, rfl, rfl⟩, (by (simp; rfl)), ⟨_, rfl, rfl⟩, (by (simp; done)), ⟨_, rfl, rfl⟩, (by (simp; done)), ⟨_, rfl, rfl⟩, (by (simp; done)), trivial⟩ ⟨⟨_, rfl, rfl⟩, (by exact susBox_clo _ rfl), ⟨_, rfl, rfl⟩, (by exact susRows_clo rfl), ⟨_, rfl, rfl⟩, (by (simp; rfl)), ⟨_, rfl, rfl⟩, (by (simp; done)), ⟨_, rfl, rfl⟩, (by (simp; done)), trivial⟩ trivial)
                · rintro j ⟨hj, hjv⟩
                  refine awp_seq ?_
                  refine awp_region ?_
                  refine al_d rfl rfl rfl (by exact opd_lss rfl rfl rfl) ?_
                  refine al_nil ?_
                  refine awp_seq ?_
                  refine awp_cond rfl (fun hc7 => ?_) (fun hc7 => ?_)
                  -- cond 7
                  · have hlt : j < l.length := by have := of_decide_eq_true hc7; omega
                    obtain ⟨x, hx⟩ := get_of_lt hlt
                    have hxi := map_get (f := encEdit) hx
                    have hxm := List.mem_of_getElem? hx
                    have hdr : l.drop j = x :: l.drop (j + 1) := drop_of_get hx
                    rw [hdr, kLoop] at hjv
                    have hsh := fun H hH => eshows_c (i + 1) m x H hm hH (by omega) (by omega)
                    refine awp_skip ?_
                    refine awp_seq ?_
                    refine awp_block ?_
                    refine awp_seq ?_
                    refine awp_region ?_
                    refine al_d rfl rfl rfl (by exact opd_move rfl rfl) ?_
                    refine al_d rfl rfl rfl (by exact (by exact x_index_pad rfl so25 rfl rfl (by omega) (by exact Int.toNat_natCast _) (by assumption) rfl)) ?_
                    refine al_d rfl rfl rfl (by exact (by exact opd_loadn_pad rfl Tryz.isAgg44 Tryz.sizeOf44 rfl (by omega) (by simp only [List.drop_succ_cons, List.drop_zero, List.take_succ_cons, List.take_zero, List.take_nil, List.map_cons, List.map_nil, List.set_cons_zero, List.set_cons_succ, List.cons_append, List.nil_append, encTag, encObj, encStr, encEdit, encInt]; rfl) rfl)) ?_
                    refine al_d rfl rfl rfl (by exact x_alloc (id := 14) rfl zo44 rfl rfl) ?_
                    refine al_d rfl rfl rfl (by exact opd_assign rfl rfl) ?_
                    refine al_n rfl rfl (by exact (by exact x_store_all rfl Tryz.sizeOf44 rfl rfl rfl rfl rfl rfl rfl rfl)) ?_
                    refine al_nil ?_
                    refine awp_seq ?_
                    refine awp_seq ?_
                    refine awp_region ?_
                    refine al_d rfl rfl rfl (by exact (by exact opd_field_ref rfl fo80_2 rfl rfl rfl rfl)) ?_
                    refine al_d rfl rfl rfl (by exact (by exact opd_load1_ref rfl Tryz.isAgg45 rfl rfl rfl rfl rfl)) ?_
                    refine al_d rfl rfl rfl (by exact (by exact opd_loadn_ref rfl Tryz.isAgg44 Tryz.sizeOf44 rfl rfl rfl rfl (by simp only [List.drop_succ_cons, List.drop_zero, List.take_succ_cons, List.take_zero, List.take_nil, List.map_cons, List.map_nil, List.set_cons_zero, List.set_cons_succ, List.cons_append, List.nil_append, encTag, encObj, encStr, encEdit, encInt]; rfl) rfl)) ?_
                    refine al_d rfl rfl rfl (by exact opr_callV rfl rfl rfl (hsh _ ⟨rfl, rfl, rfl, rfl, rfl, (Closed.ofL ⟨(by (simp; done)), (by (simp; done)), (by exact susBox_clo _ rfl), (by exact susRows_clo rfl), (by (simp; rfl)), (by (simp; done)), (by (simp; done)), trivial⟩)⟩)) ?_
                    refine al_d rfl rfl rfl (by exact opd_not rfl rfl) ?_
                    refine al_nil ?_
                    refine awp_cond rfl (fun hc8 => ?_) (fun hc8 => ?_)
                    -- cond 8
                    · have hs : eShows (i + 1) m x = false := by simpa using hc8
                      rw [hs, if_neg (by simp)] at hjv
                      refine awp_exit ?_
                      refine awp_region ?_
                      refine al_d rfl rfl rfl (by exact opd_add rfl rfl rfl (by exact w64 (by omega) (by omega))) ?_
                      refine al_d rfl rfl rfl (by exact opd_move rfl rfl) ?_
                      refine al_nil ?_
                      -- end of a round
                      exact ⟨j + 1, ⟨by omega, hjv⟩, by omega, (Ent.wk ⟨⟨_, rfl, rfl⟩, (by (simp; done)), ⟨_, rfl, rfl⟩, (by (simp; rfl)), ⟨_, rfl, rfl⟩, (by (simp; done)), ⟨_, rfl, rfl⟩, (by (simp; rfl)), ⟨_, rfl, rfl⟩, (by (simp; done)), ⟨_, rfl, rfl⟩, (by (simp; done)), ⟨_, rfl, rfl⟩, (by (simp; rfl)), ⟨_, rfl, rfl⟩, (by (simp; done)), ⟨_, rfl, rfl⟩, (by (simp; done)), ⟨_, rfl, rfl⟩, (by (simp; done)), trivial⟩ ⟨⟨_, rfl, rfl⟩, (by exact susBox_clo _ rfl), ⟨_, rfl, rfl⟩, (by exact susRows_clo rfl), ⟨_, rfl, rfl⟩, (by (simp; rfl)), ⟨_, rfl, rfl⟩, (by (simp; done)), ⟨_, rfl, rfl⟩, (by (simp; done)), trivial⟩ trivial)⟩
                    · have hs : eShows (i + 1) m x = true := by simpa using hc8
                      rw [hs, if_pos rfl, ← hdr] at hjv
                      have hnp : nMany (i + 1) ≤ 5 := hnm.2
                      have hpl : ((toI (gr (eShows (i + 1) m) (eTog (i + 1)) (l.drop j) j (nMany (i + 1)) [])).map encInt).length = (gr (eShows (i + 1) m) (eTog (i + 1)) (l.drop j) j (nMany (i + 1)) []).length := by simp
                      refine awp_skip ?_
                      refine awp_seq ?_
                      refine awp_region ?_
                      refine al_d rfl rfl rfl (by exact opd_move rfl rfl) ?_
                      refine al_d rfl rfl rfl (by exact opd_move rfl rfl) ?_
                      refine al_d rfl rfl rfl (by exact (by exact opd_field_ref rfl fo80_1 rfl rfl rfl rfl)) ?_
                      refine al_d rfl rfl rfl (by exact (by exact opd_load1_ref rfl Tryz.isAgg3 rfl rfl rfl rfl rfl)) ?_
                      refine al_d rfl rfl rfl (by exact opd_makeFunc rfl rfl) ?_
                      refine al_d rfl rfl rfl (by exact opr_call rfl rfl Tryz.call56 rfl (first_c (eShows (i + 1) m) (eTog (i + 1)) (.clo 57 [.ref 12 0 0 0]) l j (nMany (i + 1)) _ hl hnp hj rfl rfl (Closed.ofL ⟨(by (simp; done)), (by (simp; done)), (by exact susBox_clo _ rfl), (by exact susRows_clo rfl), (by (simp; rfl)), (by (simp; done)), (by (simp; done)), trivial⟩) (.clo (by intro a ha; simp only [List.mem_cons, List.not_mem_nil, or_false] at ha; subst ha; exact .ref rfl)) (fun y hy tk g o9 htl htk ho9 => CallsV.clo Tryz.call57 (findC_c (i + 1) m y tk g _ hm ⟨rfl, rfl, rfl, rfl, rfl, Closed.cons (clo_map _ _ _) (Closed.cons (fun r hr a ha => by obtain ⟨q, rfl⟩ := ho9 r hr a ha; exact .pv q) (Closed.ofL ⟨(by (simp; done)), (by (simp; done)), (by exact susBox_clo _ rfl), (by exact susRows_clo rfl), (by (simp; rfl)), (by (simp; done)), (by (simp; done)), trivial⟩))⟩ rfl rfl rfl rfl (by omega) (fun z hz => het z (htk z hz)) (by omega) (by omega))))) ?_
                      refine al_d rfl rfl rfl (by exact opd_assign rfl rfl) ?_
                      refine al_nil ?_
                      refine awp_seq ?_
                      refine awp_seq ?_
                      refine awp_region ?_
                      refine al_d rfl rfl rfl (by exact opd_move rfl rfl) ?_
                      refine al_d rfl rfl rfl (by exact (by exact opd_len_sl rfl Tryz.underlying29 rfl)) ?_
                      refine al_d rfl rfl rfl (by exact (by exact opd_field_ref rfl fo80_1 rfl rfl rfl rfl)) ?_
                      refine al_d rfl rfl rfl (by exact (by exact opd_load1_ref rfl Tryz.isAgg3 rfl rfl rfl rfl rfl)) ?_
                      refine al_d rfl rfl rfl (by exact opd_eql rfl rfl rfl) ?_
                      refine al_nil ?_
                      refine awp_cond rfl (fun hc9 => ?_) (fun hc9 => ?_)
                      -- cond 9
                      · have hpe : (gr (eShows (i + 1) m) (eTog (i + 1)) (l.drop j) j (nMany (i + 1)) []).length = nMany (i + 1) := by
                          have h := of_decide_eq_true hc9
                          rw [hpl] at h
                          omega
                        rw [if_pos hpe] at hjv
                        rw [← hjv] at hinv
                        have hinv : (i + 1, gr (eShows (i + 1) m) (eTog (i + 1)) (l.drop j) j (nMany (i + 1)) []) = gFind0 m l := hinv
                        rw [← hinv]
                        refine awp_seq ?_
                        refine awp_region ?_
                        refine al_d rfl rfl rfl (by exact (by exact opd_field_ref rfl fo80_0 rfl rfl rfl rfl)) ?_
                        refine al_d rfl rfl rfl (by exact (by exact opd_load1_ref rfl Tryz.isAgg3 rfl rfl rfl rfl rfl)) ?_
                        refine al_d rfl rfl rfl (by exact opd_move rfl rfl) ?_
                        refine al_d rfl rfl rfl (by exact x_build rfl bo31 rfl rfl) ?_
                        refine al_n rfl rfl (by exact (by exact x_store_all rfl Tryz.sizeOf31 rfl rfl rfl rfl rfl rfl rfl rfl)) ?_
                        refine al_nil ?_
                        refine awp_ret ?_
                        -- return
                        refine aret1 (H' := []) (by exact .inr rfl) rfl (rval_cell rfl Tryz.isAgg31 Tryz.sizeOf31 rfl rfl rfl rfl rfl) (Fin.wk (r := .agg [iv ((i + 1 : Nat) : Int), .pv (slInts (toI (gr (eShows (i + 1) m) (eTog (i + 1)) (l.drop j) j (nMany (i + 1)) [])))]) (by simp) trivial trivial) ?_
                        exact ⟨rfl, rfl⟩
                      · have hpe : ¬ (gr (eShows (i + 1) m) (eTog (i + 1)) (l.drop j) j (nMany (i + 1)) []).length = nMany (i + 1) := by
                          have h := of_decide_eq_false hc9
                          rw [hpl] at h
                          omega
                        rw [if_neg hpe] at hjv
                        refine awp_skip ?_
                        refine awp_seq ?_
                        refine awp_region ?_
                        refine al_d rfl rfl rfl (by exact (by exact opd_field_ref rfl fo80_0 rfl rfl rfl rfl)) ?_
                        refine al_d rfl rfl rfl (by exact (by exact opd_load1_ref rfl Tryz.isAgg3 rfl rfl rfl rfl rfl)) ?_
                        refine al_d rfl rfl rfl (by exact opd_neq rfl rfl rfl) ?_
                        refine al_nil ?_
                        refine awp_cond rfl (fun hc10 => ?_) (fun hc10 => ?_)
                        -- cond 10
                        · have h4 : i + 1 ≠ 4 := by
                            have h : (!decide (((i + 1 : Nat) : Int) = 4)) = true := hc10
                            simp only [Bool.not_eq_true', decide_eq_false_iff_not] at h
                            omega
                          rw [if_pos (decide_eq_true h4)] at hjv
                          rw [← hjv] at hinv
                          have hinv : kFirst m l d (i + 1 + 1) = gFind0 m l := hinv
                          refine awp_exit ?_
                          refine awp_region ?_
                          refine al_d rfl rfl rfl (by exact opd_add rfl rfl rfl (by exact w64 (by omega) (by omega))) ?_
                          refine al_d rfl rfl rfl (by exact opd_move rfl rfl) ?_
                          refine al_nil ?_
                          -- end of a round
                          exact ⟨i + 1, ⟨by omega, by rw [hd2]; exact hinv⟩, by omega, (Ent.wk ⟨⟨_, rfl, rfl⟩, (by (simp; done)), ⟨_, rfl, rfl⟩, (by (simp; rfl)), ⟨_, rfl, rfl⟩, (by (simp; done)), ⟨_, rfl, rfl⟩, (by (simp; rfl)), ⟨_, rfl, rfl⟩, (by (simp; done)), ⟨_, rfl, rfl⟩, (by (simp; done)), trivial⟩ ⟨⟨_, rfl, rfl⟩, (by exact susRows_clo rfl), ⟨_, rfl, rfl⟩, (by (simp; rfl)), ⟨_, rfl, rfl⟩, (by (simp; done)), ⟨_, rfl, rfl⟩, (by (simp; done)), trivial⟩ trivial)⟩
                        · have h4 : i + 1 = 4 := by
                            have h : (!decide (((i + 1 : Nat) : Int) = 4)) = false := hc10
                            simp only [Bool.not_eq_false', decide_eq_true_eq] at h
                            omega
                          rw [if_neg (by simp; omega)] at hjv
                          refine awp_skip ?_
                          refine awp_region ?_
                          refine al_d rfl rfl rfl (by exact opd_add rfl rfl rfl (by exact w64 (by omega) (by omega))) ?_
                          refine al_d rfl rfl rfl (by exact opd_move rfl rfl) ?_
                          refine al_nil ?_
                          -- end of a round
                          exact ⟨j + 1, ⟨by omega, hjv⟩, by omega, (Ent.wk ⟨⟨_, rfl, rfl⟩, (by (simp; done)), ⟨_, rfl, rfl⟩, (by (simp; rfl)), ⟨_, rfl, rfl⟩, (by (simp; done)), ⟨_, rfl, rfl⟩, (by (simp; rfl)), ⟨_, rfl, rfl⟩, (by (simp; done)), ⟨_, rfl, rfl⟩, (by (simp; done)), ⟨_, rfl, rfl⟩, (by (simp; rfl)), ⟨_, rfl, rfl⟩, (by (simp; done)), ⟨_, rfl, rfl⟩, (by (simp; done)), ⟨_, rfl, rfl⟩, (by (simp; done)), trivial⟩ ⟨⟨_, rfl, rfl⟩, (by exact susBox_clo _ rfl), ⟨_, rfl, rfl⟩, (by exact susRows_clo rfl), ⟨_, rfl, rfl⟩, (by (simp; rfl)), ⟨_, rfl, rfl⟩, (by (simp; done)), ⟨_, rfl, rfl⟩, (by (simp; done)), trivial⟩ trivial)⟩
                  · have hge : j = l.length := by have := of_decide_eq_false hc7; omega
                    rw [hge, List.drop_length, kLoop] at hjv
                    rw [← hjv] at hinv
                    have hinv : kFirst m l d (i + 1 + 1) = gFind0 m l := hinv
                    refine awp_exit ?_
                    refine awp_region ?_
                    refine al_d rfl rfl rfl (by exact opd_add rfl rfl rfl (by exact w64 (by omega) (by omega))) ?_
                    refine al_d rfl rfl rfl (by exact opd_move rfl rfl) ?_
                    refine al_nil ?_
                    -- end of a round
                    exact ⟨i + 1, ⟨by omega, by rw [hd2]; exact hinv⟩, by omega, (Ent.wk ⟨⟨_, rfl, rfl⟩, (by (simp; done)), ⟨_, rfl, rfl⟩, (by (simp; rfl)), ⟨_, rfl, rfl⟩, (by (simp; done)), ⟨_, rfl, rfl⟩, (by (simp; rfl)), ⟨_, rfl, rfl⟩, (by (simp; done)), ⟨_, rfl, rfl⟩, (by (simp; done)), trivial⟩ ⟨⟨_, rfl, rfl⟩, (by exact susRows_clo rfl), ⟨_, rfl, rfl⟩, (by (simp; rfl)), ⟨_, rfl, rfl⟩, (by (simp; done)), ⟨_, rfl, rfl⟩, (by (simp; done)), trivial⟩ trivial)⟩
            · have hi : i = 4 := by have := of_decide_eq_false hc5; omega
              subst hi
              have hinv : (0, []) = gFind0 m l := hinv
              rw [← hinv]
              refine awp_exit ?_
              refine awp_seq ?_
              refine awp_region ?_
              refine al_d rfl rfl rfl (by exact x_build rfl bo31 rfl rfl) ?_
              refine al_n rfl rfl (by exact (by exact x_store_all rfl Tryz.sizeOf31 rfl rfl rfl rfl rfl rfl rfl rfl)) ?_
              refine al_nil ?_
              refine awp_ret ?_
              -- return
              refine aret1 (H' := []) (by exact .inr rfl) rfl (rval_cell rfl Tryz.isAgg31 Tryz.sizeOf31 rfl rfl rfl rfl rfl) (Fin.wk (r := .agg [iv 0, lv []]) (by simp) trivial trivial) ?_
              exact ⟨rfl, rfl⟩
end Go.Proofs.YtdgoodjhndeojaaGreat
end
section
set_option linter.unusedVariables false
set_option linter.unusedSimpArgs false
namespace Go.Proofs.YtdgoodjhndeojaaGreat
open Go.Abs
def zEdit : GEdit := ⟨0, sNil, sNil, sNil, 0, 0, sNil, sNil, [], zObj⟩
def eKey (k : Nat) (e : GEdit) : ByteArray := if k = 4 then e.obj.id else e.id
def edAt (l : List GEdit) (x : Int) : GEdit := (l[x.toNat]?).getD zEdit
def prevI (idx : List Int) : Nat → Int
  | 0 => -1
  | k + 1 => (idx[k]?).getD 0
def eSame (a b : GEdit) : Bool := (decide (a.obj.x = b.obj.x) && decide (a.obj.y = b.obj.y)) && tagsEq a.obj.tags b.obj.tags
/-- What is wrong with the index at a place. -/
def badH (m : List GObj) (l : List GEdit) (k : Nat) (idx : List Int) (i : Nat) : Bool := match idx[i]? with
  | none => false
  | some x => (decide (x < 0) || decide ((l.length : Int) ≤ x) || (decide ((0 : Int) < (i : Int)) && decide (x ≤ prevI idx i)) || !eShows k m (edAt l x)) || (decide (k = 4) && !eSame (edAt l x) (edAt l ((idx[0]?).getD 0)))
def gHolds (m : List GObj) (l : List GEdit) (kind : Int) (idx : List Int) : Bool :=
  (decide (1 ≤ kind) && decide (kind ≤ 4) && decide (idx.length = nMany kind.toNat) && !(decide (kind = 1) && decide ((nDrops l : Int) ≤ (l.length : Int) - (nDrops l : Int)))) &&
    (!((List.range idx.length).any (badH m l kind.toNat idx)) && decide ((((idx.map (fun x => eKey kind.toNat (edAt l x))).foldl sput []).length : Int) = (idx.length : Int)))
end Go.Proofs.YtdgoodjhndeojaaGreat
end
section
set_option linter.unusedVariables false
set_option linter.unusedSimpArgs false
set_option maxRecDepth 100000
namespace Go.Proofs.YtdgoodjhndeojaaGreat
open Go.Abs
def gFew31 (m : List GObj) (l : List GEdit) : Bool := few13 m 24 && few22 l 20
theorem few31_c (m : List GObj) (l : List GEdit) (H : Heap) (hm : m.length < 4611686018427387904) (ho : ∀ o, o ∈ m → okObj o) (hl : l.length < 4611686018427387904) (he : ∀ e, e ∈ l → okEdit e) :
    ACalls Tryz.prog 17 [.agg [.pv (slObjs m)], .pv (slEdits l)] H (fun r H' => r = bv (gFew31 m l) ∧ H' = H) := by
  refine ACalls.pure ?_ (by simp) H
  refine ACalls.body Tryz.func17 rfl Tryz.ntmps17 (Nat.le_of_ble_eq_true rfl) ?_
  refine awp_seq ?_
  refine awp_region ?_
  refine al_d rfl rfl rfl (by exact opd_box (id := 2) rfl rfl rfl rfl rfl) ?_
  refine al_d rfl rfl rfl (by exact opd_assign rfl rfl) ?_
  refine al_nil ?_
  refine awp_seq ?_
  refine awp_bool (t := 4) (n := 8) (X := gFew31 m l) ?_ ?_
  · all_goals (refine al_d rfl rfl rfl (by exact (by exact opd_loadn_ref rfl Tryz.isAgg24 Tryz.sizeOf24 rfl rfl rfl rfl (by simp only [List.drop_succ_cons, List.drop_zero, List.take_succ_cons, List.take_zero, List.take_nil, List.map_cons, List.map_nil, List.set_cons_zero, List.set_cons_succ, List.cons_append, List.nil_append, encTag, encObj, encStr, encEdit, encInt]; rfl) rfl)) ?_)
    all_goals (refine al_d rfl rfl rfl (by exact opr_call rfl rfl Tryz.call53 rfl (few13_c m 24 _ hm ho)) ?_)
    all_goals (refine al_d rfl rfl rfl (by exact opd_move rfl rfl) ?_)
    all_goals (refine al_split (t := 7) rfl (fun h7 => ?_) (fun h7 => ?_))
    all_goals (try contradiction)
    all_goals (first | refine al_off rfl rfl rfl rfl rfl ?_ | refine al_ond rfl rfl rfl rfl rfl rfl (by exact opd_move rfl rfl) ?_)
    all_goals (first | refine al_off rfl rfl rfl rfl rfl ?_ | refine al_ond rfl rfl rfl rfl rfl rfl (by exact opr_call rfl rfl Tryz.call54 rfl (few22_c l 20 _ hl he)) ?_)
    all_goals (refine al_d rfl rfl rfl (by exact (by first | exact opd_pick_t rfl rfl rfl | exact opd_pick_f rfl rfl rfl)) ?_)
    all_goals (refine al_d rfl rfl rfl (by exact opd_assign rfl rfl) ?_)
    all_goals (refine al_nil ?_)
    all_goals (exact ⟨⟨_, rfl, by (simp only [gFew31, *]; rfl)⟩, rfl, rfl, rfl⟩)
  refine awp_ret ?_
  -- return
  refine aret1 (H' := []) (by exact .inr rfl) rfl (rval_tmp rfl) (Fin.wk (by simp) trivial trivial) ?_
  exact ⟨rfl, rfl⟩
theorem same31_c (k1 k2 : Int) (a b : List Int) (H : Heap) (ha : a.length < 4611686018427387904) :
    ACalls Tryz.prog 18 [.agg [iv k1, .pv (slInts a)], .agg [iv k2, .pv (slInts b)]] H (fun r H' => r = bv (decide (k1 = k2) && decide (a = b)) ∧ H' = H) := by
  refine ACalls.pure ?_ (by simp) H
  have hma : (a.map encInt).length = a.length := List.length_map _
  have hmb : (b.map encInt).length = b.length := List.length_map _
  refine ACalls.body Tryz.func18 rfl Tryz.ntmps18 (Nat.le_of_ble_eq_true rfl) ?_
  refine awp_seq ?_
  refine awp_region ?_
  refine al_d rfl rfl rfl (by exact opd_box (id := 2) rfl rfl rfl rfl rfl) ?_
  refine al_d rfl rfl rfl (by exact opd_box (id := 3) rfl rfl rfl rfl rfl) ?_
  refine al_d rfl rfl rfl (by exact opd_assign rfl rfl) ?_
  refine al_nil ?_
  refine awp_seq ?_
  refine awp_seq ?_
  refine awp_bool (t := 19) (n := 15) (X := !decide (k1 = k2) || !decide (((a.map encInt).length : Int) = ((b.map encInt).length : Int))) ?_ ?_
  · all_goals (refine al_d rfl rfl rfl (by exact (by exact opd_field_ref rfl fo31_0 rfl rfl rfl rfl)) ?_)
    all_goals (refine al_d rfl rfl rfl (by exact (by exact opd_load1_ref rfl Tryz.isAgg3 rfl rfl rfl rfl rfl)) ?_)
    all_goals (refine al_d rfl rfl rfl (by exact (by exact opd_field_ref rfl fo31_0 rfl rfl rfl rfl)) ?_)
    all_goals (refine al_d rfl rfl rfl (by exact (by exact opd_load1_ref rfl Tryz.isAgg3 rfl rfl rfl rfl rfl)) ?_)
    all_goals (refine al_d rfl rfl rfl (by exact opd_neq rfl rfl rfl) ?_)
    all_goals (refine al_d rfl rfl rfl (by exact opd_move rfl rfl) ?_)
    all_goals (refine al_split (t := 11) rfl (fun h11 => ?_) (fun h11 => ?_))
    all_goals (try contradiction)
    all_goals (first | refine al_off rfl rfl rfl rfl rfl ?_ | refine al_ond rfl rfl rfl rfl rfl rfl (by exact (by exact opd_field_ref rfl fo31_1 rfl rfl rfl rfl)) ?_)
    all_goals (first | refine al_off rfl rfl rfl rfl rfl ?_ | refine al_ond rfl rfl rfl rfl rfl rfl (by exact (by exact opd_load1_ref rfl Tryz.isAgg29 rfl rfl rfl rfl rfl)) ?_)
    all_goals (first | refine al_off rfl rfl rfl rfl rfl ?_ | refine al_ond rfl rfl rfl rfl rfl rfl (by exact (by exact opd_len_sl rfl Tryz.underlying29 rfl)) ?_)
    all_goals (first | refine al_off rfl rfl rfl rfl rfl ?_ | refine al_ond rfl rfl rfl rfl rfl rfl (by exact (by exact opd_field_ref rfl fo31_1 rfl rfl rfl rfl)) ?_)
    all_goals (first | refine al_off rfl rfl rfl rfl rfl ?_ | refine al_ond rfl rfl rfl rfl rfl rfl (by exact (by exact opd_load1_ref rfl Tryz.isAgg29 rfl rfl rfl rfl rfl)) ?_)
    all_goals (first | refine al_off rfl rfl rfl rfl rfl ?_ | refine al_ond rfl rfl rfl rfl rfl rfl (by exact (by exact opd_len_sl rfl Tryz.underlying29 rfl)) ?_)
    all_goals (first | refine al_off rfl rfl rfl rfl rfl ?_ | refine al_ond rfl rfl rfl rfl rfl rfl (by exact opd_neq rfl rfl rfl) ?_)
    all_goals (refine al_d rfl rfl rfl (by exact (by first | exact opd_pick_t rfl rfl rfl | exact opd_pick_f rfl rfl rfl)) ?_)
    all_goals (refine al_nil ?_)
    all_goals (exact ⟨⟨_, rfl, by (simp only [*, Bool.false_and, Bool.true_and, Bool.and_false, Bool.and_true, Bool.true_or, Bool.false_or, Bool.or_true, Bool.or_false, Bool.not_true, Bool.not_false]; done)⟩, rfl, rfl, rfl⟩)
  refine awp_cond rfl (fun hc1 => ?_) (fun hc1 => ?_)
  -- cond 1
  · have hne : (decide (k1 = k2) && decide (a = b)) = false := by
      rw [Bool.and_eq_false_iff, decide_eq_false_iff_not, decide_eq_false_iff_not]
      by_cases h1 : k1 = k2
      · right
        rintro rfl
        simp [h1] at hc1
      · exact .inl h1
    refine awp_seq ?_
    refine awp_region ?_
    refine al_d rfl rfl rfl (by exact opd_assign rfl rfl) ?_
    refine al_nil ?_
    refine awp_ret ?_
    -- return
    refine aret1 (H' := []) (by exact .inr rfl) rfl (rval_tmp rfl) (Fin.wk (by simp) trivial trivial) ?_
    exact ⟨by rw [hne], rfl⟩
  · have h1 : k1 = k2 := by
      simp only [Bool.or_eq_false_iff, Bool.not_eq_false', decide_eq_true_eq] at hc1
      exact hc1.1
    have heq : a.length = b.length := by
      simp only [Bool.or_eq_false_iff, Bool.not_eq_false', decide_eq_true_eq, hma, hmb] at hc1
      have := hc1.2
      omega
    refine awp_skip ?_
    refine awp_seq ?_
    refine awp_seq ?_
    refine awp_region ?_
    refine al_d rfl rfl rfl (by exact opd_assign rfl rfl) ?_
    refine al_nil ?_
    refine awp_block ?_
    -- loop
    refine awp_loop (σ := Nat) (fun k => ([(2, .ref 2 0 0 0), (3, .ref 3 0 0 0), (5, iv (k : Int))], [(3, bx 2 31 [iv k2, .pv (slInts b)]), (2, bx 2 31 [iv k1, .pv (slInts a)])])) (fun k => k ≤ a.length ∧ a.take k = b.take k) (fun k => a.length - k) 0 ⟨by omega, by simp⟩ ?_ ?_
    · exact (Ent.wk ⟨⟨_, rfl, rfl⟩, (by (simp; rfl)), ⟨_, rfl, rfl⟩, (by (simp; rfl)), ⟨_, rfl, rfl⟩, (by (simp; done)), trivial⟩ ⟨⟨_, rfl, rfl⟩, (by (simp; done)), ⟨_, rfl, rfl⟩, (by (simp; done)), trivial⟩ trivial)
    · rintro k ⟨hk, hall⟩
      refine awp_seq ?_
      refine awp_seq ?_
      refine awp_region ?_
      refine al_d rfl rfl rfl (by exact opd_move rfl rfl) ?_
      refine al_d rfl rfl rfl (by exact (by exact opd_field_ref rfl fo31_1 rfl rfl rfl rfl)) ?_
      refine al_d rfl rfl rfl (by exact (by exact opd_load1_ref rfl Tryz.isAgg29 rfl rfl rfl rfl rfl)) ?_
      refine al_d rfl rfl rfl (by exact (by exact opd_len_sl rfl Tryz.underlying29 rfl)) ?_
      refine al_d rfl rfl rfl (by exact opd_lss rfl rfl rfl) ?_
      refine al_nil ?_
      refine awp_cond rfl (fun hc2 => ?_) (fun hc2 => ?_)
      -- cond 2
      · have hlt : k < a.length := by have := of_decide_eq_true hc2; omega
        obtain ⟨x, hx⟩ := get_of_lt hlt
        obtain ⟨y, hy⟩ := get_of_lt (l := b) (k := k) (by omega)
        have hi := map_get (f := encInt) hx
        have hi2 := map_get (f := encInt) hy
        refine awp_skip ?_
        refine awp_seq ?_
        refine awp_block ?_
        refine awp_seq ?_
        refine awp_drawc follows ?_
        refine dc_cons (DStep.q rfl (by exact (by exact opd_field_ref rfl fo31_1 rfl rfl rfl rfl))) rfl ?_
        refine dc_cons (DStep.q rfl (by exact (by exact opd_load1_ref rfl Tryz.isAgg29 rfl rfl rfl rfl rfl))) rfl ?_
        refine dc_cons (DStep.q rfl (by exact opd_move rfl rfl)) rfl ?_
        refine dc_cons (DStep.q rfl (by exact (by exact x_index_pad rfl so29 rfl rfl (by omega) (by exact Int.toNat_natCast _) (by assumption) rfl))) rfl ?_
        refine dc_cons (DStep.q rfl (by exact (by exact opd_load1_pad rfl Tryz.isAgg3 rfl (by omega) rfl))) rfl ?_
        refine dc_cons (DStep.q rfl (by exact (by exact opd_field_ref rfl fo31_1 rfl rfl rfl rfl))) rfl ?_
        refine dc_cons (DStep.q rfl (by exact (by exact opd_load1_ref rfl Tryz.isAgg29 rfl rfl rfl rfl rfl))) rfl ?_
        refine dc_cons (DStep.q rfl (by exact opd_move rfl rfl)) rfl ?_
        refine dc_cons (DStep.q rfl (by exact (by exact x_index_pad rfl so29 rfl rfl (by omega) (by exact Int.toNat_natCast _) (by assumption) rfl))) rfl ?_
        refine dc_cons (DStep.q rfl (by exact (by exact opd_load1_pad rfl Tryz.isAgg3 rfl (by omega) rfl))) rfl ?_
        refine dc_cons (DStep.q rfl (by exact opd_neq rfl rfl rfl)) rfl ?_
        refine dc_nil ⟨by kernel_rfl, ?_⟩
        refine awp_cond rfl (fun hc3 => ?_) (fun hc3 => ?_)
        -- cond 3
        · have ht : ¬ x = y := by
            have h : (!decide (x = y)) = true := hc3
            simpa using h
          have hne : ¬ a = b := by
            intro e
            subst e
            rw [hx] at hy
            exact ht (Option.some.inj hy)
          refine awp_seq ?_
          refine awp_region ?_
          refine al_d rfl rfl rfl (by exact opd_assign rfl rfl) ?_
          refine al_nil ?_
          refine awp_ret ?_
          -- return
          refine aret1 (H' := []) (by exact .inr rfl) rfl (rval_tmp rfl) (Fin.wk (by simp) trivial trivial) ?_
          exact ⟨by rw [decide_eq_false hne, Bool.and_false], rfl⟩
        · have ht : x = y := by
            have h : (!decide (x = y)) = false := hc3
            simpa using h
          refine awp_skip ?_
          refine awp_region ?_
          refine al_d rfl rfl rfl (by exact opd_move rfl rfl) ?_
          refine al_d rfl rfl rfl (by exact opd_add rfl rfl rfl (by exact w64 (by omega) (by omega))) ?_
          refine al_d rfl rfl rfl (by exact opd_assign rfl rfl) ?_
          refine al_nil ?_
          -- end of a round
          refine ⟨k + 1, ⟨by omega, ?_⟩, by omega, (Ent.wk ⟨⟨_, rfl, rfl⟩, (by (simp; rfl)), ⟨_, rfl, rfl⟩, (by (simp; rfl)), ⟨_, rfl, rfl⟩, (by (simp; done)), trivial⟩ ⟨⟨_, rfl, rfl⟩, (by (simp; done)), ⟨_, rfl, rfl⟩, (by (simp; done)), trivial⟩ trivial)⟩
          rw [List.take_add_one, List.take_add_one, hx, hy, hall, ht]
      · have hge : k = a.length := by have := of_decide_eq_false hc2; omega
        have he : a = b := by
          have h := hall
          rw [hge, List.take_length, heq, List.take_length] at h
          exact h
        refine awp_exit ?_
        refine awp_seq ?_
        refine awp_region ?_
        refine al_d rfl rfl rfl (by exact opd_assign rfl rfl) ?_
        refine al_nil ?_
        refine awp_ret ?_
        -- return
        refine aret1 (H' := []) (by exact .inr rfl) rfl (rval_tmp rfl) (Fin.wk (by simp) trivial trivial) ?_
        exact ⟨by rw [decide_eq_true he, decide_eq_true h1]; rfl, rfl⟩
theorem nDrops_le (l : List GEdit) : nDrops l ≤ l.length := List.countP_le_length
theorem nDrops_take {l : List GEdit} {k : Nat} {e : GEdit} (h : l[k]? = some e) : nDrops (l.take (k + 1)) = nDrops (l.take k) + (if e.op = 5 then 1 else 0) := by
  rw [nDrops, nDrops, List.take_add_one, h, List.countP_append]
  by_cases h5 : e.op = 5 <;> simp [isDrop, h5]
end Go.Proofs.YtdgoodjhndeojaaGreat
end
section
set_option linter.unusedVariables false
set_option linter.unusedSimpArgs false
set_option maxRecDepth 100000
namespace Go.Proofs.YtdgoodjhndeojaaGreat
open Go.Abs

def accH (l : List GEdit) (k : Nat) (idx : List Int) : List ByteArray := (idx.map (fun x => eKey k (edAt l x))).foldl sput []
end Go.Proofs.YtdgoodjhndeojaaGreat
end
section
set_option linter.unusedVariables false
set_option linter.unusedSimpArgs false
set_option maxRecDepth 100000
namespace Go.Proofs.YtdgoodjhndeojaaGreat
open Go.Abs
def nm (i : Nat) : ByteArray := ⟨#[110, 49 + UInt8.ofNat i]⟩
def nodeO (i : Nat) : GObj := ⟨nm i, 1, (i : Int), 0, [], []⟩
def names5 : List ByteArray := (List.range 5).map nm
def nodes5 : List GObj := (List.range 5).map nodeO
abbrev obRows (l : List GObj) : List (List AV) := l.map (fun e => (encObj e).map .pv)
end Go.Proofs.YtdgoodjhndeojaaGreat
end
section
set_option linter.unusedVariables false
set_option linter.unusedSimpArgs false
namespace Go.Abs
section
variable {P : Program} {N : Nat} {o : Oper} {E : Env} {H : Heap} {T : TypeId} {x y hi mx : Operand}
theorem slf_inv {w : World} {I : Nat → Prop} {ι : Plc} {v : Value} {rows : List (List PV)} (h : VRel w I ι H v (.pv (.slf rows))) : ∃ a n, v = .slice (some a) n n ∧ PRep w I v (.sl rows) := by
  cases h with
  | pv h => cases h with
    | slf a n _ h => exact ⟨a, n, rfl, h⟩
theorem x_slice_full {e : TypeId} {rows : List (List PV)} {sz n : Nat} (ho : o.op = .slice T x none (some hi) (some mx)) (hS : SliceOf P T e sz) (hx : aeval E x = some (.pv (.sl rows))) (hrows : ∀ r ∈ rows, r.length = sz) (hne : rows ≠ []) (hn : rows.length = n)
    (hhi : aeval E hi = some (.pv (.int .i64 n))) (hmx : aeval E mx = some (.pv (.int .i64 n))) : OpD P N o E H (.pv (.slf rows)) H := by
  subst hn
  exact .of_run fun a w I ι _ he => by
    have hv := (aeval_rel he hx).pv_inv
    have e1 := (aeval_rel he hhi).int_inv
    have e2 := (aeval_rel he hmx).int_inv
    generalize hc : a.eval x = c at hv
    have hT := hS.1
    have hTe : P.elem T = e := by simp [Program.elem, hT]
    have hT' : P.underlying T = some (.slice (P.elem T)) := by rw [hTe, hT]
    cases hv with
    | nilsl => exact absurd rfl hne
    | empsl a0 => exact absurd rfl hne
    | sl b off cap sz' _ cs hI hsz hlen hcap hcc hpp =>
      have hb : (Instr.sliceBounds true rows.length cap none (some (.int .i64 rows.length)) (some (.int .i64 rows.length))).run P w = .ok (0, rows.length, rows.length) w := by
        have hsb : ∀ (n y : Nat) (c : BoundsCode), n ≤ y → (Instr.sliceBound (.int .i64 n) y c).run P w = .ok n w := fun n y c hn => by
          have := run_sliceBound (P := P) w .i64 n y c (by omega) (by omega)
          simpa using this
        simp [Instr.sliceBounds, hsb _ _ _ hcap, hsb _ _ _ (Nat.le_refl rows.length)]
      have hlt : 0 < rows.length := List.length_pos_iff.2 hne
      refine ⟨.slice (some ⟨b, off, none⟩) rows.length rows.length, ?_, .pv (.slf _ _ _ (.sl b off rows.length sz' rows cs hI hsz hlen (Nat.le_refl _) hcc hpp))⟩
      simp only [execOp, ho, hc]
      have := run_slice_any (P := P) w T (some ⟨b, off, none⟩) rows.length cap hT' none (some (.int .i64 rows.length)) (some (.int .i64 rows.length))
      have hsz2 := hS.2.1
      have hne0 : ¬ rows.length = 0 := by omega
      simp [run_sliceAt_slice w T _ _ _ _ hT', e1, e2, this, hb, hTe, hsz2, sliced, Addr.add_zero', hne0]
theorem opd_append_full {e : TypeId} {id n m sz bytes : Nat} {rows : List (List PV)} {rows2 : List (List AV)} (ho : o.op = .call { callee := .builtin .append, args := #[x, y], argTypes := #[T, T] }) (hT : P.underlying T = some (.slice e)) (hinf : EInfo P e sz bytes)
    (hx : aeval E x = some (.pv (.slf rows))) (hne : rows ≠ []) (hrl : ∀ r ∈ rows, r.length = sz) (hn : rows.length = n) (hid : H.get id = none)
    (hsrc : ∀ (a : Act) (w : World) (I : Nat → Prop) (ι : Plc), Rel I ι H w → ERel w I ι H E a → Src w I ι H sz (a.eval y) rows2) (hrl2 : ∀ r ∈ rows2, r.length = sz) (hm : rows2.length = m) (hpos : 0 < m) (hbytes : (n + m) * bytes ≤ 140737488355328) (hmax : n + m ≤ 9223372036854775807) :
    OpD P N o E H (.osl id 0 0 (n + m)) ((id, ⟨0, sz, e, rows.map (·.map .pv) ++ rows2⟩) :: H) := by
  intro a w I ι _ _ hr he K Q hk
  obtain ⟨i, z, hi, hz, hsize, hby, hzs, hsz0⟩ := hinf
  subst hn hm
  obtain ⟨ad, n, hv, hp⟩ := slf_inv (aeval_rel he hx)
  have hml : rows.length + rows2.length ≤ maxLen := by simp only [maxLen]; omega
  rcases src_pure (ι := ι) (H := H) (.pv hp) hsz0 hrl with ⟨ad1, c1, olds, s1, s2, s3, s4, s5⟩ | ⟨s1, _⟩
  · rw [hv] at s1
    injection s1 with q1 q2 q3
    injection q1 with q1
    subst q1
    simp only [List.length_map] at q2 s2
    subst q2
    rcases hsrc a w I ι hr he with ⟨ad2, c2, news, t1, t2, t3, t4, t5⟩ | ⟨_, t2⟩
    · have hrun := run_append_grow (P := P) w T o.type e i z hT hi hz ad rows.length rows.length olds (by rw [hsize]; exact s2) s3 ad2 rows2.length c2 news (by rw [hsize]; exact t2) t3 (by omega) (by omega) (growslice_fits (by omega) (by rw [hby]; exact hbytes))
      have hge := grownCap_ge w (rows.length + rows2.length) rows.length e
      have hcm := grownCap_le_maxLen w (rows.length + rows2.length) rows.length e hml
      have h1 : Heap.get ((id, (⟨0, sz, e, rows.map (·.map .pv) ++ rows2⟩ : Ob)) :: H) id = some ⟨0, sz, e, rows.map (·.map .pv) ++ rows2⟩ := by simp [Heap.get, beq_self]
      have h2 : ∀ j, j ≠ id → Heap.get ((id, (⟨0, sz, e, rows.map (·.map .pv) ++ rows2⟩ : Ob)) :: H) j = H.get j := fun j hj => by simp [Heap.get, beq_ne (Ne.symm hj)]
      have hrl3 : ∀ r ∈ rows.map (·.map AV.pv) ++ rows2, r.length = sz := fun r hr' => by
        rcases List.mem_append.1 hr' with h | h
        · obtain ⟨q, hq, rfl⟩ := List.mem_map.1 h
          rw [List.length_map]; exact hrl q hq
        · exact hrl2 r h
      obtain ⟨k2, k3⟩ := Rel.place (H' := (id, ⟨0, sz, e, rows.map (·.map .pv) ++ rows2⟩) :: H) (id := id) (cap := grownCap w (rows.length + rows2.length) rows.length e) (ob' := ⟨0, sz, e, rows.map (·.map .pv) ++ rows2⟩)
        (cs' := olds.toArray ++ news.toArray ++ Builtin.zeroCells z.cells (grownCap w (rows.length + rows2.length) rows.length e - (rows.length + rows2.length)))
        (w' := w.drew.alloc (.cells (olds.toArray ++ news.toArray ++ Builtin.zeroCells z.cells (grownCap w (rows.length + rows2.length) rows.length e - (rows.length + rows2.length))) e)) hr rfl rfl rfl rfl
        (fun o' ho' => by rw [hid] at ho'; cases ho') hsz0 (by
          simp only [Array.size_append, List.size_toArray, size_zeroCells, hzs, s2, t2, ← Nat.add_mul]
          congr 1
          omega) (by simpa using hge) hcm hrl3 (fun i' r hi' k a' hk' => by
            obtain ⟨u, q1, q2, q3⟩ := LRel.app (l3 := (Builtin.zeroCells z.cells (grownCap w (rows.length + rows2.length) rows.length e - (rows.length + rows2.length))).toList) s5 (by simpa using s2) t5 i' r hi' k a' hk'
            refine ⟨u, ?_, q2, q3⟩
            rw [← Array.getElem?_toList]
            simpa [List.append_assoc] using q1) h1 h2
      unfold Oper.wp execOp
      simp only [ho, resolve, invoke, builtin, Sem.run_bind, Sem.run_pure, Result.andThen_ok, List.map_toArray, List.map_cons, List.map_nil, hv, t1, hrun]
      exact hk _ _ I _ _ _ ⟨rfl, rfl⟩ (.osl _ h1 (Nat.le_refl _) rfl fun _ => ⟨hsz0, by simp, .inl ⟨w.heap.size, _, 0, by simp; rfl, by simp, fun _ => by simp⟩⟩) k2 k3
    · rw [t2] at hpos; simp at hpos
  · rw [hv] at s1; cases s1
theorem x_append_full {e : TypeId} {id id' g' off' n m k sz bytes : Nat} {ob' : Ob} {rows : List (List PV)} {rows' : List (List AV)} (ho : o.op = .call { callee := .builtin .append, args := #[x, y], argTypes := #[T, T] }) (hS : SliceOf P T e sz) (hinf : EI P e sz bytes)
    (hx : aeval E x = some (.pv (.slf rows))) (hne : rows ≠ []) (hrl : ∀ r ∈ rows, r.length = sz) (hn : rows.length = n) (hid : H.get id = none)
    (hy : aeval E y = some (.osl id' g' off' m)) (hH' : H.get id' = some ob') (hg' : ob'.g = g') (hsz' : ob'.sz = sz) (hrl2 : ∀ r ∈ ob'.rows, r.length = sz) (hm : off' + m ≤ ob'.rows.length) (hpos : 0 < m) (hbytes : (n + m) * bytes ≤ 140737488355328) (hk : n + m = k)
    (hrows : rows.map (·.map .pv) ++ (ob'.rows.drop off').take m = rows') : OpD P N o E H (.osl id 0 0 k) ((id, ⟨0, sz, e, rows'⟩) :: H) := by
  subst hk hrows
  refine opd_append_full ho hS.1 hinf.1 hx hne hrl hn hid (fun a w I ι hr he => src_osl hr (aeval_rel he hy) hH' hg' hsz') (fun r hr => hrl2 r (List.mem_of_mem_drop (List.mem_of_mem_take hr))) (by rw [List.length_take, List.length_drop]; omega) hpos hbytes (small_of hinf.2 hbytes)
end
end Go.Abs
end
section
set_option linter.unusedVariables false
set_option linter.unusedSimpArgs false
set_option maxRecDepth 100000
namespace Go.Proofs.YtdgoodjhndeojaaGreat
open Go.Abs
theorem slt_data (a b : ByteArray) : slt a b = decide (a.data.toList < b.data.toList) := by
  unfold slt
  rw [bytesLess_eq, ByteArray.toList_eq, ByteArray.toList_eq]
abbrev nA : ByteArray := ⟨#[97]⟩
abbrev nB : ByteArray := ⟨#[98]⟩
abbrev nC : ByteArray := ⟨#[99]⟩
abbrev nD : ByteArray := ⟨#[100]⟩
abbrev nE : ByteArray := ⟨#[101]⟩
abbrev nX : ByteArray := ⟨#[120]⟩
def nodeN (id v : ByteArray) : GObj := ⟨id, 1, 0, 0, [], if v = sNil then [] else [⟨sName, v⟩]⟩
def m5 : List GObj := [nodeN nA nX, nodeN nB nX, nodeN nC nX, nodeN nD sNil, nodeN nE sNil]
def dropN (id : ByteArray) : GEdit := ⟨5, id, sNil, sNil, 0, 0, sNil, sNil, [], zObj⟩
def moveN (id : ByteArray) : GEdit := ⟨2, id, sNil, sNil, 0, 0, sNil, sNil, [], zObj⟩
def blankN (id : ByteArray) : GEdit := ⟨3, id, sNil, sNil, 0, 0, sName, sNil, [], zObj⟩
def ids5 : List ByteArray := [nA, nB, nC, nD, nE]
abbrev dropsN : List GEdit := ids5.map dropN
abbrev movesN : List GEdit := ids5.map moveN
abbrev blanksN : List GEdit := [blankN nC, blankN nA, blankN nB]
theorem tagsN {t : GTag} (h1 : gName t.key = true) (h2 : t.val ≠ sNil) (h3 : t.val.size ≤ 200) : gTags [t] = true := by
  simp only [gTags, List.length_cons, List.length_nil, List.range_succ, List.range_zero, List.nil_append, List.any_cons, List.any_nil, badAt, before, List.getElem?_cons_zero, badTag, sle, slt_nil, Bool.or_false, Bool.false_or, h1, Bool.not_true]
  have h4 := gName_ne h1
  simp [h4, h2]
  omega
theorem gObj_nodeN {id v : ByteArray} (h1 : gName id = true) (h2 : v.size ≤ 200) : gObj (nodeN id v) = true := by
  have ht : gTags (nodeN id v).tags = true := by
    rw [nodeN]
    by_cases e : v = sNil
    · simp only [if_pos e]; kernel_rfl
    · simp only [if_neg e]
      exact tagsN (by kernel_rfl) e h2
  simp only [gObj, gHead, gHeadN, ht]
  simp only [nodeN, h1]
  rfl
theorem map5 : gMap m5 = true := by
  rw [gMap_iff]
  refine ⟨?_, ?_, by decide⟩
  · intro o ho
    simp only [m5, List.mem_cons, List.not_mem_nil, or_false] at ho
    rcases ho with rfl | rfl | rfl | rfl | rfl <;> exact gObj_nodeN (by kernel_rfl) (by decide)
  · rw [ups, m5]
    simp only [slt_data, nodeN]
    decide
theorem closed5 : closedB m5 = true := by rw [closedB, map5]; kernel_rfl
theorem ok5 : okM m5 := by
  refine ⟨by decide, fun o ho => ?_⟩
  simp only [m5, List.mem_cons, List.not_mem_nil, or_false] at ho
  have key : ∀ id v : ByteArray, id.size < 10 → v.size < 10 → okO (nodeN id v) := fun id v h1 h2 => by
    refine ⟨by show id.size < _; omega, ?_, by show 0 < _; omega, fun s hs => by cases hs⟩
    rw [nodeN]
    by_cases e : v = sNil
    · simp only [if_pos e]
      exact ⟨by decide, fun t ht => by cases ht⟩
    · simp only [if_neg e]
      refine ⟨by show 1 < _; omega, fun t ht => ?_⟩
      rw [List.mem_singleton] at ht
      subst ht
      exact ⟨by show 4 < _; omega, by show v.size < _; omega⟩
  rcases ho with rfl | rfl | rfl | rfl | rfl <;> exact key _ _ (by decide) (by decide)
theorem fnd_of {m : List GObj} {l : List GEdit} (hc : closedB m = true) (hg : gChange l = true) : gFind m l = ((((gFind0 m l).1 : Nat) : Int), toI (gFind0 m l).2) := by rw [gFind, hc, hg]; rfl
theorem fnd1 : gFind m5 dropsN = (1, [0, 1, 2, 3, 4]) := by rw [fnd_of closed5 (by kernel_rfl)]; kernel_rfl
theorem fnd2 : gFind m5 (dropsN ++ movesN) = (0, []) := by rw [fnd_of closed5 (by kernel_rfl)]; kernel_rfl
theorem fnd3 : gFind m5 blanksN = (2, [0, 1, 2]) := by rw [fnd_of closed5 (by kernel_rfl)]; kernel_rfl
theorem okE_plain {e : GEdit} (h1 : e.id.size < 10) (h2 : e.other.size < 10) (h3 : e.node.size < 10) (h4 : e.key.size < 10) (h5 : e.refs = []) (h6 : e.obj = zObj) : okE e :=
  ⟨⟨by omega, by omega, by omega, by omega⟩, by rw [h5]; exact ⟨by decide, fun s hs => by cases hs⟩, by rw [h6]; exact okO_z⟩
theorem ids5_small : ∀ s ∈ ids5, s.size < 10 := by decide
theorem okN (f : ByteArray → GEdit) (h : ∀ s, s.size < 10 → okE (f s)) : ∀ e ∈ ids5.map f, okE e := fun e he => by
  obtain ⟨s, hs, rfl⟩ := List.mem_map.1 he
  exact h s (ids5_small s hs)
theorem find_v {m : List GObj} {l : List GEdit} {k : Int} {e : List Int} (h : gFind m l = (k, e)) (H : Heap) (hm : okM m) (hl : l.length < 1099511627776) (he : ∀ e ∈ l, okE e) : ACalls Tryz.prog 19 [.agg [.pv (slObjs m)], .pv (slEdits l)] H (fun r H' => r = .agg [iv k, .pv (slInts e)] ∧ H' = H) := by
  have h2 := evFind_c m l H hm hl he
  rw [h] at h2
  exact h2
theorem same_v {k1 k2 : Int} {a b : List Int} (h1 : k1 = k2) (h2 : a = b) (H : Heap) (ha : a.length < 4611686018427387904) : ACalls Tryz.prog 18 [.agg [iv k1, .pv (slInts a)], .agg [iv k2, .pv (slInts b)]] H (fun r H' => r = bv true ∧ H' = H) := by
  have h := same31_c k1 k2 a b H ha
  rw [decide_eq_true h1, decide_eq_true h2] at h
  exact h
theorem nodeN_c (id v : ByteArray) (H : Heap) : ACalls Tryz.prog 51 [sv id, sv v] H (fun r H' => r = av (encObj (nodeN id v)) ∧ H' = H) := by
  refine ACalls.pure ?_ (by simp) H
  refine ACalls.body Tryz.func51 rfl Tryz.ntmps51 (Nat.le_of_ble_eq_true rfl) ?_
  refine awp_seq ?_
  refine awp_region ?_
  refine al_d rfl rfl rfl (by exact x_alloc (id := 4) rfl zo42 rfl rfl) ?_
  refine al_nil ?_
  refine awp_seq ?_
  refine awp_region ?_
  refine al_d rfl rfl rfl (by exact opd_move rfl rfl) ?_
  refine al_d rfl rfl rfl (by exact x_build rfl bo42 rfl rfl) ?_
  refine al_d rfl rfl rfl (by exact x_alloc (id := 5) rfl zo42 rfl rfl) ?_
  refine al_n rfl rfl (by exact (by exact x_store_all rfl Tryz.sizeOf42 rfl rfl rfl rfl rfl rfl rfl rfl)) ?_
  refine al_nil ?_
  refine awp_seq ?_
  refine awp_seq ?_
  refine awp_region ?_
  refine al_d rfl rfl rfl (by exact opd_move rfl rfl) ?_
  refine al_d rfl rfl rfl (by exact opd_sneq rfl rfl rfl) ?_
  refine al_nil ?_
  refine awp_cond rfl (fun hc1 => ?_) (fun hc1 => ?_)
  -- cond 1
  · have hv : ¬ v = sNil := by
      have h : (!decide (v = sNil)) = true := hc1
      simpa using h
    have e : nodeN id v = ⟨id, 1, 0, 0, [], [⟨sName, v⟩]⟩ := by rw [nodeN, if_neg hv]
    rw [e]
    refine awp_region ?_
    refine al_d rfl rfl rfl (by exact opd_move rfl rfl) ?_
    refine al_d rfl rfl rfl (by exact x_build rfl bo62 rfl rfl) ?_
    refine al_d rfl rfl rfl (by exact x_buildSlice [encTag ⟨sName, v⟩] rfl so40 rfl rfl rfl rfl rfl (by simp [encTag])) ?_
    refine al_d rfl rfl rfl (by exact (by exact opd_field_ref rfl fo42_4 rfl rfl rfl rfl)) ?_
    refine al_n rfl rfl (by exact x_store1 rfl Tryz.sizeOf40 rfl rfl rfl rfl rfl rfl (Nat.lt_succ_self 5) rfl rfl) ?_
    refine al_nil ?_
    refine awp_seq ?_
    refine awp_region ?_
    refine al_d rfl rfl rfl (by exact (by exact opd_loadn_ref rfl Tryz.isAgg42 Tryz.sizeOf42 rfl rfl rfl rfl (by simp only [List.drop_succ_cons, List.drop_zero, List.take_succ_cons, List.take_zero, List.take_nil, List.map_cons, List.map_nil, List.set_cons_zero, List.set_cons_succ, List.cons_append, List.nil_append, encTag, encObj, encStr, encEdit, encInt]; rfl) rfl)) ?_
    refine al_n rfl rfl (by exact (by exact x_store_all rfl Tryz.sizeOf42 rfl rfl rfl rfl rfl rfl rfl rfl)) ?_
    refine al_nil ?_
    refine awp_ret ?_
    -- return
    refine aret1 (H' := []) (by exact .inr rfl) rfl (rval_cell rfl Tryz.isAgg42 Tryz.sizeOf42 rfl rfl rfl (by simp only [List.drop_succ_cons, List.drop_zero, List.take_succ_cons, List.take_zero, List.take_nil, List.map_cons, List.map_nil, List.set_cons_zero, List.set_cons_succ, List.cons_append, List.nil_append, encTag, encObj, encStr, encEdit, encInt]; rfl) rfl) (Fin.wk (r := av (encObj ⟨id, 1, 0, 0, [], [⟨sName, v⟩]⟩)) (by simp [encObj]) trivial trivial) ?_
    exact ⟨rfl, rfl⟩
  · have hv : v = sNil := by
      have h : (!decide (v = sNil)) = false := hc1
      simpa using h
    have e : nodeN id v = ⟨id, 1, 0, 0, [], []⟩ := by rw [nodeN, if_pos hv]
    rw [e]
    refine awp_skip ?_
    refine awp_seq ?_
    refine awp_region ?_
    refine al_d rfl rfl rfl (by exact (by exact opd_loadn_ref rfl Tryz.isAgg42 Tryz.sizeOf42 rfl rfl rfl rfl (by simp only [List.drop_succ_cons, List.drop_zero, List.take_succ_cons, List.take_zero, List.take_nil, List.map_cons, List.map_nil, List.set_cons_zero, List.set_cons_succ, List.cons_append, List.nil_append, encTag, encObj, encStr, encEdit, encInt]; rfl) rfl)) ?_
    refine al_n rfl rfl (by exact (by exact x_store_all rfl Tryz.sizeOf42 rfl rfl rfl rfl rfl rfl rfl rfl)) ?_
    refine al_nil ?_
    refine awp_ret ?_
    -- return
    refine aret1 (H' := []) (by exact .inr rfl) rfl (rval_cell rfl Tryz.isAgg42 Tryz.sizeOf42 rfl rfl rfl (by simp only [List.drop_succ_cons, List.drop_zero, List.take_succ_cons, List.take_zero, List.take_nil, List.map_cons, List.map_nil, List.set_cons_zero, List.set_cons_succ, List.cons_append, List.nil_append, encTag, encObj, encStr, encEdit, encInt]; rfl) rfl) (Fin.wk (r := av (encObj ⟨id, 1, 0, 0, [], []⟩)) (by simp [encObj]) trivial trivial) ?_
    exact ⟨rfl, rfl⟩
theorem blank_c (id : ByteArray) (H : Heap) : ACalls Tryz.prog 52 [sv id] H (fun r H' => r = av (encEdit (blankN id)) ∧ H' = H) := by
  refine ACalls.pure ?_ (by simp) H
  refine ACalls.body Tryz.func52 rfl Tryz.ntmps52 (Nat.le_of_ble_eq_true rfl) ?_
  refine awp_seq ?_
  refine awp_region ?_
  refine al_d rfl rfl rfl (by exact x_alloc (id := 2) rfl zo44 rfl rfl) ?_
  refine al_nil ?_
  refine awp_seq ?_
  refine awp_region ?_
  refine al_d rfl rfl rfl (by exact opd_move rfl rfl) ?_
  refine al_d rfl rfl rfl (by exact x_build rfl bo44 rfl rfl) ?_
  refine al_n rfl rfl (by exact (by exact x_store_all rfl Tryz.sizeOf44 rfl rfl rfl rfl rfl rfl rfl rfl)) ?_
  refine al_nil ?_
  refine awp_ret ?_
  -- return
  refine aret1 (H' := []) (by exact .inr rfl) rfl (rval_cell rfl Tryz.isAgg44 Tryz.sizeOf44 rfl rfl rfl (by simp only [List.drop_succ_cons, List.drop_zero, List.take_succ_cons, List.take_zero, List.take_nil, List.map_cons, List.map_nil, List.set_cons_zero, List.set_cons_succ, List.cons_append, List.nil_append, encTag, encObj, encStr, encEdit, encInt]; rfl) rfl) (Fin.wk (r := av (encEdit (blankN id))) (by simp [encEdit]) trivial trivial) ?_
  exact ⟨rfl, rfl⟩
theorem m5_at {i : Nat} (h : i < 5) : ∃ o, (m5.map encObj)[i]? = some (encObj o) ∧ ids5.take (i + 1) = ids5.take i ++ [o.id] := by
  match i, h with
  | 0, _ => exact ⟨_, rfl, rfl⟩
  | 1, _ => exact ⟨_, rfl, rfl⟩
  | 2, _ => exact ⟨_, rfl, rfl⟩
  | 3, _ => exact ⟨_, rfl, rfl⟩
  | 4, _ => exact ⟨_, rfl, rfl⟩
  | n + 5, h => exact absurd h (by omega)
theorem len15 (l : List GEdit) : ∀ r ∈ l.map encEdit, r.length = 15 := fun r hr => by
  obtain ⟨o, _, rfl⟩ := List.mem_map.1 hr; rfl
theorem len15' (l : List GEdit) : ∀ r ∈ edRows l, r.length = 15 := fun r hr => by
  obtain ⟨o, _, rfl⟩ := List.mem_map.1 hr; rfl
theorem head31_c (H : Heap) : ACalls Tryz.prog 16 [] H (fun r H' => r = bv true ∧ H' = H) := by
  refine ACalls.pure ?_ (by simp) H
  have q1 : ∀ e ∈ dropsN, okE e := okN dropN (fun s h => okE_plain h (show (0 : Nat) < 10 by decide) (show (0 : Nat) < 10 by decide) (show (0 : Nat) < 10 by decide) rfl rfl)
  have q2 : ∀ e ∈ movesN, okE e := okN moveN (fun s h => okE_plain h (show (0 : Nat) < 10 by decide) (show (0 : Nat) < 10 by decide) (show (0 : Nat) < 10 by decide) rfl rfl)
  have q3 : ∀ e ∈ dropsN ++ movesN, okE e := fun e he => by
    rcases List.mem_append.1 he with h | h
    · exact q1 e h
    · exact q2 e h
  have q4 : ∀ e ∈ blanksN, okE e := fun e he => by
    simp only [List.mem_cons, List.not_mem_nil, or_false] at he
    rcases he with rfl | rfl | rfl <;> exact okE_plain (by decide) (by decide) (by decide) (by decide) rfl rfl
  have hml : (m5.map encObj).length = 5 := rfl
  refine ACalls.body Tryz.func16 rfl Tryz.ntmps16 (Nat.le_of_ble_eq_true rfl) ?_
  refine awp_seq ?_
  refine awp_region ?_
  refine al_d rfl rfl rfl (by exact opd_assign rfl rfl) ?_
  refine al_nil ?_
  refine awp_seq ?_
  refine awp_region ?_
  refine al_d rfl rfl rfl (by exact opr_call rfl rfl Tryz.call51 rfl (nodeN_c nA nX _)) ?_
  refine al_d rfl rfl rfl (by exact opr_call rfl rfl Tryz.call51 rfl (nodeN_c nB nX _)) ?_
  refine al_d rfl rfl rfl (by exact opr_call rfl rfl Tryz.call51 rfl (nodeN_c nC nX _)) ?_
  refine al_d rfl rfl rfl (by exact opr_call rfl rfl Tryz.call51 rfl (nodeN_c nD sNil _)) ?_
  refine al_d rfl rfl rfl (by exact opr_call rfl rfl Tryz.call51 rfl (nodeN_c nE sNil _)) ?_
  refine al_d rfl rfl rfl (by exact x_buildSlice (m5.map encObj) rfl so22 rfl rfl rfl rfl rfl (by intro r hr; obtain ⟨o, _, rfl⟩ := List.mem_map.1 hr; rfl)) ?_
  refine al_d rfl rfl rfl (by exact x_build rfl bo24 rfl rfl) ?_
  refine al_d rfl rfl rfl (by exact x_alloc (id := 1) rfl zo24 rfl rfl) ?_
  refine al_n rfl rfl (by exact (by exact x_store_all rfl Tryz.sizeOf24 rfl rfl rfl rfl rfl rfl rfl rfl)) ?_
  refine al_nil ?_
  refine awp_seq ?_
  refine awp_region ?_
  refine al_d rfl rfl rfl (by exact opd_assign_own (id := 2) (sz := 15) (ty := 44) rfl rfl rfl) ?_
  refine al_d rfl rfl rfl (by exact opd_assign_own (id := 3) (sz := 15) (ty := 44) rfl rfl rfl) ?_
  refine al_nil ?_
  refine awp_seq ?_
  refine awp_seq ?_
  refine awp_region ?_
  refine al_d rfl rfl rfl (by exact opd_assign rfl rfl) ?_
  refine al_nil ?_
  refine awp_block ?_
  -- loop
  refine awp_loop (σ := Nat) (fun i => ([(1, .ref 1 0 0 0), (2, .osl 2 i 0 i), (3, .osl 3 i 0 i), (4, iv (i : Int))],
    [(2, ⟨i, 15, 44, edRows ((ids5.take i).map dropN)⟩), (3, ⟨i, 15, 44, edRows ((ids5.take i).map moveN)⟩), (1, bx 1 24 [.pv (slObjs m5)])])) (fun i => i ≤ 5) (fun i => 5 - i) 0 (by omega) ?_ ?_
  · exact (Ent.wk ⟨⟨_, rfl, rfl⟩, (by (simp; rfl)), ⟨_, rfl, rfl⟩, (by (simp; rfl)), ⟨_, rfl, rfl⟩, (by (simp; rfl)), ⟨_, rfl, rfl⟩, (by (simp; done)), trivial⟩ ⟨⟨_, rfl, rfl⟩, (by (simp; done)), ⟨_, rfl, rfl⟩, (by (simp; done)), ⟨_, rfl, rfl⟩, (by (simp; done)), trivial⟩ trivial)
  · intro i hi
    refine awp_seq ?_
    refine awp_seq ?_
    refine awp_region ?_
    refine al_d rfl rfl rfl (by exact opd_move rfl rfl) ?_
    refine al_d rfl rfl rfl (by exact (by exact opd_field_ref rfl fo24_0 rfl rfl rfl rfl)) ?_
    refine al_d rfl rfl rfl (by exact (by exact opd_load1_ref rfl Tryz.isAgg22 rfl rfl rfl rfl rfl)) ?_
    refine al_d rfl rfl rfl (by exact (by exact opd_len_sl rfl Tryz.underlying22 rfl)) ?_
    refine al_d rfl rfl rfl (by exact opd_lss rfl rfl rfl) ?_
    refine al_nil ?_
    refine awp_cond rfl (fun hc1 => ?_) (fun hc1 => ?_)
    -- cond 1
    · have hlt : i < 5 := by
        have h : decide ((i : Int) < 5) = true := hc1
        simp at h; omega
      obtain ⟨o, hoi, hid⟩ := m5_at hlt
      have hdn : (ids5.take (i + 1)).map dropN = (ids5.take i).map dropN ++ [dropN o.id] := by rw [hid, List.map_append]; rfl
      have hmn : (ids5.take (i + 1)).map moveN = (ids5.take i).map moveN ++ [moveN o.id] := by rw [hid, List.map_append]; rfl
      have htl : (ids5.take i).length = i := by rw [List.length_take]; show min i 5 = i; omega
      refine awp_skip ?_
      refine awp_seq ?_
      refine awp_block ?_
      refine awp_seq ?_
      refine awp_region ?_
      refine al_d rfl rfl rfl (by exact opd_move rfl rfl) ?_
      refine al_d rfl rfl rfl (by exact (by exact opd_field_ref rfl fo24_0 rfl rfl rfl rfl)) ?_
      refine al_d rfl rfl rfl (by exact (by exact opd_load1_ref rfl Tryz.isAgg22 rfl rfl rfl rfl rfl)) ?_
      refine al_d rfl rfl rfl (by exact opd_move rfl rfl) ?_
      refine al_d rfl rfl rfl (by exact (by exact x_index_pad rfl so22 rfl rfl (by omega) (by exact Int.toNat_natCast _) (by assumption) rfl)) ?_
      refine al_d rfl rfl rfl (by exact (by exact opd_field_pad rfl fo42_0 rfl rfl)) ?_
      refine al_d rfl rfl rfl (by exact (by exact opd_load1_pad rfl Tryz.isAgg9 rfl (by omega) rfl)) ?_
      refine al_d rfl rfl rfl (by exact x_build rfl bo44 rfl rfl) ?_
      refine al_d rfl rfl rfl (by exact x_buildSlice [encEdit (dropN o.id)] rfl so25 rfl rfl rfl rfl rfl (by simp [encEdit])) ?_
      refine al_d rfl rfl rfl (by exact (by exact x_append rfl so25 ei44 rfl rfl rfl rfl rfl (by rw [List.length_map, List.length_map]; exact htl) rfl (by simp [encEdit]) (rfl : _ = 1) (by omega) (rfl : _ = i + 1) (List.map_append (l₂ := [dropN o.id])).symm)) ?_
      refine al_d rfl rfl rfl (by exact opd_assign rfl rfl) ?_
      refine al_nil ?_
      refine awp_region ?_
      refine al_d rfl rfl rfl (by exact opd_move rfl rfl) ?_
      refine al_d rfl rfl rfl (by exact (by exact opd_field_ref rfl fo24_0 rfl rfl rfl rfl)) ?_
      refine al_d rfl rfl rfl (by exact (by exact opd_load1_ref rfl Tryz.isAgg22 rfl rfl rfl rfl rfl)) ?_
      refine al_d rfl rfl rfl (by exact opd_move rfl rfl) ?_
      refine al_d rfl rfl rfl (by exact (by exact x_index_pad rfl so22 rfl rfl (by omega) (by exact Int.toNat_natCast _) (by assumption) rfl)) ?_
      refine al_d rfl rfl rfl (by exact (by exact opd_field_pad rfl fo42_0 rfl rfl)) ?_
      refine al_d rfl rfl rfl (by exact (by exact opd_load1_pad rfl Tryz.isAgg9 rfl (by omega) rfl)) ?_
      refine al_d rfl rfl rfl (by exact x_build rfl bo44 rfl rfl) ?_
      refine al_d rfl rfl rfl (by exact x_buildSlice [encEdit (moveN o.id)] rfl so25 rfl rfl rfl rfl rfl (by simp [encEdit])) ?_
      refine al_d rfl rfl rfl (by exact (by exact x_append rfl so25 ei44 rfl rfl rfl rfl rfl (by rw [List.length_map, List.length_map]; exact htl) rfl (by simp [encEdit]) (rfl : _ = 1) (by omega) (rfl : _ = i + 1) (List.map_append (l₂ := [moveN o.id])).symm)) ?_
      refine al_d rfl rfl rfl (by exact opd_assign rfl rfl) ?_
      refine al_nil ?_
      refine awp_region ?_
      refine al_d rfl rfl rfl (by exact opd_move rfl rfl) ?_
      refine al_d rfl rfl rfl (by exact opd_add rfl rfl rfl (by exact w64 (by omega) (by omega))) ?_
      refine al_d rfl rfl rfl (by exact opd_assign rfl rfl) ?_
      refine al_nil ?_
      -- end of a round
      refine ⟨i + 1, by omega, by omega, ?_⟩
      rw [hdn, hmn]
      exact (Ent.wk ⟨⟨_, rfl, rfl⟩, (by (simp; rfl)), ⟨_, rfl, rfl⟩, (by (simp; rfl)), ⟨_, rfl, rfl⟩, (by (simp; rfl)), ⟨_, rfl, rfl⟩, (by (simp; done)), trivial⟩ ⟨⟨_, rfl, rfl⟩, (by exact clo_map _ _ _), ⟨_, rfl, rfl⟩, (by exact clo_map _ _ _), ⟨_, rfl, rfl⟩, (by (simp; done)), trivial⟩ trivial)
    · have hge : i = 5 := by
        have h : decide ((i : Int) < 5) = false := hc1
        simp at h; omega
      subst hge
      refine awp_exit ?_
      refine awp_seq ?_
      -- before the slot
      refine AWp.ent (Ent.fz (id := 2) (E' := [(1, .ref 1 0 0 0), (2, .pv (slEdits dropsN)), (3, .osl 3 5 0 5)]) (H' := [(3, ⟨5, 15, 44, edRows movesN⟩), (1, bx 1 24 [.pv (slObjs m5)])]) (dropsN.map encEdit) rfl (rows_of encEdit dropsN)
        (by intro p hp; simp only [List.mem_cons, List.not_mem_nil, or_false] at hp; rcases hp with rfl | rfl | rfl; exact ⟨_, rfl, .same (.ref rfl)⟩; exact ⟨_, rfl, .osl rfl⟩; exact ⟨_, rfl, .same (.osl rfl)⟩) rfl ⟨⟨_, rfl, rfl⟩, (by (simp; done)), ⟨_, rfl, rfl⟩, (by (simp; done)), trivial⟩ trivial) ?_
      refine awp_region ?_
      refine al_d rfl rfl rfl (by exact opd_move rfl rfl) ?_
      refine al_d rfl rfl rfl (by exact opd_move rfl rfl) ?_
      refine al_d rfl rfl rfl (by exact (by exact opd_len_sl rfl Tryz.underlying25 rfl)) ?_
      refine al_d rfl rfl rfl (by exact opd_move rfl rfl) ?_
      refine al_d rfl rfl rfl (by exact (by exact opd_len_sl rfl Tryz.underlying25 rfl)) ?_
      refine al_d rfl rfl rfl (by exact x_slice_full rfl so25 rfl (len15 dropsN) (by simp [ids5]) rfl rfl rfl) ?_
      refine al_d rfl rfl rfl (by exact opd_move rfl rfl) ?_
      refine al_d rfl rfl rfl (by exact x_append_full (id := 50) (rows' := edRows (dropsN ++ movesN)) rfl so25 ei44 rfl (by simp [ids5]) (len15 dropsN) rfl rfl rfl rfl rfl rfl (len15' movesN) (by decide) (by decide) (by decide) (rfl : _ = 10) (by rfl)) ?_
      refine al_d rfl rfl rfl (by exact opd_assign rfl rfl) ?_
      refine al_nil ?_
      refine awp_seq ?_
      refine awp_region ?_
      refine al_d rfl rfl rfl (by exact opd_assign rfl rfl) ?_
      refine al_nil ?_
      refine awp_seq ?_
      refine awp_region ?_
      refine al_d rfl rfl rfl (by exact (by exact opd_loadn_ref rfl Tryz.isAgg24 Tryz.sizeOf24 rfl rfl rfl rfl (by simp only [List.drop_succ_cons, List.drop_zero, List.take_succ_cons, List.take_zero, List.take_nil, List.map_cons, List.map_nil, List.set_cons_zero, List.set_cons_succ, List.cons_append, List.nil_append, encTag, encObj, encStr, encEdit, encInt]; rfl) rfl)) ?_
      refine al_d rfl rfl rfl (by exact opd_move rfl rfl) ?_
      refine al_d rfl rfl rfl (by exact opr_call rfl rfl Tryz.call19 rfl (find_v fnd1 _ ok5 (by decide) q1)) ?_
      refine al_d rfl rfl rfl (by exact x_alloc (id := 6) rfl zo31 rfl rfl) ?_
      refine al_n rfl rfl (by exact (by exact x_store_all rfl Tryz.sizeOf31 rfl rfl rfl rfl rfl rfl rfl rfl)) ?_
      refine al_nil ?_
      refine awp_seq ?_
      -- before the slot
      refine AWp.ent (Ent.fz (id := 50) (E' := [(1, .ref 1 0 0 0), (3, .pv (slEdits (dropsN ++ movesN))), (5, .pv (.fn 52)), (6, .ref 6 0 0 0)]) (H' := [(6, bx 2 31 [iv 1, .pv (slInts [0, 1, 2, 3, 4])]), (1, bx 1 24 [.pv (slObjs m5)])]) ((dropsN ++ movesN).map encEdit) rfl (rows_of encEdit _)
        (by intro p hp; simp only [List.mem_cons, List.not_mem_nil, or_false] at hp; rcases hp with rfl | rfl | rfl | rfl; exact ⟨_, rfl, .same (.ref rfl)⟩; exact ⟨_, rfl, .osl rfl⟩; exact ⟨_, rfl, .same (by simp)⟩; exact ⟨_, rfl, .same (.ref rfl)⟩) rfl ⟨⟨_, rfl, rfl⟩, (by (simp; done)), ⟨_, rfl, rfl⟩, (by (simp; done)), trivial⟩ trivial) ?_
      refine awp_region ?_
      refine al_d rfl rfl rfl (by exact (by exact opd_loadn_ref rfl Tryz.isAgg24 Tryz.sizeOf24 rfl rfl rfl rfl (by simp only [List.drop_succ_cons, List.drop_zero, List.take_succ_cons, List.take_zero, List.take_nil, List.map_cons, List.map_nil, List.set_cons_zero, List.set_cons_succ, List.cons_append, List.nil_append, encTag, encObj, encStr, encEdit, encInt]; rfl) rfl)) ?_
      refine al_d rfl rfl rfl (by exact opd_move rfl rfl) ?_
      refine al_d rfl rfl rfl (by exact opr_call rfl rfl Tryz.call19 rfl (find_v fnd2 _ ok5 (by decide) q3)) ?_
      refine al_d rfl rfl rfl (by exact x_alloc (id := 7) rfl zo31 rfl rfl) ?_
      refine al_n rfl rfl (by exact (by exact x_store_all rfl Tryz.sizeOf31 rfl rfl rfl rfl rfl rfl rfl rfl)) ?_
      refine al_nil ?_
      refine awp_seq ?_
      refine awp_drawc follows ?_
      refine dc_cons (r := ⟨_, some [1], []⟩) (DStep.plain rfl (fun H1 hH => by exact (by exact opd_loadn_ref rfl Tryz.isAgg24 Tryz.sizeOf24 rfl ((hH _ rfl).trans rfl) rfl rfl (by simp only [List.drop_succ_cons, List.drop_zero, List.take_succ_cons, List.take_zero, List.take_nil, List.map_cons, List.map_nil, List.set_cons_zero, List.set_cons_succ, List.cons_append, List.nil_append, encTag, encObj, encStr, encEdit, encInt]; rfl) rfl))) rfl ?_
      refine dc_cons (r := ⟨_, some [], []⟩) (DStep.plain rfl (fun H1 hH => by exact opd_move rfl rfl)) rfl ?_
      refine dc_cons (r := ⟨_, some [], []⟩) (DStep.plain rfl (fun H1 hH => by exact opr_callV rfl rfl rfl (CallsV.fn Tryz.call52 (blank_c nC _)))) rfl ?_
      refine dc_cons (r := ⟨_, some [], []⟩) (DStep.plain rfl (fun H1 hH => by exact opd_move rfl rfl)) rfl ?_
      refine dc_cons (r := ⟨_, some [], []⟩) (DStep.plain rfl (fun H1 hH => by exact opr_callV rfl rfl rfl (CallsV.fn Tryz.call52 (blank_c nA _)))) rfl ?_
      refine dc_cons (r := ⟨_, some [], []⟩) (DStep.plain rfl (fun H1 hH => by exact opd_move rfl rfl)) rfl ?_
      refine dc_cons (r := ⟨_, some [], []⟩) (DStep.plain rfl (fun H1 hH => by exact opr_callV rfl rfl rfl (CallsV.fn Tryz.call52 (blank_c nB _)))) rfl ?_
      refine dc_cons (r := ⟨_, some [], []⟩) (DStep.plain rfl (fun H1 hH => by exact x_buildSlice (blanksN.map encEdit) rfl so25 rfl rfl rfl rfl rfl (len15 blanksN))) rfl ?_
      refine dc_cons (r := ⟨_, some [], []⟩) (DStep.plain rfl (fun H1 hH => by exact opr_call rfl rfl Tryz.call19 rfl (find_v fnd3 _ ok5 (by decide) q4))) rfl ?_
      refine dc_cons (r := ⟨_, some [8], [_]⟩) (DStep.plain rfl (fun H1 hH => by exact x_alloc (id := 8) rfl zo31 rfl ((hH _ rfl).trans rfl))) rfl ?_
      refine dc_cons (r := ⟨_, some [8], [_]⟩) (DStep.plain rfl (fun H1 hH => by exact (by exact x_store_all rfl Tryz.sizeOf31 rfl rfl rfl rfl ((hH _ rfl).trans rfl) rfl rfl rfl))) rfl ?_
      refine dc_nil ⟨by kernel_rfl, ?_⟩
      refine awp_seq ?_
      refine awp_region ?_
      refine al_d rfl rfl rfl (by exact (by exact opd_loadn_ref rfl Tryz.isAgg31 Tryz.sizeOf31 rfl rfl rfl rfl (by simp only [List.drop_succ_cons, List.drop_zero, List.take_succ_cons, List.take_zero, List.take_nil, List.map_cons, List.map_nil, List.set_cons_zero, List.set_cons_succ, List.cons_append, List.nil_append, encTag, encObj, encStr, encEdit, encInt]; rfl) rfl)) ?_
      refine al_d rfl rfl rfl (by exact x_buildSlice ([0, 1, 2, 3, 4].map encInt) rfl so29 rfl rfl rfl rfl rfl (by simp [encInt])) ?_
      refine al_d rfl rfl rfl (by exact x_build rfl bo31 rfl rfl) ?_
      refine al_d rfl rfl rfl (by exact opr_call rfl rfl Tryz.call18 rfl (same_v rfl rfl _ (by decide))) ?_
      refine al_d rfl rfl rfl (by exact opd_move rfl rfl) ?_
      refine al_ond rfl rfl rfl (by rfl) rfl rfl (by exact (by exact opd_loadn_ref rfl Tryz.isAgg31 Tryz.sizeOf31 rfl rfl rfl rfl (by simp only [List.drop_succ_cons, List.drop_zero, List.take_succ_cons, List.take_zero, List.take_nil, List.map_cons, List.map_nil, List.set_cons_zero, List.set_cons_succ, List.cons_append, List.nil_append, encTag, encObj, encStr, encEdit, encInt]; rfl) rfl)) ?_
      refine al_ond rfl rfl rfl (by rfl) rfl rfl (by exact x_build rfl bo31 rfl rfl) ?_
      refine al_ond rfl rfl rfl (by rfl) rfl rfl (by exact opr_call rfl rfl Tryz.call18 rfl (same_v rfl rfl _ (by decide))) ?_
      refine al_d rfl rfl rfl (by exact (by exact opd_pick_t rfl rfl rfl)) ?_
      refine al_d rfl rfl rfl (by exact opd_move rfl rfl) ?_
      refine al_ond rfl rfl rfl (by rfl) rfl rfl (by exact (by exact opd_loadn_ref rfl Tryz.isAgg31 Tryz.sizeOf31 rfl rfl rfl rfl (by simp only [List.drop_succ_cons, List.drop_zero, List.take_succ_cons, List.take_zero, List.take_nil, List.map_cons, List.map_nil, List.set_cons_zero, List.set_cons_succ, List.cons_append, List.nil_append, encTag, encObj, encStr, encEdit, encInt]; rfl) rfl)) ?_
      refine al_ond rfl rfl rfl (by rfl) rfl rfl (by exact x_buildSlice ([0, 1, 2].map encInt) rfl so29 rfl rfl rfl rfl rfl (by simp [encInt])) ?_
      refine al_ond rfl rfl rfl (by rfl) rfl rfl (by exact x_build rfl bo31 rfl rfl) ?_
      refine al_ond rfl rfl rfl (by rfl) rfl rfl (by exact opr_call rfl rfl Tryz.call18 rfl (same_v rfl rfl _ (by decide))) ?_
      refine al_d rfl rfl rfl (by exact (by exact opd_pick_t rfl rfl rfl)) ?_
      refine al_d rfl rfl rfl (by exact opd_assign rfl rfl) ?_
      refine al_nil ?_
      refine awp_ret ?_
      -- return
      refine aret1 (H' := []) (by exact .inr rfl) rfl (rval_tmp rfl) (Fin.wk (by simp) trivial trivial) ?_
      exact ⟨rfl, rfl⟩
end Go.Proofs.YtdgoodjhndeojaaGreat
end
section
set_option linter.unusedVariables false
set_option linter.unusedSimpArgs false
set_option maxRecDepth 100000
namespace Go.Proofs.YtdgoodjhndeojaaGreat
open Go.Abs
theorem fnd_cases (m : List GObj) (l : List GEdit) : gFind m l = (0, []) ∨ (closedB m = true ∧ gChange l = true ∧ ∃ (k : Nat) (e : List Nat), gFind m l = ((k : Int), toI e) ∧ gFind0 m l = (k, e) ∧ Ev m l k e) := by
  unfold gFind
  cases hc : closedB m with
  | false => exact .inl rfl
  | true =>
    cases hg : gChange l with
    | false => exact .inl rfl
    | true =>
      rcases find_sound m l with h | h
      · left; rw [h]; rfl
      · exact .inr ⟨rfl, rfl, _, _, rfl, rfl, h⟩
theorem ev_len {m : List GObj} {l : List GEdit} {k : Nat} {e : List Nat} (h : Ev m l k e) : 3 ≤ l.length ∧ e.length ≤ 5 := by
  have h1 := h.ch.len
  have h2 := nMany_pos k
  refine ⟨?_, by omega⟩
  have hu := h.ch.up
  match e, h1, hu, h.ch.sh with
  | [], h1, _, _ => simp at h1; omega
  | [_], h1, _, _ => simp at h1; omega
  | [_, _], h1, _, _ => simp at h1; omega
  | a :: b :: c :: r, _, hu, hs =>
    obtain ⟨x, hx, _⟩ := hs c (by simp)
    have h3 := (List.getElem?_eq_some_iff.1 hx).1
    rw [List.pairwise_cons, List.pairwise_cons] at hu
    have h4 := hu.1 b (by simp)
    have h5 := hu.2.1 c (by simp)
    omega
def okEv (m : List GObj) (l : List GEdit) : Prop := okM m ∧ m.length < 1099511627776 ∧ l.length < 1099511627776 ∧ (∀ e ∈ l, okE e)
theorem okEv_few {m : List GObj} {l : List GEdit} (h : okEv m l) (H : Heap) : ACalls Tryz.prog 17 [.agg [.pv (slObjs m)], .pv (slEdits l)] H (fun r H' => r = bv (gFew31 m l) ∧ H' = H) :=
  few31_c m l H h.1.1 (fun o ho => ⟨(h.1.2 o ho).2.2.1, (h.1.2 o ho).2.1.1⟩) (by have := h.2.2.1; omega) (fun e hel => ⟨(h.2.2.2 e hel).2.1.1, (h.2.2.2 e hel).2.2.2.2.1, (h.2.2.2 e hel).2.2.2.1.1⟩)
end Go.Proofs.YtdgoodjhndeojaaGreat
end
section
set_option linter.unusedVariables false
set_option linter.unusedSimpArgs false
namespace Go.Proofs.YtdgoodjhndeojaaGreat
open Go.Abs
theorem okE_sz {B : Nat} {e : GEdit} (hB : B < 4611686018427387904) (h : szEdit B e) : okE e :=
  ⟨⟨by have := h.2.1; omega, by have := h.2.2.1; omega, by have := h.2.2.2.1; omega, by have := h.2.2.2.2.2.2.1; omega⟩,
    ⟨by have := h.2.2.2.2.2.2.2.2.1.1; omega, fun s hs => by have := h.2.2.2.2.2.2.2.2.1.2 s hs; omega⟩, okO_of hB h.2.2.2.2.2.2.2.2.2⟩
theorem okEv_of {m : List GObj} {l : List GEdit} (hm : szMap 1048576 m) (hl : szEdits 1048576 l) : okEv m l :=
  ⟨okM_of (by decide) hm, by have := hm.1; omega, by have := hl.1; omega, fun e he => okE_sz (by decide) (hl.2 e he)⟩
end Go.Proofs.YtdgoodjhndeojaaGreat
end
