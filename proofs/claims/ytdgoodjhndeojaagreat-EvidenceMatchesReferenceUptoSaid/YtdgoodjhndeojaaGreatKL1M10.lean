/-
  CONTRACTS: planisphereref31: what shows, what fits, the first choice, what holds. Conditions: lengths below 2^40.
  PLAIN: the reference's search for evidence is the package's. Conditions: none.
  CONTRACT: planisphereref31.Find; EvidenceMatchesReference answers true. Conditions: the arguments' sizes.
-/
import Derived.Test.YtdgoodjhndeojaaGreatKL1M9
section
set_option linter.unusedVariables false
set_option linter.unusedSimpArgs false
set_option maxRecDepth 100000
namespace Go.Proofs.YtdgoodjhndeojaaGreat
open Go.Abs
theorem rShows_c (k : Nat) (m : List GObj) (e : GEdit) (H : Heap) (hm : okM m) (h1 : 1 ≤ k) (h4 : k ≤ 4) : ACalls Tryz.prog 117 [.agg [.pv (slObjs m)], av (encEdit e), iv (k : Int)] H (fun r H' => r = bv (eShows k m e) ∧ H' = H) := by
  refine ACalls.pure ?_ (by simp) H
  refine ACalls.body Tryz.func117 rfl Tryz.ntmps117 (Nat.le_of_ble_eq_true rfl) ?_
  refine awp_seq ?_
  refine awp_region ?_
  refine al_d rfl rfl rfl (by exact opd_box (id := 3) rfl rfl rfl rfl rfl) ?_
  refine al_d rfl rfl rfl (by exact opd_box (id := 4) rfl rfl rfl rfl rfl) ?_
  refine al_d rfl rfl rfl (by exact opd_assign rfl rfl) ?_
  refine al_nil ?_
  refine awp_seq ?_
  refine awp_seq ?_
  refine awp_region ?_
  refine al_d rfl rfl rfl (by exact opd_move rfl rfl) ?_
  refine al_nil ?_
  refine awp_block ?_
  refine awp_seq ?_
  refine awp_region ?_
  refine al_d rfl rfl rfl (by exact opd_eql rfl rfl rfl) ?_
  refine al_d rfl rfl rfl (by exact opd_assign rfl rfl) ?_
  refine al_nil ?_
  refine awp_cond rfl (fun hc1 => ?_) (fun hc1 => ?_)
  -- cond 1
  · have hk : k = 1 := by have := of_decide_eq_true hc1; omega
    subst hk
    refine awp_seq ?_
    refine awp_region ?_
    refine al_d rfl rfl rfl (by exact (by exact opd_loadn_ref rfl Tryz.isAgg24 Tryz.sizeOf24 rfl rfl rfl rfl (by simp only [List.drop_succ_cons, List.drop_zero, List.take_succ_cons, List.take_zero, List.take_nil, List.map_cons, List.map_nil, List.set_cons_zero, List.set_cons_succ, List.cons_append, List.nil_append, encTag, encObj, encStr, encEdit, encInt]; rfl) rfl)) ?_
    refine al_d rfl rfl rfl (by exact (by exact opd_field_ref rfl fo44_1 rfl rfl rfl rfl)) ?_
    refine al_d rfl rfl rfl (by exact (by exact opd_load1_ref rfl Tryz.isAgg9 rfl rfl rfl rfl rfl)) ?_
    refine al_d rfl rfl rfl (by exact opr_call rfl rfl Tryz.call164 rfl (rOld_c m e.id _ hm.1)) ?_
    refine al_d rfl rfl rfl (by exact opd_move rfl rfl) ?_
    refine al_d rfl rfl rfl (by exact opd_extract rfl rfl rfl) ?_
    refine al_d rfl rfl rfl (by exact opd_extract rfl rfl rfl) ?_
    refine al_d rfl rfl rfl (by exact x_alloc (id := 7) rfl zo42 rfl rfl) ?_
    refine al_n rfl rfl (by exact (by exact x_store_all rfl Tryz.sizeOf42 rfl rfl rfl rfl rfl rfl rfl rfl)) ?_
    refine al_d rfl rfl rfl (by exact opd_assign rfl rfl) ?_
    refine al_nil ?_
    refine awp_seq ?_
    refine awp_bool (t := 6) (n := 8) (X := eShows 1 m e) ?_ ?_
    · all_goals (refine al_d rfl rfl rfl (by exact (by exact opd_field_ref rfl fo44_0 rfl rfl rfl rfl)) ?_)
      all_goals (refine al_d rfl rfl rfl (by exact (by exact opd_load1_ref rfl Tryz.isAgg3 rfl rfl rfl rfl rfl)) ?_)
      all_goals (refine al_d rfl rfl rfl (by exact opd_eql rfl rfl rfl) ?_)
      all_goals (refine al_d rfl rfl rfl (by exact opd_move rfl rfl) ?_)
      all_goals (refine al_split (t := 28) rfl (fun h28 => ?_) (fun h28 => ?_))
      all_goals (try contradiction)
      all_goals (first | refine al_off rfl rfl rfl rfl rfl ?_ | refine al_ond rfl rfl rfl rfl rfl rfl (by exact opd_move rfl rfl) ?_)
      all_goals (refine al_d rfl rfl rfl (by exact (by first | exact opd_pick_t rfl rfl rfl | exact opd_pick_f rfl rfl rfl)) ?_)
      all_goals (refine al_d rfl rfl rfl (by exact opd_assign rfl rfl) ?_)
      all_goals (refine al_nil ?_)
      all_goals (exact ⟨⟨_, rfl, by (simp only [eShows, *]; rfl)⟩, rfl, rfl, rfl⟩)
    refine awp_ret ?_
    -- return
    refine aret1 (H' := []) (by exact .inr rfl) rfl (rval_tmp rfl) (Fin.wk (by simp) trivial trivial) ?_
    exact ⟨rfl, rfl⟩
  · have hk1 : ¬ k = 1 := by have := of_decide_eq_false hc1; omega
    refine awp_seq ?_
    refine awp_region ?_
    refine al_d rfl rfl rfl (by exact opd_eql rfl rfl rfl) ?_
    refine al_d rfl rfl rfl (by exact opd_assign rfl rfl) ?_
    refine al_nil ?_
    refine awp_cond rfl (fun hc2 => ?_) (fun hc2 => ?_)
    -- cond 2
    · have hk : k = 2 := by have := of_decide_eq_true hc2; omega
      subst hk
      refine awp_seq ?_
      refine awp_region ?_
      refine al_d rfl rfl rfl (by exact (by exact opd_loadn_ref rfl Tryz.isAgg24 Tryz.sizeOf24 rfl rfl rfl rfl (by simp only [List.drop_succ_cons, List.drop_zero, List.take_succ_cons, List.take_zero, List.take_nil, List.map_cons, List.map_nil, List.set_cons_zero, List.set_cons_succ, List.cons_append, List.nil_append, encTag, encObj, encStr, encEdit, encInt]; rfl) rfl)) ?_
      refine al_d rfl rfl rfl (by exact (by exact opd_field_ref rfl fo44_1 rfl rfl rfl rfl)) ?_
      refine al_d rfl rfl rfl (by exact (by exact opd_load1_ref rfl Tryz.isAgg9 rfl rfl rfl rfl rfl)) ?_
      refine al_d rfl rfl rfl (by exact opr_call rfl rfl Tryz.call164 rfl (rOld_c m e.id _ hm.1)) ?_
      refine al_d rfl rfl rfl (by exact opd_move rfl rfl) ?_
      refine al_d rfl rfl rfl (by exact opd_extract rfl rfl rfl) ?_
      refine al_d rfl rfl rfl (by exact opd_extract rfl rfl rfl) ?_
      refine al_d rfl rfl rfl (by exact x_alloc (id := 9) rfl zo42 rfl rfl) ?_
      refine al_n rfl rfl (by exact (by exact x_store_all rfl Tryz.sizeOf42 rfl rfl rfl rfl rfl rfl rfl rfl)) ?_
      refine al_d rfl rfl rfl (by exact opd_assign rfl rfl) ?_
      refine al_nil ?_
      refine awp_seq ?_
      refine awp_region ?_
      refine al_d rfl rfl rfl (by exact (by exact opd_field_ref rfl fo42_4 rfl rfl rfl rfl)) ?_
      refine al_d rfl rfl rfl (by exact (by exact opd_load1_ref rfl Tryz.isAgg40 rfl rfl rfl rfl rfl)) ?_
      refine al_d rfl rfl rfl (by exact opr_call rfl rfl Tryz.call97 rfl (rGet_c (obOf m e.id).tags sName _ (obOf_ok hm e.id).2.1.1)) ?_
      refine al_d rfl rfl rfl (by exact opd_move rfl rfl) ?_
      refine al_d rfl rfl rfl (by exact opd_extract rfl rfl rfl) ?_
      refine al_d rfl rfl rfl (by exact opd_extract rfl rfl rfl) ?_
      refine al_d rfl rfl rfl (by exact opd_assign rfl rfl) ?_
      refine al_d rfl rfl rfl (by exact opd_assign rfl rfl) ?_
      refine al_nil ?_
      refine awp_seq ?_
      refine awp_bool (t := 6) (n := 20) (X := eShows 2 m e) ?_ ?_
      · all_goals (refine al_d rfl rfl rfl (by exact (by exact opd_field_ref rfl fo44_0 rfl rfl rfl rfl)) ?_)
        all_goals (refine al_d rfl rfl rfl (by exact (by exact opd_load1_ref rfl Tryz.isAgg3 rfl rfl rfl rfl rfl)) ?_)
        all_goals (refine al_d rfl rfl rfl (by exact opd_eql rfl rfl rfl) ?_)
        all_goals (refine al_d rfl rfl rfl (by exact opd_move rfl rfl) ?_)
        all_goals (refine al_split (t := 49) rfl (fun h49 => ?_) (fun h49 => ?_))
        all_goals (try contradiction)
        all_goals (first | refine al_off rfl rfl rfl rfl rfl ?_ | refine al_ond rfl rfl rfl rfl rfl rfl (by exact (by exact opd_field_ref rfl fo44_5 rfl rfl rfl rfl)) ?_)
        all_goals (first | refine al_off rfl rfl rfl rfl rfl ?_ | refine al_ond rfl rfl rfl rfl rfl rfl (by exact (by exact opd_load1_ref rfl Tryz.isAgg9 rfl rfl rfl rfl rfl)) ?_)
        all_goals (first | refine al_off rfl rfl rfl rfl rfl ?_ | refine al_ond rfl rfl rfl rfl rfl rfl (by exact opd_seql rfl rfl rfl) ?_)
        all_goals (refine al_d rfl rfl rfl (by exact (by first | exact opd_pick_t rfl rfl rfl | exact opd_pick_f rfl rfl rfl)) ?_)
        all_goals (refine al_d rfl rfl rfl (by exact opd_move rfl rfl) ?_)
        all_goals (refine al_split (t := 54) rfl (fun h54 => ?_) (fun h54 => ?_))
        all_goals (try contradiction)
        all_goals (first | refine al_off rfl rfl rfl rfl rfl ?_ | refine al_ond rfl rfl rfl rfl rfl rfl (by exact (by exact opd_field_ref rfl fo44_6 rfl rfl rfl rfl)) ?_)
        all_goals (first | refine al_off rfl rfl rfl rfl rfl ?_ | refine al_ond rfl rfl rfl rfl rfl rfl (by exact (by exact opd_load1_ref rfl Tryz.isAgg9 rfl rfl rfl rfl rfl)) ?_)
        all_goals (first | refine al_off rfl rfl rfl rfl rfl ?_ | refine al_ond rfl rfl rfl rfl rfl rfl (by exact opd_seql rfl rfl rfl) ?_)
        all_goals (refine al_d rfl rfl rfl (by exact (by first | exact opd_pick_t rfl rfl rfl | exact opd_pick_f rfl rfl rfl)) ?_)
        all_goals (refine al_d rfl rfl rfl (by exact opd_move rfl rfl) ?_)
        all_goals (refine al_split (t := 59) rfl (fun h59 => ?_) (fun h59 => ?_))
        all_goals (try contradiction)
        all_goals (first | refine al_off rfl rfl rfl rfl rfl ?_ | refine al_ond rfl rfl rfl rfl rfl rfl (by exact opd_move rfl rfl) ?_)
        all_goals (refine al_d rfl rfl rfl (by exact (by first | exact opd_pick_t rfl rfl rfl | exact opd_pick_f rfl rfl rfl)) ?_)
        all_goals (refine al_d rfl rfl rfl (by exact opd_assign rfl rfl) ?_)
        all_goals (refine al_nil ?_)
        all_goals (exact ⟨⟨_, rfl, by (simp only [eShows, *]; rfl)⟩, rfl, rfl, rfl⟩)
      refine awp_ret ?_
      -- return
      refine aret1 (H' := []) (by exact .inr rfl) rfl (rval_tmp rfl) (Fin.wk (by simp) trivial trivial) ?_
      exact ⟨rfl, rfl⟩
    · have hk2 : ¬ k = 2 := by have := of_decide_eq_false hc2; omega
      refine awp_seq ?_
      refine awp_region ?_
      refine al_d rfl rfl rfl (by exact opd_eql rfl rfl rfl) ?_
      refine al_d rfl rfl rfl (by exact opd_assign rfl rfl) ?_
      refine al_nil ?_
      refine awp_cond rfl (fun hc3 => ?_) (fun hc3 => ?_)
      -- cond 3
      · have hk : k = 3 := by have := of_decide_eq_true hc3; omega
        subst hk
        refine awp_seq ?_
        refine awp_region ?_
        refine al_d rfl rfl rfl (by exact (by exact opd_loadn_ref rfl Tryz.isAgg24 Tryz.sizeOf24 rfl rfl rfl rfl (by simp only [List.drop_succ_cons, List.drop_zero, List.take_succ_cons, List.take_zero, List.take_nil, List.map_cons, List.map_nil, List.set_cons_zero, List.set_cons_succ, List.cons_append, List.nil_append, encTag, encObj, encStr, encEdit, encInt]; rfl) rfl)) ?_
        refine al_d rfl rfl rfl (by exact (by exact opd_field_ref rfl fo44_1 rfl rfl rfl rfl)) ?_
        refine al_d rfl rfl rfl (by exact (by exact opd_load1_ref rfl Tryz.isAgg9 rfl rfl rfl rfl rfl)) ?_
        refine al_d rfl rfl rfl (by exact opr_call rfl rfl Tryz.call164 rfl (rOld_c m e.id _ hm.1)) ?_
        refine al_d rfl rfl rfl (by exact opd_move rfl rfl) ?_
        refine al_d rfl rfl rfl (by exact opd_extract rfl rfl rfl) ?_
        refine al_d rfl rfl rfl (by exact opd_extract rfl rfl rfl) ?_
        refine al_d rfl rfl rfl (by exact x_alloc (id := 13) rfl zo42 rfl rfl) ?_
        refine al_n rfl rfl (by exact (by exact x_store_all rfl Tryz.sizeOf42 rfl rfl rfl rfl rfl rfl rfl rfl)) ?_
        refine al_d rfl rfl rfl (by exact opd_assign rfl rfl) ?_
        refine al_nil ?_
        refine awp_seq ?_
        refine awp_bool (t := 6) (n := 23) (X := eShows 3 m e) ?_ ?_
        · all_goals (refine al_d rfl rfl rfl (by exact (by exact opd_field_ref rfl fo44_0 rfl rfl rfl rfl)) ?_)
          all_goals (refine al_d rfl rfl rfl (by exact (by exact opd_load1_ref rfl Tryz.isAgg3 rfl rfl rfl rfl rfl)) ?_)
          all_goals (refine al_d rfl rfl rfl (by exact opd_eql rfl rfl rfl) ?_)
          all_goals (refine al_d rfl rfl rfl (by exact opd_move rfl rfl) ?_)
          all_goals (refine al_split (t := 74) rfl (fun h74 => ?_) (fun h74 => ?_))
          all_goals (try contradiction)
          all_goals (first | refine al_off rfl rfl rfl rfl rfl ?_ | refine al_ond rfl rfl rfl rfl rfl rfl (by exact opd_move rfl rfl) ?_)
          all_goals (refine al_d rfl rfl rfl (by exact (by first | exact opd_pick_t rfl rfl rfl | exact opd_pick_f rfl rfl rfl)) ?_)
          all_goals (refine al_d rfl rfl rfl (by exact opd_move rfl rfl) ?_)
          all_goals (refine al_split (t := 77) rfl (fun h77 => ?_) (fun h77 => ?_))
          all_goals (try contradiction)
          all_goals (first | refine al_off rfl rfl rfl rfl rfl ?_ | refine al_ond rfl rfl rfl rfl rfl rfl (by exact (by exact opd_field_ref rfl fo42_1 rfl rfl rfl rfl)) ?_)
          all_goals (first | refine al_off rfl rfl rfl rfl rfl ?_ | refine al_ond rfl rfl rfl rfl rfl rfl (by exact (by exact opd_load1_ref rfl Tryz.isAgg3 rfl rfl rfl rfl rfl)) ?_)
          all_goals (first | refine al_off rfl rfl rfl rfl rfl ?_ | refine al_ond rfl rfl rfl rfl rfl rfl (by exact opd_eql rfl rfl rfl) ?_)
          all_goals (refine al_d rfl rfl rfl (by exact (by first | exact opd_pick_t rfl rfl rfl | exact opd_pick_f rfl rfl rfl)) ?_)
          all_goals (refine al_d rfl rfl rfl (by exact opd_move rfl rfl) ?_)
          all_goals (refine al_split (t := 82) rfl (fun h82 => ?_) (fun h82 => ?_))
          all_goals (try contradiction)
          all_goals (first | refine al_off rfl rfl rfl rfl rfl ?_ | refine al_ond rfl rfl rfl rfl rfl rfl (by exact (by exact opd_field_ref rfl fo42_2 rfl rfl rfl rfl)) ?_)
          all_goals (first | refine al_off rfl rfl rfl rfl rfl ?_ | refine al_ond rfl rfl rfl rfl rfl rfl (by exact (by exact opd_loadn_ref rfl Tryz.isAgg38 Tryz.sizeOf38 rfl rfl rfl rfl (by simp only [List.drop_succ_cons, List.drop_zero, List.take_succ_cons, List.take_zero, List.take_nil, List.map_cons, List.map_nil, List.set_cons_zero, List.set_cons_succ, List.cons_append, List.nil_append, encTag, encObj, encStr, encEdit, encInt]; rfl) rfl)) ?_)
          all_goals (first | refine al_off rfl rfl rfl rfl rfl ?_ | refine al_ond rfl rfl rfl rfl rfl rfl (by exact (by exact opd_field_ref rfl fo44_4 rfl rfl rfl rfl)) ?_)
          all_goals (first | refine al_off rfl rfl rfl rfl rfl ?_ | refine al_ond rfl rfl rfl rfl rfl rfl (by exact (by exact opd_loadn_ref rfl Tryz.isAgg38 Tryz.sizeOf38 rfl rfl rfl rfl (by simp only [List.drop_succ_cons, List.drop_zero, List.take_succ_cons, List.take_zero, List.take_nil, List.map_cons, List.map_nil, List.set_cons_zero, List.set_cons_succ, List.cons_append, List.nil_append, encTag, encObj, encStr, encEdit, encInt]; rfl) rfl)) ?_)
          all_goals (first | refine al_off rfl rfl rfl rfl rfl ?_ | refine al_ond rfl rfl rfl rfl rfl rfl (by exact opr_call rfl rfl Tryz.call165 rfl (rDist_c (obOf m e.id).x (obOf m e.id).y e.x e.y _)) ?_)
          all_goals (first | refine al_off rfl rfl rfl rfl rfl ?_ | refine al_ond rfl rfl rfl rfl rfl rfl (by exact opd_geq rfl rfl rfl) ?_)
          all_goals (refine al_d rfl rfl rfl (by exact (by first | exact opd_pick_t rfl rfl rfl | exact opd_pick_f rfl rfl rfl)) ?_)
          all_goals (refine al_d rfl rfl rfl (by exact opd_assign rfl rfl) ?_)
          all_goals (refine al_nil ?_)
          all_goals (exact ⟨⟨_, rfl, by (simp only [eShows, *]; rfl)⟩, rfl, rfl, rfl⟩)
        refine awp_ret ?_
        -- return
        refine aret1 (H' := []) (by exact .inr rfl) rfl (rval_tmp rfl) (Fin.wk (by simp) trivial trivial) ?_
        exact ⟨rfl, rfl⟩
      · have hk3 : ¬ k = 3 := by have := of_decide_eq_false hc3; omega
        refine awp_seq ?_
        refine awp_region ?_
        refine al_d rfl rfl rfl (by exact opd_eql rfl rfl rfl) ?_
        refine al_d rfl rfl rfl (by exact opd_assign rfl rfl) ?_
        refine al_nil ?_
        refine awp_cond rfl (fun hc4 => ?_) (fun hc4 => ?_)
        -- cond 4
        · have hk : k = 4 := by have := of_decide_eq_true hc4; omega
          subst hk
          refine awp_seq ?_
          refine awp_bool (t := 6) (n := 11) (X := eShows 4 m e) ?_ ?_
          · all_goals (refine al_d rfl rfl rfl (by exact (by exact opd_field_ref rfl fo44_0 rfl rfl rfl rfl)) ?_)
            all_goals (refine al_d rfl rfl rfl (by exact (by exact opd_load1_ref rfl Tryz.isAgg3 rfl rfl rfl rfl rfl)) ?_)
            all_goals (refine al_d rfl rfl rfl (by exact opd_eql rfl rfl rfl) ?_)
            all_goals (refine al_d rfl rfl rfl (by exact opd_move rfl rfl) ?_)
            all_goals (refine al_split (t := 95) rfl (fun h95 => ?_) (fun h95 => ?_))
            all_goals (try contradiction)
            all_goals (first | refine al_off rfl rfl rfl rfl rfl ?_ | refine al_ond rfl rfl rfl rfl rfl rfl (by exact (by exact opd_field_ref rfl fo44_8 rfl rfl rfl rfl)) ?_)
            all_goals (first | refine al_off rfl rfl rfl rfl rfl ?_ | refine al_ond rfl rfl rfl rfl rfl rfl (by exact (by exact opd_field_ref rfl fo42_1 rfl rfl rfl rfl)) ?_)
            all_goals (first | refine al_off rfl rfl rfl rfl rfl ?_ | refine al_ond rfl rfl rfl rfl rfl rfl (by exact (by exact opd_load1_ref rfl Tryz.isAgg3 rfl rfl rfl rfl rfl)) ?_)
            all_goals (first | refine al_off rfl rfl rfl rfl rfl ?_ | refine al_ond rfl rfl rfl rfl rfl rfl (by exact opd_eql rfl rfl rfl) ?_)
            all_goals (refine al_d rfl rfl rfl (by exact (by first | exact opd_pick_t rfl rfl rfl | exact opd_pick_f rfl rfl rfl)) ?_)
            all_goals (refine al_d rfl rfl rfl (by exact opd_assign rfl rfl) ?_)
            all_goals (refine al_nil ?_)
            all_goals (exact ⟨⟨_, rfl, by (simp only [eShows, *]; rfl)⟩, rfl, rfl, rfl⟩)
          refine awp_ret ?_
          -- return
          refine aret1 (H' := []) (by exact .inr rfl) rfl (rval_tmp rfl) (Fin.wk (by simp) trivial trivial) ?_
          exact ⟨rfl, rfl⟩
        · have := of_decide_eq_false hc4
          omega
def noId (o : GObj) : GObj := ⟨sNil, o.kind, o.x, o.y, o.refs, o.tags⟩
def rFit (k : Nat) (a b : GEdit) : Bool := if k = 4 then !decide (a.obj.id = b.obj.id) && gSameO (noId a.obj) (noId b.obj) else !decide (a.id = b.id)
theorem rFit_c (k : Nat) (a b : GEdit) (H : Heap) (ha : a.obj.refs.length < 4611686018427387904) (ha2 : a.obj.tags.length < 4611686018427387904) : ACalls Tryz.prog 118 [av (encEdit a), av (encEdit b), iv (k : Int)] H (fun r H' => r = bv (rFit k a b) ∧ H' = H) := by
  refine ACalls.pure ?_ (by simp) H
  refine ACalls.body Tryz.func118 rfl Tryz.ntmps118 (Nat.le_of_ble_eq_true rfl) ?_
  refine awp_seq ?_
  refine awp_region ?_
  refine al_d rfl rfl rfl (by exact opd_box (id := 3) rfl rfl rfl rfl rfl) ?_
  refine al_d rfl rfl rfl (by exact opd_box (id := 4) rfl rfl rfl rfl rfl) ?_
  refine al_d rfl rfl rfl (by exact opd_assign rfl rfl) ?_
  refine al_nil ?_
  refine awp_seq ?_
  refine awp_seq ?_
  refine awp_region ?_
  refine al_d rfl rfl rfl (by exact opd_move rfl rfl) ?_
  refine al_d rfl rfl rfl (by exact opd_neq rfl rfl rfl) ?_
  refine al_nil ?_
  refine awp_cond rfl (fun hc1 => ?_) (fun hc1 => ?_)
  -- cond 1
  · have hk : ¬ k = 4 := by
      have h : (!decide ((k : Int) = 4)) = true := hc1
      simp at h
      omega
    refine awp_seq ?_
    refine awp_region ?_
    refine al_d rfl rfl rfl (by exact (by exact opd_field_ref rfl fo44_1 rfl rfl rfl rfl)) ?_
    refine al_d rfl rfl rfl (by exact (by exact opd_load1_ref rfl Tryz.isAgg9 rfl rfl rfl rfl rfl)) ?_
    refine al_d rfl rfl rfl (by exact (by exact opd_field_ref rfl fo44_1 rfl rfl rfl rfl)) ?_
    refine al_d rfl rfl rfl (by exact (by exact opd_load1_ref rfl Tryz.isAgg9 rfl rfl rfl rfl rfl)) ?_
    refine al_d rfl rfl rfl (by exact opd_sneq rfl rfl rfl) ?_
    refine al_d rfl rfl rfl (by exact opd_assign rfl rfl) ?_
    refine al_nil ?_
    refine awp_ret ?_
    -- return
    refine aret1 (H' := []) (by exact .inr rfl) rfl (rval_tmp rfl) (Fin.wk (by simp) trivial trivial) ?_
    exact ⟨by rw [rFit, if_neg hk], rfl⟩
  · have hk : k = 4 := by
      have h : (!decide ((k : Int) = 4)) = false := hc1
      simp at h
      omega
    refine awp_skip ?_
    refine awp_seq ?_
    refine awp_region ?_
    refine al_d rfl rfl rfl (by exact (by exact opd_field_ref rfl fo44_8 rfl rfl rfl rfl)) ?_
    refine al_d rfl rfl rfl (by exact (by exact opd_loadn_ref rfl Tryz.isAgg42 Tryz.sizeOf42 rfl rfl rfl rfl (by simp only [List.drop_succ_cons, List.drop_zero, List.take_succ_cons, List.take_zero, List.take_nil, List.map_cons, List.map_nil, List.set_cons_zero, List.set_cons_succ, List.cons_append, List.nil_append, encTag, encObj, encStr, encEdit, encInt]; rfl) rfl)) ?_
    refine al_d rfl rfl rfl (by exact x_alloc (id := 7) rfl zo42 rfl rfl) ?_
    refine al_n rfl rfl (by exact (by exact x_store_all rfl Tryz.sizeOf42 rfl rfl rfl rfl rfl rfl rfl rfl)) ?_
    refine al_nil ?_
    refine awp_seq ?_
    refine awp_region ?_
    refine al_d rfl rfl rfl (by exact (by exact opd_field_ref rfl fo44_8 rfl rfl rfl rfl)) ?_
    refine al_d rfl rfl rfl (by exact (by exact opd_loadn_ref rfl Tryz.isAgg42 Tryz.sizeOf42 rfl rfl rfl rfl (by simp only [List.drop_succ_cons, List.drop_zero, List.take_succ_cons, List.take_zero, List.take_nil, List.map_cons, List.map_nil, List.set_cons_zero, List.set_cons_succ, List.cons_append, List.nil_append, encTag, encObj, encStr, encEdit, encInt]; rfl) rfl)) ?_
    refine al_d rfl rfl rfl (by exact x_alloc (id := 8) rfl zo42 rfl rfl) ?_
    refine al_n rfl rfl (by exact (by exact x_store_all rfl Tryz.sizeOf42 rfl rfl rfl rfl rfl rfl rfl rfl)) ?_
    refine al_nil ?_
    refine awp_seq ?_
    refine awp_region ?_
    refine al_d rfl rfl rfl (by exact (by exact opd_field_ref rfl fo42_0 rfl rfl rfl rfl)) ?_
    refine al_n rfl rfl (by exact (by exact x_store1 rfl Tryz.sizeOf9 rfl rfl rfl rfl rfl rfl (Nat.le_of_ble_eq_true rfl) rfl rfl)) ?_
    refine al_nil ?_
    refine awp_seq ?_
    refine awp_region ?_
    refine al_d rfl rfl rfl (by exact (by exact opd_field_ref rfl fo42_0 rfl rfl rfl rfl)) ?_
    refine al_n rfl rfl (by exact (by exact x_store1 rfl Tryz.sizeOf9 rfl rfl rfl rfl rfl rfl (Nat.le_of_ble_eq_true rfl) rfl rfl)) ?_
    refine al_nil ?_
    refine awp_seq ?_
    refine awp_bool (t := 6) (n := 14) (X := !decide (a.obj.id = b.obj.id) && gSameO (noId a.obj) (noId b.obj)) ?_ ?_
    · all_goals (refine al_d rfl rfl rfl (by exact (by exact opd_field_ref rfl fo44_8 rfl rfl rfl rfl)) ?_)
      all_goals (refine al_d rfl rfl rfl (by exact (by exact opd_field_ref rfl fo42_0 rfl rfl rfl rfl)) ?_)
      all_goals (refine al_d rfl rfl rfl (by exact (by exact opd_load1_ref rfl Tryz.isAgg9 rfl rfl rfl rfl rfl)) ?_)
      all_goals (refine al_d rfl rfl rfl (by exact (by exact opd_field_ref rfl fo44_8 rfl rfl rfl rfl)) ?_)
      all_goals (refine al_d rfl rfl rfl (by exact (by exact opd_field_ref rfl fo42_0 rfl rfl rfl rfl)) ?_)
      all_goals (refine al_d rfl rfl rfl (by exact (by exact opd_load1_ref rfl Tryz.isAgg9 rfl rfl rfl rfl rfl)) ?_)
      all_goals (refine al_d rfl rfl rfl (by exact opd_sneq rfl rfl rfl) ?_)
      all_goals (refine al_d rfl rfl rfl (by exact opd_move rfl rfl) ?_)
      all_goals (refine al_split (t := 29) rfl (fun h29 => ?_) (fun h29 => ?_))
      all_goals (try contradiction)
      all_goals (first | refine al_off rfl rfl rfl rfl rfl ?_ | refine al_ond rfl rfl rfl rfl rfl rfl (by exact (by exact opd_loadn_ref rfl Tryz.isAgg42 Tryz.sizeOf42 rfl rfl rfl rfl (by simp only [List.drop_succ_cons, List.drop_zero, List.take_succ_cons, List.take_zero, List.take_nil, List.map_cons, List.map_nil, List.set_cons_zero, List.set_cons_succ, List.cons_append, List.nil_append, encTag, encObj, encStr, encEdit, encInt]; rfl) rfl)) ?_)
      all_goals (first | refine al_off rfl rfl rfl rfl rfl ?_ | refine al_ond rfl rfl rfl rfl rfl rfl (by exact (by exact opd_loadn_ref rfl Tryz.isAgg42 Tryz.sizeOf42 rfl rfl rfl rfl (by simp only [List.drop_succ_cons, List.drop_zero, List.take_succ_cons, List.take_zero, List.take_nil, List.map_cons, List.map_nil, List.set_cons_zero, List.set_cons_succ, List.cons_append, List.nil_append, encTag, encObj, encStr, encEdit, encInt]; rfl) rfl)) ?_)
      all_goals (first | refine al_off rfl rfl rfl rfl rfl ?_ | refine al_ond rfl rfl rfl rfl rfl rfl (by exact opr_call rfl rfl Tryz.call85 rfl (rSame_c (noId a.obj) (noId b.obj) _ ha ha2)) ?_)
      all_goals (refine al_d rfl rfl rfl (by exact (by first | exact opd_pick_t rfl rfl rfl | exact opd_pick_f rfl rfl rfl)) ?_)
      all_goals (refine al_d rfl rfl rfl (by exact opd_assign rfl rfl) ?_)
      all_goals (refine al_nil ?_)
      all_goals (exact ⟨⟨_, rfl, by (simp only [*, Bool.false_and, Bool.true_and, Bool.and_false, Bool.and_true, Bool.true_or, Bool.false_or, Bool.or_true, Bool.or_false, Bool.not_true, Bool.not_false]; done)⟩, rfl, rfl, rfl⟩)
    refine awp_ret ?_
    -- return
    refine aret1 (H' := []) (by exact .inr rfl) rfl (rval_tmp rfl) (Fin.wk (by simp) trivial trivial) ?_
    exact ⟨by rw [rFit, if_pos hk], rfl⟩
theorem any_snoc {α : Type} (f : α → Bool) {l : List α} {q : Nat} {y : α} (h : l[q]? = some y) : (l.take (q + 1)).any f = ((l.take q).any f || f y) := by
  rw [List.take_add_one, h, List.any_append]; simp
def rFirst (S : GEdit → Bool) (T : GEdit → GEdit → Bool) (l : List GEdit) (frm n : Nat) (x0 : GEdit) : List Nat := if S x0 then gr S T (l.drop frm) frm n [] else []
theorem rFirst_c (k : Nat) (m : List GObj) (l : List GEdit) (frm : Nat) (x0 : GEdit) (H : Heap) (hm : okM m) (hl : l.length < 1099511627776) (hfx : l[frm]? = some x0) (hts : ∀ e ∈ l, e.obj.refs.length < 4611686018427387904 ∧ e.obj.tags.length < 4611686018427387904) (h1 : 1 ≤ k) (h4 : k ≤ 4) :
    ACalls Tryz.prog 62 [.agg [.pv (slObjs m)], .pv (slEdits l), iv (k : Int), iv (frm : Int)] H (fun r H' => r = .pv (slInts (toI (rFirst (eShows k m) (rFit k) l frm (nMany k) x0))) ∧ H' = H) := by
  refine ACalls.pure ?_ (by simp) H
  obtain ⟨S, hS⟩ : ∃ S : GEdit → Bool, S = eShows k m := ⟨_, rfl⟩
  obtain ⟨T, hT⟩ : ∃ T : GEdit → GEdit → Bool, T = rFit k := ⟨_, rfl⟩
  obtain ⟨n, hn⟩ : ∃ n : Nat, n = nMany k := ⟨_, rfl⟩
  have hn5 := (nMany_pos k).2
  rw [← hn] at hn5
  have hml : (l.map encEdit).length = l.length := List.length_map _
  have hfl := (List.getElem?_eq_some_iff.1 hfx).1
  rw [← hS, ← hT, ← hn]
  have hMany := fun H => rMany_c k H h1 h4
  rw [← hn] at hMany
  refine ACalls.body Tryz.func62 rfl Tryz.ntmps62 (Nat.le_of_ble_eq_true rfl) ?_
  refine awp_seq ?_
  refine awp_region ?_
  refine al_d rfl rfl rfl (by exact opd_box (id := 4) rfl rfl rfl rfl rfl) ?_
  refine al_d rfl rfl rfl (by exact opd_assign rfl rfl) ?_
  refine al_nil ?_
  refine awp_seq ?_
  refine awp_region ?_
  refine al_d rfl rfl rfl (by exact opd_assign_own (id := 9) (sz := 1) (ty := 3) rfl rfl rfl) ?_
  refine al_nil ?_
  refine awp_seq ?_
  refine awp_seq ?_
  refine awp_region ?_
  refine al_d rfl rfl rfl (by exact opd_move rfl rfl) ?_
  refine al_d rfl rfl rfl (by exact opd_assign rfl rfl) ?_
  refine al_nil ?_
  refine awp_block ?_
  -- loop
  refine awp_loop4 (fun (i : Nat) (outs : List Nat) (tk : List GEdit) (g : Nat) => ([(1, .pv (slEdits l)), (2, iv (k : Int)), (3, iv (frm : Int)), (4, .ref 4 0 0 0), (9, .osl 9 g 0 outs.length), (10, iv (i : Int))], [(9, ⟨g, 1, 3, inRows (toI outs)⟩), (4, bx 1 24 [.pv (slObjs m)])]))
    (fun i outs tk g => (i ≤ l.length ∧ frm ≤ i ∧ outs.length = tk.length ∧ outs.length ≤ n) ∧ (∀ (q p : Nat), outs[q]? = some p → ∃ y, l[p]? = some y ∧ tk[q]? = some y) ∧ (i = frm → outs = []) ∧ (frm < i → S x0 = true) ∧ gr S T (l.drop frm) frm n [] = outs ++ gr S T (l.drop i) i (n - outs.length) tk) (fun i _ _ _ => l.length - i) frm [] [] 0
    ⟨⟨by omega, by omega, rfl, by simp⟩, fun q p h => by simp at h, fun _ => rfl, fun h => absurd h (by omega), by simp⟩ ?_ ?_
  · exact (Ent.wk ⟨⟨_, rfl, rfl⟩, (by (simp; done)), ⟨_, rfl, rfl⟩, (by (simp; done)), ⟨_, rfl, rfl⟩, (by (simp; done)), ⟨_, rfl, rfl⟩, (by (simp; rfl)), ⟨_, rfl, rfl⟩, (by (simp; rfl)), ⟨_, rfl, rfl⟩, (by (simp; done)), trivial⟩ ⟨⟨_, rfl, rfl⟩, (by (simp; done)), ⟨_, rfl, rfl⟩, (by (simp; done)), trivial⟩ trivial)
  · rintro i outs tk g ⟨⟨hi, hfi, hlen, hon⟩, hget, hi0, hi1, hinv⟩
    refine awp_seq ?_
    refine awp_seq ?_
    refine awp_bool (t := 24) (n := 12) (X := decide ((i : Int) < ((l.map encEdit).length : Int)) && decide ((outs.length : Int) < (n : Int))) ?_ ?_
    · all_goals (refine al_d rfl rfl rfl (by exact opd_move rfl rfl) ?_)
      all_goals (refine al_d rfl rfl rfl (by exact opd_move rfl rfl) ?_)
      all_goals (refine al_d rfl rfl rfl (by exact (by exact opd_len_sl rfl Tryz.underlying25 rfl)) ?_)
      all_goals (refine al_d rfl rfl rfl (by exact opd_lss rfl rfl rfl) ?_)
      all_goals (refine al_d rfl rfl rfl (by exact opd_move rfl rfl) ?_)
      all_goals (refine al_split (t := 18) rfl (fun h18 => ?_) (fun h18 => ?_))
      all_goals (try contradiction)
      all_goals (first | refine al_off rfl rfl rfl rfl rfl ?_ | refine al_ond rfl rfl rfl rfl rfl rfl (by exact opd_move rfl rfl) ?_)
      all_goals (first | refine al_off rfl rfl rfl rfl rfl ?_ | refine al_ond rfl rfl rfl rfl rfl rfl (by exact (by exact opd_len_osl rfl Tryz.underlying29 rfl rfl rfl)) ?_)
      all_goals (first | refine al_off rfl rfl rfl rfl rfl ?_ | refine al_ond rfl rfl rfl rfl rfl rfl (by exact opd_move rfl rfl) ?_)
      all_goals (first | refine al_off rfl rfl rfl rfl rfl ?_ | refine al_ond rfl rfl rfl rfl rfl rfl (by exact opr_call rfl rfl Tryz.call116 rfl (hMany _)) ?_)
      all_goals (first | refine al_off rfl rfl rfl rfl rfl ?_ | refine al_ond rfl rfl rfl rfl rfl rfl (by exact opd_lss rfl rfl rfl) ?_)
      all_goals (refine al_d rfl rfl rfl (by exact (by first | exact opd_pick_t rfl rfl rfl | exact opd_pick_f rfl rfl rfl)) ?_)
      all_goals (refine al_nil ?_)
      all_goals (exact ⟨⟨_, rfl, by first | (simp_all; done) | (simp_all; omega)⟩, rfl, rfl, rfl⟩)
    refine awp_cond rfl (fun hc1 => ?_) (fun hc1 => ?_)
    -- cond 1
    · have hlt : i < l.length ∧ outs.length < n := by
        simp only [Bool.and_eq_true, decide_eq_true_eq, hml] at hc1
        omega
      obtain ⟨x, hx⟩ := get_of_lt hlt.1
      have hxi := map_get (f := encEdit) hx
      have hdr : l.drop i = x :: l.drop (i + 1) := by
        obtain ⟨hl1, he1⟩ := List.getElem?_eq_some_iff.1 hx
        rw [List.drop_eq_getElem_cons hl1, he1]
      obtain ⟨d, hd⟩ : ∃ d, n - outs.length = d + 1 := ⟨n - outs.length - 1, by omega⟩
      rw [hdr, hd, gr] at hinv
      have hShow := fun H => rShows_c k m x H hm h1 h4
      rw [← hS] at hShow
      refine awp_skip ?_
      refine awp_seq ?_
      refine awp_block ?_
      refine awp_seq ?_
      refine awp_drawc follows ?_
      refine dc_cons (DStep.q rfl (by exact (by exact opd_loadn_ref rfl Tryz.isAgg24 Tryz.sizeOf24 rfl rfl rfl rfl (by simp only [List.drop_succ_cons, List.drop_zero, List.take_succ_cons, List.take_zero, List.take_nil, List.map_cons, List.map_nil, List.set_cons_zero, List.set_cons_succ, List.cons_append, List.nil_append, encTag, encObj, encStr, encEdit, encInt]; rfl) rfl))) rfl ?_
      refine dc_cons (DStep.q rfl (by exact opd_move rfl rfl)) rfl ?_
      refine dc_cons (DStep.q rfl (by exact opd_move rfl rfl)) rfl ?_
      refine dc_cons (DStep.q rfl (by exact (by exact x_index_pad rfl so25 rfl rfl (by omega) (by exact Int.toNat_natCast _) (by assumption) rfl))) rfl ?_
      refine dc_cons (DStep.q rfl (by exact (by exact opd_loadn_pad rfl Tryz.isAgg44 Tryz.sizeOf44 rfl (by omega) (by simp only [List.drop_succ_cons, List.drop_zero, List.take_succ_cons, List.take_zero, List.take_nil, List.map_cons, List.map_nil, List.set_cons_zero, List.set_cons_succ, List.cons_append, List.nil_append, encTag, encObj, encStr, encEdit, encInt]; rfl) rfl))) rfl ?_
      refine dc_cons (DStep.q rfl (by exact opd_move rfl rfl)) rfl ?_
      refine dc_cons (DStep.q rfl (by exact opr_call rfl rfl Tryz.call117 rfl (hShow _))) rfl ?_
      refine dc_cons (DStep.q rfl (by exact opd_assign rfl rfl)) rfl ?_
      refine dc_nil ⟨by kernel_rfl, ?_⟩
      refine awp_seq ?_
      refine awp_seq ?_
      refine awp_region ?_
      refine al_d rfl rfl rfl (by exact opd_assign rfl rfl) ?_
      refine al_nil ?_
      refine awp_block ?_
      -- loop
      refine awp_loop (σ := Nat) (fun q => ([(1, .pv (slEdits l)), (2, iv (k : Int)), (3, iv (frm : Int)), (4, .ref 4 0 0 0), (9, .osl 9 g 0 outs.length), (10, iv (i : Int)), (11, bv (S x && !((tk.take q).any fun y => !T y x))), (12, iv (q : Int))], [(9, ⟨g, 1, 3, inRows (toI outs)⟩), (4, bx 1 24 [.pv (slObjs m)])])) (fun q => q ≤ outs.length) (fun q => outs.length - q) 0 (by omega) ?_ ?_
      · rw [show (S x && !((tk.take 0).any fun y => !T y x)) = S x by simp]
        exact (Ent.wk ⟨⟨_, rfl, rfl⟩, (by (simp; done)), ⟨_, rfl, rfl⟩, (by (simp; done)), ⟨_, rfl, rfl⟩, (by (simp; done)), ⟨_, rfl, rfl⟩, (by (simp; rfl)), ⟨_, rfl, rfl⟩, (by (simp; rfl)), ⟨_, rfl, rfl⟩, (by (simp; done)), ⟨_, rfl, rfl⟩, (by (simp; done)), ⟨_, rfl, rfl⟩, (by (simp; done)), trivial⟩ ⟨⟨_, rfl, rfl⟩, (by (simp; done)), ⟨_, rfl, rfl⟩, (by (simp; done)), trivial⟩ trivial)
      · intro q hq
        refine awp_seq ?_
        refine awp_seq ?_
        refine awp_region ?_
        refine al_d rfl rfl rfl (by exact opd_move rfl rfl) ?_
        refine al_d rfl rfl rfl (by exact opd_move rfl rfl) ?_
        refine al_d rfl rfl rfl (by exact (by exact opd_len_osl rfl Tryz.underlying29 rfl rfl rfl)) ?_
        refine al_d rfl rfl rfl (by exact opd_lss rfl rfl rfl) ?_
        refine al_nil ?_
        refine awp_cond rfl (fun hc2 => ?_) (fun hc2 => ?_)
        -- cond 2
        · have hql : q < outs.length := by have := of_decide_eq_true hc2; omega
          obtain ⟨p, hp⟩ := get_of_lt hql
          obtain ⟨y, hy, hty⟩ := hget q p hp
          have hyi := map_get (f := encEdit) hy
          have hyt := hts y (List.mem_of_getElem? hy)
          have hrow : (inRows (toI outs))[0 + q]? = some [iv (p : Int)] := by
            rw [Nat.zero_add, inRows, toI, List.map_map, List.getElem?_map, hp]; rfl
          have hsn := any_snoc (fun y => !T y x) hty
          have hFit := fun H => rFit_c k y x H hyt.1 hyt.2
          rw [← hT] at hFit
          refine awp_skip ?_
          refine awp_seq ?_
          refine awp_block ?_
          refine awp_mergeR (t := 11) (n := 17) (X := (S x && !((tk.take q).any fun y => !T y x)) && T y x) ?_ ?_
          · cases hg41 : (S x && !((tk.take q).any fun y => !T y x) : Bool)
            · refine awp_drawc follows ?_
              refine dc_cons (DStep.q rfl (by exact opd_move rfl rfl)) rfl ?_
              refine dc_cons (DStep.q rfl (by exact opd_move rfl rfl)) rfl ?_
              refine dc_cons (q_off_t rfl rfl rfl (by rfl)) rfl ?_
              refine dc_cons (q_off_t rfl rfl rfl (by rfl)) rfl ?_
              refine dc_cons (q_off_t rfl rfl rfl (by rfl)) rfl ?_
              refine dc_cons (q_off_t rfl rfl rfl (by rfl)) rfl ?_
              refine dc_cons (q_off_t rfl rfl rfl (by rfl)) rfl ?_
              refine dc_cons (q_off_t rfl rfl rfl (by rfl)) rfl ?_
              refine dc_cons (q_off_t rfl rfl rfl (by rfl)) rfl ?_
              refine dc_cons (q_off_t rfl rfl rfl (by rfl)) rfl ?_
              refine dc_cons (q_off_t rfl rfl rfl (by rfl)) rfl ?_
              refine dc_cons (q_off_t rfl rfl rfl (by rfl)) rfl ?_
              refine dc_cons (q_off_t rfl rfl rfl (by rfl)) rfl ?_
              refine dc_cons (q_off_t rfl rfl rfl (by rfl)) rfl ?_
              refine dc_cons (q_off_t rfl rfl rfl (by rfl)) rfl ?_
              refine dc_cons (DStep.q rfl (by exact (by exact opd_pick_f rfl rfl rfl))) rfl ?_
              refine dc_cons (DStep.q rfl (by exact opd_assign rfl rfl)) rfl ?_
              refine dc_nil ⟨by kernel_rfl, ?_⟩
              exact ⟨rfl, ⟨_, rfl, by rfl⟩, rfl, rfl, rfl⟩
            · refine awp_drawc follows ?_
              refine dc_cons (DStep.q rfl (by exact opd_move rfl rfl)) rfl ?_
              refine dc_cons (DStep.q rfl (by exact opd_move rfl rfl)) rfl ?_
              refine dc_cons (q_on_t rfl rfl rfl (by rfl) (by exact opd_move rfl rfl)) rfl ?_
              refine dc_cons (q_on_t rfl rfl rfl (by rfl) (by exact opd_move rfl rfl)) rfl ?_
              refine dc_cons (q_on_t rfl rfl rfl (by rfl) (by exact opd_move rfl rfl)) rfl ?_
              refine dc_cons (q_on_t rfl rfl rfl (by rfl) (by exact x_index_osl rfl so29 rfl rfl rfl rfl rfl (by omega) (Int.toNat_natCast _) hql rfl)) rfl ?_
              refine dc_cons (q_on_t rfl rfl rfl (by rfl) (by exact opd_load1_ref rfl Tryz.isAgg3 rfl rfl rfl hrow rfl)) rfl ?_
              refine dc_cons (q_on_t rfl rfl rfl (by rfl) (by exact (by exact x_index_pad rfl so25 rfl rfl (by omega) (by exact Int.toNat_natCast _) (by assumption) rfl))) rfl ?_
              refine dc_cons (q_on_t rfl rfl rfl (by rfl) (by exact (by exact opd_loadn_pad rfl Tryz.isAgg44 Tryz.sizeOf44 rfl (by omega) (by simp only [List.drop_succ_cons, List.drop_zero, List.take_succ_cons, List.take_zero, List.take_nil, List.map_cons, List.map_nil, List.set_cons_zero, List.set_cons_succ, List.cons_append, List.nil_append, encTag, encObj, encStr, encEdit, encInt]; rfl) rfl))) rfl ?_
              refine dc_cons (q_on_t rfl rfl rfl (by rfl) (by exact opd_move rfl rfl)) rfl ?_
              refine dc_cons (q_on_t rfl rfl rfl (by rfl) (by exact opd_move rfl rfl)) rfl ?_
              refine dc_cons (q_on_t rfl rfl rfl (by rfl) (by exact (by exact x_index_pad rfl so25 rfl rfl (by omega) (by exact Int.toNat_natCast _) (by assumption) rfl))) rfl ?_
              refine dc_cons (q_on_t rfl rfl rfl (by rfl) (by exact (by exact opd_loadn_pad rfl Tryz.isAgg44 Tryz.sizeOf44 rfl (by omega) (by simp only [List.drop_succ_cons, List.drop_zero, List.take_succ_cons, List.take_zero, List.take_nil, List.map_cons, List.map_nil, List.set_cons_zero, List.set_cons_succ, List.cons_append, List.nil_append, encTag, encObj, encStr, encEdit, encInt]; rfl) rfl))) rfl ?_
              refine dc_cons (q_on_t rfl rfl rfl (by rfl) (by exact opd_move rfl rfl)) rfl ?_
              refine dc_cons (q_on_t rfl rfl rfl (by rfl) (by exact opr_call rfl rfl Tryz.call118 rfl (hFit _))) rfl ?_
              refine dc_cons (DStep.q rfl (by exact (by exact opd_pick_t rfl rfl rfl))) rfl ?_
              refine dc_cons (DStep.q rfl (by exact opd_assign rfl rfl)) rfl ?_
              refine dc_nil ⟨by kernel_rfl, ?_⟩
              exact ⟨rfl, ⟨_, rfl, by rfl⟩, rfl, rfl, rfl⟩
          refine awp_region ?_
          refine al_d rfl rfl rfl (by exact opd_move rfl rfl) ?_
          refine al_d rfl rfl rfl (by exact opd_add rfl rfl rfl (by exact w64 (by omega) (by omega))) ?_
          refine al_d rfl rfl rfl (by exact opd_assign rfl rfl) ?_
          refine al_nil ?_
          -- end of a round
          refine ⟨q + 1, by omega, by omega, ?_⟩
          rw [hsn, show (S x && !(((tk.take q).any fun y => !T y x) || !T y x)) = ((S x && !((tk.take q).any fun y => !T y x)) && T y x) by cases S x <;> cases ((tk.take q).any fun y => !T y x) <;> cases T y x <;> rfl]
          exact (Ent.wk ⟨⟨_, rfl, rfl⟩, (by (simp; done)), ⟨_, rfl, rfl⟩, (by (simp; done)), ⟨_, rfl, rfl⟩, (by (simp; done)), ⟨_, rfl, rfl⟩, (by (simp; rfl)), ⟨_, rfl, rfl⟩, (by (simp; rfl)), ⟨_, rfl, rfl⟩, (by (simp; done)), ⟨_, rfl, rfl⟩, (by (simp; done)), ⟨_, rfl, rfl⟩, (by (simp; done)), trivial⟩ ⟨⟨_, rfl, rfl⟩, (by (simp; done)), ⟨_, rfl, rfl⟩, (by (simp; done)), trivial⟩ trivial)
        · have hge : q = outs.length := by have := of_decide_eq_false hc2; omega
          subst hge
          have htk : tk.take outs.length = tk := by rw [hlen, List.take_length]
          rw [htk]
          refine awp_exit ?_
          refine awp_seq ?_
          refine awp_region ?_
          refine al_d rfl rfl rfl (by exact opd_move rfl rfl) ?_
          refine al_nil ?_
          refine awp_cond rfl (fun hc3 => ?_) (fun hc3 => ?_)
          -- cond 3
          · rw [if_pos hc3] at hinv
            refine awp_region ?_
            refine al_d rfl rfl rfl (by exact opd_move rfl rfl) ?_
            refine al_d rfl rfl rfl (by exact opd_move rfl rfl) ?_
            refine al_d rfl rfl rfl (by exact x_buildSlice [encInt (i : Int)] rfl so29 rfl rfl rfl rfl rfl (by simp [encInt])) ?_
            refine al_d rfl rfl rfl (by exact (by exact x_append rfl so29 ei3 rfl rfl rfl rfl rfl (by simp : _ = outs.length) rfl (by simp [encInt]) (rfl : _ = 1) (by omega) (len_snoc outs i) (in_snoc outs i))) ?_
            refine al_d rfl rfl rfl (by exact opd_assign rfl rfl) ?_
            refine al_nil ?_
            refine awp_region ?_
            refine al_d rfl rfl rfl (by exact opd_move rfl rfl) ?_
            refine al_d rfl rfl rfl (by exact opd_add rfl rfl rfl (by exact w64 (by omega) (by omega))) ?_
            refine al_d rfl rfl rfl (by exact opd_assign rfl rfl) ?_
            refine al_nil ?_
            -- end of a round
            refine ⟨i + 1, outs ++ [i], tk ++ [x], g + 1, ⟨⟨by omega, by omega, by simp [hlen], by simp; omega⟩, fun q' p' h => ?_, fun h => absurd h (by omega), fun h => ?_, ?_⟩, by omega, (Ent.wk ⟨⟨_, rfl, rfl⟩, (by (simp; done)), ⟨_, rfl, rfl⟩, (by (simp; done)), ⟨_, rfl, rfl⟩, (by (simp; done)), ⟨_, rfl, rfl⟩, (by (simp; rfl)), ⟨_, rfl, rfl⟩, (by (simp; rfl)), ⟨_, rfl, rfl⟩, (by (simp; done)), trivial⟩ ⟨⟨_, rfl, rfl⟩, (by exact clo_map _ _ _), ⟨_, rfl, rfl⟩, (by (simp; done)), trivial⟩ trivial)⟩
            · by_cases hq' : q' < outs.length
              · rw [List.getElem?_append_left hq'] at h
                obtain ⟨y, hy, hty⟩ := hget q' p' h
                exact ⟨y, hy, by rw [List.getElem?_append_left (by omega)]; exact hty⟩
              · rw [List.getElem?_append_right (by omega)] at h
                have hq0 : q' - outs.length = 0 := by
                  cases hz : q' - outs.length with
                  | zero => rfl
                  | succ z => rw [hz] at h; simp at h
                rw [hq0] at h
                cases h
                exact ⟨x, hx, by rw [List.getElem?_append_right (by omega), show q' - tk.length = 0 by omega]; rfl⟩
            · by_cases hif : i = frm
              · subst hif
                rw [hx] at hfx
                cases hfx
                rw [Bool.and_eq_true] at hc3
                exact hc3.1
              · exact hi1 (by omega)
            · rw [hinv, List.append_assoc]
              congr 1
              rw [show n - (outs ++ [i]).length = d by simp; omega]
              rfl
          · rw [if_neg (by rw [hc3]; simp)] at hinv
            refine awp_seq ?_
            refine awp_region ?_
            refine al_d rfl rfl rfl (by exact opd_move rfl rfl) ?_
            refine al_d rfl rfl rfl (by exact opd_move rfl rfl) ?_
            refine al_d rfl rfl rfl (by exact opd_eql rfl rfl rfl) ?_
            refine al_nil ?_
            refine awp_cond rfl (fun hc4 => ?_) (fun hc4 => ?_)
            -- cond 4
            · have hif : i = frm := by have := of_decide_eq_true hc4; omega
              have hS0 : S x0 = false := by
                subst hif
                rw [hx] at hfx
                cases hfx
                have htk : tk = [] := by
                  have := hi0 rfl
                  rw [this] at hlen
                  exact List.eq_nil_of_length_eq_zero hlen.symm
                rw [htk] at hc3
                simpa using hc3
              refine awp_seq ?_
              refine awp_region ?_
              refine al_d rfl rfl rfl (by exact opd_assign rfl rfl) ?_
              refine al_nil ?_
              refine awp_ret ?_
              -- return
              refine aret1 (H' := []) (by exact .inr rfl) rfl (rval_tmp rfl) (Fin.wk (by simp) trivial trivial) ?_
              exact ⟨by rw [rFirst, hS0]; rfl, rfl⟩
            · have hif : ¬ i = frm := by have := of_decide_eq_false hc4; omega
              refine awp_skip ?_
              refine awp_region ?_
              refine al_d rfl rfl rfl (by exact opd_move rfl rfl) ?_
              refine al_d rfl rfl rfl (by exact opd_add rfl rfl rfl (by exact w64 (by omega) (by omega))) ?_
              refine al_d rfl rfl rfl (by exact opd_assign rfl rfl) ?_
              refine al_nil ?_
              -- end of a round
              refine ⟨i + 1, outs, tk, g, ⟨⟨by omega, by omega, hlen, hon⟩, hget, fun h => absurd h (by omega), fun _ => hi1 (by omega), by rw [hd]; exact hinv⟩, by omega, ?_⟩
              exact (Ent.wk ⟨⟨_, rfl, rfl⟩, (by (simp; done)), ⟨_, rfl, rfl⟩, (by (simp; done)), ⟨_, rfl, rfl⟩, (by (simp; done)), ⟨_, rfl, rfl⟩, (by (simp; rfl)), ⟨_, rfl, rfl⟩, (by (simp; rfl)), ⟨_, rfl, rfl⟩, (by (simp; done)), trivial⟩ ⟨⟨_, rfl, rfl⟩, (by (simp; done)), ⟨_, rfl, rfl⟩, (by (simp; done)), trivial⟩ trivial)
    · have hge : gr S T (l.drop i) i (n - outs.length) tk = [] := by
        simp only [Bool.and_eq_false_iff, decide_eq_false_iff_not, hml] at hc1
        rcases hc1 with h | h
        · rw [List.drop_eq_nil_of_le (by omega)]; rfl
        · rw [show n - outs.length = 0 by omega]; exact gr_zero _ _ _ _ _
      have hfi2 : frm < i := by
        rcases Nat.lt_or_ge frm i with h | h
        · exact h
        · have e : i = frm := by omega
          have := hi0 e
          simp only [Bool.and_eq_false_iff, decide_eq_false_iff_not, hml, this, List.length_nil] at hc1
          have := (nMany_pos k).1
          rw [← hn] at this
          omega
      rw [hge, List.append_nil] at hinv
      rw [rFirst, hi1 hfi2, if_pos rfl, hinv]
      refine awp_exit ?_
      refine awp_seq ?_
      refine awp_region ?_
      refine al_d rfl rfl rfl (by exact opd_move rfl rfl) ?_
      refine al_d rfl rfl rfl (by exact opd_assign rfl rfl) ?_
      refine al_nil ?_
      refine awp_ret ?_
      -- return
      refine aret1 (H' := []) (.inr rfl) rfl (rval_tmp rfl) (Fin.slice [(9, ⟨g, 1, 3, inRows (toI outs)⟩), (4, bx 1 24 [.pv (slObjs m)])] ((toI outs).map encInt) rfl rfl (rows_of encInt _) (by simp) (Closed.of (by simp)) (by simp [Heap.get]) (by simp [Heap.get]) rfl) ⟨rfl, rfl⟩
theorem rHolds_c (k : Nat) (m : List GObj) (l : List GEdit) (p : List Nat) (H : Heap) (hm : okM m) (hl : l.length < 1099511627776) (hpl : p.length ≤ 5) (hts : ∀ e ∈ l, e.obj.refs.length < 4611686018427387904 ∧ e.obj.tags.length < 4611686018427387904) (h1 : 1 ≤ k) (h4 : k ≤ 4)
    (hsh : ∀ q ∈ p, ∃ x, l[q]? = some x ∧ eShows k m x = true) (hpw : p.Pairwise (fun a b => a < b ∧ ∀ x y, l[a]? = some x → l[b]? = some y → rFit k x y = true)) :
    ACalls Tryz.prog 63 [.agg [.pv (slObjs m)], .pv (slEdits l), .agg [iv (k : Int), .pv (slInts (toI p))]] H
      (fun r H' => r = bv (!(!decide ((((toI p).map encInt).length : Int) = (nMany k : Int)) || (decide ((k : Int) = 1) && !decide ((l.length : Int) < 2 * (nDrops l : Int))))) ∧ H' = H) := by
  refine ACalls.pure ?_ (by simp) H
  have hml : (l.map encEdit).length = l.length := List.length_map _
  have hil : ((toI p).map encInt).length = p.length := by rw [List.length_map, List.length_map]
  have hk1 : decide ((k : Int) < 1) = false := decide_eq_false (by omega)
  have hk4 : decide ((4 : Int) < (k : Int)) = false := decide_eq_false (by omega)
  refine ACalls.body Tryz.func63 rfl Tryz.ntmps63 (Nat.le_of_ble_eq_true rfl) ?_
  refine awp_seq ?_
  refine awp_region ?_
  refine al_d rfl rfl rfl (by exact opd_box (id := 3) rfl rfl rfl rfl rfl) ?_
  refine al_d rfl rfl rfl (by exact opd_box (id := 5) rfl rfl rfl rfl rfl) ?_
  refine al_d rfl rfl rfl (by exact opd_assign rfl rfl) ?_
  refine al_nil ?_
  refine awp_seq ?_
  refine awp_seq ?_
  refine awp_mergeR (t := 36) (n := 27) (X := !decide ((((toI p).map encInt).length : Int) = (nMany k : Int)) || (decide ((k : Int) = 1) && !decide ((l.length : Int) < 2 * (nDrops l : Int)))) ?_ ?_
  · cases hg27 : (!decide ((((toI p).map encInt).length : Int) = (nMany k : Int)) : Bool)
    · cases hg31 : (decide ((k : Int) = 1) : Bool)
      · refine awp_drawc follows ?_
        refine dc_cons (DStep.q rfl (by exact (by exact opd_field_ref rfl fo31_0 rfl rfl rfl rfl))) rfl ?_
        refine dc_cons (DStep.q rfl (by exact (by exact opd_load1_ref rfl Tryz.isAgg3 rfl rfl rfl rfl rfl))) rfl ?_
        refine dc_cons (DStep.q rfl (by exact opd_lss rfl rfl rfl)) rfl ?_
        refine dc_cons (DStep.q rfl (by exact opd_move rfl rfl)) rfl ?_
        refine dc_cons (q_on_f rfl rfl rfl (by assumption) (by exact (by exact opd_field_ref rfl fo31_0 rfl rfl rfl rfl))) rfl ?_
        refine dc_cons (q_on_f rfl rfl rfl (by assumption) (by exact (by exact opd_load1_ref rfl Tryz.isAgg3 rfl rfl rfl rfl rfl))) rfl ?_
        refine dc_cons (q_on_f rfl rfl rfl (by assumption) (by exact opd_gtr rfl rfl rfl)) rfl ?_
        refine dc_cons (DStep.q rfl (by exact (by exact opd_pickf rfl rfl (by assumption) rfl))) rfl ?_
        refine dc_cons (DStep.q rfl (by exact opd_move rfl rfl)) rfl ?_
        refine dc_cons (q_on_f rfl rfl rfl (by assumption) (by exact (by exact opd_field_ref rfl fo31_1 rfl rfl rfl rfl))) rfl ?_
        refine dc_cons (q_on_f rfl rfl rfl (by assumption) (by exact (by exact opd_load1_ref rfl Tryz.isAgg29 rfl rfl rfl rfl rfl))) rfl ?_
        refine dc_cons (q_on_f rfl rfl rfl (by assumption) (by exact (by exact opd_len_sl rfl Tryz.underlying29 rfl))) rfl ?_
        refine dc_cons (q_on_f rfl rfl rfl (by assumption) (by exact (by exact opd_field_ref rfl fo31_0 rfl rfl rfl rfl))) rfl ?_
        refine dc_cons (q_on_f rfl rfl rfl (by assumption) (by exact (by exact opd_load1_ref rfl Tryz.isAgg3 rfl rfl rfl rfl rfl))) rfl ?_
        refine dc_cons (q_on_f rfl rfl rfl (by assumption) (by exact opr_call rfl rfl Tryz.call116 rfl (rMany_c k _ h1 h4))) rfl ?_
        refine dc_cons (q_on_f rfl rfl rfl (by assumption) (by exact opd_neq rfl rfl rfl)) rfl ?_
        refine dc_cons (DStep.q rfl (by exact (by exact opd_pickf rfl rfl (by assumption) rfl))) rfl ?_
        refine dc_cons (DStep.q rfl (by exact opd_move rfl rfl)) rfl ?_
        refine dc_cons (q_on_f rfl rfl rfl (by assumption) (by exact (by exact opd_field_ref rfl fo31_0 rfl rfl rfl rfl))) rfl ?_
        refine dc_cons (q_on_f rfl rfl rfl (by assumption) (by exact (by exact opd_load1_ref rfl Tryz.isAgg3 rfl rfl rfl rfl rfl))) rfl ?_
        refine dc_cons (q_on_f rfl rfl rfl (by assumption) (by exact opd_eql rfl rfl rfl)) rfl ?_
        refine dc_cons (q_on_f rfl rfl rfl (by assumption) (by exact opd_move rfl rfl)) rfl ?_
        refine dc_cons (q_off_t rfl rfl rfl (by assumption)) rfl ?_
        refine dc_cons (q_off_t rfl rfl rfl (by assumption)) rfl ?_
        refine dc_cons (q_off_t rfl rfl rfl (by assumption)) rfl ?_
        refine dc_cons (q_on_f rfl rfl rfl (by assumption) (by exact (by exact opd_pickf rfl rfl (by assumption) rfl))) rfl ?_
        refine dc_cons (DStep.q rfl (by exact (by exact opd_pickf rfl rfl (by assumption) rfl))) rfl ?_
        refine dc_nil ⟨by kernel_rfl, ?_⟩
        exact ⟨rfl, ⟨_, rfl, by rfl⟩, rfl, rfl, rfl⟩
      · refine awp_drawc follows ?_
        refine dc_cons (DStep.q rfl (by exact (by exact opd_field_ref rfl fo31_0 rfl rfl rfl rfl))) rfl ?_
        refine dc_cons (DStep.q rfl (by exact (by exact opd_load1_ref rfl Tryz.isAgg3 rfl rfl rfl rfl rfl))) rfl ?_
        refine dc_cons (DStep.q rfl (by exact opd_lss rfl rfl rfl)) rfl ?_
        refine dc_cons (DStep.q rfl (by exact opd_move rfl rfl)) rfl ?_
        refine dc_cons (q_on_f rfl rfl rfl (by assumption) (by exact (by exact opd_field_ref rfl fo31_0 rfl rfl rfl rfl))) rfl ?_
        refine dc_cons (q_on_f rfl rfl rfl (by assumption) (by exact (by exact opd_load1_ref rfl Tryz.isAgg3 rfl rfl rfl rfl rfl))) rfl ?_
        refine dc_cons (q_on_f rfl rfl rfl (by assumption) (by exact opd_gtr rfl rfl rfl)) rfl ?_
        refine dc_cons (DStep.q rfl (by exact (by exact opd_pickf rfl rfl (by assumption) rfl))) rfl ?_
        refine dc_cons (DStep.q rfl (by exact opd_move rfl rfl)) rfl ?_
        refine dc_cons (q_on_f rfl rfl rfl (by assumption) (by exact (by exact opd_field_ref rfl fo31_1 rfl rfl rfl rfl))) rfl ?_
        refine dc_cons (q_on_f rfl rfl rfl (by assumption) (by exact (by exact opd_load1_ref rfl Tryz.isAgg29 rfl rfl rfl rfl rfl))) rfl ?_
        refine dc_cons (q_on_f rfl rfl rfl (by assumption) (by exact (by exact opd_len_sl rfl Tryz.underlying29 rfl))) rfl ?_
        refine dc_cons (q_on_f rfl rfl rfl (by assumption) (by exact (by exact opd_field_ref rfl fo31_0 rfl rfl rfl rfl))) rfl ?_
        refine dc_cons (q_on_f rfl rfl rfl (by assumption) (by exact (by exact opd_load1_ref rfl Tryz.isAgg3 rfl rfl rfl rfl rfl))) rfl ?_
        refine dc_cons (q_on_f rfl rfl rfl (by assumption) (by exact opr_call rfl rfl Tryz.call116 rfl (rMany_c k _ h1 h4))) rfl ?_
        refine dc_cons (q_on_f rfl rfl rfl (by assumption) (by exact opd_neq rfl rfl rfl)) rfl ?_
        refine dc_cons (DStep.q rfl (by exact (by exact opd_pickf rfl rfl (by assumption) rfl))) rfl ?_
        refine dc_cons (DStep.q rfl (by exact opd_move rfl rfl)) rfl ?_
        refine dc_cons (q_on_f rfl rfl rfl (by assumption) (by exact (by exact opd_field_ref rfl fo31_0 rfl rfl rfl rfl))) rfl ?_
        refine dc_cons (q_on_f rfl rfl rfl (by assumption) (by exact (by exact opd_load1_ref rfl Tryz.isAgg3 rfl rfl rfl rfl rfl))) rfl ?_
        refine dc_cons (q_on_f rfl rfl rfl (by assumption) (by exact opd_eql rfl rfl rfl)) rfl ?_
        refine dc_cons (q_on_f rfl rfl rfl (by assumption) (by exact opd_move rfl rfl)) rfl ?_
        refine dc_cons (q_on_t rfl rfl rfl (by assumption) (by exact opd_move rfl rfl)) rfl ?_
        refine dc_cons (q_on_t rfl rfl rfl (by assumption) (by exact opr_call rfl rfl Tryz.call119 rfl (rDrops_c l _ hl))) rfl ?_
        refine dc_cons (q_on_t rfl rfl rfl (by assumption) (by exact opd_not rfl rfl)) rfl ?_
        refine dc_cons (q_on_f rfl rfl rfl (by assumption) (by exact (by exact opd_pickt rfl rfl (by assumption) rfl))) rfl ?_
        refine dc_cons (DStep.q rfl (by exact (by exact opd_pickf rfl rfl (by assumption) rfl))) rfl ?_
        refine dc_nil ⟨by kernel_rfl, ?_⟩
        exact ⟨rfl, ⟨_, rfl, by rfl⟩, rfl, rfl, rfl⟩
    · refine awp_drawc follows ?_
      refine dc_cons (DStep.q rfl (by exact (by exact opd_field_ref rfl fo31_0 rfl rfl rfl rfl))) rfl ?_
      refine dc_cons (DStep.q rfl (by exact (by exact opd_load1_ref rfl Tryz.isAgg3 rfl rfl rfl rfl rfl))) rfl ?_
      refine dc_cons (DStep.q rfl (by exact opd_lss rfl rfl rfl)) rfl ?_
      refine dc_cons (DStep.q rfl (by exact opd_move rfl rfl)) rfl ?_
      refine dc_cons (q_on_f rfl rfl rfl (by assumption) (by exact (by exact opd_field_ref rfl fo31_0 rfl rfl rfl rfl))) rfl ?_
      refine dc_cons (q_on_f rfl rfl rfl (by assumption) (by exact (by exact opd_load1_ref rfl Tryz.isAgg3 rfl rfl rfl rfl rfl))) rfl ?_
      refine dc_cons (q_on_f rfl rfl rfl (by assumption) (by exact opd_gtr rfl rfl rfl)) rfl ?_
      refine dc_cons (DStep.q rfl (by exact (by exact opd_pickf rfl rfl (by assumption) rfl))) rfl ?_
      refine dc_cons (DStep.q rfl (by exact opd_move rfl rfl)) rfl ?_
      refine dc_cons (q_on_f rfl rfl rfl (by assumption) (by exact (by exact opd_field_ref rfl fo31_1 rfl rfl rfl rfl))) rfl ?_
      refine dc_cons (q_on_f rfl rfl rfl (by assumption) (by exact (by exact opd_load1_ref rfl Tryz.isAgg29 rfl rfl rfl rfl rfl))) rfl ?_
      refine dc_cons (q_on_f rfl rfl rfl (by assumption) (by exact (by exact opd_len_sl rfl Tryz.underlying29 rfl))) rfl ?_
      refine dc_cons (q_on_f rfl rfl rfl (by assumption) (by exact (by exact opd_field_ref rfl fo31_0 rfl rfl rfl rfl))) rfl ?_
      refine dc_cons (q_on_f rfl rfl rfl (by assumption) (by exact (by exact opd_load1_ref rfl Tryz.isAgg3 rfl rfl rfl rfl rfl))) rfl ?_
      refine dc_cons (q_on_f rfl rfl rfl (by assumption) (by exact opr_call rfl rfl Tryz.call116 rfl (rMany_c k _ h1 h4))) rfl ?_
      refine dc_cons (q_on_f rfl rfl rfl (by assumption) (by exact opd_neq rfl rfl rfl)) rfl ?_
      refine dc_cons (DStep.q rfl (by exact (by exact opd_pickf rfl rfl (by assumption) rfl))) rfl ?_
      refine dc_cons (DStep.q rfl (by exact opd_move rfl rfl)) rfl ?_
      refine dc_cons (q_off_f rfl rfl rfl (by assumption)) rfl ?_
      refine dc_cons (q_off_f rfl rfl rfl (by assumption)) rfl ?_
      refine dc_cons (q_off_f rfl rfl rfl (by assumption)) rfl ?_
      refine dc_cons (q_off_f rfl rfl rfl (by assumption)) rfl ?_
      refine dc_cons (q_off_u rfl rfl rfl) rfl ?_
      refine dc_cons (q_off_u rfl rfl rfl) rfl ?_
      refine dc_cons (q_off_u rfl rfl rfl) rfl ?_
      refine dc_cons (q_off_f rfl rfl rfl (by assumption)) rfl ?_
      refine dc_cons (DStep.q rfl (by exact (by exact opd_pickt rfl rfl (by assumption) rfl))) rfl ?_
      refine dc_nil ⟨by kernel_rfl, ?_⟩
      exact ⟨rfl, ⟨_, rfl, by rfl⟩, rfl, rfl, rfl⟩
  refine awp_cond rfl (fun hc1 => ?_) (fun hc1 => ?_)
  -- cond 1
  · skip
    refine awp_seq ?_
    refine awp_region ?_
    refine al_d rfl rfl rfl (by exact opd_assign rfl rfl) ?_
    refine al_nil ?_
    refine awp_ret ?_
    -- return
    refine aret1 (H' := []) (by exact .inr rfl) rfl (rval_tmp rfl) (Fin.wk (by simp) trivial trivial) ?_
    exact ⟨by rw [hc1]; rfl, rfl⟩
  · rw [hc1]
    refine awp_skip ?_
    refine awp_seq ?_
    refine awp_seq ?_
    refine awp_region ?_
    refine al_d rfl rfl rfl (by exact opd_assign rfl rfl) ?_
    refine al_nil ?_
    refine awp_block ?_
    -- loop
    refine awp_loop (σ := Nat) (fun i => ([(1, .pv (slEdits l)), (3, .ref 3 0 0 0), (5, .ref 5 0 0 0), (7, iv (i : Int))], [(5, bx 2 31 [iv (k : Int), .pv (slInts (toI p))]), (3, bx 1 24 [.pv (slObjs m)])])) (fun i => i ≤ p.length) (fun i => p.length - i) 0 (by omega) ?_ ?_
    · exact (Ent.wk ⟨⟨_, rfl, rfl⟩, (by (simp; done)), ⟨_, rfl, rfl⟩, (by (simp; rfl)), ⟨_, rfl, rfl⟩, (by (simp; rfl)), ⟨_, rfl, rfl⟩, (by (simp; done)), trivial⟩ ⟨⟨_, rfl, rfl⟩, (by (simp; done)), ⟨_, rfl, rfl⟩, (by (simp; done)), trivial⟩ trivial)
    · intro i hi
      refine awp_seq ?_
      refine awp_seq ?_
      refine awp_region ?_
      refine al_d rfl rfl rfl (by exact opd_move rfl rfl) ?_
      refine al_d rfl rfl rfl (by exact (by exact opd_field_ref rfl fo31_1 rfl rfl rfl rfl)) ?_
      refine al_d rfl rfl rfl (by exact (by exact opd_load1_ref rfl Tryz.isAgg29 rfl rfl rfl rfl rfl)) ?_
      refine al_d rfl rfl rfl (by exact (by exact opd_len_sl rfl Tryz.underlying29 rfl)) ?_
      refine al_d rfl rfl rfl (by exact opd_lss rfl rfl rfl) ?_
      refine al_nil ?_
      refine awp_cond rfl (fun hc2 => ?_) (fun hc2 => ?_)
      -- cond 2
      · have hlt : i < p.length := by have := of_decide_eq_true hc2; omega
        obtain ⟨q, hq⟩ := get_of_lt hlt
        obtain ⟨x, hx, hsx⟩ := hsh q (List.mem_of_getElem? hq)
        have hql := (List.getElem?_eq_some_iff.1 hx).1
        have hqi : ((toI p).map encInt)[i]? = some (encInt (q : Int)) := by rw [toI, List.map_map, List.getElem?_map, hq]; rfl
        have hxe := map_get (f := encEdit) hx
        obtain ⟨pq, hpq⟩ : ∃ pq : Nat, 0 < i → p[i - 1]? = some pq ∧ pq < q := by
          by_cases h0 : 0 < i
          · obtain ⟨pq, hpq⟩ := get_of_lt (l := p) (k := i - 1) (by omega)
            refine ⟨pq, fun _ => ⟨hpq, ?_⟩⟩
            obtain ⟨a1, a2⟩ := List.getElem?_eq_some_iff.1 hpq
            obtain ⟨b1, b2⟩ := List.getElem?_eq_some_iff.1 hq
            rw [List.pairwise_iff_getElem] at hpw
            have := (hpw (i - 1) i a1 b1 (by omega)).1
            rw [a2, b2] at this
            exact this
          · exact ⟨0, fun h => absurd h h0⟩
        have hpv : 0 < i → ((toI p).map encInt)[i - 1]? = some (encInt (pq : Int)) := fun h => by
          rw [toI, List.map_map, List.getElem?_map, (hpq h).1]; rfl
        have d0 : decide ((q : Int) < 0) = false := decide_eq_false (by omega)
        have d1 : decide (((l.map encEdit).length : Int) ≤ (q : Int)) = false := decide_eq_false (by omega)
        have hShow := fun H => rShows_c k m x H hm h1 h4
        rw [hsx] at hShow
        refine awp_skip ?_
        refine awp_seq ?_
        refine awp_block ?_
        refine awp_seq ?_
        refine awp_region ?_
        refine al_d rfl rfl rfl (by exact (by exact opd_field_ref rfl fo31_1 rfl rfl rfl rfl)) ?_
        refine al_d rfl rfl rfl (by exact (by exact opd_load1_ref rfl Tryz.isAgg29 rfl rfl rfl rfl rfl)) ?_
        refine al_d rfl rfl rfl (by exact opd_move rfl rfl) ?_
        refine al_d rfl rfl rfl (by exact (by exact x_index_pad rfl so29 rfl rfl (by omega) (by exact Int.toNat_natCast _) (by assumption) rfl)) ?_
        refine al_d rfl rfl rfl (by exact (by exact opd_load1_pad rfl Tryz.isAgg3 rfl (by omega) rfl)) ?_
        refine al_d rfl rfl rfl (by exact opd_assign rfl rfl) ?_
        refine al_nil ?_
        refine awp_seq ?_
        refine awp_seq ?_
        refine awp_mergeR (t := 81) (n := 33) (X := decide ((0 : Int) < (i : Int)) && decide ((q : Int) ≤ (pq : Int))) ?_ ?_
        · cases hg60 : (decide ((0 : Int) < (i : Int)) : Bool)
          · refine awp_drawc follows ?_
            refine dc_cons (DStep.q rfl (by exact opd_move rfl rfl)) rfl ?_
            refine dc_cons (DStep.q rfl (by exact opd_lss rfl rfl rfl)) rfl ?_
            refine dc_cons (DStep.q rfl (by exact opd_move rfl rfl)) rfl ?_
            refine dc_cons (q_on_f rfl rfl rfl (by rfl) (by exact opd_move rfl rfl)) rfl ?_
            refine dc_cons (q_on_f rfl rfl rfl (by rfl) (by exact opd_move rfl rfl)) rfl ?_
            refine dc_cons (q_on_f rfl rfl rfl (by rfl) (by exact (by exact opd_len_sl rfl Tryz.underlying25 rfl))) rfl ?_
            refine dc_cons (q_on_f rfl rfl rfl (by rfl) (by exact opd_geq rfl rfl rfl)) rfl ?_
            refine dc_cons (DStep.q rfl (by exact (by exact opd_pick_f rfl rfl rfl))) rfl ?_
            refine dc_cons (DStep.q rfl (by exact opd_move rfl rfl)) rfl ?_
            refine dc_cons (q_on_f rfl rfl rfl (by assumption) (by exact opd_move rfl rfl)) rfl ?_
            refine dc_cons (q_on_f rfl rfl rfl (by assumption) (by exact opd_gtr rfl rfl rfl)) rfl ?_
            refine dc_cons (q_on_f rfl rfl rfl (by assumption) (by exact opd_move rfl rfl)) rfl ?_
            refine dc_cons (q_off_t rfl rfl rfl (by assumption)) rfl ?_
            refine dc_cons (q_off_t rfl rfl rfl (by assumption)) rfl ?_
            refine dc_cons (q_off_t rfl rfl rfl (by assumption)) rfl ?_
            refine dc_cons (q_off_t rfl rfl rfl (by assumption)) rfl ?_
            refine dc_cons (q_off_t rfl rfl rfl (by assumption)) rfl ?_
            refine dc_cons (q_off_t rfl rfl rfl (by assumption)) rfl ?_
            refine dc_cons (q_off_t rfl rfl rfl (by assumption)) rfl ?_
            refine dc_cons (q_off_t rfl rfl rfl (by assumption)) rfl ?_
            refine dc_cons (q_on_f rfl rfl rfl (by assumption) (by exact (by exact opd_pickf rfl rfl (by assumption) rfl))) rfl ?_
            refine dc_cons (DStep.q rfl (by exact (by exact opd_pickf rfl rfl (by assumption) rfl))) rfl ?_
            refine dc_cons (DStep.q rfl (by exact opd_move rfl rfl)) rfl ?_
            refine dc_cons (q_on_f rfl rfl rfl (by rfl) (by exact (by exact opd_loadn_ref rfl Tryz.isAgg24 Tryz.sizeOf24 rfl rfl rfl rfl (by simp only [List.drop_succ_cons, List.drop_zero, List.take_succ_cons, List.take_zero, List.take_nil, List.map_cons, List.map_nil, List.set_cons_zero, List.set_cons_succ, List.cons_append, List.nil_append, encTag, encObj, encStr, encEdit, encInt]; rfl) rfl))) rfl ?_
            refine dc_cons (q_on_f rfl rfl rfl (by rfl) (by exact opd_move rfl rfl)) rfl ?_
            refine dc_cons (q_on_f rfl rfl rfl (by rfl) (by exact opd_move rfl rfl)) rfl ?_
            refine dc_cons (q_on_f rfl rfl rfl (by rfl) (by exact (by exact x_index_pad rfl so25 rfl rfl (by omega) (by exact Int.toNat_natCast _) (by assumption) rfl))) rfl ?_
            refine dc_cons (q_on_f rfl rfl rfl (by rfl) (by exact (by exact opd_loadn_pad rfl Tryz.isAgg44 Tryz.sizeOf44 rfl (by omega) (by simp only [List.drop_succ_cons, List.drop_zero, List.take_succ_cons, List.take_zero, List.take_nil, List.map_cons, List.map_nil, List.set_cons_zero, List.set_cons_succ, List.cons_append, List.nil_append, encTag, encObj, encStr, encEdit, encInt]; rfl) rfl))) rfl ?_
            refine dc_cons (q_on_f rfl rfl rfl (by rfl) (by exact (by exact opd_field_ref rfl fo31_0 rfl rfl rfl rfl))) rfl ?_
            refine dc_cons (q_on_f rfl rfl rfl (by rfl) (by exact (by exact opd_load1_ref rfl Tryz.isAgg3 rfl rfl rfl rfl rfl))) rfl ?_
            refine dc_cons (q_on_f rfl rfl rfl (by rfl) (by exact opr_call rfl rfl Tryz.call117 rfl (hShow _))) rfl ?_
            refine dc_cons (q_on_f rfl rfl rfl (by rfl) (by exact opd_not rfl rfl)) rfl ?_
            refine dc_cons (DStep.q rfl (by exact (by exact opd_pick_f rfl rfl rfl))) rfl ?_
            refine dc_nil ⟨by kernel_rfl, ?_⟩
            exact ⟨rfl, ⟨_, rfl, by rfl⟩, rfl, rfl, rfl⟩
          · cases hg71 : (decide ((q : Int) ≤ (pq : Int)) : Bool)
            · refine awp_drawc follows ?_
              refine dc_cons (DStep.q rfl (by exact opd_move rfl rfl)) rfl ?_
              refine dc_cons (DStep.q rfl (by exact opd_lss rfl rfl rfl)) rfl ?_
              refine dc_cons (DStep.q rfl (by exact opd_move rfl rfl)) rfl ?_
              refine dc_cons (q_on_f rfl rfl rfl (by rfl) (by exact opd_move rfl rfl)) rfl ?_
              refine dc_cons (q_on_f rfl rfl rfl (by rfl) (by exact opd_move rfl rfl)) rfl ?_
              refine dc_cons (q_on_f rfl rfl rfl (by rfl) (by exact (by exact opd_len_sl rfl Tryz.underlying25 rfl))) rfl ?_
              refine dc_cons (q_on_f rfl rfl rfl (by rfl) (by exact opd_geq rfl rfl rfl)) rfl ?_
              refine dc_cons (DStep.q rfl (by exact (by exact opd_pick_f rfl rfl rfl))) rfl ?_
              refine dc_cons (DStep.q rfl (by exact opd_move rfl rfl)) rfl ?_
              refine dc_cons (q_on_f rfl rfl rfl (by assumption) (by exact opd_move rfl rfl)) rfl ?_
              refine dc_cons (q_on_f rfl rfl rfl (by assumption) (by exact opd_gtr rfl rfl rfl)) rfl ?_
              refine dc_cons (q_on_f rfl rfl rfl (by assumption) (by exact opd_move rfl rfl)) rfl ?_
              refine dc_cons (q_on_t rfl rfl rfl (by assumption) (by exact opd_move rfl rfl)) rfl ?_
              refine dc_cons (q_on_t rfl rfl rfl (by assumption) (by exact (by exact opd_field_ref rfl fo31_1 rfl rfl rfl rfl))) rfl ?_
              refine dc_cons (q_on_t rfl rfl rfl (by assumption) (by exact (by exact opd_load1_ref rfl Tryz.isAgg29 rfl rfl rfl rfl rfl))) rfl ?_
              refine dc_cons (q_on_t rfl rfl rfl (by assumption) (by exact opd_move rfl rfl)) rfl ?_
              refine dc_cons (q_on_t rfl rfl rfl (by assumption) (by exact opd_sub rfl rfl rfl (by exact w64 (by omega) (by omega)))) rfl ?_
              refine dc_cons (q_on_t rfl rfl rfl (by assumption) (by exact x_index_pad rfl so29 rfl rfl (by have := of_decide_eq_true hg60; omega) (show ((i : Int) - 1).toNat = i - 1 by omega) (hpv (by have := of_decide_eq_true hg60; omega)) rfl)) rfl ?_
              refine dc_cons (q_on_t rfl rfl rfl (by assumption) (by exact opd_load1_pad rfl Tryz.isAgg3 rfl (hpv (by have := of_decide_eq_true hg60; omega)) rfl)) rfl ?_
              refine dc_cons (q_on_t rfl rfl rfl (by assumption) (by exact opd_leq rfl rfl rfl)) rfl ?_
              refine dc_cons (q_on_f rfl rfl rfl (by assumption) (by exact (by exact opd_pickt rfl rfl (by assumption) rfl))) rfl ?_
              refine dc_cons (DStep.q rfl (by exact (by exact opd_pickf rfl rfl (by assumption) rfl))) rfl ?_
              refine dc_cons (DStep.q rfl (by exact opd_move rfl rfl)) rfl ?_
              refine dc_cons (q_on_f rfl rfl rfl (by assumption) (by exact (by exact opd_loadn_ref rfl Tryz.isAgg24 Tryz.sizeOf24 rfl rfl rfl rfl (by simp only [List.drop_succ_cons, List.drop_zero, List.take_succ_cons, List.take_zero, List.take_nil, List.map_cons, List.map_nil, List.set_cons_zero, List.set_cons_succ, List.cons_append, List.nil_append, encTag, encObj, encStr, encEdit, encInt]; rfl) rfl))) rfl ?_
              refine dc_cons (q_on_f rfl rfl rfl (by assumption) (by exact opd_move rfl rfl)) rfl ?_
              refine dc_cons (q_on_f rfl rfl rfl (by assumption) (by exact opd_move rfl rfl)) rfl ?_
              refine dc_cons (q_on_f rfl rfl rfl (by assumption) (by exact (by exact x_index_pad rfl so25 rfl rfl (by omega) (by exact Int.toNat_natCast _) (by assumption) rfl))) rfl ?_
              refine dc_cons (q_on_f rfl rfl rfl (by assumption) (by exact (by exact opd_loadn_pad rfl Tryz.isAgg44 Tryz.sizeOf44 rfl (by omega) (by simp only [List.drop_succ_cons, List.drop_zero, List.take_succ_cons, List.take_zero, List.take_nil, List.map_cons, List.map_nil, List.set_cons_zero, List.set_cons_succ, List.cons_append, List.nil_append, encTag, encObj, encStr, encEdit, encInt]; rfl) rfl))) rfl ?_
              refine dc_cons (q_on_f rfl rfl rfl (by assumption) (by exact (by exact opd_field_ref rfl fo31_0 rfl rfl rfl rfl))) rfl ?_
              refine dc_cons (q_on_f rfl rfl rfl (by assumption) (by exact (by exact opd_load1_ref rfl Tryz.isAgg3 rfl rfl rfl rfl rfl))) rfl ?_
              refine dc_cons (q_on_f rfl rfl rfl (by assumption) (by exact opr_call rfl rfl Tryz.call117 rfl (hShow _))) rfl ?_
              refine dc_cons (q_on_f rfl rfl rfl (by assumption) (by exact opd_not rfl rfl)) rfl ?_
              refine dc_cons (DStep.q rfl (by exact (by exact opd_pickf rfl rfl (by assumption) rfl))) rfl ?_
              refine dc_nil ⟨by kernel_rfl, ?_⟩
              exact ⟨rfl, ⟨_, rfl, by rfl⟩, rfl, rfl, rfl⟩
            · refine awp_drawc follows ?_
              refine dc_cons (DStep.q rfl (by exact opd_move rfl rfl)) rfl ?_
              refine dc_cons (DStep.q rfl (by exact opd_lss rfl rfl rfl)) rfl ?_
              refine dc_cons (DStep.q rfl (by exact opd_move rfl rfl)) rfl ?_
              refine dc_cons (q_on_f rfl rfl rfl (by rfl) (by exact opd_move rfl rfl)) rfl ?_
              refine dc_cons (q_on_f rfl rfl rfl (by rfl) (by exact opd_move rfl rfl)) rfl ?_
              refine dc_cons (q_on_f rfl rfl rfl (by rfl) (by exact (by exact opd_len_sl rfl Tryz.underlying25 rfl))) rfl ?_
              refine dc_cons (q_on_f rfl rfl rfl (by rfl) (by exact opd_geq rfl rfl rfl)) rfl ?_
              refine dc_cons (DStep.q rfl (by exact (by exact opd_pick_f rfl rfl rfl))) rfl ?_
              refine dc_cons (DStep.q rfl (by exact opd_move rfl rfl)) rfl ?_
              refine dc_cons (q_on_f rfl rfl rfl (by assumption) (by exact opd_move rfl rfl)) rfl ?_
              refine dc_cons (q_on_f rfl rfl rfl (by assumption) (by exact opd_gtr rfl rfl rfl)) rfl ?_
              refine dc_cons (q_on_f rfl rfl rfl (by assumption) (by exact opd_move rfl rfl)) rfl ?_
              refine dc_cons (q_on_t rfl rfl rfl (by assumption) (by exact opd_move rfl rfl)) rfl ?_
              refine dc_cons (q_on_t rfl rfl rfl (by assumption) (by exact (by exact opd_field_ref rfl fo31_1 rfl rfl rfl rfl))) rfl ?_
              refine dc_cons (q_on_t rfl rfl rfl (by assumption) (by exact (by exact opd_load1_ref rfl Tryz.isAgg29 rfl rfl rfl rfl rfl))) rfl ?_
              refine dc_cons (q_on_t rfl rfl rfl (by assumption) (by exact opd_move rfl rfl)) rfl ?_
              refine dc_cons (q_on_t rfl rfl rfl (by assumption) (by exact opd_sub rfl rfl rfl (by exact w64 (by omega) (by omega)))) rfl ?_
              refine dc_cons (q_on_t rfl rfl rfl (by assumption) (by exact x_index_pad rfl so29 rfl rfl (by have := of_decide_eq_true hg60; omega) (show ((i : Int) - 1).toNat = i - 1 by omega) (hpv (by have := of_decide_eq_true hg60; omega)) rfl)) rfl ?_
              refine dc_cons (q_on_t rfl rfl rfl (by assumption) (by exact opd_load1_pad rfl Tryz.isAgg3 rfl (hpv (by have := of_decide_eq_true hg60; omega)) rfl)) rfl ?_
              refine dc_cons (q_on_t rfl rfl rfl (by assumption) (by exact opd_leq rfl rfl rfl)) rfl ?_
              refine dc_cons (q_on_f rfl rfl rfl (by assumption) (by exact (by exact opd_pickt rfl rfl (by assumption) rfl))) rfl ?_
              refine dc_cons (DStep.q rfl (by exact (by exact opd_pickf rfl rfl (by assumption) rfl))) rfl ?_
              refine dc_cons (DStep.q rfl (by exact opd_move rfl rfl)) rfl ?_
              refine dc_cons (q_off_f rfl rfl rfl (by assumption)) rfl ?_
              refine dc_cons (q_off_f rfl rfl rfl (by assumption)) rfl ?_
              refine dc_cons (q_off_f rfl rfl rfl (by assumption)) rfl ?_
              refine dc_cons (q_off_f rfl rfl rfl (by assumption)) rfl ?_
              refine dc_cons (q_off_f rfl rfl rfl (by assumption)) rfl ?_
              refine dc_cons (q_off_f rfl rfl rfl (by assumption)) rfl ?_
              refine dc_cons (q_off_f rfl rfl rfl (by assumption)) rfl ?_
              refine dc_cons (q_off_f rfl rfl rfl (by assumption)) rfl ?_
              refine dc_cons (q_off_f rfl rfl rfl (by assumption)) rfl ?_
              refine dc_cons (DStep.q rfl (by exact (by exact opd_pickt rfl rfl (by assumption) rfl))) rfl ?_
              refine dc_nil ⟨by kernel_rfl, ?_⟩
              exact ⟨rfl, ⟨_, rfl, by rfl⟩, rfl, rfl, rfl⟩
        refine awp_cond rfl (fun hc3 => ?_) (fun hc3 => ?_)
        -- cond 3
        · exfalso
          simp only [Bool.and_eq_true, decide_eq_true_eq] at hc3
          have := (hpq (by omega)).2
          omega
        · skip
          refine awp_skip ?_
          refine awp_seq ?_
          refine awp_region ?_
          refine al_d rfl rfl rfl (by exact opd_assign rfl rfl) ?_
          refine al_nil ?_
          refine awp_block ?_
          -- loop
          refine awp_loop (σ := Nat) (fun j => ([(1, .pv (slEdits l)), (3, .ref 3 0 0 0), (5, .ref 5 0 0 0), (7, iv (i : Int)), (8, iv (q : Int)), (9, iv (j : Int))], [(5, bx 2 31 [iv (k : Int), .pv (slInts (toI p))]), (3, bx 1 24 [.pv (slObjs m)])])) (fun j => j ≤ i) (fun j => i - j) 0 (by omega) ?_ ?_
          · exact (Ent.wk ⟨⟨_, rfl, rfl⟩, (by (simp; done)), ⟨_, rfl, rfl⟩, (by (simp; rfl)), ⟨_, rfl, rfl⟩, (by (simp; rfl)), ⟨_, rfl, rfl⟩, (by (simp; done)), ⟨_, rfl, rfl⟩, (by (simp; done)), ⟨_, rfl, rfl⟩, (by (simp; done)), trivial⟩ ⟨⟨_, rfl, rfl⟩, (by (simp; done)), ⟨_, rfl, rfl⟩, (by (simp; done)), trivial⟩ trivial)
          · intro j hj
            refine awp_seq ?_
            refine awp_seq ?_
            refine awp_region ?_
            refine al_d rfl rfl rfl (by exact opd_move rfl rfl) ?_
            refine al_d rfl rfl rfl (by exact opd_move rfl rfl) ?_
            refine al_d rfl rfl rfl (by exact opd_lss rfl rfl rfl) ?_
            refine al_nil ?_
            refine awp_cond rfl (fun hc4 => ?_) (fun hc4 => ?_)
            -- cond 4
            · have hji : j < i := by have := of_decide_eq_true hc4; omega
              obtain ⟨r, hr⟩ := get_of_lt (l := p) (k := j) (by omega)
              obtain ⟨y, hy, _⟩ := hsh r (List.mem_of_getElem? hr)
              have hri : ((toI p).map encInt)[j]? = some (encInt (r : Int)) := by rw [toI, List.map_map, List.getElem?_map, hr]; rfl
              have hye := map_get (f := encEdit) hy
              have hyt := hts y (List.mem_of_getElem? hy)
              have hfit : rFit k y x = true := by
                obtain ⟨a1, a2⟩ := List.getElem?_eq_some_iff.1 hr
                obtain ⟨b1, b2⟩ := List.getElem?_eq_some_iff.1 hq
                rw [List.pairwise_iff_getElem] at hpw
                have := (hpw j i a1 b1 hji).2
                rw [a2, b2] at this
                exact this y x hy hx
              have hFit := fun H => rFit_c k y x H hyt.1 hyt.2
              rw [hfit] at hFit
              refine awp_skip ?_
              refine awp_seq ?_
              refine awp_block ?_
              refine awp_seq ?_
              refine awp_drawc follows ?_
              refine dc_cons (DStep.q rfl (by exact opd_move rfl rfl)) rfl ?_
              refine dc_cons (DStep.q rfl (by exact (by exact opd_field_ref rfl fo31_1 rfl rfl rfl rfl))) rfl ?_
              refine dc_cons (DStep.q rfl (by exact (by exact opd_load1_ref rfl Tryz.isAgg29 rfl rfl rfl rfl rfl))) rfl ?_
              refine dc_cons (DStep.q rfl (by exact opd_move rfl rfl)) rfl ?_
              refine dc_cons (DStep.q rfl (by exact (by exact x_index_pad rfl so29 rfl rfl (by omega) (by exact Int.toNat_natCast _) (by assumption) rfl))) rfl ?_
              refine dc_cons (DStep.q rfl (by exact (by exact opd_load1_pad rfl Tryz.isAgg3 rfl (by omega) rfl))) rfl ?_
              refine dc_cons (DStep.q rfl (by exact (by exact x_index_pad rfl so25 rfl rfl (by omega) (by exact Int.toNat_natCast _) (by assumption) rfl))) rfl ?_
              refine dc_cons (DStep.q rfl (by exact (by exact opd_loadn_pad rfl Tryz.isAgg44 Tryz.sizeOf44 rfl (by omega) (by simp only [List.drop_succ_cons, List.drop_zero, List.take_succ_cons, List.take_zero, List.take_nil, List.map_cons, List.map_nil, List.set_cons_zero, List.set_cons_succ, List.cons_append, List.nil_append, encTag, encObj, encStr, encEdit, encInt]; rfl) rfl))) rfl ?_
              refine dc_cons (DStep.q rfl (by exact opd_move rfl rfl)) rfl ?_
              refine dc_cons (DStep.q rfl (by exact opd_move rfl rfl)) rfl ?_
              refine dc_cons (DStep.q rfl (by exact (by exact x_index_pad rfl so25 rfl rfl (by omega) (by exact Int.toNat_natCast _) (by assumption) rfl))) rfl ?_
              refine dc_cons (DStep.q rfl (by exact (by exact opd_loadn_pad rfl Tryz.isAgg44 Tryz.sizeOf44 rfl (by omega) (by simp only [List.drop_succ_cons, List.drop_zero, List.take_succ_cons, List.take_zero, List.take_nil, List.map_cons, List.map_nil, List.set_cons_zero, List.set_cons_succ, List.cons_append, List.nil_append, encTag, encObj, encStr, encEdit, encInt]; rfl) rfl))) rfl ?_
              refine dc_cons (DStep.q rfl (by exact (by exact opd_field_ref rfl fo31_0 rfl rfl rfl rfl))) rfl ?_
              refine dc_cons (DStep.q rfl (by exact (by exact opd_load1_ref rfl Tryz.isAgg3 rfl rfl rfl rfl rfl))) rfl ?_
              refine dc_cons (DStep.q rfl (by exact opr_call rfl rfl Tryz.call118 rfl (hFit _))) rfl ?_
              refine dc_cons (DStep.q rfl (by exact opd_not rfl rfl)) rfl ?_
              refine dc_nil ⟨by kernel_rfl, ?_⟩
              refine awp_cond rfl (fun hc5 => ?_) (fun hc5 => ?_)
              -- cond 5
              · cases hc5
              · skip
                refine awp_skip ?_
                refine awp_region ?_
                refine al_d rfl rfl rfl (by exact opd_move rfl rfl) ?_
                refine al_d rfl rfl rfl (by exact opd_add rfl rfl rfl (by exact w64 (by omega) (by omega))) ?_
                refine al_d rfl rfl rfl (by exact opd_assign rfl rfl) ?_
                refine al_nil ?_
                -- end of a round
                exact ⟨j + 1, by omega, by omega, (Ent.wk ⟨⟨_, rfl, rfl⟩, (by (simp; done)), ⟨_, rfl, rfl⟩, (by (simp; rfl)), ⟨_, rfl, rfl⟩, (by (simp; rfl)), ⟨_, rfl, rfl⟩, (by (simp; done)), ⟨_, rfl, rfl⟩, (by (simp; done)), ⟨_, rfl, rfl⟩, (by (simp; done)), trivial⟩ ⟨⟨_, rfl, rfl⟩, (by (simp; done)), ⟨_, rfl, rfl⟩, (by (simp; done)), trivial⟩ trivial)⟩
            · skip
              refine awp_exit ?_
              refine awp_region ?_
              refine al_d rfl rfl rfl (by exact opd_move rfl rfl) ?_
              refine al_d rfl rfl rfl (by exact opd_add rfl rfl rfl (by exact w64 (by omega) (by omega))) ?_
              refine al_d rfl rfl rfl (by exact opd_assign rfl rfl) ?_
              refine al_nil ?_
              -- end of a round
              exact ⟨i + 1, by omega, by omega, (Ent.wk ⟨⟨_, rfl, rfl⟩, (by (simp; done)), ⟨_, rfl, rfl⟩, (by (simp; rfl)), ⟨_, rfl, rfl⟩, (by (simp; rfl)), ⟨_, rfl, rfl⟩, (by (simp; done)), trivial⟩ ⟨⟨_, rfl, rfl⟩, (by (simp; done)), ⟨_, rfl, rfl⟩, (by (simp; done)), trivial⟩ trivial)⟩
      · skip
        refine awp_exit ?_
        refine awp_seq ?_
        refine awp_region ?_
        refine al_d rfl rfl rfl (by exact opd_assign rfl rfl) ?_
        refine al_nil ?_
        refine awp_ret ?_
        -- return
        refine aret1 (H' := []) (by exact .inr rfl) rfl (rval_tmp rfl) (Fin.wk (by simp) trivial trivial) ?_
        exact ⟨rfl, rfl⟩
end Go.Proofs.YtdgoodjhndeojaaGreat
end
section
set_option linter.unusedVariables false
set_option linter.unusedSimpArgs false
namespace Go.Proofs.YtdgoodjhndeojaaGreat
open Go.Abs
section
variable {α κ : Type}
def rLoop (S : α → Bool) (T : α → α → Bool) (n : Nat) : List α → Nat → Option (List Nat)
  | [], _ => none
  | x :: r, i => if S x = true ∧ (gr S T (x :: r) i n []).length = n then some (gr S T (x :: r) i n []) else rLoop S T n r (i + 1)
theorem kLoop_false {S : α → Bool} {T : α → α → Bool} {n : Nat} : ∀ (rest : List α) (i : Nat), kLoop false S T n rest i = rLoop S T n rest i
  | [], i => rfl
  | x :: r, i => by
    rw [kLoop, rLoop, kLoop_false r (i + 1)]
    by_cases hs : S x = true
    · rw [if_pos hs]
      by_cases hn : (gr S T (x :: r) i n []).length = n
      · rw [if_pos hn, if_pos ⟨hs, hn⟩]
      · rw [if_neg hn, if_neg (show ¬ (false = true) by simp), if_neg (fun h => hn h.2)]
    · rw [if_neg hs, if_neg (fun h => hs h.1)]
theorem rLoop_sound {S : α → Bool} {T : α → α → Bool} {n : Nat} (l : List α) : ∀ (rest : List α) (i : Nat) (p : List Nat), l.drop i = rest → rLoop S T n rest i = some p → p.length = n ∧ ∃ j, i ≤ j ∧ p = gr S T (l.drop j) j n []
  | [], i, p, h, hk => by simp [rLoop] at hk
  | x :: r, i, p, h, hk => by
    obtain ⟨hx, hr⟩ := drop_cons h
    rw [rLoop] at hk
    split at hk
    · next hn => cases hk; exact ⟨hn.2, i, Nat.le_refl _, by rw [h]⟩
    · obtain ⟨a, j, b, c⟩ := rLoop_sound l r (i + 1) p hr hk
      exact ⟨a, j, by omega, c⟩
theorem kLoop_true {S : α → Bool} {T : α → α → Bool} {kf : α → κ} (hT : ∀ a b, T a b = true ↔ kf a ≠ kf b) {n : Nat} (hn : 0 < n) (l : List α) : ∀ (rest : List α) (i : Nat), l.drop i = rest → kLoop true S T n rest i = rLoop S T n rest i
  | [], i, _ => rfl
  | x :: r, i, h => by
    obtain ⟨hx, hr⟩ := drop_cons h
    by_cases hs : S x = true
    · by_cases hl : (gr S T (x :: r) i n []).length = n
      · rw [kLoop, rLoop, if_pos hs, if_pos hl, if_pos ⟨hs, hl⟩]
      · have hk : kLoop true S T n (x :: r) i = none := by rw [kLoop, if_pos hs, if_neg hl]; rfl
        rw [hk, rLoop, if_neg (fun h => hl h.2)]
        cases hq : rLoop S T n r (i + 1) with
        | none => rfl
        | some p =>
          obtain ⟨a, j, b, c⟩ := rLoop_sound l r (i + 1) p hr hq
          obtain ⟨g1, g2, _⟩ := gr_sound (S := S) (T := T) l (l.drop j) j n [] rfl
          rw [← c] at g1 g2
          have hc : Choice S T l n p := ⟨a, g2.imp (fun h => h.1), fun q hq => by obtain ⟨_, x, h3, h4, _⟩ := g1 q hq; exact ⟨x, h3, h4⟩, g2.imp (fun h => h.2)⟩
          obtain ⟨p', h1, _⟩ := kLoop_least hT hn hc (x :: r) i h (fun q hq => by have := (g1 q hq).1; omega)
          rw [hk] at h1
          cases h1
    · rw [kLoop, rLoop, if_neg hs, if_neg (fun h => hs h.1)]
      exact kLoop_true hT hn l r (i + 1) hr
theorem gr_congr {S : α → Bool} {T T' : α → α → Bool} {l : List α} (h : ∀ y x, y ∈ l → x ∈ l → S y = true → S x = true → T y x = T' y x) : ∀ (rest : List α) (i n : Nat) (tk : List α), (∀ x ∈ rest, x ∈ l) → (∀ y ∈ tk, y ∈ l ∧ S y = true) → gr S T rest i n tk = gr S T' rest i n tk
  | [], _, _, _, _, _ => rfl
  | _ :: _, _, 0, _, _, _ => rfl
  | x :: r, i, n + 1, tk, hr, ht => by
    have hxl := hr x (by simp)
    have hrl : ∀ z ∈ r, z ∈ l := fun z hz => hr z (by simp [hz])
    rw [gr, gr]
    cases hs : S x with
    | false =>
      simp only [Bool.false_and]
      exact gr_congr h r (i + 1) (n + 1) tk hrl ht
    | true =>
      have ha : (tk.any fun y => !T y x) = (tk.any fun y => !T' y x) := by
        rw [Bool.eq_iff_iff, List.any_eq_true, List.any_eq_true]
        constructor
        · rintro ⟨y, hy, hq⟩
          exact ⟨y, hy, by rw [← h y x (ht y hy).1 hxl (ht y hy).2 hs]; exact hq⟩
        · rintro ⟨y, hy, hq⟩
          exact ⟨y, hy, by rw [h y x (ht y hy).1 hxl (ht y hy).2 hs]; exact hq⟩
      rw [ha]
      rw [gr_congr h r (i + 1) n (tk ++ [x]) hrl (fun y hy => by
        rcases List.mem_append.1 hy with hy | hy
        · exact ht y hy
        · rw [List.mem_singleton.1 hy]; exact ⟨hxl, hs⟩), gr_congr h r (i + 1) (n + 1) tk hrl ht]
theorem rLoop_congr {S : α → Bool} {T T' : α → α → Bool} {n : Nat} {l : List α} (h : ∀ y x, y ∈ l → x ∈ l → S y = true → S x = true → T y x = T' y x) : ∀ (rest : List α) (i : Nat), (∀ x ∈ rest, x ∈ l) → rLoop S T n rest i = rLoop S T' n rest i
  | [], _, _ => rfl
  | x :: r, i, hr => by
    rw [rLoop, rLoop, gr_congr h (x :: r) i n [] hr (by simp), rLoop_congr h r (i + 1) (fun z hz => hr z (by simp [hz]))]
end
theorem edit_op {e : GEdit} (h : gEditV e = true) (h1 : e.op = 1) : gObj e.obj = true := by
  simp only [gEditV, Bool.and_eq_true, okOf, h1] at h
  exact h.2.1
theorem rFit_tog {m : List GObj} {l : List GEdit} {k : Nat} (h1 : 1 ≤ k) (h4 : k ≤ 4) (hv : ∀ e ∈ l, gEditV e = true) (a b : GEdit) (ha : a ∈ l) (hb : b ∈ l) (sa : eShows k m a = true) (sb : eShows k m b = true) : rFit k a b = eTog k a b := by
  by_cases hk : k = 4
  · subst hk
    simp only [eShows, Bool.and_eq_true, decide_eq_true_eq] at sa sb
    have ra := (obj_kind (edit_op (hv a ha) sa.1)).2.2 sa.2
    have rb := (obj_kind (edit_op (hv b hb) sb.1)).2.2 sb.2
    rw [rFit, if_pos rfl]
    simp only [eTog, eAlike, gSameO, noId, ra, rb, sa.2, sb.2, decide_true, Bool.true_and, Bool.and_true, Bool.and_assoc]
  · rw [rFit, if_neg hk]
    match k, h1, h4, hk with
    | 1, _, _, _ => rfl
    | 2, _, _, _ => rfl
    | 3, _, _, _ => rfl
    | 4, _, _, h => exact absurd rfl h
    | n + 5, _, h, _ => exact absurd h (by omega)
theorem rK_eq {m : List GObj} {l : List GEdit} {k : Nat} (h1 : 1 ≤ k) (h4 : k ≤ 4) (hv : ∀ e ∈ l, gEditV e = true) :
    kAns m l k = if k = 1 ∧ 2 * nDrops l ≤ l.length then none else rLoop (eShows k m) (rFit k) (nMany k) l 0 := by
  rw [kAns]
  split
  · rfl
  · rw [rLoop_congr (fun y x hy hx sy sx => rFit_tog h1 h4 hv y x hy hx sy sx) l 0 (fun _ h => h)]
    have hp := (nMany_pos k).1
    by_cases hk : k = 4
    · rw [show decide (k ≠ 4) = false by simp [hk]]
      exact kLoop_false l 0
    · rw [show decide (k ≠ 4) = true by simp [hk]]
      refine kLoop_true (kf := fun (e : GEdit) => e.id) (fun a b => ?_) (by omega) l l 0 rfl
      have : eTog k a b = eApart a b := by
        match k, h1, h4, hk with
        | 1, _, _, _ => rfl
        | 2, _, _, _ => rfl
        | 3, _, _, _ => rfl
        | 4, _, _, h => exact absurd rfl h
        | n + 5, _, h, _ => exact absurd h (by omega)
      rw [this, eApart]
      simp
end Go.Proofs.YtdgoodjhndeojaaGreat
end
section
set_option linter.unusedVariables false
set_option linter.unusedSimpArgs false
set_option maxRecDepth 100000
namespace Go.Proofs.YtdgoodjhndeojaaGreat
open Go.Abs
theorem chg_all {l : List GEdit} (h : gChange l = true) : ∀ e ∈ l, gEditV e = true := by
  intro e he
  simp only [gChange, Bool.and_eq_true, Bool.not_eq_true', List.any_eq_false, Bool.not_eq_true', Bool.not_eq_false'] at h
  have := h.2 e he
  simpa using this
theorem rFirst_facts {S : GEdit → Bool} {T : GEdit → GEdit → Bool} {l : List GEdit} {f n : Nat} {x0 : GEdit} : (∀ q ∈ rFirst S T l f n x0, ∃ x, l[q]? = some x ∧ S x = true) ∧ (rFirst S T l f n x0).Pairwise (fun a b => a < b ∧ ∀ x y, l[a]? = some x → l[b]? = some y → T x y = true) ∧ (rFirst S T l f n x0).length ≤ n := by
  rw [rFirst]
  split
  · obtain ⟨a, b, c⟩ := gr_sound (S := S) (T := T) l (l.drop f) f n [] rfl
    exact ⟨fun q hq => by obtain ⟨_, x, h3, h4, _⟩ := a q hq; exact ⟨x, h3, h4⟩, b, c⟩
  · exact ⟨fun q hq => (by cases hq), List.Pairwise.nil, Nat.zero_le _⟩
theorem rFind31_c (m : List GObj) (l : List GEdit) (H : Heap) (h : okEv m l) (hr : ∀ e ∈ l, e.refs.length < 1099511627776) : ACalls Tryz.prog 20 [.agg [.pv (slObjs m)], .pv (slEdits l)] H (fun r H' => r = .agg [iv (gFind m l).1, .pv (slInts (gFind m l).2)] ∧ H' = H) := by
  refine ACalls.pure ?_ (by simp) H
  obtain ⟨hm, hmm, hl, he⟩ := h
  have hml : (l.map encEdit).length = l.length := List.length_map _
  have hts : ∀ e ∈ l, e.obj.refs.length < 4611686018427387904 ∧ e.obj.tags.length < 4611686018427387904 := fun e hel => ⟨(he e hel).2.2.2.2.1, (he e hel).2.2.2.1.1⟩
  refine ACalls.body Tryz.func20 rfl Tryz.ntmps20 (Nat.le_of_ble_eq_true rfl) ?_
  refine awp_seq ?_
  refine awp_region ?_
  refine al_d rfl rfl rfl (by exact opd_box (id := 2) rfl rfl rfl rfl rfl) ?_
  refine al_d rfl rfl rfl (by exact x_alloc (id := 4) rfl zo31 rfl rfl) ?_
  refine al_nil ?_
  refine awp_seq ?_
  refine awp_seq ?_
  refine awp_bool (t := 15) (n := 9) (X := !closedB m || !gChange l) ?_ ?_
  · all_goals (refine al_d rfl rfl rfl (by exact (by exact opd_loadn_ref rfl Tryz.isAgg24 Tryz.sizeOf24 rfl rfl rfl rfl (by simp only [List.drop_succ_cons, List.drop_zero, List.take_succ_cons, List.take_zero, List.take_nil, List.map_cons, List.map_nil, List.set_cons_zero, List.set_cons_succ, List.cons_append, List.nil_append, encTag, encObj, encStr, encEdit, encInt]; rfl) rfl)) ?_)
    all_goals (refine al_d rfl rfl rfl (by exact opr_call rfl rfl Tryz.call60 rfl (rClosed22_c m _ hm hmm)) ?_)
    all_goals (refine al_d rfl rfl rfl (by exact opd_not rfl rfl) ?_)
    all_goals (refine al_d rfl rfl rfl (by exact opd_move rfl rfl) ?_)
    all_goals (refine al_split (t := 11) rfl (fun h11 => ?_) (fun h11 => ?_))
    all_goals (try contradiction)
    all_goals (first | refine al_off rfl rfl rfl rfl rfl ?_ | refine al_ond rfl rfl rfl rfl rfl rfl (by exact opd_move rfl rfl) ?_)
    all_goals (first | refine al_off rfl rfl rfl rfl rfl ?_ | refine al_ond rfl rfl rfl rfl rfl rfl (by exact opr_call rfl rfl Tryz.call61 rfl (rChange_c l _ hl he hr)) ?_)
    all_goals (first | refine al_off rfl rfl rfl rfl rfl ?_ | refine al_ond rfl rfl rfl rfl rfl rfl (by exact opd_not rfl rfl) ?_)
    all_goals (refine al_d rfl rfl rfl (by exact (by first | exact opd_pick_t rfl rfl rfl | exact opd_pick_f rfl rfl rfl)) ?_)
    all_goals (refine al_nil ?_)
    all_goals (exact ⟨⟨_, rfl, by (simp only [*, Bool.false_and, Bool.true_and, Bool.and_false, Bool.and_true, Bool.true_or, Bool.false_or, Bool.or_true, Bool.or_false, Bool.not_true, Bool.not_false]; done)⟩, rfl, rfl, rfl⟩)
  refine awp_cond rfl (fun hc1 => ?_) (fun hc1 => ?_)
  -- cond 1
  · have hf : gFind m l = (0, []) := by
      rw [gFind, if_neg]
      simp only [Bool.or_eq_true, Bool.not_eq_true'] at hc1
      rcases hc1 with e | e <;> simp [e]
    rw [hf]
    refine awp_seq ?_
    refine awp_region ?_
    refine al_d rfl rfl rfl (by exact x_build rfl bo31 rfl rfl) ?_
    refine al_n rfl rfl (by exact (by exact x_store_all rfl Tryz.sizeOf31 rfl rfl rfl rfl rfl rfl rfl rfl)) ?_
    refine al_nil ?_
    refine awp_ret ?_
    -- return
    refine aret1 (H' := []) (by exact .inr rfl) rfl (rval_cell rfl Tryz.isAgg31 Tryz.sizeOf31 rfl rfl rfl rfl rfl) (Fin.wk (r := .agg [iv 0, lv []]) (by simp) trivial trivial) ?_
    exact ⟨rfl, rfl⟩
  · simp only [Bool.or_eq_false_iff, Bool.not_eq_false'] at hc1
    obtain ⟨hc, hg⟩ := hc1
    have hf : gFind m l = ((((kFirst m l 4 1).1 : Nat) : Int), toI (kFirst m l 4 1).2) := fnd_of hc hg
    have hv := chg_all hg
    rw [hf]
    refine awp_skip ?_
    refine awp_seq ?_
    refine awp_seq ?_
    refine awp_region ?_
    refine al_d rfl rfl rfl (by exact opd_assign rfl rfl) ?_
    refine al_nil ?_
    refine awp_block ?_
    -- loop
    refine awp_loop (σ := Nat) (fun k => ([(1, .pv (slEdits l)), (2, .ref 2 0 0 0), (4, .ref 4 0 0 0), (5, iv (k : Int))], [(4, bx 2 31 [iv 0, lv []]), (2, bx 1 24 [.pv (slObjs m)])])) (fun k => (1 ≤ k ∧ k ≤ 5) ∧ kFirst m l 4 1 = kFirst m l (5 - k) k) (fun k => 5 - k) 1 ⟨by omega, rfl⟩ ?_ ?_
    · exact (Ent.wk ⟨⟨_, rfl, rfl⟩, (by (simp; done)), ⟨_, rfl, rfl⟩, (by (simp; rfl)), ⟨_, rfl, rfl⟩, (by (simp; rfl)), ⟨_, rfl, rfl⟩, (by (simp; done)), trivial⟩ ⟨⟨_, rfl, rfl⟩, (by (simp; done)), ⟨_, rfl, rfl⟩, (by (simp; done)), trivial⟩ trivial)
    · rintro k ⟨⟨h1, h5⟩, hinv⟩
      refine awp_seq ?_
      refine awp_seq ?_
      refine awp_region ?_
      refine al_d rfl rfl rfl (by exact opd_move rfl rfl) ?_
      refine al_d rfl rfl rfl (by exact opd_leq rfl rfl rfl) ?_
      refine al_nil ?_
      refine awp_cond rfl (fun hc2 => ?_) (fun hc2 => ?_)
      -- cond 2
      · have h4 : k ≤ 4 := by have := of_decide_eq_true hc2; omega
        obtain ⟨d, hd⟩ : ∃ d, 5 - k = d + 1 := ⟨4 - k, by omega⟩
        have hrk := rK_eq (m := m) h1 h4 hv
        have hn5 := nMany_pos k
        rw [hd] at hinv
        rw [show kFirst m l (d + 1) k = (match kAns m l k with | some p => (k, p) | none => kFirst m l d (k + 1)) from rfl] at hinv
        refine awp_skip ?_
        refine awp_seq ?_
        refine awp_block ?_
        refine awp_seq ?_
        refine awp_region ?_
        refine al_d rfl rfl rfl (by exact opd_assign rfl rfl) ?_
        refine al_nil ?_
        refine awp_block ?_
        -- loop
        refine awp_loop (σ := Nat) (fun f => ([(1, .pv (slEdits l)), (2, .ref 2 0 0 0), (4, .ref 4 0 0 0), (5, iv (k : Int)), (6, iv (f : Int))], [(4, bx 2 31 [iv 0, lv []]), (2, bx 1 24 [.pv (slObjs m)])]))
          (fun f => f ≤ l.length ∧ ((k = 1 ∧ 2 * nDrops l ≤ l.length) ∨ rLoop (eShows k m) (rFit k) (nMany k) l 0 = rLoop (eShows k m) (rFit k) (nMany k) (l.drop f) f)) (fun f => l.length - f) 0 ⟨by omega, .inr rfl⟩ ?_ ?_
        · exact (Ent.wk ⟨⟨_, rfl, rfl⟩, (by (simp; done)), ⟨_, rfl, rfl⟩, (by (simp; rfl)), ⟨_, rfl, rfl⟩, (by (simp; rfl)), ⟨_, rfl, rfl⟩, (by (simp; done)), ⟨_, rfl, rfl⟩, (by (simp; done)), trivial⟩ ⟨⟨_, rfl, rfl⟩, (by (simp; done)), ⟨_, rfl, rfl⟩, (by (simp; done)), trivial⟩ trivial)
        · rintro f ⟨hfl, hor⟩
          refine awp_seq ?_
          refine awp_seq ?_
          refine awp_region ?_
          refine al_d rfl rfl rfl (by exact opd_move rfl rfl) ?_
          refine al_d rfl rfl rfl (by exact opd_move rfl rfl) ?_
          refine al_d rfl rfl rfl (by exact (by exact opd_len_sl rfl Tryz.underlying25 rfl)) ?_
          refine al_d rfl rfl rfl (by exact opd_lss rfl rfl rfl) ?_
          refine al_nil ?_
          refine awp_cond rfl (fun hc3 => ?_) (fun hc3 => ?_)
          -- cond 3
          · have hlt : f < l.length := by have := of_decide_eq_true hc3; omega
            obtain ⟨x0, hx0⟩ := get_of_lt hlt
            have hdr : l.drop f = x0 :: l.drop (f + 1) := by
              obtain ⟨hl1, he1⟩ := List.getElem?_eq_some_iff.1 hx0
              rw [List.drop_eq_getElem_cons hl1, he1]
            obtain ⟨p, hp⟩ : ∃ p, p = rFirst (eShows k m) (rFit k) l f (nMany k) x0 := ⟨_, rfl⟩
            have hpf := rFirst_facts (S := eShows k m) (T := rFit k) (l := l) (f := f) (n := nMany k) (x0 := x0)
            have hFirst := fun H => rFirst_c k m l f x0 H hm hl hx0 hts h1 h4
            rw [← hp] at hpf hFirst
            have hpl : ((toI p).map encInt).length = p.length := by rw [List.length_map, List.length_map]
            refine awp_skip ?_
            refine awp_seq ?_
            refine awp_block ?_
            refine awp_seq ?_
            refine awp_region ?_
            refine al_d rfl rfl rfl (by exact opd_move rfl rfl) ?_
            refine al_d rfl rfl rfl (by exact (by exact opd_loadn_ref rfl Tryz.isAgg24 Tryz.sizeOf24 rfl rfl rfl rfl (by simp only [List.drop_succ_cons, List.drop_zero, List.take_succ_cons, List.take_zero, List.take_nil, List.map_cons, List.map_nil, List.set_cons_zero, List.set_cons_succ, List.cons_append, List.nil_append, encTag, encObj, encStr, encEdit, encInt]; rfl) rfl)) ?_
            refine al_d rfl rfl rfl (by exact opd_move rfl rfl) ?_
            refine al_d rfl rfl rfl (by exact opd_move rfl rfl) ?_
            refine al_d rfl rfl rfl (by exact opd_move rfl rfl) ?_
            refine al_d rfl rfl rfl (by exact opr_call rfl rfl Tryz.call62 rfl (hFirst _)) ?_
            refine al_d rfl rfl rfl (by exact x_build rfl bo31 rfl rfl) ?_
            refine al_d rfl rfl rfl (by exact x_alloc (id := 7) rfl zo31 rfl rfl) ?_
            refine al_n rfl rfl (by exact (by exact x_store_all rfl Tryz.sizeOf31 rfl rfl rfl rfl rfl rfl rfl rfl)) ?_
            refine al_nil ?_
            refine awp_seq ?_
            refine awp_region ?_
            refine al_d rfl rfl rfl (by exact (by exact opd_loadn_ref rfl Tryz.isAgg24 Tryz.sizeOf24 rfl rfl rfl rfl (by simp only [List.drop_succ_cons, List.drop_zero, List.take_succ_cons, List.take_zero, List.take_nil, List.map_cons, List.map_nil, List.set_cons_zero, List.set_cons_succ, List.cons_append, List.nil_append, encTag, encObj, encStr, encEdit, encInt]; rfl) rfl)) ?_
            refine al_d rfl rfl rfl (by exact opd_move rfl rfl) ?_
            refine al_d rfl rfl rfl (by exact (by exact opd_loadn_ref rfl Tryz.isAgg31 Tryz.sizeOf31 rfl rfl rfl rfl (by simp only [List.drop_succ_cons, List.drop_zero, List.take_succ_cons, List.take_zero, List.take_nil, List.map_cons, List.map_nil, List.set_cons_zero, List.set_cons_succ, List.cons_append, List.nil_append, encTag, encObj, encStr, encEdit, encInt]; rfl) rfl)) ?_
            refine al_d rfl rfl rfl (by exact opr_call rfl rfl Tryz.call63 rfl (rHolds_c k m l p _ hm hl (by omega) hts h1 h4 hpf.1 hpf.2.1)) ?_
            refine al_nil ?_
            refine awp_cond rfl (fun hc4 => ?_) (fun hc4 => ?_)
            -- cond 4
            · have hb : p.length = nMany k ∧ ¬ (k = 1 ∧ 2 * nDrops l ≤ l.length) := by
                simp only [Bool.not_eq_true', Bool.or_eq_false_iff, Bool.not_eq_false', decide_eq_true_eq, Bool.and_eq_false_iff, decide_eq_false_iff_not, hpl] at hc4
                omega
              have hsx : eShows k m x0 = true := by
                cases hs : eShows k m x0 with
                | true => rfl
                | false => rw [hp, rFirst, hs] at hb; simp at hb; omega
              have hpg : p = gr (eShows k m) (rFit k) (x0 :: l.drop (f + 1)) f (nMany k) [] := by rw [hp, rFirst, if_pos hsx, hdr]
              have hans : kAns m l k = some p := by
                rw [hrk, if_neg hb.2]
                rcases hor with h | h
                · exact absurd h hb.2
                · rw [h, hdr, rLoop, ← hpg, if_pos ⟨hsx, hb.1⟩]
              rw [hans] at hinv
              rw [hinv]
              refine awp_seq ?_
              refine awp_region ?_
              refine al_d rfl rfl rfl (by exact (by exact opd_loadn_ref rfl Tryz.isAgg31 Tryz.sizeOf31 rfl rfl rfl rfl (by simp only [List.drop_succ_cons, List.drop_zero, List.take_succ_cons, List.take_zero, List.take_nil, List.map_cons, List.map_nil, List.set_cons_zero, List.set_cons_succ, List.cons_append, List.nil_append, encTag, encObj, encStr, encEdit, encInt]; rfl) rfl)) ?_
              refine al_n rfl rfl (by exact (by exact x_store_all rfl Tryz.sizeOf31 rfl rfl rfl rfl rfl rfl rfl rfl)) ?_
              refine al_nil ?_
              refine awp_ret ?_
              -- return
              refine aret1 (H' := []) (by exact .inr rfl) rfl (rval_cell rfl Tryz.isAgg31 Tryz.sizeOf31 rfl rfl rfl rfl rfl) (Fin.wk (r := .agg [iv (k : Int), .pv (slInts (toI p))]) (by simp) trivial trivial) ?_
              exact ⟨rfl, rfl⟩
            · have hb : ¬ (p.length = nMany k ∧ ¬ (k = 1 ∧ 2 * nDrops l ≤ l.length)) := by
                intro hh
                have : (!(!decide ((((toI p).map encInt).length : Int) = (nMany k : Int)) || (decide ((k : Int) = 1) && !decide ((l.length : Int) < 2 * (nDrops l : Int))))) = true := by
                  rw [decide_eq_true (by omega : (((toI p).map encInt).length : Int) = (nMany k : Int))]
                  by_cases hk : k = 1
                  · rw [decide_eq_true (by omega : (l.length : Int) < 2 * (nDrops l : Int))]; simp
                  · rw [decide_eq_false (by omega : ¬ (k : Int) = 1)]; simp
                rw [this] at hc4
                cases hc4
              refine awp_skip ?_
              refine awp_region ?_
              refine al_d rfl rfl rfl (by exact opd_move rfl rfl) ?_
              refine al_d rfl rfl rfl (by exact opd_add rfl rfl rfl (by exact w64 (by omega) (by omega))) ?_
              refine al_d rfl rfl rfl (by exact opd_assign rfl rfl) ?_
              refine al_nil ?_
              -- end of a round
              refine ⟨f + 1, ⟨by omega, ?_⟩, by omega, (Ent.wk ⟨⟨_, rfl, rfl⟩, (by (simp; done)), ⟨_, rfl, rfl⟩, (by (simp; rfl)), ⟨_, rfl, rfl⟩, (by (simp; rfl)), ⟨_, rfl, rfl⟩, (by (simp; done)), ⟨_, rfl, rfl⟩, (by (simp; done)), trivial⟩ ⟨⟨_, rfl, rfl⟩, (by (simp; done)), ⟨_, rfl, rfl⟩, (by (simp; done)), trivial⟩ trivial)⟩
              by_cases hbad : k = 1 ∧ 2 * nDrops l ≤ l.length
              · exact .inl hbad
              · right
                rcases hor with h | h
                · exact absurd h hbad
                · rw [h, hdr, rLoop, if_neg]
                  rintro ⟨hsx, hgl⟩
                  refine hb ⟨?_, hbad⟩
                  rw [hp, rFirst, if_pos hsx, hdr]
                  exact hgl
          · have hge : f = l.length := by have := of_decide_eq_false hc3; omega
            subst hge
            have hans : kAns m l k = none := by
              rw [hrk]
              split
              · rfl
              · next hbad =>
                rcases hor with h | h
                · exact absurd h hbad
                · rw [h, List.drop_length]; rfl
            rw [hans] at hinv
            refine awp_exit ?_
            refine awp_region ?_
            refine al_d rfl rfl rfl (by exact opd_move rfl rfl) ?_
            refine al_d rfl rfl rfl (by exact opd_add rfl rfl rfl (by exact w64 (by omega) (by omega))) ?_
            refine al_d rfl rfl rfl (by exact opd_assign rfl rfl) ?_
            refine al_nil ?_
            -- end of a round
            refine ⟨k + 1, ⟨by omega, ?_⟩, by omega, (Ent.wk ⟨⟨_, rfl, rfl⟩, (by (simp; done)), ⟨_, rfl, rfl⟩, (by (simp; rfl)), ⟨_, rfl, rfl⟩, (by (simp; rfl)), ⟨_, rfl, rfl⟩, (by (simp; done)), trivial⟩ ⟨⟨_, rfl, rfl⟩, (by (simp; done)), ⟨_, rfl, rfl⟩, (by (simp; done)), trivial⟩ trivial)⟩
            rw [hinv, show 5 - (k + 1) = d by omega]
      · have h5' : k = 5 := by have := of_decide_eq_false hc2; omega
        subst h5'
        rw [hinv]
        refine awp_exit ?_
        refine awp_seq ?_
        refine awp_region ?_
        refine al_d rfl rfl rfl (by exact x_build rfl bo31 rfl rfl) ?_
        refine al_n rfl rfl (by exact (by exact x_store_all rfl Tryz.sizeOf31 rfl rfl rfl rfl rfl rfl rfl rfl)) ?_
        refine al_nil ?_
        refine awp_ret ?_
        -- return
        refine aret1 (H' := []) (by exact .inr rfl) rfl (rval_cell rfl Tryz.isAgg31 Tryz.sizeOf31 rfl rfl rfl rfl rfl) (Fin.wk (r := .agg [iv 0, lv []]) (by simp) trivial trivial) ?_
        exact ⟨rfl, rfl⟩
theorem fnd_len (m : List GObj) (l : List GEdit) : (gFind m l).2.length ≤ 5 := by
  rcases fnd_cases m l with h | ⟨_, _, k, e, h1, _, h2⟩
  · rw [h]; simp
  · rw [h1]
    have := (ev_len h2).2
    simpa using this
theorem evidenceMatches_c (m : List GObj) (l : List GEdit) (H : Heap) (h : okEv m l) (hr : ∀ e ∈ l, e.refs.length < 1099511627776) : ACalls Tryz.prog 3 [.agg [.pv (slObjs m)], .pv (slEdits l)] H (fun r H' => r = bv true ∧ H' = H) := by
  refine ACalls.pure ?_ (by simp) H
  have hfl := fnd_len m l
  refine ACalls.body Tryz.func3 rfl Tryz.ntmps3 (Nat.le_of_ble_eq_true rfl) ?_
  refine awp_seq ?_
  refine awp_region ?_
  refine al_d rfl rfl rfl (by exact opd_box (id := 2) rfl rfl rfl rfl rfl) ?_
  refine al_d rfl rfl rfl (by exact opd_assign rfl rfl) ?_
  refine al_nil ?_
  refine awp_seq ?_
  refine awp_region ?_
  refine al_d rfl rfl rfl (by exact opr_call rfl rfl Tryz.call16 rfl (head31_c _)) ?_
  refine al_d rfl rfl rfl (by exact opd_assign rfl rfl) ?_
  refine al_nil ?_
  refine awp_seq ?_
  refine awp_seq ?_
  refine awp_region ?_
  refine al_d rfl rfl rfl (by exact (by exact opd_loadn_ref rfl Tryz.isAgg24 Tryz.sizeOf24 rfl rfl rfl rfl (by simp only [List.drop_succ_cons, List.drop_zero, List.take_succ_cons, List.take_zero, List.take_nil, List.map_cons, List.map_nil, List.set_cons_zero, List.set_cons_succ, List.cons_append, List.nil_append, encTag, encObj, encStr, encEdit, encInt]; rfl) rfl)) ?_
  refine al_d rfl rfl rfl (by exact opd_move rfl rfl) ?_
  refine al_d rfl rfl rfl (by exact opr_call rfl rfl Tryz.call17 rfl (okEv_few h _)) ?_
  refine al_d rfl rfl rfl (by exact opd_not rfl rfl) ?_
  refine al_nil ?_
  refine awp_cond rfl (fun hc1 => ?_) (fun hc1 => ?_)
  -- cond 1
  · skip
    refine awp_seq ?_
    refine awp_region ?_
    refine al_d rfl rfl rfl (by exact opd_move rfl rfl) ?_
    refine al_d rfl rfl rfl (by exact opd_assign rfl rfl) ?_
    refine al_nil ?_
    refine awp_ret ?_
    -- return
    refine aret1 (H' := []) (by exact .inr rfl) rfl (rval_tmp rfl) (Fin.wk (by simp) trivial trivial) ?_
    exact ⟨rfl, rfl⟩
  · skip
    refine awp_skip ?_
    refine awp_seq ?_
    refine awp_drawc follows ?_
    refine dc_cons (DStep.q rfl (by exact opd_move rfl rfl)) rfl ?_
    refine dc_cons (DStep.q rfl (by exact opd_move rfl rfl)) rfl ?_
    refine dc_cons (q_on_t rfl rfl rfl (by rfl) (by exact (by exact opd_loadn_ref rfl Tryz.isAgg24 Tryz.sizeOf24 rfl rfl rfl rfl (by simp only [List.drop_succ_cons, List.drop_zero, List.take_succ_cons, List.take_zero, List.take_nil, List.map_cons, List.map_nil, List.set_cons_zero, List.set_cons_succ, List.cons_append, List.nil_append, encTag, encObj, encStr, encEdit, encInt]; rfl) rfl))) rfl ?_
    refine dc_cons (q_on_t rfl rfl rfl (by rfl) (by exact opd_move rfl rfl)) rfl ?_
    refine dc_cons (q_on_t rfl rfl rfl (by rfl) (by exact opr_call rfl rfl Tryz.call19 rfl (evFind_c m l _ h.1 h.2.2.1 h.2.2.2))) rfl ?_
    refine dc_cons (q_on_t rfl rfl rfl (by rfl) (by exact (by exact opd_loadn_ref rfl Tryz.isAgg24 Tryz.sizeOf24 rfl rfl rfl rfl (by simp only [List.drop_succ_cons, List.drop_zero, List.take_succ_cons, List.take_zero, List.take_nil, List.map_cons, List.map_nil, List.set_cons_zero, List.set_cons_succ, List.cons_append, List.nil_append, encTag, encObj, encStr, encEdit, encInt]; rfl) rfl))) rfl ?_
    refine dc_cons (q_on_t rfl rfl rfl (by rfl) (by exact opd_move rfl rfl)) rfl ?_
    refine dc_cons (q_on_t rfl rfl rfl (by rfl) (by exact opr_call rfl rfl Tryz.call20 rfl (rFind31_c m l _ h hr))) rfl ?_
    refine dc_cons (q_on_t rfl rfl rfl (by rfl) (by exact opr_call rfl rfl Tryz.call18 rfl (same_v rfl rfl _ (by omega)))) rfl ?_
    refine dc_cons (DStep.q rfl (by exact (by exact opd_pick_t rfl rfl rfl))) rfl ?_
    refine dc_cons (DStep.q rfl (by exact opd_assign rfl rfl)) rfl ?_
    refine dc_nil ⟨by kernel_rfl, ?_⟩
    refine awp_ret ?_
    -- return
    refine aret1 (H' := []) (by exact .inr rfl) rfl (rval_tmp rfl) (Fin.wk (by simp) trivial trivial) ?_
    exact ⟨rfl, rfl⟩
end Go.Proofs.YtdgoodjhndeojaaGreat
end
