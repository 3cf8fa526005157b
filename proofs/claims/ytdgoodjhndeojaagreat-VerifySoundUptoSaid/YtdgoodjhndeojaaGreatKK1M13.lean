/-
  CONTRACTS: the reference: maps, finding, references, closed maps, lists of indices. Conditions: lengths below 2^62.
  VerifySound answers true. Conditions: the arguments' sizes.
-/
import Derived.Test.YtdgoodjhndeojaaGreatKK1M12
section
set_option linter.unusedVariables false
set_option linter.unusedSimpArgs false
set_option maxRecDepth 100000
namespace Go.Proofs.YtdgoodjhndeojaaGreat
open Go.Abs
theorem badObj_eq (m : List GObj) (k : Nat) (o po : GObj) (hp : 0 < k → m[k - 1]? = some po) : (!gObj o || (decide ((0 : Int) < (k : Int)) && !slt po.id o.id)) = badObj (before GObj.id m k) o := by
  rw [badObj]
  cases hg : gObj o with
  | false => simp
  | true =>
    have hs : sle o.id (before GObj.id m k) = (decide ((0 : Int) < (k : Int)) && !slt po.id o.id) := by
      cases k with
      | zero =>
        have : slt sNil o.id = true := by
          cases e : slt sNil o.id with
          | true => rfl
          | false => exact absurd (slt_tri (slt_nil _) e) (gName_ne (gObj_name hg))
        rw [before, sle_iff.2 this]; rfl
      | succ k =>
        have h := hp (by omega)
        rw [show k + 1 - 1 = k from rfl] at h
        rw [before_succ h, decide_eq_true (show (0 : Int) < ((k + 1 : Nat) : Int) by omega), Bool.true_and]
        cases e : slt po.id o.id with
        | true => rw [sle_iff.2 e]; rfl
        | false =>
          cases e2 : sle o.id po.id with
          | true => rfl
          | false => rw [sle_iff] at e2; rw [e] at e2; cases e2
    rw [hs]
theorem rMap_c (m : List GObj) (H : Heap) (hm : okM m) : ACalls Tryz.prog 73 [.agg [.pv (slObjs m)]] H (fun r H' => r = bv (gMap m) ∧ H' = H) := by
  refine ACalls.pure ?_ (by simp) H
  obtain ⟨hl, hks⟩ := hm
  have hml : (m.map encObj).length = m.length := List.length_map _
  refine ACalls.body Tryz.func73 rfl Tryz.ntmps73 (Nat.le_of_ble_eq_true rfl) ?_
  refine awp_seq ?_
  refine awp_region ?_
  refine al_d rfl rfl rfl (by exact opd_box (id := 1) rfl rfl rfl rfl rfl) ?_
  refine al_d rfl rfl rfl (by exact opd_assign rfl rfl) ?_
  refine al_nil ?_
  refine awp_seq ?_
  refine awp_seq ?_
  refine awp_region ?_
  refine al_d rfl rfl rfl (by exact (by first | exact opd_field_ref rfl fo24_0 rfl rfl rfl rfl | exact opd_field_pad rfl fo24_0 rfl rfl)) ?_
  refine al_d rfl rfl rfl (by exact (by first | exact opd_load1_ref rfl Tryz.isAgg22 rfl rfl rfl rfl rfl | exact opd_load1_pad rfl Tryz.isAgg22 rfl (by first | omega | assumption) rfl)) ?_
  refine al_d rfl rfl rfl (by exact (by first | exact opd_len_sl rfl Tryz.underlying22 rfl | exact opd_len_osl rfl Tryz.underlying22 rfl rfl rfl)) ?_
  refine al_d rfl rfl rfl (by exact opd_gtr rfl rfl rfl) ?_
  refine al_nil ?_
  refine awp_cond rfl (fun hc1 => ?_) (fun hc1 => ?_)
  -- cond 1
  · have h60 : decide ((m.length : Int) ≤ 1000000) = false := by
      have := of_decide_eq_true hc1
      exact decide_eq_false (by omega)
    refine awp_seq ?_
    refine awp_region ?_
    refine al_d rfl rfl rfl (by exact opd_assign rfl rfl) ?_
    refine al_nil ?_
    refine awp_ret ?_
    -- return
    refine aret1 (H' := []) (by first | exact .inr rfl | exact .inl rfl) rfl (rval_tmp rfl) (Fin.wk (by simp) trivial trivial) ?_
    exact ⟨by rw [gMap, h60, Bool.and_false], rfl⟩
  · have h60 : decide ((m.length : Int) ≤ 1000000) = true := by
      have := of_decide_eq_false hc1
      exact decide_eq_true (by omega)
    rw [gMap, h60, Bool.and_true]
    refine awp_skip ?_
    refine awp_seq ?_
    refine awp_seq ?_
    refine awp_region ?_
    refine al_d rfl rfl rfl (by exact opd_assign rfl rfl) ?_
    refine al_nil ?_
    refine awp_block ?_
    -- loop
    refine awp_loop (σ := Nat) (fun k => ([(1, .ref 1 0 0 0), (3, iv (k : Int))], [(1, bx 1 24 [.pv (slObjs m)])])) (fun k => k ≤ m.length ∧ ∀ j, j < k → badAt badObj GObj.id m j = false) (fun k => m.length - k) 0 ⟨by omega, by omega⟩ ?_ ?_
    · exact (Ent.wk ⟨⟨_, rfl, rfl⟩, (by first | (simp; done) | (simp; rfl) | exact clo_map _ _ _), ⟨_, rfl, rfl⟩, (by first | (simp; done) | (simp; rfl) | exact clo_map _ _ _), trivial⟩ ⟨⟨_, rfl, rfl⟩, (by first | (simp; done) | (simp; rfl) | exact clo_map _ _ _), trivial⟩ trivial)
    · rintro k ⟨hk, hno⟩
      refine awp_seq ?_
      refine awp_seq ?_
      refine awp_region ?_
      refine al_d rfl rfl rfl (by exact opd_move rfl rfl) ?_
      refine al_d rfl rfl rfl (by exact (by first | exact opd_field_ref rfl fo24_0 rfl rfl rfl rfl | exact opd_field_pad rfl fo24_0 rfl rfl)) ?_
      refine al_d rfl rfl rfl (by exact (by first | exact opd_load1_ref rfl Tryz.isAgg22 rfl rfl rfl rfl rfl | exact opd_load1_pad rfl Tryz.isAgg22 rfl (by first | omega | assumption) rfl)) ?_
      refine al_d rfl rfl rfl (by exact (by first | exact opd_len_sl rfl Tryz.underlying22 rfl | exact opd_len_osl rfl Tryz.underlying22 rfl rfl rfl)) ?_
      refine al_d rfl rfl rfl (by exact opd_lss rfl rfl rfl) ?_
      refine al_nil ?_
      refine awp_cond rfl (fun hc2 => ?_) (fun hc2 => ?_)
      -- cond 2
      · have hlt : k < m.length := by have := of_decide_eq_true hc2; omega
        obtain ⟨o, ho⟩ := get_of_lt hlt
        have hi := map_get (f := encObj) ho
        obtain ⟨po, hp⟩ : ∃ po, 0 < k → m[k - 1]? = some po := by
          by_cases k0 : 0 < k
          · obtain ⟨po, hp⟩ := get_of_lt (l := m) (k := k - 1) (by omega)
            exact ⟨po, fun _ => hp⟩
          · exact ⟨o, fun h => absurd h k0⟩
        have hpv : 0 < k → (m.map encObj)[k - 1]? = some (encObj po) := fun h => map_get (f := encObj) (hp h)
        have hbe := badObj_eq m k o po hp
        refine awp_skip ?_
        refine awp_seq ?_
        refine awp_block ?_
        refine awp_seq ?_
        refine awp_mergeR (t := 41) (n := 27) (X := !gObj o || (decide ((0 : Int) < (k : Int)) && !slt po.id o.id)) ?_ ?_
        · cases hg22 : (!gObj o : Bool)
          · cases hg25 : (decide ((0 : Int) < (k : Int)) : Bool)
            · refine awp_drawc follows ?_
              refine dc_cons (DStep.q rfl (by exact (by first | exact opd_field_ref rfl fo24_0 rfl rfl rfl rfl | exact opd_field_pad rfl fo24_0 rfl rfl))) rfl ?_
              refine dc_cons (DStep.q rfl (by exact (by first | exact opd_load1_ref rfl Tryz.isAgg22 rfl rfl rfl rfl rfl | exact opd_load1_pad rfl Tryz.isAgg22 rfl (by first | omega | assumption) rfl))) rfl ?_
              refine dc_cons (DStep.q rfl (by exact opd_move rfl rfl)) rfl ?_
              refine dc_cons (DStep.q rfl (by exact (by first | exact x_index_pad rfl so22 rfl rfl (by omega) (by first | exact Int.toNat_natCast _ | rfl) (by assumption) rfl | exact x_index_osl rfl so22 rfl rfl rfl rfl rfl (by omega) (by first | exact Int.toNat_natCast _ | rfl) (by first | omega | assumption) rfl))) rfl ?_
              refine dc_cons (DStep.q rfl (by exact (by first | exact opd_loadn_ref rfl Tryz.isAgg42 Tryz.sizeOf42 rfl rfl rfl rfl (by simp only [List.drop_succ_cons, List.drop_zero, List.take_succ_cons, List.take_zero, List.take_nil, List.map_cons, List.map_nil, List.set_cons_zero, List.set_cons_succ, List.cons_append, List.nil_append, encTag, encObj, encStr, encInt]; rfl) rfl | exact opd_loadn_pad rfl Tryz.isAgg42 Tryz.sizeOf42 rfl (by first | omega | assumption) (by simp only [List.drop_succ_cons, List.drop_zero, List.take_succ_cons, List.take_zero, List.take_nil, List.map_cons, List.map_nil, List.set_cons_zero, List.set_cons_succ, List.cons_append, List.nil_append, encTag, encObj, encStr, encInt]; rfl) rfl))) rfl ?_
              refine dc_cons (DStep.q rfl (by exact opr_call rfl rfl Tryz.call102 rfl (rObj_c o _ (hks o (List.mem_of_getElem? ho))))) rfl ?_
              refine dc_cons (DStep.q rfl (by exact opd_not rfl rfl)) rfl ?_
              refine dc_cons (DStep.q rfl (by exact opd_move rfl rfl)) rfl ?_
              refine dc_cons (q_on_f rfl rfl rfl (by first | rfl | assumption) (by exact opd_move rfl rfl)) rfl ?_
              refine dc_cons (q_on_f rfl rfl rfl (by first | rfl | assumption) (by exact opd_gtr rfl rfl rfl)) rfl ?_
              refine dc_cons (q_on_f rfl rfl rfl (by first | rfl | assumption) (by exact opd_move rfl rfl)) rfl ?_
              refine dc_cons (q_off_t rfl rfl rfl (by first | rfl | assumption)) rfl ?_
              refine dc_cons (q_off_t rfl rfl rfl (by first | rfl | assumption)) rfl ?_
              refine dc_cons (q_off_t rfl rfl rfl (by first | rfl | assumption)) rfl ?_
              refine dc_cons (q_off_t rfl rfl rfl (by first | rfl | assumption)) rfl ?_
              refine dc_cons (q_off_t rfl rfl rfl (by first | rfl | assumption)) rfl ?_
              refine dc_cons (q_off_t rfl rfl rfl (by first | rfl | assumption)) rfl ?_
              refine dc_cons (q_off_t rfl rfl rfl (by first | rfl | assumption)) rfl ?_
              refine dc_cons (q_off_t rfl rfl rfl (by first | rfl | assumption)) rfl ?_
              refine dc_cons (q_off_t rfl rfl rfl (by first | rfl | assumption)) rfl ?_
              refine dc_cons (q_off_t rfl rfl rfl (by first | rfl | assumption)) rfl ?_
              refine dc_cons (q_off_t rfl rfl rfl (by first | rfl | assumption)) rfl ?_
              refine dc_cons (q_off_t rfl rfl rfl (by first | rfl | assumption)) rfl ?_
              refine dc_cons (q_off_t rfl rfl rfl (by first | rfl | assumption)) rfl ?_
              refine dc_cons (q_off_t rfl rfl rfl (by first | rfl | assumption)) rfl ?_
              refine dc_cons (q_on_f rfl rfl rfl (by first | rfl | assumption) (by exact (by first | exact opd_pick_t rfl rfl rfl | exact opd_pick_f rfl rfl rfl | exact opd_pickt rfl rfl (by assumption) rfl | exact opd_pickf rfl rfl (by assumption) rfl | exact opd_pick rfl rfl rfl))) rfl ?_
              refine dc_cons (DStep.q rfl (by exact (by first | exact opd_pick_t rfl rfl rfl | exact opd_pick_f rfl rfl rfl | exact opd_pickt rfl rfl (by assumption) rfl | exact opd_pickf rfl rfl (by assumption) rfl | exact opd_pick rfl rfl rfl))) rfl ?_
              refine dc_nil ⟨by kernel_rfl, ?_⟩
              exact ⟨rfl, ⟨_, rfl, by first | rfl | (simp only [hg22, hg25]; rfl) | (simp only [hg22]; rfl) | (simp_all; done)⟩, rfl, rfl, rfl⟩
            · refine awp_drawc follows ?_
              refine dc_cons (DStep.q rfl (by exact (by first | exact opd_field_ref rfl fo24_0 rfl rfl rfl rfl | exact opd_field_pad rfl fo24_0 rfl rfl))) rfl ?_
              refine dc_cons (DStep.q rfl (by exact (by first | exact opd_load1_ref rfl Tryz.isAgg22 rfl rfl rfl rfl rfl | exact opd_load1_pad rfl Tryz.isAgg22 rfl (by first | omega | assumption) rfl))) rfl ?_
              refine dc_cons (DStep.q rfl (by exact opd_move rfl rfl)) rfl ?_
              refine dc_cons (DStep.q rfl (by exact (by first | exact x_index_pad rfl so22 rfl rfl (by omega) (by first | exact Int.toNat_natCast _ | rfl) (by assumption) rfl | exact x_index_osl rfl so22 rfl rfl rfl rfl rfl (by omega) (by first | exact Int.toNat_natCast _ | rfl) (by first | omega | assumption) rfl))) rfl ?_
              refine dc_cons (DStep.q rfl (by exact (by first | exact opd_loadn_ref rfl Tryz.isAgg42 Tryz.sizeOf42 rfl rfl rfl rfl (by simp only [List.drop_succ_cons, List.drop_zero, List.take_succ_cons, List.take_zero, List.take_nil, List.map_cons, List.map_nil, List.set_cons_zero, List.set_cons_succ, List.cons_append, List.nil_append, encTag, encObj, encStr, encInt]; rfl) rfl | exact opd_loadn_pad rfl Tryz.isAgg42 Tryz.sizeOf42 rfl (by first | omega | assumption) (by simp only [List.drop_succ_cons, List.drop_zero, List.take_succ_cons, List.take_zero, List.take_nil, List.map_cons, List.map_nil, List.set_cons_zero, List.set_cons_succ, List.cons_append, List.nil_append, encTag, encObj, encStr, encInt]; rfl) rfl))) rfl ?_
              refine dc_cons (DStep.q rfl (by exact opr_call rfl rfl Tryz.call102 rfl (rObj_c o _ (hks o (List.mem_of_getElem? ho))))) rfl ?_
              refine dc_cons (DStep.q rfl (by exact opd_not rfl rfl)) rfl ?_
              refine dc_cons (DStep.q rfl (by exact opd_move rfl rfl)) rfl ?_
              refine dc_cons (q_on_f rfl rfl rfl (by first | rfl | assumption) (by exact opd_move rfl rfl)) rfl ?_
              refine dc_cons (q_on_f rfl rfl rfl (by first | rfl | assumption) (by exact opd_gtr rfl rfl rfl)) rfl ?_
              refine dc_cons (q_on_f rfl rfl rfl (by first | rfl | assumption) (by exact opd_move rfl rfl)) rfl ?_
              refine dc_cons (q_on_t rfl rfl rfl (by first | rfl | assumption) (by exact (by first | exact opd_field_ref rfl fo24_0 rfl rfl rfl rfl | exact opd_field_pad rfl fo24_0 rfl rfl))) rfl ?_
              refine dc_cons (q_on_t rfl rfl rfl (by first | rfl | assumption) (by exact (by first | exact opd_load1_ref rfl Tryz.isAgg22 rfl rfl rfl rfl rfl | exact opd_load1_pad rfl Tryz.isAgg22 rfl (by first | omega | assumption) rfl))) rfl ?_
              refine dc_cons (q_on_t rfl rfl rfl (by first | rfl | assumption) (by exact opd_move rfl rfl)) rfl ?_
              refine dc_cons (q_on_t rfl rfl rfl (by first | rfl | assumption) (by exact opd_sub rfl rfl rfl (by first | exact w64 (by omega) (by omega) | exact wu8 (by omega) (by omega) | rfl))) rfl ?_
              refine dc_cons (q_on_t rfl rfl rfl (by first | rfl | assumption) (by exact x_index_pad rfl so22 rfl rfl (by have := of_decide_eq_true hg25; omega) (show ((k : Int) - 1).toNat = k - 1 by omega) (hpv (by have := of_decide_eq_true hg25; omega)) rfl)) rfl ?_
              refine dc_cons (q_on_t rfl rfl rfl (by first | rfl | assumption) (by exact (by first | exact opd_field_ref rfl fo42_0 rfl rfl rfl rfl | exact opd_field_pad rfl fo42_0 rfl rfl))) rfl ?_
              refine dc_cons (q_on_t rfl rfl rfl (by first | rfl | assumption) (by exact opd_load1_pad rfl Tryz.isAgg9 rfl (hpv (by have := of_decide_eq_true hg25; omega)) rfl)) rfl ?_
              refine dc_cons (q_on_t rfl rfl rfl (by first | rfl | assumption) (by exact (by first | exact opd_field_ref rfl fo24_0 rfl rfl rfl rfl | exact opd_field_pad rfl fo24_0 rfl rfl))) rfl ?_
              refine dc_cons (q_on_t rfl rfl rfl (by first | rfl | assumption) (by exact (by first | exact opd_load1_ref rfl Tryz.isAgg22 rfl rfl rfl rfl rfl | exact opd_load1_pad rfl Tryz.isAgg22 rfl (by first | omega | assumption) rfl))) rfl ?_
              refine dc_cons (q_on_t rfl rfl rfl (by first | rfl | assumption) (by exact opd_move rfl rfl)) rfl ?_
              refine dc_cons (q_on_t rfl rfl rfl (by first | rfl | assumption) (by exact (by first | exact x_index_pad rfl so22 rfl rfl (by omega) (by first | exact Int.toNat_natCast _ | rfl) (by assumption) rfl | exact x_index_osl rfl so22 rfl rfl rfl rfl rfl (by omega) (by first | exact Int.toNat_natCast _ | rfl) (by first | omega | assumption) rfl))) rfl ?_
              refine dc_cons (q_on_t rfl rfl rfl (by first | rfl | assumption) (by exact (by first | exact opd_field_ref rfl fo42_0 rfl rfl rfl rfl | exact opd_field_pad rfl fo42_0 rfl rfl))) rfl ?_
              refine dc_cons (q_on_t rfl rfl rfl (by first | rfl | assumption) (by exact (by first | exact opd_load1_ref rfl Tryz.isAgg9 rfl rfl rfl rfl rfl | exact opd_load1_pad rfl Tryz.isAgg9 rfl (by first | omega | assumption) rfl))) rfl ?_
              refine dc_cons (q_on_t rfl rfl rfl (by first | rfl | assumption) (by exact opd_sgeq rfl rfl rfl)) rfl ?_
              refine dc_cons (q_on_f rfl rfl rfl (by first | rfl | assumption) (by exact (by first | exact opd_pick_t rfl rfl rfl | exact opd_pick_f rfl rfl rfl | exact opd_pickt rfl rfl (by assumption) rfl | exact opd_pickf rfl rfl (by assumption) rfl | exact opd_pick rfl rfl rfl))) rfl ?_
              refine dc_cons (DStep.q rfl (by exact (by first | exact opd_pick_t rfl rfl rfl | exact opd_pick_f rfl rfl rfl | exact opd_pickt rfl rfl (by assumption) rfl | exact opd_pickf rfl rfl (by assumption) rfl | exact opd_pick rfl rfl rfl))) rfl ?_
              refine dc_nil ⟨by kernel_rfl, ?_⟩
              exact ⟨rfl, ⟨_, rfl, by first | rfl | (simp only [hg22, hg25]; rfl) | (simp only [hg22]; rfl) | (simp_all; done)⟩, rfl, rfl, rfl⟩
          · refine awp_drawc follows ?_
            refine dc_cons (DStep.q rfl (by exact (by first | exact opd_field_ref rfl fo24_0 rfl rfl rfl rfl | exact opd_field_pad rfl fo24_0 rfl rfl))) rfl ?_
            refine dc_cons (DStep.q rfl (by exact (by first | exact opd_load1_ref rfl Tryz.isAgg22 rfl rfl rfl rfl rfl | exact opd_load1_pad rfl Tryz.isAgg22 rfl (by first | omega | assumption) rfl))) rfl ?_
            refine dc_cons (DStep.q rfl (by exact opd_move rfl rfl)) rfl ?_
            refine dc_cons (DStep.q rfl (by exact (by first | exact x_index_pad rfl so22 rfl rfl (by omega) (by first | exact Int.toNat_natCast _ | rfl) (by assumption) rfl | exact x_index_osl rfl so22 rfl rfl rfl rfl rfl (by omega) (by first | exact Int.toNat_natCast _ | rfl) (by first | omega | assumption) rfl))) rfl ?_
            refine dc_cons (DStep.q rfl (by exact (by first | exact opd_loadn_ref rfl Tryz.isAgg42 Tryz.sizeOf42 rfl rfl rfl rfl (by simp only [List.drop_succ_cons, List.drop_zero, List.take_succ_cons, List.take_zero, List.take_nil, List.map_cons, List.map_nil, List.set_cons_zero, List.set_cons_succ, List.cons_append, List.nil_append, encTag, encObj, encStr, encInt]; rfl) rfl | exact opd_loadn_pad rfl Tryz.isAgg42 Tryz.sizeOf42 rfl (by first | omega | assumption) (by simp only [List.drop_succ_cons, List.drop_zero, List.take_succ_cons, List.take_zero, List.take_nil, List.map_cons, List.map_nil, List.set_cons_zero, List.set_cons_succ, List.cons_append, List.nil_append, encTag, encObj, encStr, encInt]; rfl) rfl))) rfl ?_
            refine dc_cons (DStep.q rfl (by exact opr_call rfl rfl Tryz.call102 rfl (rObj_c o _ (hks o (List.mem_of_getElem? ho))))) rfl ?_
            refine dc_cons (DStep.q rfl (by exact opd_not rfl rfl)) rfl ?_
            refine dc_cons (DStep.q rfl (by exact opd_move rfl rfl)) rfl ?_
            refine dc_cons (q_off_f rfl rfl rfl (by first | rfl | assumption)) rfl ?_
            refine dc_cons (q_off_f rfl rfl rfl (by first | rfl | assumption)) rfl ?_
            refine dc_cons (q_off_f rfl rfl rfl (by first | rfl | assumption)) rfl ?_
            refine dc_cons (q_off_u rfl rfl rfl) rfl ?_
            refine dc_cons (q_off_u rfl rfl rfl) rfl ?_
            refine dc_cons (q_off_u rfl rfl rfl) rfl ?_
            refine dc_cons (q_off_u rfl rfl rfl) rfl ?_
            refine dc_cons (q_off_u rfl rfl rfl) rfl ?_
            refine dc_cons (q_off_u rfl rfl rfl) rfl ?_
            refine dc_cons (q_off_u rfl rfl rfl) rfl ?_
            refine dc_cons (q_off_u rfl rfl rfl) rfl ?_
            refine dc_cons (q_off_u rfl rfl rfl) rfl ?_
            refine dc_cons (q_off_u rfl rfl rfl) rfl ?_
            refine dc_cons (q_off_u rfl rfl rfl) rfl ?_
            refine dc_cons (q_off_u rfl rfl rfl) rfl ?_
            refine dc_cons (q_off_u rfl rfl rfl) rfl ?_
            refine dc_cons (q_off_u rfl rfl rfl) rfl ?_
            refine dc_cons (q_off_f rfl rfl rfl (by first | rfl | assumption)) rfl ?_
            refine dc_cons (DStep.q rfl (by exact (by first | exact opd_pick_t rfl rfl rfl | exact opd_pick_f rfl rfl rfl | exact opd_pickt rfl rfl (by assumption) rfl | exact opd_pickf rfl rfl (by assumption) rfl | exact opd_pick rfl rfl rfl))) rfl ?_
            refine dc_nil ⟨by kernel_rfl, ?_⟩
            exact ⟨rfl, ⟨_, rfl, by first | rfl | (simp only [hg22, hg25]; rfl) | (simp only [hg22]; rfl) | (simp_all; done)⟩, rfl, rfl, rfl⟩
        refine awp_cond rfl (fun hc3 => ?_) (fun hc3 => ?_)
        -- cond 3
        · rw [hbe] at hc3
          refine awp_seq ?_
          refine awp_region ?_
          refine al_d rfl rfl rfl (by exact opd_assign rfl rfl) ?_
          refine al_nil ?_
          refine awp_ret ?_
          -- return
          refine aret1 (H' := []) (by first | exact .inr rfl | exact .inl rfl) rfl (rval_tmp rfl) (Fin.wk (by simp) trivial trivial) ?_
          exact ⟨by rw [range_some hlt ((badAt_some ho).trans hc3)]; rfl, rfl⟩
        · rw [hbe] at hc3
          refine awp_skip ?_
          refine awp_region ?_
          refine al_d rfl rfl rfl (by exact opd_move rfl rfl) ?_
          refine al_d rfl rfl rfl (by exact opd_add rfl rfl rfl (by first | exact w64 (by omega) (by omega) | exact wu8 (by omega) (by omega) | rfl)) ?_
          refine al_d rfl rfl rfl (by exact opd_assign rfl rfl) ?_
          refine al_nil ?_
          -- end of a round
          refine ⟨k + 1, ⟨by omega, fun j hj => ?_⟩, by omega, (Ent.wk ⟨⟨_, rfl, rfl⟩, (by first | (simp; done) | (simp; rfl) | exact clo_map _ _ _), ⟨_, rfl, rfl⟩, (by first | (simp; done) | (simp; rfl) | exact clo_map _ _ _), trivial⟩ ⟨⟨_, rfl, rfl⟩, (by first | (simp; done) | (simp; rfl) | exact clo_map _ _ _), trivial⟩ trivial)⟩
          by_cases e : j = k
          · subst e; exact (badAt_some ho).trans hc3
          · exact hno j (by omega)
      · have hge : k = m.length := by have := of_decide_eq_false hc2; omega
        subst hge
        refine awp_exit ?_
        refine awp_seq ?_
        refine awp_region ?_
        refine al_d rfl rfl rfl (by exact opd_assign rfl rfl) ?_
        refine al_nil ?_
        refine awp_ret ?_
        -- return
        refine aret1 (H' := []) (by first | exact .inr rfl | exact .inl rfl) rfl (rval_tmp rfl) (Fin.wk (by simp) trivial trivial) ?_
        exact ⟨by rw [range_any hno]; rfl, rfl⟩
theorem rFind_c (m : List GObj) (id : ByteArray) (H : Heap) (hm : m.length < 4611686018427387904) : ACalls Tryz.prog 91 [.agg [.pv (slObjs m)], sv id] H (fun r H' => r = iv (gidx (idIs id) m) ∧ H' = H) := by
  refine ACalls.pure ?_ (by simp) H
  have hml : (m.map encObj).length = m.length := List.length_map _
  refine ACalls.body Tryz.func91 rfl Tryz.ntmps91 (Nat.le_of_ble_eq_true rfl) ?_
  refine awp_seq ?_
  refine awp_region ?_
  refine al_d rfl rfl rfl (by exact opd_box (id := 2) rfl rfl rfl rfl rfl) ?_
  refine al_d rfl rfl rfl (by exact opd_assign rfl rfl) ?_
  refine al_nil ?_
  refine awp_seq ?_
  refine awp_seq ?_
  refine awp_region ?_
  refine al_d rfl rfl rfl (by exact opd_assign rfl rfl) ?_
  refine al_nil ?_
  refine awp_block ?_
  -- loop
  refine awp_loop (σ := Nat) (fun k => ([(1, sv id), (2, .ref 2 0 0 0), (5, iv (k : Int))], [(2, bx 1 24 [.pv (slObjs m)])])) (fun k => k ≤ m.length ∧ ∀ j, j < k → ∀ b, m[j]? = some b → idIs id b = false) (fun k => m.length - k) 0 ⟨by omega, by omega⟩ ?_ ?_
  · exact (Ent.wk ⟨⟨_, rfl, rfl⟩, (by first | (simp; done) | (simp; rfl) | exact clo_map _ _ _), ⟨_, rfl, rfl⟩, (by first | (simp; done) | (simp; rfl) | exact clo_map _ _ _), ⟨_, rfl, rfl⟩, (by first | (simp; done) | (simp; rfl) | exact clo_map _ _ _), trivial⟩ ⟨⟨_, rfl, rfl⟩, (by first | (simp; done) | (simp; rfl) | exact clo_map _ _ _), trivial⟩ trivial)
  · rintro k ⟨hk, hno⟩
    refine awp_seq ?_
    refine awp_seq ?_
    refine awp_region ?_
    refine al_d rfl rfl rfl (by exact opd_move rfl rfl) ?_
    refine al_d rfl rfl rfl (by exact (by first | exact opd_field_ref rfl fo24_0 rfl rfl rfl rfl | exact opd_field_pad rfl fo24_0 rfl rfl)) ?_
    refine al_d rfl rfl rfl (by exact (by first | exact opd_load1_ref rfl Tryz.isAgg22 rfl rfl rfl rfl rfl | exact opd_load1_pad rfl Tryz.isAgg22 rfl (by first | omega | assumption) rfl)) ?_
    refine al_d rfl rfl rfl (by exact (by first | exact opd_len_sl rfl Tryz.underlying22 rfl | exact opd_len_osl rfl Tryz.underlying22 rfl rfl rfl)) ?_
    refine al_d rfl rfl rfl (by exact opd_lss rfl rfl rfl) ?_
    refine al_nil ?_
    refine awp_cond rfl (fun hc1 => ?_) (fun hc1 => ?_)
    -- cond 1
    · have hlt : k < m.length := by have := of_decide_eq_true hc1; omega
      obtain ⟨o, ho⟩ := get_of_lt hlt
      have hi := map_get (f := encObj) ho
      refine awp_skip ?_
      refine awp_seq ?_
      refine awp_block ?_
      refine awp_seq ?_
      refine awp_region ?_
      refine al_d rfl rfl rfl (by exact (by first | exact opd_field_ref rfl fo24_0 rfl rfl rfl rfl | exact opd_field_pad rfl fo24_0 rfl rfl)) ?_
      refine al_d rfl rfl rfl (by exact (by first | exact opd_load1_ref rfl Tryz.isAgg22 rfl rfl rfl rfl rfl | exact opd_load1_pad rfl Tryz.isAgg22 rfl (by first | omega | assumption) rfl)) ?_
      refine al_d rfl rfl rfl (by exact opd_move rfl rfl) ?_
      refine al_d rfl rfl rfl (by exact (by first | exact x_index_pad rfl so22 rfl rfl (by omega) (by first | exact Int.toNat_natCast _ | rfl) (by assumption) rfl | exact x_index_osl rfl so22 rfl rfl rfl rfl rfl (by omega) (by first | exact Int.toNat_natCast _ | rfl) (by first | omega | assumption) rfl)) ?_
      refine al_d rfl rfl rfl (by exact (by first | exact opd_field_ref rfl fo42_0 rfl rfl rfl rfl | exact opd_field_pad rfl fo42_0 rfl rfl)) ?_
      refine al_d rfl rfl rfl (by exact (by first | exact opd_load1_ref rfl Tryz.isAgg9 rfl rfl rfl rfl rfl | exact opd_load1_pad rfl Tryz.isAgg9 rfl (by first | omega | assumption) rfl)) ?_
      refine al_d rfl rfl rfl (by exact opd_move rfl rfl) ?_
      refine al_d rfl rfl rfl (by exact opd_seql rfl rfl rfl) ?_
      refine al_nil ?_
      refine awp_cond rfl (fun hc2 => ?_) (fun hc2 => ?_)
      -- cond 2
      · have h : idIs id o = true := hc2
        refine awp_seq ?_
        refine awp_region ?_
        refine al_d rfl rfl rfl (by exact opd_move rfl rfl) ?_
        refine al_d rfl rfl rfl (by exact opd_assign rfl rfl) ?_
        refine al_nil ?_
        refine awp_ret ?_
        -- return
        refine aret1 (H' := []) (by first | exact .inr rfl | exact .inl rfl) rfl (rval_tmp rfl) (Fin.wk (by simp) trivial trivial) ?_
        exact ⟨by rw [gidx, fidx_some hno ho h], rfl⟩
      · have h : idIs id o = false := hc2
        refine awp_skip ?_
        refine awp_region ?_
        refine al_d rfl rfl rfl (by exact opd_move rfl rfl) ?_
        refine al_d rfl rfl rfl (by exact opd_add rfl rfl rfl (by first | exact w64 (by omega) (by omega) | exact wu8 (by omega) (by omega) | rfl)) ?_
        refine al_d rfl rfl rfl (by exact opd_assign rfl rfl) ?_
        refine al_nil ?_
        -- end of a round
        exact ⟨k + 1, ⟨by omega, pre_succ hno ho h⟩, by omega, (Ent.wk ⟨⟨_, rfl, rfl⟩, (by first | (simp; done) | (simp; rfl) | exact clo_map _ _ _), ⟨_, rfl, rfl⟩, (by first | (simp; done) | (simp; rfl) | exact clo_map _ _ _), ⟨_, rfl, rfl⟩, (by first | (simp; done) | (simp; rfl) | exact clo_map _ _ _), trivial⟩ ⟨⟨_, rfl, rfl⟩, (by first | (simp; done) | (simp; rfl) | exact clo_map _ _ _), trivial⟩ trivial)⟩
    · have hge : k = m.length := by have := of_decide_eq_false hc1; omega
      subst hge
      refine awp_exit ?_
      refine awp_seq ?_
      refine awp_region ?_
      refine al_d rfl rfl rfl (by exact opd_assign rfl rfl) ?_
      refine al_nil ?_
      refine awp_ret ?_
      -- return
      refine aret1 (H' := []) (by first | exact .inr rfl | exact .inl rfl) rfl (rval_tmp rfl) (Fin.wk (by simp) trivial trivial) ?_
      exact ⟨by rw [gidx, fidx_none hno], rfl⟩
theorem rWanted_c (kind i : Int) (H : Heap) : ACalls Tryz.prog 134 [iv kind, iv i] H (fun r H' => r = iv (gWanted kind i) ∧ H' = H) := by
  refine ACalls.pure ?_ (by simp) H
  refine ACalls.body Tryz.func134 rfl Tryz.ntmps134 (Nat.le_of_ble_eq_true rfl) ?_
  refine awp_seq ?_
  refine awp_region ?_
  refine al_d rfl rfl rfl (by exact opd_assign rfl rfl) ?_
  refine al_nil ?_
  refine awp_seq ?_
  refine awp_seq ?_
  refine awp_bool (t := 14) (n := 12) (X := decide (kind = 4) || (decide (kind = 5) && !decide (i = 1))) ?_ ?_
  · all_goals (refine al_d rfl rfl rfl (by exact opd_move rfl rfl) ?_)
    all_goals (refine al_d rfl rfl rfl (by exact opd_eql rfl rfl rfl) ?_)
    all_goals (refine al_d rfl rfl rfl (by exact opd_move rfl rfl) ?_)
    all_goals (first | refine al_split (t := 7) rfl (fun h7 => ?_) (fun h7 => ?_) | refine al_dup (t := 7) rfl ?_ | skip)
    all_goals (try contradiction)
    all_goals (first | refine al_off rfl rfl rfl rfl rfl ?_ | refine al_offu rfl rfl rfl rfl ?_ | refine al_ond rfl rfl rfl rfl rfl rfl (by exact opd_move rfl rfl) ?_)
    all_goals (first | refine al_off rfl rfl rfl rfl rfl ?_ | refine al_offu rfl rfl rfl rfl ?_ | refine al_ond rfl rfl rfl rfl rfl rfl (by exact opd_eql rfl rfl rfl) ?_)
    all_goals (first | refine al_off rfl rfl rfl rfl rfl ?_ | refine al_offu rfl rfl rfl rfl ?_ | refine al_ond rfl rfl rfl rfl rfl rfl (by exact opd_move rfl rfl) ?_)
    all_goals (first | refine al_split (t := 10) rfl (fun h10 => ?_) (fun h10 => ?_) | refine al_dup (t := 10) rfl ?_ | skip)
    all_goals (try contradiction)
    all_goals (first | refine al_off rfl rfl rfl rfl rfl ?_ | refine al_offu rfl rfl rfl rfl ?_ | refine al_ond rfl rfl rfl rfl rfl rfl (by exact opd_move rfl rfl) ?_)
    all_goals (first | refine al_off rfl rfl rfl rfl rfl ?_ | refine al_offu rfl rfl rfl rfl ?_ | refine al_ond rfl rfl rfl rfl rfl rfl (by exact opd_neq rfl rfl rfl) ?_)
    all_goals (first | refine al_off rfl rfl rfl rfl rfl ?_ | refine al_offu rfl rfl rfl rfl ?_ | refine al_ond rfl rfl rfl rfl rfl rfl (by exact (by first | exact opd_pick_t rfl rfl rfl | exact opd_pick_f rfl rfl rfl | exact opd_pickt rfl rfl (by assumption) rfl | exact opd_pickf rfl rfl (by assumption) rfl | exact opd_pick rfl rfl rfl)) ?_)
    all_goals (refine al_d rfl rfl rfl (by exact (by first | exact opd_pick_t rfl rfl rfl | exact opd_pick_f rfl rfl rfl | exact opd_pickt rfl rfl (by assumption) rfl | exact opd_pickf rfl rfl (by assumption) rfl | exact opd_pick rfl rfl rfl)) ?_)
    all_goals (refine al_nil ?_)
    all_goals (exact ⟨⟨_, rfl, by first | rfl | (simp only [*, Bool.false_and, Bool.true_and, Bool.and_false, Bool.and_true, Bool.true_or, Bool.false_or, Bool.or_true, Bool.or_false, Bool.not_true, Bool.not_false]; done) | (simp_all; done) | (simp_all; omega)⟩, rfl, rfl, rfl⟩)
  refine awp_cond rfl (fun hc1 => ?_) (fun hc1 => ?_)
  -- cond 1
  · skip
    refine awp_seq ?_
    refine awp_region ?_
    refine al_d rfl rfl rfl (by exact opd_assign rfl rfl) ?_
    refine al_nil ?_
    refine awp_ret ?_
    -- return
    refine aret1 (H' := []) (by first | exact .inr rfl | exact .inl rfl) rfl (rval_tmp rfl) (Fin.wk (by simp) trivial trivial) ?_
    exact ⟨by rw [gWanted, if_pos hc1], rfl⟩
  · skip
    refine awp_skip ?_
    refine awp_seq ?_
    refine awp_region ?_
    refine al_d rfl rfl rfl (by exact opd_assign rfl rfl) ?_
    refine al_nil ?_
    refine awp_ret ?_
    -- return
    refine aret1 (H' := []) (by first | exact .inr rfl | exact .inl rfl) rfl (rval_tmp rfl) (Fin.wk (by simp) trivial trivial) ?_
    exact ⟨by rw [gWanted, hc1]; rfl, rfl⟩
theorem rErr_c (m : List GObj) (o : GObj) (H : Heap) (hm : m.length < 4611686018427387904) (hl : o.refs.length < 4611686018427387904) : ACalls Tryz.prog 74 [.agg [.pv (slObjs m)], av (encObj o)] H (fun r H' => r = iv (refErr m o.kind 0 o.refs) ∧ H' = H) := by
  refine ACalls.pure ?_ (by simp) H
  have hml : (m.map encObj).length = m.length := List.length_map _
  have hrl : (o.refs.map encStr).length = o.refs.length := List.length_map _
  refine ACalls.body Tryz.func74 rfl Tryz.ntmps74 (Nat.le_of_ble_eq_true rfl) ?_
  refine awp_seq ?_
  refine awp_region ?_
  refine al_d rfl rfl rfl (by exact opd_box (id := 2) rfl rfl rfl rfl rfl) ?_
  refine al_d rfl rfl rfl (by exact opd_box (id := 3) rfl rfl rfl rfl rfl) ?_
  refine al_d rfl rfl rfl (by exact opd_assign rfl rfl) ?_
  refine al_nil ?_
  refine awp_seq ?_
  refine awp_seq ?_
  refine awp_region ?_
  refine al_d rfl rfl rfl (by exact opd_assign rfl rfl) ?_
  refine al_nil ?_
  refine awp_block ?_
  -- loop
  refine awp_loop (σ := Nat) (fun k => ([(2, .ref 2 0 0 0), (3, .ref 3 0 0 0), (5, iv (k : Int))], [(3, bx 6 42 ((encObj o).map .pv)), (2, bx 1 24 [.pv (slObjs m)])])) (fun k => k ≤ o.refs.length ∧ refErr m o.kind 0 o.refs = refErr m o.kind k (o.refs.drop k)) (fun k => o.refs.length - k) 0 ⟨by omega, rfl⟩ ?_ ?_
  · exact (Ent.wk ⟨⟨_, rfl, rfl⟩, (by first | (simp; done) | (simp; rfl) | exact clo_map _ _ _), ⟨_, rfl, rfl⟩, (by first | (simp; done) | (simp; rfl) | exact clo_map _ _ _), ⟨_, rfl, rfl⟩, (by first | (simp; done) | (simp; rfl) | exact clo_map _ _ _), trivial⟩ ⟨⟨_, rfl, rfl⟩, (by first | (simp; done) | (simp; rfl) | exact clo_map _ _ _), ⟨_, rfl, rfl⟩, (by first | (simp; done) | (simp; rfl) | exact clo_map _ _ _), trivial⟩ trivial)
  · rintro k ⟨hk, hinv⟩
    refine awp_seq ?_
    refine awp_seq ?_
    refine awp_region ?_
    refine al_d rfl rfl rfl (by exact opd_move rfl rfl) ?_
    refine al_d rfl rfl rfl (by exact (by first | exact opd_field_ref rfl fo42_3 rfl rfl rfl rfl | exact opd_field_pad rfl fo42_3 rfl rfl)) ?_
    refine al_d rfl rfl rfl (by exact (by first | exact opd_load1_ref rfl Tryz.isAgg39 rfl rfl rfl rfl rfl | exact opd_load1_pad rfl Tryz.isAgg39 rfl (by first | omega | assumption) rfl)) ?_
    refine al_d rfl rfl rfl (by exact (by first | exact opd_len_sl rfl Tryz.underlying39 rfl | exact opd_len_osl rfl Tryz.underlying39 rfl rfl rfl)) ?_
    refine al_d rfl rfl rfl (by exact opd_lss rfl rfl rfl) ?_
    refine al_nil ?_
    refine awp_cond rfl (fun hc1 => ?_) (fun hc1 => ?_)
    -- cond 1
    · have hlt : k < o.refs.length := by have := of_decide_eq_true hc1; omega
      obtain ⟨s, hs⟩ := get_of_lt hlt
      have hi := map_get (f := encStr) hs
      have hdr : o.refs.drop k = s :: o.refs.drop (k + 1) := by
        obtain ⟨hl1, he1⟩ := List.getElem?_eq_some_iff.1 hs
        rw [List.drop_eq_getElem_cons hl1, he1]
      rw [hdr, refErr] at hinv
      have hF := fun H => rFind_c m s H hm
      rcases gidx_cases (idIs s) m with ⟨hg, hf⟩ | ⟨j, ob, hg, hob, hf⟩
      · have hko : kindOf m s = none := by rw [kindOf, hf]; rfl
        have hb : refBad m o.kind k s = 14 := by rw [refBad, hko]
        rw [hb, if_neg (by decide)] at hinv
        rw [hg] at hF
        refine awp_skip ?_
        refine awp_seq ?_
        refine awp_block ?_
        refine awp_seq ?_
        refine awp_drawc follows ?_
        refine dc_cons (DStep.q rfl (by exact (by first | exact opd_loadn_ref rfl Tryz.isAgg24 Tryz.sizeOf24 rfl rfl rfl rfl (by simp only [List.drop_succ_cons, List.drop_zero, List.take_succ_cons, List.take_zero, List.take_nil, List.map_cons, List.map_nil, List.set_cons_zero, List.set_cons_succ, List.cons_append, List.nil_append, encTag, encObj, encStr, encInt]; rfl) rfl | exact opd_loadn_pad rfl Tryz.isAgg24 Tryz.sizeOf24 rfl (by first | omega | assumption) (by simp only [List.drop_succ_cons, List.drop_zero, List.take_succ_cons, List.take_zero, List.take_nil, List.map_cons, List.map_nil, List.set_cons_zero, List.set_cons_succ, List.cons_append, List.nil_append, encTag, encObj, encStr, encInt]; rfl) rfl))) rfl ?_
        refine dc_cons (DStep.q rfl (by exact (by first | exact opd_field_ref rfl fo42_3 rfl rfl rfl rfl | exact opd_field_pad rfl fo42_3 rfl rfl))) rfl ?_
        refine dc_cons (DStep.q rfl (by exact (by first | exact opd_load1_ref rfl Tryz.isAgg39 rfl rfl rfl rfl rfl | exact opd_load1_pad rfl Tryz.isAgg39 rfl (by first | omega | assumption) rfl))) rfl ?_
        refine dc_cons (DStep.q rfl (by exact opd_move rfl rfl)) rfl ?_
        refine dc_cons (DStep.q rfl (by exact (by first | exact x_index_pad rfl so39 rfl rfl (by omega) (by first | exact Int.toNat_natCast _ | rfl) (by assumption) rfl | exact x_index_osl rfl so39 rfl rfl rfl rfl rfl (by omega) (by first | exact Int.toNat_natCast _ | rfl) (by first | omega | assumption) rfl))) rfl ?_
        refine dc_cons (DStep.q rfl (by exact (by first | exact opd_load1_ref rfl Tryz.isAgg9 rfl rfl rfl rfl rfl | exact opd_load1_pad rfl Tryz.isAgg9 rfl (by first | omega | assumption) rfl))) rfl ?_
        refine dc_cons (DStep.q rfl (by exact opr_call rfl rfl Tryz.call91 rfl (hF _))) rfl ?_
        refine dc_cons (DStep.q rfl (by exact opd_assign rfl rfl)) rfl ?_
        refine dc_nil ⟨by kernel_rfl, ?_⟩
        refine awp_seq ?_
        refine awp_seq ?_
        refine awp_region ?_
        refine al_d rfl rfl rfl (by exact opd_move rfl rfl) ?_
        refine al_d rfl rfl rfl (by exact opd_lss rfl rfl rfl) ?_
        refine al_nil ?_
        refine awp_cond rfl (fun hc2 => ?_) (fun hc2 => ?_)
        -- cond 2
        · skip
          refine awp_seq ?_
          refine awp_region ?_
          refine al_d rfl rfl rfl (by exact opd_assign rfl rfl) ?_
          refine al_nil ?_
          refine awp_ret ?_
          -- return
          refine aret1 (H' := []) (by first | exact .inr rfl | exact .inl rfl) rfl (rval_tmp rfl) (Fin.wk (by simp) trivial trivial) ?_
          exact ⟨by rw [hinv], rfl⟩
        · cases hc2
      · have hko : kindOf m s = some ob.kind := by rw [kindOf, hf]; rfl
        rw [hg] at hF
        have hio := map_get (f := encObj) hob
        refine awp_skip ?_
        refine awp_seq ?_
        refine awp_block ?_
        refine awp_seq ?_
        refine awp_drawc follows ?_
        refine dc_cons (DStep.q rfl (by exact (by first | exact opd_loadn_ref rfl Tryz.isAgg24 Tryz.sizeOf24 rfl rfl rfl rfl (by simp only [List.drop_succ_cons, List.drop_zero, List.take_succ_cons, List.take_zero, List.take_nil, List.map_cons, List.map_nil, List.set_cons_zero, List.set_cons_succ, List.cons_append, List.nil_append, encTag, encObj, encStr, encInt]; rfl) rfl | exact opd_loadn_pad rfl Tryz.isAgg24 Tryz.sizeOf24 rfl (by first | omega | assumption) (by simp only [List.drop_succ_cons, List.drop_zero, List.take_succ_cons, List.take_zero, List.take_nil, List.map_cons, List.map_nil, List.set_cons_zero, List.set_cons_succ, List.cons_append, List.nil_append, encTag, encObj, encStr, encInt]; rfl) rfl))) rfl ?_
        refine dc_cons (DStep.q rfl (by exact (by first | exact opd_field_ref rfl fo42_3 rfl rfl rfl rfl | exact opd_field_pad rfl fo42_3 rfl rfl))) rfl ?_
        refine dc_cons (DStep.q rfl (by exact (by first | exact opd_load1_ref rfl Tryz.isAgg39 rfl rfl rfl rfl rfl | exact opd_load1_pad rfl Tryz.isAgg39 rfl (by first | omega | assumption) rfl))) rfl ?_
        refine dc_cons (DStep.q rfl (by exact opd_move rfl rfl)) rfl ?_
        refine dc_cons (DStep.q rfl (by exact (by first | exact x_index_pad rfl so39 rfl rfl (by omega) (by first | exact Int.toNat_natCast _ | rfl) (by assumption) rfl | exact x_index_osl rfl so39 rfl rfl rfl rfl rfl (by omega) (by first | exact Int.toNat_natCast _ | rfl) (by first | omega | assumption) rfl))) rfl ?_
        refine dc_cons (DStep.q rfl (by exact (by first | exact opd_load1_ref rfl Tryz.isAgg9 rfl rfl rfl rfl rfl | exact opd_load1_pad rfl Tryz.isAgg9 rfl (by first | omega | assumption) rfl))) rfl ?_
        refine dc_cons (DStep.q rfl (by exact opr_call rfl rfl Tryz.call91 rfl (hF _))) rfl ?_
        refine dc_cons (DStep.q rfl (by exact opd_assign rfl rfl)) rfl ?_
        refine dc_nil ⟨by kernel_rfl, ?_⟩
        refine awp_seq ?_
        refine awp_seq ?_
        refine awp_region ?_
        refine al_d rfl rfl rfl (by exact opd_move rfl rfl) ?_
        refine al_d rfl rfl rfl (by exact opd_lss rfl rfl rfl) ?_
        refine al_nil ?_
        refine awp_cond rfl (fun hc3 => ?_) (fun hc3 => ?_)
        -- cond 3
        · have h := of_decide_eq_true hc3
          omega
        · skip
          refine awp_skip ?_
          refine awp_seq ?_
          refine awp_drawc follows ?_
          refine dc_cons (DStep.q rfl (by exact (by first | exact opd_field_ref rfl fo24_0 rfl rfl rfl rfl | exact opd_field_pad rfl fo24_0 rfl rfl))) rfl ?_
          refine dc_cons (DStep.q rfl (by exact (by first | exact opd_load1_ref rfl Tryz.isAgg22 rfl rfl rfl rfl rfl | exact opd_load1_pad rfl Tryz.isAgg22 rfl (by first | omega | assumption) rfl))) rfl ?_
          refine dc_cons (DStep.q rfl (by exact opd_move rfl rfl)) rfl ?_
          refine dc_cons (DStep.q rfl (by exact (by first | exact x_index_pad rfl so22 rfl rfl (by omega) (by first | exact Int.toNat_natCast _ | rfl) (by assumption) rfl | exact x_index_osl rfl so22 rfl rfl rfl rfl rfl (by omega) (by first | exact Int.toNat_natCast _ | rfl) (by first | omega | assumption) rfl))) rfl ?_
          refine dc_cons (DStep.q rfl (by exact (by first | exact opd_field_ref rfl fo42_1 rfl rfl rfl rfl | exact opd_field_pad rfl fo42_1 rfl rfl))) rfl ?_
          refine dc_cons (DStep.q rfl (by exact (by first | exact opd_load1_ref rfl Tryz.isAgg3 rfl rfl rfl rfl rfl | exact opd_load1_pad rfl Tryz.isAgg3 rfl (by first | omega | assumption) rfl))) rfl ?_
          refine dc_cons (DStep.q rfl (by exact (by first | exact opd_field_ref rfl fo42_1 rfl rfl rfl rfl | exact opd_field_pad rfl fo42_1 rfl rfl))) rfl ?_
          refine dc_cons (DStep.q rfl (by exact (by first | exact opd_load1_ref rfl Tryz.isAgg3 rfl rfl rfl rfl rfl | exact opd_load1_pad rfl Tryz.isAgg3 rfl (by first | omega | assumption) rfl))) rfl ?_
          refine dc_cons (DStep.q rfl (by exact opd_move rfl rfl)) rfl ?_
          refine dc_cons (DStep.q rfl (by exact opr_call rfl rfl Tryz.call134 rfl (rWanted_c o.kind (k : Int) _))) rfl ?_
          refine dc_cons (DStep.q rfl (by exact opd_neq rfl rfl rfl)) rfl ?_
          refine dc_nil ⟨by kernel_rfl, ?_⟩
          refine awp_cond rfl (fun hc4 => ?_) (fun hc4 => ?_)
          -- cond 4
          · have hb : refBad m o.kind k s = 13 := by
              have h : (!decide (ob.kind = gWanted o.kind (k : Int))) = true := hc4
              rw [refBad, hko]
              exact if_neg (by simpa using h)
            rw [hb, if_neg (by decide)] at hinv
            refine awp_seq ?_
            refine awp_region ?_
            refine al_d rfl rfl rfl (by exact opd_assign rfl rfl) ?_
            refine al_nil ?_
            refine awp_ret ?_
            -- return
            refine aret1 (H' := []) (by first | exact .inr rfl | exact .inl rfl) rfl (rval_tmp rfl) (Fin.wk (by simp) trivial trivial) ?_
            exact ⟨by rw [hinv], rfl⟩
          · have hb : refBad m o.kind k s = 0 := by
              have h : (!decide (ob.kind = gWanted o.kind (k : Int))) = false := hc4
              rw [refBad, hko]
              exact if_pos (by simpa using h)
            rw [if_pos hb] at hinv
            refine awp_skip ?_
            refine awp_region ?_
            refine al_d rfl rfl rfl (by exact opd_move rfl rfl) ?_
            refine al_d rfl rfl rfl (by exact opd_add rfl rfl rfl (by first | exact w64 (by omega) (by omega) | exact wu8 (by omega) (by omega) | rfl)) ?_
            refine al_d rfl rfl rfl (by exact opd_assign rfl rfl) ?_
            refine al_nil ?_
            -- end of a round
            exact ⟨k + 1, ⟨by omega, hinv⟩, by omega, (Ent.wk ⟨⟨_, rfl, rfl⟩, (by first | (simp; done) | (simp; rfl) | exact clo_map _ _ _), ⟨_, rfl, rfl⟩, (by first | (simp; done) | (simp; rfl) | exact clo_map _ _ _), ⟨_, rfl, rfl⟩, (by first | (simp; done) | (simp; rfl) | exact clo_map _ _ _), trivial⟩ ⟨⟨_, rfl, rfl⟩, (by first | (simp; done) | (simp; rfl) | exact clo_map _ _ _), ⟨_, rfl, rfl⟩, (by first | (simp; done) | (simp; rfl) | exact clo_map _ _ _), trivial⟩ trivial)⟩
    · have hge : k = o.refs.length := by have := of_decide_eq_false hc1; omega
      subst hge
      rw [List.drop_length, refErr] at hinv
      refine awp_exit ?_
      refine awp_seq ?_
      refine awp_region ?_
      refine al_d rfl rfl rfl (by exact opd_assign rfl rfl) ?_
      refine al_nil ?_
      refine awp_ret ?_
      -- return
      refine aret1 (H' := []) (by first | exact .inr rfl | exact .inl rfl) rfl (rval_tmp rfl) (Fin.wk (by simp) trivial trivial) ?_
      exact ⟨by rw [hinv], rfl⟩
theorem rClosed_c (m : List GObj) (H : Heap) (hm : okM m) : ACalls Tryz.prog 29 [.agg [.pv (slObjs m)]] H (fun r H' => r = bv (closedB m) ∧ H' = H) := by
  refine ACalls.pure ?_ (by simp) H
  have hml : (m.map encObj).length = m.length := List.length_map _
  have hl := hm.1
  refine ACalls.body Tryz.func29 rfl Tryz.ntmps29 (Nat.le_of_ble_eq_true rfl) ?_
  refine awp_seq ?_
  refine awp_region ?_
  refine al_d rfl rfl rfl (by exact opd_box (id := 1) rfl rfl rfl rfl rfl) ?_
  refine al_d rfl rfl rfl (by exact opd_assign rfl rfl) ?_
  refine al_nil ?_
  refine awp_seq ?_
  refine awp_seq ?_
  refine awp_region ?_
  refine al_d rfl rfl rfl (by exact (by first | exact opd_loadn_ref rfl Tryz.isAgg24 Tryz.sizeOf24 rfl rfl rfl rfl (by simp only [List.drop_succ_cons, List.drop_zero, List.take_succ_cons, List.take_zero, List.take_nil, List.map_cons, List.map_nil, List.set_cons_zero, List.set_cons_succ, List.cons_append, List.nil_append, encTag, encObj, encStr, encInt]; rfl) rfl | exact opd_loadn_pad rfl Tryz.isAgg24 Tryz.sizeOf24 rfl (by first | omega | assumption) (by simp only [List.drop_succ_cons, List.drop_zero, List.take_succ_cons, List.take_zero, List.take_nil, List.map_cons, List.map_nil, List.set_cons_zero, List.set_cons_succ, List.cons_append, List.nil_append, encTag, encObj, encStr, encInt]; rfl) rfl)) ?_
  refine al_d rfl rfl rfl (by exact opr_call rfl rfl Tryz.call73 rfl (rMap_c m _ hm)) ?_
  refine al_d rfl rfl rfl (by exact opd_not rfl rfl) ?_
  refine al_nil ?_
  refine awp_cond rfl (fun hc1 => ?_) (fun hc1 => ?_)
  -- cond 1
  · have hg : gMap m = false := by
      have h : (!gMap m) = true := hc1
      simpa using h
    refine awp_seq ?_
    refine awp_region ?_
    refine al_d rfl rfl rfl (by exact opd_assign rfl rfl) ?_
    refine al_nil ?_
    refine awp_ret ?_
    -- return
    refine aret1 (H' := []) (by first | exact .inr rfl | exact .inl rfl) rfl (rval_tmp rfl) (Fin.wk (by simp) trivial trivial) ?_
    exact ⟨by rw [closedB, hg, Bool.false_and], rfl⟩
  · have hg : gMap m = true := by
      have h : (!gMap m) = false := hc1
      simpa using h
    rw [closedB, hg, Bool.true_and]
    refine awp_skip ?_
    refine awp_seq ?_
    refine awp_seq ?_
    refine awp_region ?_
    refine al_d rfl rfl rfl (by exact opd_assign rfl rfl) ?_
    refine al_nil ?_
    refine awp_block ?_
    -- loop
    refine awp_loop (σ := Nat) (fun k => ([(1, .ref 1 0 0 0), (3, iv (k : Int))], [(1, bx 1 24 [.pv (slObjs m)])])) (fun k => k ≤ m.length ∧ ∀ j, j < k → ∀ b, m[j]? = some b → (!decide (refErr m b.kind 0 b.refs = 0)) = false) (fun k => m.length - k) 0 ⟨by omega, by omega⟩ ?_ ?_
    · exact (Ent.wk ⟨⟨_, rfl, rfl⟩, (by first | (simp; done) | (simp; rfl) | exact clo_map _ _ _), ⟨_, rfl, rfl⟩, (by first | (simp; done) | (simp; rfl) | exact clo_map _ _ _), trivial⟩ ⟨⟨_, rfl, rfl⟩, (by first | (simp; done) | (simp; rfl) | exact clo_map _ _ _), trivial⟩ trivial)
    · rintro k ⟨hk, hno⟩
      refine awp_seq ?_
      refine awp_seq ?_
      refine awp_region ?_
      refine al_d rfl rfl rfl (by exact opd_move rfl rfl) ?_
      refine al_d rfl rfl rfl (by exact (by first | exact opd_field_ref rfl fo24_0 rfl rfl rfl rfl | exact opd_field_pad rfl fo24_0 rfl rfl)) ?_
      refine al_d rfl rfl rfl (by exact (by first | exact opd_load1_ref rfl Tryz.isAgg22 rfl rfl rfl rfl rfl | exact opd_load1_pad rfl Tryz.isAgg22 rfl (by first | omega | assumption) rfl)) ?_
      refine al_d rfl rfl rfl (by exact (by first | exact opd_len_sl rfl Tryz.underlying22 rfl | exact opd_len_osl rfl Tryz.underlying22 rfl rfl rfl)) ?_
      refine al_d rfl rfl rfl (by exact opd_lss rfl rfl rfl) ?_
      refine al_nil ?_
      refine awp_cond rfl (fun hc2 => ?_) (fun hc2 => ?_)
      -- cond 2
      · have hlt : k < m.length := by have := of_decide_eq_true hc2; omega
        obtain ⟨o, ho⟩ := get_of_lt hlt
        have hi := map_get (f := encObj) ho
        have hoo := hm.2 o (List.mem_of_getElem? ho)
        refine awp_skip ?_
        refine awp_seq ?_
        refine awp_block ?_
        refine awp_seq ?_
        refine awp_drawc follows ?_
        refine dc_cons (DStep.q rfl (by exact (by first | exact opd_loadn_ref rfl Tryz.isAgg24 Tryz.sizeOf24 rfl rfl rfl rfl (by simp only [List.drop_succ_cons, List.drop_zero, List.take_succ_cons, List.take_zero, List.take_nil, List.map_cons, List.map_nil, List.set_cons_zero, List.set_cons_succ, List.cons_append, List.nil_append, encTag, encObj, encStr, encInt]; rfl) rfl | exact opd_loadn_pad rfl Tryz.isAgg24 Tryz.sizeOf24 rfl (by first | omega | assumption) (by simp only [List.drop_succ_cons, List.drop_zero, List.take_succ_cons, List.take_zero, List.take_nil, List.map_cons, List.map_nil, List.set_cons_zero, List.set_cons_succ, List.cons_append, List.nil_append, encTag, encObj, encStr, encInt]; rfl) rfl))) rfl ?_
        refine dc_cons (DStep.q rfl (by exact (by first | exact opd_field_ref rfl fo24_0 rfl rfl rfl rfl | exact opd_field_pad rfl fo24_0 rfl rfl))) rfl ?_
        refine dc_cons (DStep.q rfl (by exact (by first | exact opd_load1_ref rfl Tryz.isAgg22 rfl rfl rfl rfl rfl | exact opd_load1_pad rfl Tryz.isAgg22 rfl (by first | omega | assumption) rfl))) rfl ?_
        refine dc_cons (DStep.q rfl (by exact opd_move rfl rfl)) rfl ?_
        refine dc_cons (DStep.q rfl (by exact (by first | exact x_index_pad rfl so22 rfl rfl (by omega) (by first | exact Int.toNat_natCast _ | rfl) (by assumption) rfl | exact x_index_osl rfl so22 rfl rfl rfl rfl rfl (by omega) (by first | exact Int.toNat_natCast _ | rfl) (by first | omega | assumption) rfl))) rfl ?_
        refine dc_cons (DStep.q rfl (by exact (by first | exact opd_loadn_ref rfl Tryz.isAgg42 Tryz.sizeOf42 rfl rfl rfl rfl (by simp only [List.drop_succ_cons, List.drop_zero, List.take_succ_cons, List.take_zero, List.take_nil, List.map_cons, List.map_nil, List.set_cons_zero, List.set_cons_succ, List.cons_append, List.nil_append, encTag, encObj, encStr, encInt]; rfl) rfl | exact opd_loadn_pad rfl Tryz.isAgg42 Tryz.sizeOf42 rfl (by first | omega | assumption) (by simp only [List.drop_succ_cons, List.drop_zero, List.take_succ_cons, List.take_zero, List.take_nil, List.map_cons, List.map_nil, List.set_cons_zero, List.set_cons_succ, List.cons_append, List.nil_append, encTag, encObj, encStr, encInt]; rfl) rfl))) rfl ?_
        refine dc_cons (DStep.q rfl (by exact opr_call rfl rfl Tryz.call74 rfl (rErr_c m o _ hl hoo.2.2.1))) rfl ?_
        refine dc_cons (DStep.q rfl (by exact opd_neq rfl rfl rfl)) rfl ?_
        refine dc_nil ⟨by kernel_rfl, ?_⟩
        refine awp_cond rfl (fun hc3 => ?_) (fun hc3 => ?_)
        -- cond 3
        · have hf : m.all (fun o => decide (refErr m o.kind 0 o.refs = 0)) = false := by
            rw [List.all_eq_false]
            exact ⟨o, List.mem_of_getElem? ho, by simpa using hc3⟩
          refine awp_seq ?_
          refine awp_region ?_
          refine al_d rfl rfl rfl (by exact opd_assign rfl rfl) ?_
          refine al_nil ?_
          refine awp_ret ?_
          -- return
          refine aret1 (H' := []) (by first | exact .inr rfl | exact .inl rfl) rfl (rval_tmp rfl) (Fin.wk (by simp) trivial trivial) ?_
          exact ⟨by rw [hf], rfl⟩
        · skip
          refine awp_skip ?_
          refine awp_region ?_
          refine al_d rfl rfl rfl (by exact opd_move rfl rfl) ?_
          refine al_d rfl rfl rfl (by exact opd_add rfl rfl rfl (by first | exact w64 (by omega) (by omega) | exact wu8 (by omega) (by omega) | rfl)) ?_
          refine al_d rfl rfl rfl (by exact opd_assign rfl rfl) ?_
          refine al_nil ?_
          -- end of a round
          exact ⟨k + 1, ⟨by omega, pre_succ hno ho hc3⟩, by omega, (Ent.wk ⟨⟨_, rfl, rfl⟩, (by first | (simp; done) | (simp; rfl) | exact clo_map _ _ _), ⟨_, rfl, rfl⟩, (by first | (simp; done) | (simp; rfl) | exact clo_map _ _ _), trivial⟩ ⟨⟨_, rfl, rfl⟩, (by first | (simp; done) | (simp; rfl) | exact clo_map _ _ _), trivial⟩ trivial)⟩
      · have hge : k = m.length := by have := of_decide_eq_false hc2; omega
        subst hge
        have hf : m.all (fun o => decide (refErr m o.kind 0 o.refs = 0)) = true := by
          rw [List.all_eq_true]
          intro o ho
          obtain ⟨j, hj⟩ := List.mem_iff_getElem?.1 ho
          have := hno j (List.getElem?_eq_some_iff.1 hj).1 o hj
          simpa using this
        refine awp_exit ?_
        refine awp_seq ?_
        refine awp_region ?_
        refine al_d rfl rfl rfl (by exact opd_assign rfl rfl) ?_
        refine al_nil ?_
        refine awp_ret ?_
        -- return
        refine aret1 (H' := []) (by first | exact .inr rfl | exact .inl rfl) rfl (rval_tmp rfl) (Fin.wk (by simp) trivial trivial) ?_
        exact ⟨by rw [hf], rfl⟩
theorem rBefore_c (a b : List Int) (H : Heap) (ha : a.length < 4611686018427387904) : ACalls Tryz.prog 30 [.pv (slInts a), .pv (slInts b)] H (fun r H' => r = bv (!gBehind a b) ∧ H' = H) := by
  refine ACalls.pure ?_ (by simp) H
  have hma : (a.map encInt).length = a.length := List.length_map _
  have hmb : (b.map encInt).length = b.length := List.length_map _
  refine ACalls.body Tryz.func30 rfl Tryz.ntmps30 (Nat.le_of_ble_eq_true rfl) ?_
  refine awp_seq ?_
  refine awp_region ?_
  refine al_d rfl rfl rfl (by exact opd_assign rfl rfl) ?_
  refine al_nil ?_
  refine awp_seq ?_
  refine awp_seq ?_
  refine awp_region ?_
  refine al_d rfl rfl rfl (by exact opd_assign rfl rfl) ?_
  refine al_nil ?_
  refine awp_block ?_
  -- loop
  refine awp_loop (σ := Nat) (fun k => ([(0, .pv (slInts a)), (1, .pv (slInts b)), (5, iv (k : Int))], [])) (fun k => k ≤ a.length ∧ k ≤ b.length ∧ gBehind a b = gBehind (a.drop k) (b.drop k)) (fun k => a.length - k) 0 ⟨by omega, by omega, rfl⟩ ?_ ?_
  · exact Ent.e0 ⟨⟨_, rfl, rfl⟩, ⟨_, rfl, rfl⟩, ⟨_, rfl, rfl⟩, trivial⟩
  · rintro k ⟨hk, hk2, hinv⟩
    refine awp_seq ?_
    refine awp_seq ?_
    refine awp_bool (t := 15) (n := 11) (X := decide ((k : Int) < ((a.map encInt).length : Int)) && decide ((k : Int) < ((b.map encInt).length : Int))) ?_ ?_
    · all_goals (refine al_d rfl rfl rfl (by exact opd_move rfl rfl) ?_)
      all_goals (refine al_d rfl rfl rfl (by exact opd_move rfl rfl) ?_)
      all_goals (refine al_d rfl rfl rfl (by exact (by first | exact opd_len_sl rfl Tryz.underlying29 rfl | exact opd_len_osl rfl Tryz.underlying29 rfl rfl rfl)) ?_)
      all_goals (refine al_d rfl rfl rfl (by exact opd_lss rfl rfl rfl) ?_)
      all_goals (refine al_d rfl rfl rfl (by exact opd_move rfl rfl) ?_)
      all_goals (first | refine al_split (t := 10) rfl (fun h10 => ?_) (fun h10 => ?_) | refine al_dup (t := 10) rfl ?_ | skip)
      all_goals (try contradiction)
      all_goals (first | refine al_off rfl rfl rfl rfl rfl ?_ | refine al_offu rfl rfl rfl rfl ?_ | refine al_ond rfl rfl rfl rfl rfl rfl (by exact opd_move rfl rfl) ?_)
      all_goals (first | refine al_off rfl rfl rfl rfl rfl ?_ | refine al_offu rfl rfl rfl rfl ?_ | refine al_ond rfl rfl rfl rfl rfl rfl (by exact opd_move rfl rfl) ?_)
      all_goals (first | refine al_off rfl rfl rfl rfl rfl ?_ | refine al_offu rfl rfl rfl rfl ?_ | refine al_ond rfl rfl rfl rfl rfl rfl (by exact (by first | exact opd_len_sl rfl Tryz.underlying29 rfl | exact opd_len_osl rfl Tryz.underlying29 rfl rfl rfl)) ?_)
      all_goals (first | refine al_off rfl rfl rfl rfl rfl ?_ | refine al_offu rfl rfl rfl rfl ?_ | refine al_ond rfl rfl rfl rfl rfl rfl (by exact opd_lss rfl rfl rfl) ?_)
      all_goals (refine al_d rfl rfl rfl (by exact (by first | exact opd_pick_t rfl rfl rfl | exact opd_pick_f rfl rfl rfl | exact opd_pickt rfl rfl (by assumption) rfl | exact opd_pickf rfl rfl (by assumption) rfl | exact opd_pick rfl rfl rfl)) ?_)
      all_goals (refine al_nil ?_)
      all_goals (exact ⟨⟨_, rfl, by first | rfl | (simp only [*, Bool.false_and, Bool.true_and, Bool.and_false, Bool.and_true, Bool.true_or, Bool.false_or, Bool.or_true, Bool.or_false, Bool.not_true, Bool.not_false]; done) | (simp_all; done) | (simp_all; omega)⟩, rfl, rfl, rfl⟩)
    refine awp_cond rfl (fun hc1 => ?_) (fun hc1 => ?_)
    -- cond 1
    · have hlt : k < a.length ∧ k < b.length := by
        simp only [Bool.and_eq_true, decide_eq_true_eq, hma, hmb] at hc1
        omega
      obtain ⟨x, hx⟩ := get_of_lt hlt.1
      obtain ⟨y, hy⟩ := get_of_lt hlt.2
      have hi := map_get (f := encInt) hx
      have hi2 := map_get (f := encInt) hy
      have hda : a.drop k = x :: a.drop (k + 1) := by
        obtain ⟨hl1, he1⟩ := List.getElem?_eq_some_iff.1 hx
        rw [List.drop_eq_getElem_cons hl1, he1]
      have hdb : b.drop k = y :: b.drop (k + 1) := by
        obtain ⟨hl1, he1⟩ := List.getElem?_eq_some_iff.1 hy
        rw [List.drop_eq_getElem_cons hl1, he1]
      rw [hda, hdb, gBehind] at hinv
      refine awp_skip ?_
      refine awp_seq ?_
      refine awp_block ?_
      refine awp_seq ?_
      refine awp_drawc follows ?_
      refine dc_cons (DStep.q rfl (by exact opd_move rfl rfl)) rfl ?_
      refine dc_cons (DStep.q rfl (by exact opd_move rfl rfl)) rfl ?_
      refine dc_cons (DStep.q rfl (by exact (by first | exact x_index_pad rfl so29 rfl rfl (by omega) (by first | exact Int.toNat_natCast _ | rfl) (by assumption) rfl | exact x_index_osl rfl so29 rfl rfl rfl rfl rfl (by omega) (by first | exact Int.toNat_natCast _ | rfl) (by first | omega | assumption) rfl))) rfl ?_
      refine dc_cons (DStep.q rfl (by exact (by first | exact opd_load1_ref rfl Tryz.isAgg3 rfl rfl rfl rfl rfl | exact opd_load1_pad rfl Tryz.isAgg3 rfl (by first | omega | assumption) rfl))) rfl ?_
      refine dc_cons (DStep.q rfl (by exact opd_move rfl rfl)) rfl ?_
      refine dc_cons (DStep.q rfl (by exact opd_move rfl rfl)) rfl ?_
      refine dc_cons (DStep.q rfl (by exact (by first | exact x_index_pad rfl so29 rfl rfl (by omega) (by first | exact Int.toNat_natCast _ | rfl) (by assumption) rfl | exact x_index_osl rfl so29 rfl rfl rfl rfl rfl (by omega) (by first | exact Int.toNat_natCast _ | rfl) (by first | omega | assumption) rfl))) rfl ?_
      refine dc_cons (DStep.q rfl (by exact (by first | exact opd_load1_ref rfl Tryz.isAgg3 rfl rfl rfl rfl rfl | exact opd_load1_pad rfl Tryz.isAgg3 rfl (by first | omega | assumption) rfl))) rfl ?_
      refine dc_cons (DStep.q rfl (by exact opd_neq rfl rfl rfl)) rfl ?_
      refine dc_nil ⟨by kernel_rfl, ?_⟩
      refine awp_cond rfl (fun hc2 => ?_) (fun hc2 => ?_)
      -- cond 2
      · have ht : ¬ x = y := by
          have h : (!decide (x = y)) = true := hc2
          simpa using h
        rw [if_neg ht] at hinv
        refine awp_seq ?_
        refine awp_drawc follows ?_
        refine dc_cons (DStep.q rfl (by exact opd_move rfl rfl)) rfl ?_
        refine dc_cons (DStep.q rfl (by exact opd_move rfl rfl)) rfl ?_
        refine dc_cons (DStep.q rfl (by exact (by first | exact x_index_pad rfl so29 rfl rfl (by omega) (by first | exact Int.toNat_natCast _ | rfl) (by assumption) rfl | exact x_index_osl rfl so29 rfl rfl rfl rfl rfl (by omega) (by first | exact Int.toNat_natCast _ | rfl) (by first | omega | assumption) rfl))) rfl ?_
        refine dc_cons (DStep.q rfl (by exact (by first | exact opd_load1_ref rfl Tryz.isAgg3 rfl rfl rfl rfl rfl | exact opd_load1_pad rfl Tryz.isAgg3 rfl (by first | omega | assumption) rfl))) rfl ?_
        refine dc_cons (DStep.q rfl (by exact opd_move rfl rfl)) rfl ?_
        refine dc_cons (DStep.q rfl (by exact opd_move rfl rfl)) rfl ?_
        refine dc_cons (DStep.q rfl (by exact (by first | exact x_index_pad rfl so29 rfl rfl (by omega) (by first | exact Int.toNat_natCast _ | rfl) (by assumption) rfl | exact x_index_osl rfl so29 rfl rfl rfl rfl rfl (by omega) (by first | exact Int.toNat_natCast _ | rfl) (by first | omega | assumption) rfl))) rfl ?_
        refine dc_cons (DStep.q rfl (by exact (by first | exact opd_load1_ref rfl Tryz.isAgg3 rfl rfl rfl rfl rfl | exact opd_load1_pad rfl Tryz.isAgg3 rfl (by first | omega | assumption) rfl))) rfl ?_
        refine dc_cons (DStep.q rfl (by exact opd_lss rfl rfl rfl)) rfl ?_
        refine dc_cons (DStep.q rfl (by exact opd_assign rfl rfl)) rfl ?_
        refine dc_nil ⟨by kernel_rfl, ?_⟩
        refine awp_ret ?_
        -- return
        refine aret1 (H' := []) (by first | exact .inr rfl | exact .inl rfl) rfl (rval_tmp rfl) (Fin.wk (by simp) trivial trivial) ?_
        refine ⟨?_, rfl⟩
        rw [hinv]
        by_cases h : x < y
        · rw [decide_eq_true h, decide_eq_false (show ¬ y < x by omega)]; rfl
        · rw [decide_eq_false h, decide_eq_true (show y < x by omega)]; rfl
      · have ht : x = y := by
          have h : (!decide (x = y)) = false := hc2
          simpa using h
        rw [if_pos ht] at hinv
        refine awp_skip ?_
        refine awp_region ?_
        refine al_d rfl rfl rfl (by exact opd_move rfl rfl) ?_
        refine al_d rfl rfl rfl (by exact opd_add rfl rfl rfl (by first | exact w64 (by omega) (by omega) | exact wu8 (by omega) (by omega) | rfl)) ?_
        refine al_d rfl rfl rfl (by exact opd_assign rfl rfl) ?_
        refine al_nil ?_
        -- end of a round
        exact ⟨k + 1, ⟨by omega, by omega, hinv⟩, by omega, Ent.e0 ⟨⟨_, rfl, rfl⟩, ⟨_, rfl, rfl⟩, ⟨_, rfl, rfl⟩, trivial⟩⟩
    · have hge : k = a.length ∨ k = b.length := by
        simp only [Bool.and_eq_false_iff, decide_eq_false_iff_not, hma, hmb] at hc1
        omega
      have hfin : gBehind a b = decide (b.length < a.length) := by
        rw [hinv]
        rcases hge with h | h
        · rw [show a.drop k = [] from List.drop_eq_nil_of_le (by omega), gBehind, decide_eq_false (by omega)]
        · rw [show b.drop k = [] from List.drop_eq_nil_of_le (by omega)]
          by_cases hab : b.length < a.length
          · obtain ⟨x, hx⟩ := get_of_lt (l := a) (k := k) (by omega)
            obtain ⟨hl1, he1⟩ := List.getElem?_eq_some_iff.1 hx
            rw [List.drop_eq_getElem_cons hl1, gBehind, decide_eq_true hab]
          · rw [show a.drop k = [] from List.drop_eq_nil_of_le (by omega), gBehind, decide_eq_false hab]
      refine awp_exit ?_
      refine awp_seq ?_
      refine awp_region ?_
      refine al_d rfl rfl rfl (by exact opd_move rfl rfl) ?_
      refine al_d rfl rfl rfl (by exact (by first | exact opd_len_sl rfl Tryz.underlying29 rfl | exact opd_len_osl rfl Tryz.underlying29 rfl rfl rfl)) ?_
      refine al_d rfl rfl rfl (by exact opd_move rfl rfl) ?_
      refine al_d rfl rfl rfl (by exact (by first | exact opd_len_sl rfl Tryz.underlying29 rfl | exact opd_len_osl rfl Tryz.underlying29 rfl rfl rfl)) ?_
      refine al_d rfl rfl rfl (by exact opd_leq rfl rfl rfl) ?_
      refine al_d rfl rfl rfl (by exact opd_assign rfl rfl) ?_
      refine al_nil ?_
      refine awp_ret ?_
      -- return
      refine aret1 (H' := []) (by first | exact .inr rfl | exact .inl rfl) rfl (rval_tmp rfl) (Fin.wk (by simp) trivial trivial) ?_
      refine ⟨?_, rfl⟩
      rw [hfin]
      simp only [List.length_map]
      by_cases hab : b.length < a.length
      · rw [decide_eq_true hab, decide_eq_false (show ¬ (a.length : Int) ≤ (b.length : Int) by omega)]; rfl
      · rw [decide_eq_false hab, decide_eq_true (show (a.length : Int) ≤ (b.length : Int) by omega)]; rfl
end Go.Proofs.YtdgoodjhndeojaaGreat
end
section
set_option linter.unusedVariables false
set_option linter.unusedSimpArgs false
set_option maxRecDepth 100000
namespace Go.Proofs.YtdgoodjhndeojaaGreat
open Go.Abs
theorem verifySound_c (m : List GObj) (l : List GEdit) (kind : Int) (idx : List Int) (H : Heap) (h : okAll m l) (hx : idx.length < 4611686018427387904) : ACalls Tryz.prog 8 [.agg [.pv (slObjs m)], .pv (slEdits l), .agg [iv kind, .pv (slInts idx)]] H (fun r H' => r = bv true ∧ H' = H) := by
  refine ACalls.pure ?_ (by simp) H
  have hM := okAll_map h
  have hE := okAll_edits h
  obtain ⟨hm, hml, hl, he⟩ := h
  have hF := fun H => evFind_c m l H hm hl he
  refine ACalls.body Tryz.func8 rfl Tryz.ntmps8 (Nat.le_of_ble_eq_true rfl) ?_
  refine awp_seq ?_
  refine awp_region ?_
  refine al_d rfl rfl rfl (by exact opd_box (id := 3) rfl rfl rfl rfl rfl) ?_
  refine al_d rfl rfl rfl (by exact opd_box (id := 5) rfl rfl rfl rfl rfl) ?_
  refine al_d rfl rfl rfl (by exact opd_assign rfl rfl) ?_
  refine al_nil ?_
  refine awp_seq ?_
  refine awp_region ?_
  refine al_d rfl rfl rfl (by exact opr_call rfl rfl Tryz.call26 rfl (head32_c _)) ?_
  refine al_d rfl rfl rfl (by exact opd_assign rfl rfl) ?_
  refine al_nil ?_
  refine awp_seq ?_
  refine awp_seq ?_
  refine awp_bool (t := 31) (n := 25) (X := !gFew m l idx || !closedB m || !gChange l || !gAccept m l kind idx) ?_ ?_
  · all_goals (refine al_d rfl rfl rfl (by exact (by first | exact opd_loadn_ref rfl Tryz.isAgg24 Tryz.sizeOf24 rfl rfl rfl rfl (by simp only [List.drop_succ_cons, List.drop_zero, List.take_succ_cons, List.take_zero, List.take_nil, List.map_cons, List.map_nil, List.set_cons_zero, List.set_cons_succ, List.cons_append, List.nil_append, encTag, encObj, encStr, encEdit, encInt]; rfl) rfl | exact opd_loadn_pad rfl Tryz.isAgg24 Tryz.sizeOf24 rfl (by first | omega | assumption) (by simp only [List.drop_succ_cons, List.drop_zero, List.take_succ_cons, List.take_zero, List.take_nil, List.map_cons, List.map_nil, List.set_cons_zero, List.set_cons_succ, List.cons_append, List.nil_append, encTag, encObj, encStr, encEdit, encInt]; rfl) rfl)) ?_)
    all_goals (refine al_d rfl rfl rfl (by exact opd_move rfl rfl) ?_)
    all_goals (refine al_d rfl rfl rfl (by exact (by first | exact opd_loadn_ref rfl Tryz.isAgg31 Tryz.sizeOf31 rfl rfl rfl rfl (by simp only [List.drop_succ_cons, List.drop_zero, List.take_succ_cons, List.take_zero, List.take_nil, List.map_cons, List.map_nil, List.set_cons_zero, List.set_cons_succ, List.cons_append, List.nil_append, encTag, encObj, encStr, encEdit, encInt]; rfl) rfl | exact opd_loadn_pad rfl Tryz.isAgg31 Tryz.sizeOf31 rfl (by first | omega | assumption) (by simp only [List.drop_succ_cons, List.drop_zero, List.take_succ_cons, List.take_zero, List.take_nil, List.map_cons, List.map_nil, List.set_cons_zero, List.set_cons_succ, List.cons_append, List.nil_append, encTag, encObj, encStr, encEdit, encInt]; rfl) rfl)) ?_)
    all_goals (refine al_d rfl rfl rfl (by exact opr_call rfl rfl Tryz.call27 rfl (few_c m l kind idx _ hm.1 (fun o ho => ⟨(hm.2 o ho).2.2.1, (hm.2 o ho).2.1.1⟩) (by omega) (fun e hel => ⟨(he e hel).2.1.1, (he e hel).2.2.2.2.1, (he e hel).2.2.2.1.1⟩))) ?_)
    all_goals (refine al_d rfl rfl rfl (by exact opd_not rfl rfl) ?_)
    all_goals (refine al_d rfl rfl rfl (by exact opd_move rfl rfl) ?_)
    all_goals (first | refine al_split (t := 15) rfl (fun h15 => ?_) (fun h15 => ?_) | refine al_dup (t := 15) rfl ?_ | skip)
    all_goals (try contradiction)
    all_goals (first | refine al_off rfl rfl rfl rfl rfl ?_ | refine al_offu rfl rfl rfl rfl ?_ | refine al_ond rfl rfl rfl rfl rfl rfl (by exact (by first | exact opd_loadn_ref rfl Tryz.isAgg24 Tryz.sizeOf24 rfl rfl rfl rfl (by simp only [List.drop_succ_cons, List.drop_zero, List.take_succ_cons, List.take_zero, List.take_nil, List.map_cons, List.map_nil, List.set_cons_zero, List.set_cons_succ, List.cons_append, List.nil_append, encTag, encObj, encStr, encEdit, encInt]; rfl) rfl | exact opd_loadn_pad rfl Tryz.isAgg24 Tryz.sizeOf24 rfl (by first | omega | assumption) (by simp only [List.drop_succ_cons, List.drop_zero, List.take_succ_cons, List.take_zero, List.take_nil, List.map_cons, List.map_nil, List.set_cons_zero, List.set_cons_succ, List.cons_append, List.nil_append, encTag, encObj, encStr, encEdit, encInt]; rfl) rfl)) ?_)
    all_goals (first | refine al_off rfl rfl rfl rfl rfl ?_ | refine al_offu rfl rfl rfl rfl ?_ | refine al_ond rfl rfl rfl rfl rfl rfl (by exact opr_call rfl rfl Tryz.call29 rfl (rClosed_c m _ hm)) ?_)
    all_goals (first | refine al_off rfl rfl rfl rfl rfl ?_ | refine al_offu rfl rfl rfl rfl ?_ | refine al_ond rfl rfl rfl rfl rfl rfl (by exact opd_not rfl rfl) ?_)
    all_goals (refine al_d rfl rfl rfl (by exact (by first | exact opd_pick_t rfl rfl rfl | exact opd_pick_f rfl rfl rfl | exact opd_pickt rfl rfl (by assumption) rfl | exact opd_pickf rfl rfl (by assumption) rfl | exact opd_pick rfl rfl rfl)) ?_)
    all_goals (refine al_d rfl rfl rfl (by exact opd_move rfl rfl) ?_)
    all_goals (first | refine al_split (t := 20) rfl (fun h20 => ?_) (fun h20 => ?_) | refine al_dup (t := 20) rfl ?_ | skip)
    all_goals (try contradiction)
    all_goals (first | refine al_off rfl rfl rfl rfl rfl ?_ | refine al_offu rfl rfl rfl rfl ?_ | refine al_ond rfl rfl rfl rfl rfl rfl (by exact opd_move rfl rfl) ?_)
    all_goals (first | refine al_off rfl rfl rfl rfl rfl ?_ | refine al_offu rfl rfl rfl rfl ?_ | refine al_ond rfl rfl rfl rfl rfl rfl (by exact opr_call rfl rfl Tryz.call22 rfl (changeValid_c l _ (by omega) he)) ?_)
    all_goals (first | refine al_off rfl rfl rfl rfl rfl ?_ | refine al_offu rfl rfl rfl rfl ?_ | refine al_ond rfl rfl rfl rfl rfl rfl (by exact opd_not rfl rfl) ?_)
    all_goals (refine al_d rfl rfl rfl (by exact (by first | exact opd_pick_t rfl rfl rfl | exact opd_pick_f rfl rfl rfl | exact opd_pickt rfl rfl (by assumption) rfl | exact opd_pickf rfl rfl (by assumption) rfl | exact opd_pick rfl rfl rfl)) ?_)
    all_goals (refine al_d rfl rfl rfl (by exact opd_move rfl rfl) ?_)
    all_goals (first | refine al_split (t := 25) rfl (fun h25 => ?_) (fun h25 => ?_) | refine al_dup (t := 25) rfl ?_ | skip)
    all_goals (try contradiction)
    all_goals (first | refine al_off rfl rfl rfl rfl rfl ?_ | refine al_offu rfl rfl rfl rfl ?_ | refine al_ond rfl rfl rfl rfl rfl rfl (by exact (by first | exact opd_loadn_ref rfl Tryz.isAgg24 Tryz.sizeOf24 rfl rfl rfl rfl (by simp only [List.drop_succ_cons, List.drop_zero, List.take_succ_cons, List.take_zero, List.take_nil, List.map_cons, List.map_nil, List.set_cons_zero, List.set_cons_succ, List.cons_append, List.nil_append, encTag, encObj, encStr, encEdit, encInt]; rfl) rfl | exact opd_loadn_pad rfl Tryz.isAgg24 Tryz.sizeOf24 rfl (by first | omega | assumption) (by simp only [List.drop_succ_cons, List.drop_zero, List.take_succ_cons, List.take_zero, List.take_nil, List.map_cons, List.map_nil, List.set_cons_zero, List.set_cons_succ, List.cons_append, List.nil_append, encTag, encObj, encStr, encEdit, encInt]; rfl) rfl)) ?_)
    all_goals (first | refine al_off rfl rfl rfl rfl rfl ?_ | refine al_offu rfl rfl rfl rfl ?_ | refine al_ond rfl rfl rfl rfl rfl rfl (by exact opd_move rfl rfl) ?_)
    all_goals (first | refine al_off rfl rfl rfl rfl rfl ?_ | refine al_offu rfl rfl rfl rfl ?_ | refine al_ond rfl rfl rfl rfl rfl rfl (by exact (by first | exact opd_loadn_ref rfl Tryz.isAgg31 Tryz.sizeOf31 rfl rfl rfl rfl (by simp only [List.drop_succ_cons, List.drop_zero, List.take_succ_cons, List.take_zero, List.take_nil, List.map_cons, List.map_nil, List.set_cons_zero, List.set_cons_succ, List.cons_append, List.nil_append, encTag, encObj, encStr, encEdit, encInt]; rfl) rfl | exact opd_loadn_pad rfl Tryz.isAgg31 Tryz.sizeOf31 rfl (by first | omega | assumption) (by simp only [List.drop_succ_cons, List.drop_zero, List.take_succ_cons, List.take_zero, List.take_nil, List.map_cons, List.map_nil, List.set_cons_zero, List.set_cons_succ, List.cons_append, List.nil_append, encTag, encObj, encStr, encEdit, encInt]; rfl) rfl)) ?_)
    all_goals (first | refine al_off rfl rfl rfl rfl rfl ?_ | refine al_offu rfl rfl rfl rfl ?_ | refine al_ond rfl rfl rfl rfl rfl rfl (by exact opr_call rfl rfl Tryz.call28 rfl (accept_c m l kind idx _ hM hE hx)) ?_)
    all_goals (first | refine al_off rfl rfl rfl rfl rfl ?_ | refine al_offu rfl rfl rfl rfl ?_ | refine al_ond rfl rfl rfl rfl rfl rfl (by exact opd_not rfl rfl) ?_)
    all_goals (refine al_d rfl rfl rfl (by exact (by first | exact opd_pick_t rfl rfl rfl | exact opd_pick_f rfl rfl rfl | exact opd_pickt rfl rfl (by assumption) rfl | exact opd_pickf rfl rfl (by assumption) rfl | exact opd_pick rfl rfl rfl)) ?_)
    all_goals (refine al_nil ?_)
    all_goals (exact ⟨⟨_, rfl, by first | rfl | (simp only [*, Bool.false_and, Bool.true_and, Bool.and_false, Bool.and_true, Bool.true_or, Bool.false_or, Bool.or_true, Bool.or_false, Bool.not_true, Bool.not_false]; done) | (simp_all; done) | (simp_all; omega)⟩, rfl, rfl, rfl⟩)
  refine awp_cond rfl (fun hc1 => ?_) (fun hc1 => ?_)
  -- cond 1
  · skip
    refine awp_seq ?_
    refine awp_region ?_
    refine al_d rfl rfl rfl (by exact opd_move rfl rfl) ?_
    refine al_d rfl rfl rfl (by exact opd_assign rfl rfl) ?_
    refine al_nil ?_
    refine awp_ret ?_
    -- return
    refine aret1 (H' := []) (by first | exact .inr rfl | exact .inl rfl) rfl (rval_tmp rfl) (Fin.wk (by simp) trivial trivial) ?_
    exact ⟨rfl, rfl⟩
  · simp only [Bool.or_eq_false_iff, Bool.not_eq_false'] at hc1
    obtain ⟨⟨⟨_, hc⟩, hg⟩, hh⟩ := hc1
    obtain ⟨hv, hi1, hk⟩ := accept_ev (fun k h1 h4 e he => shows_eq (closed_map hc) (change_all hg e he) k h1 h4) hh
    have hll := find_least hv
    rw [hi1] at hll
    have hf : gFind m l = ((((gFind0 m l).1 : Nat) : Int), toI (gFind0 m l).2) := by rw [gFind, hc, hg]; rfl
    have hfl := find_len m l
    generalize gFind0 m l = z at *
    obtain ⟨kf, ef⟩ := z
    rw [hf] at hF hfl
    have hel : (toI ef).length < 4611686018427387904 := by simp only at hfl; omega
    have d0 : decide ((1 : Int) ≤ (kf : Int)) = true := decide_eq_true (by have := hll.1; simp only at this; omega)
    by_cases hlt : (kf : Int) < kind
    · have d2 := decide_eq_true hlt
      refine awp_skip ?_
      refine awp_seq ?_
      refine awp_region ?_
      refine al_d rfl rfl rfl (by exact (by first | exact opd_loadn_ref rfl Tryz.isAgg24 Tryz.sizeOf24 rfl rfl rfl rfl (by simp only [List.drop_succ_cons, List.drop_zero, List.take_succ_cons, List.take_zero, List.take_nil, List.map_cons, List.map_nil, List.set_cons_zero, List.set_cons_succ, List.cons_append, List.nil_append, encTag, encObj, encStr, encEdit, encInt]; rfl) rfl | exact opd_loadn_pad rfl Tryz.isAgg24 Tryz.sizeOf24 rfl (by first | omega | assumption) (by simp only [List.drop_succ_cons, List.drop_zero, List.take_succ_cons, List.take_zero, List.take_nil, List.map_cons, List.map_nil, List.set_cons_zero, List.set_cons_succ, List.cons_append, List.nil_append, encTag, encObj, encStr, encEdit, encInt]; rfl) rfl)) ?_
      refine al_d rfl rfl rfl (by exact opd_move rfl rfl) ?_
      refine al_d rfl rfl rfl (by exact opr_call rfl rfl Tryz.call19 rfl (hF _)) ?_
      refine al_d rfl rfl rfl (by exact x_alloc (id := 8) rfl zo31 rfl rfl) ?_
      refine al_n rfl rfl (by exact (by first | exact x_store_all rfl Tryz.sizeOf31 rfl rfl rfl rfl rfl rfl rfl rfl | exact x_store rfl Tryz.sizeOf31 rfl rfl rfl rfl rfl rfl rfl (by simp only [List.length_cons, List.length_nil]; omega) (by simp only [List.drop_succ_cons, List.drop_zero, List.take_succ_cons, List.take_zero, List.take_nil, List.map_cons, List.map_nil, List.set_cons_zero, List.set_cons_succ, List.cons_append, List.nil_append, encTag, encObj, encStr, encEdit, encInt]; rfl) (by simp only [List.drop_succ_cons, List.drop_zero, List.take_succ_cons, List.take_zero, List.take_nil, List.map_cons, List.map_nil, List.set_cons_zero, List.set_cons_succ, List.cons_append, List.nil_append, encTag, encObj, encStr, encEdit, encInt]; rfl) | exact x_store rfl Tryz.sizeOf31 rfl rfl rfl rfl rfl rfl rfl (Nat.le_of_ble_eq_true rfl) rfl rfl)) ?_
      refine al_nil ?_
      refine awp_seq ?_
      refine awp_region ?_
      refine al_d rfl rfl rfl (by exact opd_move rfl rfl) ?_
      refine al_d rfl rfl rfl (by exact opd_move rfl rfl) ?_
      refine al_ond rfl rfl rfl (by first | rfl | assumption) rfl rfl (by exact (by first | exact opd_field_ref rfl fo31_0 rfl rfl rfl rfl | exact opd_field_pad rfl fo31_0 rfl rfl)) ?_
      refine al_ond rfl rfl rfl (by first | rfl | assumption) rfl rfl (by exact (by first | exact opd_load1_ref rfl Tryz.isAgg3 rfl rfl rfl rfl rfl | exact opd_load1_pad rfl Tryz.isAgg3 rfl (by first | omega | assumption) rfl)) ?_
      refine al_ond rfl rfl rfl (by first | rfl | assumption) rfl rfl (by exact opd_geq rfl rfl rfl) ?_
      refine al_d rfl rfl rfl (by exact (by first | exact opd_pick_t rfl rfl rfl | exact opd_pick_f rfl rfl rfl | exact opd_pickt rfl rfl (by assumption) rfl | exact opd_pickf rfl rfl (by assumption) rfl | exact opd_pick rfl rfl rfl)) ?_
      refine al_d rfl rfl rfl (by exact opd_move rfl rfl) ?_
      refine al_ond rfl rfl rfl (by first | rfl | assumption) rfl rfl (by exact (by first | exact opd_field_ref rfl fo31_0 rfl rfl rfl rfl | exact opd_field_pad rfl fo31_0 rfl rfl)) ?_
      refine al_ond rfl rfl rfl (by first | rfl | assumption) rfl rfl (by exact (by first | exact opd_load1_ref rfl Tryz.isAgg3 rfl rfl rfl rfl rfl | exact opd_load1_pad rfl Tryz.isAgg3 rfl (by first | omega | assumption) rfl)) ?_
      refine al_ond rfl rfl rfl (by first | rfl | assumption) rfl rfl (by exact (by first | exact opd_field_ref rfl fo31_0 rfl rfl rfl rfl | exact opd_field_pad rfl fo31_0 rfl rfl)) ?_
      refine al_ond rfl rfl rfl (by first | rfl | assumption) rfl rfl (by exact (by first | exact opd_load1_ref rfl Tryz.isAgg3 rfl rfl rfl rfl rfl | exact opd_load1_pad rfl Tryz.isAgg3 rfl (by first | omega | assumption) rfl)) ?_
      refine al_ond rfl rfl rfl (by first | rfl | assumption) rfl rfl (by exact opd_lss rfl rfl rfl) ?_
      refine al_ond rfl rfl rfl (by first | rfl | assumption) rfl rfl (by exact opd_move rfl rfl) ?_
      refine al_off rfl rfl rfl (by first | rfl | assumption) rfl ?_
      refine al_off rfl rfl rfl (by first | rfl | assumption) rfl ?_
      refine al_off rfl rfl rfl (by first | rfl | assumption) rfl ?_
      refine al_off rfl rfl rfl (by first | rfl | assumption) rfl ?_
      refine al_off rfl rfl rfl (by first | rfl | assumption) rfl ?_
      refine al_off rfl rfl rfl (by first | rfl | assumption) rfl ?_
      refine al_offu rfl rfl rfl rfl ?_
      refine al_offu rfl rfl rfl rfl ?_
      refine al_offu rfl rfl rfl rfl ?_
      refine al_offu rfl rfl rfl rfl ?_
      refine al_offu rfl rfl rfl rfl ?_
      refine al_off rfl rfl rfl (by first | rfl | assumption) rfl ?_
      refine al_ond rfl rfl rfl (by first | rfl | assumption) rfl rfl (by exact (by first | exact opd_pick_t rfl rfl rfl | exact opd_pick_f rfl rfl rfl | exact opd_pickt rfl rfl (by assumption) rfl | exact opd_pickf rfl rfl (by assumption) rfl | exact opd_pick rfl rfl rfl)) ?_
      refine al_d rfl rfl rfl (by exact (by first | exact opd_pick_t rfl rfl rfl | exact opd_pick_f rfl rfl rfl | exact opd_pickt rfl rfl (by assumption) rfl | exact opd_pickf rfl rfl (by assumption) rfl | exact opd_pick rfl rfl rfl)) ?_
      refine al_d rfl rfl rfl (by exact opd_assign rfl rfl) ?_
      refine al_nil ?_
      refine awp_ret ?_
      -- return
      refine aret1 (H' := []) (by first | exact .inr rfl | exact .inl rfl) rfl (rval_tmp rfl) (Fin.wk (by simp) trivial trivial) ?_
      exact ⟨rfl, rfl⟩
    · have d2 := decide_eq_false hlt
      have d3 : decide ((kf : Int) = kind) = true := decide_eq_true (by have := hll.2.1; simp only at this; omega)
      have hb : gBehind (toI ef) idx = false := hll.2.2 (by have := hll.2.1; simp only at this ⊢; omega)
      have hB := fun H => rBefore_c (toI ef) idx H hel
      rw [hb] at hB
      refine awp_skip ?_
      refine awp_seq ?_
      refine awp_region ?_
      refine al_d rfl rfl rfl (by exact (by first | exact opd_loadn_ref rfl Tryz.isAgg24 Tryz.sizeOf24 rfl rfl rfl rfl (by simp only [List.drop_succ_cons, List.drop_zero, List.take_succ_cons, List.take_zero, List.take_nil, List.map_cons, List.map_nil, List.set_cons_zero, List.set_cons_succ, List.cons_append, List.nil_append, encTag, encObj, encStr, encEdit, encInt]; rfl) rfl | exact opd_loadn_pad rfl Tryz.isAgg24 Tryz.sizeOf24 rfl (by first | omega | assumption) (by simp only [List.drop_succ_cons, List.drop_zero, List.take_succ_cons, List.take_zero, List.take_nil, List.map_cons, List.map_nil, List.set_cons_zero, List.set_cons_succ, List.cons_append, List.nil_append, encTag, encObj, encStr, encEdit, encInt]; rfl) rfl)) ?_
      refine al_d rfl rfl rfl (by exact opd_move rfl rfl) ?_
      refine al_d rfl rfl rfl (by exact opr_call rfl rfl Tryz.call19 rfl (hF _)) ?_
      refine al_d rfl rfl rfl (by exact x_alloc (id := 8) rfl zo31 rfl rfl) ?_
      refine al_n rfl rfl (by exact (by first | exact x_store_all rfl Tryz.sizeOf31 rfl rfl rfl rfl rfl rfl rfl rfl | exact x_store rfl Tryz.sizeOf31 rfl rfl rfl rfl rfl rfl rfl (by simp only [List.length_cons, List.length_nil]; omega) (by simp only [List.drop_succ_cons, List.drop_zero, List.take_succ_cons, List.take_zero, List.take_nil, List.map_cons, List.map_nil, List.set_cons_zero, List.set_cons_succ, List.cons_append, List.nil_append, encTag, encObj, encStr, encEdit, encInt]; rfl) (by simp only [List.drop_succ_cons, List.drop_zero, List.take_succ_cons, List.take_zero, List.take_nil, List.map_cons, List.map_nil, List.set_cons_zero, List.set_cons_succ, List.cons_append, List.nil_append, encTag, encObj, encStr, encEdit, encInt]; rfl) | exact x_store rfl Tryz.sizeOf31 rfl rfl rfl rfl rfl rfl rfl (Nat.le_of_ble_eq_true rfl) rfl rfl)) ?_
      refine al_nil ?_
      refine awp_seq ?_
      refine awp_region ?_
      refine al_d rfl rfl rfl (by exact opd_move rfl rfl) ?_
      refine al_d rfl rfl rfl (by exact opd_move rfl rfl) ?_
      refine al_ond rfl rfl rfl (by first | rfl | assumption) rfl rfl (by exact (by first | exact opd_field_ref rfl fo31_0 rfl rfl rfl rfl | exact opd_field_pad rfl fo31_0 rfl rfl)) ?_
      refine al_ond rfl rfl rfl (by first | rfl | assumption) rfl rfl (by exact (by first | exact opd_load1_ref rfl Tryz.isAgg3 rfl rfl rfl rfl rfl | exact opd_load1_pad rfl Tryz.isAgg3 rfl (by first | omega | assumption) rfl)) ?_
      refine al_ond rfl rfl rfl (by first | rfl | assumption) rfl rfl (by exact opd_geq rfl rfl rfl) ?_
      refine al_d rfl rfl rfl (by exact (by first | exact opd_pick_t rfl rfl rfl | exact opd_pick_f rfl rfl rfl | exact opd_pickt rfl rfl (by assumption) rfl | exact opd_pickf rfl rfl (by assumption) rfl | exact opd_pick rfl rfl rfl)) ?_
      refine al_d rfl rfl rfl (by exact opd_move rfl rfl) ?_
      refine al_ond rfl rfl rfl (by first | rfl | assumption) rfl rfl (by exact (by first | exact opd_field_ref rfl fo31_0 rfl rfl rfl rfl | exact opd_field_pad rfl fo31_0 rfl rfl)) ?_
      refine al_ond rfl rfl rfl (by first | rfl | assumption) rfl rfl (by exact (by first | exact opd_load1_ref rfl Tryz.isAgg3 rfl rfl rfl rfl rfl | exact opd_load1_pad rfl Tryz.isAgg3 rfl (by first | omega | assumption) rfl)) ?_
      refine al_ond rfl rfl rfl (by first | rfl | assumption) rfl rfl (by exact (by first | exact opd_field_ref rfl fo31_0 rfl rfl rfl rfl | exact opd_field_pad rfl fo31_0 rfl rfl)) ?_
      refine al_ond rfl rfl rfl (by first | rfl | assumption) rfl rfl (by exact (by first | exact opd_load1_ref rfl Tryz.isAgg3 rfl rfl rfl rfl rfl | exact opd_load1_pad rfl Tryz.isAgg3 rfl (by first | omega | assumption) rfl)) ?_
      refine al_ond rfl rfl rfl (by first | rfl | assumption) rfl rfl (by exact opd_lss rfl rfl rfl) ?_
      refine al_ond rfl rfl rfl (by first | rfl | assumption) rfl rfl (by exact opd_move rfl rfl) ?_
      refine al_ond rfl rfl rfl (by first | rfl | assumption) rfl rfl (by exact (by first | exact opd_field_ref rfl fo31_0 rfl rfl rfl rfl | exact opd_field_pad rfl fo31_0 rfl rfl)) ?_
      refine al_ond rfl rfl rfl (by first | rfl | assumption) rfl rfl (by exact (by first | exact opd_load1_ref rfl Tryz.isAgg3 rfl rfl rfl rfl rfl | exact opd_load1_pad rfl Tryz.isAgg3 rfl (by first | omega | assumption) rfl)) ?_
      refine al_ond rfl rfl rfl (by first | rfl | assumption) rfl rfl (by exact (by first | exact opd_field_ref rfl fo31_0 rfl rfl rfl rfl | exact opd_field_pad rfl fo31_0 rfl rfl)) ?_
      refine al_ond rfl rfl rfl (by first | rfl | assumption) rfl rfl (by exact (by first | exact opd_load1_ref rfl Tryz.isAgg3 rfl rfl rfl rfl rfl | exact opd_load1_pad rfl Tryz.isAgg3 rfl (by first | omega | assumption) rfl)) ?_
      refine al_ond rfl rfl rfl (by first | rfl | assumption) rfl rfl (by exact opd_eql rfl rfl rfl) ?_
      refine al_ond rfl rfl rfl (by first | rfl | assumption) rfl rfl (by exact opd_move rfl rfl) ?_
      refine al_ond rfl rfl rfl (by first | rfl | assumption) rfl rfl (by exact (by first | exact opd_field_ref rfl fo31_1 rfl rfl rfl rfl | exact opd_field_pad rfl fo31_1 rfl rfl)) ?_
      refine al_ond rfl rfl rfl (by first | rfl | assumption) rfl rfl (by exact (by first | exact opd_load1_ref rfl Tryz.isAgg29 rfl rfl rfl rfl rfl | exact opd_load1_pad rfl Tryz.isAgg29 rfl (by first | omega | assumption) rfl)) ?_
      refine al_ond rfl rfl rfl (by first | rfl | assumption) rfl rfl (by exact (by first | exact opd_field_ref rfl fo31_1 rfl rfl rfl rfl | exact opd_field_pad rfl fo31_1 rfl rfl)) ?_
      refine al_ond rfl rfl rfl (by first | rfl | assumption) rfl rfl (by exact (by first | exact opd_load1_ref rfl Tryz.isAgg29 rfl rfl rfl rfl rfl | exact opd_load1_pad rfl Tryz.isAgg29 rfl (by first | omega | assumption) rfl)) ?_
      refine al_ond rfl rfl rfl (by first | rfl | assumption) rfl rfl (by exact opr_call rfl rfl Tryz.call30 rfl (hB _)) ?_
      refine al_ond rfl rfl rfl (by first | rfl | assumption) rfl rfl (by exact (by first | exact opd_pick_t rfl rfl rfl | exact opd_pick_f rfl rfl rfl | exact opd_pickt rfl rfl (by assumption) rfl | exact opd_pickf rfl rfl (by assumption) rfl | exact opd_pick rfl rfl rfl)) ?_
      refine al_ond rfl rfl rfl (by first | rfl | assumption) rfl rfl (by exact (by first | exact opd_pick_t rfl rfl rfl | exact opd_pick_f rfl rfl rfl | exact opd_pickt rfl rfl (by assumption) rfl | exact opd_pickf rfl rfl (by assumption) rfl | exact opd_pick rfl rfl rfl)) ?_
      refine al_d rfl rfl rfl (by exact (by first | exact opd_pick_t rfl rfl rfl | exact opd_pick_f rfl rfl rfl | exact opd_pickt rfl rfl (by assumption) rfl | exact opd_pickf rfl rfl (by assumption) rfl | exact opd_pick rfl rfl rfl)) ?_
      refine al_d rfl rfl rfl (by exact opd_assign rfl rfl) ?_
      refine al_nil ?_
      refine awp_ret ?_
      -- return
      refine aret1 (H' := []) (by first | exact .inr rfl | exact .inl rfl) rfl (rval_tmp rfl) (Fin.wk (by simp) trivial trivial) ?_
      exact ⟨rfl, rfl⟩
end Go.Proofs.YtdgoodjhndeojaaGreat
end
