/-
  CONTRACTS: atlas.Valid. Conditions: lengths below 2^62.
-/
import Derived.Test.YtdgoodjhndeojaaE6
set_option linter.unusedVariables false
set_option linter.unusedSimpArgs false
set_option maxRecDepth 100000
namespace Go.Proofs.Ytdgoodjhndeojaa
open Go.Abs
def badObj (last : ByteArray) (o : GObj) : Bool := !gObj o || sle o.id last
def gMap (m : List GObj) : Bool := !((List.range m.length).any (badAt badObj GObj.id m)) && decide ((m.length : Int) ≤ 1000000)
def okM (m : List GObj) : Prop := m.length < 4611686018427387904 ∧ ∀ o ∈ m, okO o
theorem atlasValid_c (m : List GObj) (H : Heap) (hm : okM m) : ACalls Try.prog 13 [.agg [.pv (slObjs m)]] H (fun r H' => r = bv (gMap m) ∧ H' = H) := by
  refine ACalls.pure ?_ (by simp) H
  obtain ⟨hl, hos⟩ := hm
  have hml : (m.map encObj).length = m.length := List.length_map _
  refine ACalls.body Try.func13 rfl Try.ntmps13 (Nat.le_of_ble_eq_true rfl) ?_
  refine awp_seq ?_
  refine awp_region ?_
  refine al_d rfl rfl rfl (by exact opd_box (id := 1) rfl rfl rfl rfl rfl) ?_
  refine al_d rfl rfl rfl (by exact opd_assign rfl rfl) ?_
  refine al_nil ?_
  refine awp_seq ?_
  refine awp_region ?_
  refine al_d rfl rfl rfl (by exact opd_assign rfl rfl) ?_
  refine al_nil ?_
  refine awp_seq ?_
  refine awp_seq ?_
  refine awp_region ?_
  refine al_d rfl rfl rfl (by exact (by first | exact opd_field_ref rfl fo24_0 rfl rfl rfl rfl | exact opd_field_pad rfl fo24_0 rfl rfl)) ?_
  refine al_d rfl rfl rfl (by exact (by first | exact opd_load1_ref rfl Try.isAgg22 rfl rfl rfl rfl rfl | exact opd_load1_pad rfl Try.isAgg22 rfl (by first | omega | assumption) rfl)) ?_
  refine al_d rfl rfl rfl (by exact (by first | exact opd_len_sl rfl Try.underlying22 rfl | exact opd_len_osl rfl Try.underlying22 rfl rfl rfl)) ?_
  refine al_d rfl rfl rfl (by exact opd_move rfl rfl) ?_
  refine al_nil ?_
  refine awp_block ?_
  -- loop
  refine awp_loop (σ := Nat) (fun k => ([(1, .ref 1 0 0 0), (3, sv (before GObj.id m k)), (7, .pv (slObjs m)), (8, iv ((m.map encObj).length : Int)), (9, iv (k : Int))], [(1, bx 1 24 [.pv (slObjs m)])])) (fun k => k ≤ m.length ∧ ∀ j, j < k → badAt badObj GObj.id m j = false) (fun k => m.length - k) 0 ⟨by omega, by omega⟩ ?_ ?_
  · exact (Ent.wk ⟨⟨_, rfl, rfl⟩, (by first | (simp; done) | (simp; rfl) | exact clo_map _ _ _), ⟨_, rfl, rfl⟩, (by first | (simp; done) | (simp; rfl) | exact clo_map _ _ _), ⟨_, rfl, rfl⟩, (by first | (simp; done) | (simp; rfl) | exact clo_map _ _ _), ⟨_, rfl, rfl⟩, (by first | (simp; done) | (simp; rfl) | exact clo_map _ _ _), ⟨_, rfl, rfl⟩, (by first | (simp; done) | (simp; rfl) | exact clo_map _ _ _), trivial⟩ ⟨⟨_, rfl, rfl⟩, (by first | (simp; done) | (simp; rfl) | exact clo_map _ _ _), trivial⟩ trivial)
  · rintro k ⟨hk, hno⟩
    refine awp_seq ?_
    refine awp_region ?_
    refine al_d rfl rfl rfl (by exact opd_lss rfl rfl rfl) ?_
    refine al_nil ?_
    refine awp_seq ?_
    refine awp_cond rfl (fun hc1 => ?_) (fun hc1 => ?_)
    -- cond 1
    · have hlt : k < m.length := by have := of_decide_eq_true hc1; omega
      obtain ⟨o, ho⟩ := get_of_lt hlt
      have hi := map_get (f := encObj) ho
      have hoo := hos o (List.mem_of_getElem? ho)
      refine awp_skip ?_
      refine awp_seq ?_
      refine awp_block ?_
      refine awp_seq ?_
      refine awp_region ?_
      refine al_d rfl rfl rfl (by exact (by first | exact x_index_pad rfl so22 rfl rfl (by omega) (by first | exact Int.toNat_natCast _ | rfl) (by assumption) rfl | exact x_index_osl rfl so22 rfl rfl rfl rfl rfl (by omega) (by first | exact Int.toNat_natCast _ | rfl) (by first | omega | assumption) rfl)) ?_
      refine al_d rfl rfl rfl (by exact (by first | exact opd_loadn_ref rfl Try.isAgg38 Try.sizeOf38 rfl rfl rfl rfl (by simp only [List.drop_succ_cons, List.drop_zero, List.take_succ_cons, List.take_zero, List.take_nil, List.map_cons, List.map_nil, List.set_cons_zero, List.set_cons_succ, List.cons_append, List.nil_append, encTag, encObj]; rfl) rfl | exact opd_loadn_pad rfl Try.isAgg38 Try.sizeOf38 rfl (by first | omega | assumption) (by simp only [List.drop_succ_cons, List.drop_zero, List.take_succ_cons, List.take_zero, List.take_nil, List.map_cons, List.map_nil, List.set_cons_zero, List.set_cons_succ, List.cons_append, List.nil_append, encTag, encObj]; rfl) rfl)) ?_
      refine al_d rfl rfl rfl (by exact x_alloc (id := 5) rfl zo38 rfl rfl) ?_
      refine al_n rfl rfl (by exact (by first | exact x_store_all rfl Try.sizeOf38 rfl rfl rfl rfl rfl rfl rfl rfl | exact x_store rfl Try.sizeOf38 rfl rfl rfl rfl rfl rfl rfl (by simp only [List.length_cons, List.length_nil]; omega) (by simp only [List.drop_succ_cons, List.drop_zero, List.take_succ_cons, List.take_zero, List.take_nil, List.map_cons, List.map_nil, List.set_cons_zero, List.set_cons_succ, List.cons_append, List.nil_append, encTag, encObj]; rfl) (by simp only [List.drop_succ_cons, List.drop_zero, List.take_succ_cons, List.take_zero, List.take_nil, List.map_cons, List.map_nil, List.set_cons_zero, List.set_cons_succ, List.cons_append, List.nil_append, encTag, encObj]; rfl))) ?_
      refine al_nil ?_
      refine awp_seq ?_
      refine awp_seq ?_
      refine awp_bool (t := 21) (n := 10) (X := badObj (before GObj.id m k) o) ?_ ?_
      · all_goals (refine al_d rfl rfl rfl (by exact (by first | exact opd_loadn_ref rfl Try.isAgg38 Try.sizeOf38 rfl rfl rfl rfl (by simp only [List.drop_succ_cons, List.drop_zero, List.take_succ_cons, List.take_zero, List.take_nil, List.map_cons, List.map_nil, List.set_cons_zero, List.set_cons_succ, List.cons_append, List.nil_append, encTag, encObj]; rfl) rfl | exact opd_loadn_pad rfl Try.isAgg38 Try.sizeOf38 rfl (by first | omega | assumption) (by simp only [List.drop_succ_cons, List.drop_zero, List.take_succ_cons, List.take_zero, List.take_nil, List.map_cons, List.map_nil, List.set_cons_zero, List.set_cons_succ, List.cons_append, List.nil_append, encTag, encObj]; rfl) rfl)) ?_)
        all_goals (refine al_d rfl rfl rfl (by exact opr_call rfl rfl Try.call43 rfl (objValid_c o _ hoo)) ?_)
        all_goals (refine al_d rfl rfl rfl (by exact opd_not rfl rfl) ?_)
        all_goals (refine al_d rfl rfl rfl (by exact opd_move rfl rfl) ?_)
        all_goals (first | refine al_split (t := 16) rfl (fun h16 => ?_) (fun h16 => ?_) | refine al_dup (t := 16) rfl ?_ | skip)
        all_goals (try contradiction)
        all_goals (first | refine al_off rfl rfl rfl rfl rfl ?_ | refine al_offu rfl rfl rfl rfl ?_ | refine al_ond rfl rfl rfl rfl rfl rfl (by exact (by first | exact opd_field_ref rfl fo38_0 rfl rfl rfl rfl | exact opd_field_pad rfl fo38_0 rfl rfl)) ?_)
        all_goals (first | refine al_off rfl rfl rfl rfl rfl ?_ | refine al_offu rfl rfl rfl rfl ?_ | refine al_ond rfl rfl rfl rfl rfl rfl (by exact (by first | exact opd_load1_ref rfl Try.isAgg9 rfl rfl rfl rfl rfl | exact opd_load1_pad rfl Try.isAgg9 rfl (by first | omega | assumption) rfl)) ?_)
        all_goals (first | refine al_off rfl rfl rfl rfl rfl ?_ | refine al_offu rfl rfl rfl rfl ?_ | refine al_ond rfl rfl rfl rfl rfl rfl (by exact opd_move rfl rfl) ?_)
        all_goals (first | refine al_off rfl rfl rfl rfl rfl ?_ | refine al_offu rfl rfl rfl rfl ?_ | refine al_ond rfl rfl rfl rfl rfl rfl (by exact opd_sleq rfl rfl rfl) ?_)
        all_goals (refine al_d rfl rfl rfl (by exact (by first | exact opd_pick_t rfl rfl rfl | exact opd_pick_f rfl rfl rfl | exact opd_pickt rfl rfl (by assumption) rfl | exact opd_pickf rfl rfl (by assumption) rfl | exact opd_pick rfl rfl rfl)) ?_)
        all_goals (refine al_nil ?_)
        all_goals (exact ⟨⟨_, rfl, by first | rfl | (simp only [badObj, sle, *]; rfl) | (simp_all [badObj, sle]; done)⟩, rfl, rfl, rfl⟩)
      refine awp_cond rfl (fun hc2 => ?_) (fun hc2 => ?_)
      -- cond 2
      · skip
        refine awp_seq ?_
        refine awp_region ?_
        refine al_d rfl rfl rfl (by exact opd_assign rfl rfl) ?_
        refine al_nil ?_
        refine awp_ret ?_
        -- return
        refine aret1 (H' := []) (by first | exact .inr rfl | exact .inl rfl) rfl (rval_tmp rfl) (Fin.wk (by simp) trivial trivial) ?_
        exact ⟨by rw [gMap, range_some hlt ((badAt_some ho).trans hc2)]; rfl, rfl⟩
      · skip
        refine awp_skip ?_
        refine awp_region ?_
        refine al_d rfl rfl rfl (by exact (by first | exact opd_field_ref rfl fo38_0 rfl rfl rfl rfl | exact opd_field_pad rfl fo38_0 rfl rfl)) ?_
        refine al_d rfl rfl rfl (by exact (by first | exact opd_load1_ref rfl Try.isAgg9 rfl rfl rfl rfl rfl | exact opd_load1_pad rfl Try.isAgg9 rfl (by first | omega | assumption) rfl)) ?_
        refine al_d rfl rfl rfl (by exact opd_assign rfl rfl) ?_
        refine al_nil ?_
        refine awp_region ?_
        refine al_d rfl rfl rfl (by exact opd_add rfl rfl rfl (by first | exact w64 (by omega) (by omega) | exact wu8 (by omega) (by omega) | rfl)) ?_
        refine al_d rfl rfl rfl (by exact opd_move rfl rfl) ?_
        refine al_nil ?_
        -- end of a round
        refine ⟨k + 1, ⟨by omega, fun j hj => ?_⟩, by omega, ?_⟩
        · by_cases e : j = k
          · subst e; exact (badAt_some ho).trans hc2
          · exact hno j (by omega)
        · rw [before_succ ho]
          exact (Ent.wk ⟨⟨_, rfl, rfl⟩, (by first | (simp; done) | (simp; rfl) | exact clo_map _ _ _), ⟨_, rfl, rfl⟩, (by first | (simp; done) | (simp; rfl) | exact clo_map _ _ _), ⟨_, rfl, rfl⟩, (by first | (simp; done) | (simp; rfl) | exact clo_map _ _ _), ⟨_, rfl, rfl⟩, (by first | (simp; done) | (simp; rfl) | exact clo_map _ _ _), ⟨_, rfl, rfl⟩, (by first | (simp; done) | (simp; rfl) | exact clo_map _ _ _), trivial⟩ ⟨⟨_, rfl, rfl⟩, (by first | (simp; done) | (simp; rfl) | exact clo_map _ _ _), trivial⟩ trivial)
    · have hge : k = m.length := by have := of_decide_eq_false hc1; omega
      subst hge
      refine awp_exit ?_
      refine awp_seq ?_
      refine awp_region ?_
      refine al_d rfl rfl rfl (by exact (by first | exact opd_field_ref rfl fo24_0 rfl rfl rfl rfl | exact opd_field_pad rfl fo24_0 rfl rfl)) ?_
      refine al_d rfl rfl rfl (by exact (by first | exact opd_load1_ref rfl Try.isAgg22 rfl rfl rfl rfl rfl | exact opd_load1_pad rfl Try.isAgg22 rfl (by first | omega | assumption) rfl)) ?_
      refine al_d rfl rfl rfl (by exact (by first | exact opd_len_sl rfl Try.underlying22 rfl | exact opd_len_osl rfl Try.underlying22 rfl rfl rfl)) ?_
      refine al_d rfl rfl rfl (by exact opd_leq rfl rfl rfl) ?_
      refine al_d rfl rfl rfl (by exact opd_assign rfl rfl) ?_
      refine al_nil ?_
      refine awp_ret ?_
      -- return
      refine aret1 (H' := []) (by first | exact .inr rfl | exact .inl rfl) rfl (rval_tmp rfl) (Fin.wk (by simp) trivial trivial) ?_
      exact ⟨by rw [gMap, range_any hno, ← hml]; rfl, rfl⟩
end Go.Proofs.Ytdgoodjhndeojaa
