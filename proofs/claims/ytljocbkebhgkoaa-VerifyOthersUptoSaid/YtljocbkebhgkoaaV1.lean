/-
  CONTRACTS: slices.IndexFunc, ContainsFunc, Equal at the types of the map; package verify's small functions.
  Conditions: lengths below 2^62.
-/
import Derived.Test.YtljocbkebhgkoaaData
set_option linter.unusedVariables false
set_option linter.unusedSimpArgs false
set_option maxRecDepth 100000
namespace Go.Proofs.Ytljocbkebhgkoaa
open Go.Abs
/-- slices.IndexFunc at planisphere/api.Object. -/
theorem indexFunc_GObj (fv : AV) (l : List GObj) (p : GObj → Bool) (H : Heap) (hl : l.length < 4611686018427387904) (hf : ∀ o, o ∈ l → CallsV Try.prog fv [.agg ((encObj o).map .pv)] H (fun r H' => r = .pv (.bool (p o)) ∧ H' = H)) :
    ACalls Try.prog 82 [.pv (.sl (l.map encObj)), fv] H (fun r H' => r = .pv (.int .i64 (gidx p l)) ∧ H' = H) := by
  refine ACalls.body Try.func82 rfl Try.ntmps82 (Nat.le_of_ble_eq_true rfl) ?_
  refine awp_seq ?_
  refine awp_region ?_
  refine al_d rfl rfl rfl (by exact opd_assign rfl rfl) ?_
  refine al_nil ?_
  refine awp_seq ?_
  refine awp_seq ?_
  refine awp_region ?_
  refine al_d rfl rfl rfl (by exact opd_move rfl rfl) ?_
  refine al_d rfl rfl rfl (by exact (by first | exact opd_len_sl rfl Try.underlying22 rfl | exact opd_len_osl rfl Try.underlying22 rfl rfl rfl)) ?_
  refine al_d rfl rfl rfl (by exact opd_move rfl rfl) ?_
  refine al_nil ?_
  refine awp_block ?_
  -- loop
  refine awp_loop (σ := Nat) (fun k => ([(0, .pv (.sl (l.map encObj))), (1, fv), (7, .pv (.int .i64 (l.map encObj).length)), (8, .pv (.int .i64 (k : Int)))], H)) (fun k => k ≤ l.length ∧ ∀ j, j < k → ∀ b, l[j]? = some b → p b = false) (fun k => l.length - k) 0 ⟨by omega, by omega⟩ ?_ ?_
  · exact Ent.e0 ⟨⟨_, rfl, rfl⟩, ⟨_, rfl, rfl⟩, ⟨_, rfl, rfl⟩, ⟨_, rfl, rfl⟩, trivial⟩
  · rintro k ⟨hk, hno⟩
    refine awp_seq ?_
    refine awp_region ?_
    refine al_d rfl rfl rfl (by exact opd_lss rfl rfl rfl) ?_
    refine al_nil ?_
    refine awp_seq ?_
    refine awp_cond rfl (fun hc1 => ?_) (fun hc1 => ?_)
    -- cond 1
    · have hlt : k < l.length := by simpa using hc1
      obtain ⟨o, ho⟩ := get_of_lt hlt
      have hi := map_get (f := encObj) ho
      have hfo := hf o (List.mem_of_getElem? ho)
      refine awp_skip ?_
      refine awp_seq ?_
      refine awp_block ?_
      refine awp_seq ?_
      refine awp_region ?_
      refine al_d rfl rfl rfl (by exact opd_move rfl rfl) ?_
      refine al_d rfl rfl rfl (by exact opd_assign rfl rfl) ?_
      refine al_nil ?_
      refine awp_seq ?_
      refine awp_region ?_
      refine al_d rfl rfl rfl (by exact opd_move rfl rfl) ?_
      refine al_d rfl rfl rfl (by exact opd_move rfl rfl) ?_
      refine al_d rfl rfl rfl (by exact opd_move rfl rfl) ?_
      refine al_d rfl rfl rfl (by exact (by first | exact x_index_pad rfl so22 rfl rfl (by omega) (by first | exact Int.toNat_natCast _ | rfl) (by assumption) rfl | exact x_index_osl rfl so22 rfl rfl rfl rfl rfl (by omega) (by first | exact Int.toNat_natCast _ | rfl) (by first | omega | assumption) rfl)) ?_
      refine al_d rfl rfl rfl (by exact (by first | exact opd_loadn_ref rfl Try.isAgg37 Try.sizeOf37 rfl rfl rfl rfl (by simp only [List.drop_succ_cons, List.drop_zero, List.take_succ_cons, List.take_zero, List.take_nil, List.map_cons, List.map_nil, List.set_cons_zero, List.set_cons_succ, List.cons_append, List.nil_append, encObj]; rfl) rfl | exact opd_loadn_pad rfl Try.isAgg37 Try.sizeOf37 rfl (by first | omega | assumption) (by simp only [List.drop_succ_cons, List.drop_zero, List.take_succ_cons, List.take_zero, List.take_nil, List.map_cons, List.map_nil, List.set_cons_zero, List.set_cons_succ, List.cons_append, List.nil_append, encObj]; rfl) rfl)) ?_
      refine al_d rfl rfl rfl (by exact opr_callV rfl rfl rfl (hfo)) ?_
      refine al_nil ?_
      refine awp_cond rfl (fun hc2 => ?_) (fun hc2 => ?_)
      -- cond 2
      · skip
        refine awp_seq ?_
        refine awp_region ?_
        refine al_d rfl rfl rfl (by exact opd_move rfl rfl) ?_
        refine al_d rfl rfl rfl (by exact opd_assign rfl rfl) ?_
        refine al_nil ?_
        refine awp_ret ?_
        -- return
        exact aret1 (H' := H) (.inr rfl) rfl (rval_tmp rfl) Fin.refl ⟨by rw [gidx, fidx_some hno ho hc2], rfl⟩
      · skip
        refine awp_skip ?_
        refine awp_region ?_
        refine al_d rfl rfl rfl (by exact opd_add rfl rfl rfl (by first | exact w64 (by omega) (by omega) | exact wu8 (by omega) (by omega) | rfl)) ?_
        refine al_d rfl rfl rfl (by exact opd_move rfl rfl) ?_
        refine al_nil ?_
        -- end of a round
        refine ⟨k + 1, ⟨by omega, fun j hj b hb => ?_⟩, by omega, Ent.e0 ⟨⟨_, rfl, rfl⟩, ⟨_, rfl, rfl⟩, ⟨_, rfl, rfl⟩, ⟨_, rfl, rfl⟩, trivial⟩⟩
        by_cases e : j = k
        · subst e; rw [ho] at hb; cases hb; exact hc2
        · exact hno j (by omega) b hb
    · have hge : k = l.length := by have : l.length ≤ k := by simpa using hc1
                                    omega
      subst hge
      refine awp_exit ?_
      refine awp_seq ?_
      refine awp_region ?_
      refine al_d rfl rfl rfl (by exact opd_assign rfl rfl) ?_
      refine al_nil ?_
      refine awp_ret ?_
      -- return
      exact aret1 (H' := H) (.inr rfl) rfl (rval_tmp rfl) Fin.refl ⟨by rw [gidx, fidx_none hno], rfl⟩
/-- slices.IndexFunc at planisphere/api.Edit. -/
theorem indexFunc_GEdit (fv : AV) (l : List GEdit) (p : GEdit → Bool) (H : Heap) (hl : l.length < 4611686018427387904) (hf : ∀ o, o ∈ l → CallsV Try.prog fv [.agg ((encEdit o).map .pv)] H (fun r H' => r = .pv (.bool (p o)) ∧ H' = H)) :
    ACalls Try.prog 69 [.pv (.sl (l.map encEdit)), fv] H (fun r H' => r = .pv (.int .i64 (gidx p l)) ∧ H' = H) := by
  refine ACalls.body Try.func69 rfl Try.ntmps69 (Nat.le_of_ble_eq_true rfl) ?_
  refine awp_seq ?_
  refine awp_region ?_
  refine al_d rfl rfl rfl (by exact opd_assign rfl rfl) ?_
  refine al_nil ?_
  refine awp_seq ?_
  refine awp_seq ?_
  refine awp_region ?_
  refine al_d rfl rfl rfl (by exact opd_move rfl rfl) ?_
  refine al_d rfl rfl rfl (by exact (by first | exact opd_len_sl rfl Try.underlying25 rfl | exact opd_len_osl rfl Try.underlying25 rfl rfl rfl)) ?_
  refine al_d rfl rfl rfl (by exact opd_move rfl rfl) ?_
  refine al_nil ?_
  refine awp_block ?_
  -- loop
  refine awp_loop (σ := Nat) (fun k => ([(0, .pv (.sl (l.map encEdit))), (1, fv), (7, .pv (.int .i64 (l.map encEdit).length)), (8, .pv (.int .i64 (k : Int)))], H)) (fun k => k ≤ l.length ∧ ∀ j, j < k → ∀ b, l[j]? = some b → p b = false) (fun k => l.length - k) 0 ⟨by omega, by omega⟩ ?_ ?_
  · exact Ent.e0 ⟨⟨_, rfl, rfl⟩, ⟨_, rfl, rfl⟩, ⟨_, rfl, rfl⟩, ⟨_, rfl, rfl⟩, trivial⟩
  · rintro k ⟨hk, hno⟩
    refine awp_seq ?_
    refine awp_region ?_
    refine al_d rfl rfl rfl (by exact opd_lss rfl rfl rfl) ?_
    refine al_nil ?_
    refine awp_seq ?_
    refine awp_cond rfl (fun hc1 => ?_) (fun hc1 => ?_)
    -- cond 1
    · have hlt : k < l.length := by simpa using hc1
      obtain ⟨o, ho⟩ := get_of_lt hlt
      have hi := map_get (f := encEdit) ho
      have hfo := hf o (List.mem_of_getElem? ho)
      refine awp_skip ?_
      refine awp_seq ?_
      refine awp_block ?_
      refine awp_seq ?_
      refine awp_region ?_
      refine al_d rfl rfl rfl (by exact opd_move rfl rfl) ?_
      refine al_d rfl rfl rfl (by exact opd_assign rfl rfl) ?_
      refine al_nil ?_
      refine awp_seq ?_
      refine awp_region ?_
      refine al_d rfl rfl rfl (by exact opd_move rfl rfl) ?_
      refine al_d rfl rfl rfl (by exact opd_move rfl rfl) ?_
      refine al_d rfl rfl rfl (by exact opd_move rfl rfl) ?_
      refine al_d rfl rfl rfl (by exact (by first | exact x_index_pad rfl so25 rfl rfl (by omega) (by first | exact Int.toNat_natCast _ | rfl) (by assumption) rfl | exact x_index_osl rfl so25 rfl rfl rfl rfl rfl (by omega) (by first | exact Int.toNat_natCast _ | rfl) (by first | omega | assumption) rfl)) ?_
      refine al_d rfl rfl rfl (by exact (by first | exact opd_loadn_ref rfl Try.isAgg39 Try.sizeOf39 rfl rfl rfl rfl (by simp only [List.drop_succ_cons, List.drop_zero, List.take_succ_cons, List.take_zero, List.take_nil, List.map_cons, List.map_nil, List.set_cons_zero, List.set_cons_succ, List.cons_append, List.nil_append, encEdit]; rfl) rfl | exact opd_loadn_pad rfl Try.isAgg39 Try.sizeOf39 rfl (by first | omega | assumption) (by simp only [List.drop_succ_cons, List.drop_zero, List.take_succ_cons, List.take_zero, List.take_nil, List.map_cons, List.map_nil, List.set_cons_zero, List.set_cons_succ, List.cons_append, List.nil_append, encEdit]; rfl) rfl)) ?_
      refine al_d rfl rfl rfl (by exact opr_callV rfl rfl rfl (hfo)) ?_
      refine al_nil ?_
      refine awp_cond rfl (fun hc2 => ?_) (fun hc2 => ?_)
      -- cond 2
      · skip
        refine awp_seq ?_
        refine awp_region ?_
        refine al_d rfl rfl rfl (by exact opd_move rfl rfl) ?_
        refine al_d rfl rfl rfl (by exact opd_assign rfl rfl) ?_
        refine al_nil ?_
        refine awp_ret ?_
        -- return
        exact aret1 (H' := H) (.inr rfl) rfl (rval_tmp rfl) Fin.refl ⟨by rw [gidx, fidx_some hno ho hc2], rfl⟩
      · skip
        refine awp_skip ?_
        refine awp_region ?_
        refine al_d rfl rfl rfl (by exact opd_add rfl rfl rfl (by first | exact w64 (by omega) (by omega) | exact wu8 (by omega) (by omega) | rfl)) ?_
        refine al_d rfl rfl rfl (by exact opd_move rfl rfl) ?_
        refine al_nil ?_
        -- end of a round
        refine ⟨k + 1, ⟨by omega, fun j hj b hb => ?_⟩, by omega, Ent.e0 ⟨⟨_, rfl, rfl⟩, ⟨_, rfl, rfl⟩, ⟨_, rfl, rfl⟩, ⟨_, rfl, rfl⟩, trivial⟩⟩
        by_cases e : j = k
        · subst e; rw [ho] at hb; cases hb; exact hc2
        · exact hno j (by omega) b hb
    · have hge : k = l.length := by have : l.length ≤ k := by simpa using hc1
                                    omega
      subst hge
      refine awp_exit ?_
      refine awp_seq ?_
      refine awp_region ?_
      refine al_d rfl rfl rfl (by exact opd_assign rfl rfl) ?_
      refine al_nil ?_
      refine awp_ret ?_
      -- return
      exact aret1 (H' := H) (.inr rfl) rfl (rval_tmp rfl) Fin.refl ⟨by rw [gidx, fidx_none hno], rfl⟩
/-- slices.IndexFunc at planisphere/api.Tag. -/
theorem indexFunc_GTag (fv : AV) (l : List GTag) (p : GTag → Bool) (H : Heap) (hl : l.length < 4611686018427387904) (hf : ∀ o, o ∈ l → CallsV Try.prog fv [.agg ((encTag o).map .pv)] H (fun r H' => r = .pv (.bool (p o)) ∧ H' = H)) :
    ACalls Try.prog 84 [.pv (.sl (l.map encTag)), fv] H (fun r H' => r = .pv (.int .i64 (gidx p l)) ∧ H' = H) := by
  refine ACalls.body Try.func84 rfl Try.ntmps84 (Nat.le_of_ble_eq_true rfl) ?_
  refine awp_seq ?_
  refine awp_region ?_
  refine al_d rfl rfl rfl (by exact opd_assign rfl rfl) ?_
  refine al_nil ?_
  refine awp_seq ?_
  refine awp_seq ?_
  refine awp_region ?_
  refine al_d rfl rfl rfl (by exact opd_move rfl rfl) ?_
  refine al_d rfl rfl rfl (by exact (by first | exact opd_len_sl rfl Try.underlying35 rfl | exact opd_len_osl rfl Try.underlying35 rfl rfl rfl)) ?_
  refine al_d rfl rfl rfl (by exact opd_move rfl rfl) ?_
  refine al_nil ?_
  refine awp_block ?_
  -- loop
  refine awp_loop (σ := Nat) (fun k => ([(0, .pv (.sl (l.map encTag))), (1, fv), (7, .pv (.int .i64 (l.map encTag).length)), (8, .pv (.int .i64 (k : Int)))], H)) (fun k => k ≤ l.length ∧ ∀ j, j < k → ∀ b, l[j]? = some b → p b = false) (fun k => l.length - k) 0 ⟨by omega, by omega⟩ ?_ ?_
  · exact Ent.e0 ⟨⟨_, rfl, rfl⟩, ⟨_, rfl, rfl⟩, ⟨_, rfl, rfl⟩, ⟨_, rfl, rfl⟩, trivial⟩
  · rintro k ⟨hk, hno⟩
    refine awp_seq ?_
    refine awp_region ?_
    refine al_d rfl rfl rfl (by exact opd_lss rfl rfl rfl) ?_
    refine al_nil ?_
    refine awp_seq ?_
    refine awp_cond rfl (fun hc1 => ?_) (fun hc1 => ?_)
    -- cond 1
    · have hlt : k < l.length := by simpa using hc1
      obtain ⟨o, ho⟩ := get_of_lt hlt
      have hi := map_get (f := encTag) ho
      have hfo := hf o (List.mem_of_getElem? ho)
      refine awp_skip ?_
      refine awp_seq ?_
      refine awp_block ?_
      refine awp_seq ?_
      refine awp_region ?_
      refine al_d rfl rfl rfl (by exact opd_move rfl rfl) ?_
      refine al_d rfl rfl rfl (by exact opd_assign rfl rfl) ?_
      refine al_nil ?_
      refine awp_seq ?_
      refine awp_region ?_
      refine al_d rfl rfl rfl (by exact opd_move rfl rfl) ?_
      refine al_d rfl rfl rfl (by exact opd_move rfl rfl) ?_
      refine al_d rfl rfl rfl (by exact opd_move rfl rfl) ?_
      refine al_d rfl rfl rfl (by exact (by first | exact x_index_pad rfl so35 rfl rfl (by omega) (by first | exact Int.toNat_natCast _ | rfl) (by assumption) rfl | exact x_index_osl rfl so35 rfl rfl rfl rfl rfl (by omega) (by first | exact Int.toNat_natCast _ | rfl) (by first | omega | assumption) rfl)) ?_
      refine al_d rfl rfl rfl (by exact (by first | exact opd_loadn_ref rfl Try.isAgg114 Try.sizeOf114 rfl rfl rfl rfl (by simp only [List.drop_succ_cons, List.drop_zero, List.take_succ_cons, List.take_zero, List.take_nil, List.map_cons, List.map_nil, List.set_cons_zero, List.set_cons_succ, List.cons_append, List.nil_append, encTag]; rfl) rfl | exact opd_loadn_pad rfl Try.isAgg114 Try.sizeOf114 rfl (by first | omega | assumption) (by simp only [List.drop_succ_cons, List.drop_zero, List.take_succ_cons, List.take_zero, List.take_nil, List.map_cons, List.map_nil, List.set_cons_zero, List.set_cons_succ, List.cons_append, List.nil_append, encTag]; rfl) rfl)) ?_
      refine al_d rfl rfl rfl (by exact opr_callV rfl rfl rfl (hfo)) ?_
      refine al_nil ?_
      refine awp_cond rfl (fun hc2 => ?_) (fun hc2 => ?_)
      -- cond 2
      · skip
        refine awp_seq ?_
        refine awp_region ?_
        refine al_d rfl rfl rfl (by exact opd_move rfl rfl) ?_
        refine al_d rfl rfl rfl (by exact opd_assign rfl rfl) ?_
        refine al_nil ?_
        refine awp_ret ?_
        -- return
        exact aret1 (H' := H) (.inr rfl) rfl (rval_tmp rfl) Fin.refl ⟨by rw [gidx, fidx_some hno ho hc2], rfl⟩
      · skip
        refine awp_skip ?_
        refine awp_region ?_
        refine al_d rfl rfl rfl (by exact opd_add rfl rfl rfl (by first | exact w64 (by omega) (by omega) | exact wu8 (by omega) (by omega) | rfl)) ?_
        refine al_d rfl rfl rfl (by exact opd_move rfl rfl) ?_
        refine al_nil ?_
        -- end of a round
        refine ⟨k + 1, ⟨by omega, fun j hj b hb => ?_⟩, by omega, Ent.e0 ⟨⟨_, rfl, rfl⟩, ⟨_, rfl, rfl⟩, ⟨_, rfl, rfl⟩, ⟨_, rfl, rfl⟩, trivial⟩⟩
        by_cases e : j = k
        · subst e; rw [ho] at hb; cases hb; exact hc2
        · exact hno j (by omega) b hb
    · have hge : k = l.length := by have : l.length ≤ k := by simpa using hc1
                                    omega
      subst hge
      refine awp_exit ?_
      refine awp_seq ?_
      refine awp_region ?_
      refine al_d rfl rfl rfl (by exact opd_assign rfl rfl) ?_
      refine al_nil ?_
      refine awp_ret ?_
      -- return
      exact aret1 (H' := H) (.inr rfl) rfl (rval_tmp rfl) Fin.refl ⟨by rw [gidx, fidx_none hno], rfl⟩
end Go.Proofs.Ytljocbkebhgkoaa
