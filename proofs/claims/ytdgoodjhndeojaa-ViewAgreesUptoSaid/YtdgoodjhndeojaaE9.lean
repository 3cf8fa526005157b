/-
  CONTRACTS: the references' membership. Conditions: lengths below 2^62.
-/
import Derived.Test.YtdgoodjhndeojaaE8
set_option linter.unusedVariables false
set_option linter.unusedSimpArgs false
set_option maxRecDepth 100000
namespace Go.Proofs.Ytdgoodjhndeojaa
open Go.Abs
theorem in12_c (l : List ByteArray) (s : ByteArray) (H : Heap) (hl : l.length < 4611686018427387904) : ACalls Try.prog 49 [.pv (slStrs l), sv s] H (fun r H' => r = bv (inB l s) ∧ H' = H) := by
  refine ACalls.pure ?_ (by simp) H
  have hml : (l.map encStr).length = l.length := List.length_map _
  refine ACalls.body Try.func49 rfl Try.ntmps49 (Nat.le_of_ble_eq_true rfl) ?_
  refine awp_seq ?_
  refine awp_region ?_
  refine al_d rfl rfl rfl (by exact opd_assign rfl rfl) ?_
  refine al_nil ?_
  refine awp_seq ?_
  refine awp_seq ?_
  refine awp_region ?_
  refine al_d rfl rfl rfl (by exact opd_assign rfl rfl) ?_
  refine al_nil ?_
  refine awp_block ?_
  -- loop
  refine awp_loop (σ := Nat) (fun k => ([(0, .pv (slStrs l)), (1, sv s), (5, iv (k : Int))], [])) (fun k => k ≤ l.length ∧ ∀ j, j < k → ∀ b, l[j]? = some b → decide (b = s) = false) (fun k => l.length - k) 0 ⟨by omega, by omega⟩ ?_ ?_
  · exact (Ent.wk ⟨⟨_, rfl, rfl⟩, (by first | (simp; done) | (simp; rfl) | exact clo_map _ _ _), ⟨_, rfl, rfl⟩, (by first | (simp; done) | (simp; rfl) | exact clo_map _ _ _), ⟨_, rfl, rfl⟩, (by first | (simp; done) | (simp; rfl) | exact clo_map _ _ _), trivial⟩ trivial trivial)
  · rintro k ⟨hk, hno⟩
    refine awp_seq ?_
    refine awp_seq ?_
    refine awp_region ?_
    refine al_d rfl rfl rfl (by exact opd_move rfl rfl) ?_
    refine al_d rfl rfl rfl (by exact opd_move rfl rfl) ?_
    refine al_d rfl rfl rfl (by exact (by first | exact opd_len_sl rfl Try.underlying28 rfl | exact opd_len_osl rfl Try.underlying28 rfl rfl rfl)) ?_
    refine al_d rfl rfl rfl (by exact opd_lss rfl rfl rfl) ?_
    refine al_nil ?_
    refine awp_cond rfl (fun hc1 => ?_) (fun hc1 => ?_)
    -- cond 1
    · have hlt : k < l.length := by have := of_decide_eq_true hc1; omega
      obtain ⟨o, ho⟩ := get_of_lt hlt
      have hi := map_get (f := encStr) ho
      refine awp_skip ?_
      refine awp_seq ?_
      refine awp_block ?_
      refine awp_seq ?_
      refine awp_region ?_
      refine al_d rfl rfl rfl (by exact opd_move rfl rfl) ?_
      refine al_d rfl rfl rfl (by exact opd_move rfl rfl) ?_
      refine al_d rfl rfl rfl (by exact (by first | exact x_index_pad rfl so28 rfl rfl (by omega) (by first | exact Int.toNat_natCast _ | rfl) (by assumption) rfl | exact x_index_osl rfl so28 rfl rfl rfl rfl rfl (by omega) (by first | exact Int.toNat_natCast _ | rfl) (by first | omega | assumption) rfl)) ?_
      refine al_d rfl rfl rfl (by exact (by first | exact opd_load1_ref rfl Try.isAgg9 rfl rfl rfl rfl rfl | exact opd_load1_pad rfl Try.isAgg9 rfl (by first | omega | assumption) rfl)) ?_
      refine al_d rfl rfl rfl (by exact opd_move rfl rfl) ?_
      refine al_d rfl rfl rfl (by exact opd_seql rfl rfl rfl) ?_
      refine al_nil ?_
      refine awp_cond rfl (fun hc2 => ?_) (fun hc2 => ?_)
      -- cond 2
      · skip
        refine awp_seq ?_
        refine awp_region ?_
        refine al_d rfl rfl rfl (by exact opd_assign rfl rfl) ?_
        refine al_nil ?_
        refine awp_ret ?_
        -- return
        refine aret1 (H' := []) (by first | exact .inr rfl | exact .inl rfl) rfl (rval_tmp rfl) (Fin.wk (by simp) trivial trivial) ?_
        exact ⟨by rw [inB, any_some ho hc2], rfl⟩
      · skip
        refine awp_skip ?_
        refine awp_region ?_
        refine al_d rfl rfl rfl (by exact opd_move rfl rfl) ?_
        refine al_d rfl rfl rfl (by exact opd_add rfl rfl rfl (by first | exact w64 (by omega) (by omega) | exact wu8 (by omega) (by omega) | rfl)) ?_
        refine al_d rfl rfl rfl (by exact opd_assign rfl rfl) ?_
        refine al_nil ?_
        -- end of a round
        exact ⟨k + 1, ⟨by omega, pre_succ hno ho hc2⟩, by omega, (Ent.wk ⟨⟨_, rfl, rfl⟩, (by first | (simp; done) | (simp; rfl) | exact clo_map _ _ _), ⟨_, rfl, rfl⟩, (by first | (simp; done) | (simp; rfl) | exact clo_map _ _ _), ⟨_, rfl, rfl⟩, (by first | (simp; done) | (simp; rfl) | exact clo_map _ _ _), trivial⟩ trivial trivial)⟩
    · have hge : k = l.length := by have := of_decide_eq_false hc1; omega
      subst hge
      refine awp_exit ?_
      refine awp_seq ?_
      refine awp_region ?_
      refine al_d rfl rfl rfl (by exact opd_assign rfl rfl) ?_
      refine al_nil ?_
      refine awp_ret ?_
      -- return
      refine aret1 (H' := []) (by first | exact .inr rfl | exact .inl rfl) rfl (rval_tmp rfl) (Fin.wk (by simp) trivial trivial) ?_
      exact ⟨by rw [inB, any_none hno], rfl⟩
end Go.Proofs.Ytdgoodjhndeojaa
