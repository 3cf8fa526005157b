/-
  CONTRACTS: the reference: references, objects. Conditions: lengths below 2^62.
-/
import Derived.Test.YtdgoodjhndeojaaGreatKK1M11
section
set_option linter.unusedVariables false
set_option linter.unusedSimpArgs false
set_option maxRecDepth 100000
namespace Go.Proofs.YtdgoodjhndeojaaGreat
open Go.Abs

theorem wrong_eq (o : GObj) (k : Nat) (s p : ByteArray) (hp : 0 < k → o.refs[k - 1]? = some p) :
    ((!gName s || ((decide (o.kind = 2) && decide ((0 : Int) < (k : Int))) && decide (p = s))) || (decide (o.kind = 3) && inB (seenL o.refs k) s)) = gWrong o (before id o.refs k) (seenL o.refs k) s := by
  rw [gWrong, gTwice]
  cases hg : gName s with
  | false => simp
  | true =>
    have hs : (decide ((0 : Int) < (k : Int)) && decide (p = s)) = decide (s = before id o.refs k) := by
      cases k with
      | zero => rw [before, decide_eq_false (gName_ne hg)]; rfl
      | succ k =>
        have h := hp (by omega)
        rw [show k + 1 - 1 = k from rfl] at h
        rw [before_succ h, decide_eq_true (show (0 : Int) < ((k + 1 : Nat) : Int) by omega), Bool.true_and]
        exact decide_eq_decide.2 eq_comm
    rw [← hs]
    simp [Bool.and_assoc]
theorem seenL_at {l : List ByteArray} {k : Nat} {s : ByteArray} (h : l[k]? = some s) : seenL l (k + 1) = sput (seenL l k) s := by rw [seenL, h]; rfl
def gNum (k n : Int) : Bool := if k = 1 then decide (n = 0) else if k = 2 then decide (2 ≤ n) else if k = 3 then decide (3 ≤ n) else if k = 4 then decide (1 ≤ n) else decide (n = 3)
def rRefs (o : GObj) : Bool := (decide ((o.refs.length : Int) ≤ 2000) && !((List.range o.refs.length).any (wrongAt o))) && gNum o.kind (o.refs.length : Int)
theorem rRefs_c (o : GObj) (H : Heap) (ho : okO o) : ACalls Tryz.prog 156 [av (encObj o)] H (fun r H' => r = bv (rRefs o) ∧ H' = H) := by
  refine ACalls.pure ?_ (by simp) H
  obtain ⟨h1, h2, h3, h4⟩ := ho
  have hml : (o.refs.map encStr).length = o.refs.length := List.length_map _
  refine ACalls.body Tryz.func156 rfl Tryz.ntmps156 (Nat.le_of_ble_eq_true rfl) ?_
  refine awp_seq ?_
  refine awp_region ?_
  refine al_d rfl rfl rfl (by exact opd_box (id := 1) rfl rfl rfl rfl rfl) ?_
  refine al_d rfl rfl rfl (by exact opd_assign rfl rfl) ?_
  refine al_nil ?_
  refine awp_seq ?_
  refine awp_region ?_
  refine al_d rfl rfl rfl (by exact (by first | exact opd_field_ref rfl fo42_3 rfl rfl rfl rfl | exact opd_field_pad rfl fo42_3 rfl rfl)) ?_
  refine al_d rfl rfl rfl (by exact (by first | exact opd_load1_ref rfl Tryz.isAgg39 rfl rfl rfl rfl rfl | exact opd_load1_pad rfl Tryz.isAgg39 rfl (by first | omega | assumption) rfl)) ?_
  refine al_d rfl rfl rfl (by exact (by first | exact opd_len_sl rfl Tryz.underlying39 rfl | exact opd_len_osl rfl Tryz.underlying39 rfl rfl rfl)) ?_
  refine al_d rfl rfl rfl (by exact opd_assign rfl rfl) ?_
  refine al_nil ?_
  refine awp_seq ?_
  refine awp_seq ?_
  refine awp_region ?_
  refine al_d rfl rfl rfl (by exact opd_move rfl rfl) ?_
  refine al_d rfl rfl rfl (by exact opd_gtr rfl rfl rfl) ?_
  refine al_nil ?_
  refine awp_cond rfl (fun hc1 => ?_) (fun hc1 => ?_)
  -- cond 1
  · have hb : decide ((o.refs.length : Int) ≤ 2000) = false := by
      have := of_decide_eq_true hc1
      exact decide_eq_false (by omega)
    refine awp_seq ?_
    refine awp_region ?_
    refine al_d rfl rfl rfl (by exact opd_assign rfl rfl) ?_
    refine al_nil ?_
    refine awp_ret ?_
    -- return
    refine aret1 (H' := []) (by first | exact .inr rfl | exact .inl rfl) rfl (rval_tmp rfl) (Fin.wk (by simp) trivial trivial) ?_
    exact ⟨by rw [rRefs, hb]; rfl, rfl⟩
  · have hb : decide ((o.refs.length : Int) ≤ 2000) = true := by
      have := of_decide_eq_false hc1
      exact decide_eq_true (by omega)
    rw [rRefs, hb, Bool.true_and]
    refine awp_skip ?_
    refine awp_seq ?_
    refine awp_region ?_
    refine al_d rfl rfl rfl (by exact opd_makeMap (id := 11) strK rfl rfl) ?_
    refine al_d rfl rfl rfl (by exact opd_assign rfl rfl) ?_
    refine al_nil ?_
    refine awp_seq ?_
    refine awp_seq ?_
    refine awp_region ?_
    refine al_d rfl rfl rfl (by exact opd_assign rfl rfl) ?_
    refine al_nil ?_
    refine awp_block ?_
    -- loop
    refine awp_loop (σ := Nat) (fun k => ([(1, .ref 1 0 0 0), (3, iv ((o.refs.map encStr).length : Int)), (4, .mp 11 0), (5, iv (k : Int))], [(11, sob (seenL o.refs k)), (1, bx 6 42 ((encObj o).map .pv))])) (fun k => k ≤ o.refs.length ∧ ∀ j, j < k → wrongAt o j = false) (fun k => o.refs.length - k) 0 ⟨by omega, by omega⟩ ?_ ?_
    · exact (Ent.wk ⟨⟨_, rfl, rfl⟩, (by first | (simp; done) | (simp; rfl) | exact clo_map _ _ _ | exact sob_clo _ _), ⟨_, rfl, rfl⟩, (by first | (simp; done) | (simp; rfl) | exact clo_map _ _ _ | exact sob_clo _ _), ⟨_, rfl, rfl⟩, (by first | (simp; done) | (simp; rfl) | exact clo_map _ _ _ | exact sob_clo _ _), ⟨_, rfl, rfl⟩, (by first | (simp; done) | (simp; rfl) | exact clo_map _ _ _ | exact sob_clo _ _), trivial⟩ ⟨⟨_, rfl, rfl⟩, (by first | (simp; done) | (simp; rfl) | exact clo_map _ _ _ | exact sob_clo _ _), ⟨_, rfl, rfl⟩, (by first | (simp; done) | (simp; rfl) | exact clo_map _ _ _ | exact sob_clo _ _), trivial⟩ trivial)
    · rintro k ⟨hk, hno⟩
      refine awp_seq ?_
      refine awp_seq ?_
      refine awp_region ?_
      refine al_d rfl rfl rfl (by exact opd_move rfl rfl) ?_
      refine al_d rfl rfl rfl (by exact opd_move rfl rfl) ?_
      refine al_d rfl rfl rfl (by exact opd_lss rfl rfl rfl) ?_
      refine al_nil ?_
      refine awp_cond rfl (fun hc2 => ?_) (fun hc2 => ?_)
      -- cond 2
      · have hlt : k < o.refs.length := by have := of_decide_eq_true hc2; omega
        obtain ⟨s, hs⟩ := get_of_lt hlt
        have hi := map_get (f := encStr) hs
        obtain ⟨p, hp⟩ : ∃ p, 0 < k → o.refs[k - 1]? = some p := by
          by_cases k0 : 0 < k
          · obtain ⟨p, hp⟩ := get_of_lt (l := o.refs) (k := k - 1) (by omega)
            exact ⟨p, fun _ => hp⟩
          · exact ⟨s, fun h => absurd h k0⟩
        have hpv : 0 < k → (o.refs.map encStr)[k - 1]? = some (encStr p) := fun h => map_get (f := encStr) (hp h)
        have hbe := wrong_eq o k s p hp
        have hw : wrongAt o k = gWrong o (before id o.refs k) (seenL o.refs k) s := by rw [wrongAt, hs]
        have hse := seenL_at hs
        refine awp_skip ?_
        refine awp_seq ?_
        refine awp_block ?_
        refine awp_seq ?_
        refine awp_seq ?_
        refine awp_mergeR (t := 60) (n := 44) (X := (!gName s || ((decide (o.kind = 2) && decide ((0 : Int) < (k : Int))) && decide (p = s))) || (decide (o.kind = 3) && inB (seenL o.refs k) s)) ?_ ?_
        · cases hg24 : (!gName s : Bool)
          · cases hg28 : (decide (o.kind = 2) : Bool)
            · cases hg51 : (decide (o.kind = 3) : Bool)
              · refine awp_drawc follows ?_
                refine dc_cons (DStep.q rfl (by exact (by first | exact opd_field_ref rfl fo42_3 rfl rfl rfl rfl | exact opd_field_pad rfl fo42_3 rfl rfl))) rfl ?_
                refine dc_cons (DStep.q rfl (by exact (by first | exact opd_load1_ref rfl Tryz.isAgg39 rfl rfl rfl rfl rfl | exact opd_load1_pad rfl Tryz.isAgg39 rfl (by first | omega | assumption) rfl))) rfl ?_
                refine dc_cons (DStep.q rfl (by exact opd_move rfl rfl)) rfl ?_
                refine dc_cons (DStep.q rfl (by exact (by first | exact x_index_pad rfl so39 rfl rfl (by omega) (by first | exact Int.toNat_natCast _ | rfl) (by assumption) rfl | exact x_index_osl rfl so39 rfl rfl rfl rfl rfl (by omega) (by first | exact Int.toNat_natCast _ | rfl) (by first | omega | assumption) rfl))) rfl ?_
                refine dc_cons (DStep.q rfl (by exact (by first | exact opd_load1_ref rfl Tryz.isAgg9 rfl rfl rfl rfl rfl | exact opd_load1_pad rfl Tryz.isAgg9 rfl (by first | omega | assumption) rfl))) rfl ?_
                refine dc_cons (DStep.q rfl (by exact opr_call rfl rfl Tryz.call103 rfl (rName_c s _ (h4 s (List.mem_of_getElem? hs))))) rfl ?_
                refine dc_cons (DStep.q rfl (by exact opd_not rfl rfl)) rfl ?_
                refine dc_cons (DStep.q rfl (by exact opd_move rfl rfl)) rfl ?_
                refine dc_cons (q_on_f rfl rfl rfl (by first | rfl | assumption) (by exact (by first | exact opd_field_ref rfl fo42_1 rfl rfl rfl rfl | exact opd_field_pad rfl fo42_1 rfl rfl))) rfl ?_
                refine dc_cons (q_on_f rfl rfl rfl (by first | rfl | assumption) (by exact (by first | exact opd_load1_ref rfl Tryz.isAgg3 rfl rfl rfl rfl rfl | exact opd_load1_pad rfl Tryz.isAgg3 rfl (by first | omega | assumption) rfl))) rfl ?_
                refine dc_cons (q_on_f rfl rfl rfl (by first | rfl | assumption) (by exact opd_eql rfl rfl rfl)) rfl ?_
                refine dc_cons (q_on_f rfl rfl rfl (by first | rfl | assumption) (by exact opd_move rfl rfl)) rfl ?_
                refine dc_cons (q_off_t rfl rfl rfl (by first | rfl | assumption)) rfl ?_
                refine dc_cons (q_off_t rfl rfl rfl (by first | rfl | assumption)) rfl ?_
                refine dc_cons (q_on_f rfl rfl rfl (by first | rfl | assumption) (by exact (by first | exact opd_pick_t rfl rfl rfl | exact opd_pick_f rfl rfl rfl | exact opd_pickt rfl rfl (by assumption) rfl | exact opd_pickf rfl rfl (by assumption) rfl | exact opd_pick rfl rfl rfl))) rfl ?_
                refine dc_cons (q_on_f rfl rfl rfl (by first | rfl | assumption) (by exact opd_move rfl rfl)) rfl ?_
                refine dc_cons (q_off_t rfl rfl rfl (by first | rfl | assumption)) rfl ?_
                refine dc_cons (q_off_t rfl rfl rfl (by first | rfl | assumption)) rfl ?_
                refine dc_cons (q_off_t rfl rfl rfl (by first | rfl | assumption)) rfl ?_
                refine dc_cons (q_off_t rfl rfl rfl (by first | rfl | assumption)) rfl ?_
                refine dc_cons (q_off_t rfl rfl rfl (by first | rfl | assumption)) rfl ?_
                refine dc_cons (q_off_t rfl rfl rfl (by first | rfl | assumption)) rfl ?_
                refine dc_cons (q_off_t rfl rfl rfl (by first | rfl | assumption)) rfl ?_
                refine dc_cons (q_off_t rfl rfl rfl (by first | rfl | assumption)) rfl ?_
                refine dc_cons (q_off_t rfl rfl rfl (by first | rfl | assumption)) rfl ?_
                refine dc_cons (q_off_t rfl rfl rfl (by first | rfl | assumption)) rfl ?_
                refine dc_cons (q_off_t rfl rfl rfl (by first | rfl | assumption)) rfl ?_
                refine dc_cons (q_off_t rfl rfl rfl (by first | rfl | assumption)) rfl ?_
                refine dc_cons (q_on_f rfl rfl rfl (by first | rfl | assumption) (by exact (by first | exact opd_pick_t rfl rfl rfl | exact opd_pick_f rfl rfl rfl | exact opd_pickt rfl rfl (by assumption) rfl | exact opd_pickf rfl rfl (by assumption) rfl | exact opd_pick rfl rfl rfl))) rfl ?_
                refine dc_cons (DStep.q rfl (by exact (by first | exact opd_pick_t rfl rfl rfl | exact opd_pick_f rfl rfl rfl | exact opd_pickt rfl rfl (by assumption) rfl | exact opd_pickf rfl rfl (by assumption) rfl | exact opd_pick rfl rfl rfl))) rfl ?_
                refine dc_cons (DStep.q rfl (by exact opd_move rfl rfl)) rfl ?_
                refine dc_cons (q_on_f rfl rfl rfl (by first | rfl | assumption) (by exact (by first | exact opd_field_ref rfl fo42_1 rfl rfl rfl rfl | exact opd_field_pad rfl fo42_1 rfl rfl))) rfl ?_
                refine dc_cons (q_on_f rfl rfl rfl (by first | rfl | assumption) (by exact (by first | exact opd_load1_ref rfl Tryz.isAgg3 rfl rfl rfl rfl rfl | exact opd_load1_pad rfl Tryz.isAgg3 rfl (by first | omega | assumption) rfl))) rfl ?_
                refine dc_cons (q_on_f rfl rfl rfl (by first | rfl | assumption) (by exact opd_eql rfl rfl rfl)) rfl ?_
                refine dc_cons (q_on_f rfl rfl rfl (by first | rfl | assumption) (by exact opd_move rfl rfl)) rfl ?_
                refine dc_cons (q_off_t rfl rfl rfl (by first | rfl | assumption)) rfl ?_
                refine dc_cons (q_off_t rfl rfl rfl (by first | rfl | assumption)) rfl ?_
                refine dc_cons (q_off_t rfl rfl rfl (by first | rfl | assumption)) rfl ?_
                refine dc_cons (q_off_t rfl rfl rfl (by first | rfl | assumption)) rfl ?_
                refine dc_cons (q_off_t rfl rfl rfl (by first | rfl | assumption)) rfl ?_
                refine dc_cons (q_off_t rfl rfl rfl (by first | rfl | assumption)) rfl ?_
                refine dc_cons (q_off_t rfl rfl rfl (by first | rfl | assumption)) rfl ?_
                refine dc_cons (q_on_f rfl rfl rfl (by first | rfl | assumption) (by exact (by first | exact opd_pick_t rfl rfl rfl | exact opd_pick_f rfl rfl rfl | exact opd_pickt rfl rfl (by assumption) rfl | exact opd_pickf rfl rfl (by assumption) rfl | exact opd_pick rfl rfl rfl))) rfl ?_
                refine dc_cons (DStep.q rfl (by exact (by first | exact opd_pick_t rfl rfl rfl | exact opd_pick_f rfl rfl rfl | exact opd_pickt rfl rfl (by assumption) rfl | exact opd_pickf rfl rfl (by assumption) rfl | exact opd_pick rfl rfl rfl))) rfl ?_
                refine dc_nil ⟨by kernel_rfl, ?_⟩
                exact ⟨rfl, ⟨_, rfl, by first | rfl | (simp only [hg24, hg28, hg32, hg47, hg51]; rfl) | (simp only [hg24, hg28, hg32, hg47]; rfl) | (simp only [hg24, hg28, hg51]; rfl) | (simp only [hg24, hg28, hg32, hg51]; rfl) | (simp only [hg24]; rfl) | (simp_all; done)⟩, rfl, rfl, rfl⟩
              · refine awp_drawc follows ?_
                refine dc_cons (DStep.q rfl (by exact (by first | exact opd_field_ref rfl fo42_3 rfl rfl rfl rfl | exact opd_field_pad rfl fo42_3 rfl rfl))) rfl ?_
                refine dc_cons (DStep.q rfl (by exact (by first | exact opd_load1_ref rfl Tryz.isAgg39 rfl rfl rfl rfl rfl | exact opd_load1_pad rfl Tryz.isAgg39 rfl (by first | omega | assumption) rfl))) rfl ?_
                refine dc_cons (DStep.q rfl (by exact opd_move rfl rfl)) rfl ?_
                refine dc_cons (DStep.q rfl (by exact (by first | exact x_index_pad rfl so39 rfl rfl (by omega) (by first | exact Int.toNat_natCast _ | rfl) (by assumption) rfl | exact x_index_osl rfl so39 rfl rfl rfl rfl rfl (by omega) (by first | exact Int.toNat_natCast _ | rfl) (by first | omega | assumption) rfl))) rfl ?_
                refine dc_cons (DStep.q rfl (by exact (by first | exact opd_load1_ref rfl Tryz.isAgg9 rfl rfl rfl rfl rfl | exact opd_load1_pad rfl Tryz.isAgg9 rfl (by first | omega | assumption) rfl))) rfl ?_
                refine dc_cons (DStep.q rfl (by exact opr_call rfl rfl Tryz.call103 rfl (rName_c s _ (h4 s (List.mem_of_getElem? hs))))) rfl ?_
                refine dc_cons (DStep.q rfl (by exact opd_not rfl rfl)) rfl ?_
                refine dc_cons (DStep.q rfl (by exact opd_move rfl rfl)) rfl ?_
                refine dc_cons (q_on_f rfl rfl rfl (by first | rfl | assumption) (by exact (by first | exact opd_field_ref rfl fo42_1 rfl rfl rfl rfl | exact opd_field_pad rfl fo42_1 rfl rfl))) rfl ?_
                refine dc_cons (q_on_f rfl rfl rfl (by first | rfl | assumption) (by exact (by first | exact opd_load1_ref rfl Tryz.isAgg3 rfl rfl rfl rfl rfl | exact opd_load1_pad rfl Tryz.isAgg3 rfl (by first | omega | assumption) rfl))) rfl ?_
                refine dc_cons (q_on_f rfl rfl rfl (by first | rfl | assumption) (by exact opd_eql rfl rfl rfl)) rfl ?_
                refine dc_cons (q_on_f rfl rfl rfl (by first | rfl | assumption) (by exact opd_move rfl rfl)) rfl ?_
                refine dc_cons (q_off_t rfl rfl rfl (by first | rfl | assumption)) rfl ?_
                refine dc_cons (q_off_t rfl rfl rfl (by first | rfl | assumption)) rfl ?_
                refine dc_cons (q_on_f rfl rfl rfl (by first | rfl | assumption) (by exact (by first | exact opd_pick_t rfl rfl rfl | exact opd_pick_f rfl rfl rfl | exact opd_pickt rfl rfl (by assumption) rfl | exact opd_pickf rfl rfl (by assumption) rfl | exact opd_pick rfl rfl rfl))) rfl ?_
                refine dc_cons (q_on_f rfl rfl rfl (by first | rfl | assumption) (by exact opd_move rfl rfl)) rfl ?_
                refine dc_cons (q_off_t rfl rfl rfl (by first | rfl | assumption)) rfl ?_
                refine dc_cons (q_off_t rfl rfl rfl (by first | rfl | assumption)) rfl ?_
                refine dc_cons (q_off_t rfl rfl rfl (by first | rfl | assumption)) rfl ?_
                refine dc_cons (q_off_t rfl rfl rfl (by first | rfl | assumption)) rfl ?_
                refine dc_cons (q_off_t rfl rfl rfl (by first | rfl | assumption)) rfl ?_
                refine dc_cons (q_off_t rfl rfl rfl (by first | rfl | assumption)) rfl ?_
                refine dc_cons (q_off_t rfl rfl rfl (by first | rfl | assumption)) rfl ?_
                refine dc_cons (q_off_t rfl rfl rfl (by first | rfl | assumption)) rfl ?_
                refine dc_cons (q_off_t rfl rfl rfl (by first | rfl | assumption)) rfl ?_
                refine dc_cons (q_off_t rfl rfl rfl (by first | rfl | assumption)) rfl ?_
                refine dc_cons (q_off_t rfl rfl rfl (by first | rfl | assumption)) rfl ?_
                refine dc_cons (q_off_t rfl rfl rfl (by first | rfl | assumption)) rfl ?_
                refine dc_cons (q_on_f rfl rfl rfl (by first | rfl | assumption) (by exact (by first | exact opd_pick_t rfl rfl rfl | exact opd_pick_f rfl rfl rfl | exact opd_pickt rfl rfl (by assumption) rfl | exact opd_pickf rfl rfl (by assumption) rfl | exact opd_pick rfl rfl rfl))) rfl ?_
                refine dc_cons (DStep.q rfl (by exact (by first | exact opd_pick_t rfl rfl rfl | exact opd_pick_f rfl rfl rfl | exact opd_pickt rfl rfl (by assumption) rfl | exact opd_pickf rfl rfl (by assumption) rfl | exact opd_pick rfl rfl rfl))) rfl ?_
                refine dc_cons (DStep.q rfl (by exact opd_move rfl rfl)) rfl ?_
                refine dc_cons (q_on_f rfl rfl rfl (by first | rfl | assumption) (by exact (by first | exact opd_field_ref rfl fo42_1 rfl rfl rfl rfl | exact opd_field_pad rfl fo42_1 rfl rfl))) rfl ?_
                refine dc_cons (q_on_f rfl rfl rfl (by first | rfl | assumption) (by exact (by first | exact opd_load1_ref rfl Tryz.isAgg3 rfl rfl rfl rfl rfl | exact opd_load1_pad rfl Tryz.isAgg3 rfl (by first | omega | assumption) rfl))) rfl ?_
                refine dc_cons (q_on_f rfl rfl rfl (by first | rfl | assumption) (by exact opd_eql rfl rfl rfl)) rfl ?_
                refine dc_cons (q_on_f rfl rfl rfl (by first | rfl | assumption) (by exact opd_move rfl rfl)) rfl ?_
                refine dc_cons (q_on_t rfl rfl rfl (by first | rfl | assumption) (by exact opd_move rfl rfl)) rfl ?_
                refine dc_cons (q_on_t rfl rfl rfl (by first | rfl | assumption) (by exact (by first | exact opd_field_ref rfl fo42_3 rfl rfl rfl rfl | exact opd_field_pad rfl fo42_3 rfl rfl))) rfl ?_
                refine dc_cons (q_on_t rfl rfl rfl (by first | rfl | assumption) (by exact (by first | exact opd_load1_ref rfl Tryz.isAgg39 rfl rfl rfl rfl rfl | exact opd_load1_pad rfl Tryz.isAgg39 rfl (by first | omega | assumption) rfl))) rfl ?_
                refine dc_cons (q_on_t rfl rfl rfl (by first | rfl | assumption) (by exact opd_move rfl rfl)) rfl ?_
                refine dc_cons (q_on_t rfl rfl rfl (by first | rfl | assumption) (by exact (by first | exact x_index_pad rfl so39 rfl rfl (by omega) (by first | exact Int.toNat_natCast _ | rfl) (by assumption) rfl | exact x_index_osl rfl so39 rfl rfl rfl rfl rfl (by omega) (by first | exact Int.toNat_natCast _ | rfl) (by first | omega | assumption) rfl))) rfl ?_
                refine dc_cons (q_on_t rfl rfl rfl (by first | rfl | assumption) (by exact (by first | exact opd_load1_ref rfl Tryz.isAgg9 rfl rfl rfl rfl rfl | exact opd_load1_pad rfl Tryz.isAgg9 rfl (by first | omega | assumption) rfl))) rfl ?_
                refine dc_cons (q_on_t rfl rfl rfl (by first | rfl | assumption) (by exact x_lookup_set rfl Tryz.underlying67 Tryz.underlying9 rfl rfl rfl rfl rfl Tryz.zeroValue4 (.inl rfl))) rfl ?_
                refine dc_cons (q_on_f rfl rfl rfl (by first | rfl | assumption) (by exact (by first | exact opd_pick_t rfl rfl rfl | exact opd_pick_f rfl rfl rfl | exact opd_pickt rfl rfl (by assumption) rfl | exact opd_pickf rfl rfl (by assumption) rfl | exact opd_pick rfl rfl rfl))) rfl ?_
                refine dc_cons (DStep.q rfl (by exact (by first | exact opd_pick_t rfl rfl rfl | exact opd_pick_f rfl rfl rfl | exact opd_pickt rfl rfl (by assumption) rfl | exact opd_pickf rfl rfl (by assumption) rfl | exact opd_pick rfl rfl rfl))) rfl ?_
                refine dc_nil ⟨by kernel_rfl, ?_⟩
                exact ⟨rfl, ⟨_, rfl, by first | rfl | (simp only [hg24, hg28, hg32, hg47, hg51]; rfl) | (simp only [hg24, hg28, hg32, hg47]; rfl) | (simp only [hg24, hg28, hg51]; rfl) | (simp only [hg24, hg28, hg32, hg51]; rfl) | (simp only [hg24]; rfl) | (simp_all; done)⟩, rfl, rfl, rfl⟩
            · cases hg32 : (decide ((0 : Int) < (k : Int)) : Bool)
              · cases hg51 : (decide (o.kind = 3) : Bool)
                · refine awp_drawc follows ?_
                  refine dc_cons (DStep.q rfl (by exact (by first | exact opd_field_ref rfl fo42_3 rfl rfl rfl rfl | exact opd_field_pad rfl fo42_3 rfl rfl))) rfl ?_
                  refine dc_cons (DStep.q rfl (by exact (by first | exact opd_load1_ref rfl Tryz.isAgg39 rfl rfl rfl rfl rfl | exact opd_load1_pad rfl Tryz.isAgg39 rfl (by first | omega | assumption) rfl))) rfl ?_
                  refine dc_cons (DStep.q rfl (by exact opd_move rfl rfl)) rfl ?_
                  refine dc_cons (DStep.q rfl (by exact (by first | exact x_index_pad rfl so39 rfl rfl (by omega) (by first | exact Int.toNat_natCast _ | rfl) (by assumption) rfl | exact x_index_osl rfl so39 rfl rfl rfl rfl rfl (by omega) (by first | exact Int.toNat_natCast _ | rfl) (by first | omega | assumption) rfl))) rfl ?_
                  refine dc_cons (DStep.q rfl (by exact (by first | exact opd_load1_ref rfl Tryz.isAgg9 rfl rfl rfl rfl rfl | exact opd_load1_pad rfl Tryz.isAgg9 rfl (by first | omega | assumption) rfl))) rfl ?_
                  refine dc_cons (DStep.q rfl (by exact opr_call rfl rfl Tryz.call103 rfl (rName_c s _ (h4 s (List.mem_of_getElem? hs))))) rfl ?_
                  refine dc_cons (DStep.q rfl (by exact opd_not rfl rfl)) rfl ?_
                  refine dc_cons (DStep.q rfl (by exact opd_move rfl rfl)) rfl ?_
                  refine dc_cons (q_on_f rfl rfl rfl (by first | rfl | assumption) (by exact (by first | exact opd_field_ref rfl fo42_1 rfl rfl rfl rfl | exact opd_field_pad rfl fo42_1 rfl rfl))) rfl ?_
                  refine dc_cons (q_on_f rfl rfl rfl (by first | rfl | assumption) (by exact (by first | exact opd_load1_ref rfl Tryz.isAgg3 rfl rfl rfl rfl rfl | exact opd_load1_pad rfl Tryz.isAgg3 rfl (by first | omega | assumption) rfl))) rfl ?_
                  refine dc_cons (q_on_f rfl rfl rfl (by first | rfl | assumption) (by exact opd_eql rfl rfl rfl)) rfl ?_
                  refine dc_cons (q_on_f rfl rfl rfl (by first | rfl | assumption) (by exact opd_move rfl rfl)) rfl ?_
                  refine dc_cons (q_on_t rfl rfl rfl (by first | rfl | assumption) (by exact opd_move rfl rfl)) rfl ?_
                  refine dc_cons (q_on_t rfl rfl rfl (by first | rfl | assumption) (by exact opd_gtr rfl rfl rfl)) rfl ?_
                  refine dc_cons (q_on_f rfl rfl rfl (by first | rfl | assumption) (by exact (by first | exact opd_pick_t rfl rfl rfl | exact opd_pick_f rfl rfl rfl | exact opd_pickt rfl rfl (by assumption) rfl | exact opd_pickf rfl rfl (by assumption) rfl | exact opd_pick rfl rfl rfl))) rfl ?_
                  refine dc_cons (q_on_f rfl rfl rfl (by first | rfl | assumption) (by exact opd_move rfl rfl)) rfl ?_
                  refine dc_cons (q_off_t rfl rfl rfl (by first | rfl | assumption)) rfl ?_
                  refine dc_cons (q_off_t rfl rfl rfl (by first | rfl | assumption)) rfl ?_
                  refine dc_cons (q_off_t rfl rfl rfl (by first | rfl | assumption)) rfl ?_
                  refine dc_cons (q_off_t rfl rfl rfl (by first | rfl | assumption)) rfl ?_
                  refine dc_cons (q_off_t rfl rfl rfl (by first | rfl | assumption)) rfl ?_
                  refine dc_cons (q_off_t rfl rfl rfl (by first | rfl | assumption)) rfl ?_
                  refine dc_cons (q_off_t rfl rfl rfl (by first | rfl | assumption)) rfl ?_
                  refine dc_cons (q_off_t rfl rfl rfl (by first | rfl | assumption)) rfl ?_
                  refine dc_cons (q_off_t rfl rfl rfl (by first | rfl | assumption)) rfl ?_
                  refine dc_cons (q_off_t rfl rfl rfl (by first | rfl | assumption)) rfl ?_
                  refine dc_cons (q_off_t rfl rfl rfl (by first | rfl | assumption)) rfl ?_
                  refine dc_cons (q_off_t rfl rfl rfl (by first | rfl | assumption)) rfl ?_
                  refine dc_cons (q_on_f rfl rfl rfl (by first | rfl | assumption) (by exact (by first | exact opd_pick_t rfl rfl rfl | exact opd_pick_f rfl rfl rfl | exact opd_pickt rfl rfl (by assumption) rfl | exact opd_pickf rfl rfl (by assumption) rfl | exact opd_pick rfl rfl rfl))) rfl ?_
                  refine dc_cons (DStep.q rfl (by exact (by first | exact opd_pick_t rfl rfl rfl | exact opd_pick_f rfl rfl rfl | exact opd_pickt rfl rfl (by assumption) rfl | exact opd_pickf rfl rfl (by assumption) rfl | exact opd_pick rfl rfl rfl))) rfl ?_
                  refine dc_cons (DStep.q rfl (by exact opd_move rfl rfl)) rfl ?_
                  refine dc_cons (q_on_f rfl rfl rfl (by first | rfl | assumption) (by exact (by first | exact opd_field_ref rfl fo42_1 rfl rfl rfl rfl | exact opd_field_pad rfl fo42_1 rfl rfl))) rfl ?_
                  refine dc_cons (q_on_f rfl rfl rfl (by first | rfl | assumption) (by exact (by first | exact opd_load1_ref rfl Tryz.isAgg3 rfl rfl rfl rfl rfl | exact opd_load1_pad rfl Tryz.isAgg3 rfl (by first | omega | assumption) rfl))) rfl ?_
                  refine dc_cons (q_on_f rfl rfl rfl (by first | rfl | assumption) (by exact opd_eql rfl rfl rfl)) rfl ?_
                  refine dc_cons (q_on_f rfl rfl rfl (by first | rfl | assumption) (by exact opd_move rfl rfl)) rfl ?_
                  refine dc_cons (q_off_t rfl rfl rfl (by first | rfl | assumption)) rfl ?_
                  refine dc_cons (q_off_t rfl rfl rfl (by first | rfl | assumption)) rfl ?_
                  refine dc_cons (q_off_t rfl rfl rfl (by first | rfl | assumption)) rfl ?_
                  refine dc_cons (q_off_t rfl rfl rfl (by first | rfl | assumption)) rfl ?_
                  refine dc_cons (q_off_t rfl rfl rfl (by first | rfl | assumption)) rfl ?_
                  refine dc_cons (q_off_t rfl rfl rfl (by first | rfl | assumption)) rfl ?_
                  refine dc_cons (q_off_t rfl rfl rfl (by first | rfl | assumption)) rfl ?_
                  refine dc_cons (q_on_f rfl rfl rfl (by first | rfl | assumption) (by exact (by first | exact opd_pick_t rfl rfl rfl | exact opd_pick_f rfl rfl rfl | exact opd_pickt rfl rfl (by assumption) rfl | exact opd_pickf rfl rfl (by assumption) rfl | exact opd_pick rfl rfl rfl))) rfl ?_
                  refine dc_cons (DStep.q rfl (by exact (by first | exact opd_pick_t rfl rfl rfl | exact opd_pick_f rfl rfl rfl | exact opd_pickt rfl rfl (by assumption) rfl | exact opd_pickf rfl rfl (by assumption) rfl | exact opd_pick rfl rfl rfl))) rfl ?_
                  refine dc_nil ⟨by kernel_rfl, ?_⟩
                  exact ⟨rfl, ⟨_, rfl, by first | rfl | (simp only [hg24, hg28, hg32, hg47, hg51]; rfl) | (simp only [hg24, hg28, hg32, hg47]; rfl) | (simp only [hg24, hg28, hg51]; rfl) | (simp only [hg24, hg28, hg32, hg51]; rfl) | (simp only [hg24]; rfl) | (simp_all; done)⟩, rfl, rfl, rfl⟩
                · refine awp_drawc follows ?_
                  refine dc_cons (DStep.q rfl (by exact (by first | exact opd_field_ref rfl fo42_3 rfl rfl rfl rfl | exact opd_field_pad rfl fo42_3 rfl rfl))) rfl ?_
                  refine dc_cons (DStep.q rfl (by exact (by first | exact opd_load1_ref rfl Tryz.isAgg39 rfl rfl rfl rfl rfl | exact opd_load1_pad rfl Tryz.isAgg39 rfl (by first | omega | assumption) rfl))) rfl ?_
                  refine dc_cons (DStep.q rfl (by exact opd_move rfl rfl)) rfl ?_
                  refine dc_cons (DStep.q rfl (by exact (by first | exact x_index_pad rfl so39 rfl rfl (by omega) (by first | exact Int.toNat_natCast _ | rfl) (by assumption) rfl | exact x_index_osl rfl so39 rfl rfl rfl rfl rfl (by omega) (by first | exact Int.toNat_natCast _ | rfl) (by first | omega | assumption) rfl))) rfl ?_
                  refine dc_cons (DStep.q rfl (by exact (by first | exact opd_load1_ref rfl Tryz.isAgg9 rfl rfl rfl rfl rfl | exact opd_load1_pad rfl Tryz.isAgg9 rfl (by first | omega | assumption) rfl))) rfl ?_
                  refine dc_cons (DStep.q rfl (by exact opr_call rfl rfl Tryz.call103 rfl (rName_c s _ (h4 s (List.mem_of_getElem? hs))))) rfl ?_
                  refine dc_cons (DStep.q rfl (by exact opd_not rfl rfl)) rfl ?_
                  refine dc_cons (DStep.q rfl (by exact opd_move rfl rfl)) rfl ?_
                  refine dc_cons (q_on_f rfl rfl rfl (by first | rfl | assumption) (by exact (by first | exact opd_field_ref rfl fo42_1 rfl rfl rfl rfl | exact opd_field_pad rfl fo42_1 rfl rfl))) rfl ?_
                  refine dc_cons (q_on_f rfl rfl rfl (by first | rfl | assumption) (by exact (by first | exact opd_load1_ref rfl Tryz.isAgg3 rfl rfl rfl rfl rfl | exact opd_load1_pad rfl Tryz.isAgg3 rfl (by first | omega | assumption) rfl))) rfl ?_
                  refine dc_cons (q_on_f rfl rfl rfl (by first | rfl | assumption) (by exact opd_eql rfl rfl rfl)) rfl ?_
                  refine dc_cons (q_on_f rfl rfl rfl (by first | rfl | assumption) (by exact opd_move rfl rfl)) rfl ?_
                  refine dc_cons (q_on_t rfl rfl rfl (by first | rfl | assumption) (by exact opd_move rfl rfl)) rfl ?_
                  refine dc_cons (q_on_t rfl rfl rfl (by first | rfl | assumption) (by exact opd_gtr rfl rfl rfl)) rfl ?_
                  refine dc_cons (q_on_f rfl rfl rfl (by first | rfl | assumption) (by exact (by first | exact opd_pick_t rfl rfl rfl | exact opd_pick_f rfl rfl rfl | exact opd_pickt rfl rfl (by assumption) rfl | exact opd_pickf rfl rfl (by assumption) rfl | exact opd_pick rfl rfl rfl))) rfl ?_
                  refine dc_cons (q_on_f rfl rfl rfl (by first | rfl | assumption) (by exact opd_move rfl rfl)) rfl ?_
                  refine dc_cons (q_off_t rfl rfl rfl (by first | rfl | assumption)) rfl ?_
                  refine dc_cons (q_off_t rfl rfl rfl (by first | rfl | assumption)) rfl ?_
                  refine dc_cons (q_off_t rfl rfl rfl (by first | rfl | assumption)) rfl ?_
                  refine dc_cons (q_off_t rfl rfl rfl (by first | rfl | assumption)) rfl ?_
                  refine dc_cons (q_off_t rfl rfl rfl (by first | rfl | assumption)) rfl ?_
                  refine dc_cons (q_off_t rfl rfl rfl (by first | rfl | assumption)) rfl ?_
                  refine dc_cons (q_off_t rfl rfl rfl (by first | rfl | assumption)) rfl ?_
                  refine dc_cons (q_off_t rfl rfl rfl (by first | rfl | assumption)) rfl ?_
                  refine dc_cons (q_off_t rfl rfl rfl (by first | rfl | assumption)) rfl ?_
                  refine dc_cons (q_off_t rfl rfl rfl (by first | rfl | assumption)) rfl ?_
                  refine dc_cons (q_off_t rfl rfl rfl (by first | rfl | assumption)) rfl ?_
                  refine dc_cons (q_off_t rfl rfl rfl (by first | rfl | assumption)) rfl ?_
                  refine dc_cons (q_on_f rfl rfl rfl (by first | rfl | assumption) (by exact (by first | exact opd_pick_t rfl rfl rfl | exact opd_pick_f rfl rfl rfl | exact opd_pickt rfl rfl (by assumption) rfl | exact opd_pickf rfl rfl (by assumption) rfl | exact opd_pick rfl rfl rfl))) rfl ?_
                  refine dc_cons (DStep.q rfl (by exact (by first | exact opd_pick_t rfl rfl rfl | exact opd_pick_f rfl rfl rfl | exact opd_pickt rfl rfl (by assumption) rfl | exact opd_pickf rfl rfl (by assumption) rfl | exact opd_pick rfl rfl rfl))) rfl ?_
                  refine dc_cons (DStep.q rfl (by exact opd_move rfl rfl)) rfl ?_
                  refine dc_cons (q_on_f rfl rfl rfl (by first | rfl | assumption) (by exact (by first | exact opd_field_ref rfl fo42_1 rfl rfl rfl rfl | exact opd_field_pad rfl fo42_1 rfl rfl))) rfl ?_
                  refine dc_cons (q_on_f rfl rfl rfl (by first | rfl | assumption) (by exact (by first | exact opd_load1_ref rfl Tryz.isAgg3 rfl rfl rfl rfl rfl | exact opd_load1_pad rfl Tryz.isAgg3 rfl (by first | omega | assumption) rfl))) rfl ?_
                  refine dc_cons (q_on_f rfl rfl rfl (by first | rfl | assumption) (by exact opd_eql rfl rfl rfl)) rfl ?_
                  refine dc_cons (q_on_f rfl rfl rfl (by first | rfl | assumption) (by exact opd_move rfl rfl)) rfl ?_
                  refine dc_cons (q_on_t rfl rfl rfl (by first | rfl | assumption) (by exact opd_move rfl rfl)) rfl ?_
                  refine dc_cons (q_on_t rfl rfl rfl (by first | rfl | assumption) (by exact (by first | exact opd_field_ref rfl fo42_3 rfl rfl rfl rfl | exact opd_field_pad rfl fo42_3 rfl rfl))) rfl ?_
                  refine dc_cons (q_on_t rfl rfl rfl (by first | rfl | assumption) (by exact (by first | exact opd_load1_ref rfl Tryz.isAgg39 rfl rfl rfl rfl rfl | exact opd_load1_pad rfl Tryz.isAgg39 rfl (by first | omega | assumption) rfl))) rfl ?_
                  refine dc_cons (q_on_t rfl rfl rfl (by first | rfl | assumption) (by exact opd_move rfl rfl)) rfl ?_
                  refine dc_cons (q_on_t rfl rfl rfl (by first | rfl | assumption) (by exact (by first | exact x_index_pad rfl so39 rfl rfl (by omega) (by first | exact Int.toNat_natCast _ | rfl) (by assumption) rfl | exact x_index_osl rfl so39 rfl rfl rfl rfl rfl (by omega) (by first | exact Int.toNat_natCast _ | rfl) (by first | omega | assumption) rfl))) rfl ?_
                  refine dc_cons (q_on_t rfl rfl rfl (by first | rfl | assumption) (by exact (by first | exact opd_load1_ref rfl Tryz.isAgg9 rfl rfl rfl rfl rfl | exact opd_load1_pad rfl Tryz.isAgg9 rfl (by first | omega | assumption) rfl))) rfl ?_
                  refine dc_cons (q_on_t rfl rfl rfl (by first | rfl | assumption) (by exact x_lookup_set rfl Tryz.underlying67 Tryz.underlying9 rfl rfl rfl rfl rfl Tryz.zeroValue4 (.inl rfl))) rfl ?_
                  refine dc_cons (q_on_f rfl rfl rfl (by first | rfl | assumption) (by exact (by first | exact opd_pick_t rfl rfl rfl | exact opd_pick_f rfl rfl rfl | exact opd_pickt rfl rfl (by assumption) rfl | exact opd_pickf rfl rfl (by assumption) rfl | exact opd_pick rfl rfl rfl))) rfl ?_
                  refine dc_cons (DStep.q rfl (by exact (by first | exact opd_pick_t rfl rfl rfl | exact opd_pick_f rfl rfl rfl | exact opd_pickt rfl rfl (by assumption) rfl | exact opd_pickf rfl rfl (by assumption) rfl | exact opd_pick rfl rfl rfl))) rfl ?_
                  refine dc_nil ⟨by kernel_rfl, ?_⟩
                  exact ⟨rfl, ⟨_, rfl, by first | rfl | (simp only [hg24, hg28, hg32, hg47, hg51]; rfl) | (simp only [hg24, hg28, hg32, hg47]; rfl) | (simp only [hg24, hg28, hg51]; rfl) | (simp only [hg24, hg28, hg32, hg51]; rfl) | (simp only [hg24]; rfl) | (simp_all; done)⟩, rfl, rfl, rfl⟩
              · cases hg47 : (decide (p = s) : Bool)
                · cases hg51 : (decide (o.kind = 3) : Bool)
                  · refine awp_drawc follows ?_
                    refine dc_cons (DStep.q rfl (by exact (by first | exact opd_field_ref rfl fo42_3 rfl rfl rfl rfl | exact opd_field_pad rfl fo42_3 rfl rfl))) rfl ?_
                    refine dc_cons (DStep.q rfl (by exact (by first | exact opd_load1_ref rfl Tryz.isAgg39 rfl rfl rfl rfl rfl | exact opd_load1_pad rfl Tryz.isAgg39 rfl (by first | omega | assumption) rfl))) rfl ?_
                    refine dc_cons (DStep.q rfl (by exact opd_move rfl rfl)) rfl ?_
                    refine dc_cons (DStep.q rfl (by exact (by first | exact x_index_pad rfl so39 rfl rfl (by omega) (by first | exact Int.toNat_natCast _ | rfl) (by assumption) rfl | exact x_index_osl rfl so39 rfl rfl rfl rfl rfl (by omega) (by first | exact Int.toNat_natCast _ | rfl) (by first | omega | assumption) rfl))) rfl ?_
                    refine dc_cons (DStep.q rfl (by exact (by first | exact opd_load1_ref rfl Tryz.isAgg9 rfl rfl rfl rfl rfl | exact opd_load1_pad rfl Tryz.isAgg9 rfl (by first | omega | assumption) rfl))) rfl ?_
                    refine dc_cons (DStep.q rfl (by exact opr_call rfl rfl Tryz.call103 rfl (rName_c s _ (h4 s (List.mem_of_getElem? hs))))) rfl ?_
                    refine dc_cons (DStep.q rfl (by exact opd_not rfl rfl)) rfl ?_
                    refine dc_cons (DStep.q rfl (by exact opd_move rfl rfl)) rfl ?_
                    refine dc_cons (q_on_f rfl rfl rfl (by first | rfl | assumption) (by exact (by first | exact opd_field_ref rfl fo42_1 rfl rfl rfl rfl | exact opd_field_pad rfl fo42_1 rfl rfl))) rfl ?_
                    refine dc_cons (q_on_f rfl rfl rfl (by first | rfl | assumption) (by exact (by first | exact opd_load1_ref rfl Tryz.isAgg3 rfl rfl rfl rfl rfl | exact opd_load1_pad rfl Tryz.isAgg3 rfl (by first | omega | assumption) rfl))) rfl ?_
                    refine dc_cons (q_on_f rfl rfl rfl (by first | rfl | assumption) (by exact opd_eql rfl rfl rfl)) rfl ?_
                    refine dc_cons (q_on_f rfl rfl rfl (by first | rfl | assumption) (by exact opd_move rfl rfl)) rfl ?_
                    refine dc_cons (q_on_t rfl rfl rfl (by first | rfl | assumption) (by exact opd_move rfl rfl)) rfl ?_
                    refine dc_cons (q_on_t rfl rfl rfl (by first | rfl | assumption) (by exact opd_gtr rfl rfl rfl)) rfl ?_
                    refine dc_cons (q_on_f rfl rfl rfl (by first | rfl | assumption) (by exact (by first | exact opd_pick_t rfl rfl rfl | exact opd_pick_f rfl rfl rfl | exact opd_pickt rfl rfl (by assumption) rfl | exact opd_pickf rfl rfl (by assumption) rfl | exact opd_pick rfl rfl rfl))) rfl ?_
                    refine dc_cons (q_on_f rfl rfl rfl (by first | rfl | assumption) (by exact opd_move rfl rfl)) rfl ?_
                    refine dc_cons (q_on_t rfl rfl rfl (by first | rfl | assumption) (by exact (by first | exact opd_field_ref rfl fo42_3 rfl rfl rfl rfl | exact opd_field_pad rfl fo42_3 rfl rfl))) rfl ?_
                    refine dc_cons (q_on_t rfl rfl rfl (by first | rfl | assumption) (by exact (by first | exact opd_load1_ref rfl Tryz.isAgg39 rfl rfl rfl rfl rfl | exact opd_load1_pad rfl Tryz.isAgg39 rfl (by first | omega | assumption) rfl))) rfl ?_
                    refine dc_cons (q_on_t rfl rfl rfl (by first | rfl | assumption) (by exact opd_move rfl rfl)) rfl ?_
                    refine dc_cons (q_on_t rfl rfl rfl (by first | rfl | assumption) (by exact opd_sub rfl rfl rfl (by first | exact w64 (by omega) (by omega) | exact wu8 (by omega) (by omega) | rfl))) rfl ?_
                    refine dc_cons (q_on_t rfl rfl rfl (by first | rfl | assumption) (by exact x_index_pad rfl so39 rfl rfl (by have := of_decide_eq_true hg32; omega) (show ((k : Int) - 1).toNat = k - 1 by omega) (hpv (by have := of_decide_eq_true hg32; omega)) rfl)) rfl ?_
                    refine dc_cons (q_on_t rfl rfl rfl (by first | rfl | assumption) (by exact opd_load1_pad rfl Tryz.isAgg9 rfl (hpv (by have := of_decide_eq_true hg32; omega)) rfl)) rfl ?_
                    refine dc_cons (q_on_t rfl rfl rfl (by first | rfl | assumption) (by exact (by first | exact opd_field_ref rfl fo42_3 rfl rfl rfl rfl | exact opd_field_pad rfl fo42_3 rfl rfl))) rfl ?_
                    refine dc_cons (q_on_t rfl rfl rfl (by first | rfl | assumption) (by exact (by first | exact opd_load1_ref rfl Tryz.isAgg39 rfl rfl rfl rfl rfl | exact opd_load1_pad rfl Tryz.isAgg39 rfl (by first | omega | assumption) rfl))) rfl ?_
                    refine dc_cons (q_on_t rfl rfl rfl (by first | rfl | assumption) (by exact opd_move rfl rfl)) rfl ?_
                    refine dc_cons (q_on_t rfl rfl rfl (by first | rfl | assumption) (by exact (by first | exact x_index_pad rfl so39 rfl rfl (by omega) (by first | exact Int.toNat_natCast _ | rfl) (by assumption) rfl | exact x_index_osl rfl so39 rfl rfl rfl rfl rfl (by omega) (by first | exact Int.toNat_natCast _ | rfl) (by first | omega | assumption) rfl))) rfl ?_
                    refine dc_cons (q_on_t rfl rfl rfl (by first | rfl | assumption) (by exact (by first | exact opd_load1_ref rfl Tryz.isAgg9 rfl rfl rfl rfl rfl | exact opd_load1_pad rfl Tryz.isAgg9 rfl (by first | omega | assumption) rfl))) rfl ?_
                    refine dc_cons (q_on_t rfl rfl rfl (by first | rfl | assumption) (by exact opd_seql rfl rfl rfl)) rfl ?_
                    refine dc_cons (q_on_f rfl rfl rfl (by first | rfl | assumption) (by exact (by first | exact opd_pick_t rfl rfl rfl | exact opd_pick_f rfl rfl rfl | exact opd_pickt rfl rfl (by assumption) rfl | exact opd_pickf rfl rfl (by assumption) rfl | exact opd_pick rfl rfl rfl))) rfl ?_
                    refine dc_cons (DStep.q rfl (by exact (by first | exact opd_pick_t rfl rfl rfl | exact opd_pick_f rfl rfl rfl | exact opd_pickt rfl rfl (by assumption) rfl | exact opd_pickf rfl rfl (by assumption) rfl | exact opd_pick rfl rfl rfl))) rfl ?_
                    refine dc_cons (DStep.q rfl (by exact opd_move rfl rfl)) rfl ?_
                    refine dc_cons (q_on_f rfl rfl rfl (by first | rfl | assumption) (by exact (by first | exact opd_field_ref rfl fo42_1 rfl rfl rfl rfl | exact opd_field_pad rfl fo42_1 rfl rfl))) rfl ?_
                    refine dc_cons (q_on_f rfl rfl rfl (by first | rfl | assumption) (by exact (by first | exact opd_load1_ref rfl Tryz.isAgg3 rfl rfl rfl rfl rfl | exact opd_load1_pad rfl Tryz.isAgg3 rfl (by first | omega | assumption) rfl))) rfl ?_
                    refine dc_cons (q_on_f rfl rfl rfl (by first | rfl | assumption) (by exact opd_eql rfl rfl rfl)) rfl ?_
                    refine dc_cons (q_on_f rfl rfl rfl (by first | rfl | assumption) (by exact opd_move rfl rfl)) rfl ?_
                    refine dc_cons (q_off_t rfl rfl rfl (by first | rfl | assumption)) rfl ?_
                    refine dc_cons (q_off_t rfl rfl rfl (by first | rfl | assumption)) rfl ?_
                    refine dc_cons (q_off_t rfl rfl rfl (by first | rfl | assumption)) rfl ?_
                    refine dc_cons (q_off_t rfl rfl rfl (by first | rfl | assumption)) rfl ?_
                    refine dc_cons (q_off_t rfl rfl rfl (by first | rfl | assumption)) rfl ?_
                    refine dc_cons (q_off_t rfl rfl rfl (by first | rfl | assumption)) rfl ?_
                    refine dc_cons (q_off_t rfl rfl rfl (by first | rfl | assumption)) rfl ?_
                    refine dc_cons (q_on_f rfl rfl rfl (by first | rfl | assumption) (by exact (by first | exact opd_pick_t rfl rfl rfl | exact opd_pick_f rfl rfl rfl | exact opd_pickt rfl rfl (by assumption) rfl | exact opd_pickf rfl rfl (by assumption) rfl | exact opd_pick rfl rfl rfl))) rfl ?_
                    refine dc_cons (DStep.q rfl (by exact (by first | exact opd_pick_t rfl rfl rfl | exact opd_pick_f rfl rfl rfl | exact opd_pickt rfl rfl (by assumption) rfl | exact opd_pickf rfl rfl (by assumption) rfl | exact opd_pick rfl rfl rfl))) rfl ?_
                    refine dc_nil ⟨by kernel_rfl, ?_⟩
                    exact ⟨rfl, ⟨_, rfl, by first | rfl | (simp only [hg24, hg28, hg32, hg47, hg51]; rfl) | (simp only [hg24, hg28, hg32, hg47]; rfl) | (simp only [hg24, hg28, hg51]; rfl) | (simp only [hg24, hg28, hg32, hg51]; rfl) | (simp only [hg24]; rfl) | (simp_all; done)⟩, rfl, rfl, rfl⟩
                  · refine awp_drawc follows ?_
                    refine dc_cons (DStep.q rfl (by exact (by first | exact opd_field_ref rfl fo42_3 rfl rfl rfl rfl | exact opd_field_pad rfl fo42_3 rfl rfl))) rfl ?_
                    refine dc_cons (DStep.q rfl (by exact (by first | exact opd_load1_ref rfl Tryz.isAgg39 rfl rfl rfl rfl rfl | exact opd_load1_pad rfl Tryz.isAgg39 rfl (by first | omega | assumption) rfl))) rfl ?_
                    refine dc_cons (DStep.q rfl (by exact opd_move rfl rfl)) rfl ?_
                    refine dc_cons (DStep.q rfl (by exact (by first | exact x_index_pad rfl so39 rfl rfl (by omega) (by first | exact Int.toNat_natCast _ | rfl) (by assumption) rfl | exact x_index_osl rfl so39 rfl rfl rfl rfl rfl (by omega) (by first | exact Int.toNat_natCast _ | rfl) (by first | omega | assumption) rfl))) rfl ?_
                    refine dc_cons (DStep.q rfl (by exact (by first | exact opd_load1_ref rfl Tryz.isAgg9 rfl rfl rfl rfl rfl | exact opd_load1_pad rfl Tryz.isAgg9 rfl (by first | omega | assumption) rfl))) rfl ?_
                    refine dc_cons (DStep.q rfl (by exact opr_call rfl rfl Tryz.call103 rfl (rName_c s _ (h4 s (List.mem_of_getElem? hs))))) rfl ?_
                    refine dc_cons (DStep.q rfl (by exact opd_not rfl rfl)) rfl ?_
                    refine dc_cons (DStep.q rfl (by exact opd_move rfl rfl)) rfl ?_
                    refine dc_cons (q_on_f rfl rfl rfl (by first | rfl | assumption) (by exact (by first | exact opd_field_ref rfl fo42_1 rfl rfl rfl rfl | exact opd_field_pad rfl fo42_1 rfl rfl))) rfl ?_
                    refine dc_cons (q_on_f rfl rfl rfl (by first | rfl | assumption) (by exact (by first | exact opd_load1_ref rfl Tryz.isAgg3 rfl rfl rfl rfl rfl | exact opd_load1_pad rfl Tryz.isAgg3 rfl (by first | omega | assumption) rfl))) rfl ?_
                    refine dc_cons (q_on_f rfl rfl rfl (by first | rfl | assumption) (by exact opd_eql rfl rfl rfl)) rfl ?_
                    refine dc_cons (q_on_f rfl rfl rfl (by first | rfl | assumption) (by exact opd_move rfl rfl)) rfl ?_
                    refine dc_cons (q_on_t rfl rfl rfl (by first | rfl | assumption) (by exact opd_move rfl rfl)) rfl ?_
                    refine dc_cons (q_on_t rfl rfl rfl (by first | rfl | assumption) (by exact opd_gtr rfl rfl rfl)) rfl ?_
                    refine dc_cons (q_on_f rfl rfl rfl (by first | rfl | assumption) (by exact (by first | exact opd_pick_t rfl rfl rfl | exact opd_pick_f rfl rfl rfl | exact opd_pickt rfl rfl (by assumption) rfl | exact opd_pickf rfl rfl (by assumption) rfl | exact opd_pick rfl rfl rfl))) rfl ?_
                    refine dc_cons (q_on_f rfl rfl rfl (by first | rfl | assumption) (by exact opd_move rfl rfl)) rfl ?_
                    refine dc_cons (q_on_t rfl rfl rfl (by first | rfl | assumption) (by exact (by first | exact opd_field_ref rfl fo42_3 rfl rfl rfl rfl | exact opd_field_pad rfl fo42_3 rfl rfl))) rfl ?_
                    refine dc_cons (q_on_t rfl rfl rfl (by first | rfl | assumption) (by exact (by first | exact opd_load1_ref rfl Tryz.isAgg39 rfl rfl rfl rfl rfl | exact opd_load1_pad rfl Tryz.isAgg39 rfl (by first | omega | assumption) rfl))) rfl ?_
                    refine dc_cons (q_on_t rfl rfl rfl (by first | rfl | assumption) (by exact opd_move rfl rfl)) rfl ?_
                    refine dc_cons (q_on_t rfl rfl rfl (by first | rfl | assumption) (by exact opd_sub rfl rfl rfl (by first | exact w64 (by omega) (by omega) | exact wu8 (by omega) (by omega) | rfl))) rfl ?_
                    refine dc_cons (q_on_t rfl rfl rfl (by first | rfl | assumption) (by exact x_index_pad rfl so39 rfl rfl (by have := of_decide_eq_true hg32; omega) (show ((k : Int) - 1).toNat = k - 1 by omega) (hpv (by have := of_decide_eq_true hg32; omega)) rfl)) rfl ?_
                    refine dc_cons (q_on_t rfl rfl rfl (by first | rfl | assumption) (by exact opd_load1_pad rfl Tryz.isAgg9 rfl (hpv (by have := of_decide_eq_true hg32; omega)) rfl)) rfl ?_
                    refine dc_cons (q_on_t rfl rfl rfl (by first | rfl | assumption) (by exact (by first | exact opd_field_ref rfl fo42_3 rfl rfl rfl rfl | exact opd_field_pad rfl fo42_3 rfl rfl))) rfl ?_
                    refine dc_cons (q_on_t rfl rfl rfl (by first | rfl | assumption) (by exact (by first | exact opd_load1_ref rfl Tryz.isAgg39 rfl rfl rfl rfl rfl | exact opd_load1_pad rfl Tryz.isAgg39 rfl (by first | omega | assumption) rfl))) rfl ?_
                    refine dc_cons (q_on_t rfl rfl rfl (by first | rfl | assumption) (by exact opd_move rfl rfl)) rfl ?_
                    refine dc_cons (q_on_t rfl rfl rfl (by first | rfl | assumption) (by exact (by first | exact x_index_pad rfl so39 rfl rfl (by omega) (by first | exact Int.toNat_natCast _ | rfl) (by assumption) rfl | exact x_index_osl rfl so39 rfl rfl rfl rfl rfl (by omega) (by first | exact Int.toNat_natCast _ | rfl) (by first | omega | assumption) rfl))) rfl ?_
                    refine dc_cons (q_on_t rfl rfl rfl (by first | rfl | assumption) (by exact (by first | exact opd_load1_ref rfl Tryz.isAgg9 rfl rfl rfl rfl rfl | exact opd_load1_pad rfl Tryz.isAgg9 rfl (by first | omega | assumption) rfl))) rfl ?_
                    refine dc_cons (q_on_t rfl rfl rfl (by first | rfl | assumption) (by exact opd_seql rfl rfl rfl)) rfl ?_
                    refine dc_cons (q_on_f rfl rfl rfl (by first | rfl | assumption) (by exact (by first | exact opd_pick_t rfl rfl rfl | exact opd_pick_f rfl rfl rfl | exact opd_pickt rfl rfl (by assumption) rfl | exact opd_pickf rfl rfl (by assumption) rfl | exact opd_pick rfl rfl rfl))) rfl ?_
                    refine dc_cons (DStep.q rfl (by exact (by first | exact opd_pick_t rfl rfl rfl | exact opd_pick_f rfl rfl rfl | exact opd_pickt rfl rfl (by assumption) rfl | exact opd_pickf rfl rfl (by assumption) rfl | exact opd_pick rfl rfl rfl))) rfl ?_
                    refine dc_cons (DStep.q rfl (by exact opd_move rfl rfl)) rfl ?_
                    refine dc_cons (q_on_f rfl rfl rfl (by first | rfl | assumption) (by exact (by first | exact opd_field_ref rfl fo42_1 rfl rfl rfl rfl | exact opd_field_pad rfl fo42_1 rfl rfl))) rfl ?_
                    refine dc_cons (q_on_f rfl rfl rfl (by first | rfl | assumption) (by exact (by first | exact opd_load1_ref rfl Tryz.isAgg3 rfl rfl rfl rfl rfl | exact opd_load1_pad rfl Tryz.isAgg3 rfl (by first | omega | assumption) rfl))) rfl ?_
                    refine dc_cons (q_on_f rfl rfl rfl (by first | rfl | assumption) (by exact opd_eql rfl rfl rfl)) rfl ?_
                    refine dc_cons (q_on_f rfl rfl rfl (by first | rfl | assumption) (by exact opd_move rfl rfl)) rfl ?_
                    refine dc_cons (q_on_t rfl rfl rfl (by first | rfl | assumption) (by exact opd_move rfl rfl)) rfl ?_
                    refine dc_cons (q_on_t rfl rfl rfl (by first | rfl | assumption) (by exact (by first | exact opd_field_ref rfl fo42_3 rfl rfl rfl rfl | exact opd_field_pad rfl fo42_3 rfl rfl))) rfl ?_
                    refine dc_cons (q_on_t rfl rfl rfl (by first | rfl | assumption) (by exact (by first | exact opd_load1_ref rfl Tryz.isAgg39 rfl rfl rfl rfl rfl | exact opd_load1_pad rfl Tryz.isAgg39 rfl (by first | omega | assumption) rfl))) rfl ?_
                    refine dc_cons (q_on_t rfl rfl rfl (by first | rfl | assumption) (by exact opd_move rfl rfl)) rfl ?_
                    refine dc_cons (q_on_t rfl rfl rfl (by first | rfl | assumption) (by exact (by first | exact x_index_pad rfl so39 rfl rfl (by omega) (by first | exact Int.toNat_natCast _ | rfl) (by assumption) rfl | exact x_index_osl rfl so39 rfl rfl rfl rfl rfl (by omega) (by first | exact Int.toNat_natCast _ | rfl) (by first | omega | assumption) rfl))) rfl ?_
                    refine dc_cons (q_on_t rfl rfl rfl (by first | rfl | assumption) (by exact (by first | exact opd_load1_ref rfl Tryz.isAgg9 rfl rfl rfl rfl rfl | exact opd_load1_pad rfl Tryz.isAgg9 rfl (by first | omega | assumption) rfl))) rfl ?_
                    refine dc_cons (q_on_t rfl rfl rfl (by first | rfl | assumption) (by exact x_lookup_set rfl Tryz.underlying67 Tryz.underlying9 rfl rfl rfl rfl rfl Tryz.zeroValue4 (.inl rfl))) rfl ?_
                    refine dc_cons (q_on_f rfl rfl rfl (by first | rfl | assumption) (by exact (by first | exact opd_pick_t rfl rfl rfl | exact opd_pick_f rfl rfl rfl | exact opd_pickt rfl rfl (by assumption) rfl | exact opd_pickf rfl rfl (by assumption) rfl | exact opd_pick rfl rfl rfl))) rfl ?_
                    refine dc_cons (DStep.q rfl (by exact (by first | exact opd_pick_t rfl rfl rfl | exact opd_pick_f rfl rfl rfl | exact opd_pickt rfl rfl (by assumption) rfl | exact opd_pickf rfl rfl (by assumption) rfl | exact opd_pick rfl rfl rfl))) rfl ?_
                    refine dc_nil ⟨by kernel_rfl, ?_⟩
                    exact ⟨rfl, ⟨_, rfl, by first | rfl | (simp only [hg24, hg28, hg32, hg47, hg51]; rfl) | (simp only [hg24, hg28, hg32, hg47]; rfl) | (simp only [hg24, hg28, hg51]; rfl) | (simp only [hg24, hg28, hg32, hg51]; rfl) | (simp only [hg24]; rfl) | (simp_all; done)⟩, rfl, rfl, rfl⟩
                · refine awp_drawc follows ?_
                  refine dc_cons (DStep.q rfl (by exact (by first | exact opd_field_ref rfl fo42_3 rfl rfl rfl rfl | exact opd_field_pad rfl fo42_3 rfl rfl))) rfl ?_
                  refine dc_cons (DStep.q rfl (by exact (by first | exact opd_load1_ref rfl Tryz.isAgg39 rfl rfl rfl rfl rfl | exact opd_load1_pad rfl Tryz.isAgg39 rfl (by first | omega | assumption) rfl))) rfl ?_
                  refine dc_cons (DStep.q rfl (by exact opd_move rfl rfl)) rfl ?_
                  refine dc_cons (DStep.q rfl (by exact (by first | exact x_index_pad rfl so39 rfl rfl (by omega) (by first | exact Int.toNat_natCast _ | rfl) (by assumption) rfl | exact x_index_osl rfl so39 rfl rfl rfl rfl rfl (by omega) (by first | exact Int.toNat_natCast _ | rfl) (by first | omega | assumption) rfl))) rfl ?_
                  refine dc_cons (DStep.q rfl (by exact (by first | exact opd_load1_ref rfl Tryz.isAgg9 rfl rfl rfl rfl rfl | exact opd_load1_pad rfl Tryz.isAgg9 rfl (by first | omega | assumption) rfl))) rfl ?_
                  refine dc_cons (DStep.q rfl (by exact opr_call rfl rfl Tryz.call103 rfl (rName_c s _ (h4 s (List.mem_of_getElem? hs))))) rfl ?_
                  refine dc_cons (DStep.q rfl (by exact opd_not rfl rfl)) rfl ?_
                  refine dc_cons (DStep.q rfl (by exact opd_move rfl rfl)) rfl ?_
                  refine dc_cons (q_on_f rfl rfl rfl (by first | rfl | assumption) (by exact (by first | exact opd_field_ref rfl fo42_1 rfl rfl rfl rfl | exact opd_field_pad rfl fo42_1 rfl rfl))) rfl ?_
                  refine dc_cons (q_on_f rfl rfl rfl (by first | rfl | assumption) (by exact (by first | exact opd_load1_ref rfl Tryz.isAgg3 rfl rfl rfl rfl rfl | exact opd_load1_pad rfl Tryz.isAgg3 rfl (by first | omega | assumption) rfl))) rfl ?_
                  refine dc_cons (q_on_f rfl rfl rfl (by first | rfl | assumption) (by exact opd_eql rfl rfl rfl)) rfl ?_
                  refine dc_cons (q_on_f rfl rfl rfl (by first | rfl | assumption) (by exact opd_move rfl rfl)) rfl ?_
                  refine dc_cons (q_on_t rfl rfl rfl (by first | rfl | assumption) (by exact opd_move rfl rfl)) rfl ?_
                  refine dc_cons (q_on_t rfl rfl rfl (by first | rfl | assumption) (by exact opd_gtr rfl rfl rfl)) rfl ?_
                  refine dc_cons (q_on_f rfl rfl rfl (by first | rfl | assumption) (by exact (by first | exact opd_pick_t rfl rfl rfl | exact opd_pick_f rfl rfl rfl | exact opd_pickt rfl rfl (by assumption) rfl | exact opd_pickf rfl rfl (by assumption) rfl | exact opd_pick rfl rfl rfl))) rfl ?_
                  refine dc_cons (q_on_f rfl rfl rfl (by first | rfl | assumption) (by exact opd_move rfl rfl)) rfl ?_
                  refine dc_cons (q_on_t rfl rfl rfl (by first | rfl | assumption) (by exact (by first | exact opd_field_ref rfl fo42_3 rfl rfl rfl rfl | exact opd_field_pad rfl fo42_3 rfl rfl))) rfl ?_
                  refine dc_cons (q_on_t rfl rfl rfl (by first | rfl | assumption) (by exact (by first | exact opd_load1_ref rfl Tryz.isAgg39 rfl rfl rfl rfl rfl | exact opd_load1_pad rfl Tryz.isAgg39 rfl (by first | omega | assumption) rfl))) rfl ?_
                  refine dc_cons (q_on_t rfl rfl rfl (by first | rfl | assumption) (by exact opd_move rfl rfl)) rfl ?_
                  refine dc_cons (q_on_t rfl rfl rfl (by first | rfl | assumption) (by exact opd_sub rfl rfl rfl (by first | exact w64 (by omega) (by omega) | exact wu8 (by omega) (by omega) | rfl))) rfl ?_
                  refine dc_cons (q_on_t rfl rfl rfl (by first | rfl | assumption) (by exact x_index_pad rfl so39 rfl rfl (by have := of_decide_eq_true hg32; omega) (show ((k : Int) - 1).toNat = k - 1 by omega) (hpv (by have := of_decide_eq_true hg32; omega)) rfl)) rfl ?_
                  refine dc_cons (q_on_t rfl rfl rfl (by first | rfl | assumption) (by exact opd_load1_pad rfl Tryz.isAgg9 rfl (hpv (by have := of_decide_eq_true hg32; omega)) rfl)) rfl ?_
                  refine dc_cons (q_on_t rfl rfl rfl (by first | rfl | assumption) (by exact (by first | exact opd_field_ref rfl fo42_3 rfl rfl rfl rfl | exact opd_field_pad rfl fo42_3 rfl rfl))) rfl ?_
                  refine dc_cons (q_on_t rfl rfl rfl (by first | rfl | assumption) (by exact (by first | exact opd_load1_ref rfl Tryz.isAgg39 rfl rfl rfl rfl rfl | exact opd_load1_pad rfl Tryz.isAgg39 rfl (by first | omega | assumption) rfl))) rfl ?_
                  refine dc_cons (q_on_t rfl rfl rfl (by first | rfl | assumption) (by exact opd_move rfl rfl)) rfl ?_
                  refine dc_cons (q_on_t rfl rfl rfl (by first | rfl | assumption) (by exact (by first | exact x_index_pad rfl so39 rfl rfl (by omega) (by first | exact Int.toNat_natCast _ | rfl) (by assumption) rfl | exact x_index_osl rfl so39 rfl rfl rfl rfl rfl (by omega) (by first | exact Int.toNat_natCast _ | rfl) (by first | omega | assumption) rfl))) rfl ?_
                  refine dc_cons (q_on_t rfl rfl rfl (by first | rfl | assumption) (by exact (by first | exact opd_load1_ref rfl Tryz.isAgg9 rfl rfl rfl rfl rfl | exact opd_load1_pad rfl Tryz.isAgg9 rfl (by first | omega | assumption) rfl))) rfl ?_
                  refine dc_cons (q_on_t rfl rfl rfl (by first | rfl | assumption) (by exact opd_seql rfl rfl rfl)) rfl ?_
                  refine dc_cons (q_on_f rfl rfl rfl (by first | rfl | assumption) (by exact (by first | exact opd_pick_t rfl rfl rfl | exact opd_pick_f rfl rfl rfl | exact opd_pickt rfl rfl (by assumption) rfl | exact opd_pickf rfl rfl (by assumption) rfl | exact opd_pick rfl rfl rfl))) rfl ?_
                  refine dc_cons (DStep.q rfl (by exact (by first | exact opd_pick_t rfl rfl rfl | exact opd_pick_f rfl rfl rfl | exact opd_pickt rfl rfl (by assumption) rfl | exact opd_pickf rfl rfl (by assumption) rfl | exact opd_pick rfl rfl rfl))) rfl ?_
                  refine dc_cons (DStep.q rfl (by exact opd_move rfl rfl)) rfl ?_
                  refine dc_cons (q_off_f rfl rfl rfl (by first | rfl | assumption)) rfl ?_
                  refine dc_cons (q_off_f rfl rfl rfl (by first | rfl | assumption)) rfl ?_
                  refine dc_cons (q_off_f rfl rfl rfl (by first | rfl | assumption)) rfl ?_
                  refine dc_cons (q_off_f rfl rfl rfl (by first | rfl | assumption)) rfl ?_
                  refine dc_cons (q_off_u rfl rfl rfl) rfl ?_
                  refine dc_cons (q_off_u rfl rfl rfl) rfl ?_
                  refine dc_cons (q_off_u rfl rfl rfl) rfl ?_
                  refine dc_cons (q_off_u rfl rfl rfl) rfl ?_
                  refine dc_cons (q_off_u rfl rfl rfl) rfl ?_
                  refine dc_cons (q_off_u rfl rfl rfl) rfl ?_
                  refine dc_cons (q_off_u rfl rfl rfl) rfl ?_
                  refine dc_cons (q_off_f rfl rfl rfl (by first | rfl | assumption)) rfl ?_
                  refine dc_cons (DStep.q rfl (by exact (by first | exact opd_pick_t rfl rfl rfl | exact opd_pick_f rfl rfl rfl | exact opd_pickt rfl rfl (by assumption) rfl | exact opd_pickf rfl rfl (by assumption) rfl | exact opd_pick rfl rfl rfl))) rfl ?_
                  refine dc_nil ⟨by kernel_rfl, ?_⟩
                  exact ⟨rfl, ⟨_, rfl, by first | rfl | (simp only [hg24, hg28, hg32, hg47, hg51]; rfl) | (simp only [hg24, hg28, hg32, hg47]; rfl) | (simp only [hg24, hg28, hg51]; rfl) | (simp only [hg24, hg28, hg32, hg51]; rfl) | (simp only [hg24]; rfl) | (simp_all; done)⟩, rfl, rfl, rfl⟩
          · refine awp_drawc follows ?_
            refine dc_cons (DStep.q rfl (by exact (by first | exact opd_field_ref rfl fo42_3 rfl rfl rfl rfl | exact opd_field_pad rfl fo42_3 rfl rfl))) rfl ?_
            refine dc_cons (DStep.q rfl (by exact (by first | exact opd_load1_ref rfl Tryz.isAgg39 rfl rfl rfl rfl rfl | exact opd_load1_pad rfl Tryz.isAgg39 rfl (by first | omega | assumption) rfl))) rfl ?_
            refine dc_cons (DStep.q rfl (by exact opd_move rfl rfl)) rfl ?_
            refine dc_cons (DStep.q rfl (by exact (by first | exact x_index_pad rfl so39 rfl rfl (by omega) (by first | exact Int.toNat_natCast _ | rfl) (by assumption) rfl | exact x_index_osl rfl so39 rfl rfl rfl rfl rfl (by omega) (by first | exact Int.toNat_natCast _ | rfl) (by first | omega | assumption) rfl))) rfl ?_
            refine dc_cons (DStep.q rfl (by exact (by first | exact opd_load1_ref rfl Tryz.isAgg9 rfl rfl rfl rfl rfl | exact opd_load1_pad rfl Tryz.isAgg9 rfl (by first | omega | assumption) rfl))) rfl ?_
            refine dc_cons (DStep.q rfl (by exact opr_call rfl rfl Tryz.call103 rfl (rName_c s _ (h4 s (List.mem_of_getElem? hs))))) rfl ?_
            refine dc_cons (DStep.q rfl (by exact opd_not rfl rfl)) rfl ?_
            refine dc_cons (DStep.q rfl (by exact opd_move rfl rfl)) rfl ?_
            refine dc_cons (q_off_f rfl rfl rfl (by first | rfl | assumption)) rfl ?_
            refine dc_cons (q_off_f rfl rfl rfl (by first | rfl | assumption)) rfl ?_
            refine dc_cons (q_off_f rfl rfl rfl (by first | rfl | assumption)) rfl ?_
            refine dc_cons (q_off_f rfl rfl rfl (by first | rfl | assumption)) rfl ?_
            refine dc_cons (q_off_u rfl rfl rfl) rfl ?_
            refine dc_cons (q_off_u rfl rfl rfl) rfl ?_
            refine dc_cons (q_off_f rfl rfl rfl (by first | rfl | assumption)) rfl ?_
            refine dc_cons (q_off_f rfl rfl rfl (by first | rfl | assumption)) rfl ?_
            refine dc_cons (q_off_u rfl rfl rfl) rfl ?_
            refine dc_cons (q_off_u rfl rfl rfl) rfl ?_
            refine dc_cons (q_off_u rfl rfl rfl) rfl ?_
            refine dc_cons (q_off_u rfl rfl rfl) rfl ?_
            refine dc_cons (q_off_u rfl rfl rfl) rfl ?_
            refine dc_cons (q_off_u rfl rfl rfl) rfl ?_
            refine dc_cons (q_off_u rfl rfl rfl) rfl ?_
            refine dc_cons (q_off_u rfl rfl rfl) rfl ?_
            refine dc_cons (q_off_u rfl rfl rfl) rfl ?_
            refine dc_cons (q_off_u rfl rfl rfl) rfl ?_
            refine dc_cons (q_off_u rfl rfl rfl) rfl ?_
            refine dc_cons (q_off_u rfl rfl rfl) rfl ?_
            refine dc_cons (q_off_f rfl rfl rfl (by first | rfl | assumption)) rfl ?_
            refine dc_cons (DStep.q rfl (by exact (by first | exact opd_pick_t rfl rfl rfl | exact opd_pick_f rfl rfl rfl | exact opd_pickt rfl rfl (by assumption) rfl | exact opd_pickf rfl rfl (by assumption) rfl | exact opd_pick rfl rfl rfl))) rfl ?_
            refine dc_cons (DStep.q rfl (by exact opd_move rfl rfl)) rfl ?_
            refine dc_cons (q_off_f rfl rfl rfl (by first | rfl | assumption)) rfl ?_
            refine dc_cons (q_off_f rfl rfl rfl (by first | rfl | assumption)) rfl ?_
            refine dc_cons (q_off_f rfl rfl rfl (by first | rfl | assumption)) rfl ?_
            refine dc_cons (q_off_f rfl rfl rfl (by first | rfl | assumption)) rfl ?_
            refine dc_cons (q_off_u rfl rfl rfl) rfl ?_
            refine dc_cons (q_off_u rfl rfl rfl) rfl ?_
            refine dc_cons (q_off_u rfl rfl rfl) rfl ?_
            refine dc_cons (q_off_u rfl rfl rfl) rfl ?_
            refine dc_cons (q_off_u rfl rfl rfl) rfl ?_
            refine dc_cons (q_off_u rfl rfl rfl) rfl ?_
            refine dc_cons (q_off_u rfl rfl rfl) rfl ?_
            refine dc_cons (q_off_f rfl rfl rfl (by first | rfl | assumption)) rfl ?_
            refine dc_cons (DStep.q rfl (by exact (by first | exact opd_pick_t rfl rfl rfl | exact opd_pick_f rfl rfl rfl | exact opd_pickt rfl rfl (by assumption) rfl | exact opd_pickf rfl rfl (by assumption) rfl | exact opd_pick rfl rfl rfl))) rfl ?_
            refine dc_nil ⟨by kernel_rfl, ?_⟩
            exact ⟨rfl, ⟨_, rfl, by first | rfl | (simp only [hg24, hg28, hg32, hg47, hg51]; rfl) | (simp only [hg24, hg28, hg32, hg47]; rfl) | (simp only [hg24, hg28, hg51]; rfl) | (simp only [hg24, hg28, hg32, hg51]; rfl) | (simp only [hg24]; rfl) | (simp_all; done)⟩, rfl, rfl, rfl⟩
        refine awp_cond rfl (fun hc3 => ?_) (fun hc3 => ?_)
        -- cond 3
        · rw [hbe, ← hw] at hc3
          refine awp_seq ?_
          refine awp_region ?_
          refine al_d rfl rfl rfl (by exact opd_assign rfl rfl) ?_
          refine al_nil ?_
          refine awp_ret ?_
          -- return
          refine aret1 (H' := []) (by first | exact .inr rfl | exact .inl rfl) rfl (rval_tmp rfl) (Fin.wk (by simp) trivial trivial) ?_
          exact ⟨by rw [range_some hlt hc3]; rfl, rfl⟩
        · rw [hbe, ← hw] at hc3
          refine awp_skip ?_
          refine awp_region ?_
          refine al_d rfl rfl rfl (by exact opd_move rfl rfl) ?_
          refine al_d rfl rfl rfl (by exact (by first | exact opd_field_ref rfl fo42_3 rfl rfl rfl rfl | exact opd_field_pad rfl fo42_3 rfl rfl)) ?_
          refine al_d rfl rfl rfl (by exact (by first | exact opd_load1_ref rfl Tryz.isAgg39 rfl rfl rfl rfl rfl | exact opd_load1_pad rfl Tryz.isAgg39 rfl (by first | omega | assumption) rfl)) ?_
          refine al_d rfl rfl rfl (by exact opd_move rfl rfl) ?_
          refine al_d rfl rfl rfl (by exact (by first | exact x_index_pad rfl so39 rfl rfl (by omega) (by first | exact Int.toNat_natCast _ | rfl) (by assumption) rfl | exact x_index_osl rfl so39 rfl rfl rfl rfl rfl (by omega) (by first | exact Int.toNat_natCast _ | rfl) (by first | omega | assumption) rfl)) ?_
          refine al_d rfl rfl rfl (by exact (by first | exact opd_load1_ref rfl Tryz.isAgg9 rfl rfl rfl rfl rfl | exact opd_load1_pad rfl Tryz.isAgg9 rfl (by first | omega | assumption) rfl)) ?_
          refine al_n rfl rfl (by exact x_put_set (.inl rfl) Tryz.underlying67 Tryz.underlying9 rfl rfl rfl rfl rfl rfl rfl) ?_
          refine al_nil ?_
          refine awp_region ?_
          refine al_d rfl rfl rfl (by exact opd_move rfl rfl) ?_
          refine al_d rfl rfl rfl (by exact opd_add rfl rfl rfl (by first | exact w64 (by omega) (by omega) | exact wu8 (by omega) (by omega) | rfl)) ?_
          refine al_d rfl rfl rfl (by exact opd_assign rfl rfl) ?_
          refine al_nil ?_
          -- end of a round
          refine ⟨k + 1, ⟨by omega, fun j hj => ?_⟩, by omega, ?_⟩
          · by_cases e : j = k
            · subst e; exact hc3
            · exact hno j (by omega)
          · rw [hse]
            exact (Ent.wk ⟨⟨_, rfl, rfl⟩, (by first | (simp; done) | (simp; rfl) | exact clo_map _ _ _ | exact sob_clo _ _), ⟨_, rfl, rfl⟩, (by first | (simp; done) | (simp; rfl) | exact clo_map _ _ _ | exact sob_clo _ _), ⟨_, rfl, rfl⟩, (by first | (simp; done) | (simp; rfl) | exact clo_map _ _ _ | exact sob_clo _ _), ⟨_, rfl, rfl⟩, (by first | (simp; done) | (simp; rfl) | exact clo_map _ _ _ | exact sob_clo _ _), trivial⟩ ⟨⟨_, rfl, rfl⟩, (by first | (simp; done) | (simp; rfl) | exact clo_map _ _ _ | exact sob_clo _ _), ⟨_, rfl, rfl⟩, (by first | (simp; done) | (simp; rfl) | exact clo_map _ _ _ | exact sob_clo _ _), trivial⟩ trivial)
      · have hge : k = o.refs.length := by have := of_decide_eq_false hc2; omega
        subst hge
        rw [range_any hno, Bool.not_false, Bool.true_and, gNum, ← hml]
        refine awp_exit ?_
        refine awp_seq ?_
        refine awp_seq ?_
        refine awp_region ?_
        refine al_d rfl rfl rfl (by exact (by first | exact opd_field_ref rfl fo42_1 rfl rfl rfl rfl | exact opd_field_pad rfl fo42_1 rfl rfl)) ?_
        refine al_d rfl rfl rfl (by exact (by first | exact opd_load1_ref rfl Tryz.isAgg3 rfl rfl rfl rfl rfl | exact opd_load1_pad rfl Tryz.isAgg3 rfl (by first | omega | assumption) rfl)) ?_
        refine al_nil ?_
        refine awp_block ?_
        refine awp_seq ?_
        refine awp_region ?_
        refine al_d rfl rfl rfl (by exact opd_eql rfl rfl rfl) ?_
        refine al_d rfl rfl rfl (by exact opd_assign rfl rfl) ?_
        refine al_nil ?_
        refine awp_cond rfl (fun hc4 => ?_) (fun hc4 => ?_)
        -- cond 4
        · rw [if_pos (of_decide_eq_true hc4)]
          refine awp_seq ?_
          refine awp_region ?_
          refine al_d rfl rfl rfl (by exact opd_move rfl rfl) ?_
          refine al_d rfl rfl rfl (by exact opd_eql rfl rfl rfl) ?_
          refine al_d rfl rfl rfl (by exact opd_assign rfl rfl) ?_
          refine al_nil ?_
          refine awp_ret ?_
          -- return
          refine aret1 (H' := []) (by first | exact .inr rfl | exact .inl rfl) rfl (rval_tmp rfl) (Fin.wk (by simp) trivial trivial) ?_
          exact ⟨rfl, rfl⟩
        · rw [if_neg (of_decide_eq_false hc4)]
          refine awp_seq ?_
          refine awp_region ?_
          refine al_d rfl rfl rfl (by exact opd_eql rfl rfl rfl) ?_
          refine al_d rfl rfl rfl (by exact opd_assign rfl rfl) ?_
          refine al_nil ?_
          refine awp_cond rfl (fun hc5 => ?_) (fun hc5 => ?_)
          -- cond 5
          · rw [if_pos (of_decide_eq_true hc5)]
            refine awp_seq ?_
            refine awp_region ?_
            refine al_d rfl rfl rfl (by exact opd_move rfl rfl) ?_
            refine al_d rfl rfl rfl (by exact opd_geq rfl rfl rfl) ?_
            refine al_d rfl rfl rfl (by exact opd_assign rfl rfl) ?_
            refine al_nil ?_
            refine awp_ret ?_
            -- return
            refine aret1 (H' := []) (by first | exact .inr rfl | exact .inl rfl) rfl (rval_tmp rfl) (Fin.wk (by simp) trivial trivial) ?_
            exact ⟨rfl, rfl⟩
          · rw [if_neg (of_decide_eq_false hc5)]
            refine awp_seq ?_
            refine awp_region ?_
            refine al_d rfl rfl rfl (by exact opd_eql rfl rfl rfl) ?_
            refine al_d rfl rfl rfl (by exact opd_assign rfl rfl) ?_
            refine al_nil ?_
            refine awp_cond rfl (fun hc6 => ?_) (fun hc6 => ?_)
            -- cond 6
            · rw [if_pos (of_decide_eq_true hc6)]
              refine awp_seq ?_
              refine awp_region ?_
              refine al_d rfl rfl rfl (by exact opd_move rfl rfl) ?_
              refine al_d rfl rfl rfl (by exact opd_geq rfl rfl rfl) ?_
              refine al_d rfl rfl rfl (by exact opd_assign rfl rfl) ?_
              refine al_nil ?_
              refine awp_ret ?_
              -- return
              refine aret1 (H' := []) (by first | exact .inr rfl | exact .inl rfl) rfl (rval_tmp rfl) (Fin.wk (by simp) trivial trivial) ?_
              exact ⟨rfl, rfl⟩
            · rw [if_neg (of_decide_eq_false hc6)]
              refine awp_seq ?_
              refine awp_region ?_
              refine al_d rfl rfl rfl (by exact opd_eql rfl rfl rfl) ?_
              refine al_d rfl rfl rfl (by exact opd_assign rfl rfl) ?_
              refine al_nil ?_
              refine awp_cond rfl (fun hc7 => ?_) (fun hc7 => ?_)
              -- cond 7
              · rw [if_pos (of_decide_eq_true hc7)]
                refine awp_seq ?_
                refine awp_region ?_
                refine al_d rfl rfl rfl (by exact opd_move rfl rfl) ?_
                refine al_d rfl rfl rfl (by exact opd_geq rfl rfl rfl) ?_
                refine al_d rfl rfl rfl (by exact opd_assign rfl rfl) ?_
                refine al_nil ?_
                refine awp_ret ?_
                -- return
                refine aret1 (H' := []) (by first | exact .inr rfl | exact .inl rfl) rfl (rval_tmp rfl) (Fin.wk (by simp) trivial trivial) ?_
                exact ⟨rfl, rfl⟩
              · rw [if_neg (of_decide_eq_false hc7)]
                refine awp_skip ?_
                refine awp_seq ?_
                refine awp_region ?_
                refine al_d rfl rfl rfl (by exact opd_move rfl rfl) ?_
                refine al_d rfl rfl rfl (by exact opd_eql rfl rfl rfl) ?_
                refine al_d rfl rfl rfl (by exact opd_assign rfl rfl) ?_
                refine al_nil ?_
                refine awp_ret ?_
                -- return
                refine aret1 (H' := []) (by first | exact .inr rfl | exact .inl rfl) rfl (rval_tmp rfl) (Fin.wk (by simp) trivial trivial) ?_
                exact ⟨rfl, rfl⟩
def atO (o : GObj) : Bool := if o.kind = 1 then gOn o.x o.y else (decide (o.x = 0) && decide (o.y = 0))
theorem rObj_eq (o : GObj) : ((((gName o.id && !decide (gWord o.kind = sNil)) && atO o) && gTags o.tags) && rRefs o) = gObj o := by
  cases hw : decide (gWord o.kind = sNil) with
  | true => simp [gObj, gHead, gHeadN, hw]
  | false =>
    have hk := word_kind hw
    have hk0 : ¬ o.kind = 0 := fun e => by rw [e] at hw; simp [gWord] at hw
    simp only [gObj, gHead, gHeadN, hw, rRefs, atO, gKind, gNum, gLeast]
    generalize gName o.id = a
    generalize gTags o.tags = b
    generalize (List.range o.refs.length).any (wrongAt o) = w
    generalize gOn o.x o.y = c
    generalize (decide (o.x = 0) && decide (o.y = 0)) = d
    generalize (o.refs.length : Int) = n
    generalize o.kind = k at *
    rcases (by omega : k = 1 ∨ k = 2 ∨ k = 3 ∨ k = 4 ∨ k = 5) with rfl | rfl | rfl | rfl | rfl <;> cases a <;> cases b <;> cases w <;> cases c <;> cases d <;> rw [Bool.eq_iff_iff] <;> simp <;> omega
theorem rObj_c (o : GObj) (H : Heap) (ho : okO o) : ACalls Tryz.prog 102 [av (encObj o)] H (fun r H' => r = bv (gObj o) ∧ H' = H) := by
  refine ACalls.pure ?_ (by simp) H
  rw [← rObj_eq]
  refine ACalls.body Tryz.func102 rfl Tryz.ntmps102 (Nat.le_of_ble_eq_true rfl) ?_
  refine awp_seq ?_
  refine awp_region ?_
  refine al_d rfl rfl rfl (by exact opd_box (id := 1) rfl rfl rfl rfl rfl) ?_
  refine al_d rfl rfl rfl (by exact opd_assign rfl rfl) ?_
  refine al_nil ?_
  refine awp_seq ?_
  refine awp_region ?_
  refine al_d rfl rfl rfl (by exact (by first | exact opd_field_ref rfl fo42_2 rfl rfl rfl rfl | exact opd_field_pad rfl fo42_2 rfl rfl)) ?_
  refine al_d rfl rfl rfl (by exact (by first | exact opd_loadn_ref rfl Tryz.isAgg38 Tryz.sizeOf38 rfl rfl rfl rfl (by simp only [List.drop_succ_cons, List.drop_zero, List.take_succ_cons, List.take_zero, List.take_nil, List.map_cons, List.map_nil, List.set_cons_zero, List.set_cons_succ, List.cons_append, List.nil_append, encTag, encObj, encStr]; rfl) rfl | exact opd_loadn_pad rfl Tryz.isAgg38 Tryz.sizeOf38 rfl (by first | omega | assumption) (by simp only [List.drop_succ_cons, List.drop_zero, List.take_succ_cons, List.take_zero, List.take_nil, List.map_cons, List.map_nil, List.set_cons_zero, List.set_cons_succ, List.cons_append, List.nil_append, encTag, encObj, encStr]; rfl) rfl)) ?_
  refine al_d rfl rfl rfl (by exact opr_call rfl rfl Tryz.call104 rfl (rOn_c o.x o.y _)) ?_
  refine al_d rfl rfl rfl (by exact opd_assign rfl rfl) ?_
  refine al_nil ?_
  refine awp_seq ?_
  refine awp_seq ?_
  refine awp_region ?_
  refine al_d rfl rfl rfl (by exact (by first | exact opd_field_ref rfl fo42_1 rfl rfl rfl rfl | exact opd_field_pad rfl fo42_1 rfl rfl)) ?_
  refine al_d rfl rfl rfl (by exact (by first | exact opd_load1_ref rfl Tryz.isAgg3 rfl rfl rfl rfl rfl | exact opd_load1_pad rfl Tryz.isAgg3 rfl (by first | omega | assumption) rfl)) ?_
  refine al_d rfl rfl rfl (by exact opd_neq rfl rfl rfl) ?_
  refine al_nil ?_
  refine awp_cond rfl (fun hc1 => ?_) (fun hc1 => ?_)
  -- cond 1
  · have hat : atO o = (decide (o.x = 0) && decide (o.y = 0)) := by
      have h : (!decide (o.kind = 1)) = true := hc1
      rw [atO, if_neg (by simpa using h)]
    refine awp_region ?_
    refine al_d rfl rfl rfl (by exact (by first | exact opd_field_ref rfl fo42_2 rfl rfl rfl rfl | exact opd_field_pad rfl fo42_2 rfl rfl)) ?_
    refine al_d rfl rfl rfl (by exact (by first | exact opd_loadn_ref rfl Tryz.isAgg38 Tryz.sizeOf38 rfl rfl rfl rfl (by simp only [List.drop_succ_cons, List.drop_zero, List.take_succ_cons, List.take_zero, List.take_nil, List.map_cons, List.map_nil, List.set_cons_zero, List.set_cons_succ, List.cons_append, List.nil_append, encTag, encObj, encStr]; rfl) rfl | exact opd_loadn_pad rfl Tryz.isAgg38 Tryz.sizeOf38 rfl (by first | omega | assumption) (by simp only [List.drop_succ_cons, List.drop_zero, List.take_succ_cons, List.take_zero, List.take_nil, List.map_cons, List.map_nil, List.set_cons_zero, List.set_cons_succ, List.cons_append, List.nil_append, encTag, encObj, encStr]; rfl) rfl)) ?_
    refine al_d rfl rfl rfl (by exact x_build rfl bo38 rfl rfl) ?_
    refine al_d rfl rfl rfl (by exact opd_aeql rfl rfl rfl rfl rfl Tryz.eqGuardType38 (se38 _ _ _ _)) ?_
    refine al_d rfl rfl rfl (by exact opd_assign rfl rfl) ?_
    refine al_nil ?_
    refine awp_seq ?_
    refine awp_bool (t := 2) (n := 26) (X := (((gName o.id && !decide (gWord o.kind = sNil)) && atO o) && gTags o.tags) && rRefs o) ?_ ?_
    · all_goals (refine al_d rfl rfl rfl (by exact (by first | exact opd_field_ref rfl fo42_0 rfl rfl rfl rfl | exact opd_field_pad rfl fo42_0 rfl rfl)) ?_)
      all_goals (refine al_d rfl rfl rfl (by exact (by first | exact opd_load1_ref rfl Tryz.isAgg9 rfl rfl rfl rfl rfl | exact opd_load1_pad rfl Tryz.isAgg9 rfl (by first | omega | assumption) rfl)) ?_)
      all_goals (refine al_d rfl rfl rfl (by exact opr_call rfl rfl Tryz.call103 rfl (rName_c o.id _ ho.1)) ?_)
      all_goals (refine al_d rfl rfl rfl (by exact opd_move rfl rfl) ?_)
      all_goals (first | refine al_split (t := 17) rfl (fun h17 => ?_) (fun h17 => ?_) | refine al_dup (t := 17) rfl ?_ | skip)
      all_goals (try contradiction)
      all_goals (first | refine al_off rfl rfl rfl rfl rfl ?_ | refine al_offu rfl rfl rfl rfl ?_ | refine al_ond rfl rfl rfl rfl rfl rfl (by exact (by first | exact opd_field_ref rfl fo42_1 rfl rfl rfl rfl | exact opd_field_pad rfl fo42_1 rfl rfl)) ?_)
      all_goals (first | refine al_off rfl rfl rfl rfl rfl ?_ | refine al_offu rfl rfl rfl rfl ?_ | refine al_ond rfl rfl rfl rfl rfl rfl (by exact (by first | exact opd_load1_ref rfl Tryz.isAgg3 rfl rfl rfl rfl rfl | exact opd_load1_pad rfl Tryz.isAgg3 rfl (by first | omega | assumption) rfl)) ?_)
      all_goals (first | refine al_off rfl rfl rfl rfl rfl ?_ | refine al_offu rfl rfl rfl rfl ?_ | refine al_ond rfl rfl rfl rfl rfl rfl (by exact opr_call rfl rfl Tryz.call154 rfl (rWordOf_c o.kind _)) ?_)
      all_goals (first | refine al_off rfl rfl rfl rfl rfl ?_ | refine al_offu rfl rfl rfl rfl ?_ | refine al_ond rfl rfl rfl rfl rfl rfl (by exact opd_sneq rfl rfl rfl) ?_)
      all_goals (refine al_d rfl rfl rfl (by exact (by first | exact opd_pick_t rfl rfl rfl | exact opd_pick_f rfl rfl rfl | exact opd_pickt rfl rfl (by assumption) rfl | exact opd_pickf rfl rfl (by assumption) rfl | exact opd_pick rfl rfl rfl)) ?_)
      all_goals (refine al_d rfl rfl rfl (by exact opd_move rfl rfl) ?_)
      all_goals (first | refine al_split (t := 23) rfl (fun h23 => ?_) (fun h23 => ?_) | refine al_dup (t := 23) rfl ?_ | skip)
      all_goals (try contradiction)
      all_goals (first | refine al_off rfl rfl rfl rfl rfl ?_ | refine al_offu rfl rfl rfl rfl ?_ | refine al_ond rfl rfl rfl rfl rfl rfl (by exact opd_move rfl rfl) ?_)
      all_goals (refine al_d rfl rfl rfl (by exact (by first | exact opd_pick_t rfl rfl rfl | exact opd_pick_f rfl rfl rfl | exact opd_pickt rfl rfl (by assumption) rfl | exact opd_pickf rfl rfl (by assumption) rfl | exact opd_pick rfl rfl rfl)) ?_)
      all_goals (refine al_d rfl rfl rfl (by exact opd_move rfl rfl) ?_)
      all_goals (first | refine al_split (t := 26) rfl (fun h26 => ?_) (fun h26 => ?_) | refine al_dup (t := 26) rfl ?_ | skip)
      all_goals (try contradiction)
      all_goals (first | refine al_off rfl rfl rfl rfl rfl ?_ | refine al_offu rfl rfl rfl rfl ?_ | refine al_ond rfl rfl rfl rfl rfl rfl (by exact (by first | exact opd_field_ref rfl fo42_4 rfl rfl rfl rfl | exact opd_field_pad rfl fo42_4 rfl rfl)) ?_)
      all_goals (first | refine al_off rfl rfl rfl rfl rfl ?_ | refine al_offu rfl rfl rfl rfl ?_ | refine al_ond rfl rfl rfl rfl rfl rfl (by exact (by first | exact opd_load1_ref rfl Tryz.isAgg40 rfl rfl rfl rfl rfl | exact opd_load1_pad rfl Tryz.isAgg40 rfl (by first | omega | assumption) rfl)) ?_)
      all_goals (first | refine al_off rfl rfl rfl rfl rfl ?_ | refine al_offu rfl rfl rfl rfl ?_ | refine al_ond rfl rfl rfl rfl rfl rfl (by exact opr_call rfl rfl Tryz.call155 rfl (rTags_c o.tags _ ho.2.1)) ?_)
      all_goals (refine al_d rfl rfl rfl (by exact (by first | exact opd_pick_t rfl rfl rfl | exact opd_pick_f rfl rfl rfl | exact opd_pickt rfl rfl (by assumption) rfl | exact opd_pickf rfl rfl (by assumption) rfl | exact opd_pick rfl rfl rfl)) ?_)
      all_goals (refine al_d rfl rfl rfl (by exact opd_move rfl rfl) ?_)
      all_goals (first | refine al_split (t := 31) rfl (fun h31 => ?_) (fun h31 => ?_) | refine al_dup (t := 31) rfl ?_ | skip)
      all_goals (try contradiction)
      all_goals (first | refine al_off rfl rfl rfl rfl rfl ?_ | refine al_offu rfl rfl rfl rfl ?_ | refine al_ond rfl rfl rfl rfl rfl rfl (by exact (by first | exact opd_loadn_ref rfl Tryz.isAgg42 Tryz.sizeOf42 rfl rfl rfl rfl (by simp only [List.drop_succ_cons, List.drop_zero, List.take_succ_cons, List.take_zero, List.take_nil, List.map_cons, List.map_nil, List.set_cons_zero, List.set_cons_succ, List.cons_append, List.nil_append, encTag, encObj, encStr]; rfl) rfl | exact opd_loadn_pad rfl Tryz.isAgg42 Tryz.sizeOf42 rfl (by first | omega | assumption) (by simp only [List.drop_succ_cons, List.drop_zero, List.take_succ_cons, List.take_zero, List.take_nil, List.map_cons, List.map_nil, List.set_cons_zero, List.set_cons_succ, List.cons_append, List.nil_append, encTag, encObj, encStr]; rfl) rfl)) ?_)
      all_goals (first | refine al_off rfl rfl rfl rfl rfl ?_ | refine al_offu rfl rfl rfl rfl ?_ | refine al_ond rfl rfl rfl rfl rfl rfl (by exact opr_call rfl rfl Tryz.call156 rfl (rRefs_c o _ ho)) ?_)
      all_goals (refine al_d rfl rfl rfl (by exact (by first | exact opd_pick_t rfl rfl rfl | exact opd_pick_f rfl rfl rfl | exact opd_pickt rfl rfl (by assumption) rfl | exact opd_pickf rfl rfl (by assumption) rfl | exact opd_pick rfl rfl rfl)) ?_)
      all_goals (refine al_d rfl rfl rfl (by exact opd_assign rfl rfl) ?_)
      all_goals (refine al_nil ?_)
      all_goals (exact ⟨⟨_, rfl, by first | rfl | (simp only [hat, *]; rfl) | (simp only [hat]; simp_all; done) | (simp_all; done)⟩, rfl, rfl, rfl⟩)
    refine awp_ret ?_
    -- return
    refine aret1 (H' := []) (by first | exact .inr rfl | exact .inl rfl) rfl (rval_tmp rfl) (Fin.wk (by simp) trivial trivial) ?_
    exact ⟨rfl, rfl⟩
  · have hat : atO o = gOn o.x o.y := by
      have h : (!decide (o.kind = 1)) = false := hc1
      rw [atO, if_pos (by simpa using h)]
    refine awp_skip ?_
    refine awp_seq ?_
    refine awp_bool (t := 2) (n := 26) (X := (((gName o.id && !decide (gWord o.kind = sNil)) && atO o) && gTags o.tags) && rRefs o) ?_ ?_
    · all_goals (refine al_d rfl rfl rfl (by exact (by first | exact opd_field_ref rfl fo42_0 rfl rfl rfl rfl | exact opd_field_pad rfl fo42_0 rfl rfl)) ?_)
      all_goals (refine al_d rfl rfl rfl (by exact (by first | exact opd_load1_ref rfl Tryz.isAgg9 rfl rfl rfl rfl rfl | exact opd_load1_pad rfl Tryz.isAgg9 rfl (by first | omega | assumption) rfl)) ?_)
      all_goals (refine al_d rfl rfl rfl (by exact opr_call rfl rfl Tryz.call103 rfl (rName_c o.id _ ho.1)) ?_)
      all_goals (refine al_d rfl rfl rfl (by exact opd_move rfl rfl) ?_)
      all_goals (first | refine al_split (t := 17) rfl (fun h17 => ?_) (fun h17 => ?_) | refine al_dup (t := 17) rfl ?_ | skip)
      all_goals (try contradiction)
      all_goals (first | refine al_off rfl rfl rfl rfl rfl ?_ | refine al_offu rfl rfl rfl rfl ?_ | refine al_ond rfl rfl rfl rfl rfl rfl (by exact (by first | exact opd_field_ref rfl fo42_1 rfl rfl rfl rfl | exact opd_field_pad rfl fo42_1 rfl rfl)) ?_)
      all_goals (first | refine al_off rfl rfl rfl rfl rfl ?_ | refine al_offu rfl rfl rfl rfl ?_ | refine al_ond rfl rfl rfl rfl rfl rfl (by exact (by first | exact opd_load1_ref rfl Tryz.isAgg3 rfl rfl rfl rfl rfl | exact opd_load1_pad rfl Tryz.isAgg3 rfl (by first | omega | assumption) rfl)) ?_)
      all_goals (first | refine al_off rfl rfl rfl rfl rfl ?_ | refine al_offu rfl rfl rfl rfl ?_ | refine al_ond rfl rfl rfl rfl rfl rfl (by exact opr_call rfl rfl Tryz.call154 rfl (rWordOf_c o.kind _)) ?_)
      all_goals (first | refine al_off rfl rfl rfl rfl rfl ?_ | refine al_offu rfl rfl rfl rfl ?_ | refine al_ond rfl rfl rfl rfl rfl rfl (by exact opd_sneq rfl rfl rfl) ?_)
      all_goals (refine al_d rfl rfl rfl (by exact (by first | exact opd_pick_t rfl rfl rfl | exact opd_pick_f rfl rfl rfl | exact opd_pickt rfl rfl (by assumption) rfl | exact opd_pickf rfl rfl (by assumption) rfl | exact opd_pick rfl rfl rfl)) ?_)
      all_goals (refine al_d rfl rfl rfl (by exact opd_move rfl rfl) ?_)
      all_goals (first | refine al_split (t := 23) rfl (fun h23 => ?_) (fun h23 => ?_) | refine al_dup (t := 23) rfl ?_ | skip)
      all_goals (try contradiction)
      all_goals (first | refine al_off rfl rfl rfl rfl rfl ?_ | refine al_offu rfl rfl rfl rfl ?_ | refine al_ond rfl rfl rfl rfl rfl rfl (by exact opd_move rfl rfl) ?_)
      all_goals (refine al_d rfl rfl rfl (by exact (by first | exact opd_pick_t rfl rfl rfl | exact opd_pick_f rfl rfl rfl | exact opd_pickt rfl rfl (by assumption) rfl | exact opd_pickf rfl rfl (by assumption) rfl | exact opd_pick rfl rfl rfl)) ?_)
      all_goals (refine al_d rfl rfl rfl (by exact opd_move rfl rfl) ?_)
      all_goals (first | refine al_split (t := 26) rfl (fun h26 => ?_) (fun h26 => ?_) | refine al_dup (t := 26) rfl ?_ | skip)
      all_goals (try contradiction)
      all_goals (first | refine al_off rfl rfl rfl rfl rfl ?_ | refine al_offu rfl rfl rfl rfl ?_ | refine al_ond rfl rfl rfl rfl rfl rfl (by exact (by first | exact opd_field_ref rfl fo42_4 rfl rfl rfl rfl | exact opd_field_pad rfl fo42_4 rfl rfl)) ?_)
      all_goals (first | refine al_off rfl rfl rfl rfl rfl ?_ | refine al_offu rfl rfl rfl rfl ?_ | refine al_ond rfl rfl rfl rfl rfl rfl (by exact (by first | exact opd_load1_ref rfl Tryz.isAgg40 rfl rfl rfl rfl rfl | exact opd_load1_pad rfl Tryz.isAgg40 rfl (by first | omega | assumption) rfl)) ?_)
      all_goals (first | refine al_off rfl rfl rfl rfl rfl ?_ | refine al_offu rfl rfl rfl rfl ?_ | refine al_ond rfl rfl rfl rfl rfl rfl (by exact opr_call rfl rfl Tryz.call155 rfl (rTags_c o.tags _ ho.2.1)) ?_)
      all_goals (refine al_d rfl rfl rfl (by exact (by first | exact opd_pick_t rfl rfl rfl | exact opd_pick_f rfl rfl rfl | exact opd_pickt rfl rfl (by assumption) rfl | exact opd_pickf rfl rfl (by assumption) rfl | exact opd_pick rfl rfl rfl)) ?_)
      all_goals (refine al_d rfl rfl rfl (by exact opd_move rfl rfl) ?_)
      all_goals (first | refine al_split (t := 31) rfl (fun h31 => ?_) (fun h31 => ?_) | refine al_dup (t := 31) rfl ?_ | skip)
      all_goals (try contradiction)
      all_goals (first | refine al_off rfl rfl rfl rfl rfl ?_ | refine al_offu rfl rfl rfl rfl ?_ | refine al_ond rfl rfl rfl rfl rfl rfl (by exact (by first | exact opd_loadn_ref rfl Tryz.isAgg42 Tryz.sizeOf42 rfl rfl rfl rfl (by simp only [List.drop_succ_cons, List.drop_zero, List.take_succ_cons, List.take_zero, List.take_nil, List.map_cons, List.map_nil, List.set_cons_zero, List.set_cons_succ, List.cons_append, List.nil_append, encTag, encObj, encStr]; rfl) rfl | exact opd_loadn_pad rfl Tryz.isAgg42 Tryz.sizeOf42 rfl (by first | omega | assumption) (by simp only [List.drop_succ_cons, List.drop_zero, List.take_succ_cons, List.take_zero, List.take_nil, List.map_cons, List.map_nil, List.set_cons_zero, List.set_cons_succ, List.cons_append, List.nil_append, encTag, encObj, encStr]; rfl) rfl)) ?_)
      all_goals (first | refine al_off rfl rfl rfl rfl rfl ?_ | refine al_offu rfl rfl rfl rfl ?_ | refine al_ond rfl rfl rfl rfl rfl rfl (by exact opr_call rfl rfl Tryz.call156 rfl (rRefs_c o _ ho)) ?_)
      all_goals (refine al_d rfl rfl rfl (by exact (by first | exact opd_pick_t rfl rfl rfl | exact opd_pick_f rfl rfl rfl | exact opd_pickt rfl rfl (by assumption) rfl | exact opd_pickf rfl rfl (by assumption) rfl | exact opd_pick rfl rfl rfl)) ?_)
      all_goals (refine al_d rfl rfl rfl (by exact opd_assign rfl rfl) ?_)
      all_goals (refine al_nil ?_)
      all_goals (exact ⟨⟨_, rfl, by first | rfl | (simp only [hat, *]; rfl) | (simp only [hat]; simp_all; done) | (simp_all; done)⟩, rfl, rfl, rfl⟩)
    refine awp_ret ?_
    -- return
    refine aret1 (H' := []) (by first | exact .inr rfl | exact .inl rfl) rfl (rval_tmp rfl) (Fin.wk (by simp) trivial trivial) ?_
    exact ⟨rfl, rfl⟩
end Go.Proofs.YtdgoodjhndeojaaGreat
end
