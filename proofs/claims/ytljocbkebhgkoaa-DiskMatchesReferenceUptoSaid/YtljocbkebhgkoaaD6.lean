/-
  THE DISK, contracts: Sync, Arm, Start, Read. Conditions: a disk's state as DOk tells.
-/
import Derived.Test.YtljocbkebhgkoaaD5
set_option linter.unusedVariables false
set_option linter.unusedSimpArgs false
set_option maxRecDepth 100000
namespace Go.Proofs.Ytljocbkebhgkoaa
open Go.Abs

theorem count_ok {s : DSt} (hs : DOk s) : DOk (dCount s) := by
  unfold dCount
  split
  · split
    · exact ⟨hs.n1, hs.n2, hs.c, hs.q, hs.ql⟩
    · exact fail_ok hs _ _
  · exact hs
/-- All pending writes are made. -/
def dFlush (s : DSt) : DSt := { s with cells := putAll s.cells s.q, q := [], gq := s.gq + 1 }
def dSync (s : DSt) : DSt := if s.off then s else if dCountE s = 0 then dFlush (dCount s) else dCount s
def dSyncE (s : DSt) : Int := if s.off then 22 else dCountE s
theorem sync_c (s : DSt) (hs : DOk s) (ha : armLt s) :
    ACalls Try.prog 31 [.ref 1000 0 0 0] (diskH s) (fun r H' => r = iv (dSyncE s) ∧ H' = diskH (dSync s)) := by
  have hc := count_ok hs
  have hset := settle_c (dCount s) (dCount s).q.length hc (Nat.le_refl _)
  rw [List.take_length] at hset
  refine ACalls.body Try.func31 rfl Try.ntmps31 (Nat.le_of_ble_eq_true rfl) ?_
  refine awp_seq ?_
  refine awp_region ?_
  refine al_d rfl rfl rfl (by exact opd_assign rfl rfl) ?_
  refine al_nil ?_
  refine awp_seq ?_
  refine awp_seq ?_
  refine awp_region ?_
  refine al_d rfl rfl rfl (by exact opd_move rfl rfl) ?_
  refine al_d rfl rfl rfl (by exact (by first | exact opd_peq_ref rfl Try.underlying46 rfl rfl rfl rfl | exact opd_peq_nil rfl Try.underlying46 rfl rfl)) ?_
  refine al_nil ?_
  refine awp_cond rfl (fun hc1 => ?_) (fun hc1 => ?_)
  -- cond 1
  · cases hc1
  · skip
    refine awp_skip ?_
    refine awp_seq ?_
    refine awp_seq ?_
    refine awp_region ?_
    refine al_d rfl rfl rfl (by exact opd_move rfl rfl) ?_
    refine al_d rfl rfl rfl (by exact (by first | exact opd_nilCheck_ref rfl rfl rfl rfl | exact opd_nilCheck_fn rfl rfl)) ?_
    refine al_d rfl rfl rfl (by exact (by first | exact opd_field_ref rfl fo94_2 rfl rfl rfl rfl | exact opd_field_pad rfl fo94_2 rfl rfl)) ?_
    refine al_d rfl rfl rfl (by exact (by first | exact opd_load1_ref rfl Try.isAgg4 rfl rfl rfl rfl rfl | exact opd_load1_pad rfl Try.isAgg4 rfl (by first | omega | assumption) rfl)) ?_
    refine al_nil ?_
    refine awp_cond rfl (fun hc2 => ?_) (fun hc2 => ?_)
    -- cond 2
    · have e : s.off = true := hc2
      refine awp_seq ?_
      refine awp_region ?_
      refine al_d rfl rfl rfl (by exact opd_assign rfl rfl) ?_
      refine al_nil ?_
      refine awp_ret ?_
      -- return
      refine aret1 (H' := diskH s) (by first | exact .inr rfl | exact .inl rfl) rfl (rval_tmp rfl) (Fin.wk (by first | (simp; done) | (simp; rfl)) ⟨⟨_, rfl, rfl⟩, (by first | (simp; done) | (simp; rfl) | exact clo_map _ _ _ | exact clo_brows _ _ | exact disk_clo _ _ rfl rfl rfl | exact arm_clo _ _ | (simp; exact ⟨rfl, rfl⟩) | (simp; exact ⟨rfl, rfl, rfl⟩) | exact arm_clo .never _ | exact arm_clo (.off _ _ _) _ | exact arm_clo (.on _ _ _) _), ⟨_, rfl, rfl⟩, (by first | (simp; done) | (simp; rfl) | exact clo_map _ _ _ | exact clo_brows _ _ | exact disk_clo _ _ rfl rfl rfl | exact arm_clo _ _ | (simp; exact ⟨rfl, rfl⟩) | (simp; exact ⟨rfl, rfl, rfl⟩) | exact arm_clo .never _ | exact arm_clo (.off _ _ _) _ | exact arm_clo (.on _ _ _) _), ⟨_, rfl, rfl⟩, (by first | (simp; done) | (simp; rfl) | exact clo_map _ _ _ | exact clo_brows _ _ | exact disk_clo _ _ rfl rfl rfl | exact arm_clo _ _ | (simp; exact ⟨rfl, rfl⟩) | (simp; exact ⟨rfl, rfl, rfl⟩) | exact arm_clo .never _ | exact arm_clo (.off _ _ _) _ | exact arm_clo (.on _ _ _) _), ⟨_, rfl, rfl⟩, (by first | (simp; done) | (simp; rfl) | exact clo_map _ _ _ | exact clo_brows _ _ | exact disk_clo _ _ rfl rfl rfl | exact arm_clo _ _ | (simp; exact ⟨rfl, rfl⟩) | (simp; exact ⟨rfl, rfl, rfl⟩) | exact arm_clo .never _ | exact arm_clo (.off _ _ _) _ | exact arm_clo (.on _ _ _) _), trivial⟩ ⟨rfl, rfl, rfl, rfl, trivial⟩) ?_
      exact ⟨by simp [dSyncE, e], by simp [dSync, e]⟩
    · have e : s.off = false := hc2
      refine awp_skip ?_
      refine awp_seq ?_
      refine awp_seq ?_
      refine awp_region ?_
      refine al_d rfl rfl rfl (by exact opd_move rfl rfl) ?_
      refine al_d rfl rfl rfl (by exact opr_call rfl rfl Try.call59 rfl (disk_frame (count_c s hs ha) _ ⟨rfl, rfl, rfl, rfl, trivial⟩ (by simp; rfl))) ?_
      refine al_d rfl rfl rfl (by exact opd_assign rfl rfl) ?_
      refine al_nil ?_
      refine awp_seq ?_
      refine awp_region ?_
      refine al_d rfl rfl rfl (by exact opd_move rfl rfl) ?_
      refine al_d rfl rfl rfl (by exact opd_neq rfl rfl rfl) ?_
      refine al_nil ?_
      refine awp_cond rfl (fun hc3 => ?_) (fun hc3 => ?_)
      -- cond 3
      · have e2 : ¬ dCountE s = 0 := by
          have : (!decide (dCountE s = 0)) = true := hc3
          simpa using this
        refine awp_seq ?_
        refine awp_region ?_
        refine al_d rfl rfl rfl (by exact opd_move rfl rfl) ?_
        refine al_d rfl rfl rfl (by exact opd_assign rfl rfl) ?_
        refine al_nil ?_
        refine awp_ret ?_
        -- return
        refine aret1 (H' := diskH (dCount s)) (by first | exact .inr rfl | exact .inl rfl) rfl (rval_tmp rfl) (Fin.wk (by first | (simp; done) | (simp; rfl)) ⟨⟨_, rfl, rfl⟩, (by first | (simp; done) | (simp; rfl) | exact clo_map _ _ _ | exact clo_brows _ _ | exact disk_clo _ _ rfl rfl rfl | exact arm_clo _ _ | (simp; exact ⟨rfl, rfl⟩) | (simp; exact ⟨rfl, rfl, rfl⟩) | exact arm_clo .never _ | exact arm_clo (.off _ _ _) _ | exact arm_clo (.on _ _ _) _), ⟨_, rfl, rfl⟩, (by first | (simp; done) | (simp; rfl) | exact clo_map _ _ _ | exact clo_brows _ _ | exact disk_clo _ _ rfl rfl rfl | exact arm_clo _ _ | (simp; exact ⟨rfl, rfl⟩) | (simp; exact ⟨rfl, rfl, rfl⟩) | exact arm_clo .never _ | exact arm_clo (.off _ _ _) _ | exact arm_clo (.on _ _ _) _), ⟨_, rfl, rfl⟩, (by first | (simp; done) | (simp; rfl) | exact clo_map _ _ _ | exact clo_brows _ _ | exact disk_clo _ _ rfl rfl rfl | exact arm_clo _ _ | (simp; exact ⟨rfl, rfl⟩) | (simp; exact ⟨rfl, rfl, rfl⟩) | exact arm_clo .never _ | exact arm_clo (.off _ _ _) _ | exact arm_clo (.on _ _ _) _), ⟨_, rfl, rfl⟩, (by first | (simp; done) | (simp; rfl) | exact clo_map _ _ _ | exact clo_brows _ _ | exact disk_clo _ _ rfl rfl rfl | exact arm_clo _ _ | (simp; exact ⟨rfl, rfl⟩) | (simp; exact ⟨rfl, rfl, rfl⟩) | exact arm_clo .never _ | exact arm_clo (.off _ _ _) _ | exact arm_clo (.on _ _ _) _), trivial⟩ ⟨rfl, rfl, rfl, rfl, trivial⟩) ?_
        exact ⟨by simp [dSyncE, e], by simp [dSync, e, e2]⟩
      · have e2 : dCountE s = 0 := by
          have : (!decide (dCountE s = 0)) = false := hc3
          simpa using this
        refine awp_skip ?_
        refine awp_seq ?_
        refine awp_region ?_
        refine al_d rfl rfl rfl (by exact opd_move rfl rfl) ?_
        refine al_d rfl rfl rfl (by exact opd_move rfl rfl) ?_
        refine al_d rfl rfl rfl (by exact (by first | exact opd_nilCheck_ref rfl rfl rfl rfl | exact opd_nilCheck_fn rfl rfl)) ?_
        refine al_d rfl rfl rfl (by exact (by first | exact opd_field_ref rfl fo94_1 rfl rfl rfl rfl | exact opd_field_pad rfl fo94_1 rfl rfl)) ?_
        refine al_d rfl rfl rfl (by exact (by first | exact opd_load1_ref rfl Try.isAgg91 rfl rfl rfl rfl rfl | exact opd_load1_pad rfl Try.isAgg91 rfl (by first | omega | assumption) rfl)) ?_
        refine al_d rfl rfl rfl (by exact opr_call rfl rfl Try.call60 rfl (disk_frame hset _ ⟨rfl, rfl, rfl, rfl, trivial⟩ (by first | (simp; done) | (simp; rfl) | (simp; exact ⟨rfl, rfl⟩)))) ?_
        refine al_nil ?_
        refine awp_seq ?_
        refine awp_region ?_
        refine al_d rfl rfl rfl (by exact opd_move rfl rfl) ?_
        refine al_d rfl rfl rfl (by exact (by first | exact opd_nilCheck_ref rfl rfl rfl rfl | exact opd_nilCheck_fn rfl rfl)) ?_
        refine al_d rfl rfl rfl (by exact (by first | exact opd_field_ref rfl fo94_1 rfl rfl rfl rfl | exact opd_field_pad rfl fo94_1 rfl rfl)) ?_
        refine al_n rfl rfl (by exact opd_store_nil (q := 1002) (sz := 3) (ty := 104) rfl Try.sizeOf91 rfl rfl rfl rfl rfl rfl rfl rfl (by simp) (by simp only [dRow, List.set_cons_succ, List.set_cons_zero]; rfl) (by simp only [List.set_cons_zero]; rfl)) ?_
        refine al_nil ?_
        refine awp_seq ?_
        refine awp_region ?_
        refine al_d rfl rfl rfl (by exact opd_assign rfl rfl) ?_
        refine al_nil ?_
        refine awp_ret ?_
        -- return
        refine aret1 (H' := diskH (dFlush (dCount s))) (by first | exact .inr rfl | exact .inl rfl) rfl (rval_tmp rfl) (Fin.wk (by first | (simp; done) | (simp; rfl)) ⟨⟨_, rfl, rfl⟩, (by first | (simp; done) | (simp; rfl) | exact clo_map _ _ _ | exact clo_brows _ _ | exact disk_clo _ _ rfl rfl rfl | exact arm_clo _ _ | (simp; exact ⟨rfl, rfl⟩) | (simp; exact ⟨rfl, rfl, rfl⟩) | exact arm_clo .never _ | exact arm_clo (.off _ _ _) _ | exact arm_clo (.on _ _ _) _), ⟨_, rfl, rfl⟩, (by first | (simp; done) | (simp; rfl) | exact clo_map _ _ _ | exact clo_brows _ _ | exact disk_clo _ _ rfl rfl rfl | exact arm_clo _ _ | (simp; exact ⟨rfl, rfl⟩) | (simp; exact ⟨rfl, rfl, rfl⟩) | exact arm_clo .never _ | exact arm_clo (.off _ _ _) _ | exact arm_clo (.on _ _ _) _), ⟨_, rfl, rfl⟩, (by first | (simp; done) | (simp; rfl) | exact clo_map _ _ _ | exact clo_brows _ _ | exact disk_clo _ _ rfl rfl rfl | exact arm_clo _ _ | (simp; exact ⟨rfl, rfl⟩) | (simp; exact ⟨rfl, rfl, rfl⟩) | exact arm_clo .never _ | exact arm_clo (.off _ _ _) _ | exact arm_clo (.on _ _ _) _), ⟨_, rfl, rfl⟩, (by first | (simp; done) | (simp; rfl) | exact clo_map _ _ _ | exact clo_brows _ _ | exact disk_clo _ _ rfl rfl rfl | exact arm_clo _ _ | (simp; exact ⟨rfl, rfl⟩) | (simp; exact ⟨rfl, rfl, rfl⟩) | exact arm_clo .never _ | exact arm_clo (.off _ _ _) _ | exact arm_clo (.on _ _ _) _), trivial⟩ ⟨rfl, rfl, rfl, rfl, trivial⟩) ?_
        exact ⟨by simp [dSyncE, e, e2], by simp [dSync, e, e2]⟩
def dStart (s : DSt) : DSt := { s with off := false, arm := disarm s.arm }
theorem startH_eq (s : DSt) : ([(1000, ⟨0, 4, 94, [[.osl 1001 0 0 (64 * s.cells.length), .osl 1002 s.gq 0 s.q.length, bv false, .pv .nilp]]⟩), (1001, ⟨0, 1, 5, brows (flat s.cells)⟩), (1002, ⟨s.gq, 3, 104, qRows s.q⟩), (1003, ⟨s.ga, 3, 110, armR s.arm⟩)] : Heap) = diskH (dStart s) := by
  simp only [dStart, diskH, dRow, disarm_row, disarm_val]
theorem start_c (s : DSt) : ACalls Try.prog 30 [.ref 1000 0 0 0] (diskH s) (fun r H' => r = .tup [] ∧ H' = diskH (dStart s)) := by
  rw [← startH_eq s]
  refine ACalls.body Try.func30 rfl Try.ntmps30 (Nat.le_of_ble_eq_true rfl) ?_
  refine awp_seq ?_
  refine awp_region ?_
  refine al_d rfl rfl rfl (by exact opd_move rfl rfl) ?_
  refine al_d rfl rfl rfl (by exact (by first | exact opd_pne_ref rfl Try.underlying46 rfl rfl rfl rfl | exact opd_pne_nil rfl Try.underlying46 rfl rfl)) ?_
  refine al_nil ?_
  refine awp_cond rfl (fun hc1 => ?_) (fun hc1 => ?_)
  -- cond 1
  · skip
    refine awp_seq ?_
    refine awp_region ?_
    refine al_d rfl rfl rfl (by exact opd_move rfl rfl) ?_
    refine al_d rfl rfl rfl (by exact (by first | exact opd_nilCheck_ref rfl rfl rfl rfl | exact opd_nilCheck_fn rfl rfl)) ?_
    refine al_d rfl rfl rfl (by exact (by first | exact opd_field_ref rfl fo94_2 rfl rfl rfl rfl | exact opd_field_pad rfl fo94_2 rfl rfl)) ?_
    refine al_n rfl rfl (by exact (by first | exact x_store_all rfl Try.sizeOf4 rfl rfl rfl rfl rfl rfl rfl rfl | exact x_store1 rfl Try.sizeOf4 rfl rfl rfl rfl rfl rfl (by simp only [List.length_cons, List.length_nil]; omega) (by simp only [List.drop_succ_cons, List.drop_zero, List.take_succ_cons, List.take_zero, List.take_nil, List.map_cons, List.map_nil, List.set_cons_zero, List.set_cons_succ, List.cons_append, List.nil_append, encQ, armR, dRow]; rfl) (by simp only [List.drop_succ_cons, List.drop_zero, List.take_succ_cons, List.take_zero, List.take_nil, List.map_cons, List.map_nil, List.set_cons_zero, List.set_cons_succ, List.cons_append, List.nil_append, encQ, armR, dRow]; rfl))) ?_
    refine al_nil ?_
    refine awp_region ?_
    refine al_d rfl rfl rfl (by exact opd_move rfl rfl) ?_
    refine al_d rfl rfl rfl (by exact (by first | exact opd_nilCheck_ref rfl rfl rfl rfl | exact opd_nilCheck_fn rfl rfl)) ?_
    refine al_d rfl rfl rfl (by exact (by first | exact opd_field_ref rfl fo94_3 rfl rfl rfl rfl | exact opd_field_pad rfl fo94_3 rfl rfl)) ?_
    refine al_n rfl rfl (by exact (by first | exact x_store_all rfl Try.sizeOf92 rfl rfl rfl rfl rfl rfl rfl rfl | exact x_store1 rfl Try.sizeOf92 rfl rfl rfl rfl rfl rfl (by simp only [List.length_cons, List.length_nil]; omega) (by simp only [List.drop_succ_cons, List.drop_zero, List.take_succ_cons, List.take_zero, List.take_nil, List.map_cons, List.map_nil, List.set_cons_zero, List.set_cons_succ, List.cons_append, List.nil_append, encQ, armR, dRow]; rfl) (by simp only [List.drop_succ_cons, List.drop_zero, List.take_succ_cons, List.take_zero, List.take_nil, List.map_cons, List.map_nil, List.set_cons_zero, List.set_cons_succ, List.cons_append, List.nil_append, encQ, armR, dRow]; rfl))) ?_
    refine al_nil ?_
    -- end of the body
    refine aret0 (H' := [(1000, ⟨0, 4, 94, [[.osl 1001 0 0 (64 * s.cells.length), .osl 1002 s.gq 0 s.q.length, bv false, .pv .nilp]]⟩), (1001, ⟨0, 1, 5, brows (flat s.cells)⟩), (1002, ⟨s.gq, 3, 104, qRows s.q⟩), (1003, ⟨s.ga, 3, 110, armR s.arm⟩)]) (by first | exact .inr rfl | exact .inl rfl) rfl  (Fin.wk (by first | (simp; done) | (simp; rfl)) ⟨⟨_, rfl, rfl⟩, (by first | (simp; done) | (simp; rfl) | exact clo_map _ _ _ | exact clo_brows _ _ | exact disk_clo _ _ rfl rfl rfl | exact arm_clo _ _ | (simp; exact ⟨rfl, rfl⟩) | (simp; exact ⟨rfl, rfl, rfl⟩) | exact arm_clo .never _ | exact arm_clo (.off _ _ _) _ | exact arm_clo (.on _ _ _) _), ⟨_, rfl, rfl⟩, (by first | (simp; done) | (simp; rfl) | exact clo_map _ _ _ | exact clo_brows _ _ | exact disk_clo _ _ rfl rfl rfl | exact arm_clo _ _ | (simp; exact ⟨rfl, rfl⟩) | (simp; exact ⟨rfl, rfl, rfl⟩) | exact arm_clo .never _ | exact arm_clo (.off _ _ _) _ | exact arm_clo (.on _ _ _) _), ⟨_, rfl, rfl⟩, (by first | (simp; done) | (simp; rfl) | exact clo_map _ _ _ | exact clo_brows _ _ | exact disk_clo _ _ rfl rfl rfl | exact arm_clo _ _ | (simp; exact ⟨rfl, rfl⟩) | (simp; exact ⟨rfl, rfl, rfl⟩) | exact arm_clo .never _ | exact arm_clo (.off _ _ _) _ | exact arm_clo (.on _ _ _) _), ⟨_, rfl, rfl⟩, (by first | (simp; done) | (simp; rfl) | exact clo_map _ _ _ | exact clo_brows _ _ | exact disk_clo _ _ rfl rfl rfl | exact arm_clo _ _ | (simp; exact ⟨rfl, rfl⟩) | (simp; exact ⟨rfl, rfl, rfl⟩) | exact arm_clo .never _ | exact arm_clo (.off _ _ _) _ | exact arm_clo (.on _ _ _) _), trivial⟩ ⟨rfl, rfl, rfl, rfl, trivial⟩) ?_
    exact ⟨rfl, rfl⟩
  · cases hc1
def dArm (s : DSt) (a w b : Int) : DSt := if s.off then s else if 0 ≤ a then { s with arm := .on a w b, ga := s.ga + 1 } else { s with arm := disarm s.arm }
theorem armH_eq (s : DSt) : ([(1000, ⟨0, 4, 94, [[.osl 1001 0 0 (64 * s.cells.length), .osl 1002 s.gq 0 s.q.length, bv s.off, .pv .nilp]]⟩), (1001, ⟨0, 1, 5, brows (flat s.cells)⟩), (1002, ⟨s.gq, 3, 104, qRows s.q⟩), (1003, ⟨s.ga, 3, 110, armR s.arm⟩)] : Heap) = diskH { s with arm := disarm s.arm } := by
  simp only [diskH, dRow, disarm_row, disarm_val]
theorem arm_c (s : DSt) (a w b : Int) : ACalls Try.prog 39 [.ref 1000 0 0 0, iv a, iv w, iv b] (diskH s) (fun r H' => r = .tup [] ∧ H' = diskH (dArm s a w b)) := by
  refine ACalls.body Try.func39 rfl Try.ntmps39 (Nat.le_of_ble_eq_true rfl) ?_
  refine awp_seq ?_
  refine awp_seq ?_
  refine awp_bool (t := 15) (n := 9) (X := s.off) ?_ ?_
  · all_goals (refine al_d rfl rfl rfl (by exact opd_move rfl rfl) ?_)
    all_goals (refine al_d rfl rfl rfl (by exact (by first | exact opd_peq_ref rfl Try.underlying46 rfl rfl rfl rfl | exact opd_peq_nil rfl Try.underlying46 rfl rfl)) ?_)
    all_goals (refine al_d rfl rfl rfl (by exact opd_move rfl rfl) ?_)
    all_goals (first | refine al_split (t := 10) rfl (fun h10 => ?_) (fun h10 => ?_) | skip)
    all_goals (try contradiction)
    all_goals (first | refine al_off rfl rfl rfl rfl rfl ?_ | refine al_offu rfl rfl rfl rfl ?_ | refine al_ond rfl rfl rfl rfl rfl rfl (by exact opd_move rfl rfl) ?_)
    all_goals (first | refine al_off rfl rfl rfl rfl rfl ?_ | refine al_offu rfl rfl rfl rfl ?_ | refine al_ond rfl rfl rfl rfl rfl rfl (by exact (by first | exact opd_nilCheck_ref rfl rfl rfl rfl | exact opd_nilCheck_fn rfl rfl)) ?_)
    all_goals (first | refine al_off rfl rfl rfl rfl rfl ?_ | refine al_offu rfl rfl rfl rfl ?_ | refine al_ond rfl rfl rfl rfl rfl rfl (by exact (by first | exact opd_field_ref rfl fo94_2 rfl rfl rfl rfl | exact opd_field_pad rfl fo94_2 rfl rfl)) ?_)
    all_goals (first | refine al_off rfl rfl rfl rfl rfl ?_ | refine al_offu rfl rfl rfl rfl ?_ | refine al_ond rfl rfl rfl rfl rfl rfl (by exact (by first | exact opd_load1_ref rfl Try.isAgg4 rfl rfl rfl rfl rfl | exact opd_load1_pad rfl Try.isAgg4 rfl (by first | omega | assumption) rfl)) ?_)
    all_goals (refine al_d rfl rfl rfl (by exact (by first | exact opd_pick_t rfl rfl rfl | exact opd_pick_f rfl rfl rfl | exact opd_pickt rfl rfl (by assumption) rfl | exact opd_pickf rfl rfl (by assumption) rfl | exact opd_pick rfl rfl rfl)) ?_)
    all_goals (refine al_nil ?_)
    all_goals (exact ⟨⟨_, rfl, by first | rfl | (simp only [s, *]; rfl) | (simp_all [s]; done) | (simp only [*, Bool.false_and, Bool.true_and, Bool.and_false, Bool.and_true, Bool.true_or, Bool.false_or, Bool.or_true, Bool.or_false, Bool.not_true, Bool.not_false]; done) | (simp_all; omega) | (simp_all [s]; omega)⟩, rfl, rfl, rfl⟩)
  refine awp_cond rfl (fun hc1 => ?_) (fun hc1 => ?_)
  -- cond 1
  · skip
    refine awp_ret ?_
    -- return
    refine aret0 (H' := diskH s) (by first | exact .inr rfl | exact .inl rfl) rfl  (Fin.wk (by first | (simp; done) | (simp; rfl)) ⟨⟨_, rfl, rfl⟩, (by first | (simp; done) | (simp; rfl) | exact clo_map _ _ _ | exact clo_brows _ _ | exact disk_clo _ _ rfl rfl rfl | exact arm_clo _ _ | (simp; exact ⟨rfl, rfl⟩) | (simp; exact ⟨rfl, rfl, rfl⟩) | exact arm_clo .never _ | exact arm_clo (.off _ _ _) _ | exact arm_clo (.on _ _ _) _), ⟨_, rfl, rfl⟩, (by first | (simp; done) | (simp; rfl) | exact clo_map _ _ _ | exact clo_brows _ _ | exact disk_clo _ _ rfl rfl rfl | exact arm_clo _ _ | (simp; exact ⟨rfl, rfl⟩) | (simp; exact ⟨rfl, rfl, rfl⟩) | exact arm_clo .never _ | exact arm_clo (.off _ _ _) _ | exact arm_clo (.on _ _ _) _), ⟨_, rfl, rfl⟩, (by first | (simp; done) | (simp; rfl) | exact clo_map _ _ _ | exact clo_brows _ _ | exact disk_clo _ _ rfl rfl rfl | exact arm_clo _ _ | (simp; exact ⟨rfl, rfl⟩) | (simp; exact ⟨rfl, rfl, rfl⟩) | exact arm_clo .never _ | exact arm_clo (.off _ _ _) _ | exact arm_clo (.on _ _ _) _), ⟨_, rfl, rfl⟩, (by first | (simp; done) | (simp; rfl) | exact clo_map _ _ _ | exact clo_brows _ _ | exact disk_clo _ _ rfl rfl rfl | exact arm_clo _ _ | (simp; exact ⟨rfl, rfl⟩) | (simp; exact ⟨rfl, rfl, rfl⟩) | exact arm_clo .never _ | exact arm_clo (.off _ _ _) _ | exact arm_clo (.on _ _ _) _), trivial⟩ ⟨rfl, rfl, rfl, rfl, trivial⟩) ?_
    exact ⟨rfl, by simp [dArm, hc1]⟩
  · skip
    refine awp_skip ?_
    refine awp_seq ?_
    refine awp_region ?_
    refine al_d rfl rfl rfl (by exact opd_move rfl rfl) ?_
    refine al_d rfl rfl rfl (by exact (by first | exact opd_nilCheck_ref rfl rfl rfl rfl | exact opd_nilCheck_fn rfl rfl)) ?_
    refine al_d rfl rfl rfl (by exact (by first | exact opd_field_ref rfl fo94_3 rfl rfl rfl rfl | exact opd_field_pad rfl fo94_3 rfl rfl)) ?_
    refine al_n rfl rfl (by exact (by first | exact x_store_all rfl Try.sizeOf92 rfl rfl rfl rfl rfl rfl rfl rfl | exact x_store1 rfl Try.sizeOf92 rfl rfl rfl rfl rfl rfl (by simp only [List.length_cons, List.length_nil]; omega) (by simp only [List.drop_succ_cons, List.drop_zero, List.take_succ_cons, List.take_zero, List.take_nil, List.map_cons, List.map_nil, List.set_cons_zero, List.set_cons_succ, List.cons_append, List.nil_append, encQ, armR, dRow]; rfl) (by simp only [List.drop_succ_cons, List.drop_zero, List.take_succ_cons, List.take_zero, List.take_nil, List.map_cons, List.map_nil, List.set_cons_zero, List.set_cons_succ, List.cons_append, List.nil_append, encQ, armR, dRow]; rfl))) ?_
    refine al_nil ?_
    refine awp_seq ?_
    refine awp_region ?_
    refine al_d rfl rfl rfl (by exact opd_move rfl rfl) ?_
    refine al_d rfl rfl rfl (by exact opd_geq rfl rfl rfl) ?_
    refine al_nil ?_
    refine awp_cond rfl (fun hc2 => ?_) (fun hc2 => ?_)
    -- cond 2
    · have h0 : 0 ≤ a := of_decide_eq_true hc2
      refine awp_region ?_
      refine al_d rfl rfl rfl (by exact opd_move rfl rfl) ?_
      refine al_d rfl rfl rfl (by exact opd_move rfl rfl) ?_
      refine al_d rfl rfl rfl (by exact opd_move rfl rfl) ?_
      refine al_d rfl rfl rfl (by exact opd_move rfl rfl) ?_
      refine al_d rfl rfl rfl (by exact x_build rfl bo110 rfl (rfl : _ = some [iv a, iv w, iv b])) ?_
      refine al_d rfl rfl rfl (by exact opd_box_again (id := 1003) rfl rfl rfl rfl rfl rfl) ?_
      refine al_d rfl rfl rfl (by exact (by first | exact opd_nilCheck_ref rfl rfl rfl rfl | exact opd_nilCheck_fn rfl rfl)) ?_
      refine al_d rfl rfl rfl (by exact (by first | exact opd_field_ref rfl fo94_3 rfl rfl rfl rfl | exact opd_field_pad rfl fo94_3 rfl rfl)) ?_
      refine al_n rfl rfl (by exact (by first | exact x_store_all rfl Try.sizeOf92 rfl rfl rfl rfl rfl rfl rfl rfl | exact x_store1 rfl Try.sizeOf92 rfl rfl rfl rfl rfl rfl (by simp only [List.length_cons, List.length_nil]; omega) (by simp only [List.drop_succ_cons, List.drop_zero, List.take_succ_cons, List.take_zero, List.take_nil, List.map_cons, List.map_nil, List.set_cons_zero, List.set_cons_succ, List.cons_append, List.nil_append, encQ, armR, dRow]; rfl) (by simp only [List.drop_succ_cons, List.drop_zero, List.take_succ_cons, List.take_zero, List.take_nil, List.map_cons, List.map_nil, List.set_cons_zero, List.set_cons_succ, List.cons_append, List.nil_append, encQ, armR, dRow]; rfl))) ?_
      refine al_nil ?_
      -- end of the body
      refine aret0 (H' := diskH { s with arm := .on a w b, ga := s.ga + 1 }) (by first | exact .inr rfl | exact .inl rfl) rfl  (Fin.wk (by first | (simp; done) | (simp; rfl)) ⟨⟨_, rfl, rfl⟩, (by first | (simp; done) | (simp; rfl) | exact clo_map _ _ _ | exact clo_brows _ _ | exact disk_clo _ _ rfl rfl rfl | exact arm_clo _ _ | (simp; exact ⟨rfl, rfl⟩) | (simp; exact ⟨rfl, rfl, rfl⟩) | exact arm_clo .never _ | exact arm_clo (.off _ _ _) _ | exact arm_clo (.on _ _ _) _), ⟨_, rfl, rfl⟩, (by first | (simp; done) | (simp; rfl) | exact clo_map _ _ _ | exact clo_brows _ _ | exact disk_clo _ _ rfl rfl rfl | exact arm_clo _ _ | (simp; exact ⟨rfl, rfl⟩) | (simp; exact ⟨rfl, rfl, rfl⟩) | exact arm_clo .never _ | exact arm_clo (.off _ _ _) _ | exact arm_clo (.on _ _ _) _), ⟨_, rfl, rfl⟩, (by first | (simp; done) | (simp; rfl) | exact clo_map _ _ _ | exact clo_brows _ _ | exact disk_clo _ _ rfl rfl rfl | exact arm_clo _ _ | (simp; exact ⟨rfl, rfl⟩) | (simp; exact ⟨rfl, rfl, rfl⟩) | exact arm_clo .never _ | exact arm_clo (.off _ _ _) _ | exact arm_clo (.on _ _ _) _), ⟨_, rfl, rfl⟩, (by first | (simp; done) | (simp; rfl) | exact clo_map _ _ _ | exact clo_brows _ _ | exact disk_clo _ _ rfl rfl rfl | exact arm_clo _ _ | (simp; exact ⟨rfl, rfl⟩) | (simp; exact ⟨rfl, rfl, rfl⟩) | exact arm_clo .never _ | exact arm_clo (.off _ _ _) _ | exact arm_clo (.on _ _ _) _), trivial⟩ ⟨rfl, rfl, rfl, rfl, trivial⟩) ?_
      exact ⟨rfl, by simp [dArm, hc1, h0]⟩
    · have h0 : ¬ 0 ≤ a := of_decide_eq_false hc2
      refine awp_skip ?_
      -- end of the body
      refine aret0 (H' := [(1000, ⟨0, 4, 94, [[.osl 1001 0 0 (64 * s.cells.length), .osl 1002 s.gq 0 s.q.length, bv s.off, .pv .nilp]]⟩), (1001, ⟨0, 1, 5, brows (flat s.cells)⟩), (1002, ⟨s.gq, 3, 104, qRows s.q⟩), (1003, ⟨s.ga, 3, 110, armR s.arm⟩)]) (by first | exact .inr rfl | exact .inl rfl) rfl  (Fin.wk (by first | (simp; done) | (simp; rfl)) ⟨⟨_, rfl, rfl⟩, (by first | (simp; done) | (simp; rfl) | exact clo_map _ _ _ | exact clo_brows _ _ | exact disk_clo _ _ rfl rfl rfl | exact arm_clo _ _ | (simp; exact ⟨rfl, rfl⟩) | (simp; exact ⟨rfl, rfl, rfl⟩) | exact arm_clo .never _ | exact arm_clo (.off _ _ _) _ | exact arm_clo (.on _ _ _) _), ⟨_, rfl, rfl⟩, (by first | (simp; done) | (simp; rfl) | exact clo_map _ _ _ | exact clo_brows _ _ | exact disk_clo _ _ rfl rfl rfl | exact arm_clo _ _ | (simp; exact ⟨rfl, rfl⟩) | (simp; exact ⟨rfl, rfl, rfl⟩) | exact arm_clo .never _ | exact arm_clo (.off _ _ _) _ | exact arm_clo (.on _ _ _) _), ⟨_, rfl, rfl⟩, (by first | (simp; done) | (simp; rfl) | exact clo_map _ _ _ | exact clo_brows _ _ | exact disk_clo _ _ rfl rfl rfl | exact arm_clo _ _ | (simp; exact ⟨rfl, rfl⟩) | (simp; exact ⟨rfl, rfl, rfl⟩) | exact arm_clo .never _ | exact arm_clo (.off _ _ _) _ | exact arm_clo (.on _ _ _) _), ⟨_, rfl, rfl⟩, (by first | (simp; done) | (simp; rfl) | exact clo_map _ _ _ | exact clo_brows _ _ | exact disk_clo _ _ rfl rfl rfl | exact arm_clo _ _ | (simp; exact ⟨rfl, rfl⟩) | (simp; exact ⟨rfl, rfl, rfl⟩) | exact arm_clo .never _ | exact arm_clo (.off _ _ _) _ | exact arm_clo (.on _ _ _) _), trivial⟩ ⟨rfl, rfl, rfl, rfl, trivial⟩) ?_
      exact ⟨rfl, by rw [armH_eq]; simp only [dArm, hc1, h0, Bool.false_eq_true, if_false]⟩
end Go.Proofs.Ytljocbkebhgkoaa
