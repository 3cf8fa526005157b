/-
  THE DISK, contracts: Write, Sync, Arm, Start. Conditions: a disk's state as DOk tells, fewer than 2^20 pending writes.
-/
import Derived.Test.YtljocbkebhgkoaaD4
set_option linter.unusedVariables false
set_option linter.unusedSimpArgs false
set_option maxRecDepth 100000
namespace Go.Proofs.Ytljocbkebhgkoaa
open Go.Abs

def wState (s : DSt) (n : Nat) (t : ByteArray) : DSt := { s with q := s.q ++ [(n, t)], gq := s.gq + 1 }
theorem wState_ok {s : DSt} (hs : DOk s) {n : Nat} {t : ByteArray} (hn : n < s.cells.length) (ht : t.size = 64) (hq : s.q.length < 1048576) : DOk (wState s n t) :=
  ⟨hs.n1, hs.n2, hs.c, fun p hp => by
    rcases List.mem_append.1 hp with h | h
    · exact hs.q p h
    · rw [List.mem_singleton.1 h]; exact ⟨hn, ht⟩, by show (s.q ++ [(n, t)]).length ≤ _; simp; omega⟩
def dWrite (s : DSt) (k : Int) (t : ByteArray) : DSt := if s.off then s else if secOk s k && decide (t.size = 64) then dCount (wState s k.toNat t) else s
def dWriteE (s : DSt) (k : Int) (t : ByteArray) : Int := if s.off then 22 else if secOk s k && decide (t.size = 64) then dCountE (wState s k.toNat t) else 1
theorem dq_len (s : DSt) (p : Nat × ByteArray) : s.q.length + 1 = (s.q ++ [p]).length := by simp
theorem write_c (s : DSt) (k : Int) (t : ByteArray) (hs : DOk s) (ha : armLt s) (hq : s.q.length < 1048576) :
    ACalls Try.prog 33 [.ref 1000 0 0 0, iv k, sv t] (diskH s) (fun r H' => r = iv (dWriteE s k t) ∧ H' = diskH (dWrite s k t)) := by
  refine ACalls.body Try.func33 rfl Try.ntmps33 (Nat.le_of_ble_eq_true rfl) ?_
  cases e : s.off with
  | true =>
    refine awp_seq ?_
    refine awp_region ?_
    refine al_d rfl rfl rfl (by exact opd_assign rfl rfl) ?_
    refine al_nil ?_
    refine awp_seq ?_
    refine awp_region ?_
    refine al_d rfl rfl rfl (by exact opd_move rfl rfl) ?_
    refine al_d rfl rfl rfl (by exact opd_move rfl rfl) ?_
    refine al_d rfl rfl rfl (by exact opr_call rfl rfl Try.call58 rfl (disk_frame (at_off s k hs e) _ ⟨rfl, rfl, rfl, rfl, trivial⟩ (by simp; rfl))) ?_
    refine al_d rfl rfl rfl (by exact opd_move rfl rfl) ?_
    refine al_d rfl rfl rfl (by exact opd_extract rfl rfl rfl) ?_
    refine al_d rfl rfl rfl (by exact opd_extract rfl rfl rfl) ?_
    refine al_d rfl rfl rfl (by exact x_alloc (id := 7) rfl zo100 rfl rfl) ?_
    refine al_n rfl rfl (by exact (by first | exact x_store_all rfl Try.sizeOf100 rfl rfl rfl rfl rfl rfl rfl rfl | exact x_store rfl Try.sizeOf100 rfl rfl rfl rfl rfl rfl rfl (by simp only [List.length_cons, List.length_nil]; omega) (by simp only [List.drop_succ_cons, List.drop_zero, List.take_succ_cons, List.take_zero, List.take_nil, List.map_cons, List.map_nil, List.set_cons_zero, List.set_cons_succ, List.cons_append, List.nil_append, encQ, armR, dRow]; rfl) (by simp only [List.drop_succ_cons, List.drop_zero, List.take_succ_cons, List.take_zero, List.take_nil, List.map_cons, List.map_nil, List.set_cons_zero, List.set_cons_succ, List.cons_append, List.nil_append, encQ, armR, dRow]; rfl))) ?_
    refine al_d rfl rfl rfl (by exact opd_assign rfl rfl) ?_
    refine al_nil ?_
    refine awp_seq ?_
    refine awp_seq ?_
    refine awp_region ?_
    refine al_d rfl rfl rfl (by exact opd_move rfl rfl) ?_
    refine al_d rfl rfl rfl (by exact opd_neq rfl rfl rfl) ?_
    refine al_nil ?_
    refine awp_cond rfl (fun hc1 => ?_) (fun hc1 => ?_)
    -- cond 1
    · skip
      refine awp_seq ?_
      refine awp_region ?_
      refine al_d rfl rfl rfl (by exact opd_move rfl rfl) ?_
      refine al_d rfl rfl rfl (by exact opd_assign rfl rfl) ?_
      refine al_nil ?_
      refine awp_ret ?_
      -- return
      refine aret1 (H' := diskH s) (by first | exact .inr rfl | exact .inl rfl) rfl (rval_tmp rfl) (Fin.wk (by first | (simp; done) | (simp; rfl)) ⟨⟨_, rfl, rfl⟩, (by first | (simp; done) | (simp; rfl) | exact clo_map _ _ _ | exact clo_brows _ _ | exact disk_clo _ _ rfl rfl rfl | exact arm_clo _ _ | (simp; exact ⟨rfl, rfl⟩) | (simp; exact ⟨rfl, rfl, rfl⟩) | exact arm_clo .never _ | exact arm_clo (.off _ _ _) _ | exact arm_clo (.on _ _ _) _), ⟨_, rfl, rfl⟩, (by first | (simp; done) | (simp; rfl) | exact clo_map _ _ _ | exact clo_brows _ _ | exact disk_clo _ _ rfl rfl rfl | exact arm_clo _ _ | (simp; exact ⟨rfl, rfl⟩) | (simp; exact ⟨rfl, rfl, rfl⟩) | exact arm_clo .never _ | exact arm_clo (.off _ _ _) _ | exact arm_clo (.on _ _ _) _), ⟨_, rfl, rfl⟩, (by first | (simp; done) | (simp; rfl) | exact clo_map _ _ _ | exact clo_brows _ _ | exact disk_clo _ _ rfl rfl rfl | exact arm_clo _ _ | (simp; exact ⟨rfl, rfl⟩) | (simp; exact ⟨rfl, rfl, rfl⟩) | exact arm_clo .never _ | exact arm_clo (.off _ _ _) _ | exact arm_clo (.on _ _ _) _), ⟨_, rfl, rfl⟩, (by first | (simp; done) | (simp; rfl) | exact clo_map _ _ _ | exact clo_brows _ _ | exact disk_clo _ _ rfl rfl rfl | exact arm_clo _ _ | (simp; exact ⟨rfl, rfl⟩) | (simp; exact ⟨rfl, rfl, rfl⟩) | exact arm_clo .never _ | exact arm_clo (.off _ _ _) _ | exact arm_clo (.on _ _ _) _), trivial⟩ ⟨rfl, rfl, rfl, rfl, trivial⟩) ?_
      exact ⟨by simp [dWriteE, e], by simp [dWrite, e]⟩
    · cases hc1
  | false =>
    rcases secOk_cases s k with e2 | ⟨n, rfl, hn⟩
    · skip
      refine awp_seq ?_
      refine awp_region ?_
      refine al_d rfl rfl rfl (by exact opd_assign rfl rfl) ?_
      refine al_nil ?_
      refine awp_seq ?_
      refine awp_region ?_
      refine al_d rfl rfl rfl (by exact opd_move rfl rfl) ?_
      refine al_d rfl rfl rfl (by exact opd_move rfl rfl) ?_
      refine al_d rfl rfl rfl (by exact opr_call rfl rfl Try.call58 rfl (disk_frame (at_no s k hs e e2) _ ⟨rfl, rfl, rfl, rfl, trivial⟩ (by simp; rfl))) ?_
      refine al_d rfl rfl rfl (by exact opd_move rfl rfl) ?_
      refine al_d rfl rfl rfl (by exact opd_extract rfl rfl rfl) ?_
      refine al_d rfl rfl rfl (by exact opd_extract rfl rfl rfl) ?_
      refine al_d rfl rfl rfl (by exact x_alloc (id := 7) rfl zo100 rfl rfl) ?_
      refine al_n rfl rfl (by exact (by first | exact x_store_all rfl Try.sizeOf100 rfl rfl rfl rfl rfl rfl rfl rfl | exact x_store rfl Try.sizeOf100 rfl rfl rfl rfl rfl rfl rfl (by simp only [List.length_cons, List.length_nil]; omega) (by simp only [List.drop_succ_cons, List.drop_zero, List.take_succ_cons, List.take_zero, List.take_nil, List.map_cons, List.map_nil, List.set_cons_zero, List.set_cons_succ, List.cons_append, List.nil_append, encQ, armR, dRow]; rfl) (by simp only [List.drop_succ_cons, List.drop_zero, List.take_succ_cons, List.take_zero, List.take_nil, List.map_cons, List.map_nil, List.set_cons_zero, List.set_cons_succ, List.cons_append, List.nil_append, encQ, armR, dRow]; rfl))) ?_
      refine al_d rfl rfl rfl (by exact opd_assign rfl rfl) ?_
      refine al_nil ?_
      refine awp_seq ?_
      refine awp_seq ?_
      refine awp_region ?_
      refine al_d rfl rfl rfl (by exact opd_move rfl rfl) ?_
      refine al_d rfl rfl rfl (by exact opd_neq rfl rfl rfl) ?_
      refine al_nil ?_
      refine awp_cond rfl (fun hc2 => ?_) (fun hc2 => ?_)
      -- cond 2
      · skip
        refine awp_seq ?_
        refine awp_region ?_
        refine al_d rfl rfl rfl (by exact opd_move rfl rfl) ?_
        refine al_d rfl rfl rfl (by exact opd_assign rfl rfl) ?_
        refine al_nil ?_
        refine awp_ret ?_
        -- return
        refine aret1 (H' := diskH s) (by first | exact .inr rfl | exact .inl rfl) rfl (rval_tmp rfl) (Fin.wk (by first | (simp; done) | (simp; rfl)) ⟨⟨_, rfl, rfl⟩, (by first | (simp; done) | (simp; rfl) | exact clo_map _ _ _ | exact clo_brows _ _ | exact disk_clo _ _ rfl rfl rfl | exact arm_clo _ _ | (simp; exact ⟨rfl, rfl⟩) | (simp; exact ⟨rfl, rfl, rfl⟩) | exact arm_clo .never _ | exact arm_clo (.off _ _ _) _ | exact arm_clo (.on _ _ _) _), ⟨_, rfl, rfl⟩, (by first | (simp; done) | (simp; rfl) | exact clo_map _ _ _ | exact clo_brows _ _ | exact disk_clo _ _ rfl rfl rfl | exact arm_clo _ _ | (simp; exact ⟨rfl, rfl⟩) | (simp; exact ⟨rfl, rfl, rfl⟩) | exact arm_clo .never _ | exact arm_clo (.off _ _ _) _ | exact arm_clo (.on _ _ _) _), ⟨_, rfl, rfl⟩, (by first | (simp; done) | (simp; rfl) | exact clo_map _ _ _ | exact clo_brows _ _ | exact disk_clo _ _ rfl rfl rfl | exact arm_clo _ _ | (simp; exact ⟨rfl, rfl⟩) | (simp; exact ⟨rfl, rfl, rfl⟩) | exact arm_clo .never _ | exact arm_clo (.off _ _ _) _ | exact arm_clo (.on _ _ _) _), ⟨_, rfl, rfl⟩, (by first | (simp; done) | (simp; rfl) | exact clo_map _ _ _ | exact clo_brows _ _ | exact disk_clo _ _ rfl rfl rfl | exact arm_clo _ _ | (simp; exact ⟨rfl, rfl⟩) | (simp; exact ⟨rfl, rfl, rfl⟩) | exact arm_clo .never _ | exact arm_clo (.off _ _ _) _ | exact arm_clo (.on _ _ _) _), trivial⟩ ⟨rfl, rfl, rfl, rfl, trivial⟩) ?_
        exact ⟨by simp [dWriteE, e, e2], by simp [dWrite, e, e2]⟩
      · cases hc2
    · have e2 : secOk s (n : Int) = true := by rw [secOk_nat]; simpa using hn
      refine awp_seq ?_
      refine awp_region ?_
      refine al_d rfl rfl rfl (by exact opd_assign rfl rfl) ?_
      refine al_nil ?_
      refine awp_seq ?_
      refine awp_region ?_
      refine al_d rfl rfl rfl (by exact opd_move rfl rfl) ?_
      refine al_d rfl rfl rfl (by exact opd_move rfl rfl) ?_
      refine al_d rfl rfl rfl (by exact opr_call rfl rfl Try.call58 rfl (disk_frame (at_yes s n hs e hn) _ ⟨rfl, rfl, rfl, rfl, trivial⟩ (by simp; rfl))) ?_
      refine al_d rfl rfl rfl (by exact opd_move rfl rfl) ?_
      refine al_d rfl rfl rfl (by exact opd_extract rfl rfl rfl) ?_
      refine al_d rfl rfl rfl (by exact opd_extract rfl rfl rfl) ?_
      refine al_d rfl rfl rfl (by exact x_alloc (id := 7) rfl zo100 rfl rfl) ?_
      refine al_n rfl rfl (by exact (by first | exact x_store_all rfl Try.sizeOf100 rfl rfl rfl rfl rfl rfl rfl rfl | exact x_store rfl Try.sizeOf100 rfl rfl rfl rfl rfl rfl rfl (by simp only [List.length_cons, List.length_nil]; omega) (by simp only [List.drop_succ_cons, List.drop_zero, List.take_succ_cons, List.take_zero, List.take_nil, List.map_cons, List.map_nil, List.set_cons_zero, List.set_cons_succ, List.cons_append, List.nil_append, encQ, armR, dRow]; rfl) (by simp only [List.drop_succ_cons, List.drop_zero, List.take_succ_cons, List.take_zero, List.take_nil, List.map_cons, List.map_nil, List.set_cons_zero, List.set_cons_succ, List.cons_append, List.nil_append, encQ, armR, dRow]; rfl))) ?_
      refine al_d rfl rfl rfl (by exact opd_assign rfl rfl) ?_
      refine al_nil ?_
      refine awp_seq ?_
      refine awp_seq ?_
      refine awp_region ?_
      refine al_d rfl rfl rfl (by exact opd_move rfl rfl) ?_
      refine al_d rfl rfl rfl (by exact opd_neq rfl rfl rfl) ?_
      refine al_nil ?_
      refine awp_cond rfl (fun hc3 => ?_) (fun hc3 => ?_)
      -- cond 3
      · cases hc3
      · skip
        refine awp_skip ?_
        refine awp_seq ?_
        refine awp_seq ?_
        refine awp_region ?_
        refine al_d rfl rfl rfl (by exact opd_move rfl rfl) ?_
        refine al_d rfl rfl rfl (by exact opd_len_str rfl Try.underlying9 rfl) ?_
        refine al_d rfl rfl rfl (by exact opd_neq rfl rfl rfl) ?_
        refine al_nil ?_
        refine awp_cond rfl (fun hc4 => ?_) (fun hc4 => ?_)
        -- cond 4
        · have ht : ¬ t.size = 64 := by
            have : (!decide ((t.size : Int) = 64)) = true := hc4
            simp at this; omega
          refine awp_seq ?_
          refine awp_region ?_
          refine al_d rfl rfl rfl (by exact opd_assign rfl rfl) ?_
          refine al_nil ?_
          refine awp_ret ?_
          -- return
          refine aret1 (H' := diskH s) (by first | exact .inr rfl | exact .inl rfl) rfl (rval_tmp rfl) (Fin.wk (by first | (simp; done) | (simp; rfl)) ⟨⟨_, rfl, rfl⟩, (by first | (simp; done) | (simp; rfl) | exact clo_map _ _ _ | exact clo_brows _ _ | exact disk_clo _ _ rfl rfl rfl | exact arm_clo _ _ | (simp; exact ⟨rfl, rfl⟩) | (simp; exact ⟨rfl, rfl, rfl⟩) | exact arm_clo .never _ | exact arm_clo (.off _ _ _) _ | exact arm_clo (.on _ _ _) _), ⟨_, rfl, rfl⟩, (by first | (simp; done) | (simp; rfl) | exact clo_map _ _ _ | exact clo_brows _ _ | exact disk_clo _ _ rfl rfl rfl | exact arm_clo _ _ | (simp; exact ⟨rfl, rfl⟩) | (simp; exact ⟨rfl, rfl, rfl⟩) | exact arm_clo .never _ | exact arm_clo (.off _ _ _) _ | exact arm_clo (.on _ _ _) _), ⟨_, rfl, rfl⟩, (by first | (simp; done) | (simp; rfl) | exact clo_map _ _ _ | exact clo_brows _ _ | exact disk_clo _ _ rfl rfl rfl | exact arm_clo _ _ | (simp; exact ⟨rfl, rfl⟩) | (simp; exact ⟨rfl, rfl, rfl⟩) | exact arm_clo .never _ | exact arm_clo (.off _ _ _) _ | exact arm_clo (.on _ _ _) _), ⟨_, rfl, rfl⟩, (by first | (simp; done) | (simp; rfl) | exact clo_map _ _ _ | exact clo_brows _ _ | exact disk_clo _ _ rfl rfl rfl | exact arm_clo _ _ | (simp; exact ⟨rfl, rfl⟩) | (simp; exact ⟨rfl, rfl, rfl⟩) | exact arm_clo .never _ | exact arm_clo (.off _ _ _) _ | exact arm_clo (.on _ _ _) _), trivial⟩ ⟨rfl, rfl, rfl, rfl, trivial⟩) ?_
          exact ⟨by simp [dWriteE, e, e2, ht], by simp [dWrite, e, e2, ht]⟩
        · have ht : t.size = 64 := by
            have : (!decide ((t.size : Int) = 64)) = false := hc4
            simp at this; omega
          have hw := wState_ok hs hn ht hq
          have hfin : dWrite s n t = dCount (wState s n t) := by simp [dWrite, e, e2, ht]
          have hfe : dWriteE s n t = dCountE (wState s n t) := by simp [dWriteE, e, e2, ht]
          refine awp_skip ?_
          refine awp_seq ?_
          refine awp_drawc follows ?_
          refine dc_cons (r := ⟨_, some [1000], []⟩) (DStep.plain rfl (fun H1 hH => by exact opd_move rfl rfl)) rfl ?_
          refine dc_cons (r := ⟨_, some [1000], []⟩) (DStep.plain rfl (fun H1 hH => by exact opd_move rfl rfl)) rfl ?_
          refine dc_cons (r := ⟨_, some [1000], []⟩) (DStep.plain rfl (fun H1 hH => by exact (by first | exact opd_nilCheck_ref rfl rfl ((hH _ rfl).trans rfl) rfl | exact opd_nilCheck_fn rfl rfl))) rfl ?_
          refine dc_cons (r := ⟨_, some [1000], []⟩) (DStep.plain rfl (fun H1 hH => by exact (by first | exact opd_field_ref rfl fo94_1 rfl ((hH _ rfl).trans rfl) rfl rfl | exact opd_field_pad rfl fo94_1 rfl rfl))) rfl ?_
          refine dc_cons (r := ⟨_, some [1000], []⟩) (DStep.plain rfl (fun H1 hH => by exact (by first | exact opd_load1_ref rfl Try.isAgg91 rfl ((hH _ rfl).trans rfl) rfl rfl rfl | exact opd_load1_pad rfl Try.isAgg91 rfl (by first | omega | assumption) rfl))) rfl ?_
          refine dc_cons (r := ⟨_, some [7], []⟩) (DStep.plain rfl (fun H1 hH => by exact (by first | exact opd_loadn_ref rfl Try.isAgg100 Try.sizeOf100 rfl ((hH _ rfl).trans rfl) rfl rfl (by simp only [List.drop_succ_cons, List.drop_zero, List.take_succ_cons, List.take_zero, List.take_nil, List.map_cons, List.map_nil, List.set_cons_zero, List.set_cons_succ, List.cons_append, List.nil_append, encQ, armR, dRow]; rfl) rfl | exact opd_loadn_pad rfl Try.isAgg100 Try.sizeOf100 rfl (by first | omega | assumption) (by simp only [List.drop_succ_cons, List.drop_zero, List.take_succ_cons, List.take_zero, List.take_nil, List.map_cons, List.map_nil, List.set_cons_zero, List.set_cons_succ, List.cons_append, List.nil_append, encQ, armR, dRow]; rfl) rfl))) rfl ?_
          refine dc_cons (r := ⟨_, some [], []⟩) (DStep.plain rfl (fun H1 hH => by exact opd_move rfl rfl)) rfl ?_
          refine dc_cons (r := ⟨_, some [], []⟩) (DStep.plain rfl (fun H1 hH => by exact x_build rfl bo104 rfl rfl)) rfl ?_
          refine dc_cons (r := ⟨_, some [], []⟩) (DStep.plain rfl (fun H1 hH => by exact x_buildSlice [encQ (n, t)] rfl so91 rfl rfl rfl rfl rfl (by simp [encQ]))) rfl ?_
          refine dc_cons (r := ⟨_, some [1002], [_]⟩) (DStep.plain rfl (fun H1 hH => by exact (by first | exact x_append rfl so91 ei104 rfl ((hH _ rfl).trans rfl) rfl rfl rfl (List.length_map _) rfl (by simp [encQ]) (rfl : _ = 1) (by omega) (dq_len s (n, t)) (List.map_append (l₂ := [(n, t)])).symm | exact x_append_osl rfl so91 ei104 rfl ((hH _ rfl).trans rfl) rfl rfl rfl (List.length_map _) rfl ((hH _ rfl).trans rfl) rfl rfl (by simp [encQ]) (rfl : _ = 1) (by omega) (dq_len s (n, t)) (List.map_append (l₂ := [(n, t)])).symm))) rfl ?_
          refine dc_cons (r := ⟨_, some [1000], []⟩) (DStep.plain rfl (fun H1 hH => by exact (by first | exact opd_nilCheck_ref rfl rfl ((hH _ rfl).trans rfl) rfl | exact opd_nilCheck_fn rfl rfl))) rfl ?_
          refine dc_cons (r := ⟨_, some [1000], []⟩) (DStep.plain rfl (fun H1 hH => by exact (by first | exact opd_field_ref rfl fo94_1 rfl ((hH _ rfl).trans rfl) rfl rfl | exact opd_field_pad rfl fo94_1 rfl rfl))) rfl ?_
          refine dc_cons (r := ⟨_, some [1000, 1002], [_]⟩) (DStep.plain rfl (fun H1 hH => by exact (by first | exact x_store_all rfl Try.sizeOf91 rfl rfl rfl rfl ((hH _ rfl).trans rfl) rfl rfl rfl | exact x_store1 rfl Try.sizeOf91 rfl rfl rfl ((hH _ rfl).trans rfl) rfl rfl (by simp only [List.length_cons, List.length_nil]; omega) (by simp only [List.drop_succ_cons, List.drop_zero, List.take_succ_cons, List.take_zero, List.take_nil, List.map_cons, List.map_nil, List.set_cons_zero, List.set_cons_succ, List.cons_append, List.nil_append, encQ, armR, dRow]; rfl) (by simp only [List.drop_succ_cons, List.drop_zero, List.take_succ_cons, List.take_zero, List.take_nil, List.map_cons, List.map_nil, List.set_cons_zero, List.set_cons_succ, List.cons_append, List.nil_append, encQ, armR, dRow]; rfl)))) rfl ?_
          refine dc_nil ⟨by kernel_rfl, ?_⟩
          refine awp_seq ?_
          refine awp_region ?_
          refine al_d rfl rfl rfl (by exact opd_move rfl rfl) ?_
          refine al_d rfl rfl rfl (by exact opr_call rfl rfl Try.call59 rfl (disk_frame (count_c (wState s n t) hw (fun a w b h => ha a w b h)) _ ⟨rfl, rfl, rfl, rfl, trivial⟩ (by simp; rfl))) ?_
          refine al_d rfl rfl rfl (by exact opd_assign rfl rfl) ?_
          refine al_nil ?_
          refine awp_ret ?_
          -- return
          refine aret1 (H' := diskH (dCount (wState s n t))) (by first | exact .inr rfl | exact .inl rfl) rfl (rval_tmp rfl) (Fin.wk (by first | (simp; done) | (simp; rfl)) ⟨⟨_, rfl, rfl⟩, (by first | (simp; done) | (simp; rfl) | exact clo_map _ _ _ | exact clo_brows _ _ | exact disk_clo _ _ rfl rfl rfl | exact arm_clo _ _ | (simp; exact ⟨rfl, rfl⟩) | (simp; exact ⟨rfl, rfl, rfl⟩) | exact arm_clo .never _ | exact arm_clo (.off _ _ _) _ | exact arm_clo (.on _ _ _) _), ⟨_, rfl, rfl⟩, (by first | (simp; done) | (simp; rfl) | exact clo_map _ _ _ | exact clo_brows _ _ | exact disk_clo _ _ rfl rfl rfl | exact arm_clo _ _ | (simp; exact ⟨rfl, rfl⟩) | (simp; exact ⟨rfl, rfl, rfl⟩) | exact arm_clo .never _ | exact arm_clo (.off _ _ _) _ | exact arm_clo (.on _ _ _) _), ⟨_, rfl, rfl⟩, (by first | (simp; done) | (simp; rfl) | exact clo_map _ _ _ | exact clo_brows _ _ | exact disk_clo _ _ rfl rfl rfl | exact arm_clo _ _ | (simp; exact ⟨rfl, rfl⟩) | (simp; exact ⟨rfl, rfl, rfl⟩) | exact arm_clo .never _ | exact arm_clo (.off _ _ _) _ | exact arm_clo (.on _ _ _) _), ⟨_, rfl, rfl⟩, (by first | (simp; done) | (simp; rfl) | exact clo_map _ _ _ | exact clo_brows _ _ | exact disk_clo _ _ rfl rfl rfl | exact arm_clo _ _ | (simp; exact ⟨rfl, rfl⟩) | (simp; exact ⟨rfl, rfl, rfl⟩) | exact arm_clo .never _ | exact arm_clo (.off _ _ _) _ | exact arm_clo (.on _ _ _) _), trivial⟩ ⟨rfl, rfl, rfl, rfl, trivial⟩) ?_
          exact ⟨by rw [hfe], by rw [hfin]⟩
end Go.Proofs.Ytljocbkebhgkoaa
