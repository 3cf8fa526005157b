/-
  THE REFERENCE DISK, contracts: count, Write, Read, Sync, Start, Arm. Conditions: a disk's state as DOk tells.
-/
import Derived.Test.YtljocbkebhgkoaaR1
set_option linter.unusedVariables false
set_option linter.unusedSimpArgs false
set_option maxRecDepth 100000
namespace Go.Proofs.Ytljocbkebhgkoaa
open Go.Abs

def armPos (s : DSt) : Prop := ∀ a w b, s.arm = .on a w b → 0 ≤ a
def xCount (s : DSt) (x : RX) : RX := match s.arm with
  | .on a _ _ => if 0 < a then x else xFail s x
  | _ => x
theorem rcount_c (s : DSt) (x : RX) (hs : DOk s) (ha : armLt s) (hp : armPos s) :
    ACalls Try.prog 74 [.ref 1100 0 0 0] (refH s x) (fun r H' => r = iv (dCountE s) ∧ H' = refH (dCount s) (xCount s x)) := by
  obtain ⟨cells, q, off, arm, gq, ga⟩ := s
  cases arm with
  | never =>
    refine ACalls.body Try.func74 rfl Try.ntmps74 (Nat.le_of_ble_eq_true rfl) ?_
    refine awp_seq ?_
    refine awp_region ?_
    refine al_d rfl rfl rfl (by exact opd_assign rfl rfl) ?_
    refine al_nil ?_
    refine awp_seq ?_
    refine awp_seq ?_
    refine awp_region ?_
    refine al_d rfl rfl rfl (by exact opd_move rfl rfl) ?_
    refine al_d rfl rfl rfl (by exact (by first | exact opd_nilCheck_ref rfl rfl rfl rfl | exact opd_nilCheck_fn rfl rfl)) ?_
    refine al_d rfl rfl rfl (by exact (by first | exact opd_field_ref rfl fo97_3 rfl rfl rfl rfl | exact opd_field_pad rfl fo97_3 rfl rfl)) ?_
    refine al_d rfl rfl rfl (by exact (by first | exact opd_load1_ref rfl Try.isAgg4 rfl rfl rfl rfl rfl | exact opd_load1_pad rfl Try.isAgg4 rfl (by first | omega | assumption) rfl)) ?_
    refine al_d rfl rfl rfl (by exact opd_not rfl rfl) ?_
    refine al_nil ?_
    refine awp_cond rfl (fun hc1 => ?_) (fun hc1 => ?_)
    -- cond 1
    · skip
      refine awp_seq ?_
      refine awp_region ?_
      refine al_d rfl rfl rfl (by exact opd_assign rfl rfl) ?_
      refine al_nil ?_
      refine awp_ret ?_
      -- return
      refine aret1 (H' := refH ⟨cells, q, off, .never, gq, ga⟩ x) (by first | exact .inr rfl | exact .inl rfl) rfl (rval_tmp rfl) (Fin.wk (by first | (simp; done) | (simp; rfl)) ⟨⟨_, rfl, rfl⟩, (by first | (simp; done) | (simp; rfl) | exact clo_map _ _ _ | exact ref_clo _ _ _ rfl rfl | (simp; exact ⟨rfl, rfl⟩) | (simp; exact ⟨rfl, rfl, rfl⟩)), ⟨_, rfl, rfl⟩, (by first | (simp; done) | (simp; rfl) | exact clo_map _ _ _ | exact ref_clo _ _ _ rfl rfl | (simp; exact ⟨rfl, rfl⟩) | (simp; exact ⟨rfl, rfl, rfl⟩)), ⟨_, rfl, rfl⟩, (by first | (simp; done) | (simp; rfl) | exact clo_map _ _ _ | exact ref_clo _ _ _ rfl rfl | (simp; exact ⟨rfl, rfl⟩) | (simp; exact ⟨rfl, rfl, rfl⟩)), trivial⟩ ⟨rfl, rfl, rfl, trivial⟩) ?_
      exact ⟨rfl, rfl⟩
    · skip
      (first | (cases hc1; done) | (revert hc1; simp; done) | (revert hc1; simp_all; done) | (revert hc1; simp_all; omega))
  | off a w b =>
    refine ACalls.body Try.func74 rfl Try.ntmps74 (Nat.le_of_ble_eq_true rfl) ?_
    refine awp_seq ?_
    refine awp_region ?_
    refine al_d rfl rfl rfl (by exact opd_assign rfl rfl) ?_
    refine al_nil ?_
    refine awp_seq ?_
    refine awp_seq ?_
    refine awp_region ?_
    refine al_d rfl rfl rfl (by exact opd_move rfl rfl) ?_
    refine al_d rfl rfl rfl (by exact (by first | exact opd_nilCheck_ref rfl rfl rfl rfl | exact opd_nilCheck_fn rfl rfl)) ?_
    refine al_d rfl rfl rfl (by exact (by first | exact opd_field_ref rfl fo97_3 rfl rfl rfl rfl | exact opd_field_pad rfl fo97_3 rfl rfl)) ?_
    refine al_d rfl rfl rfl (by exact (by first | exact opd_load1_ref rfl Try.isAgg4 rfl rfl rfl rfl rfl | exact opd_load1_pad rfl Try.isAgg4 rfl (by first | omega | assumption) rfl)) ?_
    refine al_d rfl rfl rfl (by exact opd_not rfl rfl) ?_
    refine al_nil ?_
    refine awp_cond rfl (fun hc1 => ?_) (fun hc1 => ?_)
    -- cond 1
    · skip
      refine awp_seq ?_
      refine awp_region ?_
      refine al_d rfl rfl rfl (by exact opd_assign rfl rfl) ?_
      refine al_nil ?_
      refine awp_ret ?_
      -- return
      refine aret1 (H' := refH ⟨cells, q, off, .off a w b, gq, ga⟩ x) (by first | exact .inr rfl | exact .inl rfl) rfl (rval_tmp rfl) (Fin.wk (by first | (simp; done) | (simp; rfl)) ⟨⟨_, rfl, rfl⟩, (by first | (simp; done) | (simp; rfl) | exact clo_map _ _ _ | exact ref_clo _ _ _ rfl rfl | (simp; exact ⟨rfl, rfl⟩) | (simp; exact ⟨rfl, rfl, rfl⟩)), ⟨_, rfl, rfl⟩, (by first | (simp; done) | (simp; rfl) | exact clo_map _ _ _ | exact ref_clo _ _ _ rfl rfl | (simp; exact ⟨rfl, rfl⟩) | (simp; exact ⟨rfl, rfl, rfl⟩)), ⟨_, rfl, rfl⟩, (by first | (simp; done) | (simp; rfl) | exact clo_map _ _ _ | exact ref_clo _ _ _ rfl rfl | (simp; exact ⟨rfl, rfl⟩) | (simp; exact ⟨rfl, rfl, rfl⟩)), trivial⟩ ⟨rfl, rfl, rfl, trivial⟩) ?_
      exact ⟨rfl, rfl⟩
    · skip
      (first | (cases hc1; done) | (revert hc1; simp; done) | (revert hc1; simp_all; done) | (revert hc1; simp_all; omega))
  | on a w b =>
    have ha' := ha a w b rfl
    have hp' := hp a w b rfl
    refine ACalls.body Try.func74 rfl Try.ntmps74 (Nat.le_of_ble_eq_true rfl) ?_
    refine awp_seq ?_
    refine awp_region ?_
    refine al_d rfl rfl rfl (by exact opd_assign rfl rfl) ?_
    refine al_nil ?_
    refine awp_seq ?_
    refine awp_seq ?_
    refine awp_region ?_
    refine al_d rfl rfl rfl (by exact opd_move rfl rfl) ?_
    refine al_d rfl rfl rfl (by exact (by first | exact opd_nilCheck_ref rfl rfl rfl rfl | exact opd_nilCheck_fn rfl rfl)) ?_
    refine al_d rfl rfl rfl (by exact (by first | exact opd_field_ref rfl fo97_3 rfl rfl rfl rfl | exact opd_field_pad rfl fo97_3 rfl rfl)) ?_
    refine al_d rfl rfl rfl (by exact (by first | exact opd_load1_ref rfl Try.isAgg4 rfl rfl rfl rfl rfl | exact opd_load1_pad rfl Try.isAgg4 rfl (by first | omega | assumption) rfl)) ?_
    refine al_d rfl rfl rfl (by exact opd_not rfl rfl) ?_
    refine al_nil ?_
    refine awp_cond rfl (fun hc1 => ?_) (fun hc1 => ?_)
    -- cond 1
    · skip
      (first | (cases hc1; done) | (revert hc1; simp; done) | (revert hc1; simp_all; done) | (revert hc1; simp_all; omega))
    · skip
      refine awp_skip ?_
      refine awp_seq ?_
      refine awp_seq ?_
      refine awp_region ?_
      refine al_d rfl rfl rfl (by exact opd_move rfl rfl) ?_
      refine al_d rfl rfl rfl (by exact (by first | exact opd_nilCheck_ref rfl rfl rfl rfl | exact opd_nilCheck_fn rfl rfl)) ?_
      refine al_d rfl rfl rfl (by exact (by first | exact opd_field_ref rfl fo97_4 rfl rfl rfl rfl | exact opd_field_pad rfl fo97_4 rfl rfl)) ?_
      refine al_d rfl rfl rfl (by exact (by first | exact opd_load1_ref rfl Try.isAgg3 rfl rfl rfl rfl rfl | exact opd_load1_pad rfl Try.isAgg3 rfl (by first | omega | assumption) rfl)) ?_
      refine al_d rfl rfl rfl (by exact opd_eql rfl rfl rfl) ?_
      refine al_nil ?_
      refine awp_cond rfl (fun hc2 => ?_) (fun hc2 => ?_)
      -- cond 2
      · have e0 : a = 0 := of_decide_eq_true hc2
        have h0 : ¬ 0 < a := by omega
        refine awp_seq ?_
        refine awp_drawc follows ?_
        refine dc_cons (r := ⟨_, some [1100], []⟩) (DStep.plain rfl (fun H1 hH => by exact opd_move rfl rfl)) rfl ?_
        refine dc_cons (r := ⟨_, some [1100], []⟩) (DStep.plain rfl (fun H1 hH => by exact opd_move rfl rfl)) rfl ?_
        refine dc_cons (r := ⟨_, some [1100], []⟩) (DStep.plain rfl (fun H1 hH => by exact (by first | exact opd_nilCheck_ref rfl rfl ((hH _ rfl).trans rfl) rfl | exact opd_nilCheck_fn rfl rfl))) rfl ?_
        refine dc_cons (r := ⟨_, some [1100], []⟩) (DStep.plain rfl (fun H1 hH => by exact (by first | exact opd_field_ref rfl fo97_5 rfl ((hH _ rfl).trans rfl) rfl rfl | exact opd_field_pad rfl fo97_5 rfl rfl))) rfl ?_
        refine dc_cons (r := ⟨_, some [1100], []⟩) (DStep.plain rfl (fun H1 hH => by exact (by first | exact opd_load1_ref rfl Try.isAgg3 rfl ((hH _ rfl).trans rfl) rfl rfl rfl | exact opd_load1_pad rfl Try.isAgg3 rfl (by first | omega | assumption) rfl))) rfl ?_
        refine dc_cons (r := ⟨_, some [1100], []⟩) (DStep.plain rfl (fun H1 hH => by exact opd_move rfl rfl)) rfl ?_
        refine dc_cons (r := ⟨_, some [1100], []⟩) (DStep.plain rfl (fun H1 hH => by exact (by first | exact opd_nilCheck_ref rfl rfl ((hH _ rfl).trans rfl) rfl | exact opd_nilCheck_fn rfl rfl))) rfl ?_
        refine dc_cons (r := ⟨_, some [1100], []⟩) (DStep.plain rfl (fun H1 hH => by exact (by first | exact opd_field_ref rfl fo97_6 rfl ((hH _ rfl).trans rfl) rfl rfl | exact opd_field_pad rfl fo97_6 rfl rfl))) rfl ?_
        refine dc_cons (r := ⟨_, some [1100], []⟩) (DStep.plain rfl (fun H1 hH => by exact (by first | exact opd_load1_ref rfl Try.isAgg3 rfl ((hH _ rfl).trans rfl) rfl rfl rfl | exact opd_load1_pad rfl Try.isAgg3 rfl (by first | omega | assumption) rfl))) rfl ?_
        refine dc_cons (r := ⟨_, some [1100, 1101, 1102], _⟩) (DStep.plain rfl (fun H1 hH => by exact opr_call rfl rfl Try.call53 rfl (ref_frame (rfail_c ⟨cells, q, off, .on a w b, gq, ga⟩ x w b hs) _ ⟨(hH 1100 rfl).trans rfl, (hH 1101 rfl).trans rfl, (hH 1102 rfl).trans rfl, trivial⟩ (by simp; rfl)))) rfl ?_
        refine dc_nil ⟨by kernel_rfl, ?_⟩
        refine awp_seq ?_
        refine awp_region ?_
        refine al_d rfl rfl rfl (by exact opd_assign rfl rfl) ?_
        refine al_nil ?_
        refine awp_ret ?_
        -- return
        refine aret1 (H' := refH (dFail ⟨cells, q, off, .on a w b, gq, ga⟩ w b) (xFail ⟨cells, q, off, .on a w b, gq, ga⟩ x)) (by first | exact .inr rfl | exact .inl rfl) rfl (rval_tmp rfl) (Fin.wk (by first | (simp; done) | (simp; rfl)) ⟨⟨_, rfl, rfl⟩, (by first | (simp; done) | (simp; rfl) | exact clo_map _ _ _ | exact ref_clo _ _ _ rfl rfl | (simp; exact ⟨rfl, rfl⟩) | (simp; exact ⟨rfl, rfl, rfl⟩)), ⟨_, rfl, rfl⟩, (by first | (simp; done) | (simp; rfl) | exact clo_map _ _ _ | exact ref_clo _ _ _ rfl rfl | (simp; exact ⟨rfl, rfl⟩) | (simp; exact ⟨rfl, rfl, rfl⟩)), ⟨_, rfl, rfl⟩, (by first | (simp; done) | (simp; rfl) | exact clo_map _ _ _ | exact ref_clo _ _ _ rfl rfl | (simp; exact ⟨rfl, rfl⟩) | (simp; exact ⟨rfl, rfl, rfl⟩)), trivial⟩ ⟨rfl, rfl, rfl, trivial⟩) ?_
        exact ⟨by simp [dCountE, h0], by simp only [dCount, xCount, if_neg h0]⟩
      · have e0 : ¬ a = 0 := of_decide_eq_false hc2
        have h0 : 0 < a := by omega
        have hwr : IntKind.i64.wrap (a - 1) = a - 1 := w64 (by omega) (by omega)
        refine awp_skip ?_
        refine awp_seq ?_
        refine awp_region ?_
        refine al_d rfl rfl rfl (by exact opd_move rfl rfl) ?_
        refine al_d rfl rfl rfl (by exact (by first | exact opd_nilCheck_ref rfl rfl rfl rfl | exact opd_nilCheck_fn rfl rfl)) ?_
        refine al_d rfl rfl rfl (by exact (by first | exact opd_field_ref rfl fo97_4 rfl rfl rfl rfl | exact opd_field_pad rfl fo97_4 rfl rfl)) ?_
        refine al_d rfl rfl rfl (by exact (by first | exact opd_load1_ref rfl Try.isAgg3 rfl rfl rfl rfl rfl | exact opd_load1_pad rfl Try.isAgg3 rfl (by first | omega | assumption) rfl)) ?_
        refine al_d rfl rfl rfl (by exact opd_sub rfl rfl rfl hwr) ?_
        refine al_d rfl rfl rfl (by exact (by first | exact opd_nilCheck_ref rfl rfl rfl rfl | exact opd_nilCheck_fn rfl rfl)) ?_
        refine al_d rfl rfl rfl (by exact (by first | exact opd_field_ref rfl fo97_4 rfl rfl rfl rfl | exact opd_field_pad rfl fo97_4 rfl rfl)) ?_
        refine al_n rfl rfl (by exact (by first | exact x_store_all rfl Try.sizeOf3 rfl rfl rfl rfl rfl rfl rfl rfl | exact x_store1 rfl Try.sizeOf3 rfl rfl rfl rfl rfl rfl (by simp only [List.length_cons, List.length_nil]; omega) (by simp only [List.drop_succ_cons, List.drop_zero, List.take_succ_cons, List.take_zero, List.take_nil, List.map_cons, List.map_nil, List.set_cons_zero, List.set_cons_succ, List.cons_append, List.nil_append, encRQ, rRow]; rfl) (by simp only [List.drop_succ_cons, List.drop_zero, List.take_succ_cons, List.take_zero, List.take_nil, List.map_cons, List.map_nil, List.set_cons_zero, List.set_cons_succ, List.cons_append, List.nil_append, encRQ, rRow]; rfl))) ?_
        refine al_nil ?_
        refine awp_seq ?_
        refine awp_region ?_
        refine al_d rfl rfl rfl (by exact opd_assign rfl rfl) ?_
        refine al_nil ?_
        refine awp_ret ?_
        -- return
        refine aret1 (H' := refH ⟨cells, q, off, .on (a - 1) w b, gq, ga⟩ x) (by first | exact .inr rfl | exact .inl rfl) rfl (rval_tmp rfl) (Fin.wk (by first | (simp; done) | (simp; rfl)) ⟨⟨_, rfl, rfl⟩, (by first | (simp; done) | (simp; rfl) | exact clo_map _ _ _ | exact ref_clo _ _ _ rfl rfl | (simp; exact ⟨rfl, rfl⟩) | (simp; exact ⟨rfl, rfl, rfl⟩)), ⟨_, rfl, rfl⟩, (by first | (simp; done) | (simp; rfl) | exact clo_map _ _ _ | exact ref_clo _ _ _ rfl rfl | (simp; exact ⟨rfl, rfl⟩) | (simp; exact ⟨rfl, rfl, rfl⟩)), ⟨_, rfl, rfl⟩, (by first | (simp; done) | (simp; rfl) | exact clo_map _ _ _ | exact ref_clo _ _ _ rfl rfl | (simp; exact ⟨rfl, rfl⟩) | (simp; exact ⟨rfl, rfl, rfl⟩)), trivial⟩ ⟨rfl, rfl, rfl, trivial⟩) ?_
        exact ⟨by simp [dCountE, h0], by simp only [dCount, xCount, if_pos h0]⟩
def xW (x : RX) : RX := { x with gq := x.gq + 1 }
def xWrite (s : DSt) (x : RX) (k : Int) (t : ByteArray) : RX := if s.off then x else if wGood s k t then xCount (wState s k.toNat t) (xW x) else x
theorem on_yes' {s : DSt} (h : s.off = false) {k : Nat} {t : ByteArray} (hg : wGood s (k : Int) t = true) : dWrite s k t = dCount (wState s k t) ∧ dWriteE s k t = dCountE (wState s k t) := by
  rw [wGood] at hg
  constructor
  · simp only [dWrite, h, hg, Bool.false_eq_true, if_false, if_true, Int.toNat_natCast]
  · simp only [dWriteE, h, hg, Bool.false_eq_true, if_false, if_true, Int.toNat_natCast]
theorem rwrite_c (s : DSt) (x : RX) (k : Int) (t : ByteArray) (hs : DOk s) (ha : armLt s) (hp : armPos s) (hq : s.q.length < 1048576) :
    ACalls Try.prog 51 [.ref 1100 0 0 0, iv k, sv t] (refH s x) (fun r H' => r = iv (dWriteE s k t) ∧ H' = refH (dWrite s k t) (xWrite s x k t)) := by
  refine ACalls.body Try.func51 rfl Try.ntmps51 (Nat.le_of_ble_eq_true rfl) ?_
  refine awp_seq ?_
  refine awp_region ?_
  refine al_d rfl rfl rfl (by exact opd_assign rfl rfl) ?_
  refine al_nil ?_
  refine awp_seq ?_
  refine awp_seq ?_
  refine awp_region ?_
  refine al_d rfl rfl rfl (by exact opd_move rfl rfl) ?_
  refine al_d rfl rfl rfl (by exact (by first | exact opd_peq_ref rfl Try.underlying49 rfl rfl rfl rfl | exact opd_peq_nil rfl Try.underlying49 rfl rfl)) ?_
  refine al_nil ?_
  refine awp_cond rfl (fun hc1 => ?_) (fun hc1 => ?_)
  -- cond 1
  · skip
    (first | (cases hc1; done) | (revert hc1; simp; done) | (revert hc1; simp_all; done) | (revert hc1; simp_all; omega))
  · skip
    refine awp_skip ?_
    refine awp_seq ?_
    refine awp_seq ?_
    refine awp_region ?_
    refine al_d rfl rfl rfl (by exact opd_move rfl rfl) ?_
    refine al_d rfl rfl rfl (by exact (by first | exact opd_nilCheck_ref rfl rfl rfl rfl | exact opd_nilCheck_fn rfl rfl)) ?_
    refine al_d rfl rfl rfl (by exact (by first | exact opd_field_ref rfl fo97_2 rfl rfl rfl rfl | exact opd_field_pad rfl fo97_2 rfl rfl)) ?_
    refine al_d rfl rfl rfl (by exact (by first | exact opd_load1_ref rfl Try.isAgg4 rfl rfl rfl rfl rfl | exact opd_load1_pad rfl Try.isAgg4 rfl (by first | omega | assumption) rfl)) ?_
    refine al_d rfl rfl rfl (by exact opd_not rfl rfl) ?_
    refine al_nil ?_
    refine awp_cond rfl (fun hc2 => ?_) (fun hc2 => ?_)
    -- cond 2
    · have e : s.off = true := by simpa using hc2
      refine awp_seq ?_
      refine awp_region ?_
      refine al_d rfl rfl rfl (by exact opd_assign rfl rfl) ?_
      refine al_nil ?_
      refine awp_ret ?_
      -- return
      refine aret1 (H' := refH s x) (by first | exact .inr rfl | exact .inl rfl) rfl (rval_tmp rfl) (Fin.wk (by first | (simp; done) | (simp; rfl)) ⟨⟨_, rfl, rfl⟩, (by first | (simp; done) | (simp; rfl) | exact clo_map _ _ _ | exact ref_clo _ _ _ rfl rfl | (simp; exact ⟨rfl, rfl⟩) | (simp; exact ⟨rfl, rfl, rfl⟩)), ⟨_, rfl, rfl⟩, (by first | (simp; done) | (simp; rfl) | exact clo_map _ _ _ | exact ref_clo _ _ _ rfl rfl | (simp; exact ⟨rfl, rfl⟩) | (simp; exact ⟨rfl, rfl, rfl⟩)), ⟨_, rfl, rfl⟩, (by first | (simp; done) | (simp; rfl) | exact clo_map _ _ _ | exact ref_clo _ _ _ rfl rfl | (simp; exact ⟨rfl, rfl⟩) | (simp; exact ⟨rfl, rfl, rfl⟩)), trivial⟩ ⟨rfl, rfl, rfl, trivial⟩) ?_
      exact ⟨by simp [dWriteE, e], by simp [dWrite, xWrite, e]⟩
    · have e : s.off = false := by simpa using hc2
      have bad : wGood s k t = false → dWrite s k t = s ∧ dWriteE s k t = 1 ∧ xWrite s x k t = x := fun hg => by
        rw [wGood] at hg
        exact ⟨by simp [dWrite, e, hg], by simp [dWriteE, e, hg], by simp [xWrite, e, wGood, hg]⟩
      by_cases q1 : k < 0
      · have n1 : decide (k < 0) = true := decide_eq_true q1
        have hg : wGood s k t = false := by rw [wGood, secOk, decide_eq_false (by omega)]; rfl
        obtain ⟨g1, g2, g3⟩ := bad hg
        refine awp_skip ?_
        refine awp_seq ?_
        refine awp_seq ?_
        refine awp_region ?_
        refine al_d rfl rfl rfl (by exact opd_move rfl rfl) ?_
        refine al_d rfl rfl rfl (by exact opd_lss rfl rfl rfl) ?_
        refine al_d rfl rfl rfl (by exact opd_move rfl rfl) ?_
        refine al_off rfl rfl rfl (by first | rfl | assumption) rfl ?_
        refine al_off rfl rfl rfl (by first | rfl | assumption) rfl ?_
        refine al_off rfl rfl rfl (by first | rfl | assumption) rfl ?_
        refine al_off rfl rfl rfl (by first | rfl | assumption) rfl ?_
        refine al_off rfl rfl rfl (by first | rfl | assumption) rfl ?_
        refine al_off rfl rfl rfl (by first | rfl | assumption) rfl ?_
        refine al_off rfl rfl rfl (by first | rfl | assumption) rfl ?_
        refine al_d rfl rfl rfl (by exact (by first | exact opd_pick_t rfl rfl rfl | exact opd_pick_f rfl rfl rfl | exact opd_pickt rfl rfl (by assumption) rfl | exact opd_pickf rfl rfl (by assumption) rfl | exact opd_pick rfl rfl rfl)) ?_
        refine al_d rfl rfl rfl (by exact opd_move rfl rfl) ?_
        refine al_off rfl rfl rfl (by first | rfl | assumption) rfl ?_
        refine al_off rfl rfl rfl (by first | rfl | assumption) rfl ?_
        refine al_off rfl rfl rfl (by first | rfl | assumption) rfl ?_
        refine al_d rfl rfl rfl (by exact (by first | exact opd_pick_t rfl rfl rfl | exact opd_pick_f rfl rfl rfl | exact opd_pickt rfl rfl (by assumption) rfl | exact opd_pickf rfl rfl (by assumption) rfl | exact opd_pick rfl rfl rfl)) ?_
        refine al_nil ?_
        refine awp_cond rfl (fun hc3 => ?_) (fun hc3 => ?_)
        -- cond 3
        · skip
          refine awp_seq ?_
          refine awp_region ?_
          refine al_d rfl rfl rfl (by exact opd_assign rfl rfl) ?_
          refine al_nil ?_
          refine awp_ret ?_
          -- return
          refine aret1 (H' := refH s x) (by first | exact .inr rfl | exact .inl rfl) rfl (rval_tmp rfl) (Fin.wk (by first | (simp; done) | (simp; rfl)) ⟨⟨_, rfl, rfl⟩, (by first | (simp; done) | (simp; rfl) | exact clo_map _ _ _ | exact ref_clo _ _ _ rfl rfl | (simp; exact ⟨rfl, rfl⟩) | (simp; exact ⟨rfl, rfl, rfl⟩)), ⟨_, rfl, rfl⟩, (by first | (simp; done) | (simp; rfl) | exact clo_map _ _ _ | exact ref_clo _ _ _ rfl rfl | (simp; exact ⟨rfl, rfl⟩) | (simp; exact ⟨rfl, rfl, rfl⟩)), ⟨_, rfl, rfl⟩, (by first | (simp; done) | (simp; rfl) | exact clo_map _ _ _ | exact ref_clo _ _ _ rfl rfl | (simp; exact ⟨rfl, rfl⟩) | (simp; exact ⟨rfl, rfl, rfl⟩)), trivial⟩ ⟨rfl, rfl, rfl, trivial⟩) ?_
          exact ⟨by rw [g2], by rw [g1, g3]⟩
        · skip
          (first | (cases hc3; done) | (revert hc3; simp; done) | (revert hc3; simp_all; done) | (revert hc3; simp_all; omega))
      · have n1 : decide (k < 0) = false := decide_eq_false q1
        by_cases q2 : (s.cells.length : Int) ≤ k
        · have n2 : decide ((s.cells.length : Int) ≤ k) = true := decide_eq_true q2
          have hg : wGood s k t = false := by rw [wGood, secOk, decide_eq_true (by omega), decide_eq_false (by omega)]; rfl
          obtain ⟨g1, g2, g3⟩ := bad hg
          refine awp_skip ?_
          refine awp_seq ?_
          refine awp_seq ?_
          refine awp_region ?_
          refine al_d rfl rfl rfl (by exact opd_move rfl rfl) ?_
          refine al_d rfl rfl rfl (by exact opd_lss rfl rfl rfl) ?_
          refine al_d rfl rfl rfl (by exact opd_move rfl rfl) ?_
          refine al_ond rfl rfl rfl (by first | rfl | assumption) rfl rfl (by exact opd_move rfl rfl) ?_
          refine al_ond rfl rfl rfl (by first | rfl | assumption) rfl rfl (by exact opd_move rfl rfl) ?_
          refine al_ond rfl rfl rfl (by first | rfl | assumption) rfl rfl (by exact (by first | exact opd_nilCheck_ref rfl rfl rfl rfl | exact opd_nilCheck_fn rfl rfl)) ?_
          refine al_ond rfl rfl rfl (by first | rfl | assumption) rfl rfl (by exact (by first | exact opd_field_ref rfl fo97_0 rfl rfl rfl rfl | exact opd_field_pad rfl fo97_0 rfl rfl)) ?_
          refine al_ond rfl rfl rfl (by first | rfl | assumption) rfl rfl (by exact (by first | exact opd_load1_ref rfl Try.isAgg34 rfl rfl rfl rfl rfl | exact opd_load1_pad rfl Try.isAgg34 rfl (by first | omega | assumption) rfl)) ?_
          refine al_ond rfl rfl rfl (by first | rfl | assumption) rfl rfl (by exact (by first | exact opd_len_sl rfl Try.underlying34 rfl | exact opd_len_osl rfl Try.underlying34 rfl rfl rfl)) ?_
          refine al_ond rfl rfl rfl (by first | rfl | assumption) rfl rfl (by exact opd_geq rfl rfl rfl) ?_
          refine al_d rfl rfl rfl (by exact (by first | exact opd_pick_t rfl rfl rfl | exact opd_pick_f rfl rfl rfl | exact opd_pickt rfl rfl (by assumption) rfl | exact opd_pickf rfl rfl (by assumption) rfl | exact opd_pick rfl rfl rfl)) ?_
          refine al_d rfl rfl rfl (by exact opd_move rfl rfl) ?_
          refine al_off rfl rfl rfl (by first | rfl | assumption) rfl ?_
          refine al_off rfl rfl rfl (by first | rfl | assumption) rfl ?_
          refine al_off rfl rfl rfl (by first | rfl | assumption) rfl ?_
          refine al_d rfl rfl rfl (by exact (by first | exact opd_pick_t rfl rfl rfl | exact opd_pick_f rfl rfl rfl | exact opd_pickt rfl rfl (by assumption) rfl | exact opd_pickf rfl rfl (by assumption) rfl | exact opd_pick rfl rfl rfl)) ?_
          refine al_nil ?_
          refine awp_cond rfl (fun hc4 => ?_) (fun hc4 => ?_)
          -- cond 4
          · skip
            refine awp_seq ?_
            refine awp_region ?_
            refine al_d rfl rfl rfl (by exact opd_assign rfl rfl) ?_
            refine al_nil ?_
            refine awp_ret ?_
            -- return
            refine aret1 (H' := refH s x) (by first | exact .inr rfl | exact .inl rfl) rfl (rval_tmp rfl) (Fin.wk (by first | (simp; done) | (simp; rfl)) ⟨⟨_, rfl, rfl⟩, (by first | (simp; done) | (simp; rfl) | exact clo_map _ _ _ | exact ref_clo _ _ _ rfl rfl | (simp; exact ⟨rfl, rfl⟩) | (simp; exact ⟨rfl, rfl, rfl⟩)), ⟨_, rfl, rfl⟩, (by first | (simp; done) | (simp; rfl) | exact clo_map _ _ _ | exact ref_clo _ _ _ rfl rfl | (simp; exact ⟨rfl, rfl⟩) | (simp; exact ⟨rfl, rfl, rfl⟩)), ⟨_, rfl, rfl⟩, (by first | (simp; done) | (simp; rfl) | exact clo_map _ _ _ | exact ref_clo _ _ _ rfl rfl | (simp; exact ⟨rfl, rfl⟩) | (simp; exact ⟨rfl, rfl, rfl⟩)), trivial⟩ ⟨rfl, rfl, rfl, trivial⟩) ?_
            exact ⟨by rw [g2], by rw [g1, g3]⟩
          · skip
            (first | (cases hc4; done) | (revert hc4; simp; done) | (revert hc4; simp_all; done) | (revert hc4; simp_all; omega))
        · have n2 : decide ((s.cells.length : Int) ≤ k) = false := decide_eq_false q2
          obtain ⟨n, rfl⟩ : ∃ n : Nat, k = (n : Int) := ⟨k.toNat, by omega⟩
          have hn : n < s.cells.length := by omega
          refine awp_skip ?_
          refine awp_seq ?_
          refine awp_seq ?_
          refine awp_region ?_
          refine al_d rfl rfl rfl (by exact opd_move rfl rfl) ?_
          refine al_d rfl rfl rfl (by exact opd_lss rfl rfl rfl) ?_
          refine al_d rfl rfl rfl (by exact opd_move rfl rfl) ?_
          refine al_ond rfl rfl rfl (by first | rfl | assumption) rfl rfl (by exact opd_move rfl rfl) ?_
          refine al_ond rfl rfl rfl (by first | rfl | assumption) rfl rfl (by exact opd_move rfl rfl) ?_
          refine al_ond rfl rfl rfl (by first | rfl | assumption) rfl rfl (by exact (by first | exact opd_nilCheck_ref rfl rfl rfl rfl | exact opd_nilCheck_fn rfl rfl)) ?_
          refine al_ond rfl rfl rfl (by first | rfl | assumption) rfl rfl (by exact (by first | exact opd_field_ref rfl fo97_0 rfl rfl rfl rfl | exact opd_field_pad rfl fo97_0 rfl rfl)) ?_
          refine al_ond rfl rfl rfl (by first | rfl | assumption) rfl rfl (by exact (by first | exact opd_load1_ref rfl Try.isAgg34 rfl rfl rfl rfl rfl | exact opd_load1_pad rfl Try.isAgg34 rfl (by first | omega | assumption) rfl)) ?_
          refine al_ond rfl rfl rfl (by first | rfl | assumption) rfl rfl (by exact (by first | exact opd_len_sl rfl Try.underlying34 rfl | exact opd_len_osl rfl Try.underlying34 rfl rfl rfl)) ?_
          refine al_ond rfl rfl rfl (by first | rfl | assumption) rfl rfl (by exact opd_geq rfl rfl rfl) ?_
          refine al_d rfl rfl rfl (by exact (by first | exact opd_pick_t rfl rfl rfl | exact opd_pick_f rfl rfl rfl | exact opd_pickt rfl rfl (by assumption) rfl | exact opd_pickf rfl rfl (by assumption) rfl | exact opd_pick rfl rfl rfl)) ?_
          refine al_d rfl rfl rfl (by exact opd_move rfl rfl) ?_
          refine al_ond rfl rfl rfl (by first | rfl | assumption) rfl rfl (by exact opd_move rfl rfl) ?_
          refine al_ond rfl rfl rfl (by first | rfl | assumption) rfl rfl (by exact opd_len_str rfl Try.underlying9 rfl) ?_
          refine al_ond rfl rfl rfl (by first | rfl | assumption) rfl rfl (by exact opd_neq rfl rfl rfl) ?_
          refine al_d rfl rfl rfl (by exact (by first | exact opd_pick_t rfl rfl rfl | exact opd_pick_f rfl rfl rfl | exact opd_pickt rfl rfl (by assumption) rfl | exact opd_pickf rfl rfl (by assumption) rfl | exact opd_pick rfl rfl rfl)) ?_
          refine al_nil ?_
          refine awp_cond rfl (fun hc5 => ?_) (fun hc5 => ?_)
          -- cond 5
          · have ht : ¬ t.size = 64 := by
              have h : (!decide ((t.size : Int) = 64)) = true := hc5
              simp at h; omega
            have hg : wGood s n t = false := by rw [wGood, decide_eq_false ht, Bool.and_false]
            obtain ⟨g1, g2, g3⟩ := bad hg
            refine awp_seq ?_
            refine awp_region ?_
            refine al_d rfl rfl rfl (by exact opd_assign rfl rfl) ?_
            refine al_nil ?_
            refine awp_ret ?_
            -- return
            refine aret1 (H' := refH s x) (by first | exact .inr rfl | exact .inl rfl) rfl (rval_tmp rfl) (Fin.wk (by first | (simp; done) | (simp; rfl)) ⟨⟨_, rfl, rfl⟩, (by first | (simp; done) | (simp; rfl) | exact clo_map _ _ _ | exact ref_clo _ _ _ rfl rfl | (simp; exact ⟨rfl, rfl⟩) | (simp; exact ⟨rfl, rfl, rfl⟩)), ⟨_, rfl, rfl⟩, (by first | (simp; done) | (simp; rfl) | exact clo_map _ _ _ | exact ref_clo _ _ _ rfl rfl | (simp; exact ⟨rfl, rfl⟩) | (simp; exact ⟨rfl, rfl, rfl⟩)), ⟨_, rfl, rfl⟩, (by first | (simp; done) | (simp; rfl) | exact clo_map _ _ _ | exact ref_clo _ _ _ rfl rfl | (simp; exact ⟨rfl, rfl⟩) | (simp; exact ⟨rfl, rfl, rfl⟩)), trivial⟩ ⟨rfl, rfl, rfl, trivial⟩) ?_
            exact ⟨by rw [g2], by rw [g1, g3]⟩
          · have ht : t.size = 64 := by
              have h : (!decide ((t.size : Int) = 64)) = false := hc5
              simp at h; omega
            have hg : wGood s n t = true := by rw [wGood, secOk_nat, decide_eq_true hn, decide_eq_true ht]; rfl
            obtain ⟨g1, g2⟩ := on_yes' e hg
            have g3 : xWrite s x n t = xCount (wState s n t) (xW x) := by simp [xWrite, e, hg]
            have hw := wState_ok hs hn ht hq
            refine awp_skip ?_
            refine awp_seq ?_
            refine awp_region ?_
            refine al_d rfl rfl rfl (by exact opd_move rfl rfl) ?_
            refine al_d rfl rfl rfl (by exact opd_move rfl rfl) ?_
            refine al_d rfl rfl rfl (by exact (by first | exact opd_nilCheck_ref rfl rfl rfl rfl | exact opd_nilCheck_fn rfl rfl)) ?_
            refine al_d rfl rfl rfl (by exact (by first | exact opd_field_ref rfl fo97_1 rfl rfl rfl rfl | exact opd_field_pad rfl fo97_1 rfl rfl)) ?_
            refine al_d rfl rfl rfl (by exact (by first | exact opd_load1_ref rfl Try.isAgg95 rfl rfl rfl rfl rfl | exact opd_load1_pad rfl Try.isAgg95 rfl (by first | omega | assumption) rfl)) ?_
            refine al_d rfl rfl rfl (by exact opd_move rfl rfl) ?_
            refine al_d rfl rfl rfl (by exact opd_move rfl rfl) ?_
            refine al_d rfl rfl rfl (by exact x_build rfl bo106 rfl rfl) ?_
            refine al_d rfl rfl rfl (by exact x_buildSlice [encRQ (n, t)] rfl so95 rfl rfl rfl rfl rfl (by simp [encRQ])) ?_
            refine al_d rfl rfl rfl (by exact (by first | exact x_append rfl so95 ei106 rfl rfl rfl rfl rfl (List.length_map _) rfl (by simp [encRQ]) (rfl : _ = 1) (by omega) (dq_len s (n, t)) (List.map_append (l₂ := [(n, t)])).symm | exact x_append_osl rfl so95 ei106 rfl rfl rfl rfl rfl (List.length_map _) rfl rfl rfl rfl (by simp [encRQ]) (rfl : _ = 1) (by omega) (dq_len s (n, t)) (List.map_append (l₂ := [(n, t)])).symm)) ?_
            refine al_d rfl rfl rfl (by exact (by first | exact opd_nilCheck_ref rfl rfl rfl rfl | exact opd_nilCheck_fn rfl rfl)) ?_
            refine al_d rfl rfl rfl (by exact (by first | exact opd_field_ref rfl fo97_1 rfl rfl rfl rfl | exact opd_field_pad rfl fo97_1 rfl rfl)) ?_
            refine al_n rfl rfl (by exact (by first | exact x_store_all rfl Try.sizeOf95 rfl rfl rfl rfl rfl rfl rfl rfl | exact x_store1 rfl Try.sizeOf95 rfl rfl rfl rfl rfl rfl (by simp only [List.length_cons, List.length_nil]; omega) (by simp only [List.drop_succ_cons, List.drop_zero, List.take_succ_cons, List.take_zero, List.take_nil, List.map_cons, List.map_nil, List.set_cons_zero, List.set_cons_succ, List.cons_append, List.nil_append, encRQ, rRow]; rfl) (by simp only [List.drop_succ_cons, List.drop_zero, List.take_succ_cons, List.take_zero, List.take_nil, List.map_cons, List.map_nil, List.set_cons_zero, List.set_cons_succ, List.cons_append, List.nil_append, encRQ, rRow]; rfl))) ?_
            refine al_nil ?_
            refine awp_seq ?_
            refine awp_region ?_
            refine al_d rfl rfl rfl (by exact opd_move rfl rfl) ?_
            refine al_d rfl rfl rfl (by exact opr_call rfl rfl Try.call74 rfl (ref_frame (rcount_c (wState s n t) (xW x) hw (fun a w b h => ha a w b h) (fun a w b h => hp a w b h)) _ ⟨rfl, rfl, rfl, trivial⟩ (by simp; rfl))) ?_
            refine al_d rfl rfl rfl (by exact opd_assign rfl rfl) ?_
            refine al_nil ?_
            refine awp_ret ?_
            -- return
            refine aret1 (H' := refH (dCount (wState s n t)) (xCount (wState s n t) (xW x))) (by first | exact .inr rfl | exact .inl rfl) rfl (rval_tmp rfl) (Fin.wk (by first | (simp; done) | (simp; rfl)) ⟨⟨_, rfl, rfl⟩, (by first | (simp; done) | (simp; rfl) | exact clo_map _ _ _ | exact ref_clo _ _ _ rfl rfl | (simp; exact ⟨rfl, rfl⟩) | (simp; exact ⟨rfl, rfl, rfl⟩)), ⟨_, rfl, rfl⟩, (by first | (simp; done) | (simp; rfl) | exact clo_map _ _ _ | exact ref_clo _ _ _ rfl rfl | (simp; exact ⟨rfl, rfl⟩) | (simp; exact ⟨rfl, rfl, rfl⟩)), ⟨_, rfl, rfl⟩, (by first | (simp; done) | (simp; rfl) | exact clo_map _ _ _ | exact ref_clo _ _ _ rfl rfl | (simp; exact ⟨rfl, rfl⟩) | (simp; exact ⟨rfl, rfl, rfl⟩)), trivial⟩ ⟨rfl, rfl, rfl, trivial⟩) ?_
            exact ⟨by rw [g2], by rw [g1, g3]⟩
theorem rread_c (s : DSt) (x : RX) (k : Int) (hs : DOk s) :
    ACalls Try.prog 29 [.ref 1100 0 0 0, iv k] (refH s x) (fun r H' => r = .tup [sv (dRead s k), iv (dReadE s k)] ∧ H' = refH s x) := by
  have hql := hs.ql
  refine ACalls.body Try.func29 rfl Try.ntmps29 (Nat.le_of_ble_eq_true rfl) ?_
  refine awp_seq ?_
  refine awp_region ?_
  refine al_d rfl rfl rfl (by exact opd_assign rfl rfl) ?_
  refine al_d rfl rfl rfl (by exact opd_assign rfl rfl) ?_
  refine al_nil ?_
  refine awp_seq ?_
  refine awp_seq ?_
  refine awp_region ?_
  refine al_d rfl rfl rfl (by exact opd_move rfl rfl) ?_
  refine al_d rfl rfl rfl (by exact (by first | exact opd_peq_ref rfl Try.underlying49 rfl rfl rfl rfl | exact opd_peq_nil rfl Try.underlying49 rfl rfl)) ?_
  refine al_nil ?_
  refine awp_cond rfl (fun hc1 => ?_) (fun hc1 => ?_)
  -- cond 1
  · skip
    (first | (cases hc1; done) | (revert hc1; simp; done) | (revert hc1; simp_all; done) | (revert hc1; simp_all; omega))
  · skip
    refine awp_skip ?_
    refine awp_seq ?_
    refine awp_seq ?_
    refine awp_region ?_
    refine al_d rfl rfl rfl (by exact opd_move rfl rfl) ?_
    refine al_d rfl rfl rfl (by exact (by first | exact opd_nilCheck_ref rfl rfl rfl rfl | exact opd_nilCheck_fn rfl rfl)) ?_
    refine al_d rfl rfl rfl (by exact (by first | exact opd_field_ref rfl fo97_2 rfl rfl rfl rfl | exact opd_field_pad rfl fo97_2 rfl rfl)) ?_
    refine al_d rfl rfl rfl (by exact (by first | exact opd_load1_ref rfl Try.isAgg4 rfl rfl rfl rfl rfl | exact opd_load1_pad rfl Try.isAgg4 rfl (by first | omega | assumption) rfl)) ?_
    refine al_d rfl rfl rfl (by exact opd_not rfl rfl) ?_
    refine al_nil ?_
    refine awp_cond rfl (fun hc2 => ?_) (fun hc2 => ?_)
    -- cond 2
    · have e : s.off = true := by simpa using hc2
      refine awp_seq ?_
      refine awp_region ?_
      refine al_d rfl rfl rfl (by exact opd_assign rfl rfl) ?_
      refine al_d rfl rfl rfl (by exact opd_assign rfl rfl) ?_
      refine al_nil ?_
      refine awp_ret ?_
      -- return
      refine aret2 (H' := refH s x) (by first | exact .inr rfl | exact .inl rfl) rfl (rval_tmp rfl) (rval_tmp rfl) (Fin.wk (by first | (simp; done) | (simp; rfl)) ⟨⟨_, rfl, rfl⟩, (by first | (simp; done) | (simp; rfl) | exact clo_map _ _ _ | exact ref_clo _ _ _ rfl rfl | (simp; exact ⟨rfl, rfl⟩) | (simp; exact ⟨rfl, rfl, rfl⟩)), ⟨_, rfl, rfl⟩, (by first | (simp; done) | (simp; rfl) | exact clo_map _ _ _ | exact ref_clo _ _ _ rfl rfl | (simp; exact ⟨rfl, rfl⟩) | (simp; exact ⟨rfl, rfl, rfl⟩)), ⟨_, rfl, rfl⟩, (by first | (simp; done) | (simp; rfl) | exact clo_map _ _ _ | exact ref_clo _ _ _ rfl rfl | (simp; exact ⟨rfl, rfl⟩) | (simp; exact ⟨rfl, rfl, rfl⟩)), trivial⟩ ⟨rfl, rfl, rfl, trivial⟩) ?_
      exact ⟨by simp [dRead, dReadE, e], rfl⟩
    · have e : s.off = false := by simpa using hc2
      refine awp_skip ?_
      refine awp_seq ?_
      refine awp_seq ?_
      refine awp_bool (t := 25) (n := 12) (X := !secOk s k) ?_ ?_
      · all_goals (refine al_d rfl rfl rfl (by exact opd_move rfl rfl) ?_)
        all_goals (refine al_d rfl rfl rfl (by exact opd_lss rfl rfl rfl) ?_)
        all_goals (refine al_d rfl rfl rfl (by exact opd_move rfl rfl) ?_)
        all_goals (first | refine al_split (t := 17) rfl (fun h17 => ?_) (fun h17 => ?_) | skip)
        all_goals (try contradiction)
        all_goals (first | refine al_off rfl rfl rfl rfl rfl ?_ | refine al_offu rfl rfl rfl rfl ?_ | refine al_ond rfl rfl rfl rfl rfl rfl (by exact opd_move rfl rfl) ?_)
        all_goals (first | refine al_off rfl rfl rfl rfl rfl ?_ | refine al_offu rfl rfl rfl rfl ?_ | refine al_ond rfl rfl rfl rfl rfl rfl (by exact opd_move rfl rfl) ?_)
        all_goals (first | refine al_off rfl rfl rfl rfl rfl ?_ | refine al_offu rfl rfl rfl rfl ?_ | refine al_ond rfl rfl rfl rfl rfl rfl (by exact (by first | exact opd_nilCheck_ref rfl rfl rfl rfl | exact opd_nilCheck_fn rfl rfl)) ?_)
        all_goals (first | refine al_off rfl rfl rfl rfl rfl ?_ | refine al_offu rfl rfl rfl rfl ?_ | refine al_ond rfl rfl rfl rfl rfl rfl (by exact (by first | exact opd_field_ref rfl fo97_0 rfl rfl rfl rfl | exact opd_field_pad rfl fo97_0 rfl rfl)) ?_)
        all_goals (first | refine al_off rfl rfl rfl rfl rfl ?_ | refine al_offu rfl rfl rfl rfl ?_ | refine al_ond rfl rfl rfl rfl rfl rfl (by exact (by first | exact opd_load1_ref rfl Try.isAgg34 rfl rfl rfl rfl rfl | exact opd_load1_pad rfl Try.isAgg34 rfl (by first | omega | assumption) rfl)) ?_)
        all_goals (first | refine al_off rfl rfl rfl rfl rfl ?_ | refine al_offu rfl rfl rfl rfl ?_ | refine al_ond rfl rfl rfl rfl rfl rfl (by exact (by first | exact opd_len_sl rfl Try.underlying34 rfl | exact opd_len_osl rfl Try.underlying34 rfl rfl rfl)) ?_)
        all_goals (first | refine al_off rfl rfl rfl rfl rfl ?_ | refine al_offu rfl rfl rfl rfl ?_ | refine al_ond rfl rfl rfl rfl rfl rfl (by exact opd_geq rfl rfl rfl) ?_)
        all_goals (refine al_d rfl rfl rfl (by exact (by first | exact opd_pick_t rfl rfl rfl | exact opd_pick_f rfl rfl rfl | exact opd_pickt rfl rfl (by assumption) rfl | exact opd_pickf rfl rfl (by assumption) rfl | exact opd_pick rfl rfl rfl)) ?_)
        all_goals (refine al_nil ?_)
        all_goals (exact ⟨⟨_, rfl, by first | rfl | (rw [secOk, Bool.eq_iff_iff]; simp at h17 ⊢; omega)⟩, rfl, rfl, rfl⟩)
      refine awp_cond rfl (fun hc3 => ?_) (fun hc3 => ?_)
      -- cond 3
      · have e2 : secOk s k = false := by simpa using hc3
        refine awp_seq ?_
        refine awp_region ?_
        refine al_d rfl rfl rfl (by exact opd_assign rfl rfl) ?_
        refine al_d rfl rfl rfl (by exact opd_assign rfl rfl) ?_
        refine al_nil ?_
        refine awp_ret ?_
        -- return
        refine aret2 (H' := refH s x) (by first | exact .inr rfl | exact .inl rfl) rfl (rval_tmp rfl) (rval_tmp rfl) (Fin.wk (by first | (simp; done) | (simp; rfl)) ⟨⟨_, rfl, rfl⟩, (by first | (simp; done) | (simp; rfl) | exact clo_map _ _ _ | exact ref_clo _ _ _ rfl rfl | (simp; exact ⟨rfl, rfl⟩) | (simp; exact ⟨rfl, rfl, rfl⟩)), ⟨_, rfl, rfl⟩, (by first | (simp; done) | (simp; rfl) | exact clo_map _ _ _ | exact ref_clo _ _ _ rfl rfl | (simp; exact ⟨rfl, rfl⟩) | (simp; exact ⟨rfl, rfl, rfl⟩)), ⟨_, rfl, rfl⟩, (by first | (simp; done) | (simp; rfl) | exact clo_map _ _ _ | exact ref_clo _ _ _ rfl rfl | (simp; exact ⟨rfl, rfl⟩) | (simp; exact ⟨rfl, rfl, rfl⟩)), trivial⟩ ⟨rfl, rfl, rfl, trivial⟩) ?_
        exact ⟨by simp [dRead, dReadE, e, e2], rfl⟩
      · have e2 : secOk s k = true := by simpa using hc3
        rcases secOk_cases s k with h | ⟨n, rfl, hn⟩
        · rw [e2] at h; cases h
        · have h1 : dRead s n = dText s n := by simp [dRead, e, e2]
          have h2 : dReadE s n = 0 := by simp [dReadE, e, e2]
          rw [h1, h2]
          obtain ⟨c, hc⟩ := get_of_lt hn
          have hcr := stRows_get hc
          refine awp_skip ?_
          refine awp_seq ?_
          refine awp_region ?_
          refine al_d rfl rfl rfl (by exact opd_move rfl rfl) ?_
          refine al_d rfl rfl rfl (by exact (by first | exact opd_nilCheck_ref rfl rfl rfl rfl | exact opd_nilCheck_fn rfl rfl)) ?_
          refine al_d rfl rfl rfl (by exact (by first | exact opd_field_ref rfl fo97_0 rfl rfl rfl rfl | exact opd_field_pad rfl fo97_0 rfl rfl)) ?_
          refine al_d rfl rfl rfl (by exact (by first | exact opd_load1_ref rfl Try.isAgg34 rfl rfl rfl rfl rfl | exact opd_load1_pad rfl Try.isAgg34 rfl (by first | omega | assumption) rfl)) ?_
          refine al_d rfl rfl rfl (by exact opd_move rfl rfl) ?_
          refine al_d rfl rfl rfl (by exact (by first | exact x_index_pad rfl so34 rfl rfl (by omega) (by first | exact Int.toNat_natCast _ | rfl) (by assumption) rfl | exact x_index_osl rfl so34 rfl rfl rfl rfl rfl (by omega) (by first | exact Int.toNat_natCast _ | rfl) (by first | omega | assumption) (Nat.zero_add _))) ?_
          refine al_d rfl rfl rfl (by exact (by first | exact opd_load1_ref rfl Try.isAgg9 rfl rfl rfl hcr rfl | exact opd_load1_pad rfl Try.isAgg9 rfl hcr rfl)) ?_
          refine al_d rfl rfl rfl (by exact opd_assign rfl rfl) ?_
          refine al_nil ?_
          refine awp_seq ?_
          refine awp_seq ?_
          refine awp_region ?_
          refine al_d rfl rfl rfl (by exact opd_assign rfl rfl) ?_
          refine al_nil ?_
          refine awp_block ?_
          -- loop
          refine awp_loop (σ := Nat) (fun i => ([(0, .ref 1100 0 0 0), (1, iv (n : Int)), (6, sv (dText { s with q := s.q.take i } n)), (7, iv (i : Int))], refH s x)) (fun i => i ≤ s.q.length) (fun i => s.q.length - i) 0 (by omega) ?_ ?_
          · have e0 : dText { s with q := s.q.take 0 } n = c := by rw [List.take_zero, dText_nil rfl]; simp [hc]
            rw [e0]
            exact (Ent.wk ⟨⟨_, rfl, rfl⟩, (by first | (simp; done) | (simp; rfl) | exact clo_map _ _ _ | exact ref_clo _ _ _ rfl rfl | (simp; exact ⟨rfl, rfl⟩) | (simp; exact ⟨rfl, rfl, rfl⟩)), ⟨_, rfl, rfl⟩, (by first | (simp; done) | (simp; rfl) | exact clo_map _ _ _ | exact ref_clo _ _ _ rfl rfl | (simp; exact ⟨rfl, rfl⟩) | (simp; exact ⟨rfl, rfl, rfl⟩)), ⟨_, rfl, rfl⟩, (by first | (simp; done) | (simp; rfl) | exact clo_map _ _ _ | exact ref_clo _ _ _ rfl rfl | (simp; exact ⟨rfl, rfl⟩) | (simp; exact ⟨rfl, rfl, rfl⟩)), ⟨_, rfl, rfl⟩, (by first | (simp; done) | (simp; rfl) | exact clo_map _ _ _ | exact ref_clo _ _ _ rfl rfl | (simp; exact ⟨rfl, rfl⟩) | (simp; exact ⟨rfl, rfl, rfl⟩)), trivial⟩ ⟨⟨_, rfl, rfl⟩, (by first | (simp; done) | (simp; rfl) | exact clo_map _ _ _ | exact ref_clo _ _ _ rfl rfl | (simp; exact ⟨rfl, rfl⟩) | (simp; exact ⟨rfl, rfl, rfl⟩)), ⟨_, rfl, rfl⟩, (by first | (simp; done) | (simp; rfl) | exact clo_map _ _ _ | exact ref_clo _ _ _ rfl rfl | (simp; exact ⟨rfl, rfl⟩) | (simp; exact ⟨rfl, rfl, rfl⟩)), ⟨_, rfl, rfl⟩, (by first | (simp; done) | (simp; rfl) | exact clo_map _ _ _ | exact ref_clo _ _ _ rfl rfl | (simp; exact ⟨rfl, rfl⟩) | (simp; exact ⟨rfl, rfl, rfl⟩)), trivial⟩ ⟨rfl, rfl, rfl, trivial⟩)
          · intro i hi
            refine awp_seq ?_
            refine awp_seq ?_
            refine awp_region ?_
            refine al_d rfl rfl rfl (by exact opd_move rfl rfl) ?_
            refine al_d rfl rfl rfl (by exact opd_move rfl rfl) ?_
            refine al_d rfl rfl rfl (by exact (by first | exact opd_nilCheck_ref rfl rfl rfl rfl | exact opd_nilCheck_fn rfl rfl)) ?_
            refine al_d rfl rfl rfl (by exact (by first | exact opd_field_ref rfl fo97_1 rfl rfl rfl rfl | exact opd_field_pad rfl fo97_1 rfl rfl)) ?_
            refine al_d rfl rfl rfl (by exact (by first | exact opd_load1_ref rfl Try.isAgg95 rfl rfl rfl rfl rfl | exact opd_load1_pad rfl Try.isAgg95 rfl (by first | omega | assumption) rfl)) ?_
            refine al_d rfl rfl rfl (by exact (by first | exact opd_len_sl rfl Try.underlying95 rfl | exact opd_len_osl rfl Try.underlying95 rfl rfl rfl)) ?_
            refine al_d rfl rfl rfl (by exact opd_lss rfl rfl rfl) ?_
            refine al_nil ?_
            refine awp_cond rfl (fun hc4 => ?_) (fun hc4 => ?_)
            -- cond 4
            · have hlt : i < s.q.length := by have := of_decide_eq_true hc4; omega
              obtain ⟨p, hp⟩ := get_of_lt hlt
              have hpe : (rqRows s.q)[i]? = some ((encRQ p).map .pv) := by rw [List.getElem?_map, hp]; rfl
              have hsn : dText { s with q := s.q.take (i + 1) } n = if n = p.1 then p.2 else dText { s with q := s.q.take i } n := by
                rw [take_snoc hp]
                exact dText_w { s with q := s.q.take i } p.1 p.2 n
              refine awp_skip ?_
              refine awp_seq ?_
              refine awp_block ?_
              refine awp_seq ?_
              refine awp_region ?_
              refine al_d rfl rfl rfl (by exact opd_move rfl rfl) ?_
              refine al_d rfl rfl rfl (by exact (by first | exact opd_nilCheck_ref rfl rfl rfl rfl | exact opd_nilCheck_fn rfl rfl)) ?_
              refine al_d rfl rfl rfl (by exact (by first | exact opd_field_ref rfl fo97_1 rfl rfl rfl rfl | exact opd_field_pad rfl fo97_1 rfl rfl)) ?_
              refine al_d rfl rfl rfl (by exact (by first | exact opd_load1_ref rfl Try.isAgg95 rfl rfl rfl rfl rfl | exact opd_load1_pad rfl Try.isAgg95 rfl (by first | omega | assumption) rfl)) ?_
              refine al_d rfl rfl rfl (by exact opd_move rfl rfl) ?_
              refine al_d rfl rfl rfl (by exact (by first | exact x_index_pad rfl so95 rfl rfl (by omega) (by first | exact Int.toNat_natCast _ | rfl) (by assumption) rfl | exact x_index_osl rfl so95 rfl rfl rfl rfl rfl (by omega) (by first | exact Int.toNat_natCast _ | rfl) (by first | omega | assumption) (Nat.zero_add _))) ?_
              refine al_d rfl rfl rfl (by exact (by first | exact opd_field_ref rfl fo106_0 rfl rfl rfl rfl | exact opd_field_pad rfl fo106_0 rfl rfl)) ?_
              refine al_d rfl rfl rfl (by exact (by first | exact opd_load1_ref rfl Try.isAgg3 rfl rfl rfl hpe rfl | exact opd_load1_pad rfl Try.isAgg3 rfl hpe rfl)) ?_
              refine al_d rfl rfl rfl (by exact opd_move rfl rfl) ?_
              refine al_d rfl rfl rfl (by exact opd_eql rfl rfl rfl) ?_
              refine al_nil ?_
              refine awp_cond rfl (fun hc5 => ?_) (fun hc5 => ?_)
              -- cond 5
              · have hm : n = p.1 := by
                  have h : ((p.1 : Nat) : Int) = (n : Int) := of_decide_eq_true hc5
                  omega
                rw [if_pos hm] at hsn
                refine awp_region ?_
                refine al_d rfl rfl rfl (by exact opd_move rfl rfl) ?_
                refine al_d rfl rfl rfl (by exact (by first | exact opd_nilCheck_ref rfl rfl rfl rfl | exact opd_nilCheck_fn rfl rfl)) ?_
                refine al_d rfl rfl rfl (by exact (by first | exact opd_field_ref rfl fo97_1 rfl rfl rfl rfl | exact opd_field_pad rfl fo97_1 rfl rfl)) ?_
                refine al_d rfl rfl rfl (by exact (by first | exact opd_load1_ref rfl Try.isAgg95 rfl rfl rfl rfl rfl | exact opd_load1_pad rfl Try.isAgg95 rfl (by first | omega | assumption) rfl)) ?_
                refine al_d rfl rfl rfl (by exact opd_move rfl rfl) ?_
                refine al_d rfl rfl rfl (by exact (by first | exact x_index_pad rfl so95 rfl rfl (by omega) (by first | exact Int.toNat_natCast _ | rfl) (by assumption) rfl | exact x_index_osl rfl so95 rfl rfl rfl rfl rfl (by omega) (by first | exact Int.toNat_natCast _ | rfl) (by first | omega | assumption) (Nat.zero_add _))) ?_
                refine al_d rfl rfl rfl (by exact (by first | exact opd_field_ref rfl fo106_1 rfl rfl rfl rfl | exact opd_field_pad rfl fo106_1 rfl rfl)) ?_
                refine al_d rfl rfl rfl (by exact (by first | exact opd_load1_ref rfl Try.isAgg9 rfl rfl rfl hpe rfl | exact opd_load1_pad rfl Try.isAgg9 rfl hpe rfl)) ?_
                refine al_d rfl rfl rfl (by exact opd_assign rfl rfl) ?_
                refine al_nil ?_
                refine awp_region ?_
                refine al_d rfl rfl rfl (by exact opd_move rfl rfl) ?_
                refine al_d rfl rfl rfl (by exact opd_add rfl rfl rfl (by first | exact w64 (by omega) (by omega) | exact wu8 (by omega) (by omega) | rfl)) ?_
                refine al_d rfl rfl rfl (by exact opd_assign rfl rfl) ?_
                refine al_nil ?_
                -- end of a round
                refine ⟨i + 1, by omega, by omega, ?_⟩
                rw [hsn]
                exact (Ent.wk ⟨⟨_, rfl, rfl⟩, (by first | (simp; done) | (simp; rfl) | exact clo_map _ _ _ | exact ref_clo _ _ _ rfl rfl | (simp; exact ⟨rfl, rfl⟩) | (simp; exact ⟨rfl, rfl, rfl⟩)), ⟨_, rfl, rfl⟩, (by first | (simp; done) | (simp; rfl) | exact clo_map _ _ _ | exact ref_clo _ _ _ rfl rfl | (simp; exact ⟨rfl, rfl⟩) | (simp; exact ⟨rfl, rfl, rfl⟩)), ⟨_, rfl, rfl⟩, (by first | (simp; done) | (simp; rfl) | exact clo_map _ _ _ | exact ref_clo _ _ _ rfl rfl | (simp; exact ⟨rfl, rfl⟩) | (simp; exact ⟨rfl, rfl, rfl⟩)), ⟨_, rfl, rfl⟩, (by first | (simp; done) | (simp; rfl) | exact clo_map _ _ _ | exact ref_clo _ _ _ rfl rfl | (simp; exact ⟨rfl, rfl⟩) | (simp; exact ⟨rfl, rfl, rfl⟩)), trivial⟩ ⟨⟨_, rfl, rfl⟩, (by first | (simp; done) | (simp; rfl) | exact clo_map _ _ _ | exact ref_clo _ _ _ rfl rfl | (simp; exact ⟨rfl, rfl⟩) | (simp; exact ⟨rfl, rfl, rfl⟩)), ⟨_, rfl, rfl⟩, (by first | (simp; done) | (simp; rfl) | exact clo_map _ _ _ | exact ref_clo _ _ _ rfl rfl | (simp; exact ⟨rfl, rfl⟩) | (simp; exact ⟨rfl, rfl, rfl⟩)), ⟨_, rfl, rfl⟩, (by first | (simp; done) | (simp; rfl) | exact clo_map _ _ _ | exact ref_clo _ _ _ rfl rfl | (simp; exact ⟨rfl, rfl⟩) | (simp; exact ⟨rfl, rfl, rfl⟩)), trivial⟩ ⟨rfl, rfl, rfl, trivial⟩)
              · have hm : ¬ n = p.1 := by
                  have h : ¬ ((p.1 : Nat) : Int) = (n : Int) := of_decide_eq_false hc5
                  omega
                rw [if_neg hm] at hsn
                refine awp_skip ?_
                refine awp_region ?_
                refine al_d rfl rfl rfl (by exact opd_move rfl rfl) ?_
                refine al_d rfl rfl rfl (by exact opd_add rfl rfl rfl (by first | exact w64 (by omega) (by omega) | exact wu8 (by omega) (by omega) | rfl)) ?_
                refine al_d rfl rfl rfl (by exact opd_assign rfl rfl) ?_
                refine al_nil ?_
                -- end of a round
                refine ⟨i + 1, by omega, by omega, ?_⟩
                rw [hsn]
                exact (Ent.wk ⟨⟨_, rfl, rfl⟩, (by first | (simp; done) | (simp; rfl) | exact clo_map _ _ _ | exact ref_clo _ _ _ rfl rfl | (simp; exact ⟨rfl, rfl⟩) | (simp; exact ⟨rfl, rfl, rfl⟩)), ⟨_, rfl, rfl⟩, (by first | (simp; done) | (simp; rfl) | exact clo_map _ _ _ | exact ref_clo _ _ _ rfl rfl | (simp; exact ⟨rfl, rfl⟩) | (simp; exact ⟨rfl, rfl, rfl⟩)), ⟨_, rfl, rfl⟩, (by first | (simp; done) | (simp; rfl) | exact clo_map _ _ _ | exact ref_clo _ _ _ rfl rfl | (simp; exact ⟨rfl, rfl⟩) | (simp; exact ⟨rfl, rfl, rfl⟩)), ⟨_, rfl, rfl⟩, (by first | (simp; done) | (simp; rfl) | exact clo_map _ _ _ | exact ref_clo _ _ _ rfl rfl | (simp; exact ⟨rfl, rfl⟩) | (simp; exact ⟨rfl, rfl, rfl⟩)), trivial⟩ ⟨⟨_, rfl, rfl⟩, (by first | (simp; done) | (simp; rfl) | exact clo_map _ _ _ | exact ref_clo _ _ _ rfl rfl | (simp; exact ⟨rfl, rfl⟩) | (simp; exact ⟨rfl, rfl, rfl⟩)), ⟨_, rfl, rfl⟩, (by first | (simp; done) | (simp; rfl) | exact clo_map _ _ _ | exact ref_clo _ _ _ rfl rfl | (simp; exact ⟨rfl, rfl⟩) | (simp; exact ⟨rfl, rfl, rfl⟩)), ⟨_, rfl, rfl⟩, (by first | (simp; done) | (simp; rfl) | exact clo_map _ _ _ | exact ref_clo _ _ _ rfl rfl | (simp; exact ⟨rfl, rfl⟩) | (simp; exact ⟨rfl, rfl, rfl⟩)), trivial⟩ ⟨rfl, rfl, rfl, trivial⟩)
            · have hge : i = s.q.length := by have : ¬ _ := of_decide_eq_false hc4; omega
              subst hge
              rw [List.take_length]
              refine awp_exit ?_
              refine awp_seq ?_
              refine awp_region ?_
              refine al_d rfl rfl rfl (by exact opd_move rfl rfl) ?_
              refine al_d rfl rfl rfl (by exact opd_assign rfl rfl) ?_
              refine al_d rfl rfl rfl (by exact opd_assign rfl rfl) ?_
              refine al_nil ?_
              refine awp_ret ?_
              -- return
              refine aret2 (H' := refH s x) (by first | exact .inr rfl | exact .inl rfl) rfl (rval_tmp rfl) (rval_tmp rfl) (Fin.wk (by first | (simp; done) | (simp; rfl)) ⟨⟨_, rfl, rfl⟩, (by first | (simp; done) | (simp; rfl) | exact clo_map _ _ _ | exact ref_clo _ _ _ rfl rfl | (simp; exact ⟨rfl, rfl⟩) | (simp; exact ⟨rfl, rfl, rfl⟩)), ⟨_, rfl, rfl⟩, (by first | (simp; done) | (simp; rfl) | exact clo_map _ _ _ | exact ref_clo _ _ _ rfl rfl | (simp; exact ⟨rfl, rfl⟩) | (simp; exact ⟨rfl, rfl, rfl⟩)), ⟨_, rfl, rfl⟩, (by first | (simp; done) | (simp; rfl) | exact clo_map _ _ _ | exact ref_clo _ _ _ rfl rfl | (simp; exact ⟨rfl, rfl⟩) | (simp; exact ⟨rfl, rfl, rfl⟩)), trivial⟩ ⟨rfl, rfl, rfl, trivial⟩) ?_
              exact ⟨rfl, rfl⟩
theorem dCountE_cases (s : DSt) : dCountE s = 0 ∨ dCountE s = 22 := by
  unfold dCountE
  split
  · split
    · exact .inl rfl
    · exact .inr rfl
  · exact .inl rfl
def xSync (s : DSt) (x : RX) : RX := if s.off then x else if dCountE s = 0 then xW (xCount s x) else xCount s x
theorem rsync_c (s : DSt) (x : RX) (hs : DOk s) (ha : armLt s) (hp : armPos s) :
    ACalls Try.prog 52 [.ref 1100 0 0 0] (refH s x) (fun r H' => r = iv (dSyncE s) ∧ H' = refH (dSync s) (xSync s x)) := by
  have hct := count_ok hs
  have hset := rsettle_c (dCount s) (xCount s x) (dCount s).q.length hct (Nat.le_refl _)
  rw [List.take_length] at hset
  refine ACalls.body Try.func52 rfl Try.ntmps52 (Nat.le_of_ble_eq_true rfl) ?_
  refine awp_seq ?_
  refine awp_region ?_
  refine al_d rfl rfl rfl (by exact opd_assign rfl rfl) ?_
  refine al_nil ?_
  refine awp_seq ?_
  refine awp_seq ?_
  refine awp_region ?_
  refine al_d rfl rfl rfl (by exact opd_move rfl rfl) ?_
  refine al_d rfl rfl rfl (by exact (by first | exact opd_peq_ref rfl Try.underlying49 rfl rfl rfl rfl | exact opd_peq_nil rfl Try.underlying49 rfl rfl)) ?_
  refine al_nil ?_
  refine awp_cond rfl (fun hc1 => ?_) (fun hc1 => ?_)
  -- cond 1
  · skip
    (first | (cases hc1; done) | (revert hc1; simp; done) | (revert hc1; simp_all; done) | (revert hc1; simp_all; omega))
  · skip
    refine awp_skip ?_
    refine awp_seq ?_
    refine awp_seq ?_
    refine awp_region ?_
    refine al_d rfl rfl rfl (by exact opd_move rfl rfl) ?_
    refine al_d rfl rfl rfl (by exact (by first | exact opd_nilCheck_ref rfl rfl rfl rfl | exact opd_nilCheck_fn rfl rfl)) ?_
    refine al_d rfl rfl rfl (by exact (by first | exact opd_field_ref rfl fo97_2 rfl rfl rfl rfl | exact opd_field_pad rfl fo97_2 rfl rfl)) ?_
    refine al_d rfl rfl rfl (by exact (by first | exact opd_load1_ref rfl Try.isAgg4 rfl rfl rfl rfl rfl | exact opd_load1_pad rfl Try.isAgg4 rfl (by first | omega | assumption) rfl)) ?_
    refine al_d rfl rfl rfl (by exact opd_not rfl rfl) ?_
    refine al_nil ?_
    refine awp_cond rfl (fun hc2 => ?_) (fun hc2 => ?_)
    -- cond 2
    · have e : s.off = true := by simpa using hc2
      refine awp_seq ?_
      refine awp_region ?_
      refine al_d rfl rfl rfl (by exact opd_assign rfl rfl) ?_
      refine al_nil ?_
      refine awp_ret ?_
      -- return
      refine aret1 (H' := refH s x) (by first | exact .inr rfl | exact .inl rfl) rfl (rval_tmp rfl) (Fin.wk (by first | (simp; done) | (simp; rfl)) ⟨⟨_, rfl, rfl⟩, (by first | (simp; done) | (simp; rfl) | exact clo_map _ _ _ | exact ref_clo _ _ _ rfl rfl | (simp; exact ⟨rfl, rfl⟩) | (simp; exact ⟨rfl, rfl, rfl⟩)), ⟨_, rfl, rfl⟩, (by first | (simp; done) | (simp; rfl) | exact clo_map _ _ _ | exact ref_clo _ _ _ rfl rfl | (simp; exact ⟨rfl, rfl⟩) | (simp; exact ⟨rfl, rfl, rfl⟩)), ⟨_, rfl, rfl⟩, (by first | (simp; done) | (simp; rfl) | exact clo_map _ _ _ | exact ref_clo _ _ _ rfl rfl | (simp; exact ⟨rfl, rfl⟩) | (simp; exact ⟨rfl, rfl, rfl⟩)), trivial⟩ ⟨rfl, rfl, rfl, trivial⟩) ?_
      exact ⟨by simp [dSyncE, e], by simp [dSync, xSync, e]⟩
    · have e : s.off = false := by simpa using hc2
      refine awp_skip ?_
      refine awp_seq ?_
      refine awp_seq ?_
      refine awp_region ?_
      refine al_d rfl rfl rfl (by exact opd_move rfl rfl) ?_
      refine al_d rfl rfl rfl (by exact opr_call rfl rfl Try.call74 rfl (ref_frame (rcount_c s x hs ha hp) _ ⟨rfl, rfl, rfl, trivial⟩ (by simp; rfl))) ?_
      refine al_d rfl rfl rfl (by exact opd_neq rfl rfl rfl) ?_
      refine al_nil ?_
      refine awp_cond rfl (fun hc3 => ?_) (fun hc3 => ?_)
      -- cond 3
      · have e2 : ¬ dCountE s = 0 := by
          have h : (!decide (dCountE s = 0)) = true := hc3
          simpa using h
        have e3 : dCountE s = 22 := (dCountE_cases s).resolve_left e2
        refine awp_seq ?_
        refine awp_region ?_
        refine al_d rfl rfl rfl (by exact opd_assign rfl rfl) ?_
        refine al_nil ?_
        refine awp_ret ?_
        -- return
        refine aret1 (H' := refH (dCount s) (xCount s x)) (by first | exact .inr rfl | exact .inl rfl) rfl (rval_tmp rfl) (Fin.wk (by first | (simp; done) | (simp; rfl)) ⟨⟨_, rfl, rfl⟩, (by first | (simp; done) | (simp; rfl) | exact clo_map _ _ _ | exact ref_clo _ _ _ rfl rfl | (simp; exact ⟨rfl, rfl⟩) | (simp; exact ⟨rfl, rfl, rfl⟩)), ⟨_, rfl, rfl⟩, (by first | (simp; done) | (simp; rfl) | exact clo_map _ _ _ | exact ref_clo _ _ _ rfl rfl | (simp; exact ⟨rfl, rfl⟩) | (simp; exact ⟨rfl, rfl, rfl⟩)), ⟨_, rfl, rfl⟩, (by first | (simp; done) | (simp; rfl) | exact clo_map _ _ _ | exact ref_clo _ _ _ rfl rfl | (simp; exact ⟨rfl, rfl⟩) | (simp; exact ⟨rfl, rfl, rfl⟩)), trivial⟩ ⟨rfl, rfl, rfl, trivial⟩) ?_
        exact ⟨by simp [dSyncE, e, e3], by simp [dSync, xSync, e, e2]⟩
      · have e2 : dCountE s = 0 := by
          have h : (!decide (dCountE s = 0)) = false := hc3
          simpa using h
        refine awp_skip ?_
        refine awp_seq ?_
        refine awp_region ?_
        refine al_d rfl rfl rfl (by exact opd_move rfl rfl) ?_
        refine al_d rfl rfl rfl (by exact opd_move rfl rfl) ?_
        refine al_d rfl rfl rfl (by exact (by first | exact opd_nilCheck_ref rfl rfl rfl rfl | exact opd_nilCheck_fn rfl rfl)) ?_
        refine al_d rfl rfl rfl (by exact (by first | exact opd_field_ref rfl fo97_1 rfl rfl rfl rfl | exact opd_field_pad rfl fo97_1 rfl rfl)) ?_
        refine al_d rfl rfl rfl (by exact (by first | exact opd_load1_ref rfl Try.isAgg95 rfl rfl rfl rfl rfl | exact opd_load1_pad rfl Try.isAgg95 rfl (by first | omega | assumption) rfl)) ?_
        refine al_d rfl rfl rfl (by exact (by first | exact opd_len_sl rfl Try.underlying95 rfl | exact opd_len_osl rfl Try.underlying95 rfl rfl rfl)) ?_
        refine al_d rfl rfl rfl (by exact opr_call rfl rfl Try.call75 rfl (ref_frame hset _ ⟨rfl, rfl, rfl, trivial⟩ (by simp; rfl))) ?_
        refine al_nil ?_
        refine awp_seq ?_
        refine awp_region ?_
        refine al_d rfl rfl rfl (by exact opd_move rfl rfl) ?_
        refine al_d rfl rfl rfl (by exact (by first | exact opd_nilCheck_ref rfl rfl rfl rfl | exact opd_nilCheck_fn rfl rfl)) ?_
        refine al_d rfl rfl rfl (by exact (by first | exact opd_field_ref rfl fo97_1 rfl rfl rfl rfl | exact opd_field_pad rfl fo97_1 rfl rfl)) ?_
        refine al_n rfl rfl (by exact opd_store_nil (q := 1102) (sz := 2) (ty := 106) rfl Try.sizeOf95 rfl rfl rfl rfl rfl rfl rfl rfl (by simp) (by simp only [rRow, List.set_cons_succ, List.set_cons_zero]; rfl) (by simp only [List.set_cons_zero]; rfl)) ?_
        refine al_nil ?_
        refine awp_seq ?_
        refine awp_region ?_
        refine al_d rfl rfl rfl (by exact opd_assign rfl rfl) ?_
        refine al_nil ?_
        refine awp_ret ?_
        -- return
        refine aret1 (H' := refH (dFlush (dCount s)) (xW (xCount s x))) (by first | exact .inr rfl | exact .inl rfl) rfl (rval_tmp rfl) (Fin.wk (by first | (simp; done) | (simp; rfl)) ⟨⟨_, rfl, rfl⟩, (by first | (simp; done) | (simp; rfl) | exact clo_map _ _ _ | exact ref_clo _ _ _ rfl rfl | (simp; exact ⟨rfl, rfl⟩) | (simp; exact ⟨rfl, rfl, rfl⟩)), ⟨_, rfl, rfl⟩, (by first | (simp; done) | (simp; rfl) | exact clo_map _ _ _ | exact ref_clo _ _ _ rfl rfl | (simp; exact ⟨rfl, rfl⟩) | (simp; exact ⟨rfl, rfl, rfl⟩)), ⟨_, rfl, rfl⟩, (by first | (simp; done) | (simp; rfl) | exact clo_map _ _ _ | exact ref_clo _ _ _ rfl rfl | (simp; exact ⟨rfl, rfl⟩) | (simp; exact ⟨rfl, rfl, rfl⟩)), trivial⟩ ⟨rfl, rfl, rfl, trivial⟩) ?_
        exact ⟨by simp [dSyncE, e, e2], by simp [dSync, xSync, e, e2]⟩
abbrev rH2 (s : DSt) (x : RX) (on ar : Bool) (a w b : Int) : Heap := [(1100, ⟨0, 7, 97, [[.osl 1101 x.gs 0 s.cells.length, .osl 1102 x.gq 0 s.q.length, bv on, bv ar, iv a, iv w, iv b]]⟩), (1101, ⟨x.gs, 1, 9, stRows s.cells⟩), (1102, ⟨x.gq, 2, 106, rqRows s.q⟩)]
theorem rstartH (s : DSt) (x : RX) : rH2 s x true false (armA s x) (armW s x) (armY s x) = refH (dStart s) (xDis s x) := by
  unfold xDis dStart
  cases e : s.arm <;> simp [refH, rRow, armB, armA, armW, armY, disarm, e]
theorem rstart_c (s : DSt) (x : RX) : ACalls Try.prog 54 [.ref 1100 0 0 0] (refH s x) (fun r H' => r = .tup [] ∧ H' = refH (dStart s) (xDis s x)) := by
  rw [← rstartH s x]
  refine ACalls.body Try.func54 rfl Try.ntmps54 (Nat.le_of_ble_eq_true rfl) ?_
  refine awp_seq ?_
  refine awp_seq ?_
  refine awp_region ?_
  refine al_d rfl rfl rfl (by exact opd_move rfl rfl) ?_
  refine al_d rfl rfl rfl (by exact (by first | exact opd_peq_ref rfl Try.underlying49 rfl rfl rfl rfl | exact opd_peq_nil rfl Try.underlying49 rfl rfl)) ?_
  refine al_nil ?_
  refine awp_cond rfl (fun hc1 => ?_) (fun hc1 => ?_)
  -- cond 1
  · skip
    (first | (cases hc1; done) | (revert hc1; simp; done) | (revert hc1; simp_all; done) | (revert hc1; simp_all; omega))
  · skip
    refine awp_skip ?_
    refine awp_seq ?_
    refine awp_region ?_
    refine al_d rfl rfl rfl (by exact opd_move rfl rfl) ?_
    refine al_d rfl rfl rfl (by exact (by first | exact opd_nilCheck_ref rfl rfl rfl rfl | exact opd_nilCheck_fn rfl rfl)) ?_
    refine al_d rfl rfl rfl (by exact (by first | exact opd_field_ref rfl fo97_2 rfl rfl rfl rfl | exact opd_field_pad rfl fo97_2 rfl rfl)) ?_
    refine al_n rfl rfl (by exact (by first | exact x_store_all rfl Try.sizeOf4 rfl rfl rfl rfl rfl rfl rfl rfl | exact x_store1 rfl Try.sizeOf4 rfl rfl rfl rfl rfl rfl (by simp only [List.length_cons, List.length_nil]; omega) (by simp only [List.drop_succ_cons, List.drop_zero, List.take_succ_cons, List.take_zero, List.take_nil, List.map_cons, List.map_nil, List.set_cons_zero, List.set_cons_succ, List.cons_append, List.nil_append, encRQ, rRow]; rfl) (by simp only [List.drop_succ_cons, List.drop_zero, List.take_succ_cons, List.take_zero, List.take_nil, List.map_cons, List.map_nil, List.set_cons_zero, List.set_cons_succ, List.cons_append, List.nil_append, encRQ, rRow]; rfl))) ?_
    refine al_nil ?_
    refine awp_region ?_
    refine al_d rfl rfl rfl (by exact opd_move rfl rfl) ?_
    refine al_d rfl rfl rfl (by exact (by first | exact opd_nilCheck_ref rfl rfl rfl rfl | exact opd_nilCheck_fn rfl rfl)) ?_
    refine al_d rfl rfl rfl (by exact (by first | exact opd_field_ref rfl fo97_3 rfl rfl rfl rfl | exact opd_field_pad rfl fo97_3 rfl rfl)) ?_
    refine al_n rfl rfl (by exact (by first | exact x_store_all rfl Try.sizeOf4 rfl rfl rfl rfl rfl rfl rfl rfl | exact x_store1 rfl Try.sizeOf4 rfl rfl rfl rfl rfl rfl (by simp only [List.length_cons, List.length_nil]; omega) (by simp only [List.drop_succ_cons, List.drop_zero, List.take_succ_cons, List.take_zero, List.take_nil, List.map_cons, List.map_nil, List.set_cons_zero, List.set_cons_succ, List.cons_append, List.nil_append, encRQ, rRow]; rfl) (by simp only [List.drop_succ_cons, List.drop_zero, List.take_succ_cons, List.take_zero, List.take_nil, List.map_cons, List.map_nil, List.set_cons_zero, List.set_cons_succ, List.cons_append, List.nil_append, encRQ, rRow]; rfl))) ?_
    refine al_nil ?_
    -- end of the body
    refine aret0 (H' := rH2 s x true false (armA s x) (armW s x) (armY s x)) (by first | exact .inr rfl | exact .inl rfl) rfl  (Fin.wk (by first | (simp; done) | (simp; rfl)) ⟨⟨_, rfl, rfl⟩, (by first | (simp; done) | (simp; rfl) | exact clo_map _ _ _ | exact ref_clo _ _ _ rfl rfl | (simp; exact ⟨rfl, rfl⟩) | (simp; exact ⟨rfl, rfl, rfl⟩)), ⟨_, rfl, rfl⟩, (by first | (simp; done) | (simp; rfl) | exact clo_map _ _ _ | exact ref_clo _ _ _ rfl rfl | (simp; exact ⟨rfl, rfl⟩) | (simp; exact ⟨rfl, rfl, rfl⟩)), ⟨_, rfl, rfl⟩, (by first | (simp; done) | (simp; rfl) | exact clo_map _ _ _ | exact ref_clo _ _ _ rfl rfl | (simp; exact ⟨rfl, rfl⟩) | (simp; exact ⟨rfl, rfl, rfl⟩)), trivial⟩ ⟨rfl, rfl, rfl, trivial⟩) ?_
    exact ⟨rfl, rfl⟩
def xArm (s : DSt) (x : RX) (a w b : Int) : RX := if s.off then x else { x with a := a, w := w, b := b }
theorem rarmH (s : DSt) (x : RX) (a w b : Int) (h : s.off = false) : rH2 s x (!s.off) (decide (0 ≤ a)) a w b = refH (dArm s a w b) (xArm s x a w b) := by
  by_cases h0 : 0 ≤ a
  · simp [refH, rRow, dArm, xArm, h, h0, armB, armA, armW, armY]
  · cases e : s.arm <;> simp [refH, rRow, dArm, xArm, h, h0, armB, armA, armW, armY, disarm, e]
theorem rarm_c (s : DSt) (x : RX) (a w b : Int) : ACalls Try.prog 55 [.ref 1100 0 0 0, iv a, iv w, iv b] (refH s x) (fun r H' => r = .tup [] ∧ H' = refH (dArm s a w b) (xArm s x a w b)) := by
  refine ACalls.body Try.func55 rfl Try.ntmps55 (Nat.le_of_ble_eq_true rfl) ?_
  refine awp_seq ?_
  refine awp_seq ?_
  refine awp_region ?_
  refine al_d rfl rfl rfl (by exact opd_move rfl rfl) ?_
  refine al_d rfl rfl rfl (by exact (by first | exact opd_peq_ref rfl Try.underlying49 rfl rfl rfl rfl | exact opd_peq_nil rfl Try.underlying49 rfl rfl)) ?_
  refine al_nil ?_
  refine awp_cond rfl (fun hc1 => ?_) (fun hc1 => ?_)
  -- cond 1
  · skip
    (first | (cases hc1; done) | (revert hc1; simp; done) | (revert hc1; simp_all; done) | (revert hc1; simp_all; omega))
  · skip
    refine awp_skip ?_
    refine awp_seq ?_
    refine awp_seq ?_
    refine awp_region ?_
    refine al_d rfl rfl rfl (by exact opd_move rfl rfl) ?_
    refine al_d rfl rfl rfl (by exact (by first | exact opd_nilCheck_ref rfl rfl rfl rfl | exact opd_nilCheck_fn rfl rfl)) ?_
    refine al_d rfl rfl rfl (by exact (by first | exact opd_field_ref rfl fo97_2 rfl rfl rfl rfl | exact opd_field_pad rfl fo97_2 rfl rfl)) ?_
    refine al_d rfl rfl rfl (by exact (by first | exact opd_load1_ref rfl Try.isAgg4 rfl rfl rfl rfl rfl | exact opd_load1_pad rfl Try.isAgg4 rfl (by first | omega | assumption) rfl)) ?_
    refine al_d rfl rfl rfl (by exact opd_not rfl rfl) ?_
    refine al_nil ?_
    refine awp_cond rfl (fun hc2 => ?_) (fun hc2 => ?_)
    -- cond 2
    · have e : s.off = true := by simpa using hc2
      refine awp_ret ?_
      -- return
      refine aret0 (H' := refH s x) (by first | exact .inr rfl | exact .inl rfl) rfl  (Fin.wk (by first | (simp; done) | (simp; rfl)) ⟨⟨_, rfl, rfl⟩, (by first | (simp; done) | (simp; rfl) | exact clo_map _ _ _ | exact ref_clo _ _ _ rfl rfl | (simp; exact ⟨rfl, rfl⟩) | (simp; exact ⟨rfl, rfl, rfl⟩)), ⟨_, rfl, rfl⟩, (by first | (simp; done) | (simp; rfl) | exact clo_map _ _ _ | exact ref_clo _ _ _ rfl rfl | (simp; exact ⟨rfl, rfl⟩) | (simp; exact ⟨rfl, rfl, rfl⟩)), ⟨_, rfl, rfl⟩, (by first | (simp; done) | (simp; rfl) | exact clo_map _ _ _ | exact ref_clo _ _ _ rfl rfl | (simp; exact ⟨rfl, rfl⟩) | (simp; exact ⟨rfl, rfl, rfl⟩)), trivial⟩ ⟨rfl, rfl, rfl, trivial⟩) ?_
      exact ⟨rfl, by simp [dArm, xArm, e]⟩
    · have e : s.off = false := by simpa using hc2
      refine awp_skip ?_
      refine awp_seq ?_
      refine awp_region ?_
      refine al_d rfl rfl rfl (by exact opd_move rfl rfl) ?_
      refine al_d rfl rfl rfl (by exact opd_move rfl rfl) ?_
      refine al_d rfl rfl rfl (by exact opd_geq rfl rfl rfl) ?_
      refine al_d rfl rfl rfl (by exact (by first | exact opd_nilCheck_ref rfl rfl rfl rfl | exact opd_nilCheck_fn rfl rfl)) ?_
      refine al_d rfl rfl rfl (by exact (by first | exact opd_field_ref rfl fo97_3 rfl rfl rfl rfl | exact opd_field_pad rfl fo97_3 rfl rfl)) ?_
      refine al_n rfl rfl (by exact (by first | exact x_store_all rfl Try.sizeOf4 rfl rfl rfl rfl rfl rfl rfl rfl | exact x_store1 rfl Try.sizeOf4 rfl rfl rfl rfl rfl rfl (by simp only [List.length_cons, List.length_nil]; omega) (by simp only [List.drop_succ_cons, List.drop_zero, List.take_succ_cons, List.take_zero, List.take_nil, List.map_cons, List.map_nil, List.set_cons_zero, List.set_cons_succ, List.cons_append, List.nil_append, encRQ, rRow]; rfl) (by simp only [List.drop_succ_cons, List.drop_zero, List.take_succ_cons, List.take_zero, List.take_nil, List.map_cons, List.map_nil, List.set_cons_zero, List.set_cons_succ, List.cons_append, List.nil_append, encRQ, rRow]; rfl))) ?_
      refine al_nil ?_
      refine awp_seq ?_
      refine awp_region ?_
      refine al_d rfl rfl rfl (by exact opd_move rfl rfl) ?_
      refine al_d rfl rfl rfl (by exact opd_move rfl rfl) ?_
      refine al_d rfl rfl rfl (by exact (by first | exact opd_nilCheck_ref rfl rfl rfl rfl | exact opd_nilCheck_fn rfl rfl)) ?_
      refine al_d rfl rfl rfl (by exact (by first | exact opd_field_ref rfl fo97_4 rfl rfl rfl rfl | exact opd_field_pad rfl fo97_4 rfl rfl)) ?_
      refine al_n rfl rfl (by exact (by first | exact x_store_all rfl Try.sizeOf3 rfl rfl rfl rfl rfl rfl rfl rfl | exact x_store1 rfl Try.sizeOf3 rfl rfl rfl rfl rfl rfl (by simp only [List.length_cons, List.length_nil]; omega) (by simp only [List.drop_succ_cons, List.drop_zero, List.take_succ_cons, List.take_zero, List.take_nil, List.map_cons, List.map_nil, List.set_cons_zero, List.set_cons_succ, List.cons_append, List.nil_append, encRQ, rRow]; rfl) (by simp only [List.drop_succ_cons, List.drop_zero, List.take_succ_cons, List.take_zero, List.take_nil, List.map_cons, List.map_nil, List.set_cons_zero, List.set_cons_succ, List.cons_append, List.nil_append, encRQ, rRow]; rfl))) ?_
      refine al_nil ?_
      refine awp_seq ?_
      refine awp_region ?_
      refine al_d rfl rfl rfl (by exact opd_move rfl rfl) ?_
      refine al_d rfl rfl rfl (by exact opd_move rfl rfl) ?_
      refine al_d rfl rfl rfl (by exact (by first | exact opd_nilCheck_ref rfl rfl rfl rfl | exact opd_nilCheck_fn rfl rfl)) ?_
      refine al_d rfl rfl rfl (by exact (by first | exact opd_field_ref rfl fo97_5 rfl rfl rfl rfl | exact opd_field_pad rfl fo97_5 rfl rfl)) ?_
      refine al_n rfl rfl (by exact (by first | exact x_store_all rfl Try.sizeOf3 rfl rfl rfl rfl rfl rfl rfl rfl | exact x_store1 rfl Try.sizeOf3 rfl rfl rfl rfl rfl rfl (by simp only [List.length_cons, List.length_nil]; omega) (by simp only [List.drop_succ_cons, List.drop_zero, List.take_succ_cons, List.take_zero, List.take_nil, List.map_cons, List.map_nil, List.set_cons_zero, List.set_cons_succ, List.cons_append, List.nil_append, encRQ, rRow]; rfl) (by simp only [List.drop_succ_cons, List.drop_zero, List.take_succ_cons, List.take_zero, List.take_nil, List.map_cons, List.map_nil, List.set_cons_zero, List.set_cons_succ, List.cons_append, List.nil_append, encRQ, rRow]; rfl))) ?_
      refine al_nil ?_
      refine awp_region ?_
      refine al_d rfl rfl rfl (by exact opd_move rfl rfl) ?_
      refine al_d rfl rfl rfl (by exact opd_move rfl rfl) ?_
      refine al_d rfl rfl rfl (by exact (by first | exact opd_nilCheck_ref rfl rfl rfl rfl | exact opd_nilCheck_fn rfl rfl)) ?_
      refine al_d rfl rfl rfl (by exact (by first | exact opd_field_ref rfl fo97_6 rfl rfl rfl rfl | exact opd_field_pad rfl fo97_6 rfl rfl)) ?_
      refine al_n rfl rfl (by exact (by first | exact x_store_all rfl Try.sizeOf3 rfl rfl rfl rfl rfl rfl rfl rfl | exact x_store1 rfl Try.sizeOf3 rfl rfl rfl rfl rfl rfl (by simp only [List.length_cons, List.length_nil]; omega) (by simp only [List.drop_succ_cons, List.drop_zero, List.take_succ_cons, List.take_zero, List.take_nil, List.map_cons, List.map_nil, List.set_cons_zero, List.set_cons_succ, List.cons_append, List.nil_append, encRQ, rRow]; rfl) (by simp only [List.drop_succ_cons, List.drop_zero, List.take_succ_cons, List.take_zero, List.take_nil, List.map_cons, List.map_nil, List.set_cons_zero, List.set_cons_succ, List.cons_append, List.nil_append, encRQ, rRow]; rfl))) ?_
      refine al_nil ?_
      -- end of the body
      refine aret0 (H' := rH2 s x (!s.off) (decide (0 ≤ a)) a w b) (by first | exact .inr rfl | exact .inl rfl) rfl  (Fin.wk (by first | (simp; done) | (simp; rfl)) ⟨⟨_, rfl, rfl⟩, (by first | (simp; done) | (simp; rfl) | exact clo_map _ _ _ | exact ref_clo _ _ _ rfl rfl | (simp; exact ⟨rfl, rfl⟩) | (simp; exact ⟨rfl, rfl, rfl⟩)), ⟨_, rfl, rfl⟩, (by first | (simp; done) | (simp; rfl) | exact clo_map _ _ _ | exact ref_clo _ _ _ rfl rfl | (simp; exact ⟨rfl, rfl⟩) | (simp; exact ⟨rfl, rfl, rfl⟩)), ⟨_, rfl, rfl⟩, (by first | (simp; done) | (simp; rfl) | exact clo_map _ _ _ | exact ref_clo _ _ _ rfl rfl | (simp; exact ⟨rfl, rfl⟩) | (simp; exact ⟨rfl, rfl, rfl⟩)), trivial⟩ ⟨rfl, rfl, rfl, trivial⟩) ?_
      exact ⟨rfl, rarmH s x a w b e⟩
end Go.Proofs.Ytljocbkebhgkoaa
