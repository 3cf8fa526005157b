/-
  CONTRACT: planispherelaw46.DiskMatchesReference answers true. Conditions: the arguments' sizes.
-/
import Derived.Test.YtljocbkebhgkoaaR3
set_option linter.unusedVariables false
set_option linter.unusedSimpArgs false
set_option maxRecDepth 100000
namespace Go.Abs
section
variable {P : Program} {N : Nat} {o : Oper} {E : Env} {H : Heap} {t t' : TypeId} {x y : Operand} {k : IntKind} {n m : Int} {b : Bool}
theorem opd_lssL (ho : o.op = .binOp .lss t x y t') (hx : aeval E x = some (.pv (.int k n))) (hy : aeval E y = some (.pv (.int k m))) (hb : decide (n < m) = b) : OpD P N o E H (.pv (.bool b)) H := by
  rw [← hb]; exact opd_lss ho hx hy
theorem opd_gtrL (ho : o.op = .binOp .gtr t x y t') (hx : aeval E x = some (.pv (.int k n))) (hy : aeval E y = some (.pv (.int k m))) (hb : decide (m < n) = b) : OpD P N o E H (.pv (.bool b)) H := by
  rw [← hb]; exact opd_gtr ho hx hy
end
end Go.Abs
namespace Go.Proofs.Ytljocbkebhgkoaa
open Go.Abs

theorem pos_fail {s : DSt} (h : armPos s) (w b : Int) : armPos (dFail s w b) := by
  unfold dFail
  split
  · exact h
  · exact fun a w b h => (disarm_on h).elim
theorem pos_count {s : DSt} (h : armPos s) : armPos (dCount s) := by
  unfold dCount
  split
  · next a w b e =>
    split
    · intro a' w' b' he; cases he; omega
    · exact pos_fail h w b
  · exact h
theorem pos_do {s : DSt} (h : armPos s) (a : GAct) : armPos (doSt s a) := by
  unfold doSt
  repeat' split
  · unfold dWrite
    split
    · exact h
    · split
      · exact pos_count (fun a w b e => h a w b e)
      · exact h
  · exact h
  · unfold dSync
    split
    · exact h
    · split
      · exact fun a w b e => pos_count h a w b e
      · exact pos_count h
  · exact pos_fail h _ _
  · exact fun a w b h => (disarm_on h).elim
  · unfold dArm
    split
    · exact h
    · split
      · next h0 => intro a' w' b' he; cases he; exact h0
      · exact fun a w b h => (disarm_on h).elim
  · unfold dRot
    split <;> exact fun a w b e => h a w b e
  · exact h
theorem pos_run : ∀ (l : List GAct) {s : DSt}, armPos s → armPos (runAll s l)
  | [], s, h => h
  | a :: l, s, h => pos_run l (pos_do h a)
theorem rnewF_c (n : Nat) (H : Heap) (h1 : 1 ≤ n) (h2 : n ≤ 8000) (g0 : H.get 1100 = none) (g1 : H.get 1101 = none) (g2 : H.get 1102 = none) :
    ACalls Try.prog 25 [iv (n : Int)] H (fun r H' => r = .ref 1100 0 0 0 ∧ H' = refH (dNew n) ⟨n, 0, 0, 0, 0⟩ ++ H) := by
  refine (rnew_c n h1 h2).frame (fun _ _ h => by cases h) (fun _ _ h => by cases h) (by simp) (fun id h => ?_)
  right
  simp only [refH, Heap.get] at h
  cases e0 : Nat.beq 1100 id with
  | true => rw [← Nat.eq_of_beq_eq_true e0]; exact g0
  | false =>
    cases e1 : Nat.beq 1101 id with
    | true => rw [← Nat.eq_of_beq_eq_true e1]; exact g1
    | false =>
      cases e2 : Nat.beq 1102 id with
      | true => rw [← Nat.eq_of_beq_eq_true e2]; exact g2
      | false => simp [e0, e1, e2] at h
theorem diskMatches_c (raw : Int) (sectors : Int) (l : List GAct) (H : Heap) (h0 : 0 ≤ raw) (h1 : raw ≤ 255) (hl : szActs 1048576 l) :
    ACalls Try.prog 6 [.pv (.int .u8 raw), iv sectors, .pv (slActs l)] H (fun r H' => r = bv true ∧ H' = H) := by
  refine ACalls.pure ?_ (by simp) H
  have hml : (l.map encAct).length = l.length := List.length_map _
  have hl1 := hl.1
  obtain ⟨n, hn⟩ : ∃ n, n = gSize raw := ⟨_, rfl⟩
  have hsz : ∀ H, ACalls Try.prog 24 [.pv (.int .u8 raw)] H (fun r H' => r = iv (n : Nat) ∧ H' = H) := fun H => by rw [hn]; exact size_c raw H h0 h1
  obtain ⟨hn1, hn2⟩ : 1 ≤ n ∧ n ≤ 12 := by rw [hn]; exact gSize_le raw
  clear hn
  refine ACalls.body Try.func6 rfl Try.ntmps6 (Nat.le_of_ble_eq_true rfl) ?_
  refine awp_seq ?_
  refine awp_region ?_
  refine al_d rfl rfl rfl (by exact opd_assign rfl rfl) ?_
  refine al_nil ?_
  refine awp_seq ?_
  refine awp_region ?_
  refine al_d rfl rfl rfl (by exact opr_call rfl rfl Try.call21 rfl (head_c _)) ?_
  refine al_d rfl rfl rfl (by exact opd_assign rfl rfl) ?_
  refine al_nil ?_
  refine awp_seq ?_
  refine awp_seq ?_
  refine awp_region ?_
  refine al_d rfl rfl rfl (by exact opd_move rfl rfl) ?_
  refine al_d rfl rfl rfl (by exact opr_call rfl rfl Try.call22 rfl (ok_c l _ (by omega))) ?_
  refine al_d rfl rfl rfl (by exact opd_not rfl rfl) ?_
  refine al_nil ?_
  refine awp_cond rfl (fun hc1 => ?_) (fun hc1 => ?_)
  -- cond 1
  · skip
    refine awp_seq ?_
    refine awp_region ?_
    refine al_d rfl rfl rfl (by exact opd_move rfl rfl) ?_
    refine al_d rfl rfl rfl (by exact opd_assign rfl rfl) ?_
    refine al_nil ?_
    refine awp_ret ?_
    -- return
    refine aret1 (H' := []) (by first | exact .inr rfl | exact .inl rfl) rfl (rval_tmp rfl) (Fin.wk (by simp) trivial trivial) ?_
    exact ⟨rfl, rfl⟩
  · have hkl : gOk l = true := by
      have h : (!gOk l) = false := hc1
      simpa using h
    have hkl := (gOk_len hkl).1
    refine awp_skip ?_
    refine awp_seq ?_
    refine awp_seq_to ([(0, .pv (.int .u8 raw)), (2, .pv (slActs l)), (7, bv true), (34, bv false)]) ([]) ?_ ?_
    -- seqto
    · skip
      by_cases q1 : sectors < 1
      · have n1 : decide (sectors < 1) = true := decide_eq_true q1
        refine awp_region ?_
        refine al_d rfl rfl rfl (by exact opd_move rfl rfl) ?_
        refine al_d rfl rfl rfl (by exact opr_call rfl rfl Try.call23 rfl (new_bad sectors _ (by omega))) ?_
        refine al_d rfl rfl rfl (by exact (by first | exact opd_peq_ref rfl Try.underlying46 rfl rfl rfl rfl | exact opd_peq_nil rfl Try.underlying46 rfl rfl)) ?_
        refine al_d rfl rfl rfl (by exact opd_move rfl rfl) ?_
        refine al_d rfl rfl rfl (by exact opd_lss rfl rfl rfl) ?_
        refine al_d rfl rfl rfl (by exact opd_move rfl rfl) ?_
        refine al_off rfl rfl rfl (by first | rfl | assumption) rfl ?_
        refine al_off rfl rfl rfl (by first | rfl | assumption) rfl ?_
        refine al_d rfl rfl rfl (by exact (by first | exact opd_pick_t rfl rfl rfl | exact opd_pick_f rfl rfl rfl | exact opd_pickt rfl rfl (by assumption) rfl | exact opd_pickf rfl rfl (by assumption) rfl | exact opd_pick rfl rfl rfl)) ?_
        refine al_d rfl rfl rfl (by exact opd_bneq rfl Try.underlying4 rfl rfl) ?_
        refine al_nil ?_
        -- end of the piece
        exact (Ent.wk ⟨⟨_, rfl, rfl⟩, (by first | (simp; done) | (simp; rfl) | exact clo_map _ _ _ | exact clo_brows _ _ | exact disk_clo _ _ rfl rfl rfl | exact ref_clo _ _ _ rfl rfl | exact arm_clo _ _ | (simp; exact ⟨rfl, rfl⟩) | (simp; exact ⟨rfl, rfl, rfl⟩)), ⟨_, rfl, rfl⟩, (by first | (simp; done) | (simp; rfl) | exact clo_map _ _ _ | exact clo_brows _ _ | exact disk_clo _ _ rfl rfl rfl | exact ref_clo _ _ _ rfl rfl | exact arm_clo _ _ | (simp; exact ⟨rfl, rfl⟩) | (simp; exact ⟨rfl, rfl, rfl⟩)), ⟨_, rfl, rfl⟩, (by first | (simp; done) | (simp; rfl) | exact clo_map _ _ _ | exact clo_brows _ _ | exact disk_clo _ _ rfl rfl rfl | exact ref_clo _ _ _ rfl rfl | exact arm_clo _ _ | (simp; exact ⟨rfl, rfl⟩) | (simp; exact ⟨rfl, rfl, rfl⟩)), ⟨_, rfl, rfl⟩, (by first | (simp; done) | (simp; rfl) | exact clo_map _ _ _ | exact clo_brows _ _ | exact disk_clo _ _ rfl rfl rfl | exact ref_clo _ _ _ rfl rfl | exact arm_clo _ _ | (simp; exact ⟨rfl, rfl⟩) | (simp; exact ⟨rfl, rfl, rfl⟩)), trivial⟩ trivial trivial)
      · have n1 : decide (sectors < 1) = false := decide_eq_false q1
        by_cases q2 : 8000 < sectors
        · have n2 : decide (8000 < sectors) = true := decide_eq_true q2
          refine awp_region ?_
          refine al_d rfl rfl rfl (by exact opd_move rfl rfl) ?_
          refine al_d rfl rfl rfl (by exact opr_call rfl rfl Try.call23 rfl (new_bad sectors _ (by omega))) ?_
          refine al_d rfl rfl rfl (by exact (by first | exact opd_peq_ref rfl Try.underlying46 rfl rfl rfl rfl | exact opd_peq_nil rfl Try.underlying46 rfl rfl)) ?_
          refine al_d rfl rfl rfl (by exact opd_move rfl rfl) ?_
          refine al_d rfl rfl rfl (by exact opd_lss rfl rfl rfl) ?_
          refine al_d rfl rfl rfl (by exact opd_move rfl rfl) ?_
          refine al_ond rfl rfl rfl (by first | rfl | assumption) rfl rfl (by exact opd_move rfl rfl) ?_
          refine al_ond rfl rfl rfl (by first | rfl | assumption) rfl rfl (by exact opd_gtrL rfl rfl rfl n2) ?_
          refine al_d rfl rfl rfl (by exact (by first | exact opd_pick_t rfl rfl rfl | exact opd_pick_f rfl rfl rfl | exact opd_pickt rfl rfl (by assumption) rfl | exact opd_pickf rfl rfl (by assumption) rfl | exact opd_pick rfl rfl rfl)) ?_
          refine al_d rfl rfl rfl (by exact opd_bneq rfl Try.underlying4 rfl rfl) ?_
          refine al_nil ?_
          -- end of the piece
          exact (Ent.wk ⟨⟨_, rfl, rfl⟩, (by first | (simp; done) | (simp; rfl) | exact clo_map _ _ _ | exact clo_brows _ _ | exact disk_clo _ _ rfl rfl rfl | exact ref_clo _ _ _ rfl rfl | exact arm_clo _ _ | (simp; exact ⟨rfl, rfl⟩) | (simp; exact ⟨rfl, rfl, rfl⟩)), ⟨_, rfl, rfl⟩, (by first | (simp; done) | (simp; rfl) | exact clo_map _ _ _ | exact clo_brows _ _ | exact disk_clo _ _ rfl rfl rfl | exact ref_clo _ _ _ rfl rfl | exact arm_clo _ _ | (simp; exact ⟨rfl, rfl⟩) | (simp; exact ⟨rfl, rfl, rfl⟩)), ⟨_, rfl, rfl⟩, (by first | (simp; done) | (simp; rfl) | exact clo_map _ _ _ | exact clo_brows _ _ | exact disk_clo _ _ rfl rfl rfl | exact ref_clo _ _ _ rfl rfl | exact arm_clo _ _ | (simp; exact ⟨rfl, rfl⟩) | (simp; exact ⟨rfl, rfl, rfl⟩)), ⟨_, rfl, rfl⟩, (by first | (simp; done) | (simp; rfl) | exact clo_map _ _ _ | exact clo_brows _ _ | exact disk_clo _ _ rfl rfl rfl | exact ref_clo _ _ _ rfl rfl | exact arm_clo _ _ | (simp; exact ⟨rfl, rfl⟩) | (simp; exact ⟨rfl, rfl, rfl⟩)), trivial⟩ trivial trivial)
        · have n2 : decide (8000 < sectors) = false := decide_eq_false q2
          obtain ⟨k, rfl⟩ : ∃ k : Nat, sectors = (k : Int) := ⟨sectors.toNat, by omega⟩
          refine awp_region ?_
          refine al_d rfl rfl rfl (by exact opd_move rfl rfl) ?_
          refine al_d rfl rfl rfl (by exact opr_call rfl rfl Try.call23 rfl (newF_c k _ (by omega) (by omega) rfl rfl rfl rfl)) ?_
          refine al_d rfl rfl rfl (by exact (by first | exact opd_peq_ref rfl Try.underlying46 rfl rfl rfl rfl | exact opd_peq_nil rfl Try.underlying46 rfl rfl)) ?_
          refine al_d rfl rfl rfl (by exact opd_move rfl rfl) ?_
          refine al_d rfl rfl rfl (by exact opd_lss rfl rfl rfl) ?_
          refine al_d rfl rfl rfl (by exact opd_move rfl rfl) ?_
          refine al_ond rfl rfl rfl (by first | rfl | assumption) rfl rfl (by exact opd_move rfl rfl) ?_
          refine al_ond rfl rfl rfl (by first | rfl | assumption) rfl rfl (by exact opd_gtrL rfl rfl rfl n2) ?_
          refine al_d rfl rfl rfl (by exact (by first | exact opd_pick_t rfl rfl rfl | exact opd_pick_f rfl rfl rfl | exact opd_pickt rfl rfl (by assumption) rfl | exact opd_pickf rfl rfl (by assumption) rfl | exact opd_pick rfl rfl rfl)) ?_
          refine al_d rfl rfl rfl (by exact opd_bneq rfl Try.underlying4 rfl rfl) ?_
          refine al_nil ?_
          -- end of the piece
          exact (Ent.wk ⟨⟨_, rfl, rfl⟩, (by first | (simp; done) | (simp; rfl) | exact clo_map _ _ _ | exact clo_brows _ _ | exact disk_clo _ _ rfl rfl rfl | exact ref_clo _ _ _ rfl rfl | exact arm_clo _ _ | (simp; exact ⟨rfl, rfl⟩) | (simp; exact ⟨rfl, rfl, rfl⟩)), ⟨_, rfl, rfl⟩, (by first | (simp; done) | (simp; rfl) | exact clo_map _ _ _ | exact clo_brows _ _ | exact disk_clo _ _ rfl rfl rfl | exact ref_clo _ _ _ rfl rfl | exact arm_clo _ _ | (simp; exact ⟨rfl, rfl⟩) | (simp; exact ⟨rfl, rfl, rfl⟩)), ⟨_, rfl, rfl⟩, (by first | (simp; done) | (simp; rfl) | exact clo_map _ _ _ | exact clo_brows _ _ | exact disk_clo _ _ rfl rfl rfl | exact ref_clo _ _ _ rfl rfl | exact arm_clo _ _ | (simp; exact ⟨rfl, rfl⟩) | (simp; exact ⟨rfl, rfl, rfl⟩)), ⟨_, rfl, rfl⟩, (by first | (simp; done) | (simp; rfl) | exact clo_map _ _ _ | exact clo_brows _ _ | exact disk_clo _ _ rfl rfl rfl | exact ref_clo _ _ _ rfl rfl | exact arm_clo _ _ | (simp; exact ⟨rfl, rfl⟩) | (simp; exact ⟨rfl, rfl, rfl⟩)), trivial⟩ trivial trivial)
    · obtain ⟨s0, hs0, hi0, hnew⟩ := new_any n hn1 hn2
      have hpos0 : armPos s0 := by rw [hs0]; exact fun a w b h => by cases h
      have hrnew := fun H g0 g1 g2 => rnewF_c n H hn1 (by omega) g0 g1 g2
      rw [← hs0] at hrnew
      clear hs0
      refine awp_cond rfl (fun hc2 => ?_) (fun hc2 => ?_)
      -- cond 2
      · skip
        (first | (cases hc2; done) | (revert hc2; simp; done) | (revert hc2; simp_all; done) | (revert hc2; simp_all; omega))
      · skip
        refine awp_skip ?_
        refine awp_seq ?_
        refine awp_region ?_
        refine al_d rfl rfl rfl (by exact opd_move rfl rfl) ?_
        refine al_d rfl rfl rfl (by exact opr_call rfl rfl Try.call24 rfl (hsz _)) ?_
        refine al_d rfl rfl rfl (by exact opr_call rfl rfl Try.call23 rfl (hnew _ rfl rfl rfl rfl)) ?_
        refine al_d rfl rfl rfl (by exact opd_assign rfl rfl) ?_
        refine al_nil ?_
        refine awp_seq ?_
        refine awp_region ?_
        refine al_d rfl rfl rfl (by exact opd_move rfl rfl) ?_
        refine al_d rfl rfl rfl (by exact opr_call rfl rfl Try.call24 rfl (hsz _)) ?_
        refine al_d rfl rfl rfl (by exact opr_call rfl rfl Try.call25 rfl (hrnew _ rfl rfl rfl)) ?_
        refine al_d rfl rfl rfl (by exact opd_assign rfl rfl) ?_
        refine al_nil ?_
        refine awp_seq ?_
        refine awp_seq ?_
        refine awp_region ?_
        refine al_d rfl rfl rfl (by exact opd_assign rfl rfl) ?_
        refine al_nil ?_
        refine awp_block ?_
        -- loop
        refine awp_loop2 (fun (i : Nat) (x : RX) => ([(0, .pv (.int .u8 raw)), (2, .pv (slActs l)), (7, bv true), (8, .ref 1000 0 0 0), (9, .ref 1100 0 0 0), (10, iv (i : Int))], diskH (runAll s0 (l.take i)) ++ refH (runAll s0 (l.take i)) x)) (fun i _ => i ≤ l.length) (fun i _ => l.length - i) 0 ⟨n, 0, 0, 0, 0⟩ (by omega) ?_ ?_
        · exact (Ent.wk ⟨⟨_, rfl, rfl⟩, (by first | (simp; done) | (simp; rfl) | exact clo_map _ _ _ | exact clo_brows _ _ | exact disk_clo _ _ rfl rfl rfl | exact ref_clo _ _ _ rfl rfl | exact arm_clo _ _ | (simp; exact ⟨rfl, rfl⟩) | (simp; exact ⟨rfl, rfl, rfl⟩)), ⟨_, rfl, rfl⟩, (by first | (simp; done) | (simp; rfl) | exact clo_map _ _ _ | exact clo_brows _ _ | exact disk_clo _ _ rfl rfl rfl | exact ref_clo _ _ _ rfl rfl | exact arm_clo _ _ | (simp; exact ⟨rfl, rfl⟩) | (simp; exact ⟨rfl, rfl, rfl⟩)), ⟨_, rfl, rfl⟩, (by first | (simp; done) | (simp; rfl) | exact clo_map _ _ _ | exact clo_brows _ _ | exact disk_clo _ _ rfl rfl rfl | exact ref_clo _ _ _ rfl rfl | exact arm_clo _ _ | (simp; exact ⟨rfl, rfl⟩) | (simp; exact ⟨rfl, rfl, rfl⟩)), ⟨_, rfl, rfl⟩, (by first | (simp; done) | (simp; rfl) | exact clo_map _ _ _ | exact clo_brows _ _ | exact disk_clo _ _ rfl rfl rfl | exact ref_clo _ _ _ rfl rfl | exact arm_clo _ _ | (simp; exact ⟨rfl, rfl⟩) | (simp; exact ⟨rfl, rfl, rfl⟩)), ⟨_, rfl, rfl⟩, (by first | (simp; done) | (simp; rfl) | exact clo_map _ _ _ | exact clo_brows _ _ | exact disk_clo _ _ rfl rfl rfl | exact ref_clo _ _ _ rfl rfl | exact arm_clo _ _ | (simp; exact ⟨rfl, rfl⟩) | (simp; exact ⟨rfl, rfl, rfl⟩)), ⟨_, rfl, rfl⟩, (by first | (simp; done) | (simp; rfl) | exact clo_map _ _ _ | exact clo_brows _ _ | exact disk_clo _ _ rfl rfl rfl | exact ref_clo _ _ _ rfl rfl | exact arm_clo _ _ | (simp; exact ⟨rfl, rfl⟩) | (simp; exact ⟨rfl, rfl, rfl⟩)), trivial⟩ ⟨⟨_, rfl, rfl⟩, (by first | (simp; done) | (simp; rfl) | exact clo_map _ _ _ | exact clo_brows _ _ | exact disk_clo _ _ rfl rfl rfl | exact ref_clo _ _ _ rfl rfl | exact arm_clo _ _ | (simp; exact ⟨rfl, rfl⟩) | (simp; exact ⟨rfl, rfl, rfl⟩)), ⟨_, rfl, rfl⟩, (by first | (simp; done) | (simp; rfl) | exact clo_map _ _ _ | exact clo_brows _ _ | exact disk_clo _ _ rfl rfl rfl | exact ref_clo _ _ _ rfl rfl | exact arm_clo _ _ | (simp; exact ⟨rfl, rfl⟩) | (simp; exact ⟨rfl, rfl, rfl⟩)), ⟨_, rfl, rfl⟩, (by first | (simp; done) | (simp; rfl) | exact clo_map _ _ _ | exact clo_brows _ _ | exact disk_clo _ _ rfl rfl rfl | exact ref_clo _ _ _ rfl rfl | exact arm_clo _ _ | (simp; exact ⟨rfl, rfl⟩) | (simp; exact ⟨rfl, rfl, rfl⟩)), ⟨_, rfl, rfl⟩, (by first | (simp; done) | (simp; rfl) | exact clo_map _ _ _ | exact clo_brows _ _ | exact disk_clo _ _ rfl rfl rfl | exact ref_clo _ _ _ rfl rfl | exact arm_clo _ _ | (simp; exact ⟨rfl, rfl⟩) | (simp; exact ⟨rfl, rfl, rfl⟩)), ⟨_, rfl, rfl⟩, (by first | (simp; done) | (simp; rfl) | exact clo_map _ _ _ | exact clo_brows _ _ | exact disk_clo _ _ rfl rfl rfl | exact ref_clo _ _ _ rfl rfl | exact arm_clo _ _ | (simp; exact ⟨rfl, rfl⟩) | (simp; exact ⟨rfl, rfl, rfl⟩)), ⟨_, rfl, rfl⟩, (by first | (simp; done) | (simp; rfl) | exact clo_map _ _ _ | exact clo_brows _ _ | exact disk_clo _ _ rfl rfl rfl | exact ref_clo _ _ _ rfl rfl | exact arm_clo _ _ | (simp; exact ⟨rfl, rfl⟩) | (simp; exact ⟨rfl, rfl, rfl⟩)), ⟨_, rfl, rfl⟩, (by first | (simp; done) | (simp; rfl) | exact clo_map _ _ _ | exact clo_brows _ _ | exact disk_clo _ _ rfl rfl rfl | exact ref_clo _ _ _ rfl rfl | exact arm_clo _ _ | (simp; exact ⟨rfl, rfl⟩) | (simp; exact ⟨rfl, rfl, rfl⟩)), trivial⟩ trivial)
        · intro i x hi
          have hinv := run_inv hi0 hkl hl.wf hi
          have hpos := pos_run (l.take i) hpos0
          refine awp_seq ?_
          refine awp_seq ?_
          refine awp_region ?_
          refine al_d rfl rfl rfl (by exact opd_move rfl rfl) ?_
          refine al_d rfl rfl rfl (by exact opd_move rfl rfl) ?_
          refine al_d rfl rfl rfl (by exact (by first | exact opd_len_sl rfl Try.underlying44 rfl | exact opd_len_osl rfl Try.underlying44 rfl rfl rfl)) ?_
          refine al_d rfl rfl rfl (by exact opd_lss rfl rfl rfl) ?_
          refine al_nil ?_
          refine awp_cond rfl (fun hc3 => ?_) (fun hc3 => ?_)
          -- cond 3
          · have hlt : i < l.length := by have := of_decide_eq_true hc3; omega
            obtain ⟨a, hai⟩ := get_of_lt hlt
            have hae := map_get (f := encAct) hai
            have hat := hl.txt a (List.mem_of_getElem? hai)
            have hdo := run_do hinv hai hat
            have hwant := want_c (runAll s0 (l.take i)) x a hinv.ok hinv.arm hpos (by have := hinv.q; omega) hat
            rw [← runAll_snoc, ← take_snoc hai] at hwant
            obtain ⟨t, ht⟩ : ∃ t, t = doT (runAll s0 (l.take i)) a := ⟨_, rfl⟩
            obtain ⟨e, he⟩ : ∃ e, e = doE (runAll s0 (l.take i)) a := ⟨_, rfl⟩
            rw [← ht, ← he] at hdo hwant
            have d1 : (!decide (t = t)) = false := by simp
            have d2 : (!decide (e = e)) = false := by simp
            refine awp_skip ?_
            refine awp_seq ?_
            refine awp_block ?_
            refine awp_seq ?_
            refine awp_region ?_
            refine al_d rfl rfl rfl (by exact opd_move rfl rfl) ?_
            refine al_d rfl rfl rfl (by exact opd_move rfl rfl) ?_
            refine al_d rfl rfl rfl (by exact opd_move rfl rfl) ?_
            refine al_d rfl rfl rfl (by exact (by first | exact x_index_pad rfl so44 rfl rfl (by omega) (by first | exact Int.toNat_natCast _ | rfl) (by assumption) rfl | exact x_index_osl rfl so44 rfl rfl rfl rfl rfl (by omega) (by first | exact Int.toNat_natCast _ | rfl) (by first | omega | assumption) rfl)) ?_
            refine al_d rfl rfl rfl (by exact (by first | exact opd_loadn_ref rfl Try.isAgg55 Try.sizeOf55 rfl rfl rfl rfl (by simp only [List.drop_succ_cons, List.drop_zero, List.take_succ_cons, List.take_zero, List.take_nil, List.map_cons, List.map_nil, List.set_cons_zero, List.set_cons_succ, List.cons_append, List.nil_append, encQ, armR, dRow, encAct]; rfl) rfl | exact opd_loadn_pad rfl Try.isAgg55 Try.sizeOf55 rfl (by first | omega | assumption) (by simp only [List.drop_succ_cons, List.drop_zero, List.take_succ_cons, List.take_zero, List.take_nil, List.map_cons, List.map_nil, List.set_cons_zero, List.set_cons_succ, List.cons_append, List.nil_append, encQ, armR, dRow, encAct]; rfl) rfl)) ?_
            refine al_d rfl rfl rfl (by exact opr_call rfl rfl Try.call26 rfl (disk_frame hdo _ ⟨rfl, rfl, rfl, rfl, trivial⟩ (by simp [encAct]; rfl))) ?_
            refine al_d rfl rfl rfl (by exact opd_move rfl rfl) ?_
            refine al_d rfl rfl rfl (by exact opd_extract rfl rfl rfl) ?_
            refine al_d rfl rfl rfl (by exact opd_extract rfl rfl rfl) ?_
            refine al_d rfl rfl rfl (by exact opd_assign rfl rfl) ?_
            refine al_d rfl rfl rfl (by exact opd_assign rfl rfl) ?_
            refine al_nil ?_
            refine awp_seq ?_
            refine awp_region ?_
            refine al_d rfl rfl rfl (by exact opd_move rfl rfl) ?_
            refine al_d rfl rfl rfl (by exact opd_move rfl rfl) ?_
            refine al_d rfl rfl rfl (by exact opd_move rfl rfl) ?_
            refine al_d rfl rfl rfl (by exact (by first | exact x_index_pad rfl so44 rfl rfl (by omega) (by first | exact Int.toNat_natCast _ | rfl) (by assumption) rfl | exact x_index_osl rfl so44 rfl rfl rfl rfl rfl (by omega) (by first | exact Int.toNat_natCast _ | rfl) (by first | omega | assumption) rfl)) ?_
            refine al_d rfl rfl rfl (by exact (by first | exact opd_loadn_ref rfl Try.isAgg55 Try.sizeOf55 rfl rfl rfl rfl (by simp only [List.drop_succ_cons, List.drop_zero, List.take_succ_cons, List.take_zero, List.take_nil, List.map_cons, List.map_nil, List.set_cons_zero, List.set_cons_succ, List.cons_append, List.nil_append, encQ, armR, dRow, encAct]; rfl) rfl | exact opd_loadn_pad rfl Try.isAgg55 Try.sizeOf55 rfl (by first | omega | assumption) (by simp only [List.drop_succ_cons, List.drop_zero, List.take_succ_cons, List.take_zero, List.take_nil, List.map_cons, List.map_nil, List.set_cons_zero, List.set_cons_succ, List.cons_append, List.nil_append, encQ, armR, dRow, encAct]; rfl) rfl)) ?_
            refine al_d rfl rfl rfl (by exact opr_call rfl rfl Try.call27 rfl (ref_frame hwant _ ⟨rfl, rfl, rfl, trivial⟩ (by simp [encAct]; rfl))) ?_
            refine al_d rfl rfl rfl (by exact opd_move rfl rfl) ?_
            refine al_d rfl rfl rfl (by exact opd_extract rfl rfl rfl) ?_
            refine al_d rfl rfl rfl (by exact opd_extract rfl rfl rfl) ?_
            refine al_d rfl rfl rfl (by exact opd_assign rfl rfl) ?_
            refine al_d rfl rfl rfl (by exact opd_assign rfl rfl) ?_
            refine al_nil ?_
            refine awp_seq ?_
            refine awp_region ?_
            refine al_d rfl rfl rfl (by exact opd_move rfl rfl) ?_
            refine al_d rfl rfl rfl (by exact opd_move rfl rfl) ?_
            refine al_d rfl rfl rfl (by exact opd_sneq rfl rfl rfl) ?_
            refine al_d rfl rfl rfl (by exact opd_move rfl rfl) ?_
            refine al_ond rfl rfl rfl (by first | rfl | assumption) rfl rfl (by exact opd_move rfl rfl) ?_
            refine al_ond rfl rfl rfl (by first | rfl | assumption) rfl rfl (by exact opd_move rfl rfl) ?_
            refine al_ond rfl rfl rfl (by first | rfl | assumption) rfl rfl (by exact opd_neq rfl rfl rfl) ?_
            refine al_d rfl rfl rfl (by exact (by first | exact opd_pick_t rfl rfl rfl | exact opd_pick_f rfl rfl rfl | exact opd_pickt rfl rfl (by assumption) rfl | exact opd_pickf rfl rfl (by assumption) rfl | exact opd_pick rfl rfl rfl)) ?_
            refine al_nil ?_
            refine awp_cond rfl (fun hc4 => ?_) (fun hc4 => ?_)
            -- cond 4
            · rw [d2] at hc4; cases hc4
            · skip
              refine awp_skip ?_
              refine awp_region ?_
              refine al_d rfl rfl rfl (by exact opd_move rfl rfl) ?_
              refine al_d rfl rfl rfl (by exact opd_add rfl rfl rfl (by first | exact w64 (by omega) (by omega) | exact wu8 (by omega) (by omega) | rfl)) ?_
              refine al_d rfl rfl rfl (by exact opd_assign rfl rfl) ?_
              refine al_nil ?_
              -- end of a round
              exact ⟨i + 1, xDo (runAll s0 (l.take i)) x a, by omega, by omega, (Ent.wk ⟨⟨_, rfl, rfl⟩, (by first | (simp; done) | (simp; rfl) | exact clo_map _ _ _ | exact clo_brows _ _ | exact disk_clo _ _ rfl rfl rfl | exact ref_clo _ _ _ rfl rfl | exact arm_clo _ _ | (simp; exact ⟨rfl, rfl⟩) | (simp; exact ⟨rfl, rfl, rfl⟩)), ⟨_, rfl, rfl⟩, (by first | (simp; done) | (simp; rfl) | exact clo_map _ _ _ | exact clo_brows _ _ | exact disk_clo _ _ rfl rfl rfl | exact ref_clo _ _ _ rfl rfl | exact arm_clo _ _ | (simp; exact ⟨rfl, rfl⟩) | (simp; exact ⟨rfl, rfl, rfl⟩)), ⟨_, rfl, rfl⟩, (by first | (simp; done) | (simp; rfl) | exact clo_map _ _ _ | exact clo_brows _ _ | exact disk_clo _ _ rfl rfl rfl | exact ref_clo _ _ _ rfl rfl | exact arm_clo _ _ | (simp; exact ⟨rfl, rfl⟩) | (simp; exact ⟨rfl, rfl, rfl⟩)), ⟨_, rfl, rfl⟩, (by first | (simp; done) | (simp; rfl) | exact clo_map _ _ _ | exact clo_brows _ _ | exact disk_clo _ _ rfl rfl rfl | exact ref_clo _ _ _ rfl rfl | exact arm_clo _ _ | (simp; exact ⟨rfl, rfl⟩) | (simp; exact ⟨rfl, rfl, rfl⟩)), ⟨_, rfl, rfl⟩, (by first | (simp; done) | (simp; rfl) | exact clo_map _ _ _ | exact clo_brows _ _ | exact disk_clo _ _ rfl rfl rfl | exact ref_clo _ _ _ rfl rfl | exact arm_clo _ _ | (simp; exact ⟨rfl, rfl⟩) | (simp; exact ⟨rfl, rfl, rfl⟩)), ⟨_, rfl, rfl⟩, (by first | (simp; done) | (simp; rfl) | exact clo_map _ _ _ | exact clo_brows _ _ | exact disk_clo _ _ rfl rfl rfl | exact ref_clo _ _ _ rfl rfl | exact arm_clo _ _ | (simp; exact ⟨rfl, rfl⟩) | (simp; exact ⟨rfl, rfl, rfl⟩)), trivial⟩ ⟨⟨_, rfl, rfl⟩, (by first | (simp; done) | (simp; rfl) | exact clo_map _ _ _ | exact clo_brows _ _ | exact disk_clo _ _ rfl rfl rfl | exact ref_clo _ _ _ rfl rfl | exact arm_clo _ _ | (simp; exact ⟨rfl, rfl⟩) | (simp; exact ⟨rfl, rfl, rfl⟩)), ⟨_, rfl, rfl⟩, (by first | (simp; done) | (simp; rfl) | exact clo_map _ _ _ | exact clo_brows _ _ | exact disk_clo _ _ rfl rfl rfl | exact ref_clo _ _ _ rfl rfl | exact arm_clo _ _ | (simp; exact ⟨rfl, rfl⟩) | (simp; exact ⟨rfl, rfl, rfl⟩)), ⟨_, rfl, rfl⟩, (by first | (simp; done) | (simp; rfl) | exact clo_map _ _ _ | exact clo_brows _ _ | exact disk_clo _ _ rfl rfl rfl | exact ref_clo _ _ _ rfl rfl | exact arm_clo _ _ | (simp; exact ⟨rfl, rfl⟩) | (simp; exact ⟨rfl, rfl, rfl⟩)), ⟨_, rfl, rfl⟩, (by first | (simp; done) | (simp; rfl) | exact clo_map _ _ _ | exact clo_brows _ _ | exact disk_clo _ _ rfl rfl rfl | exact ref_clo _ _ _ rfl rfl | exact arm_clo _ _ | (simp; exact ⟨rfl, rfl⟩) | (simp; exact ⟨rfl, rfl, rfl⟩)), ⟨_, rfl, rfl⟩, (by first | (simp; done) | (simp; rfl) | exact clo_map _ _ _ | exact clo_brows _ _ | exact disk_clo _ _ rfl rfl rfl | exact ref_clo _ _ _ rfl rfl | exact arm_clo _ _ | (simp; exact ⟨rfl, rfl⟩) | (simp; exact ⟨rfl, rfl, rfl⟩)), ⟨_, rfl, rfl⟩, (by first | (simp; done) | (simp; rfl) | exact clo_map _ _ _ | exact clo_brows _ _ | exact disk_clo _ _ rfl rfl rfl | exact ref_clo _ _ _ rfl rfl | exact arm_clo _ _ | (simp; exact ⟨rfl, rfl⟩) | (simp; exact ⟨rfl, rfl, rfl⟩)), ⟨_, rfl, rfl⟩, (by first | (simp; done) | (simp; rfl) | exact clo_map _ _ _ | exact clo_brows _ _ | exact disk_clo _ _ rfl rfl rfl | exact ref_clo _ _ _ rfl rfl | exact arm_clo _ _ | (simp; exact ⟨rfl, rfl⟩) | (simp; exact ⟨rfl, rfl, rfl⟩)), trivial⟩ trivial)⟩
          · have hge : i = l.length := by have : ¬ _ := of_decide_eq_false hc3; omega
            subst hge
            rw [List.take_length] at hinv ⊢
            obtain ⟨s1, hs1⟩ : ∃ s, s = runAll s0 l := ⟨_, rfl⟩
            rw [← hs1] at hinv ⊢
            clear hs1
            refine awp_exit ?_
            refine awp_seq ?_
            refine awp_seq ?_
            refine awp_region ?_
            refine al_d rfl rfl rfl (by exact opd_assign rfl rfl) ?_
            refine al_nil ?_
            refine awp_block ?_
            -- loop
            refine awp_loop (σ := Nat) (fun j => ([(0, .pv (.int .u8 raw)), (7, bv true), (8, .ref 1000 0 0 0), (9, .ref 1100 0 0 0), (15, iv (j : Int))], diskH s1 ++ refH s1 x)) (fun j => j ≤ n) (fun j => n - j) 0 (by omega) ?_ ?_
            · exact (Ent.wk ⟨⟨_, rfl, rfl⟩, (by first | (simp; done) | (simp; rfl) | exact clo_map _ _ _ | exact clo_brows _ _ | exact disk_clo _ _ rfl rfl rfl | exact ref_clo _ _ _ rfl rfl | exact arm_clo _ _ | (simp; exact ⟨rfl, rfl⟩) | (simp; exact ⟨rfl, rfl, rfl⟩)), ⟨_, rfl, rfl⟩, (by first | (simp; done) | (simp; rfl) | exact clo_map _ _ _ | exact clo_brows _ _ | exact disk_clo _ _ rfl rfl rfl | exact ref_clo _ _ _ rfl rfl | exact arm_clo _ _ | (simp; exact ⟨rfl, rfl⟩) | (simp; exact ⟨rfl, rfl, rfl⟩)), ⟨_, rfl, rfl⟩, (by first | (simp; done) | (simp; rfl) | exact clo_map _ _ _ | exact clo_brows _ _ | exact disk_clo _ _ rfl rfl rfl | exact ref_clo _ _ _ rfl rfl | exact arm_clo _ _ | (simp; exact ⟨rfl, rfl⟩) | (simp; exact ⟨rfl, rfl, rfl⟩)), ⟨_, rfl, rfl⟩, (by first | (simp; done) | (simp; rfl) | exact clo_map _ _ _ | exact clo_brows _ _ | exact disk_clo _ _ rfl rfl rfl | exact ref_clo _ _ _ rfl rfl | exact arm_clo _ _ | (simp; exact ⟨rfl, rfl⟩) | (simp; exact ⟨rfl, rfl, rfl⟩)), ⟨_, rfl, rfl⟩, (by first | (simp; done) | (simp; rfl) | exact clo_map _ _ _ | exact clo_brows _ _ | exact disk_clo _ _ rfl rfl rfl | exact ref_clo _ _ _ rfl rfl | exact arm_clo _ _ | (simp; exact ⟨rfl, rfl⟩) | (simp; exact ⟨rfl, rfl, rfl⟩)), trivial⟩ ⟨⟨_, rfl, rfl⟩, (by first | (simp; done) | (simp; rfl) | exact clo_map _ _ _ | exact clo_brows _ _ | exact disk_clo _ _ rfl rfl rfl | exact ref_clo _ _ _ rfl rfl | exact arm_clo _ _ | (simp; exact ⟨rfl, rfl⟩) | (simp; exact ⟨rfl, rfl, rfl⟩)), ⟨_, rfl, rfl⟩, (by first | (simp; done) | (simp; rfl) | exact clo_map _ _ _ | exact clo_brows _ _ | exact disk_clo _ _ rfl rfl rfl | exact ref_clo _ _ _ rfl rfl | exact arm_clo _ _ | (simp; exact ⟨rfl, rfl⟩) | (simp; exact ⟨rfl, rfl, rfl⟩)), ⟨_, rfl, rfl⟩, (by first | (simp; done) | (simp; rfl) | exact clo_map _ _ _ | exact clo_brows _ _ | exact disk_clo _ _ rfl rfl rfl | exact ref_clo _ _ _ rfl rfl | exact arm_clo _ _ | (simp; exact ⟨rfl, rfl⟩) | (simp; exact ⟨rfl, rfl, rfl⟩)), ⟨_, rfl, rfl⟩, (by first | (simp; done) | (simp; rfl) | exact clo_map _ _ _ | exact clo_brows _ _ | exact disk_clo _ _ rfl rfl rfl | exact ref_clo _ _ _ rfl rfl | exact arm_clo _ _ | (simp; exact ⟨rfl, rfl⟩) | (simp; exact ⟨rfl, rfl, rfl⟩)), ⟨_, rfl, rfl⟩, (by first | (simp; done) | (simp; rfl) | exact clo_map _ _ _ | exact clo_brows _ _ | exact disk_clo _ _ rfl rfl rfl | exact ref_clo _ _ _ rfl rfl | exact arm_clo _ _ | (simp; exact ⟨rfl, rfl⟩) | (simp; exact ⟨rfl, rfl, rfl⟩)), ⟨_, rfl, rfl⟩, (by first | (simp; done) | (simp; rfl) | exact clo_map _ _ _ | exact clo_brows _ _ | exact disk_clo _ _ rfl rfl rfl | exact ref_clo _ _ _ rfl rfl | exact arm_clo _ _ | (simp; exact ⟨rfl, rfl⟩) | (simp; exact ⟨rfl, rfl, rfl⟩)), ⟨_, rfl, rfl⟩, (by first | (simp; done) | (simp; rfl) | exact clo_map _ _ _ | exact clo_brows _ _ | exact disk_clo _ _ rfl rfl rfl | exact ref_clo _ _ _ rfl rfl | exact arm_clo _ _ | (simp; exact ⟨rfl, rfl⟩) | (simp; exact ⟨rfl, rfl, rfl⟩)), trivial⟩ trivial)
            · intro j hj
              refine awp_seq ?_
              refine awp_seq ?_
              refine awp_region ?_
              refine al_d rfl rfl rfl (by exact opd_move rfl rfl) ?_
              refine al_d rfl rfl rfl (by exact opd_move rfl rfl) ?_
              refine al_d rfl rfl rfl (by exact opr_call rfl rfl Try.call24 rfl (hsz _)) ?_
              refine al_d rfl rfl rfl (by exact opd_lss rfl rfl rfl) ?_
              refine al_nil ?_
              refine awp_cond rfl (fun hc5 => ?_) (fun hc5 => ?_)
              -- cond 5
              · have hjn : j < n := by have := of_decide_eq_true hc5; omega
                have hrd := read_c s1 (j : Int) hinv.ok
                have hrr := rread_c s1 x (j : Int) hinv.ok
                obtain ⟨t, ht⟩ : ∃ t, t = dRead s1 (j : Int) := ⟨_, rfl⟩
                obtain ⟨e, he⟩ : ∃ e, e = dReadE s1 (j : Int) := ⟨_, rfl⟩
                rw [← ht, ← he] at hrd hrr
                have d1 : (!decide (t = t)) = false := by simp
                have d2 : (!decide (e = e)) = false := by simp
                refine awp_skip ?_
                refine awp_seq ?_
                refine awp_block ?_
                refine awp_seq ?_
                refine awp_region ?_
                refine al_d rfl rfl rfl (by exact opd_move rfl rfl) ?_
                refine al_d rfl rfl rfl (by exact opd_move rfl rfl) ?_
                refine al_d rfl rfl rfl (by exact opr_call rfl rfl Try.call28 rfl (disk_frame hrd _ ⟨rfl, rfl, rfl, rfl, trivial⟩ (by simp; rfl))) ?_
                refine al_d rfl rfl rfl (by exact opd_move rfl rfl) ?_
                refine al_d rfl rfl rfl (by exact opd_extract rfl rfl rfl) ?_
                refine al_d rfl rfl rfl (by exact opd_extract rfl rfl rfl) ?_
                refine al_d rfl rfl rfl (by exact opd_assign rfl rfl) ?_
                refine al_d rfl rfl rfl (by exact opd_assign rfl rfl) ?_
                refine al_nil ?_
                refine awp_seq ?_
                refine awp_region ?_
                refine al_d rfl rfl rfl (by exact opd_move rfl rfl) ?_
                refine al_d rfl rfl rfl (by exact opd_move rfl rfl) ?_
                refine al_d rfl rfl rfl (by exact opr_call rfl rfl Try.call29 rfl (ref_frame hrr _ ⟨rfl, rfl, rfl, trivial⟩ (by simp; rfl))) ?_
                refine al_d rfl rfl rfl (by exact opd_move rfl rfl) ?_
                refine al_d rfl rfl rfl (by exact opd_extract rfl rfl rfl) ?_
                refine al_d rfl rfl rfl (by exact opd_extract rfl rfl rfl) ?_
                refine al_d rfl rfl rfl (by exact opd_assign rfl rfl) ?_
                refine al_d rfl rfl rfl (by exact opd_assign rfl rfl) ?_
                refine al_nil ?_
                refine awp_seq ?_
                refine awp_region ?_
                refine al_d rfl rfl rfl (by exact opd_move rfl rfl) ?_
                refine al_d rfl rfl rfl (by exact opd_move rfl rfl) ?_
                refine al_d rfl rfl rfl (by exact opd_sneq rfl rfl rfl) ?_
                refine al_d rfl rfl rfl (by exact opd_move rfl rfl) ?_
                refine al_ond rfl rfl rfl (by first | rfl | assumption) rfl rfl (by exact opd_move rfl rfl) ?_
                refine al_ond rfl rfl rfl (by first | rfl | assumption) rfl rfl (by exact opd_move rfl rfl) ?_
                refine al_ond rfl rfl rfl (by first | rfl | assumption) rfl rfl (by exact opd_neq rfl rfl rfl) ?_
                refine al_d rfl rfl rfl (by exact (by first | exact opd_pick_t rfl rfl rfl | exact opd_pick_f rfl rfl rfl | exact opd_pickt rfl rfl (by assumption) rfl | exact opd_pickf rfl rfl (by assumption) rfl | exact opd_pick rfl rfl rfl)) ?_
                refine al_nil ?_
                refine awp_cond rfl (fun hc6 => ?_) (fun hc6 => ?_)
                -- cond 6
                · rw [d2] at hc6; cases hc6
                · skip
                  refine awp_skip ?_
                  refine awp_region ?_
                  refine al_d rfl rfl rfl (by exact opd_move rfl rfl) ?_
                  refine al_d rfl rfl rfl (by exact opd_add rfl rfl rfl (by first | exact w64 (by omega) (by omega) | exact wu8 (by omega) (by omega) | rfl)) ?_
                  refine al_d rfl rfl rfl (by exact opd_assign rfl rfl) ?_
                  refine al_nil ?_
                  -- end of a round
                  exact ⟨j + 1, by omega, by omega, (Ent.wk ⟨⟨_, rfl, rfl⟩, (by first | (simp; done) | (simp; rfl) | exact clo_map _ _ _ | exact clo_brows _ _ | exact disk_clo _ _ rfl rfl rfl | exact ref_clo _ _ _ rfl rfl | exact arm_clo _ _ | (simp; exact ⟨rfl, rfl⟩) | (simp; exact ⟨rfl, rfl, rfl⟩)), ⟨_, rfl, rfl⟩, (by first | (simp; done) | (simp; rfl) | exact clo_map _ _ _ | exact clo_brows _ _ | exact disk_clo _ _ rfl rfl rfl | exact ref_clo _ _ _ rfl rfl | exact arm_clo _ _ | (simp; exact ⟨rfl, rfl⟩) | (simp; exact ⟨rfl, rfl, rfl⟩)), ⟨_, rfl, rfl⟩, (by first | (simp; done) | (simp; rfl) | exact clo_map _ _ _ | exact clo_brows _ _ | exact disk_clo _ _ rfl rfl rfl | exact ref_clo _ _ _ rfl rfl | exact arm_clo _ _ | (simp; exact ⟨rfl, rfl⟩) | (simp; exact ⟨rfl, rfl, rfl⟩)), ⟨_, rfl, rfl⟩, (by first | (simp; done) | (simp; rfl) | exact clo_map _ _ _ | exact clo_brows _ _ | exact disk_clo _ _ rfl rfl rfl | exact ref_clo _ _ _ rfl rfl | exact arm_clo _ _ | (simp; exact ⟨rfl, rfl⟩) | (simp; exact ⟨rfl, rfl, rfl⟩)), ⟨_, rfl, rfl⟩, (by first | (simp; done) | (simp; rfl) | exact clo_map _ _ _ | exact clo_brows _ _ | exact disk_clo _ _ rfl rfl rfl | exact ref_clo _ _ _ rfl rfl | exact arm_clo _ _ | (simp; exact ⟨rfl, rfl⟩) | (simp; exact ⟨rfl, rfl, rfl⟩)), trivial⟩ ⟨⟨_, rfl, rfl⟩, (by first | (simp; done) | (simp; rfl) | exact clo_map _ _ _ | exact clo_brows _ _ | exact disk_clo _ _ rfl rfl rfl | exact ref_clo _ _ _ rfl rfl | exact arm_clo _ _ | (simp; exact ⟨rfl, rfl⟩) | (simp; exact ⟨rfl, rfl, rfl⟩)), ⟨_, rfl, rfl⟩, (by first | (simp; done) | (simp; rfl) | exact clo_map _ _ _ | exact clo_brows _ _ | exact disk_clo _ _ rfl rfl rfl | exact ref_clo _ _ _ rfl rfl | exact arm_clo _ _ | (simp; exact ⟨rfl, rfl⟩) | (simp; exact ⟨rfl, rfl, rfl⟩)), ⟨_, rfl, rfl⟩, (by first | (simp; done) | (simp; rfl) | exact clo_map _ _ _ | exact clo_brows _ _ | exact disk_clo _ _ rfl rfl rfl | exact ref_clo _ _ _ rfl rfl | exact arm_clo _ _ | (simp; exact ⟨rfl, rfl⟩) | (simp; exact ⟨rfl, rfl, rfl⟩)), ⟨_, rfl, rfl⟩, (by first | (simp; done) | (simp; rfl) | exact clo_map _ _ _ | exact clo_brows _ _ | exact disk_clo _ _ rfl rfl rfl | exact ref_clo _ _ _ rfl rfl | exact arm_clo _ _ | (simp; exact ⟨rfl, rfl⟩) | (simp; exact ⟨rfl, rfl, rfl⟩)), ⟨_, rfl, rfl⟩, (by first | (simp; done) | (simp; rfl) | exact clo_map _ _ _ | exact clo_brows _ _ | exact disk_clo _ _ rfl rfl rfl | exact ref_clo _ _ _ rfl rfl | exact arm_clo _ _ | (simp; exact ⟨rfl, rfl⟩) | (simp; exact ⟨rfl, rfl, rfl⟩)), ⟨_, rfl, rfl⟩, (by first | (simp; done) | (simp; rfl) | exact clo_map _ _ _ | exact clo_brows _ _ | exact disk_clo _ _ rfl rfl rfl | exact ref_clo _ _ _ rfl rfl | exact arm_clo _ _ | (simp; exact ⟨rfl, rfl⟩) | (simp; exact ⟨rfl, rfl, rfl⟩)), ⟨_, rfl, rfl⟩, (by first | (simp; done) | (simp; rfl) | exact clo_map _ _ _ | exact clo_brows _ _ | exact disk_clo _ _ rfl rfl rfl | exact ref_clo _ _ _ rfl rfl | exact arm_clo _ _ | (simp; exact ⟨rfl, rfl⟩) | (simp; exact ⟨rfl, rfl, rfl⟩)), trivial⟩ trivial)⟩
              · skip
                refine awp_exit ?_
                refine awp_seq ?_
                refine awp_region ?_
                refine al_d rfl rfl rfl (by exact opd_move rfl rfl) ?_
                refine al_d rfl rfl rfl (by exact opd_assign rfl rfl) ?_
                refine al_nil ?_
                refine awp_ret ?_
                -- return
                refine aret1 (H' := []) (by first | exact .inr rfl | exact .inl rfl) rfl (rval_tmp rfl) (Fin.wk (by simp) trivial trivial) ?_
                exact ⟨rfl, rfl⟩
end Go.Proofs.Ytljocbkebhgkoaa
