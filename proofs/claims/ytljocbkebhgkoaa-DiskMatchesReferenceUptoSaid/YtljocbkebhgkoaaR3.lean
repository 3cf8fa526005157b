/-
  THE REFERENCE DISK, contracts: Raw, Rot, New, want. Conditions: a disk's state as DOk tells.
-/
import Derived.Test.YtljocbkebhgkoaaR2
import Derived.Test.YtljocbkebhgkoaaAbs17
set_option linter.unusedVariables false
set_option linter.unusedSimpArgs false
set_option maxRecDepth 100000
namespace Go.Proofs.Ytljocbkebhgkoaa
open Go.Abs

theorem u8zero : ∀ i, Try.prog.info? 5 = some i → i.zero = some (.int .u8 0) := fun i hi => by
  have h : (Try.prog.info? 5).map (·.zero) = some (some (.int .u8 0)) := by kernel_rfl
  rw [hi] at h
  simpa using h
theorem brows_app (a b : List UInt8) : brows a ++ brows b = brows (a ++ b) := List.map_append.symm
theorem rraw_c (s : DSt) (x : RX) (hs : DOk s) : ACalls Try.prog 57 [.ref 1100 0 0 0] (refH s x) (fun r H' => r = sv (dRaw s) ∧ H' = refH s x) := by
  have h2 := hs.n2
  have hmul : IntKind.i64.wrap ((s.cells.length : Int) * 64) = ((64 * s.cells.length : Nat) : Int) := by rw [w64 (by omega) (by omega)]; omega
  refine ACalls.body Try.func57 rfl Try.ntmps57 (Nat.le_of_ble_eq_true rfl) ?_
  refine awp_seq ?_
  refine awp_region ?_
  refine al_d rfl rfl rfl (by exact opd_assign rfl rfl) ?_
  refine al_nil ?_
  refine awp_seq ?_
  refine awp_seq ?_
  refine awp_region ?_
  refine al_d rfl rfl rfl (by exact opd_move rfl rfl) ?_
  refine al_d rfl rfl rfl (by exact (by first | exact opd_peq_ref rfl Try.underlying49 rfl rfl rfl rfl | exact opd_peq_nil rfl Try.underlying49 rfl rfl)) ?_
  refine al_nil ?_
  refine awp_cond rfl (fun hc1 => ?_) (fun hc1 => ?_)
  -- cond 1
  · skip
    (first | (cases hc1; done) | (revert hc1; simp; done) | (revert hc1; simp_all; done) | (revert hc1; simp_all; omega))
  · skip
    refine awp_skip ?_
    refine awp_seq ?_
    refine awp_region ?_
    refine al_d rfl rfl rfl (by exact opd_move rfl rfl) ?_
    refine al_d rfl rfl rfl (by exact (by first | exact opd_nilCheck_ref rfl rfl rfl rfl | exact opd_nilCheck_fn rfl rfl)) ?_
    refine al_d rfl rfl rfl (by exact (by first | exact opd_field_ref rfl fo97_0 rfl rfl rfl rfl | exact opd_field_pad rfl fo97_0 rfl rfl)) ?_
    refine al_d rfl rfl rfl (by exact (by first | exact opd_load1_ref rfl Try.isAgg34 rfl rfl rfl rfl rfl | exact opd_load1_pad rfl Try.isAgg34 rfl (by first | omega | assumption) rfl)) ?_
    refine al_d rfl rfl rfl (by exact (by first | exact opd_len_sl rfl Try.underlying34 rfl | exact opd_len_osl rfl Try.underlying34 rfl rfl rfl)) ?_
    refine al_d rfl rfl rfl (by exact opd_mul rfl rfl rfl hmul) ?_
    refine al_d rfl rfl rfl (by exact x_makeSlice (id := 13) rfl so90 ei5 zo5 rfl rfl rfl (by omega) (by omega) (by first | exact Int.toNat_natCast _ | rfl) (by first | exact Int.toNat_natCast _ | rfl) (by omega) rfl) ?_
    refine al_d rfl rfl rfl (by exact opd_assign rfl rfl) ?_
    refine al_nil ?_
    refine awp_seq ?_
    refine awp_seq ?_
    refine awp_region ?_
    refine al_d rfl rfl rfl (by exact opd_assign rfl rfl) ?_
    refine al_nil ?_
    refine awp_block ?_
    -- loop
    refine awp_loop (σ := Nat) (fun i => ([(0, .ref 1100 0 0 0), (3, .osl 13 i 0 (64 * i)), (4, iv (i : Int))], (13, ⟨i, 1, 5, brows (flat (s.cells.take i))⟩) :: refH s x)) (fun i => i ≤ s.cells.length) (fun i => s.cells.length - i) 0 (by omega) ?_ ?_
    · exact (Ent.wk ⟨⟨_, rfl, rfl⟩, (by first | (simp; done) | (simp; rfl) | exact clo_map _ _ _ | exact clo_brows _ _ | exact ref_clo _ _ _ rfl rfl | (simp; exact ⟨rfl, rfl⟩) | (simp; exact ⟨rfl, rfl, rfl⟩)), ⟨_, rfl, rfl⟩, (by first | (simp; done) | (simp; rfl) | exact clo_map _ _ _ | exact clo_brows _ _ | exact ref_clo _ _ _ rfl rfl | (simp; exact ⟨rfl, rfl⟩) | (simp; exact ⟨rfl, rfl, rfl⟩)), ⟨_, rfl, rfl⟩, (by first | (simp; done) | (simp; rfl) | exact clo_map _ _ _ | exact clo_brows _ _ | exact ref_clo _ _ _ rfl rfl | (simp; exact ⟨rfl, rfl⟩) | (simp; exact ⟨rfl, rfl, rfl⟩)), trivial⟩ ⟨⟨_, rfl, rfl⟩, (by first | (simp; done) | (simp; rfl) | exact clo_map _ _ _ | exact clo_brows _ _ | exact ref_clo _ _ _ rfl rfl | (simp; exact ⟨rfl, rfl⟩) | (simp; exact ⟨rfl, rfl, rfl⟩)), ⟨_, rfl, rfl⟩, (by first | (simp; done) | (simp; rfl) | exact clo_map _ _ _ | exact clo_brows _ _ | exact ref_clo _ _ _ rfl rfl | (simp; exact ⟨rfl, rfl⟩) | (simp; exact ⟨rfl, rfl, rfl⟩)), ⟨_, rfl, rfl⟩, (by first | (simp; done) | (simp; rfl) | exact clo_map _ _ _ | exact clo_brows _ _ | exact ref_clo _ _ _ rfl rfl | (simp; exact ⟨rfl, rfl⟩) | (simp; exact ⟨rfl, rfl, rfl⟩)), ⟨_, rfl, rfl⟩, (by first | (simp; done) | (simp; rfl) | exact clo_map _ _ _ | exact clo_brows _ _ | exact ref_clo _ _ _ rfl rfl | (simp; exact ⟨rfl, rfl⟩) | (simp; exact ⟨rfl, rfl, rfl⟩)), trivial⟩ ⟨rfl, rfl, rfl, trivial⟩)
    · intro i hi
      have hfl : (flat (s.cells.take i)).length = 64 * i := by
        rw [flat_len (fun c hc => hs.c c (List.mem_of_mem_take hc)), List.length_take]; congr 1; omega
      refine awp_seq ?_
      refine awp_seq ?_
      refine awp_region ?_
      refine al_d rfl rfl rfl (by exact opd_move rfl rfl) ?_
      refine al_d rfl rfl rfl (by exact opd_move rfl rfl) ?_
      refine al_d rfl rfl rfl (by exact (by first | exact opd_nilCheck_ref rfl rfl rfl rfl | exact opd_nilCheck_fn rfl rfl)) ?_
      refine al_d rfl rfl rfl (by exact (by first | exact opd_field_ref rfl fo97_0 rfl rfl rfl rfl | exact opd_field_pad rfl fo97_0 rfl rfl)) ?_
      refine al_d rfl rfl rfl (by exact (by first | exact opd_load1_ref rfl Try.isAgg34 rfl rfl rfl rfl rfl | exact opd_load1_pad rfl Try.isAgg34 rfl (by first | omega | assumption) rfl)) ?_
      refine al_d rfl rfl rfl (by exact (by first | exact opd_len_sl rfl Try.underlying34 rfl | exact opd_len_osl rfl Try.underlying34 rfl rfl rfl)) ?_
      refine al_d rfl rfl rfl (by exact opd_lss rfl rfl rfl) ?_
      refine al_nil ?_
      refine awp_cond rfl (fun hc2 => ?_) (fun hc2 => ?_)
      -- cond 2
      · have hlt : i < s.cells.length := by have := of_decide_eq_true hc2; omega
        obtain ⟨c, hc⟩ := get_of_lt hlt
        have hcr := stRows_get hc
        have hcs := hs.c c (List.mem_of_getElem? hc)
        have hsn : flat (s.cells.take (i + 1)) = flat (s.cells.take i) ++ c.data.toList := by rw [take_snoc hc, flat_app, flat_cons]; simp [flat]
        refine awp_skip ?_
        refine awp_seq ?_
        refine awp_block ?_
        refine awp_region ?_
        refine al_d rfl rfl rfl (by exact opd_move rfl rfl) ?_
        refine al_d rfl rfl rfl (by exact opd_move rfl rfl) ?_
        refine al_d rfl rfl rfl (by exact (by first | exact opd_nilCheck_ref rfl rfl rfl rfl | exact opd_nilCheck_fn rfl rfl)) ?_
        refine al_d rfl rfl rfl (by exact (by first | exact opd_field_ref rfl fo97_0 rfl rfl rfl rfl | exact opd_field_pad rfl fo97_0 rfl rfl)) ?_
        refine al_d rfl rfl rfl (by exact (by first | exact opd_load1_ref rfl Try.isAgg34 rfl rfl rfl rfl rfl | exact opd_load1_pad rfl Try.isAgg34 rfl (by first | omega | assumption) rfl)) ?_
        refine al_d rfl rfl rfl (by exact opd_move rfl rfl) ?_
        refine al_d rfl rfl rfl (by exact (by first | exact x_index_pad rfl so34 rfl rfl (by omega) (by first | exact Int.toNat_natCast _ | rfl) (by assumption) rfl | exact x_index_osl rfl so34 rfl rfl rfl rfl rfl (by omega) (by first | exact Int.toNat_natCast _ | rfl) (by first | omega | assumption) (Nat.zero_add _))) ?_
        refine al_d rfl rfl rfl (by exact (by first | exact opd_load1_ref rfl Try.isAgg9 rfl rfl rfl hcr rfl | exact opd_load1_pad rfl Try.isAgg9 rfl hcr rfl)) ?_
        refine al_d rfl rfl rfl (by exact x_append_str rfl so90 Try.underlying9 ei5 u8zero rfl rfl rfl rfl rfl (by simp [brows, hfl]) rfl (by omega) (by omega : _ = 64 * (i + 1)) (by rw [hsn]; exact brows_app _ _ : _ = brows (flat (s.cells.take (i + 1))))) ?_
        refine al_d rfl rfl rfl (by exact opd_assign rfl rfl) ?_
        refine al_nil ?_
        refine awp_region ?_
        refine al_d rfl rfl rfl (by exact opd_move rfl rfl) ?_
        refine al_d rfl rfl rfl (by exact opd_add rfl rfl rfl (by first | exact w64 (by omega) (by omega) | exact wu8 (by omega) (by omega) | rfl)) ?_
        refine al_d rfl rfl rfl (by exact opd_assign rfl rfl) ?_
        refine al_nil ?_
        -- end of a round
        exact ⟨i + 1, by omega, by omega, (Ent.wk ⟨⟨_, rfl, rfl⟩, (by first | (simp; done) | (simp; rfl) | exact clo_map _ _ _ | exact clo_brows _ _ | exact ref_clo _ _ _ rfl rfl | (simp; exact ⟨rfl, rfl⟩) | (simp; exact ⟨rfl, rfl, rfl⟩)), ⟨_, rfl, rfl⟩, (by first | (simp; done) | (simp; rfl) | exact clo_map _ _ _ | exact clo_brows _ _ | exact ref_clo _ _ _ rfl rfl | (simp; exact ⟨rfl, rfl⟩) | (simp; exact ⟨rfl, rfl, rfl⟩)), ⟨_, rfl, rfl⟩, (by first | (simp; done) | (simp; rfl) | exact clo_map _ _ _ | exact clo_brows _ _ | exact ref_clo _ _ _ rfl rfl | (simp; exact ⟨rfl, rfl⟩) | (simp; exact ⟨rfl, rfl, rfl⟩)), trivial⟩ ⟨⟨_, rfl, rfl⟩, (by first | (simp; done) | (simp; rfl) | exact clo_map _ _ _ | exact clo_brows _ _ | exact ref_clo _ _ _ rfl rfl | (simp; exact ⟨rfl, rfl⟩) | (simp; exact ⟨rfl, rfl, rfl⟩)), ⟨_, rfl, rfl⟩, (by first | (simp; done) | (simp; rfl) | exact clo_map _ _ _ | exact clo_brows _ _ | exact ref_clo _ _ _ rfl rfl | (simp; exact ⟨rfl, rfl⟩) | (simp; exact ⟨rfl, rfl, rfl⟩)), ⟨_, rfl, rfl⟩, (by first | (simp; done) | (simp; rfl) | exact clo_map _ _ _ | exact clo_brows _ _ | exact ref_clo _ _ _ rfl rfl | (simp; exact ⟨rfl, rfl⟩) | (simp; exact ⟨rfl, rfl, rfl⟩)), ⟨_, rfl, rfl⟩, (by first | (simp; done) | (simp; rfl) | exact clo_map _ _ _ | exact clo_brows _ _ | exact ref_clo _ _ _ rfl rfl | (simp; exact ⟨rfl, rfl⟩) | (simp; exact ⟨rfl, rfl, rfl⟩)), trivial⟩ ⟨rfl, rfl, rfl, trivial⟩)⟩
      · have hge : i = s.cells.length := by have : ¬ _ := of_decide_eq_false hc2; omega
        subst hge
        rw [List.take_length] at hfl ⊢
        have hb : ((brows (flat s.cells)).drop 0).take (64 * s.cells.length) = brows (flat s.cells) := by
          rw [List.drop_zero, List.take_of_length_le (by simp [brows, hfl])]
        refine awp_exit ?_
        refine awp_seq ?_
        refine awp_region ?_
        refine al_d rfl rfl rfl (by exact opd_move rfl rfl) ?_
        refine al_d rfl rfl rfl (by exact opd_bytes_str rfl Try.underlying90 Try.underlying5 Try.underlying9 rfl rfl rfl rfl hb rfl) ?_
        refine al_d rfl rfl rfl (by exact opd_assign rfl rfl) ?_
        refine al_nil ?_
        refine awp_ret ?_
        -- return
        refine aret1 (H' := refH s x) (by first | exact .inr rfl | exact .inl rfl) rfl (rval_tmp rfl) (Fin.wk (by first | (simp; done) | (simp; rfl)) ⟨⟨_, rfl, rfl⟩, (by first | (simp; done) | (simp; rfl) | exact clo_map _ _ _ | exact clo_brows _ _ | exact ref_clo _ _ _ rfl rfl | (simp; exact ⟨rfl, rfl⟩) | (simp; exact ⟨rfl, rfl, rfl⟩)), ⟨_, rfl, rfl⟩, (by first | (simp; done) | (simp; rfl) | exact clo_map _ _ _ | exact clo_brows _ _ | exact ref_clo _ _ _ rfl rfl | (simp; exact ⟨rfl, rfl⟩) | (simp; exact ⟨rfl, rfl, rfl⟩)), ⟨_, rfl, rfl⟩, (by first | (simp; done) | (simp; rfl) | exact clo_map _ _ _ | exact clo_brows _ _ | exact ref_clo _ _ _ rfl rfl | (simp; exact ⟨rfl, rfl⟩) | (simp; exact ⟨rfl, rfl, rfl⟩)), trivial⟩ ⟨rfl, rfl, rfl, trivial⟩) ?_
        exact ⟨rfl, rfl⟩
theorem flip_eq {c : ByteArray} {p m : Nat} {y : UInt8} (hp : p < c.size) (hy : c.data.toList[p]? = some y) : c.extract 0 p ++ ⟨[y ^^^ UInt8.ofNat m].toArray⟩ ++ c.extract (p + 1) c.size = flip c p m := by
  have hl := ba_size c
  have e : (flip c p m).data.toList = c.data.toList.set p (y ^^^ UInt8.ofNat m) := by rw [flip_list, hy]; rfl
  rw [ba_app2, ba_app2, ← ba_eta (flip c p m), e]
  congr 2
  rw [List.set_eq_take_append_cons_drop, if_pos (by omega)]
  simp
  rw [List.take_of_length_le (by simp [ba_size])]
theorem rrot_c (s : DSt) (x : RX) (k p m : Int) (hs : DOk s) :
    ACalls Try.prog 56 [.ref 1100 0 0 0, iv k, iv p, iv m] (refH s x) (fun r H' => r = .tup [] ∧ H' = refH (dRot s k p m) x) := by
  refine ACalls.body Try.func56 rfl Try.ntmps56 (Nat.le_of_ble_eq_true rfl) ?_
  refine awp_seq ?_
  refine awp_seq ?_
  refine awp_region ?_
  refine al_d rfl rfl rfl (by exact opd_move rfl rfl) ?_
  refine al_d rfl rfl rfl (by exact (by first | exact opd_peq_ref rfl Try.underlying49 rfl rfl rfl rfl | exact opd_peq_nil rfl Try.underlying49 rfl rfl)) ?_
  refine al_nil ?_
  refine awp_cond rfl (fun hc1 => ?_) (fun hc1 => ?_)
  -- cond 1
  · skip
    (first | (cases hc1; done) | (revert hc1; simp; done) | (revert hc1; simp_all; done) | (revert hc1; simp_all; omega))
  · skip
    have bad : rotOk s k p m = false → refH s x = refH (dRot s k p m) x := fun h => by simp [dRot, h]
    by_cases q1 : k < 0
    · have n1 : decide (k < 0) = true := decide_eq_true q1
      have hg : rotOk s k p m = false := by rw [rotOk, secOk, decide_eq_false (by omega)]; rfl
      refine awp_skip ?_
      refine awp_seq ?_
      refine awp_seq ?_
      refine awp_region ?_
      refine al_d rfl rfl rfl (by exact opd_move rfl rfl) ?_
      refine al_d rfl rfl rfl (by exact opd_lss rfl rfl rfl) ?_
      refine al_d rfl rfl rfl (by exact opd_move rfl rfl) ?_
      refine al_off rfl rfl rfl (by first | rfl | assumption) rfl ?_
      refine al_off rfl rfl rfl (by first | rfl | assumption) rfl ?_
      refine al_off rfl rfl rfl (by first | rfl | assumption) rfl ?_
      refine al_off rfl rfl rfl (by first | rfl | assumption) rfl ?_
      refine al_off rfl rfl rfl (by first | rfl | assumption) rfl ?_
      refine al_off rfl rfl rfl (by first | rfl | assumption) rfl ?_
      refine al_off rfl rfl rfl (by first | rfl | assumption) rfl ?_
      refine al_d rfl rfl rfl (by exact (by first | exact opd_pick_t rfl rfl rfl | exact opd_pick_f rfl rfl rfl | exact opd_pickt rfl rfl (by assumption) rfl | exact opd_pickf rfl rfl (by assumption) rfl | exact opd_pick rfl rfl rfl)) ?_
      refine al_d rfl rfl rfl (by exact opd_move rfl rfl) ?_
      refine al_off rfl rfl rfl (by first | rfl | assumption) rfl ?_
      refine al_off rfl rfl rfl (by first | rfl | assumption) rfl ?_
      refine al_d rfl rfl rfl (by exact (by first | exact opd_pick_t rfl rfl rfl | exact opd_pick_f rfl rfl rfl | exact opd_pickt rfl rfl (by assumption) rfl | exact opd_pickf rfl rfl (by assumption) rfl | exact opd_pick rfl rfl rfl)) ?_
      refine al_d rfl rfl rfl (by exact opd_move rfl rfl) ?_
      refine al_off rfl rfl rfl (by first | rfl | assumption) rfl ?_
      refine al_off rfl rfl rfl (by first | rfl | assumption) rfl ?_
      refine al_d rfl rfl rfl (by exact (by first | exact opd_pick_t rfl rfl rfl | exact opd_pick_f rfl rfl rfl | exact opd_pickt rfl rfl (by assumption) rfl | exact opd_pickf rfl rfl (by assumption) rfl | exact opd_pick rfl rfl rfl)) ?_
      refine al_d rfl rfl rfl (by exact opd_move rfl rfl) ?_
      refine al_off rfl rfl rfl (by first | rfl | assumption) rfl ?_
      refine al_off rfl rfl rfl (by first | rfl | assumption) rfl ?_
      refine al_d rfl rfl rfl (by exact (by first | exact opd_pick_t rfl rfl rfl | exact opd_pick_f rfl rfl rfl | exact opd_pickt rfl rfl (by assumption) rfl | exact opd_pickf rfl rfl (by assumption) rfl | exact opd_pick rfl rfl rfl)) ?_
      refine al_d rfl rfl rfl (by exact opd_move rfl rfl) ?_
      refine al_off rfl rfl rfl (by first | rfl | assumption) rfl ?_
      refine al_off rfl rfl rfl (by first | rfl | assumption) rfl ?_
      refine al_d rfl rfl rfl (by exact (by first | exact opd_pick_t rfl rfl rfl | exact opd_pick_f rfl rfl rfl | exact opd_pickt rfl rfl (by assumption) rfl | exact opd_pickf rfl rfl (by assumption) rfl | exact opd_pick rfl rfl rfl)) ?_
      refine al_nil ?_
      refine awp_cond rfl (fun hc2 => ?_) (fun hc2 => ?_)
      -- cond 2
      · skip
        refine awp_ret ?_
        -- return
        refine aret0 (H' := refH s x) (by first | exact .inr rfl | exact .inl rfl) rfl  (Fin.wk (by first | (simp; done) | (simp; rfl)) ⟨⟨_, rfl, rfl⟩, (by first | (simp; done) | (simp; rfl) | exact clo_map _ _ _ | exact clo_brows _ _ | exact ref_clo _ _ _ rfl rfl | (simp; exact ⟨rfl, rfl⟩) | (simp; exact ⟨rfl, rfl, rfl⟩)), ⟨_, rfl, rfl⟩, (by first | (simp; done) | (simp; rfl) | exact clo_map _ _ _ | exact clo_brows _ _ | exact ref_clo _ _ _ rfl rfl | (simp; exact ⟨rfl, rfl⟩) | (simp; exact ⟨rfl, rfl, rfl⟩)), ⟨_, rfl, rfl⟩, (by first | (simp; done) | (simp; rfl) | exact clo_map _ _ _ | exact clo_brows _ _ | exact ref_clo _ _ _ rfl rfl | (simp; exact ⟨rfl, rfl⟩) | (simp; exact ⟨rfl, rfl, rfl⟩)), trivial⟩ ⟨rfl, rfl, rfl, trivial⟩) ?_
        exact ⟨rfl, bad hg⟩
      · skip
        (first | (cases hc2; done) | (revert hc2; simp; done) | (revert hc2; simp_all; done) | (revert hc2; simp_all; omega))
    · have n1 : decide (k < 0) = false := decide_eq_false q1
      by_cases q2 : (s.cells.length : Int) ≤ k
      · have n2 : decide ((s.cells.length : Int) ≤ k) = true := decide_eq_true q2
        have hg : rotOk s k p m = false := by rw [rotOk, secOk, decide_eq_true (by omega), decide_eq_false (by omega)]; rfl
        refine awp_skip ?_
        refine awp_seq ?_
        refine awp_seq ?_
        refine awp_region ?_
        refine al_d rfl rfl rfl (by exact opd_move rfl rfl) ?_
        refine al_d rfl rfl rfl (by exact opd_lss rfl rfl rfl) ?_
        refine al_d rfl rfl rfl (by exact opd_move rfl rfl) ?_
        refine al_ond rfl rfl rfl (by first | rfl | assumption) rfl rfl (by exact opd_move rfl rfl) ?_
        refine al_ond rfl rfl rfl (by first | rfl | assumption) rfl rfl (by exact opd_move rfl rfl) ?_
        refine al_ond rfl rfl rfl (by first | rfl | assumption) rfl rfl (by exact (by first | exact opd_nilCheck_ref rfl rfl rfl rfl | exact opd_nilCheck_fn rfl rfl)) ?_
        refine al_ond rfl rfl rfl (by first | rfl | assumption) rfl rfl (by exact (by first | exact opd_field_ref rfl fo97_0 rfl rfl rfl rfl | exact opd_field_pad rfl fo97_0 rfl rfl)) ?_
        refine al_ond rfl rfl rfl (by first | rfl | assumption) rfl rfl (by exact (by first | exact opd_load1_ref rfl Try.isAgg34 rfl rfl rfl rfl rfl | exact opd_load1_pad rfl Try.isAgg34 rfl (by first | omega | assumption) rfl)) ?_
        refine al_ond rfl rfl rfl (by first | rfl | assumption) rfl rfl (by exact (by first | exact opd_len_sl rfl Try.underlying34 rfl | exact opd_len_osl rfl Try.underlying34 rfl rfl rfl)) ?_
        refine al_ond rfl rfl rfl (by first | rfl | assumption) rfl rfl (by exact opd_geq rfl rfl rfl) ?_
        refine al_d rfl rfl rfl (by exact (by first | exact opd_pick_t rfl rfl rfl | exact opd_pick_f rfl rfl rfl | exact opd_pickt rfl rfl (by assumption) rfl | exact opd_pickf rfl rfl (by assumption) rfl | exact opd_pick rfl rfl rfl)) ?_
        refine al_d rfl rfl rfl (by exact opd_move rfl rfl) ?_
        refine al_off rfl rfl rfl (by first | rfl | assumption) rfl ?_
        refine al_off rfl rfl rfl (by first | rfl | assumption) rfl ?_
        refine al_d rfl rfl rfl (by exact (by first | exact opd_pick_t rfl rfl rfl | exact opd_pick_f rfl rfl rfl | exact opd_pickt rfl rfl (by assumption) rfl | exact opd_pickf rfl rfl (by assumption) rfl | exact opd_pick rfl rfl rfl)) ?_
        refine al_d rfl rfl rfl (by exact opd_move rfl rfl) ?_
        refine al_off rfl rfl rfl (by first | rfl | assumption) rfl ?_
        refine al_off rfl rfl rfl (by first | rfl | assumption) rfl ?_
        refine al_d rfl rfl rfl (by exact (by first | exact opd_pick_t rfl rfl rfl | exact opd_pick_f rfl rfl rfl | exact opd_pickt rfl rfl (by assumption) rfl | exact opd_pickf rfl rfl (by assumption) rfl | exact opd_pick rfl rfl rfl)) ?_
        refine al_d rfl rfl rfl (by exact opd_move rfl rfl) ?_
        refine al_off rfl rfl rfl (by first | rfl | assumption) rfl ?_
        refine al_off rfl rfl rfl (by first | rfl | assumption) rfl ?_
        refine al_d rfl rfl rfl (by exact (by first | exact opd_pick_t rfl rfl rfl | exact opd_pick_f rfl rfl rfl | exact opd_pickt rfl rfl (by assumption) rfl | exact opd_pickf rfl rfl (by assumption) rfl | exact opd_pick rfl rfl rfl)) ?_
        refine al_d rfl rfl rfl (by exact opd_move rfl rfl) ?_
        refine al_off rfl rfl rfl (by first | rfl | assumption) rfl ?_
        refine al_off rfl rfl rfl (by first | rfl | assumption) rfl ?_
        refine al_d rfl rfl rfl (by exact (by first | exact opd_pick_t rfl rfl rfl | exact opd_pick_f rfl rfl rfl | exact opd_pickt rfl rfl (by assumption) rfl | exact opd_pickf rfl rfl (by assumption) rfl | exact opd_pick rfl rfl rfl)) ?_
        refine al_nil ?_
        refine awp_cond rfl (fun hc3 => ?_) (fun hc3 => ?_)
        -- cond 3
        · skip
          refine awp_ret ?_
          -- return
          refine aret0 (H' := refH s x) (by first | exact .inr rfl | exact .inl rfl) rfl  (Fin.wk (by first | (simp; done) | (simp; rfl)) ⟨⟨_, rfl, rfl⟩, (by first | (simp; done) | (simp; rfl) | exact clo_map _ _ _ | exact clo_brows _ _ | exact ref_clo _ _ _ rfl rfl | (simp; exact ⟨rfl, rfl⟩) | (simp; exact ⟨rfl, rfl, rfl⟩)), ⟨_, rfl, rfl⟩, (by first | (simp; done) | (simp; rfl) | exact clo_map _ _ _ | exact clo_brows _ _ | exact ref_clo _ _ _ rfl rfl | (simp; exact ⟨rfl, rfl⟩) | (simp; exact ⟨rfl, rfl, rfl⟩)), ⟨_, rfl, rfl⟩, (by first | (simp; done) | (simp; rfl) | exact clo_map _ _ _ | exact clo_brows _ _ | exact ref_clo _ _ _ rfl rfl | (simp; exact ⟨rfl, rfl⟩) | (simp; exact ⟨rfl, rfl, rfl⟩)), trivial⟩ ⟨rfl, rfl, rfl, trivial⟩) ?_
          exact ⟨rfl, bad hg⟩
        · first | (cases hc3; done) | (rw [hc3] at n2; cases n2)
      · have n2 : decide ((s.cells.length : Int) ≤ k) = false := decide_eq_false q2
        obtain ⟨n, rfl⟩ : ∃ n : Nat, k = (n : Int) := ⟨k.toNat, by omega⟩
        have hn : n < s.cells.length := by omega
        have hsec : secOk s (n : Int) = true := by rw [secOk_nat]; simpa using hn
        by_cases q3 : p < 0
        · have n3 : decide (p < 0) = true := decide_eq_true q3
          have hg : rotOk s n p m = false := by rw [rotOk, hsec, decide_eq_false (show ¬ 0 ≤ p by omega)]; rfl
          refine awp_skip ?_
          refine awp_seq ?_
          refine awp_seq ?_
          refine awp_region ?_
          refine al_d rfl rfl rfl (by exact opd_move rfl rfl) ?_
          refine al_d rfl rfl rfl (by exact opd_lss rfl rfl rfl) ?_
          refine al_d rfl rfl rfl (by exact opd_move rfl rfl) ?_
          refine al_ond rfl rfl rfl (by first | rfl | assumption) rfl rfl (by exact opd_move rfl rfl) ?_
          refine al_ond rfl rfl rfl (by first | rfl | assumption) rfl rfl (by exact opd_move rfl rfl) ?_
          refine al_ond rfl rfl rfl (by first | rfl | assumption) rfl rfl (by exact (by first | exact opd_nilCheck_ref rfl rfl rfl rfl | exact opd_nilCheck_fn rfl rfl)) ?_
          refine al_ond rfl rfl rfl (by first | rfl | assumption) rfl rfl (by exact (by first | exact opd_field_ref rfl fo97_0 rfl rfl rfl rfl | exact opd_field_pad rfl fo97_0 rfl rfl)) ?_
          refine al_ond rfl rfl rfl (by first | rfl | assumption) rfl rfl (by exact (by first | exact opd_load1_ref rfl Try.isAgg34 rfl rfl rfl rfl rfl | exact opd_load1_pad rfl Try.isAgg34 rfl (by first | omega | assumption) rfl)) ?_
          refine al_ond rfl rfl rfl (by first | rfl | assumption) rfl rfl (by exact (by first | exact opd_len_sl rfl Try.underlying34 rfl | exact opd_len_osl rfl Try.underlying34 rfl rfl rfl)) ?_
          refine al_ond rfl rfl rfl (by first | rfl | assumption) rfl rfl (by exact opd_geq rfl rfl rfl) ?_
          refine al_d rfl rfl rfl (by exact (by first | exact opd_pick_t rfl rfl rfl | exact opd_pick_f rfl rfl rfl | exact opd_pickt rfl rfl (by assumption) rfl | exact opd_pickf rfl rfl (by assumption) rfl | exact opd_pick rfl rfl rfl)) ?_
          refine al_d rfl rfl rfl (by exact opd_move rfl rfl) ?_
          refine al_ond rfl rfl rfl (by first | rfl | assumption) rfl rfl (by exact opd_move rfl rfl) ?_
          refine al_ond rfl rfl rfl (by first | rfl | assumption) rfl rfl (by exact opd_lss rfl rfl rfl) ?_
          refine al_d rfl rfl rfl (by exact (by first | exact opd_pick_t rfl rfl rfl | exact opd_pick_f rfl rfl rfl | exact opd_pickt rfl rfl (by assumption) rfl | exact opd_pickf rfl rfl (by assumption) rfl | exact opd_pick rfl rfl rfl)) ?_
          refine al_d rfl rfl rfl (by exact opd_move rfl rfl) ?_
          refine al_off rfl rfl rfl (by first | rfl | assumption) rfl ?_
          refine al_off rfl rfl rfl (by first | rfl | assumption) rfl ?_
          refine al_d rfl rfl rfl (by exact (by first | exact opd_pick_t rfl rfl rfl | exact opd_pick_f rfl rfl rfl | exact opd_pickt rfl rfl (by assumption) rfl | exact opd_pickf rfl rfl (by assumption) rfl | exact opd_pick rfl rfl rfl)) ?_
          refine al_d rfl rfl rfl (by exact opd_move rfl rfl) ?_
          refine al_off rfl rfl rfl (by first | rfl | assumption) rfl ?_
          refine al_off rfl rfl rfl (by first | rfl | assumption) rfl ?_
          refine al_d rfl rfl rfl (by exact (by first | exact opd_pick_t rfl rfl rfl | exact opd_pick_f rfl rfl rfl | exact opd_pickt rfl rfl (by assumption) rfl | exact opd_pickf rfl rfl (by assumption) rfl | exact opd_pick rfl rfl rfl)) ?_
          refine al_d rfl rfl rfl (by exact opd_move rfl rfl) ?_
          refine al_off rfl rfl rfl (by first | rfl | assumption) rfl ?_
          refine al_off rfl rfl rfl (by first | rfl | assumption) rfl ?_
          refine al_d rfl rfl rfl (by exact (by first | exact opd_pick_t rfl rfl rfl | exact opd_pick_f rfl rfl rfl | exact opd_pickt rfl rfl (by assumption) rfl | exact opd_pickf rfl rfl (by assumption) rfl | exact opd_pick rfl rfl rfl)) ?_
          refine al_nil ?_
          refine awp_cond rfl (fun hc4 => ?_) (fun hc4 => ?_)
          -- cond 4
          · skip
            refine awp_ret ?_
            -- return
            refine aret0 (H' := refH s x) (by first | exact .inr rfl | exact .inl rfl) rfl  (Fin.wk (by first | (simp; done) | (simp; rfl)) ⟨⟨_, rfl, rfl⟩, (by first | (simp; done) | (simp; rfl) | exact clo_map _ _ _ | exact clo_brows _ _ | exact ref_clo _ _ _ rfl rfl | (simp; exact ⟨rfl, rfl⟩) | (simp; exact ⟨rfl, rfl, rfl⟩)), ⟨_, rfl, rfl⟩, (by first | (simp; done) | (simp; rfl) | exact clo_map _ _ _ | exact clo_brows _ _ | exact ref_clo _ _ _ rfl rfl | (simp; exact ⟨rfl, rfl⟩) | (simp; exact ⟨rfl, rfl, rfl⟩)), ⟨_, rfl, rfl⟩, (by first | (simp; done) | (simp; rfl) | exact clo_map _ _ _ | exact clo_brows _ _ | exact ref_clo _ _ _ rfl rfl | (simp; exact ⟨rfl, rfl⟩) | (simp; exact ⟨rfl, rfl, rfl⟩)), trivial⟩ ⟨rfl, rfl, rfl, trivial⟩) ?_
            exact ⟨rfl, bad hg⟩
          · first | (cases hc4; done) | (rw [hc4] at n3; cases n3)
        · have n3 : decide (p < 0) = false := decide_eq_false q3
          by_cases q4 : 64 ≤ p
          · have n4 : decide (64 ≤ p) = true := decide_eq_true q4
            have hg : rotOk s n p m = false := by rw [rotOk, hsec, decide_eq_true (show 0 ≤ p by omega), decide_eq_false (show ¬ p < 64 by omega)]; rfl
            refine awp_skip ?_
            refine awp_seq ?_
            refine awp_seq ?_
            refine awp_region ?_
            refine al_d rfl rfl rfl (by exact opd_move rfl rfl) ?_
            refine al_d rfl rfl rfl (by exact opd_lss rfl rfl rfl) ?_
            refine al_d rfl rfl rfl (by exact opd_move rfl rfl) ?_
            refine al_ond rfl rfl rfl (by first | rfl | assumption) rfl rfl (by exact opd_move rfl rfl) ?_
            refine al_ond rfl rfl rfl (by first | rfl | assumption) rfl rfl (by exact opd_move rfl rfl) ?_
            refine al_ond rfl rfl rfl (by first | rfl | assumption) rfl rfl (by exact (by first | exact opd_nilCheck_ref rfl rfl rfl rfl | exact opd_nilCheck_fn rfl rfl)) ?_
            refine al_ond rfl rfl rfl (by first | rfl | assumption) rfl rfl (by exact (by first | exact opd_field_ref rfl fo97_0 rfl rfl rfl rfl | exact opd_field_pad rfl fo97_0 rfl rfl)) ?_
            refine al_ond rfl rfl rfl (by first | rfl | assumption) rfl rfl (by exact (by first | exact opd_load1_ref rfl Try.isAgg34 rfl rfl rfl rfl rfl | exact opd_load1_pad rfl Try.isAgg34 rfl (by first | omega | assumption) rfl)) ?_
            refine al_ond rfl rfl rfl (by first | rfl | assumption) rfl rfl (by exact (by first | exact opd_len_sl rfl Try.underlying34 rfl | exact opd_len_osl rfl Try.underlying34 rfl rfl rfl)) ?_
            refine al_ond rfl rfl rfl (by first | rfl | assumption) rfl rfl (by exact opd_geq rfl rfl rfl) ?_
            refine al_d rfl rfl rfl (by exact (by first | exact opd_pick_t rfl rfl rfl | exact opd_pick_f rfl rfl rfl | exact opd_pickt rfl rfl (by assumption) rfl | exact opd_pickf rfl rfl (by assumption) rfl | exact opd_pick rfl rfl rfl)) ?_
            refine al_d rfl rfl rfl (by exact opd_move rfl rfl) ?_
            refine al_ond rfl rfl rfl (by first | rfl | assumption) rfl rfl (by exact opd_move rfl rfl) ?_
            refine al_ond rfl rfl rfl (by first | rfl | assumption) rfl rfl (by exact opd_lss rfl rfl rfl) ?_
            refine al_d rfl rfl rfl (by exact (by first | exact opd_pick_t rfl rfl rfl | exact opd_pick_f rfl rfl rfl | exact opd_pickt rfl rfl (by assumption) rfl | exact opd_pickf rfl rfl (by assumption) rfl | exact opd_pick rfl rfl rfl)) ?_
            refine al_d rfl rfl rfl (by exact opd_move rfl rfl) ?_
            refine al_ond rfl rfl rfl (by first | rfl | assumption) rfl rfl (by exact opd_move rfl rfl) ?_
            refine al_ond rfl rfl rfl (by first | rfl | assumption) rfl rfl (by exact opd_geq rfl rfl rfl) ?_
            refine al_d rfl rfl rfl (by exact (by first | exact opd_pick_t rfl rfl rfl | exact opd_pick_f rfl rfl rfl | exact opd_pickt rfl rfl (by assumption) rfl | exact opd_pickf rfl rfl (by assumption) rfl | exact opd_pick rfl rfl rfl)) ?_
            refine al_d rfl rfl rfl (by exact opd_move rfl rfl) ?_
            refine al_off rfl rfl rfl (by first | rfl | assumption) rfl ?_
            refine al_off rfl rfl rfl (by first | rfl | assumption) rfl ?_
            refine al_d rfl rfl rfl (by exact (by first | exact opd_pick_t rfl rfl rfl | exact opd_pick_f rfl rfl rfl | exact opd_pickt rfl rfl (by assumption) rfl | exact opd_pickf rfl rfl (by assumption) rfl | exact opd_pick rfl rfl rfl)) ?_
            refine al_d rfl rfl rfl (by exact opd_move rfl rfl) ?_
            refine al_off rfl rfl rfl (by first | rfl | assumption) rfl ?_
            refine al_off rfl rfl rfl (by first | rfl | assumption) rfl ?_
            refine al_d rfl rfl rfl (by exact (by first | exact opd_pick_t rfl rfl rfl | exact opd_pick_f rfl rfl rfl | exact opd_pickt rfl rfl (by assumption) rfl | exact opd_pickf rfl rfl (by assumption) rfl | exact opd_pick rfl rfl rfl)) ?_
            refine al_nil ?_
            refine awp_cond rfl (fun hc5 => ?_) (fun hc5 => ?_)
            -- cond 5
            · skip
              refine awp_ret ?_
              -- return
              refine aret0 (H' := refH s x) (by first | exact .inr rfl | exact .inl rfl) rfl  (Fin.wk (by first | (simp; done) | (simp; rfl)) ⟨⟨_, rfl, rfl⟩, (by first | (simp; done) | (simp; rfl) | exact clo_map _ _ _ | exact clo_brows _ _ | exact ref_clo _ _ _ rfl rfl | (simp; exact ⟨rfl, rfl⟩) | (simp; exact ⟨rfl, rfl, rfl⟩)), ⟨_, rfl, rfl⟩, (by first | (simp; done) | (simp; rfl) | exact clo_map _ _ _ | exact clo_brows _ _ | exact ref_clo _ _ _ rfl rfl | (simp; exact ⟨rfl, rfl⟩) | (simp; exact ⟨rfl, rfl, rfl⟩)), ⟨_, rfl, rfl⟩, (by first | (simp; done) | (simp; rfl) | exact clo_map _ _ _ | exact clo_brows _ _ | exact ref_clo _ _ _ rfl rfl | (simp; exact ⟨rfl, rfl⟩) | (simp; exact ⟨rfl, rfl, rfl⟩)), trivial⟩ ⟨rfl, rfl, rfl, trivial⟩) ?_
              exact ⟨rfl, bad hg⟩
            · first | (cases hc5; done) | (rw [hc5] at n4; cases n4)
          · have n4 : decide (64 ≤ p) = false := decide_eq_false q4
            by_cases q5 : m < 1
            · have n5 : decide (m < 1) = true := decide_eq_true q5
              have hg : rotOk s n p m = false := by rw [rotOk, hsec, decide_eq_true (show 0 ≤ p by omega), decide_eq_true (show p < 64 by omega), decide_eq_false (show ¬ 0 < m by omega)]; rfl
              refine awp_skip ?_
              refine awp_seq ?_
              refine awp_seq ?_
              refine awp_region ?_
              refine al_d rfl rfl rfl (by exact opd_move rfl rfl) ?_
              refine al_d rfl rfl rfl (by exact opd_lss rfl rfl rfl) ?_
              refine al_d rfl rfl rfl (by exact opd_move rfl rfl) ?_
              refine al_ond rfl rfl rfl (by first | rfl | assumption) rfl rfl (by exact opd_move rfl rfl) ?_
              refine al_ond rfl rfl rfl (by first | rfl | assumption) rfl rfl (by exact opd_move rfl rfl) ?_
              refine al_ond rfl rfl rfl (by first | rfl | assumption) rfl rfl (by exact (by first | exact opd_nilCheck_ref rfl rfl rfl rfl | exact opd_nilCheck_fn rfl rfl)) ?_
              refine al_ond rfl rfl rfl (by first | rfl | assumption) rfl rfl (by exact (by first | exact opd_field_ref rfl fo97_0 rfl rfl rfl rfl | exact opd_field_pad rfl fo97_0 rfl rfl)) ?_
              refine al_ond rfl rfl rfl (by first | rfl | assumption) rfl rfl (by exact (by first | exact opd_load1_ref rfl Try.isAgg34 rfl rfl rfl rfl rfl | exact opd_load1_pad rfl Try.isAgg34 rfl (by first | omega | assumption) rfl)) ?_
              refine al_ond rfl rfl rfl (by first | rfl | assumption) rfl rfl (by exact (by first | exact opd_len_sl rfl Try.underlying34 rfl | exact opd_len_osl rfl Try.underlying34 rfl rfl rfl)) ?_
              refine al_ond rfl rfl rfl (by first | rfl | assumption) rfl rfl (by exact opd_geq rfl rfl rfl) ?_
              refine al_d rfl rfl rfl (by exact (by first | exact opd_pick_t rfl rfl rfl | exact opd_pick_f rfl rfl rfl | exact opd_pickt rfl rfl (by assumption) rfl | exact opd_pickf rfl rfl (by assumption) rfl | exact opd_pick rfl rfl rfl)) ?_
              refine al_d rfl rfl rfl (by exact opd_move rfl rfl) ?_
              refine al_ond rfl rfl rfl (by first | rfl | assumption) rfl rfl (by exact opd_move rfl rfl) ?_
              refine al_ond rfl rfl rfl (by first | rfl | assumption) rfl rfl (by exact opd_lss rfl rfl rfl) ?_
              refine al_d rfl rfl rfl (by exact (by first | exact opd_pick_t rfl rfl rfl | exact opd_pick_f rfl rfl rfl | exact opd_pickt rfl rfl (by assumption) rfl | exact opd_pickf rfl rfl (by assumption) rfl | exact opd_pick rfl rfl rfl)) ?_
              refine al_d rfl rfl rfl (by exact opd_move rfl rfl) ?_
              refine al_ond rfl rfl rfl (by first | rfl | assumption) rfl rfl (by exact opd_move rfl rfl) ?_
              refine al_ond rfl rfl rfl (by first | rfl | assumption) rfl rfl (by exact opd_geq rfl rfl rfl) ?_
              refine al_d rfl rfl rfl (by exact (by first | exact opd_pick_t rfl rfl rfl | exact opd_pick_f rfl rfl rfl | exact opd_pickt rfl rfl (by assumption) rfl | exact opd_pickf rfl rfl (by assumption) rfl | exact opd_pick rfl rfl rfl)) ?_
              refine al_d rfl rfl rfl (by exact opd_move rfl rfl) ?_
              refine al_ond rfl rfl rfl (by first | rfl | assumption) rfl rfl (by exact opd_move rfl rfl) ?_
              refine al_ond rfl rfl rfl (by first | rfl | assumption) rfl rfl (by exact opd_lss rfl rfl rfl) ?_
              refine al_d rfl rfl rfl (by exact (by first | exact opd_pick_t rfl rfl rfl | exact opd_pick_f rfl rfl rfl | exact opd_pickt rfl rfl (by assumption) rfl | exact opd_pickf rfl rfl (by assumption) rfl | exact opd_pick rfl rfl rfl)) ?_
              refine al_d rfl rfl rfl (by exact opd_move rfl rfl) ?_
              refine al_off rfl rfl rfl (by first | rfl | assumption) rfl ?_
              refine al_off rfl rfl rfl (by first | rfl | assumption) rfl ?_
              refine al_d rfl rfl rfl (by exact (by first | exact opd_pick_t rfl rfl rfl | exact opd_pick_f rfl rfl rfl | exact opd_pickt rfl rfl (by assumption) rfl | exact opd_pickf rfl rfl (by assumption) rfl | exact opd_pick rfl rfl rfl)) ?_
              refine al_nil ?_
              refine awp_cond rfl (fun hc6 => ?_) (fun hc6 => ?_)
              -- cond 6
              · skip
                refine awp_ret ?_
                -- return
                refine aret0 (H' := refH s x) (by first | exact .inr rfl | exact .inl rfl) rfl  (Fin.wk (by first | (simp; done) | (simp; rfl)) ⟨⟨_, rfl, rfl⟩, (by first | (simp; done) | (simp; rfl) | exact clo_map _ _ _ | exact clo_brows _ _ | exact ref_clo _ _ _ rfl rfl | (simp; exact ⟨rfl, rfl⟩) | (simp; exact ⟨rfl, rfl, rfl⟩)), ⟨_, rfl, rfl⟩, (by first | (simp; done) | (simp; rfl) | exact clo_map _ _ _ | exact clo_brows _ _ | exact ref_clo _ _ _ rfl rfl | (simp; exact ⟨rfl, rfl⟩) | (simp; exact ⟨rfl, rfl, rfl⟩)), ⟨_, rfl, rfl⟩, (by first | (simp; done) | (simp; rfl) | exact clo_map _ _ _ | exact clo_brows _ _ | exact ref_clo _ _ _ rfl rfl | (simp; exact ⟨rfl, rfl⟩) | (simp; exact ⟨rfl, rfl, rfl⟩)), trivial⟩ ⟨rfl, rfl, rfl, trivial⟩) ?_
                exact ⟨rfl, bad hg⟩
              · first | (cases hc6; done) | (rw [hc6] at n5; cases n5)
            · have n5 : decide (m < 1) = false := decide_eq_false q5
              refine awp_skip ?_
              refine awp_seq ?_
              refine awp_seq ?_
              refine awp_region ?_
              refine al_d rfl rfl rfl (by exact opd_move rfl rfl) ?_
              refine al_d rfl rfl rfl (by exact opd_lss rfl rfl rfl) ?_
              refine al_d rfl rfl rfl (by exact opd_move rfl rfl) ?_
              refine al_ond rfl rfl rfl (by first | rfl | assumption) rfl rfl (by exact opd_move rfl rfl) ?_
              refine al_ond rfl rfl rfl (by first | rfl | assumption) rfl rfl (by exact opd_move rfl rfl) ?_
              refine al_ond rfl rfl rfl (by first | rfl | assumption) rfl rfl (by exact (by first | exact opd_nilCheck_ref rfl rfl rfl rfl | exact opd_nilCheck_fn rfl rfl)) ?_
              refine al_ond rfl rfl rfl (by first | rfl | assumption) rfl rfl (by exact (by first | exact opd_field_ref rfl fo97_0 rfl rfl rfl rfl | exact opd_field_pad rfl fo97_0 rfl rfl)) ?_
              refine al_ond rfl rfl rfl (by first | rfl | assumption) rfl rfl (by exact (by first | exact opd_load1_ref rfl Try.isAgg34 rfl rfl rfl rfl rfl | exact opd_load1_pad rfl Try.isAgg34 rfl (by first | omega | assumption) rfl)) ?_
              refine al_ond rfl rfl rfl (by first | rfl | assumption) rfl rfl (by exact (by first | exact opd_len_sl rfl Try.underlying34 rfl | exact opd_len_osl rfl Try.underlying34 rfl rfl rfl)) ?_
              refine al_ond rfl rfl rfl (by first | rfl | assumption) rfl rfl (by exact opd_geq rfl rfl rfl) ?_
              refine al_d rfl rfl rfl (by exact (by first | exact opd_pick_t rfl rfl rfl | exact opd_pick_f rfl rfl rfl | exact opd_pickt rfl rfl (by assumption) rfl | exact opd_pickf rfl rfl (by assumption) rfl | exact opd_pick rfl rfl rfl)) ?_
              refine al_d rfl rfl rfl (by exact opd_move rfl rfl) ?_
              refine al_ond rfl rfl rfl (by first | rfl | assumption) rfl rfl (by exact opd_move rfl rfl) ?_
              refine al_ond rfl rfl rfl (by first | rfl | assumption) rfl rfl (by exact opd_lss rfl rfl rfl) ?_
              refine al_d rfl rfl rfl (by exact (by first | exact opd_pick_t rfl rfl rfl | exact opd_pick_f rfl rfl rfl | exact opd_pickt rfl rfl (by assumption) rfl | exact opd_pickf rfl rfl (by assumption) rfl | exact opd_pick rfl rfl rfl)) ?_
              refine al_d rfl rfl rfl (by exact opd_move rfl rfl) ?_
              refine al_ond rfl rfl rfl (by first | rfl | assumption) rfl rfl (by exact opd_move rfl rfl) ?_
              refine al_ond rfl rfl rfl (by first | rfl | assumption) rfl rfl (by exact opd_geq rfl rfl rfl) ?_
              refine al_d rfl rfl rfl (by exact (by first | exact opd_pick_t rfl rfl rfl | exact opd_pick_f rfl rfl rfl | exact opd_pickt rfl rfl (by assumption) rfl | exact opd_pickf rfl rfl (by assumption) rfl | exact opd_pick rfl rfl rfl)) ?_
              refine al_d rfl rfl rfl (by exact opd_move rfl rfl) ?_
              refine al_ond rfl rfl rfl (by first | rfl | assumption) rfl rfl (by exact opd_move rfl rfl) ?_
              refine al_ond rfl rfl rfl (by first | rfl | assumption) rfl rfl (by exact opd_lss rfl rfl rfl) ?_
              refine al_d rfl rfl rfl (by exact (by first | exact opd_pick_t rfl rfl rfl | exact opd_pick_f rfl rfl rfl | exact opd_pickt rfl rfl (by assumption) rfl | exact opd_pickf rfl rfl (by assumption) rfl | exact opd_pick rfl rfl rfl)) ?_
              refine al_d rfl rfl rfl (by exact opd_move rfl rfl) ?_
              refine al_ond rfl rfl rfl (by first | rfl | assumption) rfl rfl (by exact opd_move rfl rfl) ?_
              refine al_ond rfl rfl rfl (by first | rfl | assumption) rfl rfl (by exact opd_gtr rfl rfl rfl) ?_
              refine al_d rfl rfl rfl (by exact (by first | exact opd_pick_t rfl rfl rfl | exact opd_pick_f rfl rfl rfl | exact opd_pickt rfl rfl (by assumption) rfl | exact opd_pickf rfl rfl (by assumption) rfl | exact opd_pick rfl rfl rfl)) ?_
              refine al_nil ?_
              refine awp_cond rfl (fun hc7 => ?_) (fun hc7 => ?_)
              -- cond 7
              · have q6 : 255 < m := of_decide_eq_true hc7
                have hg : rotOk s n p m = false := by rw [rotOk, hsec, decide_eq_true (show 0 ≤ p by omega), decide_eq_true (show p < 64 by omega), decide_eq_true (show 0 < m by omega), decide_eq_false (show ¬ m < 256 by omega)]; rfl
                refine awp_ret ?_
                -- return
                refine aret0 (H' := refH s x) (by first | exact .inr rfl | exact .inl rfl) rfl  (Fin.wk (by first | (simp; done) | (simp; rfl)) ⟨⟨_, rfl, rfl⟩, (by first | (simp; done) | (simp; rfl) | exact clo_map _ _ _ | exact clo_brows _ _ | exact ref_clo _ _ _ rfl rfl | (simp; exact ⟨rfl, rfl⟩) | (simp; exact ⟨rfl, rfl, rfl⟩)), ⟨_, rfl, rfl⟩, (by first | (simp; done) | (simp; rfl) | exact clo_map _ _ _ | exact clo_brows _ _ | exact ref_clo _ _ _ rfl rfl | (simp; exact ⟨rfl, rfl⟩) | (simp; exact ⟨rfl, rfl, rfl⟩)), ⟨_, rfl, rfl⟩, (by first | (simp; done) | (simp; rfl) | exact clo_map _ _ _ | exact clo_brows _ _ | exact ref_clo _ _ _ rfl rfl | (simp; exact ⟨rfl, rfl⟩) | (simp; exact ⟨rfl, rfl, rfl⟩)), trivial⟩ ⟨rfl, rfl, rfl, trivial⟩) ?_
                exact ⟨rfl, bad hg⟩
              · have q6 : ¬ 255 < m := of_decide_eq_false hc7
                have hro : rotOk s n p m = true := by rw [rotOk, hsec, decide_eq_true (show 0 ≤ p by omega), decide_eq_true (show p < 64 by omega), decide_eq_true (show 0 < m by omega), decide_eq_true (show m < 256 by omega)]; rfl
                obtain ⟨i, rfl⟩ : ∃ i : Nat, p = (i : Int) := ⟨p.toNat, by omega⟩
                obtain ⟨z, rfl⟩ : ∃ z : Nat, m = (z : Int) := ⟨m.toNat, by omega⟩
                obtain ⟨c, hc⟩ := get_of_lt hn
                have hcs := hs.c c (List.mem_of_getElem? hc)
                have hcr := stRows_get hc
                obtain ⟨y, hy⟩ := get_of_lt (l := c.data.toList) (k := i) (by rw [ba_size]; omega)
                have hby : byteAt c i = (y.toNat : Int) := by unfold byteAt; rw [hy]; rfl
                have hx := xor_u8 y z (by omega)
                have hu : IntKind.u8.wrap (z : Int) = (z : Int) := wu8 (by omega) (by omega)
                have hfe := flip_eq (m := z) (show i < c.size by omega) hy
                have hdr : dRot s n i z = { s with cells := s.cells.set n (flip c i z) } := by simp [dRot, hro, hc]
                have hlen : (s.cells.set n (flip c i z)).length = s.cells.length := List.length_set
                have hz1 : (c.extract 0 i).size + (⟨[y ^^^ UInt8.ofNat z].toArray⟩ : ByteArray).size ≤ 9223372036854775807 := by
                  have e1 : (c.extract 0 i).size ≤ 64 := by rw [ByteArray.size_extract]; omega
                  have e2 : (⟨[y ^^^ UInt8.ofNat z].toArray⟩ : ByteArray).size = 1 := rfl
                  omega
                have hz2 : (c.extract 0 i ++ ⟨[y ^^^ UInt8.ofNat z].toArray⟩).size + (c.extract (i + 1) c.size).size ≤ 9223372036854775807 := by
                  have e1 : (c.extract 0 i).size ≤ 64 := by rw [ByteArray.size_extract]; omega
                  have e2 : (⟨[y ^^^ UInt8.ofNat z].toArray⟩ : ByteArray).size = 1 := rfl
                  have e3 : (c.extract (i + 1) c.size).size ≤ 64 := by rw [ByteArray.size_extract]; omega
                  rw [ByteArray.size_append]; omega
                have hw : IntKind.i64.wrap ((i : Int) + 1) = ((i + 1 : Nat) : Int) := by rw [w64 (by omega) (by omega)]; omega
                refine awp_skip ?_
                refine awp_seq ?_
                refine awp_region ?_
                refine al_d rfl rfl rfl (by exact opd_move rfl rfl) ?_
                refine al_d rfl rfl rfl (by exact (by first | exact opd_nilCheck_ref rfl rfl rfl rfl | exact opd_nilCheck_fn rfl rfl)) ?_
                refine al_d rfl rfl rfl (by exact (by first | exact opd_field_ref rfl fo97_0 rfl rfl rfl rfl | exact opd_field_pad rfl fo97_0 rfl rfl)) ?_
                refine al_d rfl rfl rfl (by exact (by first | exact opd_load1_ref rfl Try.isAgg34 rfl rfl rfl rfl rfl | exact opd_load1_pad rfl Try.isAgg34 rfl (by first | omega | assumption) rfl)) ?_
                refine al_d rfl rfl rfl (by exact opd_move rfl rfl) ?_
                refine al_d rfl rfl rfl (by exact (by first | exact x_index_pad rfl so34 rfl rfl (by omega) (by first | exact Int.toNat_natCast _ | rfl) (by assumption) rfl | exact x_index_osl rfl so34 rfl rfl rfl rfl rfl (by omega) (by first | exact Int.toNat_natCast _ | rfl) (by first | omega | assumption) (Nat.zero_add _))) ?_
                refine al_d rfl rfl rfl (by exact (by first | exact opd_load1_ref rfl Try.isAgg9 rfl rfl rfl hcr rfl | exact opd_load1_pad rfl Try.isAgg9 rfl hcr rfl)) ?_
                refine al_d rfl rfl rfl (by exact opd_assign rfl rfl) ?_
                refine al_nil ?_
                refine awp_seq ?_
                refine awp_region ?_
                refine al_d rfl rfl rfl (by exact opd_move rfl rfl) ?_
                refine al_d rfl rfl rfl (by exact opd_move rfl rfl) ?_
                refine al_d rfl rfl rfl (by exact opd_index_str rfl Try.underlying9 rfl rfl (by omega) (Int.toNat_natCast _) (by omega) hby) ?_
                refine al_d rfl rfl rfl (by exact opd_move rfl rfl) ?_
                refine al_d rfl rfl rfl (by exact opd_conv_int rfl Try.underlying3 Try.underlying5 rfl hu) ?_
                refine al_d rfl rfl rfl (by exact opd_bits rfl (by simp) rfl rfl hx) ?_
                refine al_d rfl rfl rfl (by exact x_buildSlice_own (id := 52) rfl so90 rfl rfl rfl rfl (by simp) rfl) ?_
                refine al_d rfl rfl rfl (by exact opd_assign rfl rfl) ?_
                refine al_nil ?_
                refine awp_drawc follows ?_
                refine dc_cons (r := ⟨_, some [1100], []⟩) (DStep.plain rfl (fun H1 hH => by exact opd_move rfl rfl)) rfl ?_
                refine dc_cons (r := ⟨_, some [1100], []⟩) (DStep.plain rfl (fun H1 hH => by exact (by first | exact opd_nilCheck_ref rfl rfl ((hH _ rfl).trans rfl) rfl | exact opd_nilCheck_fn rfl rfl))) rfl ?_
                refine dc_cons (r := ⟨_, some [1100], []⟩) (DStep.plain rfl (fun H1 hH => by exact (by first | exact opd_field_ref rfl fo97_0 rfl ((hH _ rfl).trans rfl) rfl rfl | exact opd_field_pad rfl fo97_0 rfl rfl))) rfl ?_
                refine dc_cons (r := ⟨_, some [1100], []⟩) (DStep.plain rfl (fun H1 hH => by exact (by first | exact opd_load1_ref rfl Try.isAgg34 rfl ((hH _ rfl).trans rfl) rfl rfl rfl | exact opd_load1_pad rfl Try.isAgg34 rfl (by first | omega | assumption) rfl))) rfl ?_
                refine dc_cons (r := ⟨_, some [], []⟩) (DStep.plain rfl (fun H1 hH => by exact opd_move rfl rfl)) rfl ?_
                refine dc_cons (r := ⟨_, some [], []⟩) (DStep.plain rfl (fun H1 hH => by exact opd_move rfl rfl)) rfl ?_
                refine dc_cons (r := ⟨_, some [], []⟩) (DStep.plain rfl (fun H1 hH => by exact opd_move rfl rfl)) rfl ?_
                refine dc_cons (r := ⟨_, some [], []⟩) (DStep.plain rfl (fun H1 hH => by exact opd_slice_str (l := 0) (h := i) rfl Try.underlying9 rfl rfl rfl (by omega) (by omega) rfl)) rfl ?_
                refine dc_cons (r := ⟨_, some [52], []⟩) (DStep.plain rfl (fun H1 hH => by exact opd_move rfl rfl)) rfl ?_
                refine dc_cons (r := ⟨_, some [52], []⟩) (DStep.plain rfl (fun H1 hH => by exact opd_bytes_str rfl Try.underlying90 Try.underlying5 Try.underlying9 rfl ((hH _ rfl).trans rfl) rfl rfl (rfl : _ = brows [y ^^^ UInt8.ofNat z]) rfl)) rfl ?_
                refine dc_cons (r := ⟨_, some [], []⟩) (DStep.plain rfl (fun H1 hH => by exact opd_sadd rfl rfl rfl hz1 rfl)) rfl ?_
                refine dc_cons (r := ⟨_, some [], []⟩) (DStep.plain rfl (fun H1 hH => by exact opd_move rfl rfl)) rfl ?_
                refine dc_cons (r := ⟨_, some [], []⟩) (DStep.plain rfl (fun H1 hH => by exact opd_move rfl rfl)) rfl ?_
                refine dc_cons (r := ⟨_, some [], []⟩) (DStep.plain rfl (fun H1 hH => by exact opd_add rfl rfl rfl hw)) rfl ?_
                refine dc_cons (r := ⟨_, some [], []⟩) (DStep.plain rfl (fun H1 hH => by exact opd_slice_str (l := (i + 1)) (h := c.size) rfl Try.underlying9 rfl rfl rfl (by omega) (by omega) rfl)) rfl ?_
                refine dc_cons (r := ⟨_, some [], []⟩) (DStep.plain rfl (fun H1 hH => by exact opd_sadd rfl rfl rfl hz2 hfe)) rfl ?_
                refine dc_cons (r := ⟨_, some [1101], []⟩) (DStep.plain rfl (fun H1 hH => by exact (by first | exact x_index_pad rfl so34 rfl rfl (by omega) (by first | exact Int.toNat_natCast _ | rfl) (by assumption) rfl | exact x_index_osl rfl so34 rfl ((hH _ rfl).trans rfl) rfl rfl rfl (by omega) (by first | exact Int.toNat_natCast _ | rfl) (by first | omega | assumption) (Nat.zero_add _)))) rfl ?_
                refine dc_cons (r := ⟨_, some [1101], [_]⟩) (DStep.plain rfl (fun H1 hH => by exact x_store1 rfl Try.sizeOf9 rfl rfl rfl ((hH 1101 rfl).trans rfl) rfl hcr (by simp) rfl (stRows_set _ _ _))) rfl ?_
                refine dc_nil ⟨by kernel_rfl, ?_⟩
                -- end of the body
                refine aret0 (H' := rH (rRow s x) (s.cells.set n (flip c i z)) s x) (by first | exact .inr rfl | exact .inl rfl) rfl  (Fin.wk (by first | (simp; done) | (simp; rfl)) ⟨⟨_, rfl, rfl⟩, (by first | (simp; done) | (simp; rfl) | exact clo_map _ _ _ | exact clo_brows _ _ | exact ref_clo _ _ _ rfl rfl | (simp; exact ⟨rfl, rfl⟩) | (simp; exact ⟨rfl, rfl, rfl⟩)), ⟨_, rfl, rfl⟩, (by first | (simp; done) | (simp; rfl) | exact clo_map _ _ _ | exact clo_brows _ _ | exact ref_clo _ _ _ rfl rfl | (simp; exact ⟨rfl, rfl⟩) | (simp; exact ⟨rfl, rfl, rfl⟩)), ⟨_, rfl, rfl⟩, (by first | (simp; done) | (simp; rfl) | exact clo_map _ _ _ | exact clo_brows _ _ | exact ref_clo _ _ _ rfl rfl | (simp; exact ⟨rfl, rfl⟩) | (simp; exact ⟨rfl, rfl, rfl⟩)), trivial⟩ ⟨rfl, rfl, rfl, trivial⟩) ?_
                exact ⟨rfl, by rw [hdr]; simp only [refH, rH, rRow, hlen]; rfl⟩
theorem zero_c (H : Heap) : ACalls Try.prog 50 [iv 64] H (fun r H' => r = sv z64 ∧ H' = H) := by
  refine ACalls.pure ?_ (by simp) H
  refine ACalls.body Try.func50 rfl Try.ntmps50 (Nat.le_of_ble_eq_true rfl) ?_
  refine awp_seq ?_
  refine awp_region ?_
  refine al_d rfl rfl rfl (by exact opd_assign rfl rfl) ?_
  refine al_nil ?_
  refine awp_seq ?_
  refine awp_region ?_
  refine al_d rfl rfl rfl (by exact opd_assign rfl rfl) ?_
  refine al_nil ?_
  refine awp_seq ?_
  refine awp_seq ?_
  refine awp_region ?_
  refine al_d rfl rfl rfl (by exact opd_assign rfl rfl) ?_
  refine al_nil ?_
  refine awp_block ?_
  -- loop
  refine awp_loop (σ := Nat) (fun i => ([(0, iv 64), (3, sv ⟨(List.replicate i 0).toArray⟩), (4, iv (i : Int))], [])) (fun i => i ≤ 64) (fun i => 64 - i) 0 (by omega) ?_ ?_
  · exact Ent.e0 ⟨⟨_, rfl, rfl⟩, ⟨_, rfl, rfl⟩, ⟨_, rfl, rfl⟩, trivial⟩
  · intro i hi
    have hsz : (⟨(List.replicate i 0).toArray⟩ : ByteArray).size = i := by
      show (List.toArray _).size = _
      simp
    refine awp_seq ?_
    refine awp_seq ?_
    refine awp_region ?_
    refine al_d rfl rfl rfl (by exact opd_move rfl rfl) ?_
    refine al_d rfl rfl rfl (by exact opd_move rfl rfl) ?_
    refine al_d rfl rfl rfl (by exact opd_lss rfl rfl rfl) ?_
    refine al_nil ?_
    refine awp_cond rfl (fun hc1 => ?_) (fun hc1 => ?_)
    -- cond 1
    · have hlt : i < 64 := by have := of_decide_eq_true hc1; omega
      have hsn : (⟨(List.replicate i 0).toArray⟩ : ByteArray) ++ ⟨#[0]⟩ = ⟨(List.replicate (i + 1) 0).toArray⟩ := by
        rw [ba_append, List.replicate_succ']
      have h1 : (⟨#[0]⟩ : ByteArray).size = 1 := rfl
      refine awp_skip ?_
      refine awp_seq ?_
      refine awp_block ?_
      refine awp_region ?_
      refine al_d rfl rfl rfl (by exact opd_move rfl rfl) ?_
      refine al_d rfl rfl rfl (by exact opd_sadd rfl rfl rfl (by rw [hsz, h1]; omega) hsn) ?_
      refine al_d rfl rfl rfl (by exact opd_assign rfl rfl) ?_
      refine al_nil ?_
      refine awp_region ?_
      refine al_d rfl rfl rfl (by exact opd_move rfl rfl) ?_
      refine al_d rfl rfl rfl (by exact opd_add rfl rfl rfl (by first | exact w64 (by omega) (by omega) | exact wu8 (by omega) (by omega) | rfl)) ?_
      refine al_d rfl rfl rfl (by exact opd_assign rfl rfl) ?_
      refine al_nil ?_
      -- end of a round
      exact ⟨i + 1, by omega, by omega, Ent.e0 ⟨⟨_, rfl, rfl⟩, ⟨_, rfl, rfl⟩, ⟨_, rfl, rfl⟩, trivial⟩⟩
    · have hge : i = 64 := by have : ¬ _ := of_decide_eq_false hc1; omega
      subst hge
      refine awp_exit ?_
      refine awp_seq ?_
      refine awp_region ?_
      refine al_d rfl rfl rfl (by exact opd_move rfl rfl) ?_
      refine al_d rfl rfl rfl (by exact opd_assign rfl rfl) ?_
      refine al_nil ?_
      refine awp_ret ?_
      -- return
      refine aret1 (H' := []) (by first | exact .inr rfl | exact .inl rfl) rfl (rval_tmp rfl) (Fin.wk (by simp) trivial trivial) ?_
      exact ⟨rfl, rfl⟩
abbrev rNewH (i : Nat) : Heap := [(1100, ⟨0, 7, 97, [[.osl 1101 i 0 i, .osl 1102 0 0 0, bv true, bv false, iv 0, iv 0, iv 0]]⟩), (1101, ⟨i, 1, 9, stRows (List.replicate i z64)⟩), (1102, ⟨0, 2, 106, []⟩)]
theorem rNewH_eq (n : Nat) : rNewH n = refH (dNew n) ⟨n, 0, 0, 0, 0⟩ := by
  simp [rNewH, refH, rRow, dNew, armB, armA, armW, armY]
theorem rnew_c (n : Nat) (h1 : 1 ≤ n) (h2 : n ≤ 8000) : ACalls Try.prog 25 [iv (n : Int)] [] (fun r H' => r = .ref 1100 0 0 0 ∧ H' = refH (dNew n) ⟨n, 0, 0, 0, 0⟩) := by
  rw [← rNewH_eq]
  refine ACalls.body Try.func25 rfl Try.ntmps25 (Nat.le_of_ble_eq_true rfl) ?_
  refine awp_seq ?_
  refine awp_region ?_
  refine al_d rfl rfl rfl (by exact opd_assign rfl rfl) ?_
  refine al_nil ?_
  refine awp_seq ?_
  refine awp_seq ?_
  refine awp_bool (t := 11) (n := 7) (X := false) ?_ ?_
  · all_goals (refine al_d rfl rfl rfl (by exact opd_move rfl rfl) ?_)
    all_goals (refine al_d rfl rfl rfl (by exact opd_lss rfl rfl rfl) ?_)
    all_goals (refine al_d rfl rfl rfl (by exact opd_move rfl rfl) ?_)
    all_goals (first | refine al_split (t := 8) rfl (fun h8 => ?_) (fun h8 => ?_) | skip)
    all_goals (try contradiction)
    all_goals (first | refine al_off rfl rfl rfl rfl rfl ?_ | refine al_offu rfl rfl rfl rfl ?_ | refine al_ond rfl rfl rfl rfl rfl rfl (by exact opd_move rfl rfl) ?_)
    all_goals (first | refine al_off rfl rfl rfl rfl rfl ?_ | refine al_offu rfl rfl rfl rfl ?_ | refine al_ond rfl rfl rfl rfl rfl rfl (by exact opd_gtr rfl rfl rfl) ?_)
    all_goals (refine al_d rfl rfl rfl (by exact (by first | exact opd_pick_t rfl rfl rfl | exact opd_pick_f rfl rfl rfl | exact opd_pickt rfl rfl (by assumption) rfl | exact opd_pickf rfl rfl (by assumption) rfl | exact opd_pick rfl rfl rfl)) ?_)
    all_goals (refine al_nil ?_)
    all_goals (exact ⟨⟨_, rfl, by first | rfl | (simp only [*, Bool.false_and, Bool.true_and, Bool.and_false, Bool.and_true, Bool.true_or, Bool.false_or, Bool.or_true, Bool.or_false, Bool.not_true, Bool.not_false]; done) | (simp_all; done) | (simp_all; omega)⟩, rfl, rfl, rfl⟩)
  refine awp_cond rfl (fun hc1 => ?_) (fun hc1 => ?_)
  -- cond 1
  · skip
    (first | (cases hc1; done) | (revert hc1; simp; done) | (revert hc1; simp_all; done) | (revert hc1; simp_all; omega))
  · skip
    refine awp_skip ?_
    refine awp_seq ?_
    refine awp_region ?_
    refine al_d rfl rfl rfl (by exact x_build rfl boN97 rfl rfl) ?_
    refine al_d rfl rfl rfl (by exact opd_box (id := 1100) rfl rfl rfl rfl rfl) ?_
    refine al_d rfl rfl rfl (by exact opd_assign rfl rfl) ?_
    refine al_nil ?_
    refine awp_seq ?_
    refine awp_region ?_
    refine al_d rfl rfl rfl (by exact opr_call rfl rfl Try.call50 rfl (zero_c _)) ?_
    refine al_d rfl rfl rfl (by exact opd_assign rfl rfl) ?_
    refine al_nil ?_
    refine awp_seq ?_
    refine awp_seq ?_
    refine awp_region ?_
    refine al_d rfl rfl rfl (by exact opd_assign rfl rfl) ?_
    refine al_nil ?_
    refine awp_block ?_
    -- loop
    refine awp_loop (σ := Nat) (fun i => ([(0, iv (n : Int)), (3, .ref 1100 0 0 0), (4, sv z64), (5, iv (i : Int))], rNewH i)) (fun i => i ≤ n) (fun i => n - i) 0 (by omega) ?_ ?_
    · refine Ent.trans (E' := [(0, iv (n : Int)), (3, .ref 1100 0 0 0), (4, sv z64), (5, iv 0)]) (H' := [(1101, ⟨0, 1, 9, []⟩), (1100, ⟨0, 7, 97, [[.osl 1101 0 0 0, .pv .nils, bv true, bv false, iv 0, iv 0, iv 0]]⟩)]) (Ent.nz 1101 1 9 rfl rfl ⟨⟨_, rfl, (by first | exact Nz.own | exact Nz.weak | exact Nz.same (by first | (simp; done) | (simp; rfl) | exact clo_map _ _ _ | exact clo_brows _ _ | exact ref_clo _ _ _ rfl rfl | (simp; exact ⟨rfl, rfl⟩) | (simp; exact ⟨rfl, rfl, rfl⟩)))⟩, ⟨_, rfl, (by first | exact Nz.own | exact Nz.weak | exact Nz.same (by first | (simp; done) | (simp; rfl) | exact clo_map _ _ _ | exact clo_brows _ _ | exact ref_clo _ _ _ rfl rfl | (simp; exact ⟨rfl, rfl⟩) | (simp; exact ⟨rfl, rfl, rfl⟩)))⟩, ⟨_, rfl, (by first | exact Nz.own | exact Nz.weak | exact Nz.same (by first | (simp; done) | (simp; rfl) | exact clo_map _ _ _ | exact clo_brows _ _ | exact ref_clo _ _ _ rfl rfl | (simp; exact ⟨rfl, rfl⟩) | (simp; exact ⟨rfl, rfl, rfl⟩)))⟩, ⟨_, rfl, (by first | exact Nz.own | exact Nz.weak | exact Nz.same (by first | (simp; done) | (simp; rfl) | exact clo_map _ _ _ | exact clo_brows _ _ | exact ref_clo _ _ _ rfl rfl | (simp; exact ⟨rfl, rfl⟩) | (simp; exact ⟨rfl, rfl, rfl⟩)))⟩, trivial⟩ ⟨⟨_, rfl, rfl, rfl, rfl, (by first | exact .inl ⟨rfl, (by first | (simp; done) | (simp; rfl) | exact clo_map _ _ _ | exact clo_brows _ _ | exact ref_clo _ _ _ rfl rfl | (simp; exact ⟨rfl, rfl⟩) | (simp; exact ⟨rfl, rfl, rfl⟩))⟩ | exact .inr ⟨_, _, rfl, rfl, (by repeat (first | exact trivial | refine ⟨(by first | exact Nz.own | exact Nz.weak | exact Nz.same (by first | (simp; done) | (simp; rfl) | exact clo_map _ _ _ | exact clo_brows _ _ | exact ref_clo _ _ _ rfl rfl | (simp; exact ⟨rfl, rfl⟩) | (simp; exact ⟨rfl, rfl, rfl⟩))), ?_⟩))⟩)⟩, trivial⟩ trivial) ?_
      refine Ent.trans (E' := [(0, iv (n : Int)), (3, .ref 1100 0 0 0), (4, sv z64), (5, iv 0)]) (H' := [(1102, ⟨0, 2, 106, []⟩), (1101, ⟨0, 1, 9, []⟩), (1100, ⟨0, 7, 97, [[.osl 1101 0 0 0, .osl 1102 0 0 0, bv true, bv false, iv 0, iv 0, iv 0]]⟩)]) (Ent.nz 1102 2 106 rfl rfl ⟨⟨_, rfl, (by first | exact Nz.own | exact Nz.weak | exact Nz.same (by first | (simp; done) | (simp; rfl) | exact clo_map _ _ _ | exact clo_brows _ _ | exact ref_clo _ _ _ rfl rfl | (simp; exact ⟨rfl, rfl⟩) | (simp; exact ⟨rfl, rfl, rfl⟩)))⟩, ⟨_, rfl, (by first | exact Nz.own | exact Nz.weak | exact Nz.same (by first | (simp; done) | (simp; rfl) | exact clo_map _ _ _ | exact clo_brows _ _ | exact ref_clo _ _ _ rfl rfl | (simp; exact ⟨rfl, rfl⟩) | (simp; exact ⟨rfl, rfl, rfl⟩)))⟩, ⟨_, rfl, (by first | exact Nz.own | exact Nz.weak | exact Nz.same (by first | (simp; done) | (simp; rfl) | exact clo_map _ _ _ | exact clo_brows _ _ | exact ref_clo _ _ _ rfl rfl | (simp; exact ⟨rfl, rfl⟩) | (simp; exact ⟨rfl, rfl, rfl⟩)))⟩, ⟨_, rfl, (by first | exact Nz.own | exact Nz.weak | exact Nz.same (by first | (simp; done) | (simp; rfl) | exact clo_map _ _ _ | exact clo_brows _ _ | exact ref_clo _ _ _ rfl rfl | (simp; exact ⟨rfl, rfl⟩) | (simp; exact ⟨rfl, rfl, rfl⟩)))⟩, trivial⟩ ⟨⟨_, rfl, rfl, rfl, rfl, (by first | exact .inl ⟨rfl, (by first | (simp; done) | (simp; rfl) | exact clo_map _ _ _ | exact clo_brows _ _ | exact ref_clo _ _ _ rfl rfl | (simp; exact ⟨rfl, rfl⟩) | (simp; exact ⟨rfl, rfl, rfl⟩))⟩ | exact .inr ⟨_, _, rfl, rfl, (by repeat (first | exact trivial | refine ⟨(by first | exact Nz.own | exact Nz.weak | exact Nz.same (by first | (simp; done) | (simp; rfl) | exact clo_map _ _ _ | exact clo_brows _ _ | exact ref_clo _ _ _ rfl rfl | (simp; exact ⟨rfl, rfl⟩) | (simp; exact ⟨rfl, rfl, rfl⟩))), ?_⟩))⟩)⟩, ⟨_, rfl, rfl, rfl, rfl, (by first | exact .inl ⟨rfl, (by first | (simp; done) | (simp; rfl) | exact clo_map _ _ _ | exact clo_brows _ _ | exact ref_clo _ _ _ rfl rfl | (simp; exact ⟨rfl, rfl⟩) | (simp; exact ⟨rfl, rfl, rfl⟩))⟩ | exact .inr ⟨_, _, rfl, rfl, (by repeat (first | exact trivial | refine ⟨(by first | exact Nz.own | exact Nz.weak | exact Nz.same (by first | (simp; done) | (simp; rfl) | exact clo_map _ _ _ | exact clo_brows _ _ | exact ref_clo _ _ _ rfl rfl | (simp; exact ⟨rfl, rfl⟩) | (simp; exact ⟨rfl, rfl, rfl⟩))), ?_⟩))⟩)⟩, trivial⟩ trivial) ?_
      exact (Ent.wk ⟨⟨_, rfl, rfl⟩, (by first | (simp; done) | (simp; rfl) | exact clo_map _ _ _ | exact clo_brows _ _ | exact ref_clo _ _ _ rfl rfl | (simp; exact ⟨rfl, rfl⟩) | (simp; exact ⟨rfl, rfl, rfl⟩)), ⟨_, rfl, rfl⟩, (by first | (simp; done) | (simp; rfl) | exact clo_map _ _ _ | exact clo_brows _ _ | exact ref_clo _ _ _ rfl rfl | (simp; exact ⟨rfl, rfl⟩) | (simp; exact ⟨rfl, rfl, rfl⟩)), ⟨_, rfl, rfl⟩, (by first | (simp; done) | (simp; rfl) | exact clo_map _ _ _ | exact clo_brows _ _ | exact ref_clo _ _ _ rfl rfl | (simp; exact ⟨rfl, rfl⟩) | (simp; exact ⟨rfl, rfl, rfl⟩)), ⟨_, rfl, rfl⟩, (by first | (simp; done) | (simp; rfl) | exact clo_map _ _ _ | exact clo_brows _ _ | exact ref_clo _ _ _ rfl rfl | (simp; exact ⟨rfl, rfl⟩) | (simp; exact ⟨rfl, rfl, rfl⟩)), trivial⟩ ⟨⟨_, rfl, rfl⟩, (by first | (simp; done) | (simp; rfl) | exact clo_map _ _ _ | exact clo_brows _ _ | exact ref_clo _ _ _ rfl rfl | (simp; exact ⟨rfl, rfl⟩) | (simp; exact ⟨rfl, rfl, rfl⟩)), ⟨_, rfl, rfl⟩, (by first | (simp; done) | (simp; rfl) | exact clo_map _ _ _ | exact clo_brows _ _ | exact ref_clo _ _ _ rfl rfl | (simp; exact ⟨rfl, rfl⟩) | (simp; exact ⟨rfl, rfl, rfl⟩)), ⟨_, rfl, rfl⟩, (by first | (simp; done) | (simp; rfl) | exact clo_map _ _ _ | exact clo_brows _ _ | exact ref_clo _ _ _ rfl rfl | (simp; exact ⟨rfl, rfl⟩) | (simp; exact ⟨rfl, rfl, rfl⟩)), trivial⟩ trivial)
    · intro i hi
      refine awp_seq ?_
      refine awp_seq ?_
      refine awp_region ?_
      refine al_d rfl rfl rfl (by exact opd_move rfl rfl) ?_
      refine al_d rfl rfl rfl (by exact opd_move rfl rfl) ?_
      refine al_d rfl rfl rfl (by exact opd_lss rfl rfl rfl) ?_
      refine al_nil ?_
      refine awp_cond rfl (fun hc2 => ?_) (fun hc2 => ?_)
      -- cond 2
      · have hlt : i < n := by have := of_decide_eq_true hc2; omega
        have hsn : List.replicate (i + 1) z64 = List.replicate i z64 ++ [z64] := List.replicate_succ'
        refine awp_skip ?_
        refine awp_seq ?_
        refine awp_block ?_
        refine awp_region ?_
        refine al_d rfl rfl rfl (by exact opd_move rfl rfl) ?_
        refine al_d rfl rfl rfl (by exact opd_move rfl rfl) ?_
        refine al_d rfl rfl rfl (by exact (by first | exact opd_nilCheck_ref rfl rfl rfl rfl | exact opd_nilCheck_fn rfl rfl)) ?_
        refine al_d rfl rfl rfl (by exact (by first | exact opd_field_ref rfl fo97_0 rfl rfl rfl rfl | exact opd_field_pad rfl fo97_0 rfl rfl)) ?_
        refine al_d rfl rfl rfl (by exact (by first | exact opd_load1_ref rfl Try.isAgg34 rfl rfl rfl rfl rfl | exact opd_load1_pad rfl Try.isAgg34 rfl (by first | omega | assumption) rfl)) ?_
        refine al_d rfl rfl rfl (by exact opd_move rfl rfl) ?_
        refine al_d rfl rfl rfl (by exact x_buildSlice [encStr z64] rfl so34 rfl rfl rfl rfl rfl (by simp [encStr])) ?_
        refine al_d rfl rfl rfl (by exact (by first | exact x_append rfl so34 ei9 rfl rfl rfl rfl rfl (by simp : _ = i) rfl (by simp [encStr]) (rfl : _ = 1) (by omega) (rfl : _ = i + 1) (List.map_append (l₂ := [z64])).symm | exact x_append_osl rfl so34 ei9 rfl rfl rfl rfl rfl (by simp : _ = i) rfl rfl rfl rfl (by simp [encStr]) (rfl : _ = 1) (by omega) (rfl : _ = i + 1) (List.map_append (l₂ := [z64])).symm)) ?_
        refine al_d rfl rfl rfl (by exact (by first | exact opd_nilCheck_ref rfl rfl rfl rfl | exact opd_nilCheck_fn rfl rfl)) ?_
        refine al_d rfl rfl rfl (by exact (by first | exact opd_field_ref rfl fo97_0 rfl rfl rfl rfl | exact opd_field_pad rfl fo97_0 rfl rfl)) ?_
        refine al_n rfl rfl (by exact x_store1 (r := [.osl 1101 i 0 i, .osl 1102 0 0 0, bv true, bv false, iv 0, iv 0, iv 0]) rfl Try.sizeOf34 rfl rfl rfl rfl rfl rfl (by simp) rfl rfl) ?_
        refine al_nil ?_
        refine awp_region ?_
        refine al_d rfl rfl rfl (by exact opd_move rfl rfl) ?_
        refine al_d rfl rfl rfl (by exact opd_add rfl rfl rfl (by first | exact w64 (by omega) (by omega) | exact wu8 (by omega) (by omega) | rfl)) ?_
        refine al_d rfl rfl rfl (by exact opd_assign rfl rfl) ?_
        refine al_nil ?_
        -- end of a round
        refine ⟨i + 1, by omega, by omega, ?_⟩
        unfold rNewH
        rw [hsn]
        exact (Ent.wk ⟨⟨_, rfl, rfl⟩, (by first | (simp; done) | (simp; rfl) | exact clo_map _ _ _ | exact clo_brows _ _ | exact ref_clo _ _ _ rfl rfl | (simp; exact ⟨rfl, rfl⟩) | (simp; exact ⟨rfl, rfl, rfl⟩)), ⟨_, rfl, rfl⟩, (by first | (simp; done) | (simp; rfl) | exact clo_map _ _ _ | exact clo_brows _ _ | exact ref_clo _ _ _ rfl rfl | (simp; exact ⟨rfl, rfl⟩) | (simp; exact ⟨rfl, rfl, rfl⟩)), ⟨_, rfl, rfl⟩, (by first | (simp; done) | (simp; rfl) | exact clo_map _ _ _ | exact clo_brows _ _ | exact ref_clo _ _ _ rfl rfl | (simp; exact ⟨rfl, rfl⟩) | (simp; exact ⟨rfl, rfl, rfl⟩)), ⟨_, rfl, rfl⟩, (by first | (simp; done) | (simp; rfl) | exact clo_map _ _ _ | exact clo_brows _ _ | exact ref_clo _ _ _ rfl rfl | (simp; exact ⟨rfl, rfl⟩) | (simp; exact ⟨rfl, rfl, rfl⟩)), trivial⟩ ⟨⟨_, rfl, rfl⟩, (by first | (simp; done) | (simp; rfl) | exact clo_map _ _ _ | exact clo_brows _ _ | exact ref_clo _ _ _ rfl rfl | (simp; exact ⟨rfl, rfl⟩) | (simp; exact ⟨rfl, rfl, rfl⟩)), ⟨_, rfl, rfl⟩, (by first | (simp; done) | (simp; rfl) | exact clo_map _ _ _ | exact clo_brows _ _ | exact ref_clo _ _ _ rfl rfl | (simp; exact ⟨rfl, rfl⟩) | (simp; exact ⟨rfl, rfl, rfl⟩)), ⟨_, rfl, rfl⟩, (by first | (simp; done) | (simp; rfl) | exact clo_map _ _ _ | exact clo_brows _ _ | exact ref_clo _ _ _ rfl rfl | (simp; exact ⟨rfl, rfl⟩) | (simp; exact ⟨rfl, rfl, rfl⟩)), trivial⟩ trivial)
      · have hge : i = n := by have : ¬ _ := of_decide_eq_false hc2; omega
        subst hge
        refine awp_exit ?_
        refine awp_seq ?_
        refine awp_region ?_
        refine al_d rfl rfl rfl (by exact opd_move rfl rfl) ?_
        refine al_d rfl rfl rfl (by exact opd_assign rfl rfl) ?_
        refine al_nil ?_
        refine awp_ret ?_
        -- return
        refine aret1 (H' := rNewH i) (by first | exact .inr rfl | exact .inl rfl) rfl (rval_tmp rfl) (Fin.wk (by first | (simp; done) | (simp; rfl)) ⟨⟨_, rfl, rfl⟩, (by first | (simp; done) | (simp; rfl) | exact clo_map _ _ _ | exact clo_brows _ _ | exact ref_clo _ _ _ rfl rfl | (simp; exact ⟨rfl, rfl⟩) | (simp; exact ⟨rfl, rfl, rfl⟩)), ⟨_, rfl, rfl⟩, (by first | (simp; done) | (simp; rfl) | exact clo_map _ _ _ | exact clo_brows _ _ | exact ref_clo _ _ _ rfl rfl | (simp; exact ⟨rfl, rfl⟩) | (simp; exact ⟨rfl, rfl, rfl⟩)), ⟨_, rfl, rfl⟩, (by first | (simp; done) | (simp; rfl) | exact clo_map _ _ _ | exact clo_brows _ _ | exact ref_clo _ _ _ rfl rfl | (simp; exact ⟨rfl, rfl⟩) | (simp; exact ⟨rfl, rfl, rfl⟩)), trivial⟩ trivial) ?_
        exact ⟨rfl, rfl⟩
def xDo (s : DSt) (x : RX) (a : GAct) : RX :=
  if a.kind = 0 then xWrite s x a.sector (aText a) else if a.kind = 1 then x else if a.kind = 2 then xSync s x else if a.kind = 3 then xFail s x
  else if a.kind = 4 then xDis s x else if a.kind = 5 then xArm s x a.after a.sector a.bytes else x
theorem want_c (s : DSt) (x : RX) (a : GAct) (hs : DOk s) (ha : armLt s) (hp : armPos s) (hq : s.q.length < 1048576) (ht : a.text.size ≤ 1048576) :
    ACalls Try.prog 27 [.ref 1100 0 0 0, av (encAct a)] (refH s x) (fun r H' => r = .tup [sv (doT s a), iv (doE s a)] ∧ H' = refH (doSt s a) (xDo s x a)) := by
  refine ACalls.body Try.func27 rfl Try.ntmps27 (Nat.le_of_ble_eq_true rfl) ?_
  refine awp_seq ?_
  refine awp_region ?_
  refine al_d rfl rfl rfl (by exact opd_box (id := 3) rfl rfl rfl rfl rfl) ?_
  refine al_d rfl rfl rfl (by exact opd_assign rfl rfl) ?_
  refine al_d rfl rfl rfl (by exact opd_assign rfl rfl) ?_
  refine al_nil ?_
  refine awp_seq ?_
  refine awp_seq ?_
  refine awp_region ?_
  refine al_d rfl rfl rfl (by exact (by first | exact opd_field_ref rfl fo55_0 rfl rfl rfl rfl | exact opd_field_pad rfl fo55_0 rfl rfl)) ?_
  refine al_d rfl rfl rfl (by exact (by first | exact opd_load1_ref rfl Try.isAgg3 rfl rfl rfl rfl rfl | exact opd_load1_pad rfl Try.isAgg3 rfl (by first | omega | assumption) rfl)) ?_
  refine al_nil ?_
  refine awp_block ?_
  refine awp_seq ?_
  refine awp_region ?_
  refine al_d rfl rfl rfl (by exact opd_eql rfl rfl rfl) ?_
  refine al_d rfl rfl rfl (by exact opd_assign rfl rfl) ?_
  refine al_nil ?_
  refine awp_cond rfl (fun hc1 => ?_) (fun hc1 => ?_)
  -- cond 1
  · have e0 : a.kind = 0 := of_decide_eq_true hc1
    refine awp_seq ?_
    refine awp_drawc follows ?_
    refine dc_cons (r := ⟨_, some [], []⟩) (DStep.plain rfl (fun H1 hH => by exact opd_move rfl rfl)) rfl ?_
    refine dc_cons (r := ⟨_, some [3], []⟩) (DStep.plain rfl (fun H1 hH => by exact (by first | exact opd_field_ref rfl fo55_1 rfl ((hH _ rfl).trans rfl) rfl rfl | exact opd_field_pad rfl fo55_1 rfl rfl))) rfl ?_
    refine dc_cons (r := ⟨_, some [3], []⟩) (DStep.plain rfl (fun H1 hH => by exact (by first | exact opd_load1_ref rfl Try.isAgg3 rfl ((hH _ rfl).trans rfl) rfl rfl rfl | exact opd_load1_pad rfl Try.isAgg3 rfl (by first | omega | assumption) rfl))) rfl ?_
    refine dc_cons (r := ⟨_, some [3], []⟩) (DStep.plain rfl (fun H1 hH => by exact (by first | exact opd_loadn_ref rfl Try.isAgg55 Try.sizeOf55 rfl ((hH _ rfl).trans rfl) rfl rfl (by simp only [List.drop_succ_cons, List.drop_zero, List.take_succ_cons, List.take_zero, List.take_nil, List.map_cons, List.map_nil, List.set_cons_zero, List.set_cons_succ, List.cons_append, List.nil_append, encRQ, rRow, encAct]; rfl) rfl | exact opd_loadn_pad rfl Try.isAgg55 Try.sizeOf55 rfl (by first | omega | assumption) (by simp only [List.drop_succ_cons, List.drop_zero, List.take_succ_cons, List.take_zero, List.take_nil, List.map_cons, List.map_nil, List.set_cons_zero, List.set_cons_succ, List.cons_append, List.nil_append, encRQ, rRow, encAct]; rfl) rfl))) rfl ?_
    refine dc_cons (r := ⟨_, some [], []⟩) (DStep.plain rfl (fun H1 hH => by exact opr_call rfl rfl Try.call34 rfl (text_c a _ ht))) rfl ?_
    refine dc_cons (r := ⟨_, some [1100, 1101, 1102], _⟩) (DStep.plain rfl (fun H1 hH => by exact opr_call rfl rfl Try.call51 rfl (ref_frame (rwrite_c s x a.sector (aText a) hs ha hp hq) _ ⟨(hH 1100 rfl).trans rfl, (hH 1101 rfl).trans rfl, (hH 1102 rfl).trans rfl, trivial⟩ (by simp; rfl)))) rfl ?_
    refine dc_cons (r := ⟨_, some [], []⟩) (DStep.plain rfl (fun H1 hH => by exact opd_assign rfl rfl)) rfl ?_
    refine dc_cons (r := ⟨_, some [], []⟩) (DStep.plain rfl (fun H1 hH => by exact opd_assign rfl rfl)) rfl ?_
    refine dc_nil ⟨by kernel_rfl, ?_⟩
    refine awp_ret ?_
    -- return
    refine aret2 (H' := refH (dWrite s a.sector (aText a)) (xWrite s x a.sector (aText a))) (by first | exact .inr rfl | exact .inl rfl) rfl (rval_tmp rfl) (rval_tmp rfl) (Fin.wk (by first | (simp; done) | (simp; rfl)) ⟨⟨_, rfl, rfl⟩, (by first | (simp; done) | (simp; rfl) | exact clo_map _ _ _ | exact clo_brows _ _ | exact ref_clo _ _ _ rfl rfl | (simp; exact ⟨rfl, rfl⟩) | (simp; exact ⟨rfl, rfl, rfl⟩)), ⟨_, rfl, rfl⟩, (by first | (simp; done) | (simp; rfl) | exact clo_map _ _ _ | exact clo_brows _ _ | exact ref_clo _ _ _ rfl rfl | (simp; exact ⟨rfl, rfl⟩) | (simp; exact ⟨rfl, rfl, rfl⟩)), ⟨_, rfl, rfl⟩, (by first | (simp; done) | (simp; rfl) | exact clo_map _ _ _ | exact clo_brows _ _ | exact ref_clo _ _ _ rfl rfl | (simp; exact ⟨rfl, rfl⟩) | (simp; exact ⟨rfl, rfl, rfl⟩)), trivial⟩ ⟨rfl, rfl, rfl, trivial⟩) ?_
    exact ⟨by simp [doT, doE, e0], by simp [doSt, xDo, e0]⟩
  · have e0 : ¬ a.kind = 0 := of_decide_eq_false hc1
    refine awp_seq ?_
    refine awp_region ?_
    refine al_d rfl rfl rfl (by exact opd_eql rfl rfl rfl) ?_
    refine al_d rfl rfl rfl (by exact opd_assign rfl rfl) ?_
    refine al_nil ?_
    refine awp_cond rfl (fun hc2 => ?_) (fun hc2 => ?_)
    -- cond 2
    · have e1 : a.kind = 1 := of_decide_eq_true hc2
      refine awp_seq ?_
      refine awp_region ?_
      refine al_d rfl rfl rfl (by exact opd_move rfl rfl) ?_
      refine al_d rfl rfl rfl (by exact (by first | exact opd_field_ref rfl fo55_1 rfl rfl rfl rfl | exact opd_field_pad rfl fo55_1 rfl rfl)) ?_
      refine al_d rfl rfl rfl (by exact (by first | exact opd_load1_ref rfl Try.isAgg3 rfl rfl rfl rfl rfl | exact opd_load1_pad rfl Try.isAgg3 rfl (by first | omega | assumption) rfl)) ?_
      refine al_d rfl rfl rfl (by exact opr_call rfl rfl Try.call29 rfl (ref_frame (rread_c s x a.sector hs) _ ⟨rfl, rfl, rfl, trivial⟩ (by simp; rfl))) ?_
      refine al_d rfl rfl rfl (by exact opd_extract rfl rfl rfl) ?_
      refine al_d rfl rfl rfl (by exact opd_extract rfl rfl rfl) ?_
      refine al_d rfl rfl rfl (by exact opd_assign rfl rfl) ?_
      refine al_d rfl rfl rfl (by exact opd_assign rfl rfl) ?_
      refine al_nil ?_
      refine awp_ret ?_
      -- return
      refine aret2 (H' := refH s x) (by first | exact .inr rfl | exact .inl rfl) rfl (rval_tmp rfl) (rval_tmp rfl) (Fin.wk (by first | (simp; done) | (simp; rfl)) ⟨⟨_, rfl, rfl⟩, (by first | (simp; done) | (simp; rfl) | exact clo_map _ _ _ | exact clo_brows _ _ | exact ref_clo _ _ _ rfl rfl | (simp; exact ⟨rfl, rfl⟩) | (simp; exact ⟨rfl, rfl, rfl⟩)), ⟨_, rfl, rfl⟩, (by first | (simp; done) | (simp; rfl) | exact clo_map _ _ _ | exact clo_brows _ _ | exact ref_clo _ _ _ rfl rfl | (simp; exact ⟨rfl, rfl⟩) | (simp; exact ⟨rfl, rfl, rfl⟩)), ⟨_, rfl, rfl⟩, (by first | (simp; done) | (simp; rfl) | exact clo_map _ _ _ | exact clo_brows _ _ | exact ref_clo _ _ _ rfl rfl | (simp; exact ⟨rfl, rfl⟩) | (simp; exact ⟨rfl, rfl, rfl⟩)), trivial⟩ ⟨rfl, rfl, rfl, trivial⟩) ?_
      exact ⟨by simp [doT, doE, e1], by simp [doSt, xDo, e1]⟩
    · have e1 : ¬ a.kind = 1 := of_decide_eq_false hc2
      refine awp_seq ?_
      refine awp_region ?_
      refine al_d rfl rfl rfl (by exact opd_eql rfl rfl rfl) ?_
      refine al_d rfl rfl rfl (by exact opd_assign rfl rfl) ?_
      refine al_nil ?_
      refine awp_cond rfl (fun hc3 => ?_) (fun hc3 => ?_)
      -- cond 3
      · have e2 : a.kind = 2 := of_decide_eq_true hc3
        refine awp_seq ?_
        refine awp_region ?_
        refine al_d rfl rfl rfl (by exact opd_move rfl rfl) ?_
        refine al_d rfl rfl rfl (by exact opr_call rfl rfl Try.call52 rfl (ref_frame (rsync_c s x hs ha hp) _ ⟨rfl, rfl, rfl, trivial⟩ (by simp; rfl))) ?_
        refine al_d rfl rfl rfl (by exact opd_assign rfl rfl) ?_
        refine al_d rfl rfl rfl (by exact opd_assign rfl rfl) ?_
        refine al_nil ?_
        refine awp_ret ?_
        -- return
        refine aret2 (H' := refH (dSync s) (xSync s x)) (by first | exact .inr rfl | exact .inl rfl) rfl (rval_tmp rfl) (rval_tmp rfl) (Fin.wk (by first | (simp; done) | (simp; rfl)) ⟨⟨_, rfl, rfl⟩, (by first | (simp; done) | (simp; rfl) | exact clo_map _ _ _ | exact clo_brows _ _ | exact ref_clo _ _ _ rfl rfl | (simp; exact ⟨rfl, rfl⟩) | (simp; exact ⟨rfl, rfl, rfl⟩)), ⟨_, rfl, rfl⟩, (by first | (simp; done) | (simp; rfl) | exact clo_map _ _ _ | exact clo_brows _ _ | exact ref_clo _ _ _ rfl rfl | (simp; exact ⟨rfl, rfl⟩) | (simp; exact ⟨rfl, rfl, rfl⟩)), ⟨_, rfl, rfl⟩, (by first | (simp; done) | (simp; rfl) | exact clo_map _ _ _ | exact clo_brows _ _ | exact ref_clo _ _ _ rfl rfl | (simp; exact ⟨rfl, rfl⟩) | (simp; exact ⟨rfl, rfl, rfl⟩)), trivial⟩ ⟨rfl, rfl, rfl, trivial⟩) ?_
        exact ⟨by simp [doT, doE, e2], by simp [doSt, xDo, e2]⟩
      · have e2 : ¬ a.kind = 2 := of_decide_eq_false hc3
        refine awp_seq ?_
        refine awp_region ?_
        refine al_d rfl rfl rfl (by exact opd_eql rfl rfl rfl) ?_
        refine al_d rfl rfl rfl (by exact opd_assign rfl rfl) ?_
        refine al_nil ?_
        refine awp_cond rfl (fun hc4 => ?_) (fun hc4 => ?_)
        -- cond 4
        · have e3 : a.kind = 3 := of_decide_eq_true hc4
          refine awp_region ?_
          refine al_d rfl rfl rfl (by exact opd_move rfl rfl) ?_
          refine al_d rfl rfl rfl (by exact (by first | exact opd_field_ref rfl fo55_1 rfl rfl rfl rfl | exact opd_field_pad rfl fo55_1 rfl rfl)) ?_
          refine al_d rfl rfl rfl (by exact (by first | exact opd_load1_ref rfl Try.isAgg3 rfl rfl rfl rfl rfl | exact opd_load1_pad rfl Try.isAgg3 rfl (by first | omega | assumption) rfl)) ?_
          refine al_d rfl rfl rfl (by exact (by first | exact opd_field_ref rfl fo55_2 rfl rfl rfl rfl | exact opd_field_pad rfl fo55_2 rfl rfl)) ?_
          refine al_d rfl rfl rfl (by exact (by first | exact opd_load1_ref rfl Try.isAgg3 rfl rfl rfl rfl rfl | exact opd_load1_pad rfl Try.isAgg3 rfl (by first | omega | assumption) rfl)) ?_
          refine al_d rfl rfl rfl (by exact opr_call rfl rfl Try.call53 rfl (ref_frame (rfail_c s x a.sector a.bytes hs) _ ⟨rfl, rfl, rfl, trivial⟩ (by simp; rfl))) ?_
          refine al_nil ?_
          refine awp_seq ?_
          refine awp_region ?_
          refine al_d rfl rfl rfl (by exact opd_assign rfl rfl) ?_
          refine al_d rfl rfl rfl (by exact opd_assign rfl rfl) ?_
          refine al_nil ?_
          refine awp_ret ?_
          -- return
          refine aret2 (H' := refH (dFail s a.sector a.bytes) (xFail s x)) (by first | exact .inr rfl | exact .inl rfl) rfl (rval_tmp rfl) (rval_tmp rfl) (Fin.wk (by first | (simp; done) | (simp; rfl)) ⟨⟨_, rfl, rfl⟩, (by first | (simp; done) | (simp; rfl) | exact clo_map _ _ _ | exact clo_brows _ _ | exact ref_clo _ _ _ rfl rfl | (simp; exact ⟨rfl, rfl⟩) | (simp; exact ⟨rfl, rfl, rfl⟩)), ⟨_, rfl, rfl⟩, (by first | (simp; done) | (simp; rfl) | exact clo_map _ _ _ | exact clo_brows _ _ | exact ref_clo _ _ _ rfl rfl | (simp; exact ⟨rfl, rfl⟩) | (simp; exact ⟨rfl, rfl, rfl⟩)), ⟨_, rfl, rfl⟩, (by first | (simp; done) | (simp; rfl) | exact clo_map _ _ _ | exact clo_brows _ _ | exact ref_clo _ _ _ rfl rfl | (simp; exact ⟨rfl, rfl⟩) | (simp; exact ⟨rfl, rfl, rfl⟩)), trivial⟩ ⟨rfl, rfl, rfl, trivial⟩) ?_
          exact ⟨by simp [doT, doE, e3], by simp [doSt, xDo, e3]⟩
        · have e3 : ¬ a.kind = 3 := of_decide_eq_false hc4
          refine awp_seq ?_
          refine awp_region ?_
          refine al_d rfl rfl rfl (by exact opd_eql rfl rfl rfl) ?_
          refine al_d rfl rfl rfl (by exact opd_assign rfl rfl) ?_
          refine al_nil ?_
          refine awp_cond rfl (fun hc5 => ?_) (fun hc5 => ?_)
          -- cond 5
          · have e4 : a.kind = 4 := of_decide_eq_true hc5
            refine awp_region ?_
            refine al_d rfl rfl rfl (by exact opd_move rfl rfl) ?_
            refine al_d rfl rfl rfl (by exact opr_call rfl rfl Try.call54 rfl (ref_frame (rstart_c s x) _ ⟨rfl, rfl, rfl, trivial⟩ (by simp; rfl))) ?_
            refine al_nil ?_
            refine awp_seq ?_
            refine awp_region ?_
            refine al_d rfl rfl rfl (by exact opd_assign rfl rfl) ?_
            refine al_d rfl rfl rfl (by exact opd_assign rfl rfl) ?_
            refine al_nil ?_
            refine awp_ret ?_
            -- return
            refine aret2 (H' := refH (dStart s) (xDis s x)) (by first | exact .inr rfl | exact .inl rfl) rfl (rval_tmp rfl) (rval_tmp rfl) (Fin.wk (by first | (simp; done) | (simp; rfl)) ⟨⟨_, rfl, rfl⟩, (by first | (simp; done) | (simp; rfl) | exact clo_map _ _ _ | exact clo_brows _ _ | exact ref_clo _ _ _ rfl rfl | (simp; exact ⟨rfl, rfl⟩) | (simp; exact ⟨rfl, rfl, rfl⟩)), ⟨_, rfl, rfl⟩, (by first | (simp; done) | (simp; rfl) | exact clo_map _ _ _ | exact clo_brows _ _ | exact ref_clo _ _ _ rfl rfl | (simp; exact ⟨rfl, rfl⟩) | (simp; exact ⟨rfl, rfl, rfl⟩)), ⟨_, rfl, rfl⟩, (by first | (simp; done) | (simp; rfl) | exact clo_map _ _ _ | exact clo_brows _ _ | exact ref_clo _ _ _ rfl rfl | (simp; exact ⟨rfl, rfl⟩) | (simp; exact ⟨rfl, rfl, rfl⟩)), trivial⟩ ⟨rfl, rfl, rfl, trivial⟩) ?_
            exact ⟨by simp [doT, doE, e4], by simp [doSt, xDo, e4]⟩
          · have e4 : ¬ a.kind = 4 := of_decide_eq_false hc5
            refine awp_seq ?_
            refine awp_region ?_
            refine al_d rfl rfl rfl (by exact opd_eql rfl rfl rfl) ?_
            refine al_d rfl rfl rfl (by exact opd_assign rfl rfl) ?_
            refine al_nil ?_
            refine awp_cond rfl (fun hc6 => ?_) (fun hc6 => ?_)
            -- cond 6
            · have e5 : a.kind = 5 := of_decide_eq_true hc6
              refine awp_region ?_
              refine al_d rfl rfl rfl (by exact opd_move rfl rfl) ?_
              refine al_d rfl rfl rfl (by exact (by first | exact opd_field_ref rfl fo55_5 rfl rfl rfl rfl | exact opd_field_pad rfl fo55_5 rfl rfl)) ?_
              refine al_d rfl rfl rfl (by exact (by first | exact opd_load1_ref rfl Try.isAgg3 rfl rfl rfl rfl rfl | exact opd_load1_pad rfl Try.isAgg3 rfl (by first | omega | assumption) rfl)) ?_
              refine al_d rfl rfl rfl (by exact (by first | exact opd_field_ref rfl fo55_1 rfl rfl rfl rfl | exact opd_field_pad rfl fo55_1 rfl rfl)) ?_
              refine al_d rfl rfl rfl (by exact (by first | exact opd_load1_ref rfl Try.isAgg3 rfl rfl rfl rfl rfl | exact opd_load1_pad rfl Try.isAgg3 rfl (by first | omega | assumption) rfl)) ?_
              refine al_d rfl rfl rfl (by exact (by first | exact opd_field_ref rfl fo55_2 rfl rfl rfl rfl | exact opd_field_pad rfl fo55_2 rfl rfl)) ?_
              refine al_d rfl rfl rfl (by exact (by first | exact opd_load1_ref rfl Try.isAgg3 rfl rfl rfl rfl rfl | exact opd_load1_pad rfl Try.isAgg3 rfl (by first | omega | assumption) rfl)) ?_
              refine al_d rfl rfl rfl (by exact opr_call rfl rfl Try.call55 rfl (ref_frame (rarm_c s x a.after a.sector a.bytes) _ ⟨rfl, rfl, rfl, trivial⟩ (by simp; rfl))) ?_
              refine al_nil ?_
              refine awp_seq ?_
              refine awp_region ?_
              refine al_d rfl rfl rfl (by exact opd_assign rfl rfl) ?_
              refine al_d rfl rfl rfl (by exact opd_assign rfl rfl) ?_
              refine al_nil ?_
              refine awp_ret ?_
              -- return
              refine aret2 (H' := refH (dArm s a.after a.sector a.bytes) (xArm s x a.after a.sector a.bytes)) (by first | exact .inr rfl | exact .inl rfl) rfl (rval_tmp rfl) (rval_tmp rfl) (Fin.wk (by first | (simp; done) | (simp; rfl)) ⟨⟨_, rfl, rfl⟩, (by first | (simp; done) | (simp; rfl) | exact clo_map _ _ _ | exact clo_brows _ _ | exact ref_clo _ _ _ rfl rfl | (simp; exact ⟨rfl, rfl⟩) | (simp; exact ⟨rfl, rfl, rfl⟩)), ⟨_, rfl, rfl⟩, (by first | (simp; done) | (simp; rfl) | exact clo_map _ _ _ | exact clo_brows _ _ | exact ref_clo _ _ _ rfl rfl | (simp; exact ⟨rfl, rfl⟩) | (simp; exact ⟨rfl, rfl, rfl⟩)), ⟨_, rfl, rfl⟩, (by first | (simp; done) | (simp; rfl) | exact clo_map _ _ _ | exact clo_brows _ _ | exact ref_clo _ _ _ rfl rfl | (simp; exact ⟨rfl, rfl⟩) | (simp; exact ⟨rfl, rfl, rfl⟩)), trivial⟩ ⟨rfl, rfl, rfl, trivial⟩) ?_
              exact ⟨by simp [doT, doE, e5], by simp [doSt, xDo, e5]⟩
            · have e5 : ¬ a.kind = 5 := of_decide_eq_false hc6
              refine awp_seq ?_
              refine awp_region ?_
              refine al_d rfl rfl rfl (by exact opd_eql rfl rfl rfl) ?_
              refine al_d rfl rfl rfl (by exact opd_assign rfl rfl) ?_
              refine al_nil ?_
              refine awp_cond rfl (fun hc7 => ?_) (fun hc7 => ?_)
              -- cond 7
              · have e6 : a.kind = 6 := of_decide_eq_true hc7
                refine awp_region ?_
                refine al_d rfl rfl rfl (by exact opd_move rfl rfl) ?_
                refine al_d rfl rfl rfl (by exact (by first | exact opd_field_ref rfl fo55_1 rfl rfl rfl rfl | exact opd_field_pad rfl fo55_1 rfl rfl)) ?_
                refine al_d rfl rfl rfl (by exact (by first | exact opd_load1_ref rfl Try.isAgg3 rfl rfl rfl rfl rfl | exact opd_load1_pad rfl Try.isAgg3 rfl (by first | omega | assumption) rfl)) ?_
                refine al_d rfl rfl rfl (by exact (by first | exact opd_field_ref rfl fo55_2 rfl rfl rfl rfl | exact opd_field_pad rfl fo55_2 rfl rfl)) ?_
                refine al_d rfl rfl rfl (by exact (by first | exact opd_load1_ref rfl Try.isAgg3 rfl rfl rfl rfl rfl | exact opd_load1_pad rfl Try.isAgg3 rfl (by first | omega | assumption) rfl)) ?_
                refine al_d rfl rfl rfl (by exact (by first | exact opd_field_ref rfl fo55_5 rfl rfl rfl rfl | exact opd_field_pad rfl fo55_5 rfl rfl)) ?_
                refine al_d rfl rfl rfl (by exact (by first | exact opd_load1_ref rfl Try.isAgg3 rfl rfl rfl rfl rfl | exact opd_load1_pad rfl Try.isAgg3 rfl (by first | omega | assumption) rfl)) ?_
                refine al_d rfl rfl rfl (by exact opr_call rfl rfl Try.call56 rfl (ref_frame (rrot_c s x a.sector a.bytes a.after hs) _ ⟨rfl, rfl, rfl, trivial⟩ (by simp; rfl))) ?_
                refine al_nil ?_
                refine awp_seq ?_
                refine awp_region ?_
                refine al_d rfl rfl rfl (by exact opd_assign rfl rfl) ?_
                refine al_d rfl rfl rfl (by exact opd_assign rfl rfl) ?_
                refine al_nil ?_
                refine awp_ret ?_
                -- return
                refine aret2 (H' := refH (dRot s a.sector a.bytes a.after) (x)) (by first | exact .inr rfl | exact .inl rfl) rfl (rval_tmp rfl) (rval_tmp rfl) (Fin.wk (by first | (simp; done) | (simp; rfl)) ⟨⟨_, rfl, rfl⟩, (by first | (simp; done) | (simp; rfl) | exact clo_map _ _ _ | exact clo_brows _ _ | exact ref_clo _ _ _ rfl rfl | (simp; exact ⟨rfl, rfl⟩) | (simp; exact ⟨rfl, rfl, rfl⟩)), ⟨_, rfl, rfl⟩, (by first | (simp; done) | (simp; rfl) | exact clo_map _ _ _ | exact clo_brows _ _ | exact ref_clo _ _ _ rfl rfl | (simp; exact ⟨rfl, rfl⟩) | (simp; exact ⟨rfl, rfl, rfl⟩)), ⟨_, rfl, rfl⟩, (by first | (simp; done) | (simp; rfl) | exact clo_map _ _ _ | exact clo_brows _ _ | exact ref_clo _ _ _ rfl rfl | (simp; exact ⟨rfl, rfl⟩) | (simp; exact ⟨rfl, rfl, rfl⟩)), trivial⟩ ⟨rfl, rfl, rfl, trivial⟩) ?_
                exact ⟨by simp [doT, doE, e6], by simp [doSt, xDo, e6]⟩
              · have e6 : ¬ a.kind = 6 := of_decide_eq_false hc7
                refine awp_seq ?_
                refine awp_region ?_
                refine al_d rfl rfl rfl (by exact opd_eql rfl rfl rfl) ?_
                refine al_d rfl rfl rfl (by exact opd_assign rfl rfl) ?_
                refine al_nil ?_
                refine awp_cond rfl (fun hc8 => ?_) (fun hc8 => ?_)
                -- cond 8
                · have e7 : a.kind = 7 := of_decide_eq_true hc8
                  refine awp_seq ?_
                  refine awp_region ?_
                  refine al_d rfl rfl rfl (by exact opd_move rfl rfl) ?_
                  refine al_d rfl rfl rfl (by exact opr_call rfl rfl Try.call57 rfl (ref_frame (rraw_c s x hs) _ ⟨rfl, rfl, rfl, trivial⟩ (by simp; rfl))) ?_
                  refine al_d rfl rfl rfl (by exact opd_assign rfl rfl) ?_
                  refine al_d rfl rfl rfl (by exact opd_assign rfl rfl) ?_
                  refine al_nil ?_
                  refine awp_ret ?_
                  -- return
                  refine aret2 (H' := refH s x) (by first | exact .inr rfl | exact .inl rfl) rfl (rval_tmp rfl) (rval_tmp rfl) (Fin.wk (by first | (simp; done) | (simp; rfl)) ⟨⟨_, rfl, rfl⟩, (by first | (simp; done) | (simp; rfl) | exact clo_map _ _ _ | exact clo_brows _ _ | exact ref_clo _ _ _ rfl rfl | (simp; exact ⟨rfl, rfl⟩) | (simp; exact ⟨rfl, rfl, rfl⟩)), ⟨_, rfl, rfl⟩, (by first | (simp; done) | (simp; rfl) | exact clo_map _ _ _ | exact clo_brows _ _ | exact ref_clo _ _ _ rfl rfl | (simp; exact ⟨rfl, rfl⟩) | (simp; exact ⟨rfl, rfl, rfl⟩)), ⟨_, rfl, rfl⟩, (by first | (simp; done) | (simp; rfl) | exact clo_map _ _ _ | exact clo_brows _ _ | exact ref_clo _ _ _ rfl rfl | (simp; exact ⟨rfl, rfl⟩) | (simp; exact ⟨rfl, rfl, rfl⟩)), trivial⟩ ⟨rfl, rfl, rfl, trivial⟩) ?_
                  exact ⟨by simp [doT, doE, e7], by simp [doSt, xDo, e7]⟩
                · have e7 : ¬ a.kind = 7 := of_decide_eq_false hc8
                  refine awp_skip ?_
                  refine awp_seq ?_
                  refine awp_region ?_
                  refine al_d rfl rfl rfl (by exact opd_assign rfl rfl) ?_
                  refine al_d rfl rfl rfl (by exact opd_assign rfl rfl) ?_
                  refine al_nil ?_
                  refine awp_ret ?_
                  -- return
                  refine aret2 (H' := refH s x) (by first | exact .inr rfl | exact .inl rfl) rfl (rval_tmp rfl) (rval_tmp rfl) (Fin.wk (by first | (simp; done) | (simp; rfl)) ⟨⟨_, rfl, rfl⟩, (by first | (simp; done) | (simp; rfl) | exact clo_map _ _ _ | exact clo_brows _ _ | exact ref_clo _ _ _ rfl rfl | (simp; exact ⟨rfl, rfl⟩) | (simp; exact ⟨rfl, rfl, rfl⟩)), ⟨_, rfl, rfl⟩, (by first | (simp; done) | (simp; rfl) | exact clo_map _ _ _ | exact clo_brows _ _ | exact ref_clo _ _ _ rfl rfl | (simp; exact ⟨rfl, rfl⟩) | (simp; exact ⟨rfl, rfl, rfl⟩)), ⟨_, rfl, rfl⟩, (by first | (simp; done) | (simp; rfl) | exact clo_map _ _ _ | exact clo_brows _ _ | exact ref_clo _ _ _ rfl rfl | (simp; exact ⟨rfl, rfl⟩) | (simp; exact ⟨rfl, rfl, rfl⟩)), trivial⟩ ⟨rfl, rfl, rfl, trivial⟩) ?_
                  exact ⟨by simp [doT, doE, e0, e1, e2, e7], by simp [doSt, xDo, e0, e1, e2, e3, e4, e5, e6]⟩
end Go.Proofs.Ytljocbkebhgkoaa
