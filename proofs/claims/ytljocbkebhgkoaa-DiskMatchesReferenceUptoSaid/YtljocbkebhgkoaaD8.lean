/-
  THE DISK, contracts: New, a disk that is nil; the laws' operations: text, fill, ok, size, do, contents, same. Conditions: texts below 2^40 bytes.
-/
import Derived.Test.YtljocbkebhgkoaaD7
set_option linter.unusedVariables false
set_option linter.unusedSimpArgs false
set_option maxRecDepth 100000
namespace Go.Abs
/-- A returned value and the heap in another writing. -/
theorem Fin.of_ent {G0 H H' : Heap} {r r' : AV} (h : Ent G0 [(0, r)] H [(0, r')] H') : Fin G0 H r H' r' := by
  intro G hG I ι w v h1 h2 h3
  obtain ⟨_, _, I', ι', k1, k2, k3⟩ := h G hG 1 ⟨#[v], []⟩ w ⟨rfl, rfl, I, ι, h1, h2, fun t x hx => by
    simp only [Env.get] at hx
    cases e : Nat.beq 0 t with
    | true => rw [e] at hx; cases hx; rw [← Nat.eq_of_beq_eq_true e]; exact ⟨v, rfl, h3⟩
    | false => rw [e] at hx; cases hx⟩
  obtain ⟨c, hc, hv⟩ := k3 0 r' rfl
  cases hc
  exact ⟨I', ι', k1, k2, hv⟩
end Go.Abs
namespace Go.Proofs.Ytljocbkebhgkoaa
open Go.Abs

abbrev z64 : ByteArray := ⟨(List.replicate 64 0).toArray⟩
abbrev sNil : ByteArray := ⟨#[]⟩
def dNew (n : Nat) : DSt := ⟨List.replicate n z64, [], false, .never, 0, 0⟩
theorem dNew_ok {n : Nat} (h1 : 1 ≤ n) (h2 : n ≤ 8000) : DOk (dNew n) :=
  ⟨by simpa [dNew] using h1, by simpa [dNew] using h2, fun c hc => by rw [List.eq_of_mem_replicate hc]; rfl, fun p hp => (by cases hp), (by simp [dNew])⟩
theorem zeros (n : Nat) : brows (flat (List.replicate n z64)) = List.replicate (64 * n) [.pv (.int .u8 0)] := by
  have : flat (List.replicate n z64) = List.replicate (64 * n) 0 := by
    induction n with
    | zero => rfl
    | succ n ih =>
      rw [List.replicate_succ, flat_cons, ih]
      show List.replicate 64 0 ++ List.replicate (64 * n) 0 = _
      rw [List.replicate_append_replicate]; congr 1; omega
  rw [this, brows, List.map_replicate]; rfl
abbrev newH (n : Nat) : Heap := [(1000, ⟨0, 4, 94, [[.osl 1001 0 0 (64 * n), .osl 1002 0 0 0, bv false, .pv .nilp]]⟩), (1001, ⟨0, 1, 5, List.replicate (64 * n) [.pv (.int .u8 0)]⟩), (1002, ⟨0, 3, 104, []⟩), (1003, ⟨0, 3, 110, []⟩)]
theorem newH_eq (n : Nat) : newH n = diskH (dNew n) := by
  simp only [diskH, dNew, dRow, zeros, List.length_replicate, armV, armR, List.length_nil, List.map_nil]
theorem clo_rep (n : Nat) (H : Heap) : ∀ r ∈ List.replicate n [AV.pv (.int .u8 0)], ∀ a ∈ r, Clo H a := by
  intro r hr a ha
  rw [List.eq_of_mem_replicate hr] at ha
  rw [List.mem_singleton.1 ha]; exact .pv _
theorem new_c (n : Nat) (h1 : 1 ≤ n) (h2 : n ≤ 8000) : ACalls Try.prog 23 [iv (n : Int)] [] (fun r H' => r = .ref 1000 0 0 0 ∧ H' = diskH (dNew n)) := by
  have hw : IntKind.i64.wrap ((n : Int) * 64) = ((64 * n : Nat) : Int) := by rw [w64 (by omega) (by omega)]; omega
  rw [← newH_eq]
  refine ACalls.body Try.func23 rfl Try.ntmps23 (Nat.le_of_ble_eq_true rfl) ?_
  refine awp_seq ?_
  refine awp_region ?_
  refine al_d rfl rfl rfl (by exact opd_assign rfl rfl) ?_
  refine al_nil ?_
  refine awp_seq ?_
  refine awp_seq ?_
  refine awp_bool (t := 8) (n := 7) (X := false) ?_ ?_
  · all_goals (refine al_d rfl rfl rfl (by exact opd_move rfl rfl) ?_)
    all_goals (refine al_d rfl rfl rfl (by exact opd_lss rfl rfl rfl) ?_)
    all_goals (refine al_d rfl rfl rfl (by exact opd_move rfl rfl) ?_)
    all_goals (first | refine al_split (t := 5) rfl (fun h5 => ?_) (fun h5 => ?_) | skip)
    all_goals (try contradiction)
    all_goals (first | refine al_off rfl rfl rfl rfl rfl ?_ | refine al_offu rfl rfl rfl rfl ?_ | refine al_ond rfl rfl rfl rfl rfl rfl (by exact opd_move rfl rfl) ?_)
    all_goals (first | refine al_off rfl rfl rfl rfl rfl ?_ | refine al_offu rfl rfl rfl rfl ?_ | refine al_ond rfl rfl rfl rfl rfl rfl (by exact opd_gtr rfl rfl rfl) ?_)
    all_goals (refine al_d rfl rfl rfl (by exact (by first | exact opd_pick_t rfl rfl rfl | exact opd_pick_f rfl rfl rfl | exact opd_pickt rfl rfl (by assumption) rfl | exact opd_pickf rfl rfl (by assumption) rfl | exact opd_pick rfl rfl rfl)) ?_)
    all_goals (refine al_nil ?_)
    all_goals (exact ⟨⟨_, rfl, by first | rfl | (simp only [*, Bool.false_and, Bool.true_and, Bool.and_false, Bool.and_true, Bool.true_or, Bool.false_or, Bool.or_true, Bool.or_false, Bool.not_true, Bool.not_false]; done) | (simp_all; done) | (simp_all; omega)⟩, rfl, rfl, rfl⟩)
  refine awp_cond rfl (fun hc1 => ?_) (fun hc1 => ?_)
  -- cond 1
  · cases hc1
  · skip
    refine awp_skip ?_
    refine awp_seq ?_
    refine awp_region ?_
    refine al_d rfl rfl rfl (by exact opd_move rfl rfl) ?_
    refine al_d rfl rfl rfl (by exact opd_mul rfl rfl rfl hw) ?_
    refine al_d rfl rfl rfl (by exact x_makeSlice (id := 1001) rfl so90 ei5 zo5 rfl rfl rfl (by omega) (by omega) (by first | exact Int.toNat_natCast _ | rfl) (by first | exact Int.toNat_natCast _ | rfl) (by omega) rfl) ?_
    refine al_d rfl rfl rfl (by exact x_build rfl boN94 rfl rfl) ?_
    refine al_d rfl rfl rfl (by exact opd_box (id := 1000) rfl rfl rfl rfl rfl) ?_
    refine al_d rfl rfl rfl (by exact opd_assign rfl rfl) ?_
    refine al_nil ?_
    refine awp_ret ?_
    -- return
    refine aret1 (H' := newH n) (by first | exact .inr rfl | exact .inl rfl) rfl (rval_tmp rfl) (Fin.trans (H' := [(1002, ⟨0, 3, 104, []⟩), (1000, ⟨0, 4, 94, [[.osl 1001 0 0 (64 * n), .osl 1002 0 0 0, bv false, .pv .nilp]]⟩), (1001, ⟨0, 1, 5, List.replicate (64 * n) [.pv (.int .u8 0)]⟩)]) (r' := .ref 1000 0 0 0) (Fin.of_ent (Ent.nz 1002 3 104 rfl rfl ⟨⟨_, rfl, (by first | exact Nz.own | exact Nz.weak | exact Nz.same (by first | (simp; done) | (simp; rfl) | exact clo_map _ _ _ | exact clo_brows _ _ | exact disk_clo _ _ rfl rfl rfl | exact arm_clo _ _ | (simp; exact ⟨rfl, rfl⟩) | (simp; exact ⟨rfl, rfl, rfl⟩) | exact arm_clo .never _ | exact arm_clo (.off _ _ _) _ | exact arm_clo (.on _ _ _) _ | exact clo_rep _ _))⟩, trivial⟩ ⟨⟨_, rfl, rfl, rfl, rfl, (by first | exact .inl ⟨rfl, (by first | (simp; done) | (simp; rfl) | exact clo_map _ _ _ | exact clo_brows _ _ | exact disk_clo _ _ rfl rfl rfl | exact arm_clo _ _ | (simp; exact ⟨rfl, rfl⟩) | (simp; exact ⟨rfl, rfl, rfl⟩) | exact arm_clo .never _ | exact arm_clo (.off _ _ _) _ | exact arm_clo (.on _ _ _) _ | exact clo_rep _ _)⟩ | exact .inr ⟨_, _, rfl, rfl, (by repeat (first | exact trivial | refine ⟨(by first | exact Nz.own | exact Nz.weak | exact Nz.same (by first | (simp; done) | (simp; rfl) | exact clo_map _ _ _ | exact clo_brows _ _ | exact disk_clo _ _ rfl rfl rfl | exact arm_clo _ _ | (simp; exact ⟨rfl, rfl⟩) | (simp; exact ⟨rfl, rfl, rfl⟩) | exact arm_clo .never _ | exact arm_clo (.off _ _ _) _ | exact arm_clo (.on _ _ _) _ | exact clo_rep _ _)), ?_⟩))⟩)⟩, ⟨_, rfl, rfl, rfl, rfl, (by first | exact .inl ⟨rfl, (by first | (simp; done) | (simp; rfl) | exact clo_map _ _ _ | exact clo_brows _ _ | exact disk_clo _ _ rfl rfl rfl | exact arm_clo _ _ | (simp; exact ⟨rfl, rfl⟩) | (simp; exact ⟨rfl, rfl, rfl⟩) | exact arm_clo .never _ | exact arm_clo (.off _ _ _) _ | exact arm_clo (.on _ _ _) _ | exact clo_rep _ _)⟩ | exact .inr ⟨_, _, rfl, rfl, (by repeat (first | exact trivial | refine ⟨(by first | exact Nz.own | exact Nz.weak | exact Nz.same (by first | (simp; done) | (simp; rfl) | exact clo_map _ _ _ | exact clo_brows _ _ | exact disk_clo _ _ rfl rfl rfl | exact arm_clo _ _ | (simp; exact ⟨rfl, rfl⟩) | (simp; exact ⟨rfl, rfl, rfl⟩) | exact arm_clo .never _ | exact arm_clo (.off _ _ _) _ | exact arm_clo (.on _ _ _) _ | exact clo_rep _ _)), ?_⟩))⟩)⟩, trivial⟩ trivial)) (Fin.trans (H' := [(1003, ⟨0, 3, 110, []⟩), (1002, ⟨0, 3, 104, []⟩), (1000, ⟨0, 4, 94, [[.osl 1001 0 0 (64 * n), .osl 1002 0 0 0, bv false, .pv .nilp]]⟩), (1001, ⟨0, 1, 5, List.replicate (64 * n) [.pv (.int .u8 0)]⟩)]) (r' := .ref 1000 0 0 0) (Fin.of_ent (Ent.nz 1003 3 110 rfl rfl ⟨⟨_, rfl, (by first | exact Nz.own | exact Nz.weak | exact Nz.same (by first | (simp; done) | (simp; rfl) | exact clo_map _ _ _ | exact clo_brows _ _ | exact disk_clo _ _ rfl rfl rfl | exact arm_clo _ _ | (simp; exact ⟨rfl, rfl⟩) | (simp; exact ⟨rfl, rfl, rfl⟩) | exact arm_clo .never _ | exact arm_clo (.off _ _ _) _ | exact arm_clo (.on _ _ _) _ | exact clo_rep _ _))⟩, trivial⟩ ⟨⟨_, rfl, rfl, rfl, rfl, (by first | exact .inl ⟨rfl, (by first | (simp; done) | (simp; rfl) | exact clo_map _ _ _ | exact clo_brows _ _ | exact disk_clo _ _ rfl rfl rfl | exact arm_clo _ _ | (simp; exact ⟨rfl, rfl⟩) | (simp; exact ⟨rfl, rfl, rfl⟩) | exact arm_clo .never _ | exact arm_clo (.off _ _ _) _ | exact arm_clo (.on _ _ _) _ | exact clo_rep _ _)⟩ | exact .inr ⟨_, _, rfl, rfl, (by repeat (first | exact trivial | refine ⟨(by first | exact Nz.own | exact Nz.weak | exact Nz.same (by first | (simp; done) | (simp; rfl) | exact clo_map _ _ _ | exact clo_brows _ _ | exact disk_clo _ _ rfl rfl rfl | exact arm_clo _ _ | (simp; exact ⟨rfl, rfl⟩) | (simp; exact ⟨rfl, rfl, rfl⟩) | exact arm_clo .never _ | exact arm_clo (.off _ _ _) _ | exact arm_clo (.on _ _ _) _ | exact clo_rep _ _)), ?_⟩))⟩)⟩, ⟨_, rfl, rfl, rfl, rfl, (by first | exact .inl ⟨rfl, (by first | (simp; done) | (simp; rfl) | exact clo_map _ _ _ | exact clo_brows _ _ | exact disk_clo _ _ rfl rfl rfl | exact arm_clo _ _ | (simp; exact ⟨rfl, rfl⟩) | (simp; exact ⟨rfl, rfl, rfl⟩) | exact arm_clo .never _ | exact arm_clo (.off _ _ _) _ | exact arm_clo (.on _ _ _) _ | exact clo_rep _ _)⟩ | exact .inr ⟨_, _, rfl, rfl, (by repeat (first | exact trivial | refine ⟨(by first | exact Nz.own | exact Nz.weak | exact Nz.same (by first | (simp; done) | (simp; rfl) | exact clo_map _ _ _ | exact clo_brows _ _ | exact disk_clo _ _ rfl rfl rfl | exact arm_clo _ _ | (simp; exact ⟨rfl, rfl⟩) | (simp; exact ⟨rfl, rfl, rfl⟩) | exact arm_clo .never _ | exact arm_clo (.off _ _ _) _ | exact arm_clo (.on _ _ _) _ | exact clo_rep _ _)), ?_⟩))⟩)⟩, ⟨_, rfl, rfl, rfl, rfl, (by first | exact .inl ⟨rfl, (by first | (simp; done) | (simp; rfl) | exact clo_map _ _ _ | exact clo_brows _ _ | exact disk_clo _ _ rfl rfl rfl | exact arm_clo _ _ | (simp; exact ⟨rfl, rfl⟩) | (simp; exact ⟨rfl, rfl, rfl⟩) | exact arm_clo .never _ | exact arm_clo (.off _ _ _) _ | exact arm_clo (.on _ _ _) _ | exact clo_rep _ _)⟩ | exact .inr ⟨_, _, rfl, rfl, (by repeat (first | exact trivial | refine ⟨(by first | exact Nz.own | exact Nz.weak | exact Nz.same (by first | (simp; done) | (simp; rfl) | exact clo_map _ _ _ | exact clo_brows _ _ | exact disk_clo _ _ rfl rfl rfl | exact arm_clo _ _ | (simp; exact ⟨rfl, rfl⟩) | (simp; exact ⟨rfl, rfl, rfl⟩) | exact arm_clo .never _ | exact arm_clo (.off _ _ _) _ | exact arm_clo (.on _ _ _) _ | exact clo_rep _ _)), ?_⟩))⟩)⟩, trivial⟩ trivial)) (Fin.wk (by first | (simp; done) | (simp; rfl)) ⟨⟨_, rfl, rfl⟩, (by first | (simp; done) | (simp; rfl) | exact clo_map _ _ _ | exact clo_brows _ _ | exact disk_clo _ _ rfl rfl rfl | exact arm_clo _ _ | (simp; exact ⟨rfl, rfl⟩) | (simp; exact ⟨rfl, rfl, rfl⟩) | exact arm_clo .never _ | exact arm_clo (.off _ _ _) _ | exact arm_clo (.on _ _ _) _ | exact clo_rep _ _), ⟨_, rfl, rfl⟩, (by first | (simp; done) | (simp; rfl) | exact clo_map _ _ _ | exact clo_brows _ _ | exact disk_clo _ _ rfl rfl rfl | exact arm_clo _ _ | (simp; exact ⟨rfl, rfl⟩) | (simp; exact ⟨rfl, rfl, rfl⟩) | exact arm_clo .never _ | exact arm_clo (.off _ _ _) _ | exact arm_clo (.on _ _ _) _ | exact clo_rep _ _), ⟨_, rfl, rfl⟩, (by first | (simp; done) | (simp; rfl) | exact clo_map _ _ _ | exact clo_brows _ _ | exact disk_clo _ _ rfl rfl rfl | exact arm_clo _ _ | (simp; exact ⟨rfl, rfl⟩) | (simp; exact ⟨rfl, rfl, rfl⟩) | exact arm_clo .never _ | exact arm_clo (.off _ _ _) _ | exact arm_clo (.on _ _ _) _ | exact clo_rep _ _), ⟨_, rfl, rfl⟩, (by first | (simp; done) | (simp; rfl) | exact clo_map _ _ _ | exact clo_brows _ _ | exact disk_clo _ _ rfl rfl rfl | exact arm_clo _ _ | (simp; exact ⟨rfl, rfl⟩) | (simp; exact ⟨rfl, rfl, rfl⟩) | exact arm_clo .never _ | exact arm_clo (.off _ _ _) _ | exact arm_clo (.on _ _ _) _ | exact clo_rep _ _), trivial⟩ trivial))) ?_
    exact ⟨rfl, rfl⟩
theorem new_bad (n : Int) (H : Heap) (h : n < 1 ∨ 8000 < n) : ACalls Try.prog 23 [iv n] H (fun r H' => r = .pv .nilp ∧ H' = H) := by
  refine ACalls.pure ?_ (by simp) H
  refine ACalls.body Try.func23 rfl Try.ntmps23 (Nat.le_of_ble_eq_true rfl) ?_
  refine awp_seq ?_
  refine awp_region ?_
  refine al_d rfl rfl rfl (by exact opd_assign rfl rfl) ?_
  refine al_nil ?_
  refine awp_seq ?_
  refine awp_seq ?_
  refine awp_bool (t := 8) (n := 7) (X := true) ?_ ?_
  · all_goals (refine al_d rfl rfl rfl (by exact opd_move rfl rfl) ?_)
    all_goals (refine al_d rfl rfl rfl (by exact opd_lss rfl rfl rfl) ?_)
    all_goals (refine al_d rfl rfl rfl (by exact opd_move rfl rfl) ?_)
    all_goals (first | refine al_split (t := 5) rfl (fun h5 => ?_) (fun h5 => ?_) | skip)
    all_goals (try contradiction)
    all_goals (first | refine al_off rfl rfl rfl rfl rfl ?_ | refine al_offu rfl rfl rfl rfl ?_ | refine al_ond rfl rfl rfl rfl rfl rfl (by exact opd_move rfl rfl) ?_)
    all_goals (first | refine al_off rfl rfl rfl rfl rfl ?_ | refine al_offu rfl rfl rfl rfl ?_ | refine al_ond rfl rfl rfl rfl rfl rfl (by exact opd_gtr rfl rfl rfl) ?_)
    all_goals (refine al_d rfl rfl rfl (by exact (by first | exact opd_pick_t rfl rfl rfl | exact opd_pick_f rfl rfl rfl | exact opd_pickt rfl rfl (by assumption) rfl | exact opd_pickf rfl rfl (by assumption) rfl | exact opd_pick rfl rfl rfl)) ?_)
    all_goals (refine al_nil ?_)
    all_goals (exact ⟨⟨_, rfl, by first | rfl | (simp at *; omega)⟩, rfl, rfl, rfl⟩)
  refine awp_cond rfl (fun hc1 => ?_) (fun hc1 => ?_)
  -- cond 1
  · skip
    refine awp_seq ?_
    refine awp_region ?_
    refine al_d rfl rfl rfl (by exact opd_assign rfl rfl) ?_
    refine al_nil ?_
    refine awp_ret ?_
    -- return
    refine aret1 (H' := []) (by first | exact .inr rfl | exact .inl rfl) rfl (rval_tmp rfl) (Fin.wk (by simp) trivial trivial) ?_
    exact ⟨rfl, rfl⟩
  · cases hc1
/-! ### a disk that is nil -/
theorem nfail_c (w b : Int) (H : Heap) : ACalls Try.prog 35 [.pv .nilp, iv w, iv b] H (fun r H' => r = .tup [] ∧ H' = H) := by
  refine ACalls.pure ?_ (by simp) H
  refine ACalls.body Try.func35 rfl Try.ntmps35 (Nat.le_of_ble_eq_true rfl) ?_
  refine awp_seq ?_
  refine awp_seq ?_
  refine awp_bool (t := 16) (n := 9) (X := true) ?_ ?_
  · all_goals (refine al_d rfl rfl rfl (by exact opd_move rfl rfl) ?_)
    all_goals (refine al_d rfl rfl rfl (by exact (by first | exact opd_peq_ref rfl Try.underlying46 rfl rfl rfl rfl | exact opd_peq_nil rfl Try.underlying46 rfl rfl)) ?_)
    all_goals (refine al_d rfl rfl rfl (by exact opd_move rfl rfl) ?_)
    all_goals (first | refine al_split (t := 11) rfl (fun h11 => ?_) (fun h11 => ?_) | skip)
    all_goals (try contradiction)
    all_goals (first | refine al_off rfl rfl rfl rfl rfl ?_ | refine al_offu rfl rfl rfl rfl ?_ | refine al_ond rfl rfl rfl rfl rfl rfl (by exact opd_move rfl rfl) ?_)
    all_goals (first | refine al_off rfl rfl rfl rfl rfl ?_ | refine al_offu rfl rfl rfl rfl ?_ | refine al_ond rfl rfl rfl rfl rfl rfl (by exact (by first | exact opd_nilCheck_ref rfl rfl rfl rfl | exact opd_nilCheck_fn rfl rfl)) ?_)
    all_goals (first | refine al_off rfl rfl rfl rfl rfl ?_ | refine al_offu rfl rfl rfl rfl ?_ | refine al_ond rfl rfl rfl rfl rfl rfl (by exact (by first | exact opd_field_ref rfl fo94_2 rfl rfl rfl rfl | exact opd_field_pad rfl fo94_2 rfl rfl)) ?_)
    all_goals (first | refine al_off rfl rfl rfl rfl rfl ?_ | refine al_offu rfl rfl rfl rfl ?_ | refine al_ond rfl rfl rfl rfl rfl rfl (by exact (by first | exact opd_load1_ref rfl Try.isAgg4 rfl rfl rfl rfl rfl | exact opd_load1_pad rfl Try.isAgg4 rfl (by first | omega | assumption) rfl)) ?_)
    all_goals (refine al_d rfl rfl rfl (by exact (by first | exact opd_pick_t rfl rfl rfl | exact opd_pick_f rfl rfl rfl | exact opd_pickt rfl rfl (by assumption) rfl | exact opd_pickf rfl rfl (by assumption) rfl | exact opd_pick rfl rfl rfl)) ?_)
    all_goals (refine al_nil ?_)
    all_goals (exact ⟨⟨_, rfl, by first | rfl | (simp only [*, Bool.false_and, Bool.true_and, Bool.and_false, Bool.and_true, Bool.true_or, Bool.false_or, Bool.or_true, Bool.or_false, Bool.not_true, Bool.not_false]; done) | (simp_all; done) | (simp_all; omega)⟩, rfl, rfl, rfl⟩)
  refine awp_cond rfl (fun hc1 => ?_) (fun hc1 => ?_)
  -- cond 1
  · skip
    refine awp_ret ?_
    -- return
    refine aret0 (H' := []) (by first | exact .inr rfl | exact .inl rfl) rfl  (Fin.wk (by simp) trivial trivial) ?_
    exact ⟨rfl, rfl⟩
  · cases hc1
theorem nstart_c (H : Heap) : ACalls Try.prog 30 [.pv .nilp] H (fun r H' => r = .tup [] ∧ H' = H) := by
  refine ACalls.pure ?_ (by simp) H
  refine ACalls.body Try.func30 rfl Try.ntmps30 (Nat.le_of_ble_eq_true rfl) ?_
  refine awp_seq ?_
  refine awp_region ?_
  refine al_d rfl rfl rfl (by exact opd_move rfl rfl) ?_
  refine al_d rfl rfl rfl (by exact (by first | exact opd_pne_ref rfl Try.underlying46 rfl rfl rfl rfl | exact opd_pne_nil rfl Try.underlying46 rfl rfl)) ?_
  refine al_nil ?_
  refine awp_cond rfl (fun hc1 => ?_) (fun hc1 => ?_)
  -- cond 1
  · cases hc1
  · skip
    refine awp_skip ?_
    -- end of the body
    refine aret0 (H' := []) (by first | exact .inr rfl | exact .inl rfl) rfl  (Fin.wk (by simp) trivial trivial) ?_
    exact ⟨rfl, rfl⟩
theorem narm_c (a w b : Int) (H : Heap) : ACalls Try.prog 39 [.pv .nilp, iv a, iv w, iv b] H (fun r H' => r = .tup [] ∧ H' = H) := by
  refine ACalls.pure ?_ (by simp) H
  refine ACalls.body Try.func39 rfl Try.ntmps39 (Nat.le_of_ble_eq_true rfl) ?_
  refine awp_seq ?_
  refine awp_seq ?_
  refine awp_bool (t := 15) (n := 9) (X := true) ?_ ?_
  · all_goals (refine al_d rfl rfl rfl (by exact opd_move rfl rfl) ?_)
    all_goals (refine al_d rfl rfl rfl (by exact (by first | exact opd_peq_ref rfl Try.underlying46 rfl rfl rfl rfl | exact opd_peq_nil rfl Try.underlying46 rfl rfl)) ?_)
    all_goals (refine al_d rfl rfl rfl (by exact opd_move rfl rfl) ?_)
    all_goals (first | refine al_split (t := 10) rfl (fun h10 => ?_) (fun h10 => ?_) | skip)
    all_goals (try contradiction)
    all_goals (first | refine al_off rfl rfl rfl rfl rfl ?_ | refine al_offu rfl rfl rfl rfl ?_ | refine al_ond rfl rfl rfl rfl rfl rfl (by exact opd_move rfl rfl) ?_)
    all_goals (first | refine al_off rfl rfl rfl rfl rfl ?_ | refine al_offu rfl rfl rfl rfl ?_ | refine al_ond rfl rfl rfl rfl rfl rfl (by exact (by first | exact opd_nilCheck_ref rfl rfl rfl rfl | exact opd_nilCheck_fn rfl rfl)) ?_)
    all_goals (first | refine al_off rfl rfl rfl rfl rfl ?_ | refine al_offu rfl rfl rfl rfl ?_ | refine al_ond rfl rfl rfl rfl rfl rfl (by exact (by first | exact opd_field_ref rfl fo94_2 rfl rfl rfl rfl | exact opd_field_pad rfl fo94_2 rfl rfl)) ?_)
    all_goals (first | refine al_off rfl rfl rfl rfl rfl ?_ | refine al_offu rfl rfl rfl rfl ?_ | refine al_ond rfl rfl rfl rfl rfl rfl (by exact (by first | exact opd_load1_ref rfl Try.isAgg4 rfl rfl rfl rfl rfl | exact opd_load1_pad rfl Try.isAgg4 rfl (by first | omega | assumption) rfl)) ?_)
    all_goals (refine al_d rfl rfl rfl (by exact (by first | exact opd_pick_t rfl rfl rfl | exact opd_pick_f rfl rfl rfl | exact opd_pickt rfl rfl (by assumption) rfl | exact opd_pickf rfl rfl (by assumption) rfl | exact opd_pick rfl rfl rfl)) ?_)
    all_goals (refine al_nil ?_)
    all_goals (exact ⟨⟨_, rfl, by first | rfl | (simp only [*, Bool.false_and, Bool.true_and, Bool.and_false, Bool.and_true, Bool.true_or, Bool.false_or, Bool.or_true, Bool.or_false, Bool.not_true, Bool.not_false]; done) | (simp_all; done) | (simp_all; omega)⟩, rfl, rfl, rfl⟩)
  refine awp_cond rfl (fun hc1 => ?_) (fun hc1 => ?_)
  -- cond 1
  · skip
    refine awp_ret ?_
    -- return
    refine aret0 (H' := []) (by first | exact .inr rfl | exact .inl rfl) rfl  (Fin.wk (by simp) trivial trivial) ?_
    exact ⟨rfl, rfl⟩
  · cases hc1
theorem nplace_c (k : Int) (H : Heap) : ACalls Try.prog 62 [.pv .nilp, iv k] H (fun r H' => r = .tup [.agg [iv 0, iv 0], bv false] ∧ H' = H) := by
  refine ACalls.pure ?_ (by simp) H
  refine ACalls.body Try.func62 rfl Try.ntmps62 (Nat.le_of_ble_eq_true rfl) ?_
  refine awp_seq ?_
  refine awp_region ?_
  refine al_d rfl rfl rfl (by exact x_alloc (id := 4) rfl zo100 rfl rfl) ?_
  refine al_d rfl rfl rfl (by exact opd_assign rfl rfl) ?_
  refine al_nil ?_
  refine awp_seq ?_
  refine awp_seq ?_
  refine awp_bool (t := 21) (n := 18) (X := true) ?_ ?_
  · all_goals (refine al_d rfl rfl rfl (by exact opd_move rfl rfl) ?_)
    all_goals (refine al_d rfl rfl rfl (by exact (by first | exact opd_peq_ref rfl Try.underlying46 rfl rfl rfl rfl | exact opd_peq_nil rfl Try.underlying46 rfl rfl)) ?_)
    all_goals (refine al_d rfl rfl rfl (by exact opd_move rfl rfl) ?_)
    all_goals (first | refine al_split (t := 8) rfl (fun h8 => ?_) (fun h8 => ?_) | skip)
    all_goals (try contradiction)
    all_goals (first | refine al_off rfl rfl rfl rfl rfl ?_ | refine al_offu rfl rfl rfl rfl ?_ | refine al_ond rfl rfl rfl rfl rfl rfl (by exact opd_move rfl rfl) ?_)
    all_goals (first | refine al_off rfl rfl rfl rfl rfl ?_ | refine al_offu rfl rfl rfl rfl ?_ | refine al_ond rfl rfl rfl rfl rfl rfl (by exact opd_lss rfl rfl rfl) ?_)
    all_goals (refine al_d rfl rfl rfl (by exact (by first | exact opd_pick_t rfl rfl rfl | exact opd_pick_f rfl rfl rfl | exact opd_pickt rfl rfl (by assumption) rfl | exact opd_pickf rfl rfl (by assumption) rfl | exact opd_pick rfl rfl rfl)) ?_)
    all_goals (refine al_d rfl rfl rfl (by exact opd_move rfl rfl) ?_)
    all_goals (first | refine al_split (t := 12) rfl (fun h12 => ?_) (fun h12 => ?_) | skip)
    all_goals (try contradiction)
    all_goals (first | refine al_off rfl rfl rfl rfl rfl ?_ | refine al_offu rfl rfl rfl rfl ?_ | refine al_ond rfl rfl rfl rfl rfl rfl (by exact opd_move rfl rfl) ?_)
    all_goals (first | refine al_off rfl rfl rfl rfl rfl ?_ | refine al_offu rfl rfl rfl rfl ?_ | refine al_ond rfl rfl rfl rfl rfl rfl (by exact opd_move rfl rfl) ?_)
    all_goals (first | refine al_off rfl rfl rfl rfl rfl ?_ | refine al_offu rfl rfl rfl rfl ?_ | refine al_ond rfl rfl rfl rfl rfl rfl (by exact (by first | exact opd_nilCheck_ref rfl rfl rfl rfl | exact opd_nilCheck_fn rfl rfl)) ?_)
    all_goals (first | refine al_off rfl rfl rfl rfl rfl ?_ | refine al_offu rfl rfl rfl rfl ?_ | refine al_ond rfl rfl rfl rfl rfl rfl (by exact (by first | exact opd_field_ref rfl fo94_0 rfl rfl rfl rfl | exact opd_field_pad rfl fo94_0 rfl rfl)) ?_)
    all_goals (first | refine al_off rfl rfl rfl rfl rfl ?_ | refine al_offu rfl rfl rfl rfl ?_ | refine al_ond rfl rfl rfl rfl rfl rfl (by exact (by first | exact opd_load1_ref rfl Try.isAgg90 rfl rfl rfl rfl rfl | exact opd_load1_pad rfl Try.isAgg90 rfl (by first | omega | assumption) rfl)) ?_)
    all_goals (first | refine al_off rfl rfl rfl rfl rfl ?_ | refine al_offu rfl rfl rfl rfl ?_ | refine al_ond rfl rfl rfl rfl rfl rfl (by exact (by first | exact opd_len_sl rfl Try.underlying90 rfl | exact opd_len_osl rfl Try.underlying90 rfl rfl rfl)) ?_)
    all_goals (first | refine al_off rfl rfl rfl rfl rfl ?_ | refine al_offu rfl rfl rfl rfl ?_ | refine al_ond rfl rfl rfl rfl rfl rfl (by exact opd_quo rfl rfl rfl (by decide) (by first | exact w64 (by omega) (by omega) | exact wu8 (by omega) (by omega) | rfl)) ?_)
    all_goals (first | refine al_off rfl rfl rfl rfl rfl ?_ | refine al_offu rfl rfl rfl rfl ?_ | refine al_ond rfl rfl rfl rfl rfl rfl (by exact opd_geq rfl rfl rfl) ?_)
    all_goals (refine al_d rfl rfl rfl (by exact (by first | exact opd_pick_t rfl rfl rfl | exact opd_pick_f rfl rfl rfl | exact opd_pickt rfl rfl (by assumption) rfl | exact opd_pickf rfl rfl (by assumption) rfl | exact opd_pick rfl rfl rfl)) ?_)
    all_goals (refine al_nil ?_)
    all_goals (exact ⟨⟨_, rfl, by first | rfl | (simp only [*, Bool.false_and, Bool.true_and, Bool.and_false, Bool.and_true, Bool.true_or, Bool.false_or, Bool.or_true, Bool.or_false, Bool.not_true, Bool.not_false]; done) | (simp_all; done) | (simp_all; omega)⟩, rfl, rfl, rfl⟩)
  refine awp_cond rfl (fun hc1 => ?_) (fun hc1 => ?_)
  -- cond 1
  · skip
    refine awp_seq ?_
    refine awp_region ?_
    refine al_d rfl rfl rfl (by exact x_build rfl bo100 rfl rfl) ?_
    refine al_n rfl rfl (by exact (by first | exact x_store_all rfl Try.sizeOf100 rfl rfl rfl rfl rfl rfl rfl rfl | exact x_store rfl Try.sizeOf100 rfl rfl rfl rfl rfl rfl rfl (by simp only [List.length_cons, List.length_nil]; omega) (by simp only [List.drop_succ_cons, List.drop_zero, List.take_succ_cons, List.take_zero, List.take_nil, List.map_cons, List.map_nil, List.set_cons_zero, List.set_cons_succ, List.cons_append, List.nil_append, encQ, armR, dRow]; rfl) (by simp only [List.drop_succ_cons, List.drop_zero, List.take_succ_cons, List.take_zero, List.take_nil, List.map_cons, List.map_nil, List.set_cons_zero, List.set_cons_succ, List.cons_append, List.nil_append, encQ, armR, dRow]; rfl))) ?_
    refine al_d rfl rfl rfl (by exact opd_assign rfl rfl) ?_
    refine al_nil ?_
    refine awp_ret ?_
    -- return
    refine aret2 (H' := []) (by first | exact .inr rfl | exact .inl rfl) rfl (rval_cell rfl Try.isAgg100 Try.sizeOf100 rfl rfl rfl (by simp only [List.drop_succ_cons, List.drop_zero, List.take_succ_cons, List.take_zero, List.take_nil, List.map_cons, List.map_nil, List.set_cons_zero, List.set_cons_succ, List.cons_append, List.nil_append, encQ, armR, dRow]; rfl) rfl) (rval_tmp rfl) (Fin.wk (by simp) trivial trivial) ?_
    exact ⟨rfl, rfl⟩
  · cases hc1
theorem nat_c (k : Int) (H : Heap) : ACalls Try.prog 58 [.pv .nilp, iv k] H (fun r H' => r = .tup [.agg [iv 0, iv 0], iv 1] ∧ H' = H) := by
  refine ACalls.pure ?_ (by simp) H
  refine ACalls.body Try.func58 rfl Try.ntmps58 (Nat.le_of_ble_eq_true rfl) ?_
  refine awp_seq ?_
  refine awp_region ?_
  refine al_d rfl rfl rfl (by exact x_alloc (id := 4) rfl zo100 rfl rfl) ?_
  refine al_d rfl rfl rfl (by exact opd_assign rfl rfl) ?_
  refine al_nil ?_
  refine awp_seq ?_
  refine awp_seq ?_
  refine awp_bool (t := 15) (n := 9) (X := false) ?_ ?_
  · all_goals (refine al_d rfl rfl rfl (by exact opd_move rfl rfl) ?_)
    all_goals (refine al_d rfl rfl rfl (by exact (by first | exact opd_pne_ref rfl Try.underlying46 rfl rfl rfl rfl | exact opd_pne_nil rfl Try.underlying46 rfl rfl)) ?_)
    all_goals (refine al_d rfl rfl rfl (by exact opd_move rfl rfl) ?_)
    all_goals (first | refine al_split (t := 10) rfl (fun h10 => ?_) (fun h10 => ?_) | skip)
    all_goals (try contradiction)
    all_goals (first | refine al_off rfl rfl rfl rfl rfl ?_ | refine al_offu rfl rfl rfl rfl ?_ | refine al_ond rfl rfl rfl rfl rfl rfl (by exact opd_move rfl rfl) ?_)
    all_goals (first | refine al_off rfl rfl rfl rfl rfl ?_ | refine al_offu rfl rfl rfl rfl ?_ | refine al_ond rfl rfl rfl rfl rfl rfl (by exact (by first | exact opd_nilCheck_ref rfl rfl rfl rfl | exact opd_nilCheck_fn rfl rfl)) ?_)
    all_goals (first | refine al_off rfl rfl rfl rfl rfl ?_ | refine al_offu rfl rfl rfl rfl ?_ | refine al_ond rfl rfl rfl rfl rfl rfl (by exact (by first | exact opd_field_ref rfl fo94_2 rfl rfl rfl rfl | exact opd_field_pad rfl fo94_2 rfl rfl)) ?_)
    all_goals (first | refine al_off rfl rfl rfl rfl rfl ?_ | refine al_offu rfl rfl rfl rfl ?_ | refine al_ond rfl rfl rfl rfl rfl rfl (by exact (by first | exact opd_load1_ref rfl Try.isAgg4 rfl rfl rfl rfl rfl | exact opd_load1_pad rfl Try.isAgg4 rfl (by first | omega | assumption) rfl)) ?_)
    all_goals (refine al_d rfl rfl rfl (by exact (by first | exact opd_pick_t rfl rfl rfl | exact opd_pick_f rfl rfl rfl | exact opd_pickt rfl rfl (by assumption) rfl | exact opd_pickf rfl rfl (by assumption) rfl | exact opd_pick rfl rfl rfl)) ?_)
    all_goals (refine al_nil ?_)
    all_goals (exact ⟨⟨_, rfl, by first | rfl | (simp only [*, Bool.false_and, Bool.true_and, Bool.and_false, Bool.and_true, Bool.true_or, Bool.false_or, Bool.or_true, Bool.or_false, Bool.not_true, Bool.not_false]; done) | (simp_all; done) | (simp_all; omega)⟩, rfl, rfl, rfl⟩)
  refine awp_cond rfl (fun hc1 => ?_) (fun hc1 => ?_)
  -- cond 1
  · cases hc1
  · skip
    refine awp_skip ?_
    refine awp_seq ?_
    refine awp_region ?_
    refine al_d rfl rfl rfl (by exact opd_move rfl rfl) ?_
    refine al_d rfl rfl rfl (by exact opd_move rfl rfl) ?_
    refine al_d rfl rfl rfl (by exact opr_call rfl rfl Try.call62 rfl (nplace_c k _)) ?_
    refine al_d rfl rfl rfl (by exact opd_move rfl rfl) ?_
    refine al_d rfl rfl rfl (by exact opd_extract rfl rfl rfl) ?_
    refine al_d rfl rfl rfl (by exact opd_extract rfl rfl rfl) ?_
    refine al_d rfl rfl rfl (by exact x_alloc (id := 6) rfl zo100 rfl rfl) ?_
    refine al_n rfl rfl (by exact (by first | exact x_store_all rfl Try.sizeOf100 rfl rfl rfl rfl rfl rfl rfl rfl | exact x_store rfl Try.sizeOf100 rfl rfl rfl rfl rfl rfl rfl (by simp only [List.length_cons, List.length_nil]; omega) (by simp only [List.drop_succ_cons, List.drop_zero, List.take_succ_cons, List.take_zero, List.take_nil, List.map_cons, List.map_nil, List.set_cons_zero, List.set_cons_succ, List.cons_append, List.nil_append, encQ, armR, dRow]; rfl) (by simp only [List.drop_succ_cons, List.drop_zero, List.take_succ_cons, List.take_zero, List.take_nil, List.map_cons, List.map_nil, List.set_cons_zero, List.set_cons_succ, List.cons_append, List.nil_append, encQ, armR, dRow]; rfl))) ?_
    refine al_d rfl rfl rfl (by exact opd_assign rfl rfl) ?_
    refine al_nil ?_
    refine awp_seq ?_
    refine awp_seq ?_
    refine awp_region ?_
    refine al_d rfl rfl rfl (by exact opd_move rfl rfl) ?_
    refine al_d rfl rfl rfl (by exact opd_not rfl rfl) ?_
    refine al_nil ?_
    refine awp_cond rfl (fun hc2 => ?_) (fun hc2 => ?_)
    -- cond 2
    · skip
      refine awp_seq ?_
      refine awp_region ?_
      refine al_d rfl rfl rfl (by exact x_build rfl bo100 rfl rfl) ?_
      refine al_n rfl rfl (by exact (by first | exact x_store_all rfl Try.sizeOf100 rfl rfl rfl rfl rfl rfl rfl rfl | exact x_store rfl Try.sizeOf100 rfl rfl rfl rfl rfl rfl rfl (by simp only [List.length_cons, List.length_nil]; omega) (by simp only [List.drop_succ_cons, List.drop_zero, List.take_succ_cons, List.take_zero, List.take_nil, List.map_cons, List.map_nil, List.set_cons_zero, List.set_cons_succ, List.cons_append, List.nil_append, encQ, armR, dRow]; rfl) (by simp only [List.drop_succ_cons, List.drop_zero, List.take_succ_cons, List.take_zero, List.take_nil, List.map_cons, List.map_nil, List.set_cons_zero, List.set_cons_succ, List.cons_append, List.nil_append, encQ, armR, dRow]; rfl))) ?_
      refine al_d rfl rfl rfl (by exact opd_assign rfl rfl) ?_
      refine al_nil ?_
      refine awp_ret ?_
      -- return
      refine aret2 (H' := []) (by first | exact .inr rfl | exact .inl rfl) rfl (rval_cell rfl Try.isAgg100 Try.sizeOf100 rfl rfl rfl (by simp only [List.drop_succ_cons, List.drop_zero, List.take_succ_cons, List.take_zero, List.take_nil, List.map_cons, List.map_nil, List.set_cons_zero, List.set_cons_succ, List.cons_append, List.nil_append, encQ, armR, dRow]; rfl) rfl) (rval_tmp rfl) (Fin.wk (by simp) trivial trivial) ?_
      exact ⟨rfl, rfl⟩
    · cases hc2
theorem nrot_c (k p m : Int) (H : Heap) : ACalls Try.prog 40 [.pv .nilp, iv k, iv p, iv m] H (fun r H' => r = .tup [] ∧ H' = H) := by
  refine ACalls.pure ?_ (by simp) H
  refine ACalls.body Try.func40 rfl Try.ntmps40 (Nat.le_of_ble_eq_true rfl) ?_
  refine awp_seq ?_
  refine awp_region ?_
  refine al_d rfl rfl rfl (by exact opd_move rfl rfl) ?_
  refine al_d rfl rfl rfl (by exact opd_move rfl rfl) ?_
  refine al_d rfl rfl rfl (by exact opr_call rfl rfl Try.call62 rfl (nplace_c k _)) ?_
  refine al_d rfl rfl rfl (by exact opd_move rfl rfl) ?_
  refine al_d rfl rfl rfl (by exact opd_extract rfl rfl rfl) ?_
  refine al_d rfl rfl rfl (by exact opd_extract rfl rfl rfl) ?_
  refine al_d rfl rfl rfl (by exact x_alloc (id := 8) rfl zo100 rfl rfl) ?_
  refine al_n rfl rfl (by exact (by first | exact x_store_all rfl Try.sizeOf100 rfl rfl rfl rfl rfl rfl rfl rfl | exact x_store rfl Try.sizeOf100 rfl rfl rfl rfl rfl rfl rfl (by simp only [List.length_cons, List.length_nil]; omega) (by simp only [List.drop_succ_cons, List.drop_zero, List.take_succ_cons, List.take_zero, List.take_nil, List.map_cons, List.map_nil, List.set_cons_zero, List.set_cons_succ, List.cons_append, List.nil_append, encQ, armR, dRow]; rfl) (by simp only [List.drop_succ_cons, List.drop_zero, List.take_succ_cons, List.take_zero, List.take_nil, List.map_cons, List.map_nil, List.set_cons_zero, List.set_cons_succ, List.cons_append, List.nil_append, encQ, armR, dRow]; rfl))) ?_
  refine al_d rfl rfl rfl (by exact opd_assign rfl rfl) ?_
  refine al_nil ?_
  refine awp_seq ?_
  refine awp_bool (t := 32) (n := 21) (X := false) ?_ ?_
  · all_goals (refine al_d rfl rfl rfl (by exact opd_move rfl rfl) ?_)
    all_goals (refine al_d rfl rfl rfl (by exact opd_move rfl rfl) ?_)
    all_goals (first | refine al_split (t := 17) rfl (fun h17 => ?_) (fun h17 => ?_) | skip)
    all_goals (try contradiction)
    all_goals (first | refine al_off rfl rfl rfl rfl rfl ?_ | refine al_offu rfl rfl rfl rfl ?_ | refine al_ond rfl rfl rfl rfl rfl rfl (by exact opd_move rfl rfl) ?_)
    all_goals (first | refine al_off rfl rfl rfl rfl rfl ?_ | refine al_offu rfl rfl rfl rfl ?_ | refine al_ond rfl rfl rfl rfl rfl rfl (by exact opd_geq rfl rfl rfl) ?_)
    all_goals (refine al_d rfl rfl rfl (by exact (by first | exact opd_pick_t rfl rfl rfl | exact opd_pick_f rfl rfl rfl | exact opd_pickt rfl rfl (by assumption) rfl | exact opd_pickf rfl rfl (by assumption) rfl | exact opd_pick rfl rfl rfl)) ?_)
    all_goals (refine al_d rfl rfl rfl (by exact opd_move rfl rfl) ?_)
    all_goals (first | refine al_split (t := 21) rfl (fun h21 => ?_) (fun h21 => ?_) | skip)
    all_goals (try contradiction)
    all_goals (first | refine al_off rfl rfl rfl rfl rfl ?_ | refine al_offu rfl rfl rfl rfl ?_ | refine al_ond rfl rfl rfl rfl rfl rfl (by exact opd_move rfl rfl) ?_)
    all_goals (first | refine al_off rfl rfl rfl rfl rfl ?_ | refine al_offu rfl rfl rfl rfl ?_ | refine al_ond rfl rfl rfl rfl rfl rfl (by exact opd_lss rfl rfl rfl) ?_)
    all_goals (refine al_d rfl rfl rfl (by exact (by first | exact opd_pick_t rfl rfl rfl | exact opd_pick_f rfl rfl rfl | exact opd_pickt rfl rfl (by assumption) rfl | exact opd_pickf rfl rfl (by assumption) rfl | exact opd_pick rfl rfl rfl)) ?_)
    all_goals (refine al_d rfl rfl rfl (by exact opd_move rfl rfl) ?_)
    all_goals (first | refine al_split (t := 25) rfl (fun h25 => ?_) (fun h25 => ?_) | skip)
    all_goals (try contradiction)
    all_goals (first | refine al_off rfl rfl rfl rfl rfl ?_ | refine al_offu rfl rfl rfl rfl ?_ | refine al_ond rfl rfl rfl rfl rfl rfl (by exact opd_move rfl rfl) ?_)
    all_goals (first | refine al_off rfl rfl rfl rfl rfl ?_ | refine al_offu rfl rfl rfl rfl ?_ | refine al_ond rfl rfl rfl rfl rfl rfl (by exact opd_gtr rfl rfl rfl) ?_)
    all_goals (refine al_d rfl rfl rfl (by exact (by first | exact opd_pick_t rfl rfl rfl | exact opd_pick_f rfl rfl rfl | exact opd_pickt rfl rfl (by assumption) rfl | exact opd_pickf rfl rfl (by assumption) rfl | exact opd_pick rfl rfl rfl)) ?_)
    all_goals (refine al_d rfl rfl rfl (by exact opd_move rfl rfl) ?_)
    all_goals (first | refine al_split (t := 29) rfl (fun h29 => ?_) (fun h29 => ?_) | skip)
    all_goals (try contradiction)
    all_goals (first | refine al_off rfl rfl rfl rfl rfl ?_ | refine al_offu rfl rfl rfl rfl ?_ | refine al_ond rfl rfl rfl rfl rfl rfl (by exact opd_move rfl rfl) ?_)
    all_goals (first | refine al_off rfl rfl rfl rfl rfl ?_ | refine al_offu rfl rfl rfl rfl ?_ | refine al_ond rfl rfl rfl rfl rfl rfl (by exact opd_lss rfl rfl rfl) ?_)
    all_goals (refine al_d rfl rfl rfl (by exact (by first | exact opd_pick_t rfl rfl rfl | exact opd_pick_f rfl rfl rfl | exact opd_pickt rfl rfl (by assumption) rfl | exact opd_pickf rfl rfl (by assumption) rfl | exact opd_pick rfl rfl rfl)) ?_)
    all_goals (refine al_nil ?_)
    all_goals (exact ⟨⟨_, rfl, by first | rfl | (simp only [*, Bool.false_and, Bool.true_and, Bool.and_false, Bool.and_true, Bool.true_or, Bool.false_or, Bool.or_true, Bool.or_false, Bool.not_true, Bool.not_false]; done) | (simp_all; done) | (simp_all; omega)⟩, rfl, rfl, rfl⟩)
  refine awp_cond rfl (fun hc1 => ?_) (fun hc1 => ?_)
  -- cond 1
  · cases hc1
  · skip
    refine awp_skip ?_
    -- end of the body
    refine aret0 (H' := []) (by first | exact .inr rfl | exact .inl rfl) rfl  (Fin.wk (by simp) trivial trivial) ?_
    exact ⟨rfl, rfl⟩
theorem nraw_c (H : Heap) : ACalls Try.prog 41 [.pv .nilp] H (fun r H' => r = sv sNil ∧ H' = H) := by
  refine ACalls.pure ?_ (by simp) H
  refine ACalls.body Try.func41 rfl Try.ntmps41 (Nat.le_of_ble_eq_true rfl) ?_
  refine awp_seq ?_
  refine awp_region ?_
  refine al_d rfl rfl rfl (by exact opd_assign rfl rfl) ?_
  refine al_nil ?_
  refine awp_seq ?_
  refine awp_seq ?_
  refine awp_region ?_
  refine al_d rfl rfl rfl (by exact opd_move rfl rfl) ?_
  refine al_d rfl rfl rfl (by exact (by first | exact opd_peq_ref rfl Try.underlying46 rfl rfl rfl rfl | exact opd_peq_nil rfl Try.underlying46 rfl rfl)) ?_
  refine al_nil ?_
  refine awp_cond rfl (fun hc1 => ?_) (fun hc1 => ?_)
  -- cond 1
  · skip
    refine awp_seq ?_
    refine awp_region ?_
    refine al_d rfl rfl rfl (by exact opd_assign rfl rfl) ?_
    refine al_nil ?_
    refine awp_ret ?_
    -- return
    refine aret1 (H' := []) (by first | exact .inr rfl | exact .inl rfl) rfl (rval_tmp rfl) (Fin.wk (by simp) trivial trivial) ?_
    exact ⟨rfl, rfl⟩
  · cases hc1
theorem nsync_c (H : Heap) : ACalls Try.prog 31 [.pv .nilp] H (fun r H' => r = iv 1 ∧ H' = H) := by
  refine ACalls.pure ?_ (by simp) H
  refine ACalls.body Try.func31 rfl Try.ntmps31 (Nat.le_of_ble_eq_true rfl) ?_
  refine awp_seq ?_
  refine awp_region ?_
  refine al_d rfl rfl rfl (by exact opd_assign rfl rfl) ?_
  refine al_nil ?_
  refine awp_seq ?_
  refine awp_seq ?_
  refine awp_region ?_
  refine al_d rfl rfl rfl (by exact opd_move rfl rfl) ?_
  refine al_d rfl rfl rfl (by exact (by first | exact opd_peq_ref rfl Try.underlying46 rfl rfl rfl rfl | exact opd_peq_nil rfl Try.underlying46 rfl rfl)) ?_
  refine al_nil ?_
  refine awp_cond rfl (fun hc1 => ?_) (fun hc1 => ?_)
  -- cond 1
  · skip
    refine awp_seq ?_
    refine awp_region ?_
    refine al_d rfl rfl rfl (by exact opd_assign rfl rfl) ?_
    refine al_nil ?_
    refine awp_ret ?_
    -- return
    refine aret1 (H' := []) (by first | exact .inr rfl | exact .inl rfl) rfl (rval_tmp rfl) (Fin.wk (by simp) trivial trivial) ?_
    exact ⟨rfl, rfl⟩
  · cases hc1
theorem nwrite_c (k : Int) (t : ByteArray) (H : Heap) : ACalls Try.prog 33 [.pv .nilp, iv k, sv t] H (fun r H' => r = iv 1 ∧ H' = H) := by
  refine ACalls.pure ?_ (by simp) H
  refine ACalls.body Try.func33 rfl Try.ntmps33 (Nat.le_of_ble_eq_true rfl) ?_
  refine awp_seq ?_
  refine awp_region ?_
  refine al_d rfl rfl rfl (by exact opd_assign rfl rfl) ?_
  refine al_nil ?_
  refine awp_seq ?_
  refine awp_region ?_
  refine al_d rfl rfl rfl (by exact opd_move rfl rfl) ?_
  refine al_d rfl rfl rfl (by exact opd_move rfl rfl) ?_
  refine al_d rfl rfl rfl (by exact opr_call rfl rfl Try.call58 rfl (nat_c k _)) ?_
  refine al_d rfl rfl rfl (by exact opd_move rfl rfl) ?_
  refine al_d rfl rfl rfl (by exact opd_extract rfl rfl rfl) ?_
  refine al_d rfl rfl rfl (by exact opd_extract rfl rfl rfl) ?_
  refine al_d rfl rfl rfl (by exact x_alloc (id := 7) rfl zo100 rfl rfl) ?_
  refine al_n rfl rfl (by exact (by first | exact x_store_all rfl Try.sizeOf100 rfl rfl rfl rfl rfl rfl rfl rfl | exact x_store rfl Try.sizeOf100 rfl rfl rfl rfl rfl rfl rfl (by simp only [List.length_cons, List.length_nil]; omega) (by simp only [List.drop_succ_cons, List.drop_zero, List.take_succ_cons, List.take_zero, List.take_nil, List.map_cons, List.map_nil, List.set_cons_zero, List.set_cons_succ, List.cons_append, List.nil_append, encQ, armR, dRow]; rfl) (by simp only [List.drop_succ_cons, List.drop_zero, List.take_succ_cons, List.take_zero, List.take_nil, List.map_cons, List.map_nil, List.set_cons_zero, List.set_cons_succ, List.cons_append, List.nil_append, encQ, armR, dRow]; rfl))) ?_
  refine al_d rfl rfl rfl (by exact opd_assign rfl rfl) ?_
  refine al_nil ?_
  refine awp_seq ?_
  refine awp_seq ?_
  refine awp_region ?_
  refine al_d rfl rfl rfl (by exact opd_move rfl rfl) ?_
  refine al_d rfl rfl rfl (by exact opd_neq rfl rfl rfl) ?_
  refine al_nil ?_
  refine awp_cond rfl (fun hc1 => ?_) (fun hc1 => ?_)
  -- cond 1
  · skip
    refine awp_seq ?_
    refine awp_region ?_
    refine al_d rfl rfl rfl (by exact opd_move rfl rfl) ?_
    refine al_d rfl rfl rfl (by exact opd_assign rfl rfl) ?_
    refine al_nil ?_
    refine awp_ret ?_
    -- return
    refine aret1 (H' := []) (by first | exact .inr rfl | exact .inl rfl) rfl (rval_tmp rfl) (Fin.wk (by simp) trivial trivial) ?_
    exact ⟨rfl, rfl⟩
  · cases hc1
/-! ### the laws' operations -/
structure GAct where
  kind : Int
  sector : Int
  bytes : Int
  text : ByteArray
  odd : Bool
  after : Int
def encAct (a : GAct) : List PV := [.int .i64 a.kind, .int .i64 a.sector, .int .i64 a.bytes, .str a.text, .bool a.odd, .int .i64 a.after]
def slActs (l : List GAct) : PV := .sl (l.map encAct)
def reps (t : ByteArray) (n : Nat) : List UInt8 := (List.replicate n t.data.toList).flatten
def fillT (t : ByteArray) : ByteArray := ⟨((reps t 64).take 64).toArray⟩
def aText (a : GAct) : ByteArray := if a.odd || decide (a.text = sNil) then a.text else fillT a.text
theorem reps_succ (t : ByteArray) (n : Nat) : reps t (n + 1) = reps t n ++ t.data.toList := by
  unfold reps; rw [List.replicate_succ', List.flatten_append]; simp
theorem reps_len (t : ByteArray) (n : Nat) : (reps t n).length = n * t.size := by
  induction n with
  | zero => simp [reps]
  | succ n ih => rw [reps_succ, List.length_append, ih, ba_size, Nat.add_mul]; omega
theorem reps_pre (t : ByteArray) : ∀ (m n : Nat), n ≤ m → (reps t m).take (n * t.size) = reps t n := by
  intro m
  induction m with
  | zero => intro n h; have : n = 0 := by omega
            subst this; simp [reps]
  | succ m ih =>
    intro n h
    by_cases e : n = m + 1
    · subst e; rw [← reps_len, List.take_length]
    · rw [reps_succ, List.take_append_of_le_length (by rw [reps_len]; exact Nat.mul_le_mul_right _ (by omega)), ih n (by omega)]
theorem ba_append (a : List UInt8) (t : ByteArray) : (⟨a.toArray⟩ : ByteArray) ++ t = ⟨(a ++ t.data.toList).toArray⟩ := by
  apply ByteArray.ext
  rw [ByteArray.data_append]
  simp
theorem ba_extract (a : List UInt8) (n : Nat) : (⟨a.toArray⟩ : ByteArray).extract 0 n = ⟨(a.take n).toArray⟩ := by
  apply ByteArray.ext
  simp
theorem size_pos {t : ByteArray} (h : ¬ t = sNil) : 0 < t.size := by
  rcases Nat.eq_zero_or_pos t.size with e | e
  · exfalso; apply h
    apply ByteArray.ext
    exact Array.eq_empty_of_size_eq_zero e
  · exact e
theorem fillT_size {t : ByteArray} (h : 0 < t.size) : (fillT t).size = 64 := by
  show (List.toArray _).size = 64
  rw [List.size_toArray, List.length_take, reps_len]
  have : 64 * 1 ≤ 64 * t.size := Nat.mul_le_mul_left _ h
  omega
theorem text_c (a : GAct) (H : Heap) (ha : a.text.size ≤ 1048576) :
    ACalls Try.prog 34 [av (encAct a)] H (fun r H' => r = sv (aText a) ∧ H' = H) := by
  refine ACalls.pure ?_ (by simp) H
  refine ACalls.body Try.func34 rfl Try.ntmps34 (Nat.le_of_ble_eq_true rfl) ?_
  refine awp_seq ?_
  refine awp_region ?_
  refine al_d rfl rfl rfl (by exact opd_box (id := 1) rfl rfl rfl rfl rfl) ?_
  refine al_d rfl rfl rfl (by exact opd_assign rfl rfl) ?_
  refine al_nil ?_
  refine awp_seq ?_
  refine awp_seq ?_
  refine awp_bool (t := 10) (n := 8) (X := a.odd || decide (a.text = sNil)) ?_ ?_
  · all_goals (refine al_d rfl rfl rfl (by exact (by first | exact opd_field_ref rfl fo55_4 rfl rfl rfl rfl | exact opd_field_pad rfl fo55_4 rfl rfl)) ?_)
    all_goals (refine al_d rfl rfl rfl (by exact (by first | exact opd_load1_ref rfl Try.isAgg4 rfl rfl rfl rfl rfl | exact opd_load1_pad rfl Try.isAgg4 rfl (by first | omega | assumption) rfl)) ?_)
    all_goals (refine al_d rfl rfl rfl (by exact opd_move rfl rfl) ?_)
    all_goals (first | refine al_split (t := 6) rfl (fun h6 => ?_) (fun h6 => ?_) | skip)
    all_goals (try contradiction)
    all_goals (first | refine al_off rfl rfl rfl rfl rfl ?_ | refine al_offu rfl rfl rfl rfl ?_ | refine al_ond rfl rfl rfl rfl rfl rfl (by exact (by first | exact opd_field_ref rfl fo55_3 rfl rfl rfl rfl | exact opd_field_pad rfl fo55_3 rfl rfl)) ?_)
    all_goals (first | refine al_off rfl rfl rfl rfl rfl ?_ | refine al_offu rfl rfl rfl rfl ?_ | refine al_ond rfl rfl rfl rfl rfl rfl (by exact (by first | exact opd_load1_ref rfl Try.isAgg9 rfl rfl rfl rfl rfl | exact opd_load1_pad rfl Try.isAgg9 rfl (by first | omega | assumption) rfl)) ?_)
    all_goals (first | refine al_off rfl rfl rfl rfl rfl ?_ | refine al_offu rfl rfl rfl rfl ?_ | refine al_ond rfl rfl rfl rfl rfl rfl (by exact opd_seql rfl rfl rfl) ?_)
    all_goals (refine al_d rfl rfl rfl (by exact (by first | exact opd_pick_t rfl rfl rfl | exact opd_pick_f rfl rfl rfl | exact opd_pickt rfl rfl (by assumption) rfl | exact opd_pickf rfl rfl (by assumption) rfl | exact opd_pick rfl rfl rfl)) ?_)
    all_goals (refine al_nil ?_)
    all_goals (exact ⟨⟨_, rfl, by first | rfl | (simp only [a, *]; rfl) | (simp_all [a]; done) | (simp only [*, Bool.false_and, Bool.true_and, Bool.and_false, Bool.and_true, Bool.true_or, Bool.false_or, Bool.or_true, Bool.or_false, Bool.not_true, Bool.not_false]; done) | (simp_all; omega) | (simp_all [a]; omega)⟩, rfl, rfl, rfl⟩)
  refine awp_cond rfl (fun hc1 => ?_) (fun hc1 => ?_)
  -- cond 1
  · skip
    refine awp_seq ?_
    refine awp_region ?_
    refine al_d rfl rfl rfl (by exact (by first | exact opd_field_ref rfl fo55_3 rfl rfl rfl rfl | exact opd_field_pad rfl fo55_3 rfl rfl)) ?_
    refine al_d rfl rfl rfl (by exact (by first | exact opd_load1_ref rfl Try.isAgg9 rfl rfl rfl rfl rfl | exact opd_load1_pad rfl Try.isAgg9 rfl (by first | omega | assumption) rfl)) ?_
    refine al_d rfl rfl rfl (by exact opd_assign rfl rfl) ?_
    refine al_nil ?_
    refine awp_ret ?_
    -- return
    refine aret1 (H' := []) (by first | exact .inr rfl | exact .inl rfl) rfl (rval_tmp rfl) (Fin.wk (by simp) trivial trivial) ?_
    exact ⟨by simp only [aText, hc1, if_true], rfl⟩
  · have hne : ¬ a.text = sNil := by
      intro h; rw [h] at hc1; simp at hc1
    have hpos := size_pos hne
    have e0 : aText a = fillT a.text := by simp only [aText, hc1, Bool.false_eq_true, if_false]
    rw [e0]
    refine awp_skip ?_
    refine awp_seq ?_
    refine awp_region ?_
    refine al_d rfl rfl rfl (by exact opd_assign rfl rfl) ?_
    refine al_nil ?_
    refine awp_seq ?_
    refine awp_block ?_
    -- loop
    refine awp_loop (σ := Nat) (fun i => ([(1, .ref 1 0 0 0), (3, sv ⟨(reps a.text i).toArray⟩)], [(1, bx 6 55 ((encAct a).map .pv))])) (fun i => i ≤ 64) (fun i => 64 - i) 0 (by omega) ?_ ?_
    · exact (Ent.wk ⟨⟨_, rfl, rfl⟩, (by first | (simp; done) | (simp; rfl) | exact clo_map _ _ _ | exact clo_brows _ _ | exact disk_clo _ _ rfl rfl rfl | exact arm_clo _ _ | (simp; exact ⟨rfl, rfl⟩) | (simp; exact ⟨rfl, rfl, rfl⟩) | exact arm_clo .never _ | exact arm_clo (.off _ _ _) _ | exact arm_clo (.on _ _ _) _ | exact clo_rep _ _), ⟨_, rfl, rfl⟩, (by first | (simp; done) | (simp; rfl) | exact clo_map _ _ _ | exact clo_brows _ _ | exact disk_clo _ _ rfl rfl rfl | exact arm_clo _ _ | (simp; exact ⟨rfl, rfl⟩) | (simp; exact ⟨rfl, rfl, rfl⟩) | exact arm_clo .never _ | exact arm_clo (.off _ _ _) _ | exact arm_clo (.on _ _ _) _ | exact clo_rep _ _), trivial⟩ ⟨⟨_, rfl, rfl⟩, (by first | (simp; done) | (simp; rfl) | exact clo_map _ _ _ | exact clo_brows _ _ | exact disk_clo _ _ rfl rfl rfl | exact arm_clo _ _ | (simp; exact ⟨rfl, rfl⟩) | (simp; exact ⟨rfl, rfl, rfl⟩) | exact arm_clo .never _ | exact arm_clo (.off _ _ _) _ | exact arm_clo (.on _ _ _) _ | exact clo_rep _ _), trivial⟩ trivial)
    · intro i hi
      have hsz : (⟨(reps a.text i).toArray⟩ : ByteArray).size = i * a.text.size := by
        show (List.toArray _).size = _
        rw [List.size_toArray, reps_len]
      have hle : i * a.text.size ≤ 64 * a.text.size := Nat.mul_le_mul_right _ hi
      refine awp_seq ?_
      refine awp_seq ?_
      refine awp_region ?_
      refine al_d rfl rfl rfl (by exact opd_move rfl rfl) ?_
      refine al_d rfl rfl rfl (by exact opd_len_str rfl Try.underlying9 rfl) ?_
      refine al_d rfl rfl rfl (by exact opd_lss rfl rfl rfl) ?_
      refine al_nil ?_
      refine awp_cond rfl (fun hc2 => ?_) (fun hc2 => ?_)
      -- cond 2
      · have hlt : i * a.text.size < 64 := by
          have h : (((⟨(reps a.text i).toArray⟩ : ByteArray).size : Nat) : Int) < 64 := of_decide_eq_true hc2
          rw [hsz] at h; omega
        have hi64 : i < 64 := by
          have : i * 1 ≤ i * a.text.size := Nat.mul_le_mul_left _ hpos
          omega
        refine awp_skip ?_
        refine awp_block ?_
        refine awp_region ?_
        refine al_d rfl rfl rfl (by exact opd_move rfl rfl) ?_
        refine al_d rfl rfl rfl (by exact (by first | exact opd_field_ref rfl fo55_3 rfl rfl rfl rfl | exact opd_field_pad rfl fo55_3 rfl rfl)) ?_
        refine al_d rfl rfl rfl (by exact (by first | exact opd_load1_ref rfl Try.isAgg9 rfl rfl rfl rfl rfl | exact opd_load1_pad rfl Try.isAgg9 rfl (by first | omega | assumption) rfl)) ?_
        refine al_d rfl rfl rfl (by exact opd_sadd rfl rfl rfl (by rw [hsz]; omega) rfl) ?_
        refine al_d rfl rfl rfl (by exact opd_assign rfl rfl) ?_
        refine al_nil ?_
        -- end of a round
        refine ⟨i + 1, by omega, by omega, ?_⟩
        rw [reps_succ, ← ba_append]
        exact (Ent.wk ⟨⟨_, rfl, rfl⟩, (by first | (simp; done) | (simp; rfl) | exact clo_map _ _ _ | exact clo_brows _ _ | exact disk_clo _ _ rfl rfl rfl | exact arm_clo _ _ | (simp; exact ⟨rfl, rfl⟩) | (simp; exact ⟨rfl, rfl, rfl⟩) | exact arm_clo .never _ | exact arm_clo (.off _ _ _) _ | exact arm_clo (.on _ _ _) _ | exact clo_rep _ _), ⟨_, rfl, rfl⟩, (by first | (simp; done) | (simp; rfl) | exact clo_map _ _ _ | exact clo_brows _ _ | exact disk_clo _ _ rfl rfl rfl | exact arm_clo _ _ | (simp; exact ⟨rfl, rfl⟩) | (simp; exact ⟨rfl, rfl, rfl⟩) | exact arm_clo .never _ | exact arm_clo (.off _ _ _) _ | exact arm_clo (.on _ _ _) _ | exact clo_rep _ _), trivial⟩ ⟨⟨_, rfl, rfl⟩, (by first | (simp; done) | (simp; rfl) | exact clo_map _ _ _ | exact clo_brows _ _ | exact disk_clo _ _ rfl rfl rfl | exact arm_clo _ _ | (simp; exact ⟨rfl, rfl⟩) | (simp; exact ⟨rfl, rfl, rfl⟩) | exact arm_clo .never _ | exact arm_clo (.off _ _ _) _ | exact arm_clo (.on _ _ _) _ | exact clo_rep _ _), trivial⟩ trivial)
      · have hge : 64 ≤ i * a.text.size := by
          have h : ¬ (((⟨(reps a.text i).toArray⟩ : ByteArray).size : Nat) : Int) < 64 := of_decide_eq_false hc2
          rw [hsz] at h; omega
        refine awp_exit ?_
        refine awp_seq ?_
        refine awp_region ?_
        refine al_d rfl rfl rfl (by exact opd_move rfl rfl) ?_
        refine al_d rfl rfl rfl (by exact opd_slice_str (l := 0) (h := 64) rfl Try.underlying9 rfl rfl rfl (by omega) (by omega) rfl) ?_
        refine al_d rfl rfl rfl (by exact opd_assign rfl rfl) ?_
        refine al_nil ?_
        refine awp_ret ?_
        -- return
        refine aret1 (H' := []) (by first | exact .inr rfl | exact .inl rfl) rfl (rval_tmp rfl) (Fin.wk (by simp) trivial trivial) ?_
        refine ⟨?_, rfl⟩
        rw [ba_extract]
        have : (reps a.text i).take 64 = (reps a.text 64).take 64 := by
          rw [← reps_pre a.text 64 i hi, List.take_take, Nat.min_eq_left hge]
        rw [this]; rfl
theorem fill_c (t : ByteArray) (H : Heap) (ht : t.size ≤ 1048576) :
    ACalls Try.prog 38 [sv t] H (fun r H' => r = sv (aText ⟨0, 0, 0, t, false, 0⟩) ∧ H' = H) := by
  refine ACalls.pure ?_ (by simp) H
  refine ACalls.body Try.func38 rfl Try.ntmps38 (Nat.le_of_ble_eq_true rfl) ?_
  refine awp_seq ?_
  refine awp_region ?_
  refine al_d rfl rfl rfl (by exact opd_assign rfl rfl) ?_
  refine al_nil ?_
  refine awp_seq ?_
  refine awp_region ?_
  refine al_d rfl rfl rfl (by exact opd_move rfl rfl) ?_
  refine al_d rfl rfl rfl (by exact x_build rfl bo55 rfl (rfl : _ = some ((encAct ⟨0, 0, 0, t, false, 0⟩).map AV.pv))) ?_
  refine al_d rfl rfl rfl (by exact opr_call rfl rfl Try.call34 rfl (text_c ⟨0, 0, 0, t, false, 0⟩ _ ht)) ?_
  refine al_d rfl rfl rfl (by exact opd_assign rfl rfl) ?_
  refine al_nil ?_
  refine awp_ret ?_
  -- return
  refine aret1 (H' := []) (by first | exact .inr rfl | exact .inl rfl) rfl (rval_tmp rfl) (Fin.wk (by simp) trivial trivial) ?_
  exact ⟨rfl, rfl⟩
end Go.Proofs.Ytljocbkebhgkoaa
