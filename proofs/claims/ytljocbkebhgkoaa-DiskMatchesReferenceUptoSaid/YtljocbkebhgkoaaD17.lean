/-
  CONTRACTS of a second disk; planispherelaw46.DiskAll answers true. Conditions: the arguments' sizes.
-/
import Derived.Test.YtljocbkebhgkoaaD16
set_option linter.unusedVariables false
set_option linter.unusedSimpArgs false
set_option maxRecDepth 100000
namespace Go.Proofs.Ytljocbkebhgkoaa
open Go.Abs

def sw (n : Nat) : Nat := if 1000 ≤ n ∧ n < 1004 then n + 1000 else if 2000 ≤ n ∧ n < 2004 then n - 1000 else n
theorem sw_sw (n : Nat) : sw (sw n) = n := by
  unfold sw
  repeat' split
  all_goals omega
def armV2 (ga : Nat) : Arm → AV
  | .never => .pv .nilp
  | .off _ _ _ => .pv .nilp
  | .on _ _ _ => .ref 2003 ga 0 0
abbrev dRow2 (s : DSt) : List AV := [.osl 2001 0 0 (64 * s.cells.length), .osl 2002 s.gq 0 s.q.length, bv s.off, armV2 s.ga s.arm]
abbrev diskH2 (s : DSt) : Heap := [(2000, ⟨0, 4, 94, [dRow2 s]⟩), (2001, ⟨0, 1, 5, brows (flat s.cells)⟩), (2002, ⟨s.gq, 3, 104, qRows s.q⟩), (2003, ⟨s.ga, 3, 110, armR s.arm⟩)]
theorem ren_pv (l : List PV) : renL sw (l.map .pv) = l.map .pv := by
  rw [renL_map, List.map_map]; rfl
theorem ren_rows {α : Type} (f : α → List PV) (l : List α) : (l.map (fun e => (f e).map AV.pv)).map (renL sw) = l.map (fun e => (f e).map AV.pv) := by
  rw [List.map_map]
  apply List.map_congr_left
  intro e _
  exact ren_pv (f e)
theorem ren_brows (l : List UInt8) : (brows l).map (renL sw) = brows l := by
  unfold brows
  rw [List.map_map]
  apply List.map_congr_left
  intro e _
  rfl
theorem ren_disk (s : DSt) : renH sw (diskH s) = diskH2 s := by
  have e1 : (armR s.arm).map (renL sw) = armR s.arm := by cases s.arm <;> rfl
  have e2 : renA sw (armV s.ga s.arm) = armV2 s.ga s.arm := by cases s.arm <;> rfl
  simp only [diskH, diskH2, renH, renO, List.map_cons, List.map_nil, ren_brows, ren_rows, e1, dRow, dRow2, renL, e2]
  rfl
theorem disk2_clo (s : DSt) (H : Heap) (h1 : (H.get 2001).isSome = true) (h2 : (H.get 2002).isSome = true) (h3 : (H.get 2003).isSome = true) : ∀ r ∈ [dRow2 s], ∀ a ∈ r, Clo H a := by
  intro r hr a ha
  rw [List.mem_singleton.1 hr] at ha
  simp only [dRow2, List.mem_cons, List.not_mem_nil, or_false] at ha
  rcases ha with rfl | rfl | rfl | rfl
  · exact .osl h1
  · exact .osl h2
  · exact .pv _
  · cases s.arm <;> first | exact .pv _ | exact .ref h3
theorem diskH2_closed (s : DSt) : Closed (diskH2 s) := Closed.of (fun p hp => by
  simp only [diskH2, List.mem_cons, List.not_mem_nil, or_false] at hp
  rcases hp with rfl | rfl | rfl | rfl
  · exact disk2_clo s _ rfl rfl rfl
  · exact clo_brows _ _
  · exact clo_map _ _ _
  · exact arm_clo _ _)
theorem disk2_keys (s s' : DSt) (H : Heap) : ∀ id, ((diskH2 s').get id).isSome = true → ((diskH2 s).get id).isSome = true ∨ H.get id = none := by
  intro id h
  left
  simp only [diskH2, Heap.get] at h ⊢
  cases e0 : Nat.beq 2000 id <;> cases e1 : Nat.beq 2001 id <;> cases e2 : Nat.beq 2002 id <;> cases e3 : Nat.beq 2003 id <;> simp [e0, e1, e2, e3] at h ⊢
/-- A call of the second disk. -/
theorem disk2_frame {f : FuncId} {args args' : List AV} {s s' : DSt} {r0 r1 : AV} (h : ACalls Try.prog f args (diskH s) (fun r H' => r = r0 ∧ H' = diskH s')) (H : Heap) (hs : subL H (diskH2 s)) (ha : renL sw args = args') (hr : renA sw r0 = r1) (hc : ∀ a ∈ args', Clo (diskH2 s) a) :
    ACalls Try.prog f args' H (fun r H' => r = r1 ∧ H' = diskH2 s' ++ H) :=
  (ACalls.ren sw_sw h ha (ren_disk s) hr (ren_disk s')).frame hs.sub (diskH2_closed s) hc (disk2_keys s s' H)
theorem new2_c {n : Nat} {s0 : DSt} (h : ACalls Try.prog 23 [iv (n : Int)] [] (fun r H' => r = .ref 1000 0 0 0 ∧ H' = diskH s0)) (H : Heap) (g0 : H.get 2000 = none) (g1 : H.get 2001 = none) (g2 : H.get 2002 = none) (g3 : H.get 2003 = none) :
    ACalls Try.prog 23 [iv (n : Int)] H (fun r H' => r = .ref 2000 0 0 0 ∧ H' = diskH2 s0 ++ H) := by
  refine (ACalls.ren (ρ := sw) sw_sw h (args' := [iv (n : Int)]) (H' := []) (r' := .ref 2000 0 0 0) rfl rfl rfl (ren_disk s0)).frame (fun _ _ h => by cases h) (fun _ _ h => by cases h) (by simp) (fun id h => ?_)
  right
  simp only [diskH2, Heap.get] at h
  cases e0 : Nat.beq 2000 id with
  | true => rw [← Nat.eq_of_beq_eq_true e0]; exact g0
  | false =>
    cases e1 : Nat.beq 2001 id with
    | true => rw [← Nat.eq_of_beq_eq_true e1]; exact g1
    | false =>
      cases e2 : Nat.beq 2002 id with
      | true => rw [← Nat.eq_of_beq_eq_true e2]; exact g2
      | false =>
        cases e3 : Nat.beq 2003 id with
        | true => rw [← Nat.eq_of_beq_eq_true e3]; exact g3
        | false => simp [e0, e1, e2, e3] at h
theorem fail_again {s : DSt} (h : s.off = true) (w b : Int) : dFail s w b = s := by simp [dFail, h]
theorem failC_all (s : DSt) (b : Int) (h : s.q.length ≤ 60) : failC s 60 b = putAll s.cells s.q := by
  unfold failC failN
  have e : min (60 : Int).toNat s.q.length = s.q.length := by
    have : (60 : Int).toNat = 60 := rfl
    omega
  rw [e, List.take_length, List.getElem?_eq_none (Nat.le_refl _)]; rfl
theorem failC_none (s : DSt) (w b : Int) (h : s.q = []) : failC s w b = s.cells := by
  unfold failC
  rw [h]; simp [torn, putAll]
theorem diskAll_c (raw : Int) (l : List GAct) (bytes more : Int) (H : Heap) (h0 : 0 ≤ raw) (h1 : raw ≤ 255) (hl : szActs 1048576 l) :
    ACalls Try.prog 10 [.pv (.int .u8 raw), .pv (slActs l), iv bytes, iv more] H (fun r H' => r = bv true ∧ H' = H) := by
  refine ACalls.pure ?_ (by simp) H
  have hml : (l.map encAct).length = l.length := List.length_map _
  have hl1 := hl.1
  obtain ⟨n, hn⟩ : ∃ n, n = gSize raw := ⟨_, rfl⟩
  have hsz : ∀ H, ACalls Try.prog 24 [.pv (.int .u8 raw)] H (fun r H' => r = iv (n : Nat) ∧ H' = H) := fun H => by rw [hn]; exact size_c raw H h0 h1
  obtain ⟨hn1, hn2⟩ : 1 ≤ n ∧ n ≤ 12 := by rw [hn]; exact gSize_le raw
  clear hn
  refine ACalls.body Try.func10 rfl Try.ntmps10 (Nat.le_of_ble_eq_true rfl) ?_
  refine awp_seq ?_
  refine awp_region ?_
  refine al_d rfl rfl rfl (by exact opd_assign rfl rfl) ?_
  refine al_nil ?_
  refine awp_seq ?_
  refine awp_region ?_
  refine al_d rfl rfl rfl (by exact opr_call rfl rfl Try.call21 rfl (head_c _)) ?_
  refine al_d rfl rfl rfl (by exact opd_assign rfl rfl) ?_
  refine al_nil ?_
  refine awp_seq ?_
  refine awp_seq ?_
  refine awp_region ?_
  refine al_d rfl rfl rfl (by exact opd_move rfl rfl) ?_
  refine al_d rfl rfl rfl (by exact opr_call rfl rfl Try.call22 rfl (ok_c l _ (by omega))) ?_
  refine al_d rfl rfl rfl (by exact opd_not rfl rfl) ?_
  refine al_nil ?_
  refine awp_cond rfl (fun hc1 => ?_) (fun hc1 => ?_)
  -- cond 1
  · skip
    refine awp_seq ?_
    refine awp_region ?_
    refine al_d rfl rfl rfl (by exact opd_move rfl rfl) ?_
    refine al_d rfl rfl rfl (by exact opd_assign rfl rfl) ?_
    refine al_nil ?_
    refine awp_ret ?_
    -- return
    refine aret1 (H' := []) (by first | exact .inr rfl | exact .inl rfl) rfl (rval_tmp rfl) (Fin.wk (by simp) trivial trivial) ?_
    exact ⟨rfl, rfl⟩
  · have hkl : gOk l = true := by
      have h : (!gOk l) = false := hc1
      simpa using h
    have hkl := (gOk_len hkl).1
    obtain ⟨s0, hs0, hi0, hnew⟩ := new_any n hn1 hn2
    have hnew0 := new_c n hn1 (show n ≤ 8000 by omega)
    rw [← hs0] at hnew0
    clear hs0
    refine awp_skip ?_
    refine awp_seq ?_
    refine awp_region ?_
    refine al_d rfl rfl rfl (by exact opd_move rfl rfl) ?_
    refine al_d rfl rfl rfl (by exact opr_call rfl rfl Try.call24 rfl (hsz _)) ?_
    refine al_d rfl rfl rfl (by exact opd_assign rfl rfl) ?_
    refine al_nil ?_
    refine awp_seq ?_
    refine awp_region ?_
    refine al_d rfl rfl rfl (by exact opd_move rfl rfl) ?_
    refine al_d rfl rfl rfl (by exact opr_call rfl rfl Try.call23 rfl (hnew _ rfl rfl rfl rfl)) ?_
    refine al_d rfl rfl rfl (by exact opd_assign rfl rfl) ?_
    refine al_nil ?_
    refine awp_seq ?_
    refine awp_region ?_
    refine al_d rfl rfl rfl (by exact opd_move rfl rfl) ?_
    refine al_d rfl rfl rfl (by exact opr_call rfl rfl Try.call23 rfl (new2_c hnew0 _ rfl rfl rfl rfl)) ?_
    refine al_d rfl rfl rfl (by exact opd_assign rfl rfl) ?_
    refine al_nil ?_
    refine awp_seq ?_
    refine awp_seq ?_
    refine awp_region ?_
    refine al_d rfl rfl rfl (by exact opd_assign rfl rfl) ?_
    refine al_nil ?_
    refine awp_block ?_
    -- loop
    refine awp_loop (σ := Nat) (fun i => ([(1, .pv (slActs l)), (2, iv bytes), (3, iv more), (9, bv true), (10, iv (n : Int)), (11, .ref 1000 0 0 0), (12, .ref 2000 0 0 0), (13, iv (i : Int))], diskH (runAll s0 (l.take i)) ++ diskH2 (runAll s0 (l.take i)))) (fun i => i ≤ l.length) (fun i => l.length - i) 0 (by omega) ?_ ?_
    · exact (Ent.wk ⟨⟨_, rfl, rfl⟩, (by first | (simp; done) | (simp; rfl) | exact clo_map _ _ _ | exact clo_brows _ _ | exact disk_clo _ _ rfl rfl rfl | exact disk2_clo _ _ rfl rfl rfl | exact arm_clo _ _ | exact clo_bools _ _ | (simp; exact ⟨rfl, rfl⟩) | (simp; exact ⟨rfl, rfl, rfl⟩)), ⟨_, rfl, rfl⟩, (by first | (simp; done) | (simp; rfl) | exact clo_map _ _ _ | exact clo_brows _ _ | exact disk_clo _ _ rfl rfl rfl | exact disk2_clo _ _ rfl rfl rfl | exact arm_clo _ _ | exact clo_bools _ _ | (simp; exact ⟨rfl, rfl⟩) | (simp; exact ⟨rfl, rfl, rfl⟩)), ⟨_, rfl, rfl⟩, (by first | (simp; done) | (simp; rfl) | exact clo_map _ _ _ | exact clo_brows _ _ | exact disk_clo _ _ rfl rfl rfl | exact disk2_clo _ _ rfl rfl rfl | exact arm_clo _ _ | exact clo_bools _ _ | (simp; exact ⟨rfl, rfl⟩) | (simp; exact ⟨rfl, rfl, rfl⟩)), ⟨_, rfl, rfl⟩, (by first | (simp; done) | (simp; rfl) | exact clo_map _ _ _ | exact clo_brows _ _ | exact disk_clo _ _ rfl rfl rfl | exact disk2_clo _ _ rfl rfl rfl | exact arm_clo _ _ | exact clo_bools _ _ | (simp; exact ⟨rfl, rfl⟩) | (simp; exact ⟨rfl, rfl, rfl⟩)), ⟨_, rfl, rfl⟩, (by first | (simp; done) | (simp; rfl) | exact clo_map _ _ _ | exact clo_brows _ _ | exact disk_clo _ _ rfl rfl rfl | exact disk2_clo _ _ rfl rfl rfl | exact arm_clo _ _ | exact clo_bools _ _ | (simp; exact ⟨rfl, rfl⟩) | (simp; exact ⟨rfl, rfl, rfl⟩)), ⟨_, rfl, rfl⟩, (by first | (simp; done) | (simp; rfl) | exact clo_map _ _ _ | exact clo_brows _ _ | exact disk_clo _ _ rfl rfl rfl | exact disk2_clo _ _ rfl rfl rfl | exact arm_clo _ _ | exact clo_bools _ _ | (simp; exact ⟨rfl, rfl⟩) | (simp; exact ⟨rfl, rfl, rfl⟩)), ⟨_, rfl, rfl⟩, (by first | (simp; done) | (simp; rfl) | exact clo_map _ _ _ | exact clo_brows _ _ | exact disk_clo _ _ rfl rfl rfl | exact disk2_clo _ _ rfl rfl rfl | exact arm_clo _ _ | exact clo_bools _ _ | (simp; exact ⟨rfl, rfl⟩) | (simp; exact ⟨rfl, rfl, rfl⟩)), ⟨_, rfl, rfl⟩, (by first | (simp; done) | (simp; rfl) | exact clo_map _ _ _ | exact clo_brows _ _ | exact disk_clo _ _ rfl rfl rfl | exact disk2_clo _ _ rfl rfl rfl | exact arm_clo _ _ | exact clo_bools _ _ | (simp; exact ⟨rfl, rfl⟩) | (simp; exact ⟨rfl, rfl, rfl⟩)), trivial⟩ ⟨⟨_, rfl, rfl⟩, (by first | (simp; done) | (simp; rfl) | exact clo_map _ _ _ | exact clo_brows _ _ | exact disk_clo _ _ rfl rfl rfl | exact disk2_clo _ _ rfl rfl rfl | exact arm_clo _ _ | exact clo_bools _ _ | (simp; exact ⟨rfl, rfl⟩) | (simp; exact ⟨rfl, rfl, rfl⟩)), ⟨_, rfl, rfl⟩, (by first | (simp; done) | (simp; rfl) | exact clo_map _ _ _ | exact clo_brows _ _ | exact disk_clo _ _ rfl rfl rfl | exact disk2_clo _ _ rfl rfl rfl | exact arm_clo _ _ | exact clo_bools _ _ | (simp; exact ⟨rfl, rfl⟩) | (simp; exact ⟨rfl, rfl, rfl⟩)), ⟨_, rfl, rfl⟩, (by first | (simp; done) | (simp; rfl) | exact clo_map _ _ _ | exact clo_brows _ _ | exact disk_clo _ _ rfl rfl rfl | exact disk2_clo _ _ rfl rfl rfl | exact arm_clo _ _ | exact clo_bools _ _ | (simp; exact ⟨rfl, rfl⟩) | (simp; exact ⟨rfl, rfl, rfl⟩)), ⟨_, rfl, rfl⟩, (by first | (simp; done) | (simp; rfl) | exact clo_map _ _ _ | exact clo_brows _ _ | exact disk_clo _ _ rfl rfl rfl | exact disk2_clo _ _ rfl rfl rfl | exact arm_clo _ _ | exact clo_bools _ _ | (simp; exact ⟨rfl, rfl⟩) | (simp; exact ⟨rfl, rfl, rfl⟩)), ⟨_, rfl, rfl⟩, (by first | (simp; done) | (simp; rfl) | exact clo_map _ _ _ | exact clo_brows _ _ | exact disk_clo _ _ rfl rfl rfl | exact disk2_clo _ _ rfl rfl rfl | exact arm_clo _ _ | exact clo_bools _ _ | (simp; exact ⟨rfl, rfl⟩) | (simp; exact ⟨rfl, rfl, rfl⟩)), ⟨_, rfl, rfl⟩, (by first | (simp; done) | (simp; rfl) | exact clo_map _ _ _ | exact clo_brows _ _ | exact disk_clo _ _ rfl rfl rfl | exact disk2_clo _ _ rfl rfl rfl | exact arm_clo _ _ | exact clo_bools _ _ | (simp; exact ⟨rfl, rfl⟩) | (simp; exact ⟨rfl, rfl, rfl⟩)), ⟨_, rfl, rfl⟩, (by first | (simp; done) | (simp; rfl) | exact clo_map _ _ _ | exact clo_brows _ _ | exact disk_clo _ _ rfl rfl rfl | exact disk2_clo _ _ rfl rfl rfl | exact arm_clo _ _ | exact clo_bools _ _ | (simp; exact ⟨rfl, rfl⟩) | (simp; exact ⟨rfl, rfl, rfl⟩)), ⟨_, rfl, rfl⟩, (by first | (simp; done) | (simp; rfl) | exact clo_map _ _ _ | exact clo_brows _ _ | exact disk_clo _ _ rfl rfl rfl | exact disk2_clo _ _ rfl rfl rfl | exact arm_clo _ _ | exact clo_bools _ _ | (simp; exact ⟨rfl, rfl⟩) | (simp; exact ⟨rfl, rfl, rfl⟩)), trivial⟩ trivial)
    · intro i hi
      have hinv := run_inv hi0 hkl hl.wf hi
      refine awp_seq ?_
      refine awp_seq ?_
      refine awp_region ?_
      refine al_d rfl rfl rfl (by exact opd_move rfl rfl) ?_
      refine al_d rfl rfl rfl (by exact opd_move rfl rfl) ?_
      refine al_d rfl rfl rfl (by exact (by first | exact opd_len_sl rfl Try.underlying44 rfl | exact opd_len_osl rfl Try.underlying44 rfl rfl rfl)) ?_
      refine al_d rfl rfl rfl (by exact opd_lss rfl rfl rfl) ?_
      refine al_nil ?_
      refine awp_cond rfl (fun hc2 => ?_) (fun hc2 => ?_)
      -- cond 2
      · have hlt : i < l.length := by have := of_decide_eq_true hc2; omega
        obtain ⟨a, hai⟩ := get_of_lt hlt
        have hae := map_get (f := encAct) hai
        have hdo := run_do hinv hai (hl.txt a (List.mem_of_getElem? hai))
        refine awp_skip ?_
        refine awp_seq ?_
        refine awp_block ?_
        refine awp_seq ?_
        refine awp_region ?_
        refine al_d rfl rfl rfl (by exact opd_move rfl rfl) ?_
        refine al_d rfl rfl rfl (by exact opd_move rfl rfl) ?_
        refine al_d rfl rfl rfl (by exact opd_move rfl rfl) ?_
        refine al_d rfl rfl rfl (by exact (by first | exact x_index_pad rfl so44 rfl rfl (by omega) (by first | exact Int.toNat_natCast _ | rfl) (by assumption) rfl | exact x_index_osl rfl so44 rfl rfl rfl rfl rfl (by omega) (by first | exact Int.toNat_natCast _ | rfl) (by first | omega | assumption) rfl)) ?_
        refine al_d rfl rfl rfl (by exact (by first | exact opd_loadn_ref rfl Try.isAgg55 Try.sizeOf55 rfl rfl rfl rfl (by simp only [List.drop_succ_cons, List.drop_zero, List.take_succ_cons, List.take_zero, List.take_nil, List.map_cons, List.map_nil, List.set_cons_zero, List.set_cons_succ, List.cons_append, List.nil_append, encQ, armR, dRow, encAct]; rfl) rfl | exact opd_loadn_pad rfl Try.isAgg55 Try.sizeOf55 rfl (by first | omega | assumption) (by simp only [List.drop_succ_cons, List.drop_zero, List.take_succ_cons, List.take_zero, List.take_nil, List.map_cons, List.map_nil, List.set_cons_zero, List.set_cons_succ, List.cons_append, List.nil_append, encQ, armR, dRow, encAct]; rfl) rfl)) ?_
        refine al_d rfl rfl rfl (by exact opr_call rfl rfl Try.call26 rfl (disk_frame hdo _ ⟨rfl, rfl, rfl, rfl, trivial⟩ (by simp [encAct]; rfl))) ?_
        refine al_nil ?_
        refine awp_region ?_
        refine al_d rfl rfl rfl (by exact opd_move rfl rfl) ?_
        refine al_d rfl rfl rfl (by exact opd_move rfl rfl) ?_
        refine al_d rfl rfl rfl (by exact opd_move rfl rfl) ?_
        refine al_d rfl rfl rfl (by exact (by first | exact x_index_pad rfl so44 rfl rfl (by omega) (by first | exact Int.toNat_natCast _ | rfl) (by assumption) rfl | exact x_index_osl rfl so44 rfl rfl rfl rfl rfl (by omega) (by first | exact Int.toNat_natCast _ | rfl) (by first | omega | assumption) rfl)) ?_
        refine al_d rfl rfl rfl (by exact (by first | exact opd_loadn_ref rfl Try.isAgg55 Try.sizeOf55 rfl rfl rfl rfl (by simp only [List.drop_succ_cons, List.drop_zero, List.take_succ_cons, List.take_zero, List.take_nil, List.map_cons, List.map_nil, List.set_cons_zero, List.set_cons_succ, List.cons_append, List.nil_append, encQ, armR, dRow, encAct]; rfl) rfl | exact opd_loadn_pad rfl Try.isAgg55 Try.sizeOf55 rfl (by first | omega | assumption) (by simp only [List.drop_succ_cons, List.drop_zero, List.take_succ_cons, List.take_zero, List.take_nil, List.map_cons, List.map_nil, List.set_cons_zero, List.set_cons_succ, List.cons_append, List.nil_append, encQ, armR, dRow, encAct]; rfl) rfl)) ?_
        refine al_d rfl rfl rfl (by exact opr_call rfl rfl Try.call26 rfl (disk2_frame hdo _ ⟨rfl, rfl, rfl, rfl, trivial⟩ rfl rfl (by simp [encAct]; rfl))) ?_
        refine al_nil ?_
        refine awp_region ?_
        refine al_d rfl rfl rfl (by exact opd_move rfl rfl) ?_
        refine al_d rfl rfl rfl (by exact opd_add rfl rfl rfl (by first | exact w64 (by omega) (by omega) | exact wu8 (by omega) (by omega) | rfl)) ?_
        refine al_d rfl rfl rfl (by exact opd_assign rfl rfl) ?_
        refine al_nil ?_
        -- end of a round
        exact ⟨i + 1, by omega, by omega, (Ent.wk ⟨⟨_, rfl, rfl⟩, (by first | (simp; done) | (simp; rfl) | exact clo_map _ _ _ | exact clo_brows _ _ | exact disk_clo _ _ rfl rfl rfl | exact disk2_clo _ _ rfl rfl rfl | exact arm_clo _ _ | exact clo_bools _ _ | (simp; exact ⟨rfl, rfl⟩) | (simp; exact ⟨rfl, rfl, rfl⟩)), ⟨_, rfl, rfl⟩, (by first | (simp; done) | (simp; rfl) | exact clo_map _ _ _ | exact clo_brows _ _ | exact disk_clo _ _ rfl rfl rfl | exact disk2_clo _ _ rfl rfl rfl | exact arm_clo _ _ | exact clo_bools _ _ | (simp; exact ⟨rfl, rfl⟩) | (simp; exact ⟨rfl, rfl, rfl⟩)), ⟨_, rfl, rfl⟩, (by first | (simp; done) | (simp; rfl) | exact clo_map _ _ _ | exact clo_brows _ _ | exact disk_clo _ _ rfl rfl rfl | exact disk2_clo _ _ rfl rfl rfl | exact arm_clo _ _ | exact clo_bools _ _ | (simp; exact ⟨rfl, rfl⟩) | (simp; exact ⟨rfl, rfl, rfl⟩)), ⟨_, rfl, rfl⟩, (by first | (simp; done) | (simp; rfl) | exact clo_map _ _ _ | exact clo_brows _ _ | exact disk_clo _ _ rfl rfl rfl | exact disk2_clo _ _ rfl rfl rfl | exact arm_clo _ _ | exact clo_bools _ _ | (simp; exact ⟨rfl, rfl⟩) | (simp; exact ⟨rfl, rfl, rfl⟩)), ⟨_, rfl, rfl⟩, (by first | (simp; done) | (simp; rfl) | exact clo_map _ _ _ | exact clo_brows _ _ | exact disk_clo _ _ rfl rfl rfl | exact disk2_clo _ _ rfl rfl rfl | exact arm_clo _ _ | exact clo_bools _ _ | (simp; exact ⟨rfl, rfl⟩) | (simp; exact ⟨rfl, rfl, rfl⟩)), ⟨_, rfl, rfl⟩, (by first | (simp; done) | (simp; rfl) | exact clo_map _ _ _ | exact clo_brows _ _ | exact disk_clo _ _ rfl rfl rfl | exact disk2_clo _ _ rfl rfl rfl | exact arm_clo _ _ | exact clo_bools _ _ | (simp; exact ⟨rfl, rfl⟩) | (simp; exact ⟨rfl, rfl, rfl⟩)), ⟨_, rfl, rfl⟩, (by first | (simp; done) | (simp; rfl) | exact clo_map _ _ _ | exact clo_brows _ _ | exact disk_clo _ _ rfl rfl rfl | exact disk2_clo _ _ rfl rfl rfl | exact arm_clo _ _ | exact clo_bools _ _ | (simp; exact ⟨rfl, rfl⟩) | (simp; exact ⟨rfl, rfl, rfl⟩)), ⟨_, rfl, rfl⟩, (by first | (simp; done) | (simp; rfl) | exact clo_map _ _ _ | exact clo_brows _ _ | exact disk_clo _ _ rfl rfl rfl | exact disk2_clo _ _ rfl rfl rfl | exact arm_clo _ _ | exact clo_bools _ _ | (simp; exact ⟨rfl, rfl⟩) | (simp; exact ⟨rfl, rfl, rfl⟩)), trivial⟩ ⟨⟨_, rfl, rfl⟩, (by first | (simp; done) | (simp; rfl) | exact clo_map _ _ _ | exact clo_brows _ _ | exact disk_clo _ _ rfl rfl rfl | exact disk2_clo _ _ rfl rfl rfl | exact arm_clo _ _ | exact clo_bools _ _ | (simp; exact ⟨rfl, rfl⟩) | (simp; exact ⟨rfl, rfl, rfl⟩)), ⟨_, rfl, rfl⟩, (by first | (simp; done) | (simp; rfl) | exact clo_map _ _ _ | exact clo_brows _ _ | exact disk_clo _ _ rfl rfl rfl | exact disk2_clo _ _ rfl rfl rfl | exact arm_clo _ _ | exact clo_bools _ _ | (simp; exact ⟨rfl, rfl⟩) | (simp; exact ⟨rfl, rfl, rfl⟩)), ⟨_, rfl, rfl⟩, (by first | (simp; done) | (simp; rfl) | exact clo_map _ _ _ | exact clo_brows _ _ | exact disk_clo _ _ rfl rfl rfl | exact disk2_clo _ _ rfl rfl rfl | exact arm_clo _ _ | exact clo_bools _ _ | (simp; exact ⟨rfl, rfl⟩) | (simp; exact ⟨rfl, rfl, rfl⟩)), ⟨_, rfl, rfl⟩, (by first | (simp; done) | (simp; rfl) | exact clo_map _ _ _ | exact clo_brows _ _ | exact disk_clo _ _ rfl rfl rfl | exact disk2_clo _ _ rfl rfl rfl | exact arm_clo _ _ | exact clo_bools _ _ | (simp; exact ⟨rfl, rfl⟩) | (simp; exact ⟨rfl, rfl, rfl⟩)), ⟨_, rfl, rfl⟩, (by first | (simp; done) | (simp; rfl) | exact clo_map _ _ _ | exact clo_brows _ _ | exact disk_clo _ _ rfl rfl rfl | exact disk2_clo _ _ rfl rfl rfl | exact arm_clo _ _ | exact clo_bools _ _ | (simp; exact ⟨rfl, rfl⟩) | (simp; exact ⟨rfl, rfl, rfl⟩)), ⟨_, rfl, rfl⟩, (by first | (simp; done) | (simp; rfl) | exact clo_map _ _ _ | exact clo_brows _ _ | exact disk_clo _ _ rfl rfl rfl | exact disk2_clo _ _ rfl rfl rfl | exact arm_clo _ _ | exact clo_bools _ _ | (simp; exact ⟨rfl, rfl⟩) | (simp; exact ⟨rfl, rfl, rfl⟩)), ⟨_, rfl, rfl⟩, (by first | (simp; done) | (simp; rfl) | exact clo_map _ _ _ | exact clo_brows _ _ | exact disk_clo _ _ rfl rfl rfl | exact disk2_clo _ _ rfl rfl rfl | exact arm_clo _ _ | exact clo_bools _ _ | (simp; exact ⟨rfl, rfl⟩) | (simp; exact ⟨rfl, rfl, rfl⟩)), ⟨_, rfl, rfl⟩, (by first | (simp; done) | (simp; rfl) | exact clo_map _ _ _ | exact clo_brows _ _ | exact disk_clo _ _ rfl rfl rfl | exact disk2_clo _ _ rfl rfl rfl | exact arm_clo _ _ | exact clo_bools _ _ | (simp; exact ⟨rfl, rfl⟩) | (simp; exact ⟨rfl, rfl, rfl⟩)), trivial⟩ trivial)⟩
      · have hge : i = l.length := by have : ¬ _ := of_decide_eq_false hc2; omega
        subst hge
        rw [List.take_length] at hinv ⊢
        obtain ⟨s1, hs1⟩ : ∃ s, s = runAll s0 l := ⟨_, rfl⟩
        rw [← hs1] at hinv ⊢
        clear hs1
        have hi2 := inv_start hinv
        have hca := calm_start s1
        have hst1 := start_c s1
        obtain ⟨s2, hs2⟩ : ∃ s, s = dStart s1 := ⟨_, rfl⟩
        rw [← hs2] at hi2 hca hst1
        clear hs2
        have hf1 := fail_c s2 60 bytes hi2.ok
        have hof := fail_off hca.1 60 bytes
        have hia := inv_fail hi2 60 bytes
        have hf2 := fail_c _ more bytes hia.ok
        rw [fail_again hof] at hf2
        obtain ⟨ca, qa⟩ := fail_cells hca.1 60 bytes
        rw [failC_all s2 bytes hi2.q] at ca
        obtain ⟨q1, q2⟩ := calm_sync hca
        have hi3 := inv_sync hi2
        rw [q1] at hi3
        have hsy := cS hi2 q2 q1
        have hca3 := calm_flush hca
        have hf3 := fail_c _ 0 bytes hi3.ok
        have hib := inv_fail hi3 0 bytes
        obtain ⟨cb, qb⟩ := fail_cells hca3.1 0 bytes
        rw [failC_none _ 0 bytes rfl] at cb
        have hia2 := inv_start (inv_start hia)
        have hib2 := inv_start hib
        have co1 := contents_c _ n hia2.ok rfl (by rw [hia2.n]; omega)
        have co2 := contents_c _ n hib2.ok rfl (by rw [hib2.n]; omega)
        rw [conts_nil (show (dStart (dStart (dFail s2 60 bytes))).q = [] from qa) hia2.n, show (dStart (dStart (dFail s2 60 bytes))).cells = _ from ca] at co1
        rw [conts_nil qb hib2.n, cb, show (dFlush s2).cells = putAll s2.cells s2.q from rfl] at co2
        have hpl : (putAll s2.cells s2.q).length ≤ 1048576 := by rw [putAll_len, hi2.n]; omega
        refine awp_exit ?_
        refine awp_seq ?_
        refine awp_region ?_
        refine al_d rfl rfl rfl (by exact opd_move rfl rfl) ?_
        refine al_d rfl rfl rfl (by exact opr_call rfl rfl Try.call30 rfl (disk_frame hst1 _ ⟨rfl, rfl, rfl, rfl, trivial⟩ (by simp; rfl))) ?_
        refine al_nil ?_
        refine awp_seq ?_
        refine awp_region ?_
        refine al_d rfl rfl rfl (by exact opd_move rfl rfl) ?_
        refine al_d rfl rfl rfl (by exact opr_call rfl rfl Try.call30 rfl (disk2_frame hst1 _ ⟨rfl, rfl, rfl, rfl, trivial⟩ rfl rfl (by simp; rfl))) ?_
        refine al_nil ?_
        refine awp_seq ?_
        refine awp_region ?_
        refine al_d rfl rfl rfl (by exact opd_move rfl rfl) ?_
        refine al_d rfl rfl rfl (by exact opd_move rfl rfl) ?_
        refine al_d rfl rfl rfl (by exact opr_call rfl rfl Try.call35 rfl (disk_frame hf1 _ ⟨rfl, rfl, rfl, rfl, trivial⟩ (by simp; rfl))) ?_
        refine al_nil ?_
        refine awp_seq ?_
        refine awp_region ?_
        refine al_d rfl rfl rfl (by exact opd_move rfl rfl) ?_
        refine al_d rfl rfl rfl (by exact opd_move rfl rfl) ?_
        refine al_d rfl rfl rfl (by exact opd_move rfl rfl) ?_
        refine al_d rfl rfl rfl (by exact opr_call rfl rfl Try.call35 rfl (disk_frame hf2 _ ⟨rfl, rfl, rfl, rfl, trivial⟩ (by simp; rfl))) ?_
        refine al_nil ?_
        refine awp_seq ?_
        refine awp_seq ?_
        refine awp_region ?_
        refine al_d rfl rfl rfl (by exact opd_move rfl rfl) ?_
        refine al_d rfl rfl rfl (by exact opr_call rfl rfl Try.call31 rfl (disk2_frame hsy _ ⟨rfl, rfl, rfl, rfl, trivial⟩ rfl rfl (by simp; rfl))) ?_
        refine al_d rfl rfl rfl (by exact opd_neq rfl rfl rfl) ?_
        refine al_nil ?_
        refine awp_cond rfl (fun hc3 => ?_) (fun hc3 => ?_)
        -- cond 3
        · cases hc3
        · skip
          refine awp_skip ?_
          refine awp_seq ?_
          refine awp_region ?_
          refine al_d rfl rfl rfl (by exact opd_move rfl rfl) ?_
          refine al_d rfl rfl rfl (by exact opd_move rfl rfl) ?_
          refine al_d rfl rfl rfl (by exact opr_call rfl rfl Try.call35 rfl (disk2_frame hf3 _ ⟨rfl, rfl, rfl, rfl, trivial⟩ rfl rfl (by simp; rfl))) ?_
          refine al_nil ?_
          refine awp_seq ?_
          refine awp_region ?_
          refine al_d rfl rfl rfl (by exact opd_move rfl rfl) ?_
          refine al_d rfl rfl rfl (by exact opr_call rfl rfl Try.call30 rfl (disk_frame (start_c _) _ ⟨rfl, rfl, rfl, rfl, trivial⟩ (by simp; rfl))) ?_
          refine al_nil ?_
          refine awp_seq ?_
          refine awp_region ?_
          refine al_d rfl rfl rfl (by exact opd_move rfl rfl) ?_
          refine al_d rfl rfl rfl (by exact opr_call rfl rfl Try.call30 rfl (disk2_frame (start_c _) _ ⟨rfl, rfl, rfl, rfl, trivial⟩ rfl rfl (by simp; rfl))) ?_
          refine al_nil ?_
          refine awp_seq ?_
          refine awp_region ?_
          refine al_d rfl rfl rfl (by exact opd_move rfl rfl) ?_
          refine al_d rfl rfl rfl (by exact opr_call rfl rfl Try.call30 rfl (disk_frame (start_c _) _ ⟨rfl, rfl, rfl, rfl, trivial⟩ (by simp; rfl))) ?_
          refine al_nil ?_
          refine awp_seq ?_
          refine awp_region ?_
          refine al_d rfl rfl rfl (by exact opd_move rfl rfl) ?_
          refine al_d rfl rfl rfl (by exact opd_move rfl rfl) ?_
          refine al_d rfl rfl rfl (by exact opr_call rfl rfl Try.call32 rfl (disk_frame co1 _ ⟨rfl, rfl, rfl, rfl, trivial⟩ (by simp; rfl))) ?_
          refine al_d rfl rfl rfl (by exact opd_move rfl rfl) ?_
          refine al_d rfl rfl rfl (by exact opd_extract rfl rfl rfl) ?_
          refine al_d rfl rfl rfl (by exact opd_extract rfl rfl rfl) ?_
          refine al_d rfl rfl rfl (by exact opd_assign rfl rfl) ?_
          refine al_d rfl rfl rfl (by exact opd_assign rfl rfl) ?_
          refine al_nil ?_
          refine awp_seq ?_
          refine awp_region ?_
          refine al_d rfl rfl rfl (by exact opd_move rfl rfl) ?_
          refine al_d rfl rfl rfl (by exact opd_move rfl rfl) ?_
          refine al_d rfl rfl rfl (by exact opr_call rfl rfl Try.call32 rfl (disk2_frame co2 _ ⟨rfl, rfl, rfl, rfl, trivial⟩ rfl rfl (by simp; rfl))) ?_
          refine al_d rfl rfl rfl (by exact opd_move rfl rfl) ?_
          refine al_d rfl rfl rfl (by exact opd_extract rfl rfl rfl) ?_
          refine al_d rfl rfl rfl (by exact opd_extract rfl rfl rfl) ?_
          refine al_d rfl rfl rfl (by exact opd_assign rfl rfl) ?_
          refine al_d rfl rfl rfl (by exact opd_assign rfl rfl) ?_
          refine al_nil ?_
          refine awp_seq ?_
          refine awp_region ?_
          refine al_d rfl rfl rfl (by exact opd_move rfl rfl) ?_
          refine al_d rfl rfl rfl (by exact opd_move rfl rfl) ?_
          refine al_ond rfl rfl rfl (by first | rfl | assumption) rfl rfl (by exact opd_move rfl rfl) ?_
          refine al_d rfl rfl rfl (by exact (by first | exact opd_pick_t rfl rfl rfl | exact opd_pick_f rfl rfl rfl | exact opd_pickt rfl rfl (by assumption) rfl | exact opd_pickf rfl rfl (by assumption) rfl | exact opd_pick rfl rfl rfl)) ?_
          refine al_d rfl rfl rfl (by exact opd_move rfl rfl) ?_
          refine al_ond rfl rfl rfl (by first | rfl | assumption) rfl rfl (by exact opd_move rfl rfl) ?_
          refine al_d rfl rfl rfl (by exact (by first | exact opd_pick_t rfl rfl rfl | exact opd_pick_f rfl rfl rfl | exact opd_pickt rfl rfl (by assumption) rfl | exact opd_pickf rfl rfl (by assumption) rfl | exact opd_pick rfl rfl rfl)) ?_
          refine al_d rfl rfl rfl (by exact opd_move rfl rfl) ?_
          refine al_ond rfl rfl rfl (by first | rfl | assumption) rfl rfl (by exact opd_move rfl rfl) ?_
          refine al_ond rfl rfl rfl (by first | rfl | assumption) rfl rfl (by exact opd_move rfl rfl) ?_
          refine al_ond rfl rfl rfl (by first | rfl | assumption) rfl rfl (by exact opr_call rfl rfl Try.call37 rfl (same_self _ _ hpl)) ?_
          refine al_d rfl rfl rfl (by exact (by first | exact opd_pick_t rfl rfl rfl | exact opd_pick_f rfl rfl rfl | exact opd_pickt rfl rfl (by assumption) rfl | exact opd_pickf rfl rfl (by assumption) rfl | exact opd_pick rfl rfl rfl)) ?_
          refine al_d rfl rfl rfl (by exact opd_assign rfl rfl) ?_
          refine al_nil ?_
          refine awp_ret ?_
          -- return
          refine aret1 (H' := []) (by first | exact .inr rfl | exact .inl rfl) rfl (rval_tmp rfl) (Fin.wk (by simp) trivial trivial) ?_
          exact ⟨rfl, rfl⟩
end Go.Proofs.Ytljocbkebhgkoaa
