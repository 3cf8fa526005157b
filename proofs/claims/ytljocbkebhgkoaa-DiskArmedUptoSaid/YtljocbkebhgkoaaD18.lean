/-
  CONTRACT: planispherelaw46.DiskArmed answers true. Conditions: the arguments' sizes.
-/
import Derived.Test.YtljocbkebhgkoaaD17
set_option linter.unusedVariables false
set_option linter.unusedSimpArgs false
set_option maxRecDepth 100000
namespace Go.Abs
section
variable {P : Program} {N : Nat} {o : Oper} {E : Env} {H : Heap} {t t' : TypeId} {x y : Operand} {k : IntKind} {n m : Int} {b : Bool}
theorem opd_eqlB (ho : o.op = .binOp .eql t x y t') (hx : aeval E x = some (.pv (.int k n))) (hy : aeval E y = some (.pv (.int k m))) (hb : decide (n = m) = b) : OpD P N o E H (.pv (.bool b)) H := by
  rw [← hb]; exact opd_eql ho hx hy
theorem opd_lssB (ho : o.op = .binOp .lss t x y t') (hx : aeval E x = some (.pv (.int k n))) (hy : aeval E y = some (.pv (.int k m))) (hb : decide (n < m) = b) : OpD P N o E H (.pv (.bool b)) H := by
  rw [← hb]; exact opd_lss ho hx hy
theorem opd_gtrB (ho : o.op = .binOp .gtr t x y t') (hx : aeval E x = some (.pv (.int k n))) (hy : aeval E y = some (.pv (.int k m))) (hb : decide (m < n) = b) : OpD P N o E H (.pv (.bool b)) H := by
  rw [← hb]; exact opd_gtr ho hx hy
end
end Go.Abs
namespace Go.Proofs.Ytljocbkebhgkoaa
open Go.Abs

/-- Two disks of the same contents and pending writes. -/
structure Sim (sa sb : DSt) (n m : Nat) : Prop where
  ia : DInv sa n m
  ib : DInv sb n m
  cells : sa.cells = sb.cells
  q : sa.q = sb.q
theorem failC_congr {s s' : DSt} (h1 : s.cells = s'.cells) (h2 : s.q = s'.q) (w b : Int) : failC s w b = failC s' w b := by
  unfold failC failN; rw [h1, h2]
theorem sim_fail {sa sb : DSt} {n m : Nat} (h : Sim sa sb n m) (ha : sa.off = false) (hb : sb.off = false) (w b : Int) : Sim (dFail sa w b) (dFail sb w b) n m := by
  have e1 : dFail sa w b = { sa with cells := failC sa w b, q := [], off := true, arm := disarm sa.arm, gq := sa.gq + 1 } := by simp [dFail, ha]
  have e2 : dFail sb w b = { sb with cells := failC sb w b, q := [], off := true, arm := disarm sb.arm, gq := sb.gq + 1 } := by simp [dFail, hb]
  refine ⟨inv_fail h.ia w b, inv_fail h.ib w b, ?_, ?_⟩
  · rw [e1, e2]; exact failC_congr h.cells h.q w b
  · rw [e1, e2]
theorem tail_facts {sa sb : DSt} {n m : Nat} (h : Sim sa sb n m) :
    ACalls Try.prog 32 [.ref 1000 0 0 0, iv (n : Int)] (diskH (dStart sa)) (fun r H' => r = .tup [.pv (slStrs (dConts (dStart sb) n)), bv true] ∧ H' = diskH (dStart sa)) ∧
    ACalls Try.prog 32 [.ref 1000 0 0 0, iv (n : Int)] (diskH (dStart sb)) (fun r H' => r = .tup [.pv (slStrs (dConts (dStart sb) n)), bv true] ∧ H' = diskH (dStart sb)) ∧ (dConts (dStart sb) n).length ≤ 1048576 := by
  have i1 := inv_start h.ia
  have i2 := inv_start h.ib
  have e : dConts (dStart sa) n = dConts (dStart sb) n := by
    rw [conts_put i1.n, conts_put i2.n]
    show putAll sa.cells sa.q = putAll sb.cells sb.q
    rw [h.cells, h.q]
  have c1 := contents_c _ n i1.ok rfl (by rw [i1.n]; omega)
  rw [e] at c1
  have hn := i2.n
  have h2 := i2.ok.n2
  exact ⟨c1, contents_c _ n i2.ok rfl (by rw [i2.n]; omega), by rw [dConts_len]; omega⟩
/-- How the armed disk goes on. -/
structure ArmI (sa sb : DSt) (n m : Nat) (after left w b : Int) : Prop where
  sim : Sim sa sb n m
  on : sa.off = false
  calm : Calm sb
  arm : (after < 0 ∧ left = after ∧ ∀ x w b, ¬ sa.arm = .on x w b) ∨ (0 ≤ after ∧ 0 ≤ left ∧ left ≤ after ∧ sa.arm = .on left w b)
theorem on_no {s : DSt} (h : s.off = false) {k : Int} {t : ByteArray} (hg : wGood s k t = false) : dWrite s k t = s ∧ dWriteE s k t = 1 := by
  rw [wGood] at hg
  constructor
  · simp only [dWrite, h, hg, Bool.false_eq_true, if_false]
  · simp only [dWriteE, h, hg, Bool.false_eq_true, if_false]
theorem on_yes {s : DSt} (h : s.off = false) {k : Nat} {t : ByteArray} (hg : wGood s (k : Int) t = true) : dWrite s k t = dCount (wState s k t) ∧ dWriteE s k t = dCountE (wState s k t) := by
  rw [wGood] at hg
  constructor
  · simp only [dWrite, h, hg, Bool.false_eq_true, if_false, if_true, Int.toNat_natCast]
  · simp only [dWriteE, h, hg, Bool.false_eq_true, if_false, if_true, Int.toNat_natCast]
theorem count_on {s : DSt} {a w b : Int} (h : s.arm = .on a w b) (h0 : 0 < a) : dCount s = { s with arm := .on (a - 1) w b } ∧ dCountE s = 0 := by
  constructor
  · simp only [dCount, h, if_pos h0]
  · simp only [dCountE, h, if_pos h0]
theorem count_go {s : DSt} {w b : Int} (h : s.arm = .on 0 w b) : dCount s = dFail s w b ∧ dCountE s = 22 := by
  constructor
  · simp only [dCount, h]; rfl
  · simp only [dCountE, h]; rfl
theorem count_un {s : DSt} (h : ∀ x w b, ¬ s.arm = .on x w b) : dCount s = s ∧ dCountE s = 0 := by
  unfold dCount dCountE
  cases e : s.arm with
  | never => exact ⟨rfl, rfl⟩
  | off a w b => exact ⟨rfl, rfl⟩
  | on a w b => exact absurd e (h a w b)
theorem sync_of {s : DSt} (h : s.off = false) : dSyncE s = dCountE s ∧ dSync s = if dCountE s = 0 then dFlush (dCount s) else dCount s := by
  constructor
  · simp only [dSyncE, h, Bool.false_eq_true, if_false]
  · simp only [dSync, h, Bool.false_eq_true, if_false]
theorem wgood_congr {s s' : DSt} (h : s.cells = s'.cells) (k : Int) (t : ByteArray) : wGood s k t = wGood s' k t := by
  unfold wGood secOk; rw [h]
theorem sim_w {sa sb : DSt} {n m k : Nat} {t : ByteArray} (h : Sim sa sb n m) (hm : m < 1048576) (hk : k < sb.cells.length) (ht : t.size = 64) : Sim (wState sa k t) (wState sb k t) n (m + 1) := by
  have qa := h.ia.q
  have qb := h.ib.q
  refine ⟨⟨wState_ok h.ia.ok (by rw [h.cells]; exact hk) ht (by omega), h.ia.arm, h.ia.n, by show (sa.q ++ [_]).length ≤ _; simp; exact qa⟩, ⟨wState_ok h.ib.ok hk ht (by omega), h.ib.arm, h.ib.n, by show (sb.q ++ [_]).length ≤ _; simp; exact qb⟩, h.cells, ?_⟩
  show sa.q ++ [(k, t)] = sb.q ++ [(k, t)]
  rw [h.q]
theorem sim_flush {sa sb : DSt} {n m : Nat} (h : Sim sa sb n m) : Sim (dFlush sa) (dFlush sb) n m :=
  ⟨inv_flush h.ia, inv_flush h.ib, by show putAll sa.cells sa.q = putAll sb.cells sb.q; rw [h.cells, h.q], rfl⟩
theorem sim_mono {sa sb : DSt} {n m m' : Nat} (h : Sim sa sb n m) (hm : m ≤ m') : Sim sa sb n m' := ⟨h.ia.mono hm, h.ib.mono hm, h.cells, h.q⟩
theorem sim_dec {sa sb : DSt} {n m : Nat} {a w b : Int} (h : Sim sa sb n m) (ha : a ≤ 9223372036854775807) : Sim { sa with arm := .on a w b } sb n m :=
  ⟨⟨⟨h.ia.ok.n1, h.ia.ok.n2, h.ia.ok.c, h.ia.ok.q, h.ia.ok.ql⟩, fun a' w' b' e => by cases e; exact ha, h.ia.n, h.ia.q⟩, h.ib, h.cells, h.q⟩
theorem diskArmed_c (raw : Int) (l more : List GAct) (after writes bytes : Int) (H : Heap) (h0 : 0 ≤ raw) (h1 : raw ≤ 255) (hl : szActs 1048576 l) (hm : szActs 1048576 more) (hwa : wfI after) :
    ACalls Try.prog 11 [.pv (.int .u8 raw), .pv (slActs l), .pv (slActs more), iv after, iv writes, iv bytes] H (fun r H' => r = bv true ∧ H' = H) := by
  refine ACalls.pure ?_ (by simp) H
  have hml : (l.map encAct).length = l.length := List.length_map _
  have hmm : (more.map encAct).length = more.length := List.length_map _
  have hl1 := hl.1
  have hm1 := hm.1
  have hab := hwa.bd
  obtain ⟨n, hn⟩ : ∃ n, n = gSize raw := ⟨_, rfl⟩
  have hsz : ∀ H, ACalls Try.prog 24 [.pv (.int .u8 raw)] H (fun r H' => r = iv (n : Nat) ∧ H' = H) := fun H => by rw [hn]; exact size_c raw H h0 h1
  obtain ⟨hn1, hn2⟩ : 1 ≤ n ∧ n ≤ 12 := by rw [hn]; exact gSize_le raw
  clear hn
  refine ACalls.body Try.func11 rfl Try.ntmps11 (Nat.le_of_ble_eq_true rfl) ?_
  refine awp_seq ?_
  refine awp_region ?_
  refine al_d rfl rfl rfl (by exact opd_assign rfl rfl) ?_
  refine al_nil ?_
  refine awp_seq ?_
  refine awp_region ?_
  refine al_d rfl rfl rfl (by exact opr_call rfl rfl Try.call21 rfl (head_c _)) ?_
  refine al_d rfl rfl rfl (by exact opd_assign rfl rfl) ?_
  refine al_nil ?_
  refine awp_seq ?_
  refine awp_seq ?_
  refine awp_bool (t := 36) (n := 9) (X := !gOk l || !gOk more) ?_ ?_
  · all_goals (refine al_d rfl rfl rfl (by exact opd_move rfl rfl) ?_)
    all_goals (refine al_d rfl rfl rfl (by exact opr_call rfl rfl Try.call22 rfl (ok_c l _ (by omega))) ?_)
    all_goals (refine al_d rfl rfl rfl (by exact opd_not rfl rfl) ?_)
    all_goals (refine al_d rfl rfl rfl (by exact opd_move rfl rfl) ?_)
    all_goals (first | refine al_split (t := 32) rfl (fun h32 => ?_) (fun h32 => ?_) | skip)
    all_goals (try contradiction)
    all_goals (first | refine al_off rfl rfl rfl rfl rfl ?_ | refine al_offu rfl rfl rfl rfl ?_ | refine al_ond rfl rfl rfl rfl rfl rfl (by exact opd_move rfl rfl) ?_)
    all_goals (first | refine al_off rfl rfl rfl rfl rfl ?_ | refine al_offu rfl rfl rfl rfl ?_ | refine al_ond rfl rfl rfl rfl rfl rfl (by exact opr_call rfl rfl Try.call22 rfl (ok_c more _ (by omega))) ?_)
    all_goals (first | refine al_off rfl rfl rfl rfl rfl ?_ | refine al_offu rfl rfl rfl rfl ?_ | refine al_ond rfl rfl rfl rfl rfl rfl (by exact opd_not rfl rfl) ?_)
    all_goals (refine al_d rfl rfl rfl (by exact (by first | exact opd_pick_t rfl rfl rfl | exact opd_pick_f rfl rfl rfl | exact opd_pickt rfl rfl (by assumption) rfl | exact opd_pickf rfl rfl (by assumption) rfl | exact opd_pick rfl rfl rfl)) ?_)
    all_goals (refine al_nil ?_)
    all_goals (exact ⟨⟨_, rfl, by first | rfl | (simp only [*, Bool.false_and, Bool.true_and, Bool.and_false, Bool.and_true, Bool.true_or, Bool.false_or, Bool.or_true, Bool.or_false, Bool.not_true, Bool.not_false]; done) | (simp_all; done) | (simp_all; omega)⟩, rfl, rfl, rfl⟩)
  refine awp_cond rfl (fun hc1 => ?_) (fun hc1 => ?_)
  -- cond 1
  · skip
    refine awp_seq ?_
    refine awp_region ?_
    refine al_d rfl rfl rfl (by exact opd_move rfl rfl) ?_
    refine al_d rfl rfl rfl (by exact opd_assign rfl rfl) ?_
    refine al_nil ?_
    refine awp_ret ?_
    -- return
    refine aret1 (H' := []) (by first | exact .inr rfl | exact .inl rfl) rfl (rval_tmp rfl) (Fin.wk (by simp) trivial trivial) ?_
    exact ⟨rfl, rfl⟩
  · obtain ⟨hkl, hkm⟩ : gOk l = true ∧ gOk more = true := by
      revert hc1; cases gOk l <;> cases gOk more <;> simp
    have hkl := (gOk_len hkl).1
    have hkm := (gOk_len hkm).1
    obtain ⟨s0, hs0, hi0, hnew⟩ := new_any n hn1 hn2
    have hnew0 := new_c n hn1 (show n ≤ 8000 by omega)
    rw [← hs0] at hnew0
    clear hs0
    refine awp_skip ?_
    refine awp_seq ?_
    refine awp_region ?_
    refine al_d rfl rfl rfl (by exact opd_move rfl rfl) ?_
    refine al_d rfl rfl rfl (by exact opr_call rfl rfl Try.call24 rfl (hsz _)) ?_
    refine al_d rfl rfl rfl (by exact opd_assign rfl rfl) ?_
    refine al_nil ?_
    refine awp_seq ?_
    refine awp_region ?_
    refine al_d rfl rfl rfl (by exact opd_move rfl rfl) ?_
    refine al_d rfl rfl rfl (by exact opr_call rfl rfl Try.call23 rfl (hnew _ rfl rfl rfl rfl)) ?_
    refine al_d rfl rfl rfl (by exact opd_assign rfl rfl) ?_
    refine al_nil ?_
    refine awp_seq ?_
    refine awp_region ?_
    refine al_d rfl rfl rfl (by exact opd_move rfl rfl) ?_
    refine al_d rfl rfl rfl (by exact opr_call rfl rfl Try.call23 rfl (new2_c hnew0 _ rfl rfl rfl rfl)) ?_
    refine al_d rfl rfl rfl (by exact opd_assign rfl rfl) ?_
    refine al_nil ?_
    refine awp_seq ?_
    refine awp_seq ?_
    refine awp_region ?_
    refine al_d rfl rfl rfl (by exact opd_assign rfl rfl) ?_
    refine al_nil ?_
    refine awp_block ?_
    -- loop
    refine awp_loop (σ := Nat) (fun i => ([(1, .pv (slActs l)), (2, .pv (slActs more)), (3, iv after), (4, iv writes), (5, iv bytes), (13, bv true), (14, iv (n : Int)), (15, .ref 1000 0 0 0), (16, .ref 2000 0 0 0), (17, iv (i : Int))], diskH (runAll s0 (l.take i)) ++ diskH2 (runAll s0 (l.take i)))) (fun i => i ≤ l.length) (fun i => l.length - i) 0 (by omega) ?_ ?_
    · exact (Ent.wk ⟨⟨_, rfl, rfl⟩, (by first | (simp; done) | (simp; rfl) | exact clo_map _ _ _ | exact clo_brows _ _ | exact disk_clo _ _ rfl rfl rfl | exact disk2_clo _ _ rfl rfl rfl | exact arm_clo _ _ | exact arm_clo (.on _ _ _) _ | exact clo_bools _ _ | (simp; exact ⟨rfl, rfl⟩) | (simp; exact ⟨rfl, rfl, rfl⟩)), ⟨_, rfl, rfl⟩, (by first | (simp; done) | (simp; rfl) | exact clo_map _ _ _ | exact clo_brows _ _ | exact disk_clo _ _ rfl rfl rfl | exact disk2_clo _ _ rfl rfl rfl | exact arm_clo _ _ | exact arm_clo (.on _ _ _) _ | exact clo_bools _ _ | (simp; exact ⟨rfl, rfl⟩) | (simp; exact ⟨rfl, rfl, rfl⟩)), ⟨_, rfl, rfl⟩, (by first | (simp; done) | (simp; rfl) | exact clo_map _ _ _ | exact clo_brows _ _ | exact disk_clo _ _ rfl rfl rfl | exact disk2_clo _ _ rfl rfl rfl | exact arm_clo _ _ | exact arm_clo (.on _ _ _) _ | exact clo_bools _ _ | (simp; exact ⟨rfl, rfl⟩) | (simp; exact ⟨rfl, rfl, rfl⟩)), ⟨_, rfl, rfl⟩, (by first | (simp; done) | (simp; rfl) | exact clo_map _ _ _ | exact clo_brows _ _ | exact disk_clo _ _ rfl rfl rfl | exact disk2_clo _ _ rfl rfl rfl | exact arm_clo _ _ | exact arm_clo (.on _ _ _) _ | exact clo_bools _ _ | (simp; exact ⟨rfl, rfl⟩) | (simp; exact ⟨rfl, rfl, rfl⟩)), ⟨_, rfl, rfl⟩, (by first | (simp; done) | (simp; rfl) | exact clo_map _ _ _ | exact clo_brows _ _ | exact disk_clo _ _ rfl rfl rfl | exact disk2_clo _ _ rfl rfl rfl | exact arm_clo _ _ | exact arm_clo (.on _ _ _) _ | exact clo_bools _ _ | (simp; exact ⟨rfl, rfl⟩) | (simp; exact ⟨rfl, rfl, rfl⟩)), ⟨_, rfl, rfl⟩, (by first | (simp; done) | (simp; rfl) | exact clo_map _ _ _ | exact clo_brows _ _ | exact disk_clo _ _ rfl rfl rfl | exact disk2_clo _ _ rfl rfl rfl | exact arm_clo _ _ | exact arm_clo (.on _ _ _) _ | exact clo_bools _ _ | (simp; exact ⟨rfl, rfl⟩) | (simp; exact ⟨rfl, rfl, rfl⟩)), ⟨_, rfl, rfl⟩, (by first | (simp; done) | (simp; rfl) | exact clo_map _ _ _ | exact clo_brows _ _ | exact disk_clo _ _ rfl rfl rfl | exact disk2_clo _ _ rfl rfl rfl | exact arm_clo _ _ | exact arm_clo (.on _ _ _) _ | exact clo_bools _ _ | (simp; exact ⟨rfl, rfl⟩) | (simp; exact ⟨rfl, rfl, rfl⟩)), ⟨_, rfl, rfl⟩, (by first | (simp; done) | (simp; rfl) | exact clo_map _ _ _ | exact clo_brows _ _ | exact disk_clo _ _ rfl rfl rfl | exact disk2_clo _ _ rfl rfl rfl | exact arm_clo _ _ | exact arm_clo (.on _ _ _) _ | exact clo_bools _ _ | (simp; exact ⟨rfl, rfl⟩) | (simp; exact ⟨rfl, rfl, rfl⟩)), ⟨_, rfl, rfl⟩, (by first | (simp; done) | (simp; rfl) | exact clo_map _ _ _ | exact clo_brows _ _ | exact disk_clo _ _ rfl rfl rfl | exact disk2_clo _ _ rfl rfl rfl | exact arm_clo _ _ | exact arm_clo (.on _ _ _) _ | exact clo_bools _ _ | (simp; exact ⟨rfl, rfl⟩) | (simp; exact ⟨rfl, rfl, rfl⟩)), ⟨_, rfl, rfl⟩, (by first | (simp; done) | (simp; rfl) | exact clo_map _ _ _ | exact clo_brows _ _ | exact disk_clo _ _ rfl rfl rfl | exact disk2_clo _ _ rfl rfl rfl | exact arm_clo _ _ | exact arm_clo (.on _ _ _) _ | exact clo_bools _ _ | (simp; exact ⟨rfl, rfl⟩) | (simp; exact ⟨rfl, rfl, rfl⟩)), trivial⟩ ⟨⟨_, rfl, rfl⟩, (by first | (simp; done) | (simp; rfl) | exact clo_map _ _ _ | exact clo_brows _ _ | exact disk_clo _ _ rfl rfl rfl | exact disk2_clo _ _ rfl rfl rfl | exact arm_clo _ _ | exact arm_clo (.on _ _ _) _ | exact clo_bools _ _ | (simp; exact ⟨rfl, rfl⟩) | (simp; exact ⟨rfl, rfl, rfl⟩)), ⟨_, rfl, rfl⟩, (by first | (simp; done) | (simp; rfl) | exact clo_map _ _ _ | exact clo_brows _ _ | exact disk_clo _ _ rfl rfl rfl | exact disk2_clo _ _ rfl rfl rfl | exact arm_clo _ _ | exact arm_clo (.on _ _ _) _ | exact clo_bools _ _ | (simp; exact ⟨rfl, rfl⟩) | (simp; exact ⟨rfl, rfl, rfl⟩)), ⟨_, rfl, rfl⟩, (by first | (simp; done) | (simp; rfl) | exact clo_map _ _ _ | exact clo_brows _ _ | exact disk_clo _ _ rfl rfl rfl | exact disk2_clo _ _ rfl rfl rfl | exact arm_clo _ _ | exact arm_clo (.on _ _ _) _ | exact clo_bools _ _ | (simp; exact ⟨rfl, rfl⟩) | (simp; exact ⟨rfl, rfl, rfl⟩)), ⟨_, rfl, rfl⟩, (by first | (simp; done) | (simp; rfl) | exact clo_map _ _ _ | exact clo_brows _ _ | exact disk_clo _ _ rfl rfl rfl | exact disk2_clo _ _ rfl rfl rfl | exact arm_clo _ _ | exact arm_clo (.on _ _ _) _ | exact clo_bools _ _ | (simp; exact ⟨rfl, rfl⟩) | (simp; exact ⟨rfl, rfl, rfl⟩)), ⟨_, rfl, rfl⟩, (by first | (simp; done) | (simp; rfl) | exact clo_map _ _ _ | exact clo_brows _ _ | exact disk_clo _ _ rfl rfl rfl | exact disk2_clo _ _ rfl rfl rfl | exact arm_clo _ _ | exact arm_clo (.on _ _ _) _ | exact clo_bools _ _ | (simp; exact ⟨rfl, rfl⟩) | (simp; exact ⟨rfl, rfl, rfl⟩)), ⟨_, rfl, rfl⟩, (by first | (simp; done) | (simp; rfl) | exact clo_map _ _ _ | exact clo_brows _ _ | exact disk_clo _ _ rfl rfl rfl | exact disk2_clo _ _ rfl rfl rfl | exact arm_clo _ _ | exact arm_clo (.on _ _ _) _ | exact clo_bools _ _ | (simp; exact ⟨rfl, rfl⟩) | (simp; exact ⟨rfl, rfl, rfl⟩)), ⟨_, rfl, rfl⟩, (by first | (simp; done) | (simp; rfl) | exact clo_map _ _ _ | exact clo_brows _ _ | exact disk_clo _ _ rfl rfl rfl | exact disk2_clo _ _ rfl rfl rfl | exact arm_clo _ _ | exact arm_clo (.on _ _ _) _ | exact clo_bools _ _ | (simp; exact ⟨rfl, rfl⟩) | (simp; exact ⟨rfl, rfl, rfl⟩)), ⟨_, rfl, rfl⟩, (by first | (simp; done) | (simp; rfl) | exact clo_map _ _ _ | exact clo_brows _ _ | exact disk_clo _ _ rfl rfl rfl | exact disk2_clo _ _ rfl rfl rfl | exact arm_clo _ _ | exact arm_clo (.on _ _ _) _ | exact clo_bools _ _ | (simp; exact ⟨rfl, rfl⟩) | (simp; exact ⟨rfl, rfl, rfl⟩)), trivial⟩ trivial)
    · intro i hi
      have hinv := run_inv hi0 hkl hl.wf hi
      refine awp_seq ?_
      refine awp_seq ?_
      refine awp_region ?_
      refine al_d rfl rfl rfl (by exact opd_move rfl rfl) ?_
      refine al_d rfl rfl rfl (by exact opd_move rfl rfl) ?_
      refine al_d rfl rfl rfl (by exact (by first | exact opd_len_sl rfl Try.underlying44 rfl | exact opd_len_osl rfl Try.underlying44 rfl rfl rfl)) ?_
      refine al_d rfl rfl rfl (by exact opd_lss rfl rfl rfl) ?_
      refine al_nil ?_
      refine awp_cond rfl (fun hc2 => ?_) (fun hc2 => ?_)
      -- cond 2
      · have hlt : i < l.length := by have := of_decide_eq_true hc2; omega
        obtain ⟨a, hai⟩ := get_of_lt hlt
        have hae := map_get (f := encAct) hai
        have hdo := run_do hinv hai (hl.txt a (List.mem_of_getElem? hai))
        refine awp_skip ?_
        refine awp_seq ?_
        refine awp_block ?_
        refine awp_seq ?_
        refine awp_region ?_
        refine al_d rfl rfl rfl (by exact opd_move rfl rfl) ?_
        refine al_d rfl rfl rfl (by exact opd_move rfl rfl) ?_
        refine al_d rfl rfl rfl (by exact opd_move rfl rfl) ?_
        refine al_d rfl rfl rfl (by exact (by first | exact x_index_pad rfl so44 rfl rfl (by omega) (by first | exact Int.toNat_natCast _ | rfl) (by assumption) rfl | exact x_index_osl rfl so44 rfl rfl rfl rfl rfl (by omega) (by first | exact Int.toNat_natCast _ | rfl) (by first | omega | assumption) rfl)) ?_
        refine al_d rfl rfl rfl (by exact (by first | exact opd_loadn_ref rfl Try.isAgg55 Try.sizeOf55 rfl rfl rfl rfl (by simp only [List.drop_succ_cons, List.drop_zero, List.take_succ_cons, List.take_zero, List.take_nil, List.map_cons, List.map_nil, List.set_cons_zero, List.set_cons_succ, List.cons_append, List.nil_append, encQ, armR, dRow, encAct]; rfl) rfl | exact opd_loadn_pad rfl Try.isAgg55 Try.sizeOf55 rfl (by first | omega | assumption) (by simp only [List.drop_succ_cons, List.drop_zero, List.take_succ_cons, List.take_zero, List.take_nil, List.map_cons, List.map_nil, List.set_cons_zero, List.set_cons_succ, List.cons_append, List.nil_append, encQ, armR, dRow, encAct]; rfl) rfl)) ?_
        refine al_d rfl rfl rfl (by exact opr_call rfl rfl Try.call26 rfl (disk_frame hdo _ ⟨rfl, rfl, rfl, rfl, trivial⟩ (by simp [encAct]; rfl))) ?_
        refine al_nil ?_
        refine awp_region ?_
        refine al_d rfl rfl rfl (by exact opd_move rfl rfl) ?_
        refine al_d rfl rfl rfl (by exact opd_move rfl rfl) ?_
        refine al_d rfl rfl rfl (by exact opd_move rfl rfl) ?_
        refine al_d rfl rfl rfl (by exact (by first | exact x_index_pad rfl so44 rfl rfl (by omega) (by first | exact Int.toNat_natCast _ | rfl) (by assumption) rfl | exact x_index_osl rfl so44 rfl rfl rfl rfl rfl (by omega) (by first | exact Int.toNat_natCast _ | rfl) (by first | omega | assumption) rfl)) ?_
        refine al_d rfl rfl rfl (by exact (by first | exact opd_loadn_ref rfl Try.isAgg55 Try.sizeOf55 rfl rfl rfl rfl (by simp only [List.drop_succ_cons, List.drop_zero, List.take_succ_cons, List.take_zero, List.take_nil, List.map_cons, List.map_nil, List.set_cons_zero, List.set_cons_succ, List.cons_append, List.nil_append, encQ, armR, dRow, encAct]; rfl) rfl | exact opd_loadn_pad rfl Try.isAgg55 Try.sizeOf55 rfl (by first | omega | assumption) (by simp only [List.drop_succ_cons, List.drop_zero, List.take_succ_cons, List.take_zero, List.take_nil, List.map_cons, List.map_nil, List.set_cons_zero, List.set_cons_succ, List.cons_append, List.nil_append, encQ, armR, dRow, encAct]; rfl) rfl)) ?_
        refine al_d rfl rfl rfl (by exact opr_call rfl rfl Try.call26 rfl (disk2_frame hdo _ ⟨rfl, rfl, rfl, rfl, trivial⟩ rfl rfl (by simp [encAct]; rfl))) ?_
        refine al_nil ?_
        refine awp_region ?_
        refine al_d rfl rfl rfl (by exact opd_move rfl rfl) ?_
        refine al_d rfl rfl rfl (by exact opd_add rfl rfl rfl (by first | exact w64 (by omega) (by omega) | exact wu8 (by omega) (by omega) | rfl)) ?_
        refine al_d rfl rfl rfl (by exact opd_assign rfl rfl) ?_
        refine al_nil ?_
        -- end of a round
        exact ⟨i + 1, by omega, by omega, (Ent.wk ⟨⟨_, rfl, rfl⟩, (by first | (simp; done) | (simp; rfl) | exact clo_map _ _ _ | exact clo_brows _ _ | exact disk_clo _ _ rfl rfl rfl | exact disk2_clo _ _ rfl rfl rfl | exact arm_clo _ _ | exact arm_clo (.on _ _ _) _ | exact clo_bools _ _ | (simp; exact ⟨rfl, rfl⟩) | (simp; exact ⟨rfl, rfl, rfl⟩)), ⟨_, rfl, rfl⟩, (by first | (simp; done) | (simp; rfl) | exact clo_map _ _ _ | exact clo_brows _ _ | exact disk_clo _ _ rfl rfl rfl | exact disk2_clo _ _ rfl rfl rfl | exact arm_clo _ _ | exact arm_clo (.on _ _ _) _ | exact clo_bools _ _ | (simp; exact ⟨rfl, rfl⟩) | (simp; exact ⟨rfl, rfl, rfl⟩)), ⟨_, rfl, rfl⟩, (by first | (simp; done) | (simp; rfl) | exact clo_map _ _ _ | exact clo_brows _ _ | exact disk_clo _ _ rfl rfl rfl | exact disk2_clo _ _ rfl rfl rfl | exact arm_clo _ _ | exact arm_clo (.on _ _ _) _ | exact clo_bools _ _ | (simp; exact ⟨rfl, rfl⟩) | (simp; exact ⟨rfl, rfl, rfl⟩)), ⟨_, rfl, rfl⟩, (by first | (simp; done) | (simp; rfl) | exact clo_map _ _ _ | exact clo_brows _ _ | exact disk_clo _ _ rfl rfl rfl | exact disk2_clo _ _ rfl rfl rfl | exact arm_clo _ _ | exact arm_clo (.on _ _ _) _ | exact clo_bools _ _ | (simp; exact ⟨rfl, rfl⟩) | (simp; exact ⟨rfl, rfl, rfl⟩)), ⟨_, rfl, rfl⟩, (by first | (simp; done) | (simp; rfl) | exact clo_map _ _ _ | exact clo_brows _ _ | exact disk_clo _ _ rfl rfl rfl | exact disk2_clo _ _ rfl rfl rfl | exact arm_clo _ _ | exact arm_clo (.on _ _ _) _ | exact clo_bools _ _ | (simp; exact ⟨rfl, rfl⟩) | (simp; exact ⟨rfl, rfl, rfl⟩)), ⟨_, rfl, rfl⟩, (by first | (simp; done) | (simp; rfl) | exact clo_map _ _ _ | exact clo_brows _ _ | exact disk_clo _ _ rfl rfl rfl | exact disk2_clo _ _ rfl rfl rfl | exact arm_clo _ _ | exact arm_clo (.on _ _ _) _ | exact clo_bools _ _ | (simp; exact ⟨rfl, rfl⟩) | (simp; exact ⟨rfl, rfl, rfl⟩)), ⟨_, rfl, rfl⟩, (by first | (simp; done) | (simp; rfl) | exact clo_map _ _ _ | exact clo_brows _ _ | exact disk_clo _ _ rfl rfl rfl | exact disk2_clo _ _ rfl rfl rfl | exact arm_clo _ _ | exact arm_clo (.on _ _ _) _ | exact clo_bools _ _ | (simp; exact ⟨rfl, rfl⟩) | (simp; exact ⟨rfl, rfl, rfl⟩)), ⟨_, rfl, rfl⟩, (by first | (simp; done) | (simp; rfl) | exact clo_map _ _ _ | exact clo_brows _ _ | exact disk_clo _ _ rfl rfl rfl | exact disk2_clo _ _ rfl rfl rfl | exact arm_clo _ _ | exact arm_clo (.on _ _ _) _ | exact clo_bools _ _ | (simp; exact ⟨rfl, rfl⟩) | (simp; exact ⟨rfl, rfl, rfl⟩)), ⟨_, rfl, rfl⟩, (by first | (simp; done) | (simp; rfl) | exact clo_map _ _ _ | exact clo_brows _ _ | exact disk_clo _ _ rfl rfl rfl | exact disk2_clo _ _ rfl rfl rfl | exact arm_clo _ _ | exact arm_clo (.on _ _ _) _ | exact clo_bools _ _ | (simp; exact ⟨rfl, rfl⟩) | (simp; exact ⟨rfl, rfl, rfl⟩)), ⟨_, rfl, rfl⟩, (by first | (simp; done) | (simp; rfl) | exact clo_map _ _ _ | exact clo_brows _ _ | exact disk_clo _ _ rfl rfl rfl | exact disk2_clo _ _ rfl rfl rfl | exact arm_clo _ _ | exact arm_clo (.on _ _ _) _ | exact clo_bools _ _ | (simp; exact ⟨rfl, rfl⟩) | (simp; exact ⟨rfl, rfl, rfl⟩)), trivial⟩ ⟨⟨_, rfl, rfl⟩, (by first | (simp; done) | (simp; rfl) | exact clo_map _ _ _ | exact clo_brows _ _ | exact disk_clo _ _ rfl rfl rfl | exact disk2_clo _ _ rfl rfl rfl | exact arm_clo _ _ | exact arm_clo (.on _ _ _) _ | exact clo_bools _ _ | (simp; exact ⟨rfl, rfl⟩) | (simp; exact ⟨rfl, rfl, rfl⟩)), ⟨_, rfl, rfl⟩, (by first | (simp; done) | (simp; rfl) | exact clo_map _ _ _ | exact clo_brows _ _ | exact disk_clo _ _ rfl rfl rfl | exact disk2_clo _ _ rfl rfl rfl | exact arm_clo _ _ | exact arm_clo (.on _ _ _) _ | exact clo_bools _ _ | (simp; exact ⟨rfl, rfl⟩) | (simp; exact ⟨rfl, rfl, rfl⟩)), ⟨_, rfl, rfl⟩, (by first | (simp; done) | (simp; rfl) | exact clo_map _ _ _ | exact clo_brows _ _ | exact disk_clo _ _ rfl rfl rfl | exact disk2_clo _ _ rfl rfl rfl | exact arm_clo _ _ | exact arm_clo (.on _ _ _) _ | exact clo_bools _ _ | (simp; exact ⟨rfl, rfl⟩) | (simp; exact ⟨rfl, rfl, rfl⟩)), ⟨_, rfl, rfl⟩, (by first | (simp; done) | (simp; rfl) | exact clo_map _ _ _ | exact clo_brows _ _ | exact disk_clo _ _ rfl rfl rfl | exact disk2_clo _ _ rfl rfl rfl | exact arm_clo _ _ | exact arm_clo (.on _ _ _) _ | exact clo_bools _ _ | (simp; exact ⟨rfl, rfl⟩) | (simp; exact ⟨rfl, rfl, rfl⟩)), ⟨_, rfl, rfl⟩, (by first | (simp; done) | (simp; rfl) | exact clo_map _ _ _ | exact clo_brows _ _ | exact disk_clo _ _ rfl rfl rfl | exact disk2_clo _ _ rfl rfl rfl | exact arm_clo _ _ | exact arm_clo (.on _ _ _) _ | exact clo_bools _ _ | (simp; exact ⟨rfl, rfl⟩) | (simp; exact ⟨rfl, rfl, rfl⟩)), ⟨_, rfl, rfl⟩, (by first | (simp; done) | (simp; rfl) | exact clo_map _ _ _ | exact clo_brows _ _ | exact disk_clo _ _ rfl rfl rfl | exact disk2_clo _ _ rfl rfl rfl | exact arm_clo _ _ | exact arm_clo (.on _ _ _) _ | exact clo_bools _ _ | (simp; exact ⟨rfl, rfl⟩) | (simp; exact ⟨rfl, rfl, rfl⟩)), ⟨_, rfl, rfl⟩, (by first | (simp; done) | (simp; rfl) | exact clo_map _ _ _ | exact clo_brows _ _ | exact disk_clo _ _ rfl rfl rfl | exact disk2_clo _ _ rfl rfl rfl | exact arm_clo _ _ | exact arm_clo (.on _ _ _) _ | exact clo_bools _ _ | (simp; exact ⟨rfl, rfl⟩) | (simp; exact ⟨rfl, rfl, rfl⟩)), ⟨_, rfl, rfl⟩, (by first | (simp; done) | (simp; rfl) | exact clo_map _ _ _ | exact clo_brows _ _ | exact disk_clo _ _ rfl rfl rfl | exact disk2_clo _ _ rfl rfl rfl | exact arm_clo _ _ | exact arm_clo (.on _ _ _) _ | exact clo_bools _ _ | (simp; exact ⟨rfl, rfl⟩) | (simp; exact ⟨rfl, rfl, rfl⟩)), trivial⟩ trivial)⟩
      · have hge : i = l.length := by have : ¬ _ := of_decide_eq_false hc2; omega
        subst hge
        rw [List.take_length] at hinv ⊢
        obtain ⟨s1, hs1⟩ : ∃ s, s = runAll s0 l := ⟨_, rfl⟩
        rw [← hs1] at hinv ⊢
        clear hs1
        have hi2 := inv_start hinv
        have hca := calm_start s1
        have hst1 := start_c s1
        obtain ⟨s2, hs2⟩ : ∃ s, s = dStart s1 := ⟨_, rfl⟩
        rw [← hs2] at hi2 hca hst1
        clear hs2
        have hia := inv_arm hi2 after writes bytes (by omega)
        have harm := arm_c s2 after writes bytes
        have hstart : ArmI (dArm s2 after writes bytes) s2 n 60 after after writes bytes := by
          refine ⟨⟨hia, hi2, ?_, ?_⟩, ?_, hca, ?_⟩ <;> unfold dArm <;> rw [if_neg (by rw [hca.1]; simp)]
          · split <;> rfl
          · split <;> rfl
          · split <;> exact hca.1
          · split
            · next h => exact .inr ⟨h, h, Int.le_refl _, rfl⟩
            · next h => exact .inl ⟨by omega, rfl, fun a w b h => disarm_on h⟩
        obtain ⟨sa0, hsa0⟩ : ∃ s, s = dArm s2 after writes bytes := ⟨_, rfl⟩
        rw [← hsa0] at hstart harm
        clear hsa0 hia
        refine awp_exit ?_
        refine awp_seq ?_
        refine awp_region ?_
        refine al_d rfl rfl rfl (by exact opd_move rfl rfl) ?_
        refine al_d rfl rfl rfl (by exact opr_call rfl rfl Try.call30 rfl (disk_frame hst1 _ ⟨rfl, rfl, rfl, rfl, trivial⟩ (by simp; rfl))) ?_
        refine al_nil ?_
        refine awp_seq ?_
        refine awp_region ?_
        refine al_d rfl rfl rfl (by exact opd_move rfl rfl) ?_
        refine al_d rfl rfl rfl (by exact opr_call rfl rfl Try.call30 rfl (disk2_frame hst1 _ ⟨rfl, rfl, rfl, rfl, trivial⟩ rfl rfl (by simp; rfl))) ?_
        refine al_nil ?_
        refine awp_seq ?_
        refine awp_region ?_
        refine al_d rfl rfl rfl (by exact opd_move rfl rfl) ?_
        refine al_d rfl rfl rfl (by exact opd_move rfl rfl) ?_
        refine al_d rfl rfl rfl (by exact opd_move rfl rfl) ?_
        refine al_d rfl rfl rfl (by exact opd_move rfl rfl) ?_
        refine al_d rfl rfl rfl (by exact opr_call rfl rfl Try.call39 rfl (disk_frame harm _ ⟨rfl, rfl, rfl, rfl, trivial⟩ (by simp; rfl))) ?_
        refine al_nil ?_
        refine awp_seq ?_
        refine awp_region ?_
        refine al_d rfl rfl rfl (by exact opd_move rfl rfl) ?_
        refine al_d rfl rfl rfl (by exact opd_assign rfl rfl) ?_
        refine al_nil ?_
        refine awp_seq ?_
        refine awp_seq ?_
        refine awp_region ?_
        refine al_d rfl rfl rfl (by exact opd_assign rfl rfl) ?_
        refine al_nil ?_
        refine awp_block ?_
        -- loop
        refine awp_loop2 (fun (i : Nat) (st : DSt × DSt × Int) => ([(2, .pv (slActs more)), (3, iv after), (4, iv writes), (5, iv bytes), (13, bv true), (14, iv (n : Int)), (15, .ref 1000 0 0 0), (16, .ref 2000 0 0 0), (18, iv st.2.2), (19, iv (i : Int))], diskH st.1 ++ diskH2 st.2.1))
          (fun i st => i ≤ more.length ∧ ArmI st.1 st.2.1 n (60 + i) after st.2.2 writes bytes) (fun i _ => more.length - i) 0 (sa0, s2, after) ⟨by omega, hstart⟩ ?_ ?_
        · exact (Ent.wk ⟨⟨_, rfl, rfl⟩, (by first | (simp; done) | (simp; rfl) | exact clo_map _ _ _ | exact clo_brows _ _ | exact disk_clo _ _ rfl rfl rfl | exact disk2_clo _ _ rfl rfl rfl | exact arm_clo _ _ | exact arm_clo (.on _ _ _) _ | exact clo_bools _ _ | (simp; exact ⟨rfl, rfl⟩) | (simp; exact ⟨rfl, rfl, rfl⟩)), ⟨_, rfl, rfl⟩, (by first | (simp; done) | (simp; rfl) | exact clo_map _ _ _ | exact clo_brows _ _ | exact disk_clo _ _ rfl rfl rfl | exact disk2_clo _ _ rfl rfl rfl | exact arm_clo _ _ | exact arm_clo (.on _ _ _) _ | exact clo_bools _ _ | (simp; exact ⟨rfl, rfl⟩) | (simp; exact ⟨rfl, rfl, rfl⟩)), ⟨_, rfl, rfl⟩, (by first | (simp; done) | (simp; rfl) | exact clo_map _ _ _ | exact clo_brows _ _ | exact disk_clo _ _ rfl rfl rfl | exact disk2_clo _ _ rfl rfl rfl | exact arm_clo _ _ | exact arm_clo (.on _ _ _) _ | exact clo_bools _ _ | (simp; exact ⟨rfl, rfl⟩) | (simp; exact ⟨rfl, rfl, rfl⟩)), ⟨_, rfl, rfl⟩, (by first | (simp; done) | (simp; rfl) | exact clo_map _ _ _ | exact clo_brows _ _ | exact disk_clo _ _ rfl rfl rfl | exact disk2_clo _ _ rfl rfl rfl | exact arm_clo _ _ | exact arm_clo (.on _ _ _) _ | exact clo_bools _ _ | (simp; exact ⟨rfl, rfl⟩) | (simp; exact ⟨rfl, rfl, rfl⟩)), ⟨_, rfl, rfl⟩, (by first | (simp; done) | (simp; rfl) | exact clo_map _ _ _ | exact clo_brows _ _ | exact disk_clo _ _ rfl rfl rfl | exact disk2_clo _ _ rfl rfl rfl | exact arm_clo _ _ | exact arm_clo (.on _ _ _) _ | exact clo_bools _ _ | (simp; exact ⟨rfl, rfl⟩) | (simp; exact ⟨rfl, rfl, rfl⟩)), ⟨_, rfl, rfl⟩, (by first | (simp; done) | (simp; rfl) | exact clo_map _ _ _ | exact clo_brows _ _ | exact disk_clo _ _ rfl rfl rfl | exact disk2_clo _ _ rfl rfl rfl | exact arm_clo _ _ | exact arm_clo (.on _ _ _) _ | exact clo_bools _ _ | (simp; exact ⟨rfl, rfl⟩) | (simp; exact ⟨rfl, rfl, rfl⟩)), ⟨_, rfl, rfl⟩, (by first | (simp; done) | (simp; rfl) | exact clo_map _ _ _ | exact clo_brows _ _ | exact disk_clo _ _ rfl rfl rfl | exact disk2_clo _ _ rfl rfl rfl | exact arm_clo _ _ | exact arm_clo (.on _ _ _) _ | exact clo_bools _ _ | (simp; exact ⟨rfl, rfl⟩) | (simp; exact ⟨rfl, rfl, rfl⟩)), ⟨_, rfl, rfl⟩, (by first | (simp; done) | (simp; rfl) | exact clo_map _ _ _ | exact clo_brows _ _ | exact disk_clo _ _ rfl rfl rfl | exact disk2_clo _ _ rfl rfl rfl | exact arm_clo _ _ | exact arm_clo (.on _ _ _) _ | exact clo_bools _ _ | (simp; exact ⟨rfl, rfl⟩) | (simp; exact ⟨rfl, rfl, rfl⟩)), ⟨_, rfl, rfl⟩, (by first | (simp; done) | (simp; rfl) | exact clo_map _ _ _ | exact clo_brows _ _ | exact disk_clo _ _ rfl rfl rfl | exact disk2_clo _ _ rfl rfl rfl | exact arm_clo _ _ | exact arm_clo (.on _ _ _) _ | exact clo_bools _ _ | (simp; exact ⟨rfl, rfl⟩) | (simp; exact ⟨rfl, rfl, rfl⟩)), ⟨_, rfl, rfl⟩, (by first | (simp; done) | (simp; rfl) | exact clo_map _ _ _ | exact clo_brows _ _ | exact disk_clo _ _ rfl rfl rfl | exact disk2_clo _ _ rfl rfl rfl | exact arm_clo _ _ | exact arm_clo (.on _ _ _) _ | exact clo_bools _ _ | (simp; exact ⟨rfl, rfl⟩) | (simp; exact ⟨rfl, rfl, rfl⟩)), trivial⟩ ⟨⟨_, rfl, rfl⟩, (by first | (simp; done) | (simp; rfl) | exact clo_map _ _ _ | exact clo_brows _ _ | exact disk_clo _ _ rfl rfl rfl | exact disk2_clo _ _ rfl rfl rfl | exact arm_clo _ _ | exact arm_clo (.on _ _ _) _ | exact clo_bools _ _ | (simp; exact ⟨rfl, rfl⟩) | (simp; exact ⟨rfl, rfl, rfl⟩)), ⟨_, rfl, rfl⟩, (by first | (simp; done) | (simp; rfl) | exact clo_map _ _ _ | exact clo_brows _ _ | exact disk_clo _ _ rfl rfl rfl | exact disk2_clo _ _ rfl rfl rfl | exact arm_clo _ _ | exact arm_clo (.on _ _ _) _ | exact clo_bools _ _ | (simp; exact ⟨rfl, rfl⟩) | (simp; exact ⟨rfl, rfl, rfl⟩)), ⟨_, rfl, rfl⟩, (by first | (simp; done) | (simp; rfl) | exact clo_map _ _ _ | exact clo_brows _ _ | exact disk_clo _ _ rfl rfl rfl | exact disk2_clo _ _ rfl rfl rfl | exact arm_clo _ _ | exact arm_clo (.on _ _ _) _ | exact clo_bools _ _ | (simp; exact ⟨rfl, rfl⟩) | (simp; exact ⟨rfl, rfl, rfl⟩)), ⟨_, rfl, rfl⟩, (by first | (simp; done) | (simp; rfl) | exact clo_map _ _ _ | exact clo_brows _ _ | exact disk_clo _ _ rfl rfl rfl | exact disk2_clo _ _ rfl rfl rfl | exact arm_clo _ _ | exact arm_clo (.on _ _ _) _ | exact clo_bools _ _ | (simp; exact ⟨rfl, rfl⟩) | (simp; exact ⟨rfl, rfl, rfl⟩)), ⟨_, rfl, rfl⟩, (by first | (simp; done) | (simp; rfl) | exact clo_map _ _ _ | exact clo_brows _ _ | exact disk_clo _ _ rfl rfl rfl | exact disk2_clo _ _ rfl rfl rfl | exact arm_clo _ _ | exact arm_clo (.on _ _ _) _ | exact clo_bools _ _ | (simp; exact ⟨rfl, rfl⟩) | (simp; exact ⟨rfl, rfl, rfl⟩)), ⟨_, rfl, rfl⟩, (by first | (simp; done) | (simp; rfl) | exact clo_map _ _ _ | exact clo_brows _ _ | exact disk_clo _ _ rfl rfl rfl | exact disk2_clo _ _ rfl rfl rfl | exact arm_clo _ _ | exact arm_clo (.on _ _ _) _ | exact clo_bools _ _ | (simp; exact ⟨rfl, rfl⟩) | (simp; exact ⟨rfl, rfl, rfl⟩)), ⟨_, rfl, rfl⟩, (by first | (simp; done) | (simp; rfl) | exact clo_map _ _ _ | exact clo_brows _ _ | exact disk_clo _ _ rfl rfl rfl | exact disk2_clo _ _ rfl rfl rfl | exact arm_clo _ _ | exact arm_clo (.on _ _ _) _ | exact clo_bools _ _ | (simp; exact ⟨rfl, rfl⟩) | (simp; exact ⟨rfl, rfl, rfl⟩)), ⟨_, rfl, rfl⟩, (by first | (simp; done) | (simp; rfl) | exact clo_map _ _ _ | exact clo_brows _ _ | exact disk_clo _ _ rfl rfl rfl | exact disk2_clo _ _ rfl rfl rfl | exact arm_clo _ _ | exact arm_clo (.on _ _ _) _ | exact clo_bools _ _ | (simp; exact ⟨rfl, rfl⟩) | (simp; exact ⟨rfl, rfl, rfl⟩)), trivial⟩ trivial)
        · rintro i ⟨sa, sb, left⟩ ⟨hi, hA⟩
          have hA : ArmI sa sb n (60 + i) after left writes bytes := hA
          have hsim := hA.sim
          have hqb := hsim.ib.q
          have hqa := hsim.ia.q
          refine awp_seq ?_
          refine awp_seq ?_
          refine awp_region ?_
          refine al_d rfl rfl rfl (by exact opd_move rfl rfl) ?_
          refine al_d rfl rfl rfl (by exact opd_move rfl rfl) ?_
          refine al_d rfl rfl rfl (by exact (by first | exact opd_len_sl rfl Try.underlying44 rfl | exact opd_len_osl rfl Try.underlying44 rfl rfl rfl)) ?_
          refine al_d rfl rfl rfl (by exact opd_lss rfl rfl rfl) ?_
          refine al_nil ?_
          refine awp_cond rfl (fun hc3 => ?_) (fun hc3 => ?_)
          -- cond 3
          · have hlt : i < more.length := by have := of_decide_eq_true hc3; omega
            obtain ⟨a, hai⟩ := get_of_lt hlt
            have hae := map_get (f := encAct) hai
            have hts := hm.txt a (List.mem_of_getElem? hai)
            by_cases hk : a.kind = 2
            · have hk2 : decide (a.kind = 2) = true := decide_eq_true hk
              obtain ⟨y1, y2⟩ := sync_of hA.on
              obtain ⟨b1, b2⟩ := calm_sync hA.calm
              rcases hA.arm with ⟨g1, g2, g3⟩ | ⟨g1, g2, g3, g4⟩
              · have hz : decide (left = 0) = false := decide_eq_false (by omega)
                have hp : decide (0 < left) = false := decide_eq_false (by omega)
                obtain ⟨u1, u2⟩ := count_un g3
                have e2 : dSyncE sa = 0 := by rw [y1, u2]
                have e1 : dSync sa = dFlush sa := by rw [y2, u2, if_pos rfl, u1]
                have wa := cS hsim.ia e2 e1
                have wb := cS hsim.ib b2 b1
                have hn' : ArmI (dFlush sa) (dFlush sb) n (60 + (i + 1)) after left writes bytes := ⟨sim_mono (sim_flush hsim) (by omega), hA.on, hA.calm, .inl ⟨g1, g2, g3⟩⟩
                refine awp_skip ?_
                refine awp_seq ?_
                refine awp_block ?_
                refine awp_seq ?_
                refine awp_region ?_
                refine al_d rfl rfl rfl (by exact opd_move rfl rfl) ?_
                refine al_d rfl rfl rfl (by exact opd_move rfl rfl) ?_
                refine al_d rfl rfl rfl (by exact (by first | exact x_index_pad rfl so44 rfl rfl (by omega) (by first | exact Int.toNat_natCast _ | rfl) (by assumption) rfl | exact x_index_osl rfl so44 rfl rfl rfl rfl rfl (by omega) (by first | exact Int.toNat_natCast _ | rfl) (by first | omega | assumption) rfl)) ?_
                refine al_d rfl rfl rfl (by exact (by first | exact opd_field_ref rfl fo55_0 rfl rfl rfl rfl | exact opd_field_pad rfl fo55_0 rfl rfl)) ?_
                refine al_d rfl rfl rfl (by exact (by first | exact opd_load1_ref rfl Try.isAgg3 rfl rfl rfl rfl rfl | exact opd_load1_pad rfl Try.isAgg3 rfl (by first | omega | assumption) rfl)) ?_
                refine al_d rfl rfl rfl (by exact opd_eqlB rfl rfl rfl hk2) ?_
                refine al_d rfl rfl rfl (by exact opd_assign rfl rfl) ?_
                refine al_nil ?_
                refine awp_seq ?_
                refine awp_region ?_
                refine al_d rfl rfl rfl (by exact opd_assign rfl rfl) ?_
                refine al_nil ?_
                refine awp_seq ?_
                refine awp_seq ?_
                refine awp_region ?_
                refine al_d rfl rfl rfl (by exact opd_move rfl rfl) ?_
                refine al_d rfl rfl rfl (by exact opd_not rfl rfl) ?_
                refine al_nil ?_
                refine awp_cond rfl (fun hc4 => ?_) (fun hc4 => ?_)
                -- cond 4
                · skip
                  (first | (cases hc4; done) | (revert hc4; simp; done) | (revert hc4; simp_all; done) | (revert hc4; simp_all; omega))
                · skip
                  refine awp_skip ?_
                  refine awp_seq ?_
                  refine awp_region ?_
                  refine al_d rfl rfl rfl (by exact opd_move rfl rfl) ?_
                  refine al_d rfl rfl rfl (by exact opd_eql rfl rfl rfl) ?_
                  refine al_d rfl rfl rfl (by exact opd_move rfl rfl) ?_
                  refine al_ond rfl rfl rfl (by first | rfl | assumption) rfl rfl (by exact opd_move rfl rfl) ?_
                  refine al_ond rfl rfl rfl (by first | rfl | assumption) rfl rfl (by exact opd_eqlB rfl rfl rfl hz) ?_
                  refine al_d rfl rfl rfl (by exact (by first | exact opd_pick_t rfl rfl rfl | exact opd_pick_f rfl rfl rfl | exact opd_pickt rfl rfl (by assumption) rfl | exact opd_pickf rfl rfl (by assumption) rfl | exact opd_pick rfl rfl rfl)) ?_
                  refine al_d rfl rfl rfl (by exact opd_assign rfl rfl) ?_
                  refine al_nil ?_
                  refine awp_seq ?_
                  refine awp_seq ?_
                  refine awp_region ?_
                  refine al_d rfl rfl rfl (by exact opd_move rfl rfl) ?_
                  refine al_nil ?_
                  refine awp_cond rfl (fun hc5 => ?_) (fun hc5 => ?_)
                  -- cond 5
                  · skip
                    (first | (cases hc5; done) | (revert hc5; simp; done) | (revert hc5; simp_all; done) | (revert hc5; simp_all; omega))
                  · skip
                    refine awp_seq ?_
                    refine awp_region ?_
                    refine al_d rfl rfl rfl (by exact opd_move rfl rfl) ?_
                    refine al_nil ?_
                    refine awp_cond rfl (fun hc6 => ?_) (fun hc6 => ?_)
                    -- cond 6
                    · skip
                      refine awp_region ?_
                      refine al_d rfl rfl rfl (by exact opd_move rfl rfl) ?_
                      refine al_d rfl rfl rfl (by exact opr_call rfl rfl Try.call31 rfl (disk2_frame wb _ ⟨rfl, rfl, rfl, rfl, trivial⟩ rfl rfl (by simp; rfl))) ?_
                      refine al_d rfl rfl rfl (by exact opd_assign rfl rfl) ?_
                      refine al_nil ?_
                      refine awp_seq ?_
                      refine awp_region ?_
                      refine al_d rfl rfl rfl (by exact opd_assign rfl rfl) ?_
                      refine al_nil ?_
                      refine awp_seq ?_
                      refine awp_seq ?_
                      refine awp_region ?_
                      refine al_d rfl rfl rfl (by exact opd_move rfl rfl) ?_
                      refine al_nil ?_
                      refine awp_cond rfl (fun hc7 => ?_) (fun hc7 => ?_)
                      -- cond 7
                      · skip
                        refine awp_region ?_
                        refine al_d rfl rfl rfl (by exact opd_move rfl rfl) ?_
                        refine al_d rfl rfl rfl (by exact opr_call rfl rfl Try.call31 rfl (disk_frame wa _ ⟨rfl, rfl, rfl, rfl, trivial⟩ (by simp; rfl))) ?_
                        refine al_d rfl rfl rfl (by exact opd_assign rfl rfl) ?_
                        refine al_nil ?_
                        refine awp_seq ?_
                        refine awp_seq ?_
                        refine awp_region ?_
                        refine al_d rfl rfl rfl (by exact opd_move rfl rfl) ?_
                        refine al_d rfl rfl rfl (by exact opd_move rfl rfl) ?_
                        refine al_d rfl rfl rfl (by exact opd_neq rfl rfl rfl) ?_
                        refine al_nil ?_
                        refine awp_cond rfl (fun hc8 => ?_) (fun hc8 => ?_)
                        -- cond 8
                        · skip
                          (first | (cases hc8; done) | (revert hc8; simp; done) | (revert hc8; simp_all; done) | (revert hc8; simp_all; omega))
                        · skip
                          refine awp_skip ?_
                          refine awp_seq ?_
                          refine awp_seq ?_
                          refine awp_region ?_
                          refine al_d rfl rfl rfl (by exact opd_move rfl rfl) ?_
                          refine al_nil ?_
                          refine awp_cond rfl (fun hc9 => ?_) (fun hc9 => ?_)
                          -- cond 9
                          · skip
                            (first | (cases hc9; done) | (revert hc9; simp; done) | (revert hc9; simp_all; done) | (revert hc9; simp_all; omega))
                          · skip
                            refine awp_skip ?_
                            refine awp_seq ?_
                            refine awp_region ?_
                            refine al_d rfl rfl rfl (by exact opd_move rfl rfl) ?_
                            refine al_d rfl rfl rfl (by exact opd_eql rfl rfl rfl) ?_
                            refine al_d rfl rfl rfl (by exact opd_move rfl rfl) ?_
                            refine al_ond rfl rfl rfl (by first | rfl | assumption) rfl rfl (by exact opd_move rfl rfl) ?_
                            refine al_ond rfl rfl rfl (by first | rfl | assumption) rfl rfl (by exact opd_gtrB rfl rfl rfl hp) ?_
                            refine al_d rfl rfl rfl (by exact (by first | exact opd_pick_t rfl rfl rfl | exact opd_pick_f rfl rfl rfl | exact opd_pickt rfl rfl (by assumption) rfl | exact opd_pickf rfl rfl (by assumption) rfl | exact opd_pick rfl rfl rfl)) ?_
                            refine al_nil ?_
                            refine awp_cond rfl (fun hc10 => ?_) (fun hc10 => ?_)
                            -- cond 10
                            · skip
                              (first | (cases hc10; done) | (revert hc10; simp; done) | (revert hc10; simp_all; done) | (revert hc10; simp_all; omega))
                            · skip
                              refine awp_skip ?_
                              refine awp_region ?_
                              refine al_d rfl rfl rfl (by exact opd_move rfl rfl) ?_
                              refine al_d rfl rfl rfl (by exact opd_add rfl rfl rfl (by first | exact w64 (by omega) (by omega) | exact wu8 (by omega) (by omega) | rfl)) ?_
                              refine al_d rfl rfl rfl (by exact opd_assign rfl rfl) ?_
                              refine al_nil ?_
                              -- end of a round
                              exact ⟨i + 1, (dFlush sa, dFlush sb, left), ⟨by omega, hn'⟩, by omega, (Ent.wk ⟨⟨_, rfl, rfl⟩, (by first | (simp; done) | (simp; rfl) | exact clo_map _ _ _ | exact clo_brows _ _ | exact disk_clo _ _ rfl rfl rfl | exact disk2_clo _ _ rfl rfl rfl | exact arm_clo _ _ | exact arm_clo (.on _ _ _) _ | exact clo_bools _ _ | (simp; exact ⟨rfl, rfl⟩) | (simp; exact ⟨rfl, rfl, rfl⟩)), ⟨_, rfl, rfl⟩, (by first | (simp; done) | (simp; rfl) | exact clo_map _ _ _ | exact clo_brows _ _ | exact disk_clo _ _ rfl rfl rfl | exact disk2_clo _ _ rfl rfl rfl | exact arm_clo _ _ | exact arm_clo (.on _ _ _) _ | exact clo_bools _ _ | (simp; exact ⟨rfl, rfl⟩) | (simp; exact ⟨rfl, rfl, rfl⟩)), ⟨_, rfl, rfl⟩, (by first | (simp; done) | (simp; rfl) | exact clo_map _ _ _ | exact clo_brows _ _ | exact disk_clo _ _ rfl rfl rfl | exact disk2_clo _ _ rfl rfl rfl | exact arm_clo _ _ | exact arm_clo (.on _ _ _) _ | exact clo_bools _ _ | (simp; exact ⟨rfl, rfl⟩) | (simp; exact ⟨rfl, rfl, rfl⟩)), ⟨_, rfl, rfl⟩, (by first | (simp; done) | (simp; rfl) | exact clo_map _ _ _ | exact clo_brows _ _ | exact disk_clo _ _ rfl rfl rfl | exact disk2_clo _ _ rfl rfl rfl | exact arm_clo _ _ | exact arm_clo (.on _ _ _) _ | exact clo_bools _ _ | (simp; exact ⟨rfl, rfl⟩) | (simp; exact ⟨rfl, rfl, rfl⟩)), ⟨_, rfl, rfl⟩, (by first | (simp; done) | (simp; rfl) | exact clo_map _ _ _ | exact clo_brows _ _ | exact disk_clo _ _ rfl rfl rfl | exact disk2_clo _ _ rfl rfl rfl | exact arm_clo _ _ | exact arm_clo (.on _ _ _) _ | exact clo_bools _ _ | (simp; exact ⟨rfl, rfl⟩) | (simp; exact ⟨rfl, rfl, rfl⟩)), ⟨_, rfl, rfl⟩, (by first | (simp; done) | (simp; rfl) | exact clo_map _ _ _ | exact clo_brows _ _ | exact disk_clo _ _ rfl rfl rfl | exact disk2_clo _ _ rfl rfl rfl | exact arm_clo _ _ | exact arm_clo (.on _ _ _) _ | exact clo_bools _ _ | (simp; exact ⟨rfl, rfl⟩) | (simp; exact ⟨rfl, rfl, rfl⟩)), ⟨_, rfl, rfl⟩, (by first | (simp; done) | (simp; rfl) | exact clo_map _ _ _ | exact clo_brows _ _ | exact disk_clo _ _ rfl rfl rfl | exact disk2_clo _ _ rfl rfl rfl | exact arm_clo _ _ | exact arm_clo (.on _ _ _) _ | exact clo_bools _ _ | (simp; exact ⟨rfl, rfl⟩) | (simp; exact ⟨rfl, rfl, rfl⟩)), ⟨_, rfl, rfl⟩, (by first | (simp; done) | (simp; rfl) | exact clo_map _ _ _ | exact clo_brows _ _ | exact disk_clo _ _ rfl rfl rfl | exact disk2_clo _ _ rfl rfl rfl | exact arm_clo _ _ | exact arm_clo (.on _ _ _) _ | exact clo_bools _ _ | (simp; exact ⟨rfl, rfl⟩) | (simp; exact ⟨rfl, rfl, rfl⟩)), ⟨_, rfl, rfl⟩, (by first | (simp; done) | (simp; rfl) | exact clo_map _ _ _ | exact clo_brows _ _ | exact disk_clo _ _ rfl rfl rfl | exact disk2_clo _ _ rfl rfl rfl | exact arm_clo _ _ | exact arm_clo (.on _ _ _) _ | exact clo_bools _ _ | (simp; exact ⟨rfl, rfl⟩) | (simp; exact ⟨rfl, rfl, rfl⟩)), ⟨_, rfl, rfl⟩, (by first | (simp; done) | (simp; rfl) | exact clo_map _ _ _ | exact clo_brows _ _ | exact disk_clo _ _ rfl rfl rfl | exact disk2_clo _ _ rfl rfl rfl | exact arm_clo _ _ | exact arm_clo (.on _ _ _) _ | exact clo_bools _ _ | (simp; exact ⟨rfl, rfl⟩) | (simp; exact ⟨rfl, rfl, rfl⟩)), trivial⟩ ⟨⟨_, rfl, rfl⟩, (by first | (simp; done) | (simp; rfl) | exact clo_map _ _ _ | exact clo_brows _ _ | exact disk_clo _ _ rfl rfl rfl | exact disk2_clo _ _ rfl rfl rfl | exact arm_clo _ _ | exact arm_clo (.on _ _ _) _ | exact clo_bools _ _ | (simp; exact ⟨rfl, rfl⟩) | (simp; exact ⟨rfl, rfl, rfl⟩)), ⟨_, rfl, rfl⟩, (by first | (simp; done) | (simp; rfl) | exact clo_map _ _ _ | exact clo_brows _ _ | exact disk_clo _ _ rfl rfl rfl | exact disk2_clo _ _ rfl rfl rfl | exact arm_clo _ _ | exact arm_clo (.on _ _ _) _ | exact clo_bools _ _ | (simp; exact ⟨rfl, rfl⟩) | (simp; exact ⟨rfl, rfl, rfl⟩)), ⟨_, rfl, rfl⟩, (by first | (simp; done) | (simp; rfl) | exact clo_map _ _ _ | exact clo_brows _ _ | exact disk_clo _ _ rfl rfl rfl | exact disk2_clo _ _ rfl rfl rfl | exact arm_clo _ _ | exact arm_clo (.on _ _ _) _ | exact clo_bools _ _ | (simp; exact ⟨rfl, rfl⟩) | (simp; exact ⟨rfl, rfl, rfl⟩)), ⟨_, rfl, rfl⟩, (by first | (simp; done) | (simp; rfl) | exact clo_map _ _ _ | exact clo_brows _ _ | exact disk_clo _ _ rfl rfl rfl | exact disk2_clo _ _ rfl rfl rfl | exact arm_clo _ _ | exact arm_clo (.on _ _ _) _ | exact clo_bools _ _ | (simp; exact ⟨rfl, rfl⟩) | (simp; exact ⟨rfl, rfl, rfl⟩)), ⟨_, rfl, rfl⟩, (by first | (simp; done) | (simp; rfl) | exact clo_map _ _ _ | exact clo_brows _ _ | exact disk_clo _ _ rfl rfl rfl | exact disk2_clo _ _ rfl rfl rfl | exact arm_clo _ _ | exact arm_clo (.on _ _ _) _ | exact clo_bools _ _ | (simp; exact ⟨rfl, rfl⟩) | (simp; exact ⟨rfl, rfl, rfl⟩)), ⟨_, rfl, rfl⟩, (by first | (simp; done) | (simp; rfl) | exact clo_map _ _ _ | exact clo_brows _ _ | exact disk_clo _ _ rfl rfl rfl | exact disk2_clo _ _ rfl rfl rfl | exact arm_clo _ _ | exact arm_clo (.on _ _ _) _ | exact clo_bools _ _ | (simp; exact ⟨rfl, rfl⟩) | (simp; exact ⟨rfl, rfl, rfl⟩)), ⟨_, rfl, rfl⟩, (by first | (simp; done) | (simp; rfl) | exact clo_map _ _ _ | exact clo_brows _ _ | exact disk_clo _ _ rfl rfl rfl | exact disk2_clo _ _ rfl rfl rfl | exact arm_clo _ _ | exact arm_clo (.on _ _ _) _ | exact clo_bools _ _ | (simp; exact ⟨rfl, rfl⟩) | (simp; exact ⟨rfl, rfl, rfl⟩)), ⟨_, rfl, rfl⟩, (by first | (simp; done) | (simp; rfl) | exact clo_map _ _ _ | exact clo_brows _ _ | exact disk_clo _ _ rfl rfl rfl | exact disk2_clo _ _ rfl rfl rfl | exact arm_clo _ _ | exact arm_clo (.on _ _ _) _ | exact clo_bools _ _ | (simp; exact ⟨rfl, rfl⟩) | (simp; exact ⟨rfl, rfl, rfl⟩)), trivial⟩ trivial)⟩
                      · skip
                        (first | (cases hc7; done) | (revert hc7; simp; done) | (revert hc7; simp_all; done) | (revert hc7; simp_all; omega))
                    · skip
                      (first | (cases hc6; done) | (revert hc6; simp; done) | (revert hc6; simp_all; done) | (revert hc6; simp_all; omega))
              · by_cases hl0 : left = 0
                · subst hl0
                  have hz : decide ((0 : Int) = 0) = true := rfl
                  obtain ⟨u1, u2⟩ := count_go g4
                  have e2 : dSyncE sa = 22 := by rw [y1, u2]
                  have e1 : dSync sa = dFail sa writes bytes := by rw [y2, u2, if_neg (by decide), u1]
                  have wa := cS hsim.ia e2 e1
                  have wb := fail_c sb writes bytes hsim.ib.ok
                  have hs' := sim_fail hsim hA.on hA.calm.1 writes bytes
                  have hng : decide (after < 0) = false := decide_eq_false (by omega)
                  refine awp_skip ?_
                  refine awp_seq ?_
                  refine awp_block ?_
                  refine awp_seq ?_
                  refine awp_region ?_
                  refine al_d rfl rfl rfl (by exact opd_move rfl rfl) ?_
                  refine al_d rfl rfl rfl (by exact opd_move rfl rfl) ?_
                  refine al_d rfl rfl rfl (by exact (by first | exact x_index_pad rfl so44 rfl rfl (by omega) (by first | exact Int.toNat_natCast _ | rfl) (by assumption) rfl | exact x_index_osl rfl so44 rfl rfl rfl rfl rfl (by omega) (by first | exact Int.toNat_natCast _ | rfl) (by first | omega | assumption) rfl)) ?_
                  refine al_d rfl rfl rfl (by exact (by first | exact opd_field_ref rfl fo55_0 rfl rfl rfl rfl | exact opd_field_pad rfl fo55_0 rfl rfl)) ?_
                  refine al_d rfl rfl rfl (by exact (by first | exact opd_load1_ref rfl Try.isAgg3 rfl rfl rfl rfl rfl | exact opd_load1_pad rfl Try.isAgg3 rfl (by first | omega | assumption) rfl)) ?_
                  refine al_d rfl rfl rfl (by exact opd_eqlB rfl rfl rfl hk2) ?_
                  refine al_d rfl rfl rfl (by exact opd_assign rfl rfl) ?_
                  refine al_nil ?_
                  refine awp_seq ?_
                  refine awp_region ?_
                  refine al_d rfl rfl rfl (by exact opd_assign rfl rfl) ?_
                  refine al_nil ?_
                  refine awp_seq ?_
                  refine awp_seq ?_
                  refine awp_region ?_
                  refine al_d rfl rfl rfl (by exact opd_move rfl rfl) ?_
                  refine al_d rfl rfl rfl (by exact opd_not rfl rfl) ?_
                  refine al_nil ?_
                  refine awp_cond rfl (fun hc11 => ?_) (fun hc11 => ?_)
                  -- cond 11
                  · skip
                    (first | (cases hc11; done) | (revert hc11; simp; done) | (revert hc11; simp_all; done) | (revert hc11; simp_all; omega))
                  · skip
                    refine awp_skip ?_
                    refine awp_seq ?_
                    refine awp_region ?_
                    refine al_d rfl rfl rfl (by exact opd_move rfl rfl) ?_
                    refine al_d rfl rfl rfl (by exact opd_eql rfl rfl rfl) ?_
                    refine al_d rfl rfl rfl (by exact opd_move rfl rfl) ?_
                    refine al_ond rfl rfl rfl (by first | rfl | assumption) rfl rfl (by exact opd_move rfl rfl) ?_
                    refine al_ond rfl rfl rfl (by first | rfl | assumption) rfl rfl (by exact opd_eqlB rfl rfl rfl hz) ?_
                    refine al_d rfl rfl rfl (by exact (by first | exact opd_pick_t rfl rfl rfl | exact opd_pick_f rfl rfl rfl | exact opd_pickt rfl rfl (by assumption) rfl | exact opd_pickf rfl rfl (by assumption) rfl | exact opd_pick rfl rfl rfl)) ?_
                    refine al_d rfl rfl rfl (by exact opd_assign rfl rfl) ?_
                    refine al_nil ?_
                    refine awp_seq ?_
                    refine awp_seq ?_
                    refine awp_region ?_
                    refine al_d rfl rfl rfl (by exact opd_move rfl rfl) ?_
                    refine al_nil ?_
                    refine awp_cond rfl (fun hc12 => ?_) (fun hc12 => ?_)
                    -- cond 12
                    · skip
                      refine awp_seq ?_
                      refine awp_region ?_
                      refine al_d rfl rfl rfl (by exact opd_move rfl rfl) ?_
                      refine al_d rfl rfl rfl (by exact opd_move rfl rfl) ?_
                      refine al_d rfl rfl rfl (by exact opd_move rfl rfl) ?_
                      refine al_d rfl rfl rfl (by exact opr_call rfl rfl Try.call35 rfl (disk2_frame wb _ ⟨rfl, rfl, rfl, rfl, trivial⟩ rfl rfl (by simp; rfl))) ?_
                      refine al_nil ?_
                      refine awp_region ?_
                      refine al_d rfl rfl rfl (by exact opd_assign rfl rfl) ?_
                      refine al_nil ?_
                      refine awp_seq ?_
                      refine awp_region ?_
                      refine al_d rfl rfl rfl (by exact opd_assign rfl rfl) ?_
                      refine al_nil ?_
                      refine awp_seq ?_
                      refine awp_seq ?_
                      refine awp_region ?_
                      refine al_d rfl rfl rfl (by exact opd_move rfl rfl) ?_
                      refine al_nil ?_
                      refine awp_cond rfl (fun hc13 => ?_) (fun hc13 => ?_)
                      -- cond 13
                      · skip
                        refine awp_region ?_
                        refine al_d rfl rfl rfl (by exact opd_move rfl rfl) ?_
                        refine al_d rfl rfl rfl (by exact opr_call rfl rfl Try.call31 rfl (disk_frame wa _ ⟨rfl, rfl, rfl, rfl, trivial⟩ (by simp; rfl))) ?_
                        refine al_d rfl rfl rfl (by exact opd_assign rfl rfl) ?_
                        refine al_nil ?_
                        refine awp_seq ?_
                        refine awp_seq ?_
                        refine awp_region ?_
                        refine al_d rfl rfl rfl (by exact opd_move rfl rfl) ?_
                        refine al_d rfl rfl rfl (by exact opd_move rfl rfl) ?_
                        refine al_d rfl rfl rfl (by exact opd_neq rfl rfl rfl) ?_
                        refine al_nil ?_
                        refine awp_cond rfl (fun hc14 => ?_) (fun hc14 => ?_)
                        -- cond 14
                        · skip
                          (first | (cases hc14; done) | (revert hc14; simp; done) | (revert hc14; simp_all; done) | (revert hc14; simp_all; omega))
                        · skip
                          refine awp_skip ?_
                          refine awp_seq ?_
                          refine awp_seq ?_
                          refine awp_region ?_
                          refine al_d rfl rfl rfl (by exact opd_move rfl rfl) ?_
                          refine al_nil ?_
                          refine awp_cond rfl (fun hc15 => ?_) (fun hc15 => ?_)
                          -- cond 15
                          · skip
                            obtain ⟨co1, co2, hcl⟩ := tail_facts hs'
                            refine awp_exit ?_
                            refine awp_seq ?_
                            refine awp_seq ?_
                            refine awp_region ?_
                            refine al_d rfl rfl rfl (by exact opd_move rfl rfl) ?_
                            refine al_d rfl rfl rfl (by exact opd_lssB rfl rfl rfl hng) ?_
                            refine al_d rfl rfl rfl (by exact opd_move rfl rfl) ?_
                            refine al_off rfl rfl rfl (by first | rfl | assumption) rfl ?_
                            refine al_off rfl rfl rfl (by first | rfl | assumption) rfl ?_
                            refine al_off rfl rfl rfl (by first | rfl | assumption) rfl ?_
                            refine al_d rfl rfl rfl (by exact (by first | exact opd_pick_t rfl rfl rfl | exact opd_pick_f rfl rfl rfl | exact opd_pickt rfl rfl (by assumption) rfl | exact opd_pickf rfl rfl (by assumption) rfl | exact opd_pick rfl rfl rfl)) ?_
                            refine al_nil ?_
                            refine awp_cond rfl (fun hc16 => ?_) (fun hc16 => ?_)
                            -- cond 16
                            · skip
                              (first | (cases hc16; done) | (revert hc16; simp; done) | (revert hc16; simp_all; done) | (revert hc16; simp_all; omega))
                            · skip
                              refine awp_skip ?_
                              refine awp_seq ?_
                              refine awp_region ?_
                              refine al_d rfl rfl rfl (by exact opd_move rfl rfl) ?_
                              refine al_d rfl rfl rfl (by exact opr_call rfl rfl Try.call30 rfl (disk_frame (start_c _) _ ⟨rfl, rfl, rfl, rfl, trivial⟩ (by simp; rfl))) ?_
                              refine al_nil ?_
                              refine awp_seq ?_
                              refine awp_region ?_
                              refine al_d rfl rfl rfl (by exact opd_move rfl rfl) ?_
                              refine al_d rfl rfl rfl (by exact opr_call rfl rfl Try.call30 rfl (disk2_frame (start_c _) _ ⟨rfl, rfl, rfl, rfl, trivial⟩ rfl rfl (by simp; rfl))) ?_
                              refine al_nil ?_
                              refine awp_seq ?_
                              refine awp_region ?_
                              refine al_d rfl rfl rfl (by exact opd_move rfl rfl) ?_
                              refine al_d rfl rfl rfl (by exact opd_move rfl rfl) ?_
                              refine al_d rfl rfl rfl (by exact opr_call rfl rfl Try.call32 rfl (disk_frame co1 _ ⟨rfl, rfl, rfl, rfl, trivial⟩ (by simp; rfl))) ?_
                              refine al_d rfl rfl rfl (by exact opd_move rfl rfl) ?_
                              refine al_d rfl rfl rfl (by exact opd_extract rfl rfl rfl) ?_
                              refine al_d rfl rfl rfl (by exact opd_extract rfl rfl rfl) ?_
                              refine al_d rfl rfl rfl (by exact opd_assign rfl rfl) ?_
                              refine al_d rfl rfl rfl (by exact opd_assign rfl rfl) ?_
                              refine al_nil ?_
                              refine awp_seq ?_
                              refine awp_region ?_
                              refine al_d rfl rfl rfl (by exact opd_move rfl rfl) ?_
                              refine al_d rfl rfl rfl (by exact opd_move rfl rfl) ?_
                              refine al_d rfl rfl rfl (by exact opr_call rfl rfl Try.call32 rfl (disk2_frame co2 _ ⟨rfl, rfl, rfl, rfl, trivial⟩ rfl rfl (by simp; rfl))) ?_
                              refine al_d rfl rfl rfl (by exact opd_move rfl rfl) ?_
                              refine al_d rfl rfl rfl (by exact opd_extract rfl rfl rfl) ?_
                              refine al_d rfl rfl rfl (by exact opd_extract rfl rfl rfl) ?_
                              refine al_d rfl rfl rfl (by exact opd_assign rfl rfl) ?_
                              refine al_d rfl rfl rfl (by exact opd_assign rfl rfl) ?_
                              refine al_nil ?_
                              refine awp_seq ?_
                              refine awp_region ?_
                              refine al_d rfl rfl rfl (by exact opd_move rfl rfl) ?_
                              refine al_d rfl rfl rfl (by exact opd_move rfl rfl) ?_
                              refine al_ond rfl rfl rfl (by first | rfl | assumption) rfl rfl (by exact opd_move rfl rfl) ?_
                              refine al_d rfl rfl rfl (by exact (by first | exact opd_pick_t rfl rfl rfl | exact opd_pick_f rfl rfl rfl | exact opd_pickt rfl rfl (by assumption) rfl | exact opd_pickf rfl rfl (by assumption) rfl | exact opd_pick rfl rfl rfl)) ?_
                              refine al_d rfl rfl rfl (by exact opd_move rfl rfl) ?_
                              refine al_ond rfl rfl rfl (by first | rfl | assumption) rfl rfl (by exact opd_move rfl rfl) ?_
                              refine al_d rfl rfl rfl (by exact (by first | exact opd_pick_t rfl rfl rfl | exact opd_pick_f rfl rfl rfl | exact opd_pickt rfl rfl (by assumption) rfl | exact opd_pickf rfl rfl (by assumption) rfl | exact opd_pick rfl rfl rfl)) ?_
                              refine al_d rfl rfl rfl (by exact opd_move rfl rfl) ?_
                              refine al_ond rfl rfl rfl (by first | rfl | assumption) rfl rfl (by exact opd_move rfl rfl) ?_
                              refine al_ond rfl rfl rfl (by first | rfl | assumption) rfl rfl (by exact opd_move rfl rfl) ?_
                              refine al_ond rfl rfl rfl (by first | rfl | assumption) rfl rfl (by exact opr_call rfl rfl Try.call37 rfl (same_self _ _ hcl)) ?_
                              refine al_d rfl rfl rfl (by exact (by first | exact opd_pick_t rfl rfl rfl | exact opd_pick_f rfl rfl rfl | exact opd_pickt rfl rfl (by assumption) rfl | exact opd_pickf rfl rfl (by assumption) rfl | exact opd_pick rfl rfl rfl)) ?_
                              refine al_d rfl rfl rfl (by exact opd_assign rfl rfl) ?_
                              refine al_nil ?_
                              refine awp_ret ?_
                              -- return
                              refine aret1 (H' := []) (by first | exact .inr rfl | exact .inl rfl) rfl (rval_tmp rfl) (Fin.wk (by simp) trivial trivial) ?_
                              exact ⟨rfl, rfl⟩
                          · skip
                            (first | (cases hc15; done) | (revert hc15; simp; done) | (revert hc15; simp_all; done) | (revert hc15; simp_all; omega))
                      · skip
                        (first | (cases hc13; done) | (revert hc13; simp; done) | (revert hc13; simp_all; done) | (revert hc13; simp_all; omega))
                    · skip
                      (first | (cases hc12; done) | (revert hc12; simp; done) | (revert hc12; simp_all; done) | (revert hc12; simp_all; omega))
                · have hz : decide (left = 0) = false := decide_eq_false hl0
                  have hp : decide (0 < left) = true := decide_eq_true (by omega)
                  have hwl : IntKind.i64.wrap (left - 1) = left - 1 := w64 (by omega) (by omega)
                  obtain ⟨u1, u2⟩ := count_on g4 (by omega)
                  have e2 : dSyncE sa = 0 := by rw [y1, u2]
                  have e1 : dSync sa = dFlush { sa with arm := .on (left - 1) writes bytes } := by rw [y2, u2, if_pos rfl, u1]
                  have wa := cS hsim.ia e2 e1
                  have wb := cS hsim.ib b2 b1
                  have hn' : ArmI (dFlush { sa with arm := .on (left - 1) writes bytes }) (dFlush sb) n (60 + (i + 1)) after (left - 1) writes bytes := ⟨sim_mono (sim_flush (sim_dec hsim (by omega))) (by omega), hA.on, hA.calm, .inr ⟨g1, by omega, by omega, rfl⟩⟩
                  refine awp_skip ?_
                  refine awp_seq ?_
                  refine awp_block ?_
                  refine awp_seq ?_
                  refine awp_region ?_
                  refine al_d rfl rfl rfl (by exact opd_move rfl rfl) ?_
                  refine al_d rfl rfl rfl (by exact opd_move rfl rfl) ?_
                  refine al_d rfl rfl rfl (by exact (by first | exact x_index_pad rfl so44 rfl rfl (by omega) (by first | exact Int.toNat_natCast _ | rfl) (by assumption) rfl | exact x_index_osl rfl so44 rfl rfl rfl rfl rfl (by omega) (by first | exact Int.toNat_natCast _ | rfl) (by first | omega | assumption) rfl)) ?_
                  refine al_d rfl rfl rfl (by exact (by first | exact opd_field_ref rfl fo55_0 rfl rfl rfl rfl | exact opd_field_pad rfl fo55_0 rfl rfl)) ?_
                  refine al_d rfl rfl rfl (by exact (by first | exact opd_load1_ref rfl Try.isAgg3 rfl rfl rfl rfl rfl | exact opd_load1_pad rfl Try.isAgg3 rfl (by first | omega | assumption) rfl)) ?_
                  refine al_d rfl rfl rfl (by exact opd_eqlB rfl rfl rfl hk2) ?_
                  refine al_d rfl rfl rfl (by exact opd_assign rfl rfl) ?_
                  refine al_nil ?_
                  refine awp_seq ?_
                  refine awp_region ?_
                  refine al_d rfl rfl rfl (by exact opd_assign rfl rfl) ?_
                  refine al_nil ?_
                  refine awp_seq ?_
                  refine awp_seq ?_
                  refine awp_region ?_
                  refine al_d rfl rfl rfl (by exact opd_move rfl rfl) ?_
                  refine al_d rfl rfl rfl (by exact opd_not rfl rfl) ?_
                  refine al_nil ?_
                  refine awp_cond rfl (fun hc17 => ?_) (fun hc17 => ?_)
                  -- cond 17
                  · skip
                    (first | (cases hc17; done) | (revert hc17; simp; done) | (revert hc17; simp_all; done) | (revert hc17; simp_all; omega))
                  · skip
                    refine awp_skip ?_
                    refine awp_seq ?_
                    refine awp_region ?_
                    refine al_d rfl rfl rfl (by exact opd_move rfl rfl) ?_
                    refine al_d rfl rfl rfl (by exact opd_eql rfl rfl rfl) ?_
                    refine al_d rfl rfl rfl (by exact opd_move rfl rfl) ?_
                    refine al_ond rfl rfl rfl (by first | rfl | assumption) rfl rfl (by exact opd_move rfl rfl) ?_
                    refine al_ond rfl rfl rfl (by first | rfl | assumption) rfl rfl (by exact opd_eqlB rfl rfl rfl hz) ?_
                    refine al_d rfl rfl rfl (by exact (by first | exact opd_pick_t rfl rfl rfl | exact opd_pick_f rfl rfl rfl | exact opd_pickt rfl rfl (by assumption) rfl | exact opd_pickf rfl rfl (by assumption) rfl | exact opd_pick rfl rfl rfl)) ?_
                    refine al_d rfl rfl rfl (by exact opd_assign rfl rfl) ?_
                    refine al_nil ?_
                    refine awp_seq ?_
                    refine awp_seq ?_
                    refine awp_region ?_
                    refine al_d rfl rfl rfl (by exact opd_move rfl rfl) ?_
                    refine al_nil ?_
                    refine awp_cond rfl (fun hc18 => ?_) (fun hc18 => ?_)
                    -- cond 18
                    · skip
                      (first | (cases hc18; done) | (revert hc18; simp; done) | (revert hc18; simp_all; done) | (revert hc18; simp_all; omega))
                    · skip
                      refine awp_seq ?_
                      refine awp_region ?_
                      refine al_d rfl rfl rfl (by exact opd_move rfl rfl) ?_
                      refine al_nil ?_
                      refine awp_cond rfl (fun hc19 => ?_) (fun hc19 => ?_)
                      -- cond 19
                      · skip
                        refine awp_region ?_
                        refine al_d rfl rfl rfl (by exact opd_move rfl rfl) ?_
                        refine al_d rfl rfl rfl (by exact opr_call rfl rfl Try.call31 rfl (disk2_frame wb _ ⟨rfl, rfl, rfl, rfl, trivial⟩ rfl rfl (by simp; rfl))) ?_
                        refine al_d rfl rfl rfl (by exact opd_assign rfl rfl) ?_
                        refine al_nil ?_
                        refine awp_seq ?_
                        refine awp_region ?_
                        refine al_d rfl rfl rfl (by exact opd_assign rfl rfl) ?_
                        refine al_nil ?_
                        refine awp_seq ?_
                        refine awp_seq ?_
                        refine awp_region ?_
                        refine al_d rfl rfl rfl (by exact opd_move rfl rfl) ?_
                        refine al_nil ?_
                        refine awp_cond rfl (fun hc20 => ?_) (fun hc20 => ?_)
                        -- cond 20
                        · skip
                          refine awp_region ?_
                          refine al_d rfl rfl rfl (by exact opd_move rfl rfl) ?_
                          refine al_d rfl rfl rfl (by exact opr_call rfl rfl Try.call31 rfl (disk_frame wa _ ⟨rfl, rfl, rfl, rfl, trivial⟩ (by simp; rfl))) ?_
                          refine al_d rfl rfl rfl (by exact opd_assign rfl rfl) ?_
                          refine al_nil ?_
                          refine awp_seq ?_
                          refine awp_seq ?_
                          refine awp_region ?_
                          refine al_d rfl rfl rfl (by exact opd_move rfl rfl) ?_
                          refine al_d rfl rfl rfl (by exact opd_move rfl rfl) ?_
                          refine al_d rfl rfl rfl (by exact opd_neq rfl rfl rfl) ?_
                          refine al_nil ?_
                          refine awp_cond rfl (fun hc21 => ?_) (fun hc21 => ?_)
                          -- cond 21
                          · skip
                            (first | (cases hc21; done) | (revert hc21; simp; done) | (revert hc21; simp_all; done) | (revert hc21; simp_all; omega))
                          · skip
                            refine awp_skip ?_
                            refine awp_seq ?_
                            refine awp_seq ?_
                            refine awp_region ?_
                            refine al_d rfl rfl rfl (by exact opd_move rfl rfl) ?_
                            refine al_nil ?_
                            refine awp_cond rfl (fun hc22 => ?_) (fun hc22 => ?_)
                            -- cond 22
                            · skip
                              (first | (cases hc22; done) | (revert hc22; simp; done) | (revert hc22; simp_all; done) | (revert hc22; simp_all; omega))
                            · skip
                              refine awp_skip ?_
                              refine awp_seq ?_
                              refine awp_region ?_
                              refine al_d rfl rfl rfl (by exact opd_move rfl rfl) ?_
                              refine al_d rfl rfl rfl (by exact opd_eql rfl rfl rfl) ?_
                              refine al_d rfl rfl rfl (by exact opd_move rfl rfl) ?_
                              refine al_ond rfl rfl rfl (by first | rfl | assumption) rfl rfl (by exact opd_move rfl rfl) ?_
                              refine al_ond rfl rfl rfl (by first | rfl | assumption) rfl rfl (by exact opd_gtrB rfl rfl rfl hp) ?_
                              refine al_d rfl rfl rfl (by exact (by first | exact opd_pick_t rfl rfl rfl | exact opd_pick_f rfl rfl rfl | exact opd_pickt rfl rfl (by assumption) rfl | exact opd_pickf rfl rfl (by assumption) rfl | exact opd_pick rfl rfl rfl)) ?_
                              refine al_nil ?_
                              refine awp_cond rfl (fun hc23 => ?_) (fun hc23 => ?_)
                              -- cond 23
                              · skip
                                refine awp_region ?_
                                refine al_d rfl rfl rfl (by exact opd_move rfl rfl) ?_
                                refine al_d rfl rfl rfl (by exact opd_sub rfl rfl rfl hwl) ?_
                                refine al_d rfl rfl rfl (by exact opd_assign rfl rfl) ?_
                                refine al_nil ?_
                                refine awp_region ?_
                                refine al_d rfl rfl rfl (by exact opd_move rfl rfl) ?_
                                refine al_d rfl rfl rfl (by exact opd_add rfl rfl rfl (by first | exact w64 (by omega) (by omega) | exact wu8 (by omega) (by omega) | rfl)) ?_
                                refine al_d rfl rfl rfl (by exact opd_assign rfl rfl) ?_
                                refine al_nil ?_
                                -- end of a round
                                exact ⟨i + 1, (dFlush { sa with arm := .on (left - 1) writes bytes }, dFlush sb, left - 1), ⟨by omega, hn'⟩, by omega, (Ent.wk ⟨⟨_, rfl, rfl⟩, (by first | (simp; done) | (simp; rfl) | exact clo_map _ _ _ | exact clo_brows _ _ | exact disk_clo _ _ rfl rfl rfl | exact disk2_clo _ _ rfl rfl rfl | exact arm_clo _ _ | exact arm_clo (.on _ _ _) _ | exact clo_bools _ _ | (simp; exact ⟨rfl, rfl⟩) | (simp; exact ⟨rfl, rfl, rfl⟩)), ⟨_, rfl, rfl⟩, (by first | (simp; done) | (simp; rfl) | exact clo_map _ _ _ | exact clo_brows _ _ | exact disk_clo _ _ rfl rfl rfl | exact disk2_clo _ _ rfl rfl rfl | exact arm_clo _ _ | exact arm_clo (.on _ _ _) _ | exact clo_bools _ _ | (simp; exact ⟨rfl, rfl⟩) | (simp; exact ⟨rfl, rfl, rfl⟩)), ⟨_, rfl, rfl⟩, (by first | (simp; done) | (simp; rfl) | exact clo_map _ _ _ | exact clo_brows _ _ | exact disk_clo _ _ rfl rfl rfl | exact disk2_clo _ _ rfl rfl rfl | exact arm_clo _ _ | exact arm_clo (.on _ _ _) _ | exact clo_bools _ _ | (simp; exact ⟨rfl, rfl⟩) | (simp; exact ⟨rfl, rfl, rfl⟩)), ⟨_, rfl, rfl⟩, (by first | (simp; done) | (simp; rfl) | exact clo_map _ _ _ | exact clo_brows _ _ | exact disk_clo _ _ rfl rfl rfl | exact disk2_clo _ _ rfl rfl rfl | exact arm_clo _ _ | exact arm_clo (.on _ _ _) _ | exact clo_bools _ _ | (simp; exact ⟨rfl, rfl⟩) | (simp; exact ⟨rfl, rfl, rfl⟩)), ⟨_, rfl, rfl⟩, (by first | (simp; done) | (simp; rfl) | exact clo_map _ _ _ | exact clo_brows _ _ | exact disk_clo _ _ rfl rfl rfl | exact disk2_clo _ _ rfl rfl rfl | exact arm_clo _ _ | exact arm_clo (.on _ _ _) _ | exact clo_bools _ _ | (simp; exact ⟨rfl, rfl⟩) | (simp; exact ⟨rfl, rfl, rfl⟩)), ⟨_, rfl, rfl⟩, (by first | (simp; done) | (simp; rfl) | exact clo_map _ _ _ | exact clo_brows _ _ | exact disk_clo _ _ rfl rfl rfl | exact disk2_clo _ _ rfl rfl rfl | exact arm_clo _ _ | exact arm_clo (.on _ _ _) _ | exact clo_bools _ _ | (simp; exact ⟨rfl, rfl⟩) | (simp; exact ⟨rfl, rfl, rfl⟩)), ⟨_, rfl, rfl⟩, (by first | (simp; done) | (simp; rfl) | exact clo_map _ _ _ | exact clo_brows _ _ | exact disk_clo _ _ rfl rfl rfl | exact disk2_clo _ _ rfl rfl rfl | exact arm_clo _ _ | exact arm_clo (.on _ _ _) _ | exact clo_bools _ _ | (simp; exact ⟨rfl, rfl⟩) | (simp; exact ⟨rfl, rfl, rfl⟩)), ⟨_, rfl, rfl⟩, (by first | (simp; done) | (simp; rfl) | exact clo_map _ _ _ | exact clo_brows _ _ | exact disk_clo _ _ rfl rfl rfl | exact disk2_clo _ _ rfl rfl rfl | exact arm_clo _ _ | exact arm_clo (.on _ _ _) _ | exact clo_bools _ _ | (simp; exact ⟨rfl, rfl⟩) | (simp; exact ⟨rfl, rfl, rfl⟩)), ⟨_, rfl, rfl⟩, (by first | (simp; done) | (simp; rfl) | exact clo_map _ _ _ | exact clo_brows _ _ | exact disk_clo _ _ rfl rfl rfl | exact disk2_clo _ _ rfl rfl rfl | exact arm_clo _ _ | exact arm_clo (.on _ _ _) _ | exact clo_bools _ _ | (simp; exact ⟨rfl, rfl⟩) | (simp; exact ⟨rfl, rfl, rfl⟩)), ⟨_, rfl, rfl⟩, (by first | (simp; done) | (simp; rfl) | exact clo_map _ _ _ | exact clo_brows _ _ | exact disk_clo _ _ rfl rfl rfl | exact disk2_clo _ _ rfl rfl rfl | exact arm_clo _ _ | exact arm_clo (.on _ _ _) _ | exact clo_bools _ _ | (simp; exact ⟨rfl, rfl⟩) | (simp; exact ⟨rfl, rfl, rfl⟩)), trivial⟩ ⟨⟨_, rfl, rfl⟩, (by first | (simp; done) | (simp; rfl) | exact clo_map _ _ _ | exact clo_brows _ _ | exact disk_clo _ _ rfl rfl rfl | exact disk2_clo _ _ rfl rfl rfl | exact arm_clo _ _ | exact arm_clo (.on _ _ _) _ | exact clo_bools _ _ | (simp; exact ⟨rfl, rfl⟩) | (simp; exact ⟨rfl, rfl, rfl⟩)), ⟨_, rfl, rfl⟩, (by first | (simp; done) | (simp; rfl) | exact clo_map _ _ _ | exact clo_brows _ _ | exact disk_clo _ _ rfl rfl rfl | exact disk2_clo _ _ rfl rfl rfl | exact arm_clo _ _ | exact arm_clo (.on _ _ _) _ | exact clo_bools _ _ | (simp; exact ⟨rfl, rfl⟩) | (simp; exact ⟨rfl, rfl, rfl⟩)), ⟨_, rfl, rfl⟩, (by first | (simp; done) | (simp; rfl) | exact clo_map _ _ _ | exact clo_brows _ _ | exact disk_clo _ _ rfl rfl rfl | exact disk2_clo _ _ rfl rfl rfl | exact arm_clo _ _ | exact arm_clo (.on _ _ _) _ | exact clo_bools _ _ | (simp; exact ⟨rfl, rfl⟩) | (simp; exact ⟨rfl, rfl, rfl⟩)), ⟨_, rfl, rfl⟩, (by first | (simp; done) | (simp; rfl) | exact clo_map _ _ _ | exact clo_brows _ _ | exact disk_clo _ _ rfl rfl rfl | exact disk2_clo _ _ rfl rfl rfl | exact arm_clo _ _ | exact arm_clo (.on _ _ _) _ | exact clo_bools _ _ | (simp; exact ⟨rfl, rfl⟩) | (simp; exact ⟨rfl, rfl, rfl⟩)), ⟨_, rfl, rfl⟩, (by first | (simp; done) | (simp; rfl) | exact clo_map _ _ _ | exact clo_brows _ _ | exact disk_clo _ _ rfl rfl rfl | exact disk2_clo _ _ rfl rfl rfl | exact arm_clo _ _ | exact arm_clo (.on _ _ _) _ | exact clo_bools _ _ | (simp; exact ⟨rfl, rfl⟩) | (simp; exact ⟨rfl, rfl, rfl⟩)), ⟨_, rfl, rfl⟩, (by first | (simp; done) | (simp; rfl) | exact clo_map _ _ _ | exact clo_brows _ _ | exact disk_clo _ _ rfl rfl rfl | exact disk2_clo _ _ rfl rfl rfl | exact arm_clo _ _ | exact arm_clo (.on _ _ _) _ | exact clo_bools _ _ | (simp; exact ⟨rfl, rfl⟩) | (simp; exact ⟨rfl, rfl, rfl⟩)), ⟨_, rfl, rfl⟩, (by first | (simp; done) | (simp; rfl) | exact clo_map _ _ _ | exact clo_brows _ _ | exact disk_clo _ _ rfl rfl rfl | exact disk2_clo _ _ rfl rfl rfl | exact arm_clo _ _ | exact arm_clo (.on _ _ _) _ | exact clo_bools _ _ | (simp; exact ⟨rfl, rfl⟩) | (simp; exact ⟨rfl, rfl, rfl⟩)), ⟨_, rfl, rfl⟩, (by first | (simp; done) | (simp; rfl) | exact clo_map _ _ _ | exact clo_brows _ _ | exact disk_clo _ _ rfl rfl rfl | exact disk2_clo _ _ rfl rfl rfl | exact arm_clo _ _ | exact arm_clo (.on _ _ _) _ | exact clo_bools _ _ | (simp; exact ⟨rfl, rfl⟩) | (simp; exact ⟨rfl, rfl, rfl⟩)), trivial⟩ trivial)⟩
                              · skip
                                (first | (cases hc23; done) | (revert hc23; simp; done) | (revert hc23; simp_all; done) | (revert hc23; simp_all; omega))
                        · skip
                          (first | (cases hc20; done) | (revert hc20; simp; done) | (revert hc20; simp_all; done) | (revert hc20; simp_all; omega))
                      · skip
                        (first | (cases hc19; done) | (revert hc19; simp; done) | (revert hc19; simp_all; done) | (revert hc19; simp_all; omega))
            · have hk2 : decide (a.kind = 2) = false := decide_eq_false hk
              rcases wGood_cases sb a.sector (aText a) with hg | ⟨hg, k, hk3, hkn, hk64⟩
              · have hga : wGood sa a.sector (aText a) = false := by rw [wgood_congr hsim.cells]; exact hg
                obtain ⟨a1, a2⟩ := on_no hA.on hga
                obtain ⟨b1, b2⟩ := calm_no hA.calm hg
                have wa := cW hsim.ia (by omega) a2 a1
                have wb := cW hsim.ib (by omega) b2 b1
                have hn' : ArmI sa sb n (60 + (i + 1)) after left writes bytes := ⟨sim_mono hsim (by omega), hA.on, hA.calm, hA.arm⟩
                refine awp_skip ?_
                refine awp_seq ?_
                refine awp_block ?_
                refine awp_seq ?_
                refine awp_region ?_
                refine al_d rfl rfl rfl (by exact opd_move rfl rfl) ?_
                refine al_d rfl rfl rfl (by exact opd_move rfl rfl) ?_
                refine al_d rfl rfl rfl (by exact (by first | exact x_index_pad rfl so44 rfl rfl (by omega) (by first | exact Int.toNat_natCast _ | rfl) (by assumption) rfl | exact x_index_osl rfl so44 rfl rfl rfl rfl rfl (by omega) (by first | exact Int.toNat_natCast _ | rfl) (by first | omega | assumption) rfl)) ?_
                refine al_d rfl rfl rfl (by exact (by first | exact opd_field_ref rfl fo55_0 rfl rfl rfl rfl | exact opd_field_pad rfl fo55_0 rfl rfl)) ?_
                refine al_d rfl rfl rfl (by exact (by first | exact opd_load1_ref rfl Try.isAgg3 rfl rfl rfl rfl rfl | exact opd_load1_pad rfl Try.isAgg3 rfl (by first | omega | assumption) rfl)) ?_
                refine al_d rfl rfl rfl (by exact opd_eqlB rfl rfl rfl hk2) ?_
                refine al_d rfl rfl rfl (by exact opd_assign rfl rfl) ?_
                refine al_nil ?_
                refine awp_seq ?_
                refine awp_region ?_
                refine al_d rfl rfl rfl (by exact opd_assign rfl rfl) ?_
                refine al_nil ?_
                refine awp_seq ?_
                refine awp_seq ?_
                refine awp_region ?_
                refine al_d rfl rfl rfl (by exact opd_move rfl rfl) ?_
                refine al_d rfl rfl rfl (by exact opd_not rfl rfl) ?_
                refine al_nil ?_
                refine awp_cond rfl (fun hc24 => ?_) (fun hc24 => ?_)
                -- cond 24
                · skip
                  refine awp_drawc follows ?_
                  refine dc_cons (r := ⟨_, some [2000], []⟩) (DStep.plain rfl (fun H1 hH => by exact opd_move rfl rfl)) rfl ?_
                  refine dc_cons (r := ⟨_, some [], []⟩) (DStep.plain rfl (fun H1 hH => by exact opd_move rfl rfl)) rfl ?_
                  refine dc_cons (r := ⟨_, some [], []⟩) (DStep.plain rfl (fun H1 hH => by exact opd_move rfl rfl)) rfl ?_
                  refine dc_cons (r := ⟨_, some [], []⟩) (DStep.plain rfl (fun H1 hH => by exact (by first | exact x_index_pad rfl so44 rfl rfl (by omega) (by first | exact Int.toNat_natCast _ | rfl) (by assumption) rfl | exact x_index_osl rfl so44 rfl ((hH _ rfl).trans rfl) rfl rfl rfl (by omega) (by first | exact Int.toNat_natCast _ | rfl) (by first | omega | assumption) rfl))) rfl ?_
                  refine dc_cons (r := ⟨_, some [], []⟩) (DStep.plain rfl (fun H1 hH => by exact (by first | exact opd_field_ref rfl fo55_1 rfl ((hH _ rfl).trans rfl) rfl rfl | exact opd_field_pad rfl fo55_1 rfl rfl))) rfl ?_
                  refine dc_cons (r := ⟨_, some [], []⟩) (DStep.plain rfl (fun H1 hH => by exact (by first | exact opd_load1_ref rfl Try.isAgg3 rfl ((hH _ rfl).trans rfl) rfl rfl rfl | exact opd_load1_pad rfl Try.isAgg3 rfl (by first | omega | assumption) rfl))) rfl ?_
                  refine dc_cons (r := ⟨_, some [], []⟩) (DStep.plain rfl (fun H1 hH => by exact opd_move rfl rfl)) rfl ?_
                  refine dc_cons (r := ⟨_, some [], []⟩) (DStep.plain rfl (fun H1 hH => by exact opd_move rfl rfl)) rfl ?_
                  refine dc_cons (r := ⟨_, some [], []⟩) (DStep.plain rfl (fun H1 hH => by exact (by first | exact x_index_pad rfl so44 rfl rfl (by omega) (by first | exact Int.toNat_natCast _ | rfl) (by assumption) rfl | exact x_index_osl rfl so44 rfl ((hH _ rfl).trans rfl) rfl rfl rfl (by omega) (by first | exact Int.toNat_natCast _ | rfl) (by first | omega | assumption) rfl))) rfl ?_
                  refine dc_cons (r := ⟨_, some [], []⟩) (DStep.plain rfl (fun H1 hH => by exact (by first | exact opd_loadn_ref rfl Try.isAgg55 Try.sizeOf55 rfl ((hH _ rfl).trans rfl) rfl rfl (by simp only [List.drop_succ_cons, List.drop_zero, List.take_succ_cons, List.take_zero, List.take_nil, List.map_cons, List.map_nil, List.set_cons_zero, List.set_cons_succ, List.cons_append, List.nil_append, encQ, armR, dRow, encAct]; rfl) rfl | exact opd_loadn_pad rfl Try.isAgg55 Try.sizeOf55 rfl (by first | omega | assumption) (by simp only [List.drop_succ_cons, List.drop_zero, List.take_succ_cons, List.take_zero, List.take_nil, List.map_cons, List.map_nil, List.set_cons_zero, List.set_cons_succ, List.cons_append, List.nil_append, encQ, armR, dRow, encAct]; rfl) rfl))) rfl ?_
                  refine dc_cons (r := ⟨_, some [], []⟩) (DStep.plain rfl (fun H1 hH => by exact opr_call rfl rfl Try.call34 rfl (text_c a _ hts))) rfl ?_
                  refine dc_cons (r := ⟨_, some [2000, 2001, 2002, 2003], _⟩) (DStep.plain rfl (fun H1 hH => by exact opr_call rfl rfl Try.call33 rfl (disk2_frame wb _ ⟨(hH 2000 rfl).trans rfl, (hH 2001 rfl).trans rfl, (hH 2002 rfl).trans rfl, (hH 2003 rfl).trans rfl, trivial⟩ rfl rfl (by simp; rfl)))) rfl ?_
                  refine dc_cons (r := ⟨_, some [2000], []⟩) (DStep.plain rfl (fun H1 hH => by exact opd_assign rfl rfl)) rfl ?_
                  refine dc_nil ⟨by kernel_rfl, ?_⟩
                  refine awp_seq ?_
                  refine awp_region ?_
                  refine al_d rfl rfl rfl (by exact opd_move rfl rfl) ?_
                  refine al_d rfl rfl rfl (by exact opd_eql rfl rfl rfl) ?_
                  refine al_d rfl rfl rfl (by exact opd_move rfl rfl) ?_
                  refine al_off rfl rfl rfl (by first | rfl | assumption) rfl ?_
                  refine al_off rfl rfl rfl (by first | rfl | assumption) rfl ?_
                  refine al_d rfl rfl rfl (by exact (by first | exact opd_pick_t rfl rfl rfl | exact opd_pick_f rfl rfl rfl | exact opd_pickt rfl rfl (by assumption) rfl | exact opd_pickf rfl rfl (by assumption) rfl | exact opd_pick rfl rfl rfl)) ?_
                  refine al_d rfl rfl rfl (by exact opd_assign rfl rfl) ?_
                  refine al_nil ?_
                  refine awp_seq ?_
                  refine awp_seq ?_
                  refine awp_region ?_
                  refine al_d rfl rfl rfl (by exact opd_move rfl rfl) ?_
                  refine al_nil ?_
                  refine awp_cond rfl (fun hc25 => ?_) (fun hc25 => ?_)
                  -- cond 25
                  · skip
                    (first | (cases hc25; done) | (revert hc25; simp; done) | (revert hc25; simp_all; done) | (revert hc25; simp_all; omega))
                  · skip
                    refine awp_seq ?_
                    refine awp_region ?_
                    refine al_d rfl rfl rfl (by exact opd_move rfl rfl) ?_
                    refine al_nil ?_
                    refine awp_cond rfl (fun hc26 => ?_) (fun hc26 => ?_)
                    -- cond 26
                    · skip
                      (first | (cases hc26; done) | (revert hc26; simp; done) | (revert hc26; simp_all; done) | (revert hc26; simp_all; omega))
                    · skip
                      refine awp_skip ?_
                      refine awp_seq ?_
                      refine awp_region ?_
                      refine al_d rfl rfl rfl (by exact opd_assign rfl rfl) ?_
                      refine al_nil ?_
                      refine awp_seq ?_
                      refine awp_seq ?_
                      refine awp_region ?_
                      refine al_d rfl rfl rfl (by exact opd_move rfl rfl) ?_
                      refine al_nil ?_
                      refine awp_cond rfl (fun hc27 => ?_) (fun hc27 => ?_)
                      -- cond 27
                      · skip
                        (first | (cases hc27; done) | (revert hc27; simp; done) | (revert hc27; simp_all; done) | (revert hc27; simp_all; omega))
                      · skip
                        refine awp_drawc follows ?_
                        refine dc_cons (r := ⟨_, some [1000], []⟩) (DStep.plain rfl (fun H1 hH => by exact opd_move rfl rfl)) rfl ?_
                        refine dc_cons (r := ⟨_, some [], []⟩) (DStep.plain rfl (fun H1 hH => by exact opd_move rfl rfl)) rfl ?_
                        refine dc_cons (r := ⟨_, some [], []⟩) (DStep.plain rfl (fun H1 hH => by exact opd_move rfl rfl)) rfl ?_
                        refine dc_cons (r := ⟨_, some [], []⟩) (DStep.plain rfl (fun H1 hH => by exact (by first | exact x_index_pad rfl so44 rfl rfl (by omega) (by first | exact Int.toNat_natCast _ | rfl) (by assumption) rfl | exact x_index_osl rfl so44 rfl ((hH _ rfl).trans rfl) rfl rfl rfl (by omega) (by first | exact Int.toNat_natCast _ | rfl) (by first | omega | assumption) rfl))) rfl ?_
                        refine dc_cons (r := ⟨_, some [], []⟩) (DStep.plain rfl (fun H1 hH => by exact (by first | exact opd_field_ref rfl fo55_1 rfl ((hH _ rfl).trans rfl) rfl rfl | exact opd_field_pad rfl fo55_1 rfl rfl))) rfl ?_
                        refine dc_cons (r := ⟨_, some [], []⟩) (DStep.plain rfl (fun H1 hH => by exact (by first | exact opd_load1_ref rfl Try.isAgg3 rfl ((hH _ rfl).trans rfl) rfl rfl rfl | exact opd_load1_pad rfl Try.isAgg3 rfl (by first | omega | assumption) rfl))) rfl ?_
                        refine dc_cons (r := ⟨_, some [], []⟩) (DStep.plain rfl (fun H1 hH => by exact opd_move rfl rfl)) rfl ?_
                        refine dc_cons (r := ⟨_, some [], []⟩) (DStep.plain rfl (fun H1 hH => by exact opd_move rfl rfl)) rfl ?_
                        refine dc_cons (r := ⟨_, some [], []⟩) (DStep.plain rfl (fun H1 hH => by exact (by first | exact x_index_pad rfl so44 rfl rfl (by omega) (by first | exact Int.toNat_natCast _ | rfl) (by assumption) rfl | exact x_index_osl rfl so44 rfl ((hH _ rfl).trans rfl) rfl rfl rfl (by omega) (by first | exact Int.toNat_natCast _ | rfl) (by first | omega | assumption) rfl))) rfl ?_
                        refine dc_cons (r := ⟨_, some [], []⟩) (DStep.plain rfl (fun H1 hH => by exact (by first | exact opd_loadn_ref rfl Try.isAgg55 Try.sizeOf55 rfl ((hH _ rfl).trans rfl) rfl rfl (by simp only [List.drop_succ_cons, List.drop_zero, List.take_succ_cons, List.take_zero, List.take_nil, List.map_cons, List.map_nil, List.set_cons_zero, List.set_cons_succ, List.cons_append, List.nil_append, encQ, armR, dRow, encAct]; rfl) rfl | exact opd_loadn_pad rfl Try.isAgg55 Try.sizeOf55 rfl (by first | omega | assumption) (by simp only [List.drop_succ_cons, List.drop_zero, List.take_succ_cons, List.take_zero, List.take_nil, List.map_cons, List.map_nil, List.set_cons_zero, List.set_cons_succ, List.cons_append, List.nil_append, encQ, armR, dRow, encAct]; rfl) rfl))) rfl ?_
                        refine dc_cons (r := ⟨_, some [], []⟩) (DStep.plain rfl (fun H1 hH => by exact opr_call rfl rfl Try.call34 rfl (text_c a _ hts))) rfl ?_
                        refine dc_cons (r := ⟨_, some [1000, 1001, 1002, 1003], _⟩) (DStep.plain rfl (fun H1 hH => by exact opr_call rfl rfl Try.call33 rfl (disk_frame wa _ ⟨(hH 1000 rfl).trans rfl, (hH 1001 rfl).trans rfl, (hH 1002 rfl).trans rfl, (hH 1003 rfl).trans rfl, trivial⟩ (by simp; rfl)))) rfl ?_
                        refine dc_cons (r := ⟨_, some [1000], []⟩) (DStep.plain rfl (fun H1 hH => by exact opd_assign rfl rfl)) rfl ?_
                        refine dc_nil ⟨by kernel_rfl, ?_⟩
                        refine awp_seq ?_
                        refine awp_seq ?_
                        refine awp_region ?_
                        refine al_d rfl rfl rfl (by exact opd_move rfl rfl) ?_
                        refine al_d rfl rfl rfl (by exact opd_move rfl rfl) ?_
                        refine al_d rfl rfl rfl (by exact opd_neq rfl rfl rfl) ?_
                        refine al_nil ?_
                        refine awp_cond rfl (fun hc28 => ?_) (fun hc28 => ?_)
                        -- cond 28
                        · skip
                          (first | (cases hc28; done) | (revert hc28; simp; done) | (revert hc28; simp_all; done) | (revert hc28; simp_all; omega))
                        · skip
                          refine awp_skip ?_
                          refine awp_seq ?_
                          refine awp_seq ?_
                          refine awp_region ?_
                          refine al_d rfl rfl rfl (by exact opd_move rfl rfl) ?_
                          refine al_nil ?_
                          refine awp_cond rfl (fun hc29 => ?_) (fun hc29 => ?_)
                          -- cond 29
                          · skip
                            (first | (cases hc29; done) | (revert hc29; simp; done) | (revert hc29; simp_all; done) | (revert hc29; simp_all; omega))
                          · skip
                            refine awp_skip ?_
                            refine awp_seq ?_
                            refine awp_region ?_
                            refine al_d rfl rfl rfl (by exact opd_move rfl rfl) ?_
                            refine al_d rfl rfl rfl (by exact opd_eql rfl rfl rfl) ?_
                            refine al_d rfl rfl rfl (by exact opd_move rfl rfl) ?_
                            refine al_off rfl rfl rfl (by first | rfl | assumption) rfl ?_
                            refine al_off rfl rfl rfl (by first | rfl | assumption) rfl ?_
                            refine al_d rfl rfl rfl (by exact (by first | exact opd_pick_t rfl rfl rfl | exact opd_pick_f rfl rfl rfl | exact opd_pickt rfl rfl (by assumption) rfl | exact opd_pickf rfl rfl (by assumption) rfl | exact opd_pick rfl rfl rfl)) ?_
                            refine al_nil ?_
                            refine awp_cond rfl (fun hc30 => ?_) (fun hc30 => ?_)
                            -- cond 30
                            · skip
                              (first | (cases hc30; done) | (revert hc30; simp; done) | (revert hc30; simp_all; done) | (revert hc30; simp_all; omega))
                            · skip
                              refine awp_skip ?_
                              refine awp_region ?_
                              refine al_d rfl rfl rfl (by exact opd_move rfl rfl) ?_
                              refine al_d rfl rfl rfl (by exact opd_add rfl rfl rfl (by first | exact w64 (by omega) (by omega) | exact wu8 (by omega) (by omega) | rfl)) ?_
                              refine al_d rfl rfl rfl (by exact opd_assign rfl rfl) ?_
                              refine al_nil ?_
                              -- end of a round
                              exact ⟨i + 1, (sa, sb, left), ⟨by omega, hn'⟩, by omega, (Ent.wk ⟨⟨_, rfl, rfl⟩, (by first | (simp; done) | (simp; rfl) | exact clo_map _ _ _ | exact clo_brows _ _ | exact disk_clo _ _ rfl rfl rfl | exact disk2_clo _ _ rfl rfl rfl | exact arm_clo _ _ | exact arm_clo (.on _ _ _) _ | exact clo_bools _ _ | (simp; exact ⟨rfl, rfl⟩) | (simp; exact ⟨rfl, rfl, rfl⟩)), ⟨_, rfl, rfl⟩, (by first | (simp; done) | (simp; rfl) | exact clo_map _ _ _ | exact clo_brows _ _ | exact disk_clo _ _ rfl rfl rfl | exact disk2_clo _ _ rfl rfl rfl | exact arm_clo _ _ | exact arm_clo (.on _ _ _) _ | exact clo_bools _ _ | (simp; exact ⟨rfl, rfl⟩) | (simp; exact ⟨rfl, rfl, rfl⟩)), ⟨_, rfl, rfl⟩, (by first | (simp; done) | (simp; rfl) | exact clo_map _ _ _ | exact clo_brows _ _ | exact disk_clo _ _ rfl rfl rfl | exact disk2_clo _ _ rfl rfl rfl | exact arm_clo _ _ | exact arm_clo (.on _ _ _) _ | exact clo_bools _ _ | (simp; exact ⟨rfl, rfl⟩) | (simp; exact ⟨rfl, rfl, rfl⟩)), ⟨_, rfl, rfl⟩, (by first | (simp; done) | (simp; rfl) | exact clo_map _ _ _ | exact clo_brows _ _ | exact disk_clo _ _ rfl rfl rfl | exact disk2_clo _ _ rfl rfl rfl | exact arm_clo _ _ | exact arm_clo (.on _ _ _) _ | exact clo_bools _ _ | (simp; exact ⟨rfl, rfl⟩) | (simp; exact ⟨rfl, rfl, rfl⟩)), ⟨_, rfl, rfl⟩, (by first | (simp; done) | (simp; rfl) | exact clo_map _ _ _ | exact clo_brows _ _ | exact disk_clo _ _ rfl rfl rfl | exact disk2_clo _ _ rfl rfl rfl | exact arm_clo _ _ | exact arm_clo (.on _ _ _) _ | exact clo_bools _ _ | (simp; exact ⟨rfl, rfl⟩) | (simp; exact ⟨rfl, rfl, rfl⟩)), ⟨_, rfl, rfl⟩, (by first | (simp; done) | (simp; rfl) | exact clo_map _ _ _ | exact clo_brows _ _ | exact disk_clo _ _ rfl rfl rfl | exact disk2_clo _ _ rfl rfl rfl | exact arm_clo _ _ | exact arm_clo (.on _ _ _) _ | exact clo_bools _ _ | (simp; exact ⟨rfl, rfl⟩) | (simp; exact ⟨rfl, rfl, rfl⟩)), ⟨_, rfl, rfl⟩, (by first | (simp; done) | (simp; rfl) | exact clo_map _ _ _ | exact clo_brows _ _ | exact disk_clo _ _ rfl rfl rfl | exact disk2_clo _ _ rfl rfl rfl | exact arm_clo _ _ | exact arm_clo (.on _ _ _) _ | exact clo_bools _ _ | (simp; exact ⟨rfl, rfl⟩) | (simp; exact ⟨rfl, rfl, rfl⟩)), ⟨_, rfl, rfl⟩, (by first | (simp; done) | (simp; rfl) | exact clo_map _ _ _ | exact clo_brows _ _ | exact disk_clo _ _ rfl rfl rfl | exact disk2_clo _ _ rfl rfl rfl | exact arm_clo _ _ | exact arm_clo (.on _ _ _) _ | exact clo_bools _ _ | (simp; exact ⟨rfl, rfl⟩) | (simp; exact ⟨rfl, rfl, rfl⟩)), ⟨_, rfl, rfl⟩, (by first | (simp; done) | (simp; rfl) | exact clo_map _ _ _ | exact clo_brows _ _ | exact disk_clo _ _ rfl rfl rfl | exact disk2_clo _ _ rfl rfl rfl | exact arm_clo _ _ | exact arm_clo (.on _ _ _) _ | exact clo_bools _ _ | (simp; exact ⟨rfl, rfl⟩) | (simp; exact ⟨rfl, rfl, rfl⟩)), ⟨_, rfl, rfl⟩, (by first | (simp; done) | (simp; rfl) | exact clo_map _ _ _ | exact clo_brows _ _ | exact disk_clo _ _ rfl rfl rfl | exact disk2_clo _ _ rfl rfl rfl | exact arm_clo _ _ | exact arm_clo (.on _ _ _) _ | exact clo_bools _ _ | (simp; exact ⟨rfl, rfl⟩) | (simp; exact ⟨rfl, rfl, rfl⟩)), trivial⟩ ⟨⟨_, rfl, rfl⟩, (by first | (simp; done) | (simp; rfl) | exact clo_map _ _ _ | exact clo_brows _ _ | exact disk_clo _ _ rfl rfl rfl | exact disk2_clo _ _ rfl rfl rfl | exact arm_clo _ _ | exact arm_clo (.on _ _ _) _ | exact clo_bools _ _ | (simp; exact ⟨rfl, rfl⟩) | (simp; exact ⟨rfl, rfl, rfl⟩)), ⟨_, rfl, rfl⟩, (by first | (simp; done) | (simp; rfl) | exact clo_map _ _ _ | exact clo_brows _ _ | exact disk_clo _ _ rfl rfl rfl | exact disk2_clo _ _ rfl rfl rfl | exact arm_clo _ _ | exact arm_clo (.on _ _ _) _ | exact clo_bools _ _ | (simp; exact ⟨rfl, rfl⟩) | (simp; exact ⟨rfl, rfl, rfl⟩)), ⟨_, rfl, rfl⟩, (by first | (simp; done) | (simp; rfl) | exact clo_map _ _ _ | exact clo_brows _ _ | exact disk_clo _ _ rfl rfl rfl | exact disk2_clo _ _ rfl rfl rfl | exact arm_clo _ _ | exact arm_clo (.on _ _ _) _ | exact clo_bools _ _ | (simp; exact ⟨rfl, rfl⟩) | (simp; exact ⟨rfl, rfl, rfl⟩)), ⟨_, rfl, rfl⟩, (by first | (simp; done) | (simp; rfl) | exact clo_map _ _ _ | exact clo_brows _ _ | exact disk_clo _ _ rfl rfl rfl | exact disk2_clo _ _ rfl rfl rfl | exact arm_clo _ _ | exact arm_clo (.on _ _ _) _ | exact clo_bools _ _ | (simp; exact ⟨rfl, rfl⟩) | (simp; exact ⟨rfl, rfl, rfl⟩)), ⟨_, rfl, rfl⟩, (by first | (simp; done) | (simp; rfl) | exact clo_map _ _ _ | exact clo_brows _ _ | exact disk_clo _ _ rfl rfl rfl | exact disk2_clo _ _ rfl rfl rfl | exact arm_clo _ _ | exact arm_clo (.on _ _ _) _ | exact clo_bools _ _ | (simp; exact ⟨rfl, rfl⟩) | (simp; exact ⟨rfl, rfl, rfl⟩)), ⟨_, rfl, rfl⟩, (by first | (simp; done) | (simp; rfl) | exact clo_map _ _ _ | exact clo_brows _ _ | exact disk_clo _ _ rfl rfl rfl | exact disk2_clo _ _ rfl rfl rfl | exact arm_clo _ _ | exact arm_clo (.on _ _ _) _ | exact clo_bools _ _ | (simp; exact ⟨rfl, rfl⟩) | (simp; exact ⟨rfl, rfl, rfl⟩)), ⟨_, rfl, rfl⟩, (by first | (simp; done) | (simp; rfl) | exact clo_map _ _ _ | exact clo_brows _ _ | exact disk_clo _ _ rfl rfl rfl | exact disk2_clo _ _ rfl rfl rfl | exact arm_clo _ _ | exact arm_clo (.on _ _ _) _ | exact clo_bools _ _ | (simp; exact ⟨rfl, rfl⟩) | (simp; exact ⟨rfl, rfl, rfl⟩)), ⟨_, rfl, rfl⟩, (by first | (simp; done) | (simp; rfl) | exact clo_map _ _ _ | exact clo_brows _ _ | exact disk_clo _ _ rfl rfl rfl | exact disk2_clo _ _ rfl rfl rfl | exact arm_clo _ _ | exact arm_clo (.on _ _ _) _ | exact clo_bools _ _ | (simp; exact ⟨rfl, rfl⟩) | (simp; exact ⟨rfl, rfl, rfl⟩)), trivial⟩ trivial)⟩
                · skip
                  (first | (cases hc24; done) | (revert hc24; simp; done) | (revert hc24; simp_all; done) | (revert hc24; simp_all; omega))
              · have hg' := hg
                rw [hk3] at hg'
                have hga : wGood sa (k : Int) (aText a) = true := by rw [wgood_congr hsim.cells]; exact hg'
                obtain ⟨a1, a2⟩ := on_yes hA.on hga
                obtain ⟨b1, b2⟩ := calm_yes hA.calm hg'
                have wb := cW hsim.ib (by omega) b2 b1
                rw [← hk3] at wb
                have hsw := sim_w hsim (by omega) hkn hk64
                rcases hA.arm with ⟨g1, g2, g3⟩ | ⟨g1, g2, g3, g4⟩
                · have hz : decide (left = 0) = false := decide_eq_false (by omega)
                  have hp : decide (0 < left) = false := decide_eq_false (by omega)
                  obtain ⟨u1, u2⟩ := count_un (s := wState sa k (aText a)) g3
                  have wa := cW hsim.ia (by omega) (a2.trans u2) (a1.trans u1)
                  rw [← hk3] at wa
                  have hn' : ArmI (wState sa k (aText a)) (wState sb k (aText a)) n (60 + (i + 1)) after left writes bytes := ⟨hsw, hA.on, hA.calm, .inl ⟨g1, g2, g3⟩⟩
                  refine awp_skip ?_
                  refine awp_seq ?_
                  refine awp_block ?_
                  refine awp_seq ?_
                  refine awp_region ?_
                  refine al_d rfl rfl rfl (by exact opd_move rfl rfl) ?_
                  refine al_d rfl rfl rfl (by exact opd_move rfl rfl) ?_
                  refine al_d rfl rfl rfl (by exact (by first | exact x_index_pad rfl so44 rfl rfl (by omega) (by first | exact Int.toNat_natCast _ | rfl) (by assumption) rfl | exact x_index_osl rfl so44 rfl rfl rfl rfl rfl (by omega) (by first | exact Int.toNat_natCast _ | rfl) (by first | omega | assumption) rfl)) ?_
                  refine al_d rfl rfl rfl (by exact (by first | exact opd_field_ref rfl fo55_0 rfl rfl rfl rfl | exact opd_field_pad rfl fo55_0 rfl rfl)) ?_
                  refine al_d rfl rfl rfl (by exact (by first | exact opd_load1_ref rfl Try.isAgg3 rfl rfl rfl rfl rfl | exact opd_load1_pad rfl Try.isAgg3 rfl (by first | omega | assumption) rfl)) ?_
                  refine al_d rfl rfl rfl (by exact opd_eqlB rfl rfl rfl hk2) ?_
                  refine al_d rfl rfl rfl (by exact opd_assign rfl rfl) ?_
                  refine al_nil ?_
                  refine awp_seq ?_
                  refine awp_region ?_
                  refine al_d rfl rfl rfl (by exact opd_assign rfl rfl) ?_
                  refine al_nil ?_
                  refine awp_seq ?_
                  refine awp_seq ?_
                  refine awp_region ?_
                  refine al_d rfl rfl rfl (by exact opd_move rfl rfl) ?_
                  refine al_d rfl rfl rfl (by exact opd_not rfl rfl) ?_
                  refine al_nil ?_
                  refine awp_cond rfl (fun hc31 => ?_) (fun hc31 => ?_)
                  -- cond 31
                  · skip
                    refine awp_drawc follows ?_
                    refine dc_cons (r := ⟨_, some [2000], []⟩) (DStep.plain rfl (fun H1 hH => by exact opd_move rfl rfl)) rfl ?_
                    refine dc_cons (r := ⟨_, some [], []⟩) (DStep.plain rfl (fun H1 hH => by exact opd_move rfl rfl)) rfl ?_
                    refine dc_cons (r := ⟨_, some [], []⟩) (DStep.plain rfl (fun H1 hH => by exact opd_move rfl rfl)) rfl ?_
                    refine dc_cons (r := ⟨_, some [], []⟩) (DStep.plain rfl (fun H1 hH => by exact (by first | exact x_index_pad rfl so44 rfl rfl (by omega) (by first | exact Int.toNat_natCast _ | rfl) (by assumption) rfl | exact x_index_osl rfl so44 rfl ((hH _ rfl).trans rfl) rfl rfl rfl (by omega) (by first | exact Int.toNat_natCast _ | rfl) (by first | omega | assumption) rfl))) rfl ?_
                    refine dc_cons (r := ⟨_, some [], []⟩) (DStep.plain rfl (fun H1 hH => by exact (by first | exact opd_field_ref rfl fo55_1 rfl ((hH _ rfl).trans rfl) rfl rfl | exact opd_field_pad rfl fo55_1 rfl rfl))) rfl ?_
                    refine dc_cons (r := ⟨_, some [], []⟩) (DStep.plain rfl (fun H1 hH => by exact (by first | exact opd_load1_ref rfl Try.isAgg3 rfl ((hH _ rfl).trans rfl) rfl rfl rfl | exact opd_load1_pad rfl Try.isAgg3 rfl (by first | omega | assumption) rfl))) rfl ?_
                    refine dc_cons (r := ⟨_, some [], []⟩) (DStep.plain rfl (fun H1 hH => by exact opd_move rfl rfl)) rfl ?_
                    refine dc_cons (r := ⟨_, some [], []⟩) (DStep.plain rfl (fun H1 hH => by exact opd_move rfl rfl)) rfl ?_
                    refine dc_cons (r := ⟨_, some [], []⟩) (DStep.plain rfl (fun H1 hH => by exact (by first | exact x_index_pad rfl so44 rfl rfl (by omega) (by first | exact Int.toNat_natCast _ | rfl) (by assumption) rfl | exact x_index_osl rfl so44 rfl ((hH _ rfl).trans rfl) rfl rfl rfl (by omega) (by first | exact Int.toNat_natCast _ | rfl) (by first | omega | assumption) rfl))) rfl ?_
                    refine dc_cons (r := ⟨_, some [], []⟩) (DStep.plain rfl (fun H1 hH => by exact (by first | exact opd_loadn_ref rfl Try.isAgg55 Try.sizeOf55 rfl ((hH _ rfl).trans rfl) rfl rfl (by simp only [List.drop_succ_cons, List.drop_zero, List.take_succ_cons, List.take_zero, List.take_nil, List.map_cons, List.map_nil, List.set_cons_zero, List.set_cons_succ, List.cons_append, List.nil_append, encQ, armR, dRow, encAct]; rfl) rfl | exact opd_loadn_pad rfl Try.isAgg55 Try.sizeOf55 rfl (by first | omega | assumption) (by simp only [List.drop_succ_cons, List.drop_zero, List.take_succ_cons, List.take_zero, List.take_nil, List.map_cons, List.map_nil, List.set_cons_zero, List.set_cons_succ, List.cons_append, List.nil_append, encQ, armR, dRow, encAct]; rfl) rfl))) rfl ?_
                    refine dc_cons (r := ⟨_, some [], []⟩) (DStep.plain rfl (fun H1 hH => by exact opr_call rfl rfl Try.call34 rfl (text_c a _ hts))) rfl ?_
                    refine dc_cons (r := ⟨_, some [2000, 2001, 2002, 2003], _⟩) (DStep.plain rfl (fun H1 hH => by exact opr_call rfl rfl Try.call33 rfl (disk2_frame wb _ ⟨(hH 2000 rfl).trans rfl, (hH 2001 rfl).trans rfl, (hH 2002 rfl).trans rfl, (hH 2003 rfl).trans rfl, trivial⟩ rfl rfl (by simp; rfl)))) rfl ?_
                    refine dc_cons (r := ⟨_, some [2000], []⟩) (DStep.plain rfl (fun H1 hH => by exact opd_assign rfl rfl)) rfl ?_
                    refine dc_nil ⟨by kernel_rfl, ?_⟩
                    refine awp_seq ?_
                    refine awp_region ?_
                    refine al_d rfl rfl rfl (by exact opd_move rfl rfl) ?_
                    refine al_d rfl rfl rfl (by exact opd_eql rfl rfl rfl) ?_
                    refine al_d rfl rfl rfl (by exact opd_move rfl rfl) ?_
                    refine al_ond rfl rfl rfl (by first | rfl | assumption) rfl rfl (by exact opd_move rfl rfl) ?_
                    refine al_ond rfl rfl rfl (by first | rfl | assumption) rfl rfl (by exact opd_eqlB rfl rfl rfl hz) ?_
                    refine al_d rfl rfl rfl (by exact (by first | exact opd_pick_t rfl rfl rfl | exact opd_pick_f rfl rfl rfl | exact opd_pickt rfl rfl (by assumption) rfl | exact opd_pickf rfl rfl (by assumption) rfl | exact opd_pick rfl rfl rfl)) ?_
                    refine al_d rfl rfl rfl (by exact opd_assign rfl rfl) ?_
                    refine al_nil ?_
                    refine awp_seq ?_
                    refine awp_seq ?_
                    refine awp_region ?_
                    refine al_d rfl rfl rfl (by exact opd_move rfl rfl) ?_
                    refine al_nil ?_
                    refine awp_cond rfl (fun hc32 => ?_) (fun hc32 => ?_)
                    -- cond 32
                    · skip
                      (first | (cases hc32; done) | (revert hc32; simp; done) | (revert hc32; simp_all; done) | (revert hc32; simp_all; omega))
                    · skip
                      refine awp_seq ?_
                      refine awp_region ?_
                      refine al_d rfl rfl rfl (by exact opd_move rfl rfl) ?_
                      refine al_nil ?_
                      refine awp_cond rfl (fun hc33 => ?_) (fun hc33 => ?_)
                      -- cond 33
                      · skip
                        (first | (cases hc33; done) | (revert hc33; simp; done) | (revert hc33; simp_all; done) | (revert hc33; simp_all; omega))
                      · skip
                        refine awp_skip ?_
                        refine awp_seq ?_
                        refine awp_region ?_
                        refine al_d rfl rfl rfl (by exact opd_assign rfl rfl) ?_
                        refine al_nil ?_
                        refine awp_seq ?_
                        refine awp_seq ?_
                        refine awp_region ?_
                        refine al_d rfl rfl rfl (by exact opd_move rfl rfl) ?_
                        refine al_nil ?_
                        refine awp_cond rfl (fun hc34 => ?_) (fun hc34 => ?_)
                        -- cond 34
                        · skip
                          (first | (cases hc34; done) | (revert hc34; simp; done) | (revert hc34; simp_all; done) | (revert hc34; simp_all; omega))
                        · skip
                          refine awp_drawc follows ?_
                          refine dc_cons (r := ⟨_, some [1000], []⟩) (DStep.plain rfl (fun H1 hH => by exact opd_move rfl rfl)) rfl ?_
                          refine dc_cons (r := ⟨_, some [], []⟩) (DStep.plain rfl (fun H1 hH => by exact opd_move rfl rfl)) rfl ?_
                          refine dc_cons (r := ⟨_, some [], []⟩) (DStep.plain rfl (fun H1 hH => by exact opd_move rfl rfl)) rfl ?_
                          refine dc_cons (r := ⟨_, some [], []⟩) (DStep.plain rfl (fun H1 hH => by exact (by first | exact x_index_pad rfl so44 rfl rfl (by omega) (by first | exact Int.toNat_natCast _ | rfl) (by assumption) rfl | exact x_index_osl rfl so44 rfl ((hH _ rfl).trans rfl) rfl rfl rfl (by omega) (by first | exact Int.toNat_natCast _ | rfl) (by first | omega | assumption) rfl))) rfl ?_
                          refine dc_cons (r := ⟨_, some [], []⟩) (DStep.plain rfl (fun H1 hH => by exact (by first | exact opd_field_ref rfl fo55_1 rfl ((hH _ rfl).trans rfl) rfl rfl | exact opd_field_pad rfl fo55_1 rfl rfl))) rfl ?_
                          refine dc_cons (r := ⟨_, some [], []⟩) (DStep.plain rfl (fun H1 hH => by exact (by first | exact opd_load1_ref rfl Try.isAgg3 rfl ((hH _ rfl).trans rfl) rfl rfl rfl | exact opd_load1_pad rfl Try.isAgg3 rfl (by first | omega | assumption) rfl))) rfl ?_
                          refine dc_cons (r := ⟨_, some [], []⟩) (DStep.plain rfl (fun H1 hH => by exact opd_move rfl rfl)) rfl ?_
                          refine dc_cons (r := ⟨_, some [], []⟩) (DStep.plain rfl (fun H1 hH => by exact opd_move rfl rfl)) rfl ?_
                          refine dc_cons (r := ⟨_, some [], []⟩) (DStep.plain rfl (fun H1 hH => by exact (by first | exact x_index_pad rfl so44 rfl rfl (by omega) (by first | exact Int.toNat_natCast _ | rfl) (by assumption) rfl | exact x_index_osl rfl so44 rfl ((hH _ rfl).trans rfl) rfl rfl rfl (by omega) (by first | exact Int.toNat_natCast _ | rfl) (by first | omega | assumption) rfl))) rfl ?_
                          refine dc_cons (r := ⟨_, some [], []⟩) (DStep.plain rfl (fun H1 hH => by exact (by first | exact opd_loadn_ref rfl Try.isAgg55 Try.sizeOf55 rfl ((hH _ rfl).trans rfl) rfl rfl (by simp only [List.drop_succ_cons, List.drop_zero, List.take_succ_cons, List.take_zero, List.take_nil, List.map_cons, List.map_nil, List.set_cons_zero, List.set_cons_succ, List.cons_append, List.nil_append, encQ, armR, dRow, encAct]; rfl) rfl | exact opd_loadn_pad rfl Try.isAgg55 Try.sizeOf55 rfl (by first | omega | assumption) (by simp only [List.drop_succ_cons, List.drop_zero, List.take_succ_cons, List.take_zero, List.take_nil, List.map_cons, List.map_nil, List.set_cons_zero, List.set_cons_succ, List.cons_append, List.nil_append, encQ, armR, dRow, encAct]; rfl) rfl))) rfl ?_
                          refine dc_cons (r := ⟨_, some [], []⟩) (DStep.plain rfl (fun H1 hH => by exact opr_call rfl rfl Try.call34 rfl (text_c a _ hts))) rfl ?_
                          refine dc_cons (r := ⟨_, some [1000, 1001, 1002, 1003], _⟩) (DStep.plain rfl (fun H1 hH => by exact opr_call rfl rfl Try.call33 rfl (disk_frame wa _ ⟨(hH 1000 rfl).trans rfl, (hH 1001 rfl).trans rfl, (hH 1002 rfl).trans rfl, (hH 1003 rfl).trans rfl, trivial⟩ (by simp; rfl)))) rfl ?_
                          refine dc_cons (r := ⟨_, some [1000], []⟩) (DStep.plain rfl (fun H1 hH => by exact opd_assign rfl rfl)) rfl ?_
                          refine dc_nil ⟨by kernel_rfl, ?_⟩
                          refine awp_seq ?_
                          refine awp_seq ?_
                          refine awp_region ?_
                          refine al_d rfl rfl rfl (by exact opd_move rfl rfl) ?_
                          refine al_d rfl rfl rfl (by exact opd_move rfl rfl) ?_
                          refine al_d rfl rfl rfl (by exact opd_neq rfl rfl rfl) ?_
                          refine al_nil ?_
                          refine awp_cond rfl (fun hc35 => ?_) (fun hc35 => ?_)
                          -- cond 35
                          · skip
                            (first | (cases hc35; done) | (revert hc35; simp; done) | (revert hc35; simp_all; done) | (revert hc35; simp_all; omega))
                          · skip
                            refine awp_skip ?_
                            refine awp_seq ?_
                            refine awp_seq ?_
                            refine awp_region ?_
                            refine al_d rfl rfl rfl (by exact opd_move rfl rfl) ?_
                            refine al_nil ?_
                            refine awp_cond rfl (fun hc36 => ?_) (fun hc36 => ?_)
                            -- cond 36
                            · skip
                              (first | (cases hc36; done) | (revert hc36; simp; done) | (revert hc36; simp_all; done) | (revert hc36; simp_all; omega))
                            · skip
                              refine awp_skip ?_
                              refine awp_seq ?_
                              refine awp_region ?_
                              refine al_d rfl rfl rfl (by exact opd_move rfl rfl) ?_
                              refine al_d rfl rfl rfl (by exact opd_eql rfl rfl rfl) ?_
                              refine al_d rfl rfl rfl (by exact opd_move rfl rfl) ?_
                              refine al_ond rfl rfl rfl (by first | rfl | assumption) rfl rfl (by exact opd_move rfl rfl) ?_
                              refine al_ond rfl rfl rfl (by first | rfl | assumption) rfl rfl (by exact opd_gtrB rfl rfl rfl hp) ?_
                              refine al_d rfl rfl rfl (by exact (by first | exact opd_pick_t rfl rfl rfl | exact opd_pick_f rfl rfl rfl | exact opd_pickt rfl rfl (by assumption) rfl | exact opd_pickf rfl rfl (by assumption) rfl | exact opd_pick rfl rfl rfl)) ?_
                              refine al_nil ?_
                              refine awp_cond rfl (fun hc37 => ?_) (fun hc37 => ?_)
                              -- cond 37
                              · skip
                                (first | (cases hc37; done) | (revert hc37; simp; done) | (revert hc37; simp_all; done) | (revert hc37; simp_all; omega))
                              · skip
                                refine awp_skip ?_
                                refine awp_region ?_
                                refine al_d rfl rfl rfl (by exact opd_move rfl rfl) ?_
                                refine al_d rfl rfl rfl (by exact opd_add rfl rfl rfl (by first | exact w64 (by omega) (by omega) | exact wu8 (by omega) (by omega) | rfl)) ?_
                                refine al_d rfl rfl rfl (by exact opd_assign rfl rfl) ?_
                                refine al_nil ?_
                                -- end of a round
                                exact ⟨i + 1, (wState sa k (aText a), wState sb k (aText a), left), ⟨by omega, hn'⟩, by omega, (Ent.wk ⟨⟨_, rfl, rfl⟩, (by first | (simp; done) | (simp; rfl) | exact clo_map _ _ _ | exact clo_brows _ _ | exact disk_clo _ _ rfl rfl rfl | exact disk2_clo _ _ rfl rfl rfl | exact arm_clo _ _ | exact arm_clo (.on _ _ _) _ | exact clo_bools _ _ | (simp; exact ⟨rfl, rfl⟩) | (simp; exact ⟨rfl, rfl, rfl⟩)), ⟨_, rfl, rfl⟩, (by first | (simp; done) | (simp; rfl) | exact clo_map _ _ _ | exact clo_brows _ _ | exact disk_clo _ _ rfl rfl rfl | exact disk2_clo _ _ rfl rfl rfl | exact arm_clo _ _ | exact arm_clo (.on _ _ _) _ | exact clo_bools _ _ | (simp; exact ⟨rfl, rfl⟩) | (simp; exact ⟨rfl, rfl, rfl⟩)), ⟨_, rfl, rfl⟩, (by first | (simp; done) | (simp; rfl) | exact clo_map _ _ _ | exact clo_brows _ _ | exact disk_clo _ _ rfl rfl rfl | exact disk2_clo _ _ rfl rfl rfl | exact arm_clo _ _ | exact arm_clo (.on _ _ _) _ | exact clo_bools _ _ | (simp; exact ⟨rfl, rfl⟩) | (simp; exact ⟨rfl, rfl, rfl⟩)), ⟨_, rfl, rfl⟩, (by first | (simp; done) | (simp; rfl) | exact clo_map _ _ _ | exact clo_brows _ _ | exact disk_clo _ _ rfl rfl rfl | exact disk2_clo _ _ rfl rfl rfl | exact arm_clo _ _ | exact arm_clo (.on _ _ _) _ | exact clo_bools _ _ | (simp; exact ⟨rfl, rfl⟩) | (simp; exact ⟨rfl, rfl, rfl⟩)), ⟨_, rfl, rfl⟩, (by first | (simp; done) | (simp; rfl) | exact clo_map _ _ _ | exact clo_brows _ _ | exact disk_clo _ _ rfl rfl rfl | exact disk2_clo _ _ rfl rfl rfl | exact arm_clo _ _ | exact arm_clo (.on _ _ _) _ | exact clo_bools _ _ | (simp; exact ⟨rfl, rfl⟩) | (simp; exact ⟨rfl, rfl, rfl⟩)), ⟨_, rfl, rfl⟩, (by first | (simp; done) | (simp; rfl) | exact clo_map _ _ _ | exact clo_brows _ _ | exact disk_clo _ _ rfl rfl rfl | exact disk2_clo _ _ rfl rfl rfl | exact arm_clo _ _ | exact arm_clo (.on _ _ _) _ | exact clo_bools _ _ | (simp; exact ⟨rfl, rfl⟩) | (simp; exact ⟨rfl, rfl, rfl⟩)), ⟨_, rfl, rfl⟩, (by first | (simp; done) | (simp; rfl) | exact clo_map _ _ _ | exact clo_brows _ _ | exact disk_clo _ _ rfl rfl rfl | exact disk2_clo _ _ rfl rfl rfl | exact arm_clo _ _ | exact arm_clo (.on _ _ _) _ | exact clo_bools _ _ | (simp; exact ⟨rfl, rfl⟩) | (simp; exact ⟨rfl, rfl, rfl⟩)), ⟨_, rfl, rfl⟩, (by first | (simp; done) | (simp; rfl) | exact clo_map _ _ _ | exact clo_brows _ _ | exact disk_clo _ _ rfl rfl rfl | exact disk2_clo _ _ rfl rfl rfl | exact arm_clo _ _ | exact arm_clo (.on _ _ _) _ | exact clo_bools _ _ | (simp; exact ⟨rfl, rfl⟩) | (simp; exact ⟨rfl, rfl, rfl⟩)), ⟨_, rfl, rfl⟩, (by first | (simp; done) | (simp; rfl) | exact clo_map _ _ _ | exact clo_brows _ _ | exact disk_clo _ _ rfl rfl rfl | exact disk2_clo _ _ rfl rfl rfl | exact arm_clo _ _ | exact arm_clo (.on _ _ _) _ | exact clo_bools _ _ | (simp; exact ⟨rfl, rfl⟩) | (simp; exact ⟨rfl, rfl, rfl⟩)), ⟨_, rfl, rfl⟩, (by first | (simp; done) | (simp; rfl) | exact clo_map _ _ _ | exact clo_brows _ _ | exact disk_clo _ _ rfl rfl rfl | exact disk2_clo _ _ rfl rfl rfl | exact arm_clo _ _ | exact arm_clo (.on _ _ _) _ | exact clo_bools _ _ | (simp; exact ⟨rfl, rfl⟩) | (simp; exact ⟨rfl, rfl, rfl⟩)), trivial⟩ ⟨⟨_, rfl, rfl⟩, (by first | (simp; done) | (simp; rfl) | exact clo_map _ _ _ | exact clo_brows _ _ | exact disk_clo _ _ rfl rfl rfl | exact disk2_clo _ _ rfl rfl rfl | exact arm_clo _ _ | exact arm_clo (.on _ _ _) _ | exact clo_bools _ _ | (simp; exact ⟨rfl, rfl⟩) | (simp; exact ⟨rfl, rfl, rfl⟩)), ⟨_, rfl, rfl⟩, (by first | (simp; done) | (simp; rfl) | exact clo_map _ _ _ | exact clo_brows _ _ | exact disk_clo _ _ rfl rfl rfl | exact disk2_clo _ _ rfl rfl rfl | exact arm_clo _ _ | exact arm_clo (.on _ _ _) _ | exact clo_bools _ _ | (simp; exact ⟨rfl, rfl⟩) | (simp; exact ⟨rfl, rfl, rfl⟩)), ⟨_, rfl, rfl⟩, (by first | (simp; done) | (simp; rfl) | exact clo_map _ _ _ | exact clo_brows _ _ | exact disk_clo _ _ rfl rfl rfl | exact disk2_clo _ _ rfl rfl rfl | exact arm_clo _ _ | exact arm_clo (.on _ _ _) _ | exact clo_bools _ _ | (simp; exact ⟨rfl, rfl⟩) | (simp; exact ⟨rfl, rfl, rfl⟩)), ⟨_, rfl, rfl⟩, (by first | (simp; done) | (simp; rfl) | exact clo_map _ _ _ | exact clo_brows _ _ | exact disk_clo _ _ rfl rfl rfl | exact disk2_clo _ _ rfl rfl rfl | exact arm_clo _ _ | exact arm_clo (.on _ _ _) _ | exact clo_bools _ _ | (simp; exact ⟨rfl, rfl⟩) | (simp; exact ⟨rfl, rfl, rfl⟩)), ⟨_, rfl, rfl⟩, (by first | (simp; done) | (simp; rfl) | exact clo_map _ _ _ | exact clo_brows _ _ | exact disk_clo _ _ rfl rfl rfl | exact disk2_clo _ _ rfl rfl rfl | exact arm_clo _ _ | exact arm_clo (.on _ _ _) _ | exact clo_bools _ _ | (simp; exact ⟨rfl, rfl⟩) | (simp; exact ⟨rfl, rfl, rfl⟩)), ⟨_, rfl, rfl⟩, (by first | (simp; done) | (simp; rfl) | exact clo_map _ _ _ | exact clo_brows _ _ | exact disk_clo _ _ rfl rfl rfl | exact disk2_clo _ _ rfl rfl rfl | exact arm_clo _ _ | exact arm_clo (.on _ _ _) _ | exact clo_bools _ _ | (simp; exact ⟨rfl, rfl⟩) | (simp; exact ⟨rfl, rfl, rfl⟩)), ⟨_, rfl, rfl⟩, (by first | (simp; done) | (simp; rfl) | exact clo_map _ _ _ | exact clo_brows _ _ | exact disk_clo _ _ rfl rfl rfl | exact disk2_clo _ _ rfl rfl rfl | exact arm_clo _ _ | exact arm_clo (.on _ _ _) _ | exact clo_bools _ _ | (simp; exact ⟨rfl, rfl⟩) | (simp; exact ⟨rfl, rfl, rfl⟩)), ⟨_, rfl, rfl⟩, (by first | (simp; done) | (simp; rfl) | exact clo_map _ _ _ | exact clo_brows _ _ | exact disk_clo _ _ rfl rfl rfl | exact disk2_clo _ _ rfl rfl rfl | exact arm_clo _ _ | exact arm_clo (.on _ _ _) _ | exact clo_bools _ _ | (simp; exact ⟨rfl, rfl⟩) | (simp; exact ⟨rfl, rfl, rfl⟩)), trivial⟩ trivial)⟩
                  · skip
                    (first | (cases hc31; done) | (revert hc31; simp; done) | (revert hc31; simp_all; done) | (revert hc31; simp_all; omega))
                · by_cases hl0 : left = 0
                  · subst hl0
                    have hz : decide ((0 : Int) = 0) = true := rfl
                    obtain ⟨u1, u2⟩ := count_go (s := wState sa k (aText a)) g4
                    have wa := cW hsim.ia (by omega) (a2.trans u2) (a1.trans u1)
                    rw [← hk3] at wa
                    have wf := fail_c (wState sb k (aText a)) writes bytes hsw.ib.ok
                    have hs' := sim_fail hsw hA.on hA.calm.1 writes bytes
                    have hng : decide (after < 0) = false := decide_eq_false (by omega)
                    refine awp_skip ?_
                    refine awp_seq ?_
                    refine awp_block ?_
                    refine awp_seq ?_
                    refine awp_region ?_
                    refine al_d rfl rfl rfl (by exact opd_move rfl rfl) ?_
                    refine al_d rfl rfl rfl (by exact opd_move rfl rfl) ?_
                    refine al_d rfl rfl rfl (by exact (by first | exact x_index_pad rfl so44 rfl rfl (by omega) (by first | exact Int.toNat_natCast _ | rfl) (by assumption) rfl | exact x_index_osl rfl so44 rfl rfl rfl rfl rfl (by omega) (by first | exact Int.toNat_natCast _ | rfl) (by first | omega | assumption) rfl)) ?_
                    refine al_d rfl rfl rfl (by exact (by first | exact opd_field_ref rfl fo55_0 rfl rfl rfl rfl | exact opd_field_pad rfl fo55_0 rfl rfl)) ?_
                    refine al_d rfl rfl rfl (by exact (by first | exact opd_load1_ref rfl Try.isAgg3 rfl rfl rfl rfl rfl | exact opd_load1_pad rfl Try.isAgg3 rfl (by first | omega | assumption) rfl)) ?_
                    refine al_d rfl rfl rfl (by exact opd_eqlB rfl rfl rfl hk2) ?_
                    refine al_d rfl rfl rfl (by exact opd_assign rfl rfl) ?_
                    refine al_nil ?_
                    refine awp_seq ?_
                    refine awp_region ?_
                    refine al_d rfl rfl rfl (by exact opd_assign rfl rfl) ?_
                    refine al_nil ?_
                    refine awp_seq ?_
                    refine awp_seq ?_
                    refine awp_region ?_
                    refine al_d rfl rfl rfl (by exact opd_move rfl rfl) ?_
                    refine al_d rfl rfl rfl (by exact opd_not rfl rfl) ?_
                    refine al_nil ?_
                    refine awp_cond rfl (fun hc38 => ?_) (fun hc38 => ?_)
                    -- cond 38
                    · skip
                      refine awp_drawc follows ?_
                      refine dc_cons (r := ⟨_, some [2000], []⟩) (DStep.plain rfl (fun H1 hH => by exact opd_move rfl rfl)) rfl ?_
                      refine dc_cons (r := ⟨_, some [], []⟩) (DStep.plain rfl (fun H1 hH => by exact opd_move rfl rfl)) rfl ?_
                      refine dc_cons (r := ⟨_, some [], []⟩) (DStep.plain rfl (fun H1 hH => by exact opd_move rfl rfl)) rfl ?_
                      refine dc_cons (r := ⟨_, some [], []⟩) (DStep.plain rfl (fun H1 hH => by exact (by first | exact x_index_pad rfl so44 rfl rfl (by omega) (by first | exact Int.toNat_natCast _ | rfl) (by assumption) rfl | exact x_index_osl rfl so44 rfl ((hH _ rfl).trans rfl) rfl rfl rfl (by omega) (by first | exact Int.toNat_natCast _ | rfl) (by first | omega | assumption) rfl))) rfl ?_
                      refine dc_cons (r := ⟨_, some [], []⟩) (DStep.plain rfl (fun H1 hH => by exact (by first | exact opd_field_ref rfl fo55_1 rfl ((hH _ rfl).trans rfl) rfl rfl | exact opd_field_pad rfl fo55_1 rfl rfl))) rfl ?_
                      refine dc_cons (r := ⟨_, some [], []⟩) (DStep.plain rfl (fun H1 hH => by exact (by first | exact opd_load1_ref rfl Try.isAgg3 rfl ((hH _ rfl).trans rfl) rfl rfl rfl | exact opd_load1_pad rfl Try.isAgg3 rfl (by first | omega | assumption) rfl))) rfl ?_
                      refine dc_cons (r := ⟨_, some [], []⟩) (DStep.plain rfl (fun H1 hH => by exact opd_move rfl rfl)) rfl ?_
                      refine dc_cons (r := ⟨_, some [], []⟩) (DStep.plain rfl (fun H1 hH => by exact opd_move rfl rfl)) rfl ?_
                      refine dc_cons (r := ⟨_, some [], []⟩) (DStep.plain rfl (fun H1 hH => by exact (by first | exact x_index_pad rfl so44 rfl rfl (by omega) (by first | exact Int.toNat_natCast _ | rfl) (by assumption) rfl | exact x_index_osl rfl so44 rfl ((hH _ rfl).trans rfl) rfl rfl rfl (by omega) (by first | exact Int.toNat_natCast _ | rfl) (by first | omega | assumption) rfl))) rfl ?_
                      refine dc_cons (r := ⟨_, some [], []⟩) (DStep.plain rfl (fun H1 hH => by exact (by first | exact opd_loadn_ref rfl Try.isAgg55 Try.sizeOf55 rfl ((hH _ rfl).trans rfl) rfl rfl (by simp only [List.drop_succ_cons, List.drop_zero, List.take_succ_cons, List.take_zero, List.take_nil, List.map_cons, List.map_nil, List.set_cons_zero, List.set_cons_succ, List.cons_append, List.nil_append, encQ, armR, dRow, encAct]; rfl) rfl | exact opd_loadn_pad rfl Try.isAgg55 Try.sizeOf55 rfl (by first | omega | assumption) (by simp only [List.drop_succ_cons, List.drop_zero, List.take_succ_cons, List.take_zero, List.take_nil, List.map_cons, List.map_nil, List.set_cons_zero, List.set_cons_succ, List.cons_append, List.nil_append, encQ, armR, dRow, encAct]; rfl) rfl))) rfl ?_
                      refine dc_cons (r := ⟨_, some [], []⟩) (DStep.plain rfl (fun H1 hH => by exact opr_call rfl rfl Try.call34 rfl (text_c a _ hts))) rfl ?_
                      refine dc_cons (r := ⟨_, some [2000, 2001, 2002, 2003], _⟩) (DStep.plain rfl (fun H1 hH => by exact opr_call rfl rfl Try.call33 rfl (disk2_frame wb _ ⟨(hH 2000 rfl).trans rfl, (hH 2001 rfl).trans rfl, (hH 2002 rfl).trans rfl, (hH 2003 rfl).trans rfl, trivial⟩ rfl rfl (by simp; rfl)))) rfl ?_
                      refine dc_cons (r := ⟨_, some [2000], []⟩) (DStep.plain rfl (fun H1 hH => by exact opd_assign rfl rfl)) rfl ?_
                      refine dc_nil ⟨by kernel_rfl, ?_⟩
                      refine awp_seq ?_
                      refine awp_region ?_
                      refine al_d rfl rfl rfl (by exact opd_move rfl rfl) ?_
                      refine al_d rfl rfl rfl (by exact opd_eql rfl rfl rfl) ?_
                      refine al_d rfl rfl rfl (by exact opd_move rfl rfl) ?_
                      refine al_ond rfl rfl rfl (by first | rfl | assumption) rfl rfl (by exact opd_move rfl rfl) ?_
                      refine al_ond rfl rfl rfl (by first | rfl | assumption) rfl rfl (by exact opd_eqlB rfl rfl rfl hz) ?_
                      refine al_d rfl rfl rfl (by exact (by first | exact opd_pick_t rfl rfl rfl | exact opd_pick_f rfl rfl rfl | exact opd_pickt rfl rfl (by assumption) rfl | exact opd_pickf rfl rfl (by assumption) rfl | exact opd_pick rfl rfl rfl)) ?_
                      refine al_d rfl rfl rfl (by exact opd_assign rfl rfl) ?_
                      refine al_nil ?_
                      refine awp_seq ?_
                      refine awp_seq ?_
                      refine awp_region ?_
                      refine al_d rfl rfl rfl (by exact opd_move rfl rfl) ?_
                      refine al_nil ?_
                      refine awp_cond rfl (fun hc39 => ?_) (fun hc39 => ?_)
                      -- cond 39
                      · skip
                        refine awp_seq ?_
                        refine awp_region ?_
                        refine al_d rfl rfl rfl (by exact opd_move rfl rfl) ?_
                        refine al_d rfl rfl rfl (by exact opd_move rfl rfl) ?_
                        refine al_d rfl rfl rfl (by exact opd_move rfl rfl) ?_
                        refine al_d rfl rfl rfl (by exact opr_call rfl rfl Try.call35 rfl (disk2_frame wf _ ⟨rfl, rfl, rfl, rfl, trivial⟩ rfl rfl (by simp; rfl))) ?_
                        refine al_nil ?_
                        refine awp_region ?_
                        refine al_d rfl rfl rfl (by exact opd_assign rfl rfl) ?_
                        refine al_nil ?_
                        refine awp_seq ?_
                        refine awp_region ?_
                        refine al_d rfl rfl rfl (by exact opd_assign rfl rfl) ?_
                        refine al_nil ?_
                        refine awp_seq ?_
                        refine awp_seq ?_
                        refine awp_region ?_
                        refine al_d rfl rfl rfl (by exact opd_move rfl rfl) ?_
                        refine al_nil ?_
                        refine awp_cond rfl (fun hc40 => ?_) (fun hc40 => ?_)
                        -- cond 40
                        · skip
                          (first | (cases hc40; done) | (revert hc40; simp; done) | (revert hc40; simp_all; done) | (revert hc40; simp_all; omega))
                        · skip
                          refine awp_drawc follows ?_
                          refine dc_cons (r := ⟨_, some [1000], []⟩) (DStep.plain rfl (fun H1 hH => by exact opd_move rfl rfl)) rfl ?_
                          refine dc_cons (r := ⟨_, some [], []⟩) (DStep.plain rfl (fun H1 hH => by exact opd_move rfl rfl)) rfl ?_
                          refine dc_cons (r := ⟨_, some [], []⟩) (DStep.plain rfl (fun H1 hH => by exact opd_move rfl rfl)) rfl ?_
                          refine dc_cons (r := ⟨_, some [], []⟩) (DStep.plain rfl (fun H1 hH => by exact (by first | exact x_index_pad rfl so44 rfl rfl (by omega) (by first | exact Int.toNat_natCast _ | rfl) (by assumption) rfl | exact x_index_osl rfl so44 rfl ((hH _ rfl).trans rfl) rfl rfl rfl (by omega) (by first | exact Int.toNat_natCast _ | rfl) (by first | omega | assumption) rfl))) rfl ?_
                          refine dc_cons (r := ⟨_, some [], []⟩) (DStep.plain rfl (fun H1 hH => by exact (by first | exact opd_field_ref rfl fo55_1 rfl ((hH _ rfl).trans rfl) rfl rfl | exact opd_field_pad rfl fo55_1 rfl rfl))) rfl ?_
                          refine dc_cons (r := ⟨_, some [], []⟩) (DStep.plain rfl (fun H1 hH => by exact (by first | exact opd_load1_ref rfl Try.isAgg3 rfl ((hH _ rfl).trans rfl) rfl rfl rfl | exact opd_load1_pad rfl Try.isAgg3 rfl (by first | omega | assumption) rfl))) rfl ?_
                          refine dc_cons (r := ⟨_, some [], []⟩) (DStep.plain rfl (fun H1 hH => by exact opd_move rfl rfl)) rfl ?_
                          refine dc_cons (r := ⟨_, some [], []⟩) (DStep.plain rfl (fun H1 hH => by exact opd_move rfl rfl)) rfl ?_
                          refine dc_cons (r := ⟨_, some [], []⟩) (DStep.plain rfl (fun H1 hH => by exact (by first | exact x_index_pad rfl so44 rfl rfl (by omega) (by first | exact Int.toNat_natCast _ | rfl) (by assumption) rfl | exact x_index_osl rfl so44 rfl ((hH _ rfl).trans rfl) rfl rfl rfl (by omega) (by first | exact Int.toNat_natCast _ | rfl) (by first | omega | assumption) rfl))) rfl ?_
                          refine dc_cons (r := ⟨_, some [], []⟩) (DStep.plain rfl (fun H1 hH => by exact (by first | exact opd_loadn_ref rfl Try.isAgg55 Try.sizeOf55 rfl ((hH _ rfl).trans rfl) rfl rfl (by simp only [List.drop_succ_cons, List.drop_zero, List.take_succ_cons, List.take_zero, List.take_nil, List.map_cons, List.map_nil, List.set_cons_zero, List.set_cons_succ, List.cons_append, List.nil_append, encQ, armR, dRow, encAct]; rfl) rfl | exact opd_loadn_pad rfl Try.isAgg55 Try.sizeOf55 rfl (by first | omega | assumption) (by simp only [List.drop_succ_cons, List.drop_zero, List.take_succ_cons, List.take_zero, List.take_nil, List.map_cons, List.map_nil, List.set_cons_zero, List.set_cons_succ, List.cons_append, List.nil_append, encQ, armR, dRow, encAct]; rfl) rfl))) rfl ?_
                          refine dc_cons (r := ⟨_, some [], []⟩) (DStep.plain rfl (fun H1 hH => by exact opr_call rfl rfl Try.call34 rfl (text_c a _ hts))) rfl ?_
                          refine dc_cons (r := ⟨_, some [1000, 1001, 1002, 1003], _⟩) (DStep.plain rfl (fun H1 hH => by exact opr_call rfl rfl Try.call33 rfl (disk_frame wa _ ⟨(hH 1000 rfl).trans rfl, (hH 1001 rfl).trans rfl, (hH 1002 rfl).trans rfl, (hH 1003 rfl).trans rfl, trivial⟩ (by simp; rfl)))) rfl ?_
                          refine dc_cons (r := ⟨_, some [1000], []⟩) (DStep.plain rfl (fun H1 hH => by exact opd_assign rfl rfl)) rfl ?_
                          refine dc_nil ⟨by kernel_rfl, ?_⟩
                          refine awp_seq ?_
                          refine awp_seq ?_
                          refine awp_region ?_
                          refine al_d rfl rfl rfl (by exact opd_move rfl rfl) ?_
                          refine al_d rfl rfl rfl (by exact opd_move rfl rfl) ?_
                          refine al_d rfl rfl rfl (by exact opd_neq rfl rfl rfl) ?_
                          refine al_nil ?_
                          refine awp_cond rfl (fun hc41 => ?_) (fun hc41 => ?_)
                          -- cond 41
                          · skip
                            (first | (cases hc41; done) | (revert hc41; simp; done) | (revert hc41; simp_all; done) | (revert hc41; simp_all; omega))
                          · skip
                            refine awp_skip ?_
                            refine awp_seq ?_
                            refine awp_seq ?_
                            refine awp_region ?_
                            refine al_d rfl rfl rfl (by exact opd_move rfl rfl) ?_
                            refine al_nil ?_
                            refine awp_cond rfl (fun hc42 => ?_) (fun hc42 => ?_)
                            -- cond 42
                            · skip
                              obtain ⟨co1, co2, hcl⟩ := tail_facts hs'
                              refine awp_exit ?_
                              refine awp_seq ?_
                              refine awp_seq ?_
                              refine awp_region ?_
                              refine al_d rfl rfl rfl (by exact opd_move rfl rfl) ?_
                              refine al_d rfl rfl rfl (by exact opd_lssB rfl rfl rfl hng) ?_
                              refine al_d rfl rfl rfl (by exact opd_move rfl rfl) ?_
                              refine al_off rfl rfl rfl (by first | rfl | assumption) rfl ?_
                              refine al_off rfl rfl rfl (by first | rfl | assumption) rfl ?_
                              refine al_off rfl rfl rfl (by first | rfl | assumption) rfl ?_
                              refine al_d rfl rfl rfl (by exact (by first | exact opd_pick_t rfl rfl rfl | exact opd_pick_f rfl rfl rfl | exact opd_pickt rfl rfl (by assumption) rfl | exact opd_pickf rfl rfl (by assumption) rfl | exact opd_pick rfl rfl rfl)) ?_
                              refine al_nil ?_
                              refine awp_cond rfl (fun hc43 => ?_) (fun hc43 => ?_)
                              -- cond 43
                              · skip
                                (first | (cases hc43; done) | (revert hc43; simp; done) | (revert hc43; simp_all; done) | (revert hc43; simp_all; omega))
                              · skip
                                refine awp_skip ?_
                                refine awp_seq ?_
                                refine awp_region ?_
                                refine al_d rfl rfl rfl (by exact opd_move rfl rfl) ?_
                                refine al_d rfl rfl rfl (by exact opr_call rfl rfl Try.call30 rfl (disk_frame (start_c _) _ ⟨rfl, rfl, rfl, rfl, trivial⟩ (by simp; rfl))) ?_
                                refine al_nil ?_
                                refine awp_seq ?_
                                refine awp_region ?_
                                refine al_d rfl rfl rfl (by exact opd_move rfl rfl) ?_
                                refine al_d rfl rfl rfl (by exact opr_call rfl rfl Try.call30 rfl (disk2_frame (start_c _) _ ⟨rfl, rfl, rfl, rfl, trivial⟩ rfl rfl (by simp; rfl))) ?_
                                refine al_nil ?_
                                refine awp_seq ?_
                                refine awp_region ?_
                                refine al_d rfl rfl rfl (by exact opd_move rfl rfl) ?_
                                refine al_d rfl rfl rfl (by exact opd_move rfl rfl) ?_
                                refine al_d rfl rfl rfl (by exact opr_call rfl rfl Try.call32 rfl (disk_frame co1 _ ⟨rfl, rfl, rfl, rfl, trivial⟩ (by simp; rfl))) ?_
                                refine al_d rfl rfl rfl (by exact opd_move rfl rfl) ?_
                                refine al_d rfl rfl rfl (by exact opd_extract rfl rfl rfl) ?_
                                refine al_d rfl rfl rfl (by exact opd_extract rfl rfl rfl) ?_
                                refine al_d rfl rfl rfl (by exact opd_assign rfl rfl) ?_
                                refine al_d rfl rfl rfl (by exact opd_assign rfl rfl) ?_
                                refine al_nil ?_
                                refine awp_seq ?_
                                refine awp_region ?_
                                refine al_d rfl rfl rfl (by exact opd_move rfl rfl) ?_
                                refine al_d rfl rfl rfl (by exact opd_move rfl rfl) ?_
                                refine al_d rfl rfl rfl (by exact opr_call rfl rfl Try.call32 rfl (disk2_frame co2 _ ⟨rfl, rfl, rfl, rfl, trivial⟩ rfl rfl (by simp; rfl))) ?_
                                refine al_d rfl rfl rfl (by exact opd_move rfl rfl) ?_
                                refine al_d rfl rfl rfl (by exact opd_extract rfl rfl rfl) ?_
                                refine al_d rfl rfl rfl (by exact opd_extract rfl rfl rfl) ?_
                                refine al_d rfl rfl rfl (by exact opd_assign rfl rfl) ?_
                                refine al_d rfl rfl rfl (by exact opd_assign rfl rfl) ?_
                                refine al_nil ?_
                                refine awp_seq ?_
                                refine awp_region ?_
                                refine al_d rfl rfl rfl (by exact opd_move rfl rfl) ?_
                                refine al_d rfl rfl rfl (by exact opd_move rfl rfl) ?_
                                refine al_ond rfl rfl rfl (by first | rfl | assumption) rfl rfl (by exact opd_move rfl rfl) ?_
                                refine al_d rfl rfl rfl (by exact (by first | exact opd_pick_t rfl rfl rfl | exact opd_pick_f rfl rfl rfl | exact opd_pickt rfl rfl (by assumption) rfl | exact opd_pickf rfl rfl (by assumption) rfl | exact opd_pick rfl rfl rfl)) ?_
                                refine al_d rfl rfl rfl (by exact opd_move rfl rfl) ?_
                                refine al_ond rfl rfl rfl (by first | rfl | assumption) rfl rfl (by exact opd_move rfl rfl) ?_
                                refine al_d rfl rfl rfl (by exact (by first | exact opd_pick_t rfl rfl rfl | exact opd_pick_f rfl rfl rfl | exact opd_pickt rfl rfl (by assumption) rfl | exact opd_pickf rfl rfl (by assumption) rfl | exact opd_pick rfl rfl rfl)) ?_
                                refine al_d rfl rfl rfl (by exact opd_move rfl rfl) ?_
                                refine al_ond rfl rfl rfl (by first | rfl | assumption) rfl rfl (by exact opd_move rfl rfl) ?_
                                refine al_ond rfl rfl rfl (by first | rfl | assumption) rfl rfl (by exact opd_move rfl rfl) ?_
                                refine al_ond rfl rfl rfl (by first | rfl | assumption) rfl rfl (by exact opr_call rfl rfl Try.call37 rfl (same_self _ _ hcl)) ?_
                                refine al_d rfl rfl rfl (by exact (by first | exact opd_pick_t rfl rfl rfl | exact opd_pick_f rfl rfl rfl | exact opd_pickt rfl rfl (by assumption) rfl | exact opd_pickf rfl rfl (by assumption) rfl | exact opd_pick rfl rfl rfl)) ?_
                                refine al_d rfl rfl rfl (by exact opd_assign rfl rfl) ?_
                                refine al_nil ?_
                                refine awp_ret ?_
                                -- return
                                refine aret1 (H' := []) (by first | exact .inr rfl | exact .inl rfl) rfl (rval_tmp rfl) (Fin.wk (by simp) trivial trivial) ?_
                                exact ⟨rfl, rfl⟩
                            · skip
                              (first | (cases hc42; done) | (revert hc42; simp; done) | (revert hc42; simp_all; done) | (revert hc42; simp_all; omega))
                      · skip
                        (first | (cases hc39; done) | (revert hc39; simp; done) | (revert hc39; simp_all; done) | (revert hc39; simp_all; omega))
                    · skip
                      (first | (cases hc38; done) | (revert hc38; simp; done) | (revert hc38; simp_all; done) | (revert hc38; simp_all; omega))
                  · have hz : decide (left = 0) = false := decide_eq_false hl0
                    have hp : decide (0 < left) = true := decide_eq_true (by omega)
                    have hwl : IntKind.i64.wrap (left - 1) = left - 1 := w64 (by omega) (by omega)
                    obtain ⟨u1, u2⟩ := count_on (s := wState sa k (aText a)) g4 (by omega)
                    have wa := cW hsim.ia (by omega) (a2.trans u2) (a1.trans u1)
                    rw [← hk3] at wa
                    have hn' : ArmI { wState sa k (aText a) with arm := .on (left - 1) writes bytes } (wState sb k (aText a)) n (60 + (i + 1)) after (left - 1) writes bytes := ⟨sim_dec hsw (by omega), hA.on, hA.calm, .inr ⟨g1, by omega, by omega, rfl⟩⟩
                    refine awp_skip ?_
                    refine awp_seq ?_
                    refine awp_block ?_
                    refine awp_seq ?_
                    refine awp_region ?_
                    refine al_d rfl rfl rfl (by exact opd_move rfl rfl) ?_
                    refine al_d rfl rfl rfl (by exact opd_move rfl rfl) ?_
                    refine al_d rfl rfl rfl (by exact (by first | exact x_index_pad rfl so44 rfl rfl (by omega) (by first | exact Int.toNat_natCast _ | rfl) (by assumption) rfl | exact x_index_osl rfl so44 rfl rfl rfl rfl rfl (by omega) (by first | exact Int.toNat_natCast _ | rfl) (by first | omega | assumption) rfl)) ?_
                    refine al_d rfl rfl rfl (by exact (by first | exact opd_field_ref rfl fo55_0 rfl rfl rfl rfl | exact opd_field_pad rfl fo55_0 rfl rfl)) ?_
                    refine al_d rfl rfl rfl (by exact (by first | exact opd_load1_ref rfl Try.isAgg3 rfl rfl rfl rfl rfl | exact opd_load1_pad rfl Try.isAgg3 rfl (by first | omega | assumption) rfl)) ?_
                    refine al_d rfl rfl rfl (by exact opd_eqlB rfl rfl rfl hk2) ?_
                    refine al_d rfl rfl rfl (by exact opd_assign rfl rfl) ?_
                    refine al_nil ?_
                    refine awp_seq ?_
                    refine awp_region ?_
                    refine al_d rfl rfl rfl (by exact opd_assign rfl rfl) ?_
                    refine al_nil ?_
                    refine awp_seq ?_
                    refine awp_seq ?_
                    refine awp_region ?_
                    refine al_d rfl rfl rfl (by exact opd_move rfl rfl) ?_
                    refine al_d rfl rfl rfl (by exact opd_not rfl rfl) ?_
                    refine al_nil ?_
                    refine awp_cond rfl (fun hc44 => ?_) (fun hc44 => ?_)
                    -- cond 44
                    · skip
                      refine awp_drawc follows ?_
                      refine dc_cons (r := ⟨_, some [2000], []⟩) (DStep.plain rfl (fun H1 hH => by exact opd_move rfl rfl)) rfl ?_
                      refine dc_cons (r := ⟨_, some [], []⟩) (DStep.plain rfl (fun H1 hH => by exact opd_move rfl rfl)) rfl ?_
                      refine dc_cons (r := ⟨_, some [], []⟩) (DStep.plain rfl (fun H1 hH => by exact opd_move rfl rfl)) rfl ?_
                      refine dc_cons (r := ⟨_, some [], []⟩) (DStep.plain rfl (fun H1 hH => by exact (by first | exact x_index_pad rfl so44 rfl rfl (by omega) (by first | exact Int.toNat_natCast _ | rfl) (by assumption) rfl | exact x_index_osl rfl so44 rfl ((hH _ rfl).trans rfl) rfl rfl rfl (by omega) (by first | exact Int.toNat_natCast _ | rfl) (by first | omega | assumption) rfl))) rfl ?_
                      refine dc_cons (r := ⟨_, some [], []⟩) (DStep.plain rfl (fun H1 hH => by exact (by first | exact opd_field_ref rfl fo55_1 rfl ((hH _ rfl).trans rfl) rfl rfl | exact opd_field_pad rfl fo55_1 rfl rfl))) rfl ?_
                      refine dc_cons (r := ⟨_, some [], []⟩) (DStep.plain rfl (fun H1 hH => by exact (by first | exact opd_load1_ref rfl Try.isAgg3 rfl ((hH _ rfl).trans rfl) rfl rfl rfl | exact opd_load1_pad rfl Try.isAgg3 rfl (by first | omega | assumption) rfl))) rfl ?_
                      refine dc_cons (r := ⟨_, some [], []⟩) (DStep.plain rfl (fun H1 hH => by exact opd_move rfl rfl)) rfl ?_
                      refine dc_cons (r := ⟨_, some [], []⟩) (DStep.plain rfl (fun H1 hH => by exact opd_move rfl rfl)) rfl ?_
                      refine dc_cons (r := ⟨_, some [], []⟩) (DStep.plain rfl (fun H1 hH => by exact (by first | exact x_index_pad rfl so44 rfl rfl (by omega) (by first | exact Int.toNat_natCast _ | rfl) (by assumption) rfl | exact x_index_osl rfl so44 rfl ((hH _ rfl).trans rfl) rfl rfl rfl (by omega) (by first | exact Int.toNat_natCast _ | rfl) (by first | omega | assumption) rfl))) rfl ?_
                      refine dc_cons (r := ⟨_, some [], []⟩) (DStep.plain rfl (fun H1 hH => by exact (by first | exact opd_loadn_ref rfl Try.isAgg55 Try.sizeOf55 rfl ((hH _ rfl).trans rfl) rfl rfl (by simp only [List.drop_succ_cons, List.drop_zero, List.take_succ_cons, List.take_zero, List.take_nil, List.map_cons, List.map_nil, List.set_cons_zero, List.set_cons_succ, List.cons_append, List.nil_append, encQ, armR, dRow, encAct]; rfl) rfl | exact opd_loadn_pad rfl Try.isAgg55 Try.sizeOf55 rfl (by first | omega | assumption) (by simp only [List.drop_succ_cons, List.drop_zero, List.take_succ_cons, List.take_zero, List.take_nil, List.map_cons, List.map_nil, List.set_cons_zero, List.set_cons_succ, List.cons_append, List.nil_append, encQ, armR, dRow, encAct]; rfl) rfl))) rfl ?_
                      refine dc_cons (r := ⟨_, some [], []⟩) (DStep.plain rfl (fun H1 hH => by exact opr_call rfl rfl Try.call34 rfl (text_c a _ hts))) rfl ?_
                      refine dc_cons (r := ⟨_, some [2000, 2001, 2002, 2003], _⟩) (DStep.plain rfl (fun H1 hH => by exact opr_call rfl rfl Try.call33 rfl (disk2_frame wb _ ⟨(hH 2000 rfl).trans rfl, (hH 2001 rfl).trans rfl, (hH 2002 rfl).trans rfl, (hH 2003 rfl).trans rfl, trivial⟩ rfl rfl (by simp; rfl)))) rfl ?_
                      refine dc_cons (r := ⟨_, some [2000], []⟩) (DStep.plain rfl (fun H1 hH => by exact opd_assign rfl rfl)) rfl ?_
                      refine dc_nil ⟨by kernel_rfl, ?_⟩
                      refine awp_seq ?_
                      refine awp_region ?_
                      refine al_d rfl rfl rfl (by exact opd_move rfl rfl) ?_
                      refine al_d rfl rfl rfl (by exact opd_eql rfl rfl rfl) ?_
                      refine al_d rfl rfl rfl (by exact opd_move rfl rfl) ?_
                      refine al_ond rfl rfl rfl (by first | rfl | assumption) rfl rfl (by exact opd_move rfl rfl) ?_
                      refine al_ond rfl rfl rfl (by first | rfl | assumption) rfl rfl (by exact opd_eqlB rfl rfl rfl hz) ?_
                      refine al_d rfl rfl rfl (by exact (by first | exact opd_pick_t rfl rfl rfl | exact opd_pick_f rfl rfl rfl | exact opd_pickt rfl rfl (by assumption) rfl | exact opd_pickf rfl rfl (by assumption) rfl | exact opd_pick rfl rfl rfl)) ?_
                      refine al_d rfl rfl rfl (by exact opd_assign rfl rfl) ?_
                      refine al_nil ?_
                      refine awp_seq ?_
                      refine awp_seq ?_
                      refine awp_region ?_
                      refine al_d rfl rfl rfl (by exact opd_move rfl rfl) ?_
                      refine al_nil ?_
                      refine awp_cond rfl (fun hc45 => ?_) (fun hc45 => ?_)
                      -- cond 45
                      · skip
                        (first | (cases hc45; done) | (revert hc45; simp; done) | (revert hc45; simp_all; done) | (revert hc45; simp_all; omega))
                      · skip
                        refine awp_seq ?_
                        refine awp_region ?_
                        refine al_d rfl rfl rfl (by exact opd_move rfl rfl) ?_
                        refine al_nil ?_
                        refine awp_cond rfl (fun hc46 => ?_) (fun hc46 => ?_)
                        -- cond 46
                        · skip
                          (first | (cases hc46; done) | (revert hc46; simp; done) | (revert hc46; simp_all; done) | (revert hc46; simp_all; omega))
                        · skip
                          refine awp_skip ?_
                          refine awp_seq ?_
                          refine awp_region ?_
                          refine al_d rfl rfl rfl (by exact opd_assign rfl rfl) ?_
                          refine al_nil ?_
                          refine awp_seq ?_
                          refine awp_seq ?_
                          refine awp_region ?_
                          refine al_d rfl rfl rfl (by exact opd_move rfl rfl) ?_
                          refine al_nil ?_
                          refine awp_cond rfl (fun hc47 => ?_) (fun hc47 => ?_)
                          -- cond 47
                          · skip
                            (first | (cases hc47; done) | (revert hc47; simp; done) | (revert hc47; simp_all; done) | (revert hc47; simp_all; omega))
                          · skip
                            refine awp_drawc follows ?_
                            refine dc_cons (r := ⟨_, some [1000], []⟩) (DStep.plain rfl (fun H1 hH => by exact opd_move rfl rfl)) rfl ?_
                            refine dc_cons (r := ⟨_, some [], []⟩) (DStep.plain rfl (fun H1 hH => by exact opd_move rfl rfl)) rfl ?_
                            refine dc_cons (r := ⟨_, some [], []⟩) (DStep.plain rfl (fun H1 hH => by exact opd_move rfl rfl)) rfl ?_
                            refine dc_cons (r := ⟨_, some [], []⟩) (DStep.plain rfl (fun H1 hH => by exact (by first | exact x_index_pad rfl so44 rfl rfl (by omega) (by first | exact Int.toNat_natCast _ | rfl) (by assumption) rfl | exact x_index_osl rfl so44 rfl ((hH _ rfl).trans rfl) rfl rfl rfl (by omega) (by first | exact Int.toNat_natCast _ | rfl) (by first | omega | assumption) rfl))) rfl ?_
                            refine dc_cons (r := ⟨_, some [], []⟩) (DStep.plain rfl (fun H1 hH => by exact (by first | exact opd_field_ref rfl fo55_1 rfl ((hH _ rfl).trans rfl) rfl rfl | exact opd_field_pad rfl fo55_1 rfl rfl))) rfl ?_
                            refine dc_cons (r := ⟨_, some [], []⟩) (DStep.plain rfl (fun H1 hH => by exact (by first | exact opd_load1_ref rfl Try.isAgg3 rfl ((hH _ rfl).trans rfl) rfl rfl rfl | exact opd_load1_pad rfl Try.isAgg3 rfl (by first | omega | assumption) rfl))) rfl ?_
                            refine dc_cons (r := ⟨_, some [], []⟩) (DStep.plain rfl (fun H1 hH => by exact opd_move rfl rfl)) rfl ?_
                            refine dc_cons (r := ⟨_, some [], []⟩) (DStep.plain rfl (fun H1 hH => by exact opd_move rfl rfl)) rfl ?_
                            refine dc_cons (r := ⟨_, some [], []⟩) (DStep.plain rfl (fun H1 hH => by exact (by first | exact x_index_pad rfl so44 rfl rfl (by omega) (by first | exact Int.toNat_natCast _ | rfl) (by assumption) rfl | exact x_index_osl rfl so44 rfl ((hH _ rfl).trans rfl) rfl rfl rfl (by omega) (by first | exact Int.toNat_natCast _ | rfl) (by first | omega | assumption) rfl))) rfl ?_
                            refine dc_cons (r := ⟨_, some [], []⟩) (DStep.plain rfl (fun H1 hH => by exact (by first | exact opd_loadn_ref rfl Try.isAgg55 Try.sizeOf55 rfl ((hH _ rfl).trans rfl) rfl rfl (by simp only [List.drop_succ_cons, List.drop_zero, List.take_succ_cons, List.take_zero, List.take_nil, List.map_cons, List.map_nil, List.set_cons_zero, List.set_cons_succ, List.cons_append, List.nil_append, encQ, armR, dRow, encAct]; rfl) rfl | exact opd_loadn_pad rfl Try.isAgg55 Try.sizeOf55 rfl (by first | omega | assumption) (by simp only [List.drop_succ_cons, List.drop_zero, List.take_succ_cons, List.take_zero, List.take_nil, List.map_cons, List.map_nil, List.set_cons_zero, List.set_cons_succ, List.cons_append, List.nil_append, encQ, armR, dRow, encAct]; rfl) rfl))) rfl ?_
                            refine dc_cons (r := ⟨_, some [], []⟩) (DStep.plain rfl (fun H1 hH => by exact opr_call rfl rfl Try.call34 rfl (text_c a _ hts))) rfl ?_
                            refine dc_cons (r := ⟨_, some [1000, 1001, 1002, 1003], _⟩) (DStep.plain rfl (fun H1 hH => by exact opr_call rfl rfl Try.call33 rfl (disk_frame wa _ ⟨(hH 1000 rfl).trans rfl, (hH 1001 rfl).trans rfl, (hH 1002 rfl).trans rfl, (hH 1003 rfl).trans rfl, trivial⟩ (by simp; rfl)))) rfl ?_
                            refine dc_cons (r := ⟨_, some [1000], []⟩) (DStep.plain rfl (fun H1 hH => by exact opd_assign rfl rfl)) rfl ?_
                            refine dc_nil ⟨by kernel_rfl, ?_⟩
                            refine awp_seq ?_
                            refine awp_seq ?_
                            refine awp_region ?_
                            refine al_d rfl rfl rfl (by exact opd_move rfl rfl) ?_
                            refine al_d rfl rfl rfl (by exact opd_move rfl rfl) ?_
                            refine al_d rfl rfl rfl (by exact opd_neq rfl rfl rfl) ?_
                            refine al_nil ?_
                            refine awp_cond rfl (fun hc48 => ?_) (fun hc48 => ?_)
                            -- cond 48
                            · skip
                              (first | (cases hc48; done) | (revert hc48; simp; done) | (revert hc48; simp_all; done) | (revert hc48; simp_all; omega))
                            · skip
                              refine awp_skip ?_
                              refine awp_seq ?_
                              refine awp_seq ?_
                              refine awp_region ?_
                              refine al_d rfl rfl rfl (by exact opd_move rfl rfl) ?_
                              refine al_nil ?_
                              refine awp_cond rfl (fun hc49 => ?_) (fun hc49 => ?_)
                              -- cond 49
                              · skip
                                (first | (cases hc49; done) | (revert hc49; simp; done) | (revert hc49; simp_all; done) | (revert hc49; simp_all; omega))
                              · skip
                                refine awp_skip ?_
                                refine awp_seq ?_
                                refine awp_region ?_
                                refine al_d rfl rfl rfl (by exact opd_move rfl rfl) ?_
                                refine al_d rfl rfl rfl (by exact opd_eql rfl rfl rfl) ?_
                                refine al_d rfl rfl rfl (by exact opd_move rfl rfl) ?_
                                refine al_ond rfl rfl rfl (by first | rfl | assumption) rfl rfl (by exact opd_move rfl rfl) ?_
                                refine al_ond rfl rfl rfl (by first | rfl | assumption) rfl rfl (by exact opd_gtrB rfl rfl rfl hp) ?_
                                refine al_d rfl rfl rfl (by exact (by first | exact opd_pick_t rfl rfl rfl | exact opd_pick_f rfl rfl rfl | exact opd_pickt rfl rfl (by assumption) rfl | exact opd_pickf rfl rfl (by assumption) rfl | exact opd_pick rfl rfl rfl)) ?_
                                refine al_nil ?_
                                refine awp_cond rfl (fun hc50 => ?_) (fun hc50 => ?_)
                                -- cond 50
                                · skip
                                  refine awp_region ?_
                                  refine al_d rfl rfl rfl (by exact opd_move rfl rfl) ?_
                                  refine al_d rfl rfl rfl (by exact opd_sub rfl rfl rfl hwl) ?_
                                  refine al_d rfl rfl rfl (by exact opd_assign rfl rfl) ?_
                                  refine al_nil ?_
                                  refine awp_region ?_
                                  refine al_d rfl rfl rfl (by exact opd_move rfl rfl) ?_
                                  refine al_d rfl rfl rfl (by exact opd_add rfl rfl rfl (by first | exact w64 (by omega) (by omega) | exact wu8 (by omega) (by omega) | rfl)) ?_
                                  refine al_d rfl rfl rfl (by exact opd_assign rfl rfl) ?_
                                  refine al_nil ?_
                                  -- end of a round
                                  exact ⟨i + 1, ({ wState sa k (aText a) with arm := .on (left - 1) writes bytes }, wState sb k (aText a), left - 1), ⟨by omega, hn'⟩, by omega, (Ent.wk ⟨⟨_, rfl, rfl⟩, (by first | (simp; done) | (simp; rfl) | exact clo_map _ _ _ | exact clo_brows _ _ | exact disk_clo _ _ rfl rfl rfl | exact disk2_clo _ _ rfl rfl rfl | exact arm_clo _ _ | exact arm_clo (.on _ _ _) _ | exact clo_bools _ _ | (simp; exact ⟨rfl, rfl⟩) | (simp; exact ⟨rfl, rfl, rfl⟩)), ⟨_, rfl, rfl⟩, (by first | (simp; done) | (simp; rfl) | exact clo_map _ _ _ | exact clo_brows _ _ | exact disk_clo _ _ rfl rfl rfl | exact disk2_clo _ _ rfl rfl rfl | exact arm_clo _ _ | exact arm_clo (.on _ _ _) _ | exact clo_bools _ _ | (simp; exact ⟨rfl, rfl⟩) | (simp; exact ⟨rfl, rfl, rfl⟩)), ⟨_, rfl, rfl⟩, (by first | (simp; done) | (simp; rfl) | exact clo_map _ _ _ | exact clo_brows _ _ | exact disk_clo _ _ rfl rfl rfl | exact disk2_clo _ _ rfl rfl rfl | exact arm_clo _ _ | exact arm_clo (.on _ _ _) _ | exact clo_bools _ _ | (simp; exact ⟨rfl, rfl⟩) | (simp; exact ⟨rfl, rfl, rfl⟩)), ⟨_, rfl, rfl⟩, (by first | (simp; done) | (simp; rfl) | exact clo_map _ _ _ | exact clo_brows _ _ | exact disk_clo _ _ rfl rfl rfl | exact disk2_clo _ _ rfl rfl rfl | exact arm_clo _ _ | exact arm_clo (.on _ _ _) _ | exact clo_bools _ _ | (simp; exact ⟨rfl, rfl⟩) | (simp; exact ⟨rfl, rfl, rfl⟩)), ⟨_, rfl, rfl⟩, (by first | (simp; done) | (simp; rfl) | exact clo_map _ _ _ | exact clo_brows _ _ | exact disk_clo _ _ rfl rfl rfl | exact disk2_clo _ _ rfl rfl rfl | exact arm_clo _ _ | exact arm_clo (.on _ _ _) _ | exact clo_bools _ _ | (simp; exact ⟨rfl, rfl⟩) | (simp; exact ⟨rfl, rfl, rfl⟩)), ⟨_, rfl, rfl⟩, (by first | (simp; done) | (simp; rfl) | exact clo_map _ _ _ | exact clo_brows _ _ | exact disk_clo _ _ rfl rfl rfl | exact disk2_clo _ _ rfl rfl rfl | exact arm_clo _ _ | exact arm_clo (.on _ _ _) _ | exact clo_bools _ _ | (simp; exact ⟨rfl, rfl⟩) | (simp; exact ⟨rfl, rfl, rfl⟩)), ⟨_, rfl, rfl⟩, (by first | (simp; done) | (simp; rfl) | exact clo_map _ _ _ | exact clo_brows _ _ | exact disk_clo _ _ rfl rfl rfl | exact disk2_clo _ _ rfl rfl rfl | exact arm_clo _ _ | exact arm_clo (.on _ _ _) _ | exact clo_bools _ _ | (simp; exact ⟨rfl, rfl⟩) | (simp; exact ⟨rfl, rfl, rfl⟩)), ⟨_, rfl, rfl⟩, (by first | (simp; done) | (simp; rfl) | exact clo_map _ _ _ | exact clo_brows _ _ | exact disk_clo _ _ rfl rfl rfl | exact disk2_clo _ _ rfl rfl rfl | exact arm_clo _ _ | exact arm_clo (.on _ _ _) _ | exact clo_bools _ _ | (simp; exact ⟨rfl, rfl⟩) | (simp; exact ⟨rfl, rfl, rfl⟩)), ⟨_, rfl, rfl⟩, (by first | (simp; done) | (simp; rfl) | exact clo_map _ _ _ | exact clo_brows _ _ | exact disk_clo _ _ rfl rfl rfl | exact disk2_clo _ _ rfl rfl rfl | exact arm_clo _ _ | exact arm_clo (.on _ _ _) _ | exact clo_bools _ _ | (simp; exact ⟨rfl, rfl⟩) | (simp; exact ⟨rfl, rfl, rfl⟩)), ⟨_, rfl, rfl⟩, (by first | (simp; done) | (simp; rfl) | exact clo_map _ _ _ | exact clo_brows _ _ | exact disk_clo _ _ rfl rfl rfl | exact disk2_clo _ _ rfl rfl rfl | exact arm_clo _ _ | exact arm_clo (.on _ _ _) _ | exact clo_bools _ _ | (simp; exact ⟨rfl, rfl⟩) | (simp; exact ⟨rfl, rfl, rfl⟩)), trivial⟩ ⟨⟨_, rfl, rfl⟩, (by first | (simp; done) | (simp; rfl) | exact clo_map _ _ _ | exact clo_brows _ _ | exact disk_clo _ _ rfl rfl rfl | exact disk2_clo _ _ rfl rfl rfl | exact arm_clo _ _ | exact arm_clo (.on _ _ _) _ | exact clo_bools _ _ | (simp; exact ⟨rfl, rfl⟩) | (simp; exact ⟨rfl, rfl, rfl⟩)), ⟨_, rfl, rfl⟩, (by first | (simp; done) | (simp; rfl) | exact clo_map _ _ _ | exact clo_brows _ _ | exact disk_clo _ _ rfl rfl rfl | exact disk2_clo _ _ rfl rfl rfl | exact arm_clo _ _ | exact arm_clo (.on _ _ _) _ | exact clo_bools _ _ | (simp; exact ⟨rfl, rfl⟩) | (simp; exact ⟨rfl, rfl, rfl⟩)), ⟨_, rfl, rfl⟩, (by first | (simp; done) | (simp; rfl) | exact clo_map _ _ _ | exact clo_brows _ _ | exact disk_clo _ _ rfl rfl rfl | exact disk2_clo _ _ rfl rfl rfl | exact arm_clo _ _ | exact arm_clo (.on _ _ _) _ | exact clo_bools _ _ | (simp; exact ⟨rfl, rfl⟩) | (simp; exact ⟨rfl, rfl, rfl⟩)), ⟨_, rfl, rfl⟩, (by first | (simp; done) | (simp; rfl) | exact clo_map _ _ _ | exact clo_brows _ _ | exact disk_clo _ _ rfl rfl rfl | exact disk2_clo _ _ rfl rfl rfl | exact arm_clo _ _ | exact arm_clo (.on _ _ _) _ | exact clo_bools _ _ | (simp; exact ⟨rfl, rfl⟩) | (simp; exact ⟨rfl, rfl, rfl⟩)), ⟨_, rfl, rfl⟩, (by first | (simp; done) | (simp; rfl) | exact clo_map _ _ _ | exact clo_brows _ _ | exact disk_clo _ _ rfl rfl rfl | exact disk2_clo _ _ rfl rfl rfl | exact arm_clo _ _ | exact arm_clo (.on _ _ _) _ | exact clo_bools _ _ | (simp; exact ⟨rfl, rfl⟩) | (simp; exact ⟨rfl, rfl, rfl⟩)), ⟨_, rfl, rfl⟩, (by first | (simp; done) | (simp; rfl) | exact clo_map _ _ _ | exact clo_brows _ _ | exact disk_clo _ _ rfl rfl rfl | exact disk2_clo _ _ rfl rfl rfl | exact arm_clo _ _ | exact arm_clo (.on _ _ _) _ | exact clo_bools _ _ | (simp; exact ⟨rfl, rfl⟩) | (simp; exact ⟨rfl, rfl, rfl⟩)), ⟨_, rfl, rfl⟩, (by first | (simp; done) | (simp; rfl) | exact clo_map _ _ _ | exact clo_brows _ _ | exact disk_clo _ _ rfl rfl rfl | exact disk2_clo _ _ rfl rfl rfl | exact arm_clo _ _ | exact arm_clo (.on _ _ _) _ | exact clo_bools _ _ | (simp; exact ⟨rfl, rfl⟩) | (simp; exact ⟨rfl, rfl, rfl⟩)), ⟨_, rfl, rfl⟩, (by first | (simp; done) | (simp; rfl) | exact clo_map _ _ _ | exact clo_brows _ _ | exact disk_clo _ _ rfl rfl rfl | exact disk2_clo _ _ rfl rfl rfl | exact arm_clo _ _ | exact arm_clo (.on _ _ _) _ | exact clo_bools _ _ | (simp; exact ⟨rfl, rfl⟩) | (simp; exact ⟨rfl, rfl, rfl⟩)), trivial⟩ trivial)⟩
                                · skip
                                  (first | (cases hc50; done) | (revert hc50; simp; done) | (revert hc50; simp_all; done) | (revert hc50; simp_all; omega))
                    · skip
                      (first | (cases hc44; done) | (revert hc44; simp; done) | (revert hc44; simp_all; done) | (revert hc44; simp_all; omega))
          · skip
            by_cases hneg : after < 0
            · have hng : decide (after < 0) = true := decide_eq_true hneg
              have hle : left = after := by
                rcases hA.arm with ⟨g1, g2, g3⟩ | ⟨g1, g2, g3, g4⟩
                · exact g2
                · omega
              subst hle
              obtain ⟨co1, co2, hcl⟩ := tail_facts hsim
              refine awp_exit ?_
              refine awp_seq ?_
              refine awp_seq ?_
              refine awp_region ?_
              refine al_d rfl rfl rfl (by exact opd_move rfl rfl) ?_
              refine al_d rfl rfl rfl (by exact opd_lssB rfl rfl rfl hng) ?_
              refine al_d rfl rfl rfl (by exact opd_move rfl rfl) ?_
              refine al_ond rfl rfl rfl (by first | rfl | assumption) rfl rfl (by exact opd_move rfl rfl) ?_
              refine al_ond rfl rfl rfl (by first | rfl | assumption) rfl rfl (by exact opd_move rfl rfl) ?_
              refine al_ond rfl rfl rfl (by first | rfl | assumption) rfl rfl (by exact opd_neq rfl rfl rfl) ?_
              refine al_d rfl rfl rfl (by exact (by first | exact opd_pick_t rfl rfl rfl | exact opd_pick_f rfl rfl rfl | exact opd_pickt rfl rfl (by assumption) rfl | exact opd_pickf rfl rfl (by assumption) rfl | exact opd_pick rfl rfl rfl)) ?_
              refine al_nil ?_
              refine awp_cond rfl (fun hc51 => ?_) (fun hc51 => ?_)
              -- cond 51
              · skip
                (first | (cases hc51; done) | (revert hc51; simp; done) | (revert hc51; simp_all; done) | (revert hc51; simp_all; omega))
              · skip
                refine awp_skip ?_
                refine awp_seq ?_
                refine awp_region ?_
                refine al_d rfl rfl rfl (by exact opd_move rfl rfl) ?_
                refine al_d rfl rfl rfl (by exact opr_call rfl rfl Try.call30 rfl (disk_frame (start_c _) _ ⟨rfl, rfl, rfl, rfl, trivial⟩ (by simp; rfl))) ?_
                refine al_nil ?_
                refine awp_seq ?_
                refine awp_region ?_
                refine al_d rfl rfl rfl (by exact opd_move rfl rfl) ?_
                refine al_d rfl rfl rfl (by exact opr_call rfl rfl Try.call30 rfl (disk2_frame (start_c _) _ ⟨rfl, rfl, rfl, rfl, trivial⟩ rfl rfl (by simp; rfl))) ?_
                refine al_nil ?_
                refine awp_seq ?_
                refine awp_region ?_
                refine al_d rfl rfl rfl (by exact opd_move rfl rfl) ?_
                refine al_d rfl rfl rfl (by exact opd_move rfl rfl) ?_
                refine al_d rfl rfl rfl (by exact opr_call rfl rfl Try.call32 rfl (disk_frame co1 _ ⟨rfl, rfl, rfl, rfl, trivial⟩ (by simp; rfl))) ?_
                refine al_d rfl rfl rfl (by exact opd_move rfl rfl) ?_
                refine al_d rfl rfl rfl (by exact opd_extract rfl rfl rfl) ?_
                refine al_d rfl rfl rfl (by exact opd_extract rfl rfl rfl) ?_
                refine al_d rfl rfl rfl (by exact opd_assign rfl rfl) ?_
                refine al_d rfl rfl rfl (by exact opd_assign rfl rfl) ?_
                refine al_nil ?_
                refine awp_seq ?_
                refine awp_region ?_
                refine al_d rfl rfl rfl (by exact opd_move rfl rfl) ?_
                refine al_d rfl rfl rfl (by exact opd_move rfl rfl) ?_
                refine al_d rfl rfl rfl (by exact opr_call rfl rfl Try.call32 rfl (disk2_frame co2 _ ⟨rfl, rfl, rfl, rfl, trivial⟩ rfl rfl (by simp; rfl))) ?_
                refine al_d rfl rfl rfl (by exact opd_move rfl rfl) ?_
                refine al_d rfl rfl rfl (by exact opd_extract rfl rfl rfl) ?_
                refine al_d rfl rfl rfl (by exact opd_extract rfl rfl rfl) ?_
                refine al_d rfl rfl rfl (by exact opd_assign rfl rfl) ?_
                refine al_d rfl rfl rfl (by exact opd_assign rfl rfl) ?_
                refine al_nil ?_
                refine awp_seq ?_
                refine awp_region ?_
                refine al_d rfl rfl rfl (by exact opd_move rfl rfl) ?_
                refine al_d rfl rfl rfl (by exact opd_move rfl rfl) ?_
                refine al_ond rfl rfl rfl (by first | rfl | assumption) rfl rfl (by exact opd_move rfl rfl) ?_
                refine al_d rfl rfl rfl (by exact (by first | exact opd_pick_t rfl rfl rfl | exact opd_pick_f rfl rfl rfl | exact opd_pickt rfl rfl (by assumption) rfl | exact opd_pickf rfl rfl (by assumption) rfl | exact opd_pick rfl rfl rfl)) ?_
                refine al_d rfl rfl rfl (by exact opd_move rfl rfl) ?_
                refine al_ond rfl rfl rfl (by first | rfl | assumption) rfl rfl (by exact opd_move rfl rfl) ?_
                refine al_d rfl rfl rfl (by exact (by first | exact opd_pick_t rfl rfl rfl | exact opd_pick_f rfl rfl rfl | exact opd_pickt rfl rfl (by assumption) rfl | exact opd_pickf rfl rfl (by assumption) rfl | exact opd_pick rfl rfl rfl)) ?_
                refine al_d rfl rfl rfl (by exact opd_move rfl rfl) ?_
                refine al_ond rfl rfl rfl (by first | rfl | assumption) rfl rfl (by exact opd_move rfl rfl) ?_
                refine al_ond rfl rfl rfl (by first | rfl | assumption) rfl rfl (by exact opd_move rfl rfl) ?_
                refine al_ond rfl rfl rfl (by first | rfl | assumption) rfl rfl (by exact opr_call rfl rfl Try.call37 rfl (same_self _ _ hcl)) ?_
                refine al_d rfl rfl rfl (by exact (by first | exact opd_pick_t rfl rfl rfl | exact opd_pick_f rfl rfl rfl | exact opd_pickt rfl rfl (by assumption) rfl | exact opd_pickf rfl rfl (by assumption) rfl | exact opd_pick rfl rfl rfl)) ?_
                refine al_d rfl rfl rfl (by exact opd_assign rfl rfl) ?_
                refine al_nil ?_
                refine awp_ret ?_
                -- return
                refine aret1 (H' := []) (by first | exact .inr rfl | exact .inl rfl) rfl (rval_tmp rfl) (Fin.wk (by simp) trivial trivial) ?_
                exact ⟨rfl, rfl⟩
            · have hng : decide (after < 0) = false := decide_eq_false hneg
              obtain ⟨co1, co2, hcl⟩ := tail_facts hsim
              refine awp_exit ?_
              refine awp_seq ?_
              refine awp_seq ?_
              refine awp_region ?_
              refine al_d rfl rfl rfl (by exact opd_move rfl rfl) ?_
              refine al_d rfl rfl rfl (by exact opd_lssB rfl rfl rfl hng) ?_
              refine al_d rfl rfl rfl (by exact opd_move rfl rfl) ?_
              refine al_off rfl rfl rfl (by first | rfl | assumption) rfl ?_
              refine al_off rfl rfl rfl (by first | rfl | assumption) rfl ?_
              refine al_off rfl rfl rfl (by first | rfl | assumption) rfl ?_
              refine al_d rfl rfl rfl (by exact (by first | exact opd_pick_t rfl rfl rfl | exact opd_pick_f rfl rfl rfl | exact opd_pickt rfl rfl (by assumption) rfl | exact opd_pickf rfl rfl (by assumption) rfl | exact opd_pick rfl rfl rfl)) ?_
              refine al_nil ?_
              refine awp_cond rfl (fun hc52 => ?_) (fun hc52 => ?_)
              -- cond 52
              · skip
                (first | (cases hc52; done) | (revert hc52; simp; done) | (revert hc52; simp_all; done) | (revert hc52; simp_all; omega))
              · skip
                refine awp_skip ?_
                refine awp_seq ?_
                refine awp_region ?_
                refine al_d rfl rfl rfl (by exact opd_move rfl rfl) ?_
                refine al_d rfl rfl rfl (by exact opr_call rfl rfl Try.call30 rfl (disk_frame (start_c _) _ ⟨rfl, rfl, rfl, rfl, trivial⟩ (by simp; rfl))) ?_
                refine al_nil ?_
                refine awp_seq ?_
                refine awp_region ?_
                refine al_d rfl rfl rfl (by exact opd_move rfl rfl) ?_
                refine al_d rfl rfl rfl (by exact opr_call rfl rfl Try.call30 rfl (disk2_frame (start_c _) _ ⟨rfl, rfl, rfl, rfl, trivial⟩ rfl rfl (by simp; rfl))) ?_
                refine al_nil ?_
                refine awp_seq ?_
                refine awp_region ?_
                refine al_d rfl rfl rfl (by exact opd_move rfl rfl) ?_
                refine al_d rfl rfl rfl (by exact opd_move rfl rfl) ?_
                refine al_d rfl rfl rfl (by exact opr_call rfl rfl Try.call32 rfl (disk_frame co1 _ ⟨rfl, rfl, rfl, rfl, trivial⟩ (by simp; rfl))) ?_
                refine al_d rfl rfl rfl (by exact opd_move rfl rfl) ?_
                refine al_d rfl rfl rfl (by exact opd_extract rfl rfl rfl) ?_
                refine al_d rfl rfl rfl (by exact opd_extract rfl rfl rfl) ?_
                refine al_d rfl rfl rfl (by exact opd_assign rfl rfl) ?_
                refine al_d rfl rfl rfl (by exact opd_assign rfl rfl) ?_
                refine al_nil ?_
                refine awp_seq ?_
                refine awp_region ?_
                refine al_d rfl rfl rfl (by exact opd_move rfl rfl) ?_
                refine al_d rfl rfl rfl (by exact opd_move rfl rfl) ?_
                refine al_d rfl rfl rfl (by exact opr_call rfl rfl Try.call32 rfl (disk2_frame co2 _ ⟨rfl, rfl, rfl, rfl, trivial⟩ rfl rfl (by simp; rfl))) ?_
                refine al_d rfl rfl rfl (by exact opd_move rfl rfl) ?_
                refine al_d rfl rfl rfl (by exact opd_extract rfl rfl rfl) ?_
                refine al_d rfl rfl rfl (by exact opd_extract rfl rfl rfl) ?_
                refine al_d rfl rfl rfl (by exact opd_assign rfl rfl) ?_
                refine al_d rfl rfl rfl (by exact opd_assign rfl rfl) ?_
                refine al_nil ?_
                refine awp_seq ?_
                refine awp_region ?_
                refine al_d rfl rfl rfl (by exact opd_move rfl rfl) ?_
                refine al_d rfl rfl rfl (by exact opd_move rfl rfl) ?_
                refine al_ond rfl rfl rfl (by first | rfl | assumption) rfl rfl (by exact opd_move rfl rfl) ?_
                refine al_d rfl rfl rfl (by exact (by first | exact opd_pick_t rfl rfl rfl | exact opd_pick_f rfl rfl rfl | exact opd_pickt rfl rfl (by assumption) rfl | exact opd_pickf rfl rfl (by assumption) rfl | exact opd_pick rfl rfl rfl)) ?_
                refine al_d rfl rfl rfl (by exact opd_move rfl rfl) ?_
                refine al_ond rfl rfl rfl (by first | rfl | assumption) rfl rfl (by exact opd_move rfl rfl) ?_
                refine al_d rfl rfl rfl (by exact (by first | exact opd_pick_t rfl rfl rfl | exact opd_pick_f rfl rfl rfl | exact opd_pickt rfl rfl (by assumption) rfl | exact opd_pickf rfl rfl (by assumption) rfl | exact opd_pick rfl rfl rfl)) ?_
                refine al_d rfl rfl rfl (by exact opd_move rfl rfl) ?_
                refine al_ond rfl rfl rfl (by first | rfl | assumption) rfl rfl (by exact opd_move rfl rfl) ?_
                refine al_ond rfl rfl rfl (by first | rfl | assumption) rfl rfl (by exact opd_move rfl rfl) ?_
                refine al_ond rfl rfl rfl (by first | rfl | assumption) rfl rfl (by exact opr_call rfl rfl Try.call37 rfl (same_self _ _ hcl)) ?_
                refine al_d rfl rfl rfl (by exact (by first | exact opd_pick_t rfl rfl rfl | exact opd_pick_f rfl rfl rfl | exact opd_pickt rfl rfl (by assumption) rfl | exact opd_pickf rfl rfl (by assumption) rfl | exact opd_pick rfl rfl rfl)) ?_
                refine al_d rfl rfl rfl (by exact opd_assign rfl rfl) ?_
                refine al_nil ?_
                refine awp_ret ?_
                -- return
                refine aret1 (H' := []) (by first | exact .inr rfl | exact .inl rfl) rfl (rval_tmp rfl) (Fin.wk (by simp) trivial trivial) ?_
                exact ⟨rfl, rfl⟩
end Go.Proofs.Ytljocbkebhgkoaa
