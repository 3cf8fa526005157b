/-
  THE DISK, contracts: settle, Fail, count. Conditions: a disk's state as DOk tells.
-/
import Derived.Test.YtljocbkebhgkoaaD2
set_option linter.unusedVariables false
set_option linter.unusedSimpArgs false
set_option maxRecDepth 100000
namespace Go.Proofs.Ytljocbkebhgkoaa
open Go.Abs

theorem take_snoc {α : Type} {l : List α} {i : Nat} {a : α} (h : l[i]? = some a) : l.take (i + 1) = l.take i ++ [a] := by rw [List.take_add_one, h]; rfl
def putAll (cells : List ByteArray) (l : List (Nat × ByteArray)) : List ByteArray := l.foldl (fun cs p => cs.set p.1 p.2) cells
theorem putAll_len (l : List (Nat × ByteArray)) : ∀ cells : List ByteArray, (putAll cells l).length = cells.length := by
  induction l with
  | nil => intro cells; rfl
  | cons p l ih => intro cells; show (putAll (cells.set p.1 p.2) l).length = _; rw [ih, List.length_set]
theorem putAll_snoc (cells : List ByteArray) (l : List (Nat × ByteArray)) (p : Nat × ByteArray) : putAll cells (l ++ [p]) = (putAll cells l).set p.1 p.2 := by
  unfold putAll; rw [List.foldl_append]; rfl
theorem putAll_size {l : List (Nat × ByteArray)} (hl : ∀ p, p ∈ l → p.2.size = 64) : ∀ {cells : List ByteArray}, (∀ c, c ∈ cells → c.size = 64) → ∀ c, c ∈ putAll cells l → c.size = 64 := by
  induction l with
  | nil => intro cells h; exact h
  | cons p l ih =>
    intro cells h
    exact ih (fun p hp => hl p (by simp [hp])) (fun c hc => by
      rcases List.mem_or_eq_of_mem_set hc with e | e
      · exact h c e
      · rw [e]; exact hl p (by simp))
theorem put_ok {s : DSt} (hs : DOk s) (m : Nat) : DOk { s with cells := putAll s.cells (s.q.take m) } :=
  ⟨by simpa [putAll_len] using hs.n1, by simpa [putAll_len] using hs.n2, putAll_size (fun p hp => (hs.q p (List.mem_of_mem_take hp)).2) hs.c, fun p hp => by simpa [putAll_len] using hs.q p hp, hs.ql⟩
theorem setN_c (s : DSt) (n : Nat) (t : ByteArray) (hs : DOk s) (hn : n < s.cells.length) (ht : t.size = 64) :
    ACalls Try.prog 61 [.ref 1000 0 0 0, .agg (spotN n), sv t] (diskH s) (fun r H' => r = .tup [] ∧ H' = diskH { s with cells := s.cells.set n t }) := by
  obtain ⟨c, hc⟩ := get_of_lt hn
  have h := set_c s n c t hs hc (by omega)
  rw [over_full ht (hs.c c (List.mem_of_getElem? hc))] at h
  exact h
theorem settle_c (s : DSt) (m : Nat) (hs : DOk s) (hm : m ≤ s.q.length) :
    ACalls Try.prog 60 [.ref 1000 0 0 0, .osl 1002 s.gq 0 m] (diskH s) (fun r H' => r = .tup [] ∧ H' = diskH { s with cells := putAll s.cells (s.q.take m) }) := by
  have hql := hs.ql
  refine ACalls.body Try.func60 rfl Try.ntmps60 (Nat.le_of_ble_eq_true rfl) ?_
  refine awp_seq ?_
  refine awp_region ?_
  refine al_d rfl rfl rfl (by exact opd_move rfl rfl) ?_
  refine al_d rfl rfl rfl (by exact (by first | exact opd_len_sl rfl Try.underlying91 rfl | exact opd_len_osl rfl Try.underlying91 rfl rfl rfl)) ?_
  refine al_d rfl rfl rfl (by exact opd_move rfl rfl) ?_
  refine al_nil ?_
  refine awp_block ?_
  -- loop
  refine awp_loop (σ := Nat) (fun i => ([(0, .ref 1000 0 0 0), (6, .osl 1002 s.gq 0 m), (7, iv (m : Int)), (8, iv (i : Int))], diskH { s with cells := putAll s.cells (s.q.take i) })) (fun i => i ≤ m) (fun i => m - i) 0 (by omega) ?_ ?_
  · exact (Ent.wk ⟨⟨_, rfl, rfl⟩, (by first | (simp; done) | (simp; rfl) | exact clo_map _ _ _ | exact clo_brows _ _ | exact disk_clo _ _ rfl rfl rfl | exact arm_clo _ _ | (simp; exact ⟨rfl, rfl⟩) | (simp; exact ⟨rfl, rfl, rfl⟩)), ⟨_, rfl, rfl⟩, (by first | (simp; done) | (simp; rfl) | exact clo_map _ _ _ | exact clo_brows _ _ | exact disk_clo _ _ rfl rfl rfl | exact arm_clo _ _ | (simp; exact ⟨rfl, rfl⟩) | (simp; exact ⟨rfl, rfl, rfl⟩)), ⟨_, rfl, rfl⟩, (by first | (simp; done) | (simp; rfl) | exact clo_map _ _ _ | exact clo_brows _ _ | exact disk_clo _ _ rfl rfl rfl | exact arm_clo _ _ | (simp; exact ⟨rfl, rfl⟩) | (simp; exact ⟨rfl, rfl, rfl⟩)), ⟨_, rfl, rfl⟩, (by first | (simp; done) | (simp; rfl) | exact clo_map _ _ _ | exact clo_brows _ _ | exact disk_clo _ _ rfl rfl rfl | exact arm_clo _ _ | (simp; exact ⟨rfl, rfl⟩) | (simp; exact ⟨rfl, rfl, rfl⟩)), trivial⟩ ⟨⟨_, rfl, rfl⟩, (by first | (simp; done) | (simp; rfl) | exact clo_map _ _ _ | exact clo_brows _ _ | exact disk_clo _ _ rfl rfl rfl | exact arm_clo _ _ | (simp; exact ⟨rfl, rfl⟩) | (simp; exact ⟨rfl, rfl, rfl⟩)), ⟨_, rfl, rfl⟩, (by first | (simp; done) | (simp; rfl) | exact clo_map _ _ _ | exact clo_brows _ _ | exact disk_clo _ _ rfl rfl rfl | exact arm_clo _ _ | (simp; exact ⟨rfl, rfl⟩) | (simp; exact ⟨rfl, rfl, rfl⟩)), ⟨_, rfl, rfl⟩, (by first | (simp; done) | (simp; rfl) | exact clo_map _ _ _ | exact clo_brows _ _ | exact disk_clo _ _ rfl rfl rfl | exact arm_clo _ _ | (simp; exact ⟨rfl, rfl⟩) | (simp; exact ⟨rfl, rfl, rfl⟩)), ⟨_, rfl, rfl⟩, (by first | (simp; done) | (simp; rfl) | exact clo_map _ _ _ | exact clo_brows _ _ | exact disk_clo _ _ rfl rfl rfl | exact arm_clo _ _ | (simp; exact ⟨rfl, rfl⟩) | (simp; exact ⟨rfl, rfl, rfl⟩)), trivial⟩ ⟨rfl, rfl, rfl, rfl, trivial⟩)
  · rintro i hi
    refine awp_seq ?_
    refine awp_region ?_
    refine al_d rfl rfl rfl (by exact opd_lss rfl rfl rfl) ?_
    refine al_nil ?_
    refine awp_seq ?_
    refine awp_cond rfl (fun hc1 => ?_) (fun hc1 => ?_)
    -- cond 1
    · have hlt : i < m := by have := of_decide_eq_true hc1; omega
      obtain ⟨p, hp⟩ := get_of_lt (show i < s.q.length by omega)
      have hpe : (qRows s.q)[0 + i]? = some ((encQ p).map .pv) := by rw [Nat.zero_add, List.getElem?_map, hp]; rfl
      obtain ⟨hp1, hp2⟩ := hs.q p (List.mem_of_getElem? hp)
      have hset := setN_c { s with cells := putAll s.cells (s.q.take i) } p.1 p.2 (put_ok hs i) (by simpa [putAll_len] using hp1) hp2
      have hn : putAll s.cells (s.q.take (i + 1)) = (putAll s.cells (s.q.take i)).set p.1 p.2 := by rw [take_snoc hp, putAll_snoc]
      rw [← hn] at hset
      refine awp_skip ?_
      refine awp_seq ?_
      refine awp_block ?_
      refine awp_seq ?_
      refine awp_region ?_
      refine al_d rfl rfl rfl (by exact (by first | exact x_index_pad rfl so91 rfl rfl (by omega) (by first | exact Int.toNat_natCast _ | rfl) (by assumption) rfl | exact x_index_osl rfl so91 rfl rfl rfl rfl rfl (by omega) (by first | exact Int.toNat_natCast _ | rfl) (by first | omega | assumption) rfl)) ?_
      refine al_d rfl rfl rfl (by exact (by first | exact opd_loadn_ref rfl Try.isAgg104 Try.sizeOf104 rfl rfl rfl hpe (by simp only [List.drop_succ_cons, List.drop_zero, List.take_succ_cons, List.take_zero, List.take_nil, List.map_cons, List.map_nil, List.set_cons_zero, List.set_cons_succ, List.cons_append, List.nil_append, encQ]; rfl) rfl | exact opd_loadn_pad rfl Try.isAgg104 Try.sizeOf104 rfl hpe (by simp only [List.drop_succ_cons, List.drop_zero, List.take_succ_cons, List.take_zero, List.take_nil, List.map_cons, List.map_nil, List.set_cons_zero, List.set_cons_succ, List.cons_append, List.nil_append, encQ]; rfl) rfl)) ?_
      refine al_d rfl rfl rfl (by exact x_alloc (id := 5) rfl zo104 rfl rfl) ?_
      refine al_n rfl rfl (by exact (by first | exact x_store_all rfl Try.sizeOf104 rfl rfl rfl rfl rfl rfl rfl rfl | exact x_store rfl Try.sizeOf104 rfl rfl rfl rfl rfl rfl rfl (by simp only [List.length_cons, List.length_nil]; omega) (by simp only [List.drop_succ_cons, List.drop_zero, List.take_succ_cons, List.take_zero, List.take_nil, List.map_cons, List.map_nil, List.set_cons_zero, List.set_cons_succ, List.cons_append, List.nil_append, encQ]; rfl) (by simp only [List.drop_succ_cons, List.drop_zero, List.take_succ_cons, List.take_zero, List.take_nil, List.map_cons, List.map_nil, List.set_cons_zero, List.set_cons_succ, List.cons_append, List.nil_append, encQ]; rfl))) ?_
      refine al_nil ?_
      refine awp_region ?_
      refine al_d rfl rfl rfl (by exact opd_move rfl rfl) ?_
      refine al_d rfl rfl rfl (by exact (by first | exact opd_field_ref rfl fo104_0 rfl rfl rfl rfl | exact opd_field_pad rfl fo104_0 rfl rfl)) ?_
      refine al_d rfl rfl rfl (by exact (by first | exact opd_loadn_ref rfl Try.isAgg100 Try.sizeOf100 rfl rfl rfl rfl rfl rfl | exact opd_loadn_pad rfl Try.isAgg100 Try.sizeOf100 rfl (by first | omega | assumption) rfl rfl)) ?_
      refine al_d rfl rfl rfl (by exact (by first | exact opd_field_ref rfl fo104_1 rfl rfl rfl rfl | exact opd_field_pad rfl fo104_1 rfl rfl)) ?_
      refine al_d rfl rfl rfl (by exact (by first | exact opd_load1_ref rfl Try.isAgg9 rfl rfl rfl rfl rfl | exact opd_load1_pad rfl Try.isAgg9 rfl (by first | omega | assumption) rfl)) ?_
      refine al_d rfl rfl rfl (by exact opr_call rfl rfl Try.call61 rfl (disk_frame hset _ ⟨rfl, rfl, rfl, rfl, trivial⟩ (by first | (simp; done) | (simp; rfl) | (simp; exact ⟨rfl, rfl⟩)))) ?_
      refine al_nil ?_
      refine awp_region ?_
      refine al_d rfl rfl rfl (by exact opd_add rfl rfl rfl (by first | exact w64 (by omega) (by omega) | exact wu8 (by omega) (by omega) | rfl)) ?_
      refine al_d rfl rfl rfl (by exact opd_move rfl rfl) ?_
      refine al_nil ?_
      -- end of a round
      refine ⟨i + 1, by omega, by omega, ?_⟩
      exact (Ent.wk ⟨⟨_, rfl, rfl⟩, (by first | (simp; done) | (simp; rfl) | exact clo_map _ _ _ | exact clo_brows _ _ | exact disk_clo _ _ rfl rfl rfl | exact arm_clo _ _ | (simp; exact ⟨rfl, rfl⟩) | (simp; exact ⟨rfl, rfl, rfl⟩)), ⟨_, rfl, rfl⟩, (by first | (simp; done) | (simp; rfl) | exact clo_map _ _ _ | exact clo_brows _ _ | exact disk_clo _ _ rfl rfl rfl | exact arm_clo _ _ | (simp; exact ⟨rfl, rfl⟩) | (simp; exact ⟨rfl, rfl, rfl⟩)), ⟨_, rfl, rfl⟩, (by first | (simp; done) | (simp; rfl) | exact clo_map _ _ _ | exact clo_brows _ _ | exact disk_clo _ _ rfl rfl rfl | exact arm_clo _ _ | (simp; exact ⟨rfl, rfl⟩) | (simp; exact ⟨rfl, rfl, rfl⟩)), ⟨_, rfl, rfl⟩, (by first | (simp; done) | (simp; rfl) | exact clo_map _ _ _ | exact clo_brows _ _ | exact disk_clo _ _ rfl rfl rfl | exact arm_clo _ _ | (simp; exact ⟨rfl, rfl⟩) | (simp; exact ⟨rfl, rfl, rfl⟩)), trivial⟩ ⟨⟨_, rfl, rfl⟩, (by first | (simp; done) | (simp; rfl) | exact clo_map _ _ _ | exact clo_brows _ _ | exact disk_clo _ _ rfl rfl rfl | exact arm_clo _ _ | (simp; exact ⟨rfl, rfl⟩) | (simp; exact ⟨rfl, rfl, rfl⟩)), ⟨_, rfl, rfl⟩, (by first | (simp; done) | (simp; rfl) | exact clo_map _ _ _ | exact clo_brows _ _ | exact disk_clo _ _ rfl rfl rfl | exact arm_clo _ _ | (simp; exact ⟨rfl, rfl⟩) | (simp; exact ⟨rfl, rfl, rfl⟩)), ⟨_, rfl, rfl⟩, (by first | (simp; done) | (simp; rfl) | exact clo_map _ _ _ | exact clo_brows _ _ | exact disk_clo _ _ rfl rfl rfl | exact arm_clo _ _ | (simp; exact ⟨rfl, rfl⟩) | (simp; exact ⟨rfl, rfl, rfl⟩)), ⟨_, rfl, rfl⟩, (by first | (simp; done) | (simp; rfl) | exact clo_map _ _ _ | exact clo_brows _ _ | exact disk_clo _ _ rfl rfl rfl | exact arm_clo _ _ | (simp; exact ⟨rfl, rfl⟩) | (simp; exact ⟨rfl, rfl, rfl⟩)), trivial⟩ ⟨rfl, rfl, rfl, rfl, trivial⟩)
    · have hge : i = m := by have : ¬ _ := of_decide_eq_false hc1; omega
      subst hge
      refine awp_exit ?_
      -- end of the body
      refine aret0 (H' := diskH { s with cells := putAll s.cells (s.q.take i) }) (by first | exact .inr rfl | exact .inl rfl) rfl  (Fin.wk (by first | (simp; done) | (simp; rfl)) ⟨⟨_, rfl, rfl⟩, (by first | (simp; done) | (simp; rfl) | exact clo_map _ _ _ | exact clo_brows _ _ | exact disk_clo _ _ rfl rfl rfl | exact arm_clo _ _ | (simp; exact ⟨rfl, rfl⟩) | (simp; exact ⟨rfl, rfl, rfl⟩)), ⟨_, rfl, rfl⟩, (by first | (simp; done) | (simp; rfl) | exact clo_map _ _ _ | exact clo_brows _ _ | exact disk_clo _ _ rfl rfl rfl | exact arm_clo _ _ | (simp; exact ⟨rfl, rfl⟩) | (simp; exact ⟨rfl, rfl, rfl⟩)), ⟨_, rfl, rfl⟩, (by first | (simp; done) | (simp; rfl) | exact clo_map _ _ _ | exact clo_brows _ _ | exact disk_clo _ _ rfl rfl rfl | exact arm_clo _ _ | (simp; exact ⟨rfl, rfl⟩) | (simp; exact ⟨rfl, rfl, rfl⟩)), ⟨_, rfl, rfl⟩, (by first | (simp; done) | (simp; rfl) | exact clo_map _ _ _ | exact clo_brows _ _ | exact disk_clo _ _ rfl rfl rfl | exact arm_clo _ _ | (simp; exact ⟨rfl, rfl⟩) | (simp; exact ⟨rfl, rfl, rfl⟩)), trivial⟩ ⟨rfl, rfl, rfl, rfl, trivial⟩) ?_
      exact ⟨rfl, rfl⟩
/-! ### Fail -/
def disarm : Arm → Arm
  | .never => .never
  | .off a w b => .off a w b
  | .on a w b => .off a w b
theorem disarm_row (a : Arm) : armR (disarm a) = armR a := by cases a <;> rfl
theorem disarm_val (g : Nat) (a : Arm) : armV g (disarm a) = .pv .nilp := by cases a <;> rfl
/-- The torn write. -/
def torn (cells : List ByteArray) (b : Int) : Option (Nat × ByteArray) → List ByteArray
  | none => cells
  | some p => if 0 < b then cells.set p.1 (over (p.2.extract 0 (min b 64).toNat) ((cells[p.1]?).getD ⟨#[]⟩)) else cells
def failN (s : DSt) (w : Int) : Nat := min w.toNat s.q.length
def failC (s : DSt) (w b : Int) : List ByteArray := torn (putAll s.cells (s.q.take (failN s w))) b (s.q[failN s w]?)
def dFail (s : DSt) (w b : Int) : DSt := if s.off then s else { s with cells := failC s w b, q := [], off := true, arm := disarm s.arm, gq := s.gq + 1 }
theorem torn_len (cells : List ByteArray) (b : Int) (p : Option (Nat × ByteArray)) : (torn cells b p).length = cells.length := by
  unfold torn; split
  · rfl
  · split <;> simp
theorem failC_len (s : DSt) (w b : Int) : (failC s w b).length = s.cells.length := by rw [failC, torn_len, putAll_len]
/-- The heap behind a failure. -/
abbrev failH (s : DSt) (l : List ByteArray) : Heap := [(1000, ⟨0, 4, 94, [[.osl 1001 0 0 (64 * l.length), .osl 1002 (s.gq + 1) 0 0, bv true, .pv .nilp]]⟩), (1001, ⟨0, 1, 5, brows (flat l)⟩), (1002, ⟨s.gq + 1, 3, 104, []⟩), (1003, ⟨s.ga, 3, 110, armR s.arm⟩)]
theorem failH_eq (s : DSt) (w b : Int) (h : s.off = false) : failH s (failC s w b) = diskH (dFail s w b) := by
  simp only [dFail, h, Bool.false_eq_true, if_false, diskH, dRow, disarm_row, disarm_val, List.length_nil, List.map_nil]
theorem ext_size {t : ByteArray} {k : Nat} (h : k ≤ t.size) : (t.extract 0 k).size = k := by simp; omega
theorem fail_c (s : DSt) (w b : Int) (hs : DOk s) :
    ACalls Try.prog 35 [.ref 1000 0 0 0, iv w, iv b] (diskH s) (fun r H' => r = .tup [] ∧ H' = diskH (dFail s w b)) := by
  have hql := hs.ql
  obtain ⟨m, hm⟩ : ∃ m, m = failN s w := ⟨_, rfl⟩
  have hmw : min (max w 0) (s.q.length : Int) = (m : Int) := by rw [hm]; unfold failN; omega
  have hml : m ≤ s.q.length := by rw [hm]; unfold failN; omega
  have hpo := put_ok hs m
  refine ACalls.body Try.func35 rfl Try.ntmps35 (Nat.le_of_ble_eq_true rfl) ?_
  refine awp_seq ?_
  refine awp_seq ?_
  refine awp_bool (t := 16) (n := 9) (X := s.off) ?_ ?_
  · all_goals (refine al_d rfl rfl rfl (by exact opd_move rfl rfl) ?_)
    all_goals (refine al_d rfl rfl rfl (by exact (by first | exact opd_peq_ref rfl Try.underlying46 rfl rfl rfl rfl | exact opd_peq_nil rfl Try.underlying46 rfl rfl)) ?_)
    all_goals (refine al_d rfl rfl rfl (by exact opd_move rfl rfl) ?_)
    all_goals (first | refine al_split (t := 11) rfl (fun h11 => ?_) (fun h11 => ?_) | skip)
    all_goals (try contradiction)
    all_goals (first | refine al_off rfl rfl rfl rfl rfl ?_ | refine al_offu rfl rfl rfl rfl ?_ | refine al_ond rfl rfl rfl rfl rfl rfl (by exact opd_move rfl rfl) ?_)
    all_goals (first | refine al_off rfl rfl rfl rfl rfl ?_ | refine al_offu rfl rfl rfl rfl ?_ | refine al_ond rfl rfl rfl rfl rfl rfl (by exact (by first | exact opd_nilCheck_ref rfl rfl rfl rfl | exact opd_nilCheck_fn rfl rfl)) ?_)
    all_goals (first | refine al_off rfl rfl rfl rfl rfl ?_ | refine al_offu rfl rfl rfl rfl ?_ | refine al_ond rfl rfl rfl rfl rfl rfl (by exact (by first | exact opd_field_ref rfl fo94_2 rfl rfl rfl rfl | exact opd_field_pad rfl fo94_2 rfl rfl)) ?_)
    all_goals (first | refine al_off rfl rfl rfl rfl rfl ?_ | refine al_offu rfl rfl rfl rfl ?_ | refine al_ond rfl rfl rfl rfl rfl rfl (by exact (by first | exact opd_load1_ref rfl Try.isAgg4 rfl rfl rfl rfl rfl | exact opd_load1_pad rfl Try.isAgg4 rfl (by first | omega | assumption) rfl)) ?_)
    all_goals (refine al_d rfl rfl rfl (by exact (by first | exact opd_pick_t rfl rfl rfl | exact opd_pick_f rfl rfl rfl | exact opd_pickt rfl rfl (by assumption) rfl | exact opd_pickf rfl rfl (by assumption) rfl | exact opd_pick rfl rfl rfl)) ?_)
    all_goals (refine al_nil ?_)
    all_goals (exact ⟨⟨_, rfl, by first | rfl | (simp only [s, *]; rfl) | (simp_all [s]; done) | (simp only [*, Bool.false_and, Bool.true_and, Bool.and_false, Bool.and_true, Bool.true_or, Bool.false_or, Bool.or_true, Bool.or_false, Bool.not_true, Bool.not_false]; done) | (simp_all; omega) | (simp_all [s]; omega)⟩, rfl, rfl, rfl⟩)
  refine awp_cond rfl (fun hc1 => ?_) (fun hc1 => ?_)
  -- cond 1
  · skip
    refine awp_ret ?_
    -- return
    refine aret0 (H' := diskH s) (by first | exact .inr rfl | exact .inl rfl) rfl  (Fin.wk (by first | (simp; done) | (simp; rfl)) ⟨⟨_, rfl, rfl⟩, (by first | (simp; done) | (simp; rfl) | exact clo_map _ _ _ | exact clo_brows _ _ | exact disk_clo _ _ rfl rfl rfl | exact arm_clo _ _ | (simp; exact ⟨rfl, rfl⟩) | (simp; exact ⟨rfl, rfl, rfl⟩)), ⟨_, rfl, rfl⟩, (by first | (simp; done) | (simp; rfl) | exact clo_map _ _ _ | exact clo_brows _ _ | exact disk_clo _ _ rfl rfl rfl | exact arm_clo _ _ | (simp; exact ⟨rfl, rfl⟩) | (simp; exact ⟨rfl, rfl, rfl⟩)), ⟨_, rfl, rfl⟩, (by first | (simp; done) | (simp; rfl) | exact clo_map _ _ _ | exact clo_brows _ _ | exact disk_clo _ _ rfl rfl rfl | exact arm_clo _ _ | (simp; exact ⟨rfl, rfl⟩) | (simp; exact ⟨rfl, rfl, rfl⟩)), ⟨_, rfl, rfl⟩, (by first | (simp; done) | (simp; rfl) | exact clo_map _ _ _ | exact clo_brows _ _ | exact disk_clo _ _ rfl rfl rfl | exact arm_clo _ _ | (simp; exact ⟨rfl, rfl⟩) | (simp; exact ⟨rfl, rfl, rfl⟩)), trivial⟩ ⟨rfl, rfl, rfl, rfl, trivial⟩) ?_
    exact ⟨rfl, by simp [dFail, hc1]⟩
  · have hdf := failH_eq s w b hc1
    refine awp_skip ?_
    refine awp_seq ?_
    refine awp_region ?_
    refine al_d rfl rfl rfl (by exact opd_move rfl rfl) ?_
    refine al_d rfl rfl rfl (by exact opd_max rfl rfl rfl rfl) ?_
    refine al_d rfl rfl rfl (by exact opd_move rfl rfl) ?_
    refine al_d rfl rfl rfl (by exact (by first | exact opd_nilCheck_ref rfl rfl rfl rfl | exact opd_nilCheck_fn rfl rfl)) ?_
    refine al_d rfl rfl rfl (by exact (by first | exact opd_field_ref rfl fo94_1 rfl rfl rfl rfl | exact opd_field_pad rfl fo94_1 rfl rfl)) ?_
    refine al_d rfl rfl rfl (by exact (by first | exact opd_load1_ref rfl Try.isAgg91 rfl rfl rfl rfl rfl | exact opd_load1_pad rfl Try.isAgg91 rfl (by first | omega | assumption) rfl)) ?_
    refine al_d rfl rfl rfl (by exact (by first | exact opd_len_sl rfl Try.underlying91 rfl | exact opd_len_osl rfl Try.underlying91 rfl rfl rfl)) ?_
    refine al_d rfl rfl rfl (by exact opd_min rfl rfl rfl hmw) ?_
    refine al_d rfl rfl rfl (by exact opd_assign rfl rfl) ?_
    refine al_nil ?_
    refine awp_seq ?_
    refine awp_region ?_
    refine al_d rfl rfl rfl (by exact opd_move rfl rfl) ?_
    refine al_d rfl rfl rfl (by exact opd_move rfl rfl) ?_
    refine al_d rfl rfl rfl (by exact (by first | exact opd_nilCheck_ref rfl rfl rfl rfl | exact opd_nilCheck_fn rfl rfl)) ?_
    refine al_d rfl rfl rfl (by exact (by first | exact opd_field_ref rfl fo94_1 rfl rfl rfl rfl | exact opd_field_pad rfl fo94_1 rfl rfl)) ?_
    refine al_d rfl rfl rfl (by exact (by first | exact opd_load1_ref rfl Try.isAgg91 rfl rfl rfl rfl rfl | exact opd_load1_pad rfl Try.isAgg91 rfl (by first | omega | assumption) rfl)) ?_
    refine al_d rfl rfl rfl (by exact opd_move rfl rfl) ?_
    refine al_d rfl rfl rfl (by exact (by first | exact x_slice_sl (l := 0) (h := m) rfl so91 rfl (by assumption) rfl rfl (by first | omega | assumption) (by first | omega | assumption) rfl | exact x_slice_osl (l := 0) (h := m) rfl so91 rfl rfl rfl rfl rfl rfl (by first | omega | assumption) (by first | omega | assumption) rfl rfl)) ?_
    refine al_d rfl rfl rfl (by exact opr_call rfl rfl Try.call60 rfl (disk_frame (settle_c s m hs hml) _ ⟨rfl, rfl, rfl, rfl, trivial⟩ (by first | (simp; done) | (simp; rfl) | (simp; exact ⟨rfl, rfl⟩)))) ?_
    refine al_nil ?_
    refine awp_seq ?_
    refine awp_seq ?_
    refine awp_region ?_
    refine al_d rfl rfl rfl (by exact opd_move rfl rfl) ?_
    refine al_d rfl rfl rfl (by exact opd_move rfl rfl) ?_
    refine al_d rfl rfl rfl (by exact (by first | exact opd_nilCheck_ref rfl rfl rfl rfl | exact opd_nilCheck_fn rfl rfl)) ?_
    refine al_d rfl rfl rfl (by exact (by first | exact opd_field_ref rfl fo94_1 rfl rfl rfl rfl | exact opd_field_pad rfl fo94_1 rfl rfl)) ?_
    refine al_d rfl rfl rfl (by exact (by first | exact opd_load1_ref rfl Try.isAgg91 rfl rfl rfl rfl rfl | exact opd_load1_pad rfl Try.isAgg91 rfl (by first | omega | assumption) rfl)) ?_
    refine al_d rfl rfl rfl (by exact (by first | exact opd_len_sl rfl Try.underlying91 rfl | exact opd_len_osl rfl Try.underlying91 rfl rfl rfl)) ?_
    refine al_d rfl rfl rfl (by exact opd_lss rfl rfl rfl) ?_
    refine al_nil ?_
    refine awp_cond rfl (fun hc2 => ?_) (fun hc2 => ?_)
    -- cond 2
    · have hlt : m < s.q.length := Int.ofNat_lt.1 (of_decide_eq_true hc2)
      obtain ⟨p, hp⟩ := get_of_lt hlt
      have hpe : (qRows s.q)[0 + m]? = some ((encQ p).map .pv) := by rw [Nat.zero_add, List.getElem?_map, hp]; rfl
      obtain ⟨hp1, hp2⟩ := hs.q p (List.mem_of_getElem? hp)
      have hkm : min (max b 0) 64 = ((min b 64).toNat : Int) := by omega
      have hkl : (min b 64).toNat ≤ 64 := by omega
      refine awp_seq ?_
      refine awp_region ?_
      refine al_d rfl rfl rfl (by exact opd_move rfl rfl) ?_
      refine al_d rfl rfl rfl (by exact (by first | exact opd_nilCheck_ref rfl rfl rfl rfl | exact opd_nilCheck_fn rfl rfl)) ?_
      refine al_d rfl rfl rfl (by exact (by first | exact opd_field_ref rfl fo94_1 rfl rfl rfl rfl | exact opd_field_pad rfl fo94_1 rfl rfl)) ?_
      refine al_d rfl rfl rfl (by exact (by first | exact opd_load1_ref rfl Try.isAgg91 rfl rfl rfl rfl rfl | exact opd_load1_pad rfl Try.isAgg91 rfl (by first | omega | assumption) rfl)) ?_
      refine al_d rfl rfl rfl (by exact opd_move rfl rfl) ?_
      refine al_d rfl rfl rfl (by exact (by first | exact x_index_pad rfl so91 rfl rfl (by omega) (by first | exact Int.toNat_natCast _ | rfl) (by assumption) rfl | exact x_index_osl rfl so91 rfl rfl rfl rfl rfl (by omega) (by first | exact Int.toNat_natCast _ | rfl) (by first | omega | assumption) rfl)) ?_
      refine al_d rfl rfl rfl (by exact (by first | exact opd_loadn_ref rfl Try.isAgg104 Try.sizeOf104 rfl rfl rfl hpe (by simp only [List.drop_succ_cons, List.drop_zero, List.take_succ_cons, List.take_zero, List.take_nil, List.map_cons, List.map_nil, List.set_cons_zero, List.set_cons_succ, List.cons_append, List.nil_append, encQ]; rfl) rfl | exact opd_loadn_pad rfl Try.isAgg104 Try.sizeOf104 rfl hpe (by simp only [List.drop_succ_cons, List.drop_zero, List.take_succ_cons, List.take_zero, List.take_nil, List.map_cons, List.map_nil, List.set_cons_zero, List.set_cons_succ, List.cons_append, List.nil_append, encQ]; rfl) rfl)) ?_
      refine al_d rfl rfl rfl (by exact x_alloc (id := 7) rfl zo104 rfl rfl) ?_
      refine al_n rfl rfl (by exact (by first | exact x_store_all rfl Try.sizeOf104 rfl rfl rfl rfl rfl rfl rfl rfl | exact x_store rfl Try.sizeOf104 rfl rfl rfl rfl rfl rfl rfl (by simp only [List.length_cons, List.length_nil]; omega) (by simp only [List.drop_succ_cons, List.drop_zero, List.take_succ_cons, List.take_zero, List.take_nil, List.map_cons, List.map_nil, List.set_cons_zero, List.set_cons_succ, List.cons_append, List.nil_append, encQ]; rfl) (by simp only [List.drop_succ_cons, List.drop_zero, List.take_succ_cons, List.take_zero, List.take_nil, List.map_cons, List.map_nil, List.set_cons_zero, List.set_cons_succ, List.cons_append, List.nil_append, encQ]; rfl))) ?_
      refine al_nil ?_
      refine awp_seq ?_
      refine awp_region ?_
      refine al_d rfl rfl rfl (by exact opd_move rfl rfl) ?_
      refine al_d rfl rfl rfl (by exact opd_max rfl rfl rfl rfl) ?_
      refine al_d rfl rfl rfl (by exact opd_min rfl rfl rfl hkm) ?_
      refine al_d rfl rfl rfl (by exact opd_assign rfl rfl) ?_
      refine al_nil ?_
      refine awp_seq ?_
      refine awp_region ?_
      refine al_d rfl rfl rfl (by exact opd_move rfl rfl) ?_
      refine al_d rfl rfl rfl (by exact opd_gtr rfl rfl rfl) ?_
      refine al_nil ?_
      refine awp_cond rfl (fun hc3 => ?_) (fun hc3 => ?_)
      -- cond 3
      · have hb : 0 < b := by have := of_decide_eq_true hc3; omega
        obtain ⟨c, hc⟩ := get_of_lt (show p.1 < (putAll s.cells (s.q.take m)).length by rw [putAll_len]; exact hp1)
        have hts : (p.2.extract 0 (min b 64).toNat).size ≤ 64 := by rw [ext_size (by omega)]; exact hkl
        have hset := set_c { s with cells := putAll s.cells (s.q.take m) } p.1 c (p.2.extract 0 (min b 64).toNat) hpo hc hts
        have hfc : failC s w b = (putAll s.cells (s.q.take m)).set p.1 (over (p.2.extract 0 (min b 64).toNat) c) := by
          rw [failC, ← hm, hp]; simp only [torn, if_pos hb, hc, Option.getD_some]
        rw [hfc] at hdf
        refine awp_drawc follows ?_
        refine dc_cons (r := ⟨_, some [], []⟩) (DStep.plain rfl (fun H1 hH => by exact opd_move rfl rfl)) rfl ?_
        refine dc_cons (r := ⟨_, some [7], []⟩) (DStep.plain rfl (fun H1 hH => by exact (by first | exact opd_field_ref rfl fo104_0 rfl ((hH _ rfl).trans rfl) rfl rfl | exact opd_field_pad rfl fo104_0 rfl rfl))) rfl ?_
        refine dc_cons (r := ⟨_, some [7], []⟩) (DStep.plain rfl (fun H1 hH => by exact (by first | exact opd_loadn_ref rfl Try.isAgg100 Try.sizeOf100 rfl ((hH _ rfl).trans rfl) rfl rfl rfl rfl | exact opd_loadn_pad rfl Try.isAgg100 Try.sizeOf100 rfl (by first | omega | assumption) rfl rfl))) rfl ?_
        refine dc_cons (r := ⟨_, some [7], []⟩) (DStep.plain rfl (fun H1 hH => by exact (by first | exact opd_field_ref rfl fo104_1 rfl ((hH _ rfl).trans rfl) rfl rfl | exact opd_field_pad rfl fo104_1 rfl rfl))) rfl ?_
        refine dc_cons (r := ⟨_, some [7], []⟩) (DStep.plain rfl (fun H1 hH => by exact (by first | exact opd_load1_ref rfl Try.isAgg9 rfl ((hH _ rfl).trans rfl) rfl rfl rfl | exact opd_load1_pad rfl Try.isAgg9 rfl (by first | omega | assumption) rfl))) rfl ?_
        refine dc_cons (r := ⟨_, some [], []⟩) (DStep.plain rfl (fun H1 hH => by exact opd_move rfl rfl)) rfl ?_
        refine dc_cons (r := ⟨_, some [], []⟩) (DStep.plain rfl (fun H1 hH => by exact opd_slice_str (l := 0) (h := (min b 64).toNat) rfl Try.underlying9 rfl rfl rfl (by omega) (by omega) rfl)) rfl ?_
        refine dc_cons (r := ⟨_, some [1000, 1001, 1002, 1003], _⟩) (DStep.plain rfl (fun H1 hH => by exact opr_call rfl rfl Try.call61 rfl (disk_frame hset _ ⟨(hH 1000 rfl).trans rfl, (hH 1001 rfl).trans rfl, (hH 1002 rfl).trans rfl, (hH 1003 rfl).trans rfl, trivial⟩ (by simp; rfl)))) rfl ?_
        refine dc_nil ⟨by kernel_rfl, ?_⟩
        refine awp_seq ?_
        refine awp_region ?_
        refine al_d rfl rfl rfl (by exact opd_move rfl rfl) ?_
        refine al_d rfl rfl rfl (by exact (by first | exact opd_nilCheck_ref rfl rfl rfl rfl | exact opd_nilCheck_fn rfl rfl)) ?_
        refine al_d rfl rfl rfl (by exact (by first | exact opd_field_ref rfl fo94_1 rfl rfl rfl rfl | exact opd_field_pad rfl fo94_1 rfl rfl)) ?_
        refine al_n rfl rfl (by exact opd_store_nil (q := 1002) (sz := 3) (ty := 104) rfl Try.sizeOf91 rfl rfl rfl rfl rfl rfl rfl rfl (by simp) (by simp only [dRow, List.set_cons_succ, List.set_cons_zero]; rfl) (by simp only [List.set_cons_zero]; rfl)) ?_
        refine al_nil ?_
        refine awp_seq ?_
        refine awp_region ?_
        refine al_d rfl rfl rfl (by exact opd_move rfl rfl) ?_
        refine al_d rfl rfl rfl (by exact (by first | exact opd_nilCheck_ref rfl rfl rfl rfl | exact opd_nilCheck_fn rfl rfl)) ?_
        refine al_d rfl rfl rfl (by exact (by first | exact opd_field_ref rfl fo94_2 rfl rfl rfl rfl | exact opd_field_pad rfl fo94_2 rfl rfl)) ?_
        refine al_n rfl rfl (by exact (by first | exact x_store_all rfl Try.sizeOf4 rfl rfl rfl rfl rfl rfl rfl rfl | exact x_store1 rfl Try.sizeOf4 rfl rfl rfl rfl rfl rfl (by simp only [List.length_cons, List.length_nil]; omega) (by simp only [List.drop_succ_cons, List.drop_zero, List.take_succ_cons, List.take_zero, List.take_nil, List.map_cons, List.map_nil, List.set_cons_zero, List.set_cons_succ, List.cons_append, List.nil_append, encQ]; rfl) (by simp only [List.drop_succ_cons, List.drop_zero, List.take_succ_cons, List.take_zero, List.take_nil, List.map_cons, List.map_nil, List.set_cons_zero, List.set_cons_succ, List.cons_append, List.nil_append, encQ]; rfl))) ?_
        refine al_nil ?_
        refine awp_region ?_
        refine al_d rfl rfl rfl (by exact opd_move rfl rfl) ?_
        refine al_d rfl rfl rfl (by exact (by first | exact opd_nilCheck_ref rfl rfl rfl rfl | exact opd_nilCheck_fn rfl rfl)) ?_
        refine al_d rfl rfl rfl (by exact (by first | exact opd_field_ref rfl fo94_3 rfl rfl rfl rfl | exact opd_field_pad rfl fo94_3 rfl rfl)) ?_
        refine al_n rfl rfl (by exact (by first | exact x_store_all rfl Try.sizeOf92 rfl rfl rfl rfl rfl rfl rfl rfl | exact x_store1 rfl Try.sizeOf92 rfl rfl rfl rfl rfl rfl (by simp only [List.length_cons, List.length_nil]; omega) (by simp only [List.drop_succ_cons, List.drop_zero, List.take_succ_cons, List.take_zero, List.take_nil, List.map_cons, List.map_nil, List.set_cons_zero, List.set_cons_succ, List.cons_append, List.nil_append, encQ]; rfl) (by simp only [List.drop_succ_cons, List.drop_zero, List.take_succ_cons, List.take_zero, List.take_nil, List.map_cons, List.map_nil, List.set_cons_zero, List.set_cons_succ, List.cons_append, List.nil_append, encQ]; rfl))) ?_
        refine al_nil ?_
        -- end of the body
        refine aret0 (H' := failH s ((putAll s.cells (s.q.take m)).set p.1 (over (p.2.extract 0 (min b 64).toNat) c))) (by first | exact .inr rfl | exact .inl rfl) rfl  (Fin.wk (by first | (simp; done) | (simp; rfl)) ⟨⟨_, rfl, rfl⟩, (by first | (simp; done) | (simp; rfl) | exact clo_map _ _ _ | exact clo_brows _ _ | exact disk_clo _ _ rfl rfl rfl | exact arm_clo _ _ | (simp; exact ⟨rfl, rfl⟩) | (simp; exact ⟨rfl, rfl, rfl⟩)), ⟨_, rfl, rfl⟩, (by first | (simp; done) | (simp; rfl) | exact clo_map _ _ _ | exact clo_brows _ _ | exact disk_clo _ _ rfl rfl rfl | exact arm_clo _ _ | (simp; exact ⟨rfl, rfl⟩) | (simp; exact ⟨rfl, rfl, rfl⟩)), ⟨_, rfl, rfl⟩, (by first | (simp; done) | (simp; rfl) | exact clo_map _ _ _ | exact clo_brows _ _ | exact disk_clo _ _ rfl rfl rfl | exact arm_clo _ _ | (simp; exact ⟨rfl, rfl⟩) | (simp; exact ⟨rfl, rfl, rfl⟩)), ⟨_, rfl, rfl⟩, (by first | (simp; done) | (simp; rfl) | exact clo_map _ _ _ | exact clo_brows _ _ | exact disk_clo _ _ rfl rfl rfl | exact arm_clo _ _ | (simp; exact ⟨rfl, rfl⟩) | (simp; exact ⟨rfl, rfl, rfl⟩)), trivial⟩ ⟨rfl, rfl, rfl, rfl, trivial⟩) ?_
        exact ⟨rfl, hdf⟩
      · have hb : ¬ 0 < b := by have : ¬ _ := of_decide_eq_false hc3; omega
        have hfc : failC s w b = putAll s.cells (s.q.take m) := by
          rw [failC, ← hm, hp]; simp only [torn, if_neg hb]
        rw [hfc] at hdf
        refine awp_skip ?_
        refine awp_seq ?_
        refine awp_region ?_
        refine al_d rfl rfl rfl (by exact opd_move rfl rfl) ?_
        refine al_d rfl rfl rfl (by exact (by first | exact opd_nilCheck_ref rfl rfl rfl rfl | exact opd_nilCheck_fn rfl rfl)) ?_
        refine al_d rfl rfl rfl (by exact (by first | exact opd_field_ref rfl fo94_1 rfl rfl rfl rfl | exact opd_field_pad rfl fo94_1 rfl rfl)) ?_
        refine al_n rfl rfl (by exact opd_store_nil (q := 1002) (sz := 3) (ty := 104) rfl Try.sizeOf91 rfl rfl rfl rfl rfl rfl rfl rfl (by simp) (by simp only [dRow, List.set_cons_succ, List.set_cons_zero]; rfl) (by simp only [List.set_cons_zero]; rfl)) ?_
        refine al_nil ?_
        refine awp_seq ?_
        refine awp_region ?_
        refine al_d rfl rfl rfl (by exact opd_move rfl rfl) ?_
        refine al_d rfl rfl rfl (by exact (by first | exact opd_nilCheck_ref rfl rfl rfl rfl | exact opd_nilCheck_fn rfl rfl)) ?_
        refine al_d rfl rfl rfl (by exact (by first | exact opd_field_ref rfl fo94_2 rfl rfl rfl rfl | exact opd_field_pad rfl fo94_2 rfl rfl)) ?_
        refine al_n rfl rfl (by exact (by first | exact x_store_all rfl Try.sizeOf4 rfl rfl rfl rfl rfl rfl rfl rfl | exact x_store1 rfl Try.sizeOf4 rfl rfl rfl rfl rfl rfl (by simp only [List.length_cons, List.length_nil]; omega) (by simp only [List.drop_succ_cons, List.drop_zero, List.take_succ_cons, List.take_zero, List.take_nil, List.map_cons, List.map_nil, List.set_cons_zero, List.set_cons_succ, List.cons_append, List.nil_append, encQ]; rfl) (by simp only [List.drop_succ_cons, List.drop_zero, List.take_succ_cons, List.take_zero, List.take_nil, List.map_cons, List.map_nil, List.set_cons_zero, List.set_cons_succ, List.cons_append, List.nil_append, encQ]; rfl))) ?_
        refine al_nil ?_
        refine awp_region ?_
        refine al_d rfl rfl rfl (by exact opd_move rfl rfl) ?_
        refine al_d rfl rfl rfl (by exact (by first | exact opd_nilCheck_ref rfl rfl rfl rfl | exact opd_nilCheck_fn rfl rfl)) ?_
        refine al_d rfl rfl rfl (by exact (by first | exact opd_field_ref rfl fo94_3 rfl rfl rfl rfl | exact opd_field_pad rfl fo94_3 rfl rfl)) ?_
        refine al_n rfl rfl (by exact (by first | exact x_store_all rfl Try.sizeOf92 rfl rfl rfl rfl rfl rfl rfl rfl | exact x_store1 rfl Try.sizeOf92 rfl rfl rfl rfl rfl rfl (by simp only [List.length_cons, List.length_nil]; omega) (by simp only [List.drop_succ_cons, List.drop_zero, List.take_succ_cons, List.take_zero, List.take_nil, List.map_cons, List.map_nil, List.set_cons_zero, List.set_cons_succ, List.cons_append, List.nil_append, encQ]; rfl) (by simp only [List.drop_succ_cons, List.drop_zero, List.take_succ_cons, List.take_zero, List.take_nil, List.map_cons, List.map_nil, List.set_cons_zero, List.set_cons_succ, List.cons_append, List.nil_append, encQ]; rfl))) ?_
        refine al_nil ?_
        -- end of the body
        refine aret0 (H' := failH s (putAll s.cells (s.q.take m))) (by first | exact .inr rfl | exact .inl rfl) rfl  (Fin.wk (by first | (simp; done) | (simp; rfl)) ⟨⟨_, rfl, rfl⟩, (by first | (simp; done) | (simp; rfl) | exact clo_map _ _ _ | exact clo_brows _ _ | exact disk_clo _ _ rfl rfl rfl | exact arm_clo _ _ | (simp; exact ⟨rfl, rfl⟩) | (simp; exact ⟨rfl, rfl, rfl⟩)), ⟨_, rfl, rfl⟩, (by first | (simp; done) | (simp; rfl) | exact clo_map _ _ _ | exact clo_brows _ _ | exact disk_clo _ _ rfl rfl rfl | exact arm_clo _ _ | (simp; exact ⟨rfl, rfl⟩) | (simp; exact ⟨rfl, rfl, rfl⟩)), ⟨_, rfl, rfl⟩, (by first | (simp; done) | (simp; rfl) | exact clo_map _ _ _ | exact clo_brows _ _ | exact disk_clo _ _ rfl rfl rfl | exact arm_clo _ _ | (simp; exact ⟨rfl, rfl⟩) | (simp; exact ⟨rfl, rfl, rfl⟩)), ⟨_, rfl, rfl⟩, (by first | (simp; done) | (simp; rfl) | exact clo_map _ _ _ | exact clo_brows _ _ | exact disk_clo _ _ rfl rfl rfl | exact arm_clo _ _ | (simp; exact ⟨rfl, rfl⟩) | (simp; exact ⟨rfl, rfl, rfl⟩)), trivial⟩ ⟨rfl, rfl, rfl, rfl, trivial⟩) ?_
        exact ⟨rfl, hdf⟩
    · have hge : s.q.length ≤ m := Nat.not_lt.1 (fun h => of_decide_eq_false hc2 (Int.ofNat_lt.2 h))
      have hfc : failC s w b = putAll s.cells (s.q.take m) := by
        rw [failC, ← hm, List.getElem?_eq_none hge]; rfl
      rw [hfc] at hdf
      refine awp_skip ?_
      refine awp_seq ?_
      refine awp_region ?_
      refine al_d rfl rfl rfl (by exact opd_move rfl rfl) ?_
      refine al_d rfl rfl rfl (by exact (by first | exact opd_nilCheck_ref rfl rfl rfl rfl | exact opd_nilCheck_fn rfl rfl)) ?_
      refine al_d rfl rfl rfl (by exact (by first | exact opd_field_ref rfl fo94_1 rfl rfl rfl rfl | exact opd_field_pad rfl fo94_1 rfl rfl)) ?_
      refine al_n rfl rfl (by exact opd_store_nil (q := 1002) (sz := 3) (ty := 104) rfl Try.sizeOf91 rfl rfl rfl rfl rfl rfl rfl rfl (by simp) (by simp only [dRow, List.set_cons_succ, List.set_cons_zero]; rfl) (by simp only [List.set_cons_zero]; rfl)) ?_
      refine al_nil ?_
      refine awp_seq ?_
      refine awp_region ?_
      refine al_d rfl rfl rfl (by exact opd_move rfl rfl) ?_
      refine al_d rfl rfl rfl (by exact (by first | exact opd_nilCheck_ref rfl rfl rfl rfl | exact opd_nilCheck_fn rfl rfl)) ?_
      refine al_d rfl rfl rfl (by exact (by first | exact opd_field_ref rfl fo94_2 rfl rfl rfl rfl | exact opd_field_pad rfl fo94_2 rfl rfl)) ?_
      refine al_n rfl rfl (by exact (by first | exact x_store_all rfl Try.sizeOf4 rfl rfl rfl rfl rfl rfl rfl rfl | exact x_store1 rfl Try.sizeOf4 rfl rfl rfl rfl rfl rfl (by simp only [List.length_cons, List.length_nil]; omega) (by simp only [List.drop_succ_cons, List.drop_zero, List.take_succ_cons, List.take_zero, List.take_nil, List.map_cons, List.map_nil, List.set_cons_zero, List.set_cons_succ, List.cons_append, List.nil_append, encQ]; rfl) (by simp only [List.drop_succ_cons, List.drop_zero, List.take_succ_cons, List.take_zero, List.take_nil, List.map_cons, List.map_nil, List.set_cons_zero, List.set_cons_succ, List.cons_append, List.nil_append, encQ]; rfl))) ?_
      refine al_nil ?_
      refine awp_region ?_
      refine al_d rfl rfl rfl (by exact opd_move rfl rfl) ?_
      refine al_d rfl rfl rfl (by exact (by first | exact opd_nilCheck_ref rfl rfl rfl rfl | exact opd_nilCheck_fn rfl rfl)) ?_
      refine al_d rfl rfl rfl (by exact (by first | exact opd_field_ref rfl fo94_3 rfl rfl rfl rfl | exact opd_field_pad rfl fo94_3 rfl rfl)) ?_
      refine al_n rfl rfl (by exact (by first | exact x_store_all rfl Try.sizeOf92 rfl rfl rfl rfl rfl rfl rfl rfl | exact x_store1 rfl Try.sizeOf92 rfl rfl rfl rfl rfl rfl (by simp only [List.length_cons, List.length_nil]; omega) (by simp only [List.drop_succ_cons, List.drop_zero, List.take_succ_cons, List.take_zero, List.take_nil, List.map_cons, List.map_nil, List.set_cons_zero, List.set_cons_succ, List.cons_append, List.nil_append, encQ]; rfl) (by simp only [List.drop_succ_cons, List.drop_zero, List.take_succ_cons, List.take_zero, List.take_nil, List.map_cons, List.map_nil, List.set_cons_zero, List.set_cons_succ, List.cons_append, List.nil_append, encQ]; rfl))) ?_
      refine al_nil ?_
      -- end of the body
      refine aret0 (H' := failH s (putAll s.cells (s.q.take m))) (by first | exact .inr rfl | exact .inl rfl) rfl  (Fin.wk (by first | (simp; done) | (simp; rfl)) ⟨⟨_, rfl, rfl⟩, (by first | (simp; done) | (simp; rfl) | exact clo_map _ _ _ | exact clo_brows _ _ | exact disk_clo _ _ rfl rfl rfl | exact arm_clo _ _ | (simp; exact ⟨rfl, rfl⟩) | (simp; exact ⟨rfl, rfl, rfl⟩)), ⟨_, rfl, rfl⟩, (by first | (simp; done) | (simp; rfl) | exact clo_map _ _ _ | exact clo_brows _ _ | exact disk_clo _ _ rfl rfl rfl | exact arm_clo _ _ | (simp; exact ⟨rfl, rfl⟩) | (simp; exact ⟨rfl, rfl, rfl⟩)), ⟨_, rfl, rfl⟩, (by first | (simp; done) | (simp; rfl) | exact clo_map _ _ _ | exact clo_brows _ _ | exact disk_clo _ _ rfl rfl rfl | exact arm_clo _ _ | (simp; exact ⟨rfl, rfl⟩) | (simp; exact ⟨rfl, rfl, rfl⟩)), ⟨_, rfl, rfl⟩, (by first | (simp; done) | (simp; rfl) | exact clo_map _ _ _ | exact clo_brows _ _ | exact disk_clo _ _ rfl rfl rfl | exact arm_clo _ _ | (simp; exact ⟨rfl, rfl⟩) | (simp; exact ⟨rfl, rfl, rfl⟩)), trivial⟩ ⟨rfl, rfl, rfl, rfl, trivial⟩) ?_
      exact ⟨rfl, hdf⟩
end Go.Proofs.Ytljocbkebhgkoaa
