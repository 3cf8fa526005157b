/-
  CONTRACTS: lists of Ids compared. Conditions: lengths below 2^62.
-/
import Derived.Test.YtdgoodjhndeojaaE9
set_option linter.unusedVariables false
set_option linter.unusedSimpArgs false
set_option maxRecDepth 100000
namespace Go.Proofs.Ytdgoodjhndeojaa
open Go.Abs
def gBefore : List ByteArray → List ByteArray → Bool
  | [], b => decide ((0 : Int) < (b.length : Int))
  | _ :: _, [] => false
  | x :: a, y :: b => if x = y then gBefore a b else slt x y
theorem before_drop {a b : List ByteArray} {k : Nat} {x y : ByteArray} (hx : a[k]? = some x) (hy : b[k]? = some y) : gBefore (a.drop k) (b.drop k) = if x = y then gBefore (a.drop (k + 1)) (b.drop (k + 1)) else slt x y := by
  obtain ⟨h1, e1⟩ := List.getElem?_eq_some_iff.1 hx
  obtain ⟨h2, e2⟩ := List.getElem?_eq_some_iff.1 hy
  rw [List.drop_eq_getElem_cons h1, List.drop_eq_getElem_cons h2, e1, e2, gBefore]
theorem before_end {a b : List ByteArray} {k : Nat} (ha : k ≤ a.length) (hb : k ≤ b.length) (h : ¬ (k < a.length ∧ k < b.length)) : gBefore (a.drop k) (b.drop k) = decide ((a.length : Int) < (b.length : Int)) := by
  by_cases e : k = a.length
  · rw [List.drop_eq_nil_of_le (by omega), gBefore, List.length_drop]
    congr 1
    exact propext ⟨fun h => by omega, fun h => by omega⟩
  · have hb' : k = b.length := by omega
    have h1 : k < a.length := by omega
    rw [List.drop_eq_getElem_cons h1, show b.drop k = [] from List.drop_eq_nil_of_le (by omega), gBefore]
    exact (decide_eq_false (by omega)).symm
theorem before_c (a b : List ByteArray) (H : Heap) (ha : a.length < 4611686018427387904) (hb : b.length < 4611686018427387904) : ACalls Try.prog 77 [.pv (slStrs a), .pv (slStrs b)] H (fun r H' => r = bv (gBefore a b) ∧ H' = H) := by
  refine ACalls.pure ?_ (by simp) H
  have hma : (a.map encStr).length = a.length := List.length_map _
  have hmb : (b.map encStr).length = b.length := List.length_map _
  refine ACalls.body Try.func77 rfl Try.ntmps77 (Nat.le_of_ble_eq_true rfl) ?_
  refine awp_seq ?_
  refine awp_region ?_
  refine al_d rfl rfl rfl (by exact opd_assign rfl rfl) ?_
  refine al_nil ?_
  refine awp_seq ?_
  refine awp_seq ?_
  refine awp_region ?_
  refine al_d rfl rfl rfl (by exact opd_assign rfl rfl) ?_
  refine al_nil ?_
  refine awp_block ?_
  -- loop
  refine awp_loop (σ := Nat) (fun k => ([(0, .pv (slStrs a)), (1, .pv (slStrs b)), (5, iv (k : Int))], [])) (fun k => k ≤ a.length ∧ k ≤ b.length ∧ gBefore (a.drop k) (b.drop k) = gBefore a b) (fun k => a.length - k) 0 ⟨by omega, by omega, rfl⟩ ?_ ?_
  · exact (Ent.wk ⟨⟨_, rfl, rfl⟩, (by first | (simp; done) | (simp; rfl) | exact clo_map _ _ _), ⟨_, rfl, rfl⟩, (by first | (simp; done) | (simp; rfl) | exact clo_map _ _ _), ⟨_, rfl, rfl⟩, (by first | (simp; done) | (simp; rfl) | exact clo_map _ _ _), trivial⟩ trivial trivial)
  · rintro k ⟨hka, hkb, hno⟩
    refine awp_seq ?_
    refine awp_seq ?_
    refine awp_bool (t := 15) (n := 11) (X := decide ((k : Int) < ((a.map encStr).length : Int)) && decide ((k : Int) < ((b.map encStr).length : Int))) ?_ ?_
    · all_goals (refine al_d rfl rfl rfl (by exact opd_move rfl rfl) ?_)
      all_goals (refine al_d rfl rfl rfl (by exact opd_move rfl rfl) ?_)
      all_goals (refine al_d rfl rfl rfl (by exact (by first | exact opd_len_sl rfl Try.underlying28 rfl | exact opd_len_osl rfl Try.underlying28 rfl rfl rfl)) ?_)
      all_goals (refine al_d rfl rfl rfl (by exact opd_lss rfl rfl rfl) ?_)
      all_goals (refine al_d rfl rfl rfl (by exact opd_move rfl rfl) ?_)
      all_goals (first | refine al_split (t := 10) rfl (fun h10 => ?_) (fun h10 => ?_) | refine al_dup (t := 10) rfl ?_ | skip)
      all_goals (try contradiction)
      all_goals (first | refine al_off rfl rfl rfl rfl rfl ?_ | refine al_offu rfl rfl rfl rfl ?_ | refine al_ond rfl rfl rfl rfl rfl rfl (by exact opd_move rfl rfl) ?_)
      all_goals (first | refine al_off rfl rfl rfl rfl rfl ?_ | refine al_offu rfl rfl rfl rfl ?_ | refine al_ond rfl rfl rfl rfl rfl rfl (by exact opd_move rfl rfl) ?_)
      all_goals (first | refine al_off rfl rfl rfl rfl rfl ?_ | refine al_offu rfl rfl rfl rfl ?_ | refine al_ond rfl rfl rfl rfl rfl rfl (by exact (by first | exact opd_len_sl rfl Try.underlying28 rfl | exact opd_len_osl rfl Try.underlying28 rfl rfl rfl)) ?_)
      all_goals (first | refine al_off rfl rfl rfl rfl rfl ?_ | refine al_offu rfl rfl rfl rfl ?_ | refine al_ond rfl rfl rfl rfl rfl rfl (by exact opd_lss rfl rfl rfl) ?_)
      all_goals (refine al_d rfl rfl rfl (by exact (by first | exact opd_pick_t rfl rfl rfl | exact opd_pick_f rfl rfl rfl | exact opd_pickt rfl rfl (by assumption) rfl | exact opd_pickf rfl rfl (by assumption) rfl | exact opd_pick rfl rfl rfl)) ?_)
      all_goals (refine al_nil ?_)
      all_goals (exact ⟨⟨_, rfl, by first | rfl | (simp only [*, Bool.false_and, Bool.true_and, Bool.and_false, Bool.and_true, Bool.true_or, Bool.false_or, Bool.or_true, Bool.or_false, Bool.not_true, Bool.not_false]; done) | (simp_all; done) | (simp_all; omega)⟩, rfl, rfl, rfl⟩)
    refine awp_cond rfl (fun hc1 => ?_) (fun hc1 => ?_)
    -- cond 1
    · have hlt : k < a.length ∧ k < b.length := by
        simp only [Bool.and_eq_true, decide_eq_true_eq] at hc1
        omega
      obtain ⟨x, hx⟩ := get_of_lt hlt.1
      obtain ⟨y, hy⟩ := get_of_lt hlt.2
      have hi := map_get (f := encStr) hx
      have hj := map_get (f := encStr) hy
      rw [before_drop hx hy] at hno
      refine awp_skip ?_
      refine awp_seq ?_
      refine awp_block ?_
      refine awp_seq ?_
      refine awp_drawc follows ?_
      refine dc_cons (DStep.q rfl (by exact opd_move rfl rfl)) rfl ?_
      refine dc_cons (DStep.q rfl (by exact opd_move rfl rfl)) rfl ?_
      refine dc_cons (DStep.q rfl (by exact (by first | exact x_index_pad rfl so28 rfl rfl (by omega) (by first | exact Int.toNat_natCast _ | rfl) (by assumption) rfl | exact x_index_osl rfl so28 rfl rfl rfl rfl rfl (by omega) (by first | exact Int.toNat_natCast _ | rfl) (by first | omega | assumption) rfl))) rfl ?_
      refine dc_cons (DStep.q rfl (by exact (by first | exact opd_load1_ref rfl Try.isAgg9 rfl rfl rfl rfl rfl | exact opd_load1_pad rfl Try.isAgg9 rfl (by first | omega | assumption) rfl))) rfl ?_
      refine dc_cons (DStep.q rfl (by exact opd_move rfl rfl)) rfl ?_
      refine dc_cons (DStep.q rfl (by exact opd_move rfl rfl)) rfl ?_
      refine dc_cons (DStep.q rfl (by exact (by first | exact x_index_pad rfl so28 rfl rfl (by omega) (by first | exact Int.toNat_natCast _ | rfl) (by assumption) rfl | exact x_index_osl rfl so28 rfl rfl rfl rfl rfl (by omega) (by first | exact Int.toNat_natCast _ | rfl) (by first | omega | assumption) rfl))) rfl ?_
      refine dc_cons (DStep.q rfl (by exact (by first | exact opd_load1_ref rfl Try.isAgg9 rfl rfl rfl rfl rfl | exact opd_load1_pad rfl Try.isAgg9 rfl (by first | omega | assumption) rfl))) rfl ?_
      refine dc_cons (DStep.q rfl (by exact opd_sneq rfl rfl rfl)) rfl ?_
      refine dc_nil ⟨by kernel_rfl, ?_⟩
      refine awp_cond rfl (fun hc2 => ?_) (fun hc2 => ?_)
      -- cond 2
      · have hne : ¬ (x = y) := by simpa using hc2
        rw [if_neg hne] at hno
        refine awp_seq ?_
        refine awp_drawc follows ?_
        refine dc_cons (DStep.q rfl (by exact opd_move rfl rfl)) rfl ?_
        refine dc_cons (DStep.q rfl (by exact opd_move rfl rfl)) rfl ?_
        refine dc_cons (DStep.q rfl (by exact (by first | exact x_index_pad rfl so28 rfl rfl (by omega) (by first | exact Int.toNat_natCast _ | rfl) (by assumption) rfl | exact x_index_osl rfl so28 rfl rfl rfl rfl rfl (by omega) (by first | exact Int.toNat_natCast _ | rfl) (by first | omega | assumption) rfl))) rfl ?_
        refine dc_cons (DStep.q rfl (by exact (by first | exact opd_load1_ref rfl Try.isAgg9 rfl rfl rfl rfl rfl | exact opd_load1_pad rfl Try.isAgg9 rfl (by first | omega | assumption) rfl))) rfl ?_
        refine dc_cons (DStep.q rfl (by exact opd_move rfl rfl)) rfl ?_
        refine dc_cons (DStep.q rfl (by exact opd_move rfl rfl)) rfl ?_
        refine dc_cons (DStep.q rfl (by exact (by first | exact x_index_pad rfl so28 rfl rfl (by omega) (by first | exact Int.toNat_natCast _ | rfl) (by assumption) rfl | exact x_index_osl rfl so28 rfl rfl rfl rfl rfl (by omega) (by first | exact Int.toNat_natCast _ | rfl) (by first | omega | assumption) rfl))) rfl ?_
        refine dc_cons (DStep.q rfl (by exact (by first | exact opd_load1_ref rfl Try.isAgg9 rfl rfl rfl rfl rfl | exact opd_load1_pad rfl Try.isAgg9 rfl (by first | omega | assumption) rfl))) rfl ?_
        refine dc_cons (DStep.q rfl (by exact opd_slss rfl rfl rfl)) rfl ?_
        refine dc_cons (DStep.q rfl (by exact opd_assign rfl rfl)) rfl ?_
        refine dc_nil ⟨by kernel_rfl, ?_⟩
        refine awp_ret ?_
        -- return
        refine aret1 (H' := []) (by first | exact .inr rfl | exact .inl rfl) rfl (rval_tmp rfl) (Fin.wk (by simp) trivial trivial) ?_
        exact ⟨by rw [← hno], rfl⟩
      · have he : x = y := by simpa using hc2
        rw [if_pos he] at hno
        refine awp_skip ?_
        refine awp_region ?_
        refine al_d rfl rfl rfl (by exact opd_move rfl rfl) ?_
        refine al_d rfl rfl rfl (by exact opd_add rfl rfl rfl (by first | exact w64 (by omega) (by omega) | exact wu8 (by omega) (by omega) | rfl)) ?_
        refine al_d rfl rfl rfl (by exact opd_assign rfl rfl) ?_
        refine al_nil ?_
        -- end of a round
        exact ⟨k + 1, ⟨by omega, by omega, hno⟩, by omega, (Ent.wk ⟨⟨_, rfl, rfl⟩, (by first | (simp; done) | (simp; rfl) | exact clo_map _ _ _), ⟨_, rfl, rfl⟩, (by first | (simp; done) | (simp; rfl) | exact clo_map _ _ _), ⟨_, rfl, rfl⟩, (by first | (simp; done) | (simp; rfl) | exact clo_map _ _ _), trivial⟩ trivial trivial)⟩
    · have hge : ¬ (k < a.length ∧ k < b.length) := by
        intro h
        simp only [Bool.and_eq_false_iff, decide_eq_false_iff_not] at hc1
        omega
      rw [before_end hka hkb hge] at hno
      refine awp_exit ?_
      refine awp_seq ?_
      refine awp_region ?_
      refine al_d rfl rfl rfl (by exact opd_move rfl rfl) ?_
      refine al_d rfl rfl rfl (by exact (by first | exact opd_len_sl rfl Try.underlying28 rfl | exact opd_len_osl rfl Try.underlying28 rfl rfl rfl)) ?_
      refine al_d rfl rfl rfl (by exact opd_move rfl rfl) ?_
      refine al_d rfl rfl rfl (by exact (by first | exact opd_len_sl rfl Try.underlying28 rfl | exact opd_len_osl rfl Try.underlying28 rfl rfl rfl)) ?_
      refine al_d rfl rfl rfl (by exact opd_lss rfl rfl rfl) ?_
      refine al_d rfl rfl rfl (by exact opd_assign rfl rfl) ?_
      refine al_nil ?_
      refine awp_ret ?_
      -- return
      refine aret1 (H' := []) (by first | exact .inr rfl | exact .inl rfl) rfl (rval_tmp rfl) (Fin.wk (by simp) trivial trivial) ?_
      exact ⟨by rw [← hno, hma, hmb], rfl⟩
def gIds (a b : List ByteArray) : Bool := !gBefore a b && !gBefore b a
theorem ids_c (a b : List ByteArray) (H : Heap) (ha : a.length < 4611686018427387904) (hb : b.length < 4611686018427387904) : ACalls Try.prog 40 [.pv (slStrs a), .pv (slStrs b)] H (fun r H' => r = bv (gIds a b) ∧ H' = H) := by
  refine ACalls.pure ?_ (by simp) H
  refine ACalls.body Try.func40 rfl Try.ntmps40 (Nat.le_of_ble_eq_true rfl) ?_
  refine awp_seq ?_
  refine awp_region ?_
  refine al_d rfl rfl rfl (by exact opd_assign rfl rfl) ?_
  refine al_nil ?_
  refine awp_seq ?_
  refine awp_bool (t := 4) (n := 12) (X := gIds a b) ?_ ?_
  · all_goals (refine al_d rfl rfl rfl (by exact opd_move rfl rfl) ?_)
    all_goals (refine al_d rfl rfl rfl (by exact opd_move rfl rfl) ?_)
    all_goals (refine al_d rfl rfl rfl (by exact opr_call rfl rfl Try.call77 rfl (before_c a b _ ha hb)) ?_)
    all_goals (refine al_d rfl rfl rfl (by exact opd_not rfl rfl) ?_)
    all_goals (refine al_d rfl rfl rfl (by exact opd_move rfl rfl) ?_)
    all_goals (first | refine al_split (t := 9) rfl (fun h9 => ?_) (fun h9 => ?_) | refine al_dup (t := 9) rfl ?_ | skip)
    all_goals (try contradiction)
    all_goals (first | refine al_off rfl rfl rfl rfl rfl ?_ | refine al_offu rfl rfl rfl rfl ?_ | refine al_ond rfl rfl rfl rfl rfl rfl (by exact opd_move rfl rfl) ?_)
    all_goals (first | refine al_off rfl rfl rfl rfl rfl ?_ | refine al_offu rfl rfl rfl rfl ?_ | refine al_ond rfl rfl rfl rfl rfl rfl (by exact opd_move rfl rfl) ?_)
    all_goals (first | refine al_off rfl rfl rfl rfl rfl ?_ | refine al_offu rfl rfl rfl rfl ?_ | refine al_ond rfl rfl rfl rfl rfl rfl (by exact opr_call rfl rfl Try.call77 rfl (before_c b a _ hb ha)) ?_)
    all_goals (first | refine al_off rfl rfl rfl rfl rfl ?_ | refine al_offu rfl rfl rfl rfl ?_ | refine al_ond rfl rfl rfl rfl rfl rfl (by exact opd_not rfl rfl) ?_)
    all_goals (refine al_d rfl rfl rfl (by exact (by first | exact opd_pick_t rfl rfl rfl | exact opd_pick_f rfl rfl rfl | exact opd_pickt rfl rfl (by assumption) rfl | exact opd_pickf rfl rfl (by assumption) rfl | exact opd_pick rfl rfl rfl)) ?_)
    all_goals (refine al_d rfl rfl rfl (by exact opd_assign rfl rfl) ?_)
    all_goals (refine al_nil ?_)
    all_goals (exact ⟨⟨_, rfl, by first | rfl | (simp only [gIds, *]; rfl) | (simp_all [gIds]; done) | (simp only [*, Bool.false_and, Bool.true_and, Bool.and_false, Bool.and_true, Bool.true_or, Bool.false_or, Bool.or_true, Bool.or_false, Bool.not_true, Bool.not_false]; done) | (simp_all; omega) | (simp_all [gIds]; omega)⟩, rfl, rfl, rfl⟩)
  refine awp_ret ?_
  -- return
  refine aret1 (H' := []) (by first | exact .inr rfl | exact .inl rfl) rfl (rval_tmp rfl) (Fin.wk (by simp) trivial trivial) ?_
  exact ⟨rfl, rfl⟩
end Go.Proofs.Ytdgoodjhndeojaa
