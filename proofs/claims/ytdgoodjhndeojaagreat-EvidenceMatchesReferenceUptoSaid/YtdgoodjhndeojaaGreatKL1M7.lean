/-
  CONTRACTS: the reference: letters, names, points, words, tags. Conditions: lengths below 2^62.
  CONTRACTS: the reference: references, objects. Conditions: lengths below 2^62.
  CONTRACTS: the reference: maps, finding, references, closed maps, lists of indices. Conditions: lengths below 2^62.
-/
import Derived.Test.YtdgoodjhndeojaaGreatKL1M6
section
set_option linter.unusedVariables false
set_option linter.unusedSimpArgs false
set_option maxRecDepth 100000
namespace Go.Proofs.YtdgoodjhndeojaaGreat
open Go.Abs
theorem rLetter_c (n : Int) (H : Heap) : ACalls Tryz.prog 158 [.pv (.int .u8 n)] H (fun r H' => r = bv (isLet n) ∧ H' = H) := by
  refine ACalls.pure ?_ (by simp) H
  refine ACalls.body Tryz.func158 rfl Tryz.ntmps158 (Nat.le_of_ble_eq_true rfl) ?_
  refine awp_seq ?_
  refine awp_region ?_
  refine al_d rfl rfl rfl (by exact opd_assign rfl rfl) ?_
  refine al_nil ?_
  refine awp_seq ?_
  refine awp_bool (t := 2) (n := 18) (X := isLet n) ?_ ?_
  · all_goals (refine al_d rfl rfl rfl (by exact opd_move rfl rfl) ?_)
    all_goals (refine al_d rfl rfl rfl (by exact opd_geq rfl rfl rfl) ?_)
    all_goals (refine al_d rfl rfl rfl (by exact opd_move rfl rfl) ?_)
    all_goals (refine al_split (t := 5) rfl (fun h5 => ?_) (fun h5 => ?_))
    all_goals (try contradiction)
    all_goals (first | refine al_off rfl rfl rfl rfl rfl ?_ | refine al_ond rfl rfl rfl rfl rfl rfl (by exact opd_move rfl rfl) ?_)
    all_goals (first | refine al_off rfl rfl rfl rfl rfl ?_ | refine al_ond rfl rfl rfl rfl rfl rfl (by exact opd_leq rfl rfl rfl) ?_)
    all_goals (refine al_d rfl rfl rfl (by exact (by first | exact opd_pick_t rfl rfl rfl | exact opd_pick_f rfl rfl rfl)) ?_)
    all_goals (refine al_d rfl rfl rfl (by exact opd_move rfl rfl) ?_)
    all_goals (refine al_split (t := 9) rfl (fun h9 => ?_) (fun h9 => ?_))
    all_goals (try contradiction)
    all_goals (first | refine al_off rfl rfl rfl rfl rfl ?_ | refine al_ond rfl rfl rfl rfl rfl rfl (by exact opd_move rfl rfl) ?_)
    all_goals (first | refine al_off rfl rfl rfl rfl rfl ?_ | refine al_ond rfl rfl rfl rfl rfl rfl (by exact opd_geq rfl rfl rfl) ?_)
    all_goals (first | refine al_off rfl rfl rfl rfl rfl ?_ | refine al_ond rfl rfl rfl rfl rfl rfl (by exact opd_move rfl rfl) ?_)
    all_goals (first | refine al_split (t := 12) rfl (fun h12 => ?_) (fun h12 => ?_) | refine al_dup (t := 12) rfl ?_)
    all_goals (try contradiction)
    all_goals (first | refine al_off rfl rfl rfl rfl rfl ?_ | refine al_offu rfl rfl rfl rfl ?_ | refine al_ond rfl rfl rfl rfl rfl rfl (by exact opd_move rfl rfl) ?_)
    all_goals (first | refine al_off rfl rfl rfl rfl rfl ?_ | refine al_offu rfl rfl rfl rfl ?_ | refine al_ond rfl rfl rfl rfl rfl rfl (by exact opd_leq rfl rfl rfl) ?_)
    all_goals (first | refine al_off rfl rfl rfl rfl rfl ?_ | refine al_ond rfl rfl rfl rfl rfl rfl (by exact (by first | exact opd_pick_t rfl rfl rfl | exact opd_pick_f rfl rfl rfl)) ?_)
    all_goals (refine al_d rfl rfl rfl (by exact (by first | exact opd_pick_t rfl rfl rfl | exact opd_pick_f rfl rfl rfl)) ?_)
    all_goals (refine al_d rfl rfl rfl (by exact opd_assign rfl rfl) ?_)
    all_goals (refine al_nil ?_)
    all_goals (exact ⟨⟨_, rfl, by (simp only [isLet, *]; rfl)⟩, rfl, rfl, rfl⟩)
  refine awp_ret ?_
  -- return
  refine aret1 (H' := []) (by exact .inr rfl) rfl (rval_tmp rfl) (Fin.wk (by simp) trivial trivial) ?_
  exact ⟨rfl, rfl⟩
theorem rDigit_c (n : Int) (H : Heap) : ACalls Tryz.prog 201 [.pv (.int .u8 n)] H (fun r H' => r = bv (isDig n) ∧ H' = H) := by
  refine ACalls.pure ?_ (by simp) H
  refine ACalls.body Tryz.func201 rfl Tryz.ntmps201 (Nat.le_of_ble_eq_true rfl) ?_
  refine awp_seq ?_
  refine awp_region ?_
  refine al_d rfl rfl rfl (by exact opd_assign rfl rfl) ?_
  refine al_nil ?_
  refine awp_seq ?_
  refine awp_bool (t := 2) (n := 8) (X := isDig n) ?_ ?_
  · all_goals (refine al_d rfl rfl rfl (by exact opd_move rfl rfl) ?_)
    all_goals (refine al_d rfl rfl rfl (by exact opd_geq rfl rfl rfl) ?_)
    all_goals (refine al_d rfl rfl rfl (by exact opd_move rfl rfl) ?_)
    all_goals (refine al_split (t := 5) rfl (fun h5 => ?_) (fun h5 => ?_))
    all_goals (try contradiction)
    all_goals (first | refine al_off rfl rfl rfl rfl rfl ?_ | refine al_ond rfl rfl rfl rfl rfl rfl (by exact opd_move rfl rfl) ?_)
    all_goals (first | refine al_off rfl rfl rfl rfl rfl ?_ | refine al_ond rfl rfl rfl rfl rfl rfl (by exact opd_leq rfl rfl rfl) ?_)
    all_goals (refine al_d rfl rfl rfl (by exact (by first | exact opd_pick_t rfl rfl rfl | exact opd_pick_f rfl rfl rfl)) ?_)
    all_goals (refine al_d rfl rfl rfl (by exact opd_assign rfl rfl) ?_)
    all_goals (refine al_nil ?_)
    all_goals (exact ⟨⟨_, rfl, by (simp only [isDig, *]; rfl)⟩, rfl, rfl, rfl⟩)
  refine awp_ret ?_
  -- return
  refine aret1 (H' := []) (by exact .inr rfl) rfl (rval_tmp rfl) (Fin.wk (by simp) trivial trivial) ?_
  exact ⟨rfl, rfl⟩
def isW (n : Int) : Bool := (isLet n || isDig n) || decide (n = 95)
theorem rWord_c (n : Int) (H : Heap) : ACalls Tryz.prog 157 [.pv (.int .u8 n)] H (fun r H' => r = bv (isW n) ∧ H' = H) := by
  refine ACalls.pure ?_ (by simp) H
  refine ACalls.body Tryz.func157 rfl Tryz.ntmps157 (Nat.le_of_ble_eq_true rfl) ?_
  refine awp_seq ?_
  refine awp_region ?_
  refine al_d rfl rfl rfl (by exact opd_assign rfl rfl) ?_
  refine al_nil ?_
  refine awp_seq ?_
  refine awp_bool (t := 2) (n := 13) (X := isW n) ?_ ?_
  · all_goals (refine al_d rfl rfl rfl (by exact opd_move rfl rfl) ?_)
    all_goals (refine al_d rfl rfl rfl (by exact opr_call rfl rfl Tryz.call158 rfl (rLetter_c n _)) ?_)
    all_goals (refine al_d rfl rfl rfl (by exact opd_move rfl rfl) ?_)
    all_goals (refine al_split (t := 5) rfl (fun h5 => ?_) (fun h5 => ?_))
    all_goals (try contradiction)
    all_goals (first | refine al_off rfl rfl rfl rfl rfl ?_ | refine al_ond rfl rfl rfl rfl rfl rfl (by exact opd_move rfl rfl) ?_)
    all_goals (first | refine al_off rfl rfl rfl rfl rfl ?_ | refine al_ond rfl rfl rfl rfl rfl rfl (by exact opr_call rfl rfl Tryz.call201 rfl (rDigit_c n _)) ?_)
    all_goals (refine al_d rfl rfl rfl (by exact (by first | exact opd_pick_t rfl rfl rfl | exact opd_pick_f rfl rfl rfl)) ?_)
    all_goals (refine al_d rfl rfl rfl (by exact opd_move rfl rfl) ?_)
    all_goals (refine al_split (t := 9) rfl (fun h9 => ?_) (fun h9 => ?_))
    all_goals (try contradiction)
    all_goals (first | refine al_off rfl rfl rfl rfl rfl ?_ | refine al_ond rfl rfl rfl rfl rfl rfl (by exact opd_move rfl rfl) ?_)
    all_goals (first | refine al_off rfl rfl rfl rfl rfl ?_ | refine al_ond rfl rfl rfl rfl rfl rfl (by exact opd_eql rfl rfl rfl) ?_)
    all_goals (refine al_d rfl rfl rfl (by exact (by first | exact opd_pick_t rfl rfl rfl | exact opd_pick_f rfl rfl rfl)) ?_)
    all_goals (refine al_d rfl rfl rfl (by exact opd_assign rfl rfl) ?_)
    all_goals (refine al_nil ?_)
    all_goals (exact ⟨⟨_, rfl, by (simp only [isW, *]; rfl)⟩, rfl, rfl, rfl⟩)
  refine awp_ret ?_
  -- return
  refine aret1 (H' := []) (by exact .inr rfl) rfl (rval_tmp rfl) (Fin.wk (by simp) trivial trivial) ?_
  exact ⟨rfl, rfl⟩
theorem cls_all : ∀ n : Fin 256, (decide (cls (n.val : Int) = 3) = isLet (n.val : Int)) ∧ (decide (cls (n.val : Int) = 4) = isDig (n.val : Int)) ∧ (decide (cls (n.val : Int) = 5) = decide ((n.val : Int) = 95)) := by decide +kernel
theorem cls_eq (s : ByteArray) (k : Nat) : (decide (cls (byteAt s k) = 3) = isLet (byteAt s k)) ∧ (decide (cls (byteAt s k) = 4) = isDig (byteAt s k)) ∧ (decide (cls (byteAt s k) = 5) = decide (byteAt s k = 95)) := by
  have h := cls_all ⟨(byteAt s k).toNat, byteAt_lt s k⟩
  simp only [Int.toNat_of_nonneg (byteAt_nn s k)] at h
  exact h
def badW (s : ByteArray) (k : Nat) : Bool := !isW (byteAt s k)
def rName (s : ByteArray) : Bool := !((List.range s.size).any (badW s)) && (decide ((0 : Int) < (s.size : Int)) && decide ((s.size : Int) ≤ 24) && isLet (byteAt s 0))
theorem sNil_iff {s : ByteArray} : s = sNil ↔ s.size = 0 := by
  constructor
  · rintro rfl; rfl
  · intro h; exact ByteArray.ext (Array.eq_empty_of_size_eq_zero h)
theorem rName_eq (s : ByteArray) : rName s = gName s := by
  have hb : ∀ k, badC s k = (!isLet (byteAt s k) && (decide ((k : Int) = 0) || (!isDig (byteAt s k) && !decide (byteAt s k = 95)))) := fun k => by
    obtain ⟨a, b, c⟩ := cls_eq s k
    rw [badC, a, b, c]
  rw [Bool.eq_iff_iff, rName, gName]
  simp only [Bool.and_eq_true, Bool.not_eq_true', decide_eq_true_eq, decide_eq_false_iff_not, List.any_eq_false, List.mem_range, sNil_iff, badW, hb]
  constructor
  · rintro ⟨h1, ⟨h2, h3⟩, h4⟩
    refine ⟨fun k hk => ?_, by omega, h3⟩
    have := h1 k hk
    by_cases k0 : k = 0
    · subst k0; simp [h4]
    · have hw : isW (byteAt s k) = true := by
        cases e : isW (byteAt s k) with
        | true => rfl
        | false => exact absurd e this
      simp only [isW, Bool.or_eq_true, decide_eq_true_eq] at hw
      rcases hw with (h | h) | h
      · simp [h]
      · simp [h, k0]
      · simp [h, k0]
  · rintro ⟨h1, h2, h3⟩
    refine ⟨fun k hk => ?_, ⟨by omega, h3⟩, ?_⟩
    · have := h1 k hk
      intro hw
      apply this
      simp only [isW, Bool.not_eq_true', Bool.or_eq_false_iff] at hw
      simp [hw.1.1, hw.1.2, hw.2]
    · have := h1 0 (by omega)
      cases hl : isLet (byteAt s 0) with
      | true => rfl
      | false => exact absurd (by simp [hl]) this
theorem rName0_c (s : ByteArray) (H : Heap) (hs : s.size < 4611686018427387904) : ACalls Tryz.prog 103 [sv s] H (fun r H' => r = bv (rName s) ∧ H' = H) := by
  refine ACalls.pure ?_ (by simp) H
  refine ACalls.body Tryz.func103 rfl Tryz.ntmps103 (Nat.le_of_ble_eq_true rfl) ?_
  refine awp_seq ?_
  refine awp_region ?_
  refine al_d rfl rfl rfl (by exact opd_assign rfl rfl) ?_
  refine al_nil ?_
  refine awp_seq ?_
  refine awp_seq ?_
  refine awp_region ?_
  refine al_d rfl rfl rfl (by exact opd_assign rfl rfl) ?_
  refine al_nil ?_
  refine awp_block ?_
  -- loop
  refine awp_loop (σ := Nat) (fun k => ([(0, sv s), (3, iv (k : Int))], [])) (fun k => k ≤ s.size ∧ ∀ j, j < k → badW s j = false) (fun k => s.size - k) 0 ⟨by omega, by omega⟩ ?_ ?_
  · exact Ent.e0 ⟨⟨_, rfl, rfl⟩, ⟨_, rfl, rfl⟩, trivial⟩
  · rintro k ⟨hk, hno⟩
    refine awp_seq ?_
    refine awp_seq ?_
    refine awp_region ?_
    refine al_d rfl rfl rfl (by exact opd_move rfl rfl) ?_
    refine al_d rfl rfl rfl (by exact opd_move rfl rfl) ?_
    refine al_d rfl rfl rfl (by exact opd_len_str rfl Tryz.underlying9 rfl) ?_
    refine al_d rfl rfl rfl (by exact opd_lss rfl rfl rfl) ?_
    refine al_nil ?_
    refine awp_cond rfl (fun hc1 => ?_) (fun hc1 => ?_)
    -- cond 1
    · have hlt : k < s.size := by have := of_decide_eq_true hc1; omega
      refine awp_skip ?_
      refine awp_seq ?_
      refine awp_block ?_
      refine awp_seq ?_
      refine awp_region ?_
      refine al_d rfl rfl rfl (by exact opd_move rfl rfl) ?_
      refine al_d rfl rfl rfl (by exact opd_move rfl rfl) ?_
      refine al_d rfl rfl rfl (by exact opd_index_str rfl Tryz.underlying9 rfl rfl (by omega) (by exact Int.toNat_natCast _) (by omega) rfl) ?_
      refine al_d rfl rfl rfl (by exact opr_call rfl rfl Tryz.call157 rfl (rWord_c (byteAt s k) _)) ?_
      refine al_d rfl rfl rfl (by exact opd_not rfl rfl) ?_
      refine al_nil ?_
      refine awp_cond rfl (fun hc2 => ?_) (fun hc2 => ?_)
      -- cond 2
      · have hb : badW s k = true := hc2
        refine awp_seq ?_
        refine awp_region ?_
        refine al_d rfl rfl rfl (by exact opd_assign rfl rfl) ?_
        refine al_nil ?_
        refine awp_ret ?_
        -- return
        refine aret1 (H' := []) (by exact .inr rfl) rfl (rval_tmp rfl) (Fin.wk (by simp) trivial trivial) ?_
        exact ⟨by rw [rName, range_some hlt hb]; rfl, rfl⟩
      · skip
        refine awp_skip ?_
        refine awp_region ?_
        refine al_d rfl rfl rfl (by exact opd_move rfl rfl) ?_
        refine al_d rfl rfl rfl (by exact opd_add rfl rfl rfl (by exact w64 (by omega) (by omega))) ?_
        refine al_d rfl rfl rfl (by exact opd_assign rfl rfl) ?_
        refine al_nil ?_
        -- end of a round
        refine ⟨k + 1, ⟨by omega, fun j hj => ?_⟩, by omega, Ent.e0 ⟨⟨_, rfl, rfl⟩, ⟨_, rfl, rfl⟩, trivial⟩⟩
        by_cases e : j = k
        · subst e; exact hc2
        · exact hno j (by omega)
    · have hge : k = s.size := by have := of_decide_eq_false hc1; omega
      have hr : rName s = (decide ((0 : Int) < (s.size : Int)) && decide ((s.size : Int) ≤ 24) && isLet (byteAt s 0)) := by
        subst hge
        rw [rName, range_any hno]; rfl
      rw [hr]
      clear hr
      by_cases h0 : (0 : Int) < (s.size : Int)
      · have d0 := decide_eq_true h0
        have h00 : 0 < s.size := by omega
        rw [d0, Bool.true_and]
        by_cases h24 : (s.size : Int) ≤ 24
        · have d1 := decide_eq_true h24
          rw [d1, Bool.true_and]
          refine awp_exit ?_
          refine awp_seq ?_
          refine awp_region ?_
          refine al_d rfl rfl rfl (by exact opd_move rfl rfl) ?_
          refine al_d rfl rfl rfl (by exact opd_len_str rfl Tryz.underlying9 rfl) ?_
          refine al_d rfl rfl rfl (by exact opd_gtr rfl rfl rfl) ?_
          refine al_d rfl rfl rfl (by exact opd_move rfl rfl) ?_
          refine al_ond rfl rfl rfl (by assumption) rfl rfl (by exact opd_move rfl rfl) ?_
          refine al_ond rfl rfl rfl (by assumption) rfl rfl (by exact opd_len_str rfl Tryz.underlying9 rfl) ?_
          refine al_ond rfl rfl rfl (by assumption) rfl rfl (by exact opd_leq rfl rfl rfl) ?_
          refine al_d rfl rfl rfl (by exact (by exact opd_pickt rfl rfl (by assumption) rfl)) ?_
          refine al_d rfl rfl rfl (by exact opd_move rfl rfl) ?_
          refine al_ond rfl rfl rfl (by assumption) rfl rfl (by exact opd_move rfl rfl) ?_
          refine al_ond rfl rfl rfl (by assumption) rfl rfl (by exact opd_index_str rfl Tryz.underlying9 rfl rfl (by omega) (by exact Int.toNat_natCast _) (by omega) rfl) ?_
          refine al_ond rfl rfl rfl (by assumption) rfl rfl (by exact opr_call rfl rfl Tryz.call158 rfl (rLetter_c (byteAt s 0) _)) ?_
          refine al_d rfl rfl rfl (by exact (by exact opd_pickt rfl rfl (by assumption) rfl)) ?_
          refine al_d rfl rfl rfl (by exact opd_assign rfl rfl) ?_
          refine al_nil ?_
          refine awp_ret ?_
          -- return
          refine aret1 (H' := []) (by exact .inr rfl) rfl (rval_tmp rfl) (Fin.wk (by simp) trivial trivial) ?_
          exact ⟨rfl, rfl⟩
        · have d1 := decide_eq_false h24
          rw [d1]
          refine awp_exit ?_
          refine awp_seq ?_
          refine awp_region ?_
          refine al_d rfl rfl rfl (by exact opd_move rfl rfl) ?_
          refine al_d rfl rfl rfl (by exact opd_len_str rfl Tryz.underlying9 rfl) ?_
          refine al_d rfl rfl rfl (by exact opd_gtr rfl rfl rfl) ?_
          refine al_d rfl rfl rfl (by exact opd_move rfl rfl) ?_
          refine al_ond rfl rfl rfl (by assumption) rfl rfl (by exact opd_move rfl rfl) ?_
          refine al_ond rfl rfl rfl (by assumption) rfl rfl (by exact opd_len_str rfl Tryz.underlying9 rfl) ?_
          refine al_ond rfl rfl rfl (by assumption) rfl rfl (by exact opd_leq rfl rfl rfl) ?_
          refine al_d rfl rfl rfl (by exact (by exact opd_pickt rfl rfl (by assumption) rfl)) ?_
          refine al_d rfl rfl rfl (by exact opd_move rfl rfl) ?_
          refine al_off rfl rfl rfl (by assumption) rfl ?_
          refine al_off rfl rfl rfl (by assumption) rfl ?_
          refine al_off rfl rfl rfl (by assumption) rfl ?_
          refine al_d rfl rfl rfl (by exact (by exact opd_pickf rfl rfl (by assumption) rfl)) ?_
          refine al_d rfl rfl rfl (by exact opd_assign rfl rfl) ?_
          refine al_nil ?_
          refine awp_ret ?_
          -- return
          refine aret1 (H' := []) (by exact .inr rfl) rfl (rval_tmp rfl) (Fin.wk (by simp) trivial trivial) ?_
          exact ⟨rfl, rfl⟩
      · have d0 := decide_eq_false h0
        rw [d0]
        refine awp_exit ?_
        refine awp_seq ?_
        refine awp_region ?_
        refine al_d rfl rfl rfl (by exact opd_move rfl rfl) ?_
        refine al_d rfl rfl rfl (by exact opd_len_str rfl Tryz.underlying9 rfl) ?_
        refine al_d rfl rfl rfl (by exact opd_gtr rfl rfl rfl) ?_
        refine al_d rfl rfl rfl (by exact opd_move rfl rfl) ?_
        refine al_off rfl rfl rfl (by assumption) rfl ?_
        refine al_off rfl rfl rfl (by assumption) rfl ?_
        refine al_off rfl rfl rfl (by assumption) rfl ?_
        refine al_d rfl rfl rfl (by exact (by exact opd_pickf rfl rfl (by assumption) rfl)) ?_
        refine al_d rfl rfl rfl (by exact opd_move rfl rfl) ?_
        refine al_off rfl rfl rfl (by rfl) rfl ?_
        refine al_off rfl rfl rfl (by rfl) rfl ?_
        refine al_off rfl rfl rfl (by rfl) rfl ?_
        refine al_d rfl rfl rfl (by exact (by exact opd_pick_f rfl rfl rfl)) ?_
        refine al_d rfl rfl rfl (by exact opd_assign rfl rfl) ?_
        refine al_nil ?_
        refine awp_ret ?_
        -- return
        refine aret1 (H' := []) (by exact .inr rfl) rfl (rval_tmp rfl) (Fin.wk (by simp) trivial trivial) ?_
        exact ⟨rfl, rfl⟩
theorem rName_c (s : ByteArray) (H : Heap) (hs : s.size < 4611686018427387904) : ACalls Tryz.prog 103 [sv s] H (fun r H' => r = bv (gName s) ∧ H' = H) := by
  rw [← rName_eq]
  exact rName0_c s H hs
theorem rOn_c (x y : Int) (H : Heap) : ACalls Tryz.prog 104 [.agg [iv x, iv y]] H (fun r H' => r = bv (gOn x y) ∧ H' = H) := by
  refine ACalls.pure ?_ (by simp) H
  refine ACalls.body Tryz.func104 rfl Tryz.ntmps104 (Nat.le_of_ble_eq_true rfl) ?_
  refine awp_seq ?_
  refine awp_region ?_
  refine al_d rfl rfl rfl (by exact opd_box (id := 1) rfl rfl rfl rfl rfl) ?_
  refine al_d rfl rfl rfl (by exact opd_assign rfl rfl) ?_
  refine al_nil ?_
  refine awp_seq ?_
  refine awp_bool (t := 2) (n := 22) (X := gOn x y) ?_ ?_
  · all_goals (refine al_d rfl rfl rfl (by exact (by exact opd_field_ref rfl fo38_0 rfl rfl rfl rfl)) ?_)
    all_goals (refine al_d rfl rfl rfl (by exact (by exact opd_load1_ref rfl Tryz.isAgg3 rfl rfl rfl rfl rfl)) ?_)
    all_goals (refine al_d rfl rfl rfl (by exact opd_geq rfl rfl rfl) ?_)
    all_goals (refine al_d rfl rfl rfl (by exact opd_move rfl rfl) ?_)
    all_goals (refine al_split (t := 6) rfl (fun h6 => ?_) (fun h6 => ?_))
    all_goals (try contradiction)
    all_goals (first | refine al_off rfl rfl rfl rfl rfl ?_ | refine al_ond rfl rfl rfl rfl rfl rfl (by exact (by exact opd_field_ref rfl fo38_0 rfl rfl rfl rfl)) ?_)
    all_goals (first | refine al_off rfl rfl rfl rfl rfl ?_ | refine al_ond rfl rfl rfl rfl rfl rfl (by exact (by exact opd_load1_ref rfl Tryz.isAgg3 rfl rfl rfl rfl rfl)) ?_)
    all_goals (first | refine al_off rfl rfl rfl rfl rfl ?_ | refine al_ond rfl rfl rfl rfl rfl rfl (by exact opd_lss rfl rfl rfl) ?_)
    all_goals (refine al_d rfl rfl rfl (by exact (by first | exact opd_pick_t rfl rfl rfl | exact opd_pick_f rfl rfl rfl)) ?_)
    all_goals (refine al_d rfl rfl rfl (by exact opd_move rfl rfl) ?_)
    all_goals (refine al_split (t := 11) rfl (fun h11 => ?_) (fun h11 => ?_))
    all_goals (try contradiction)
    all_goals (first | refine al_off rfl rfl rfl rfl rfl ?_ | refine al_ond rfl rfl rfl rfl rfl rfl (by exact (by exact opd_field_ref rfl fo38_1 rfl rfl rfl rfl)) ?_)
    all_goals (first | refine al_off rfl rfl rfl rfl rfl ?_ | refine al_ond rfl rfl rfl rfl rfl rfl (by exact (by exact opd_load1_ref rfl Tryz.isAgg3 rfl rfl rfl rfl rfl)) ?_)
    all_goals (first | refine al_off rfl rfl rfl rfl rfl ?_ | refine al_ond rfl rfl rfl rfl rfl rfl (by exact opd_geq rfl rfl rfl) ?_)
    all_goals (refine al_d rfl rfl rfl (by exact (by first | exact opd_pick_t rfl rfl rfl | exact opd_pick_f rfl rfl rfl)) ?_)
    all_goals (refine al_d rfl rfl rfl (by exact opd_move rfl rfl) ?_)
    all_goals (refine al_split (t := 16) rfl (fun h16 => ?_) (fun h16 => ?_))
    all_goals (try contradiction)
    all_goals (first | refine al_off rfl rfl rfl rfl rfl ?_ | refine al_ond rfl rfl rfl rfl rfl rfl (by exact (by exact opd_field_ref rfl fo38_1 rfl rfl rfl rfl)) ?_)
    all_goals (first | refine al_off rfl rfl rfl rfl rfl ?_ | refine al_ond rfl rfl rfl rfl rfl rfl (by exact (by exact opd_load1_ref rfl Tryz.isAgg3 rfl rfl rfl rfl rfl)) ?_)
    all_goals (first | refine al_off rfl rfl rfl rfl rfl ?_ | refine al_ond rfl rfl rfl rfl rfl rfl (by exact opd_lss rfl rfl rfl) ?_)
    all_goals (refine al_d rfl rfl rfl (by exact (by first | exact opd_pick_t rfl rfl rfl | exact opd_pick_f rfl rfl rfl)) ?_)
    all_goals (refine al_d rfl rfl rfl (by exact opd_assign rfl rfl) ?_)
    all_goals (refine al_nil ?_)
    all_goals (exact ⟨⟨_, rfl, by (simp only [gOn, *]; rfl)⟩, rfl, rfl, rfl⟩)
  refine awp_ret ?_
  -- return
  refine aret1 (H' := []) (by exact .inr rfl) rfl (rval_tmp rfl) (Fin.wk (by simp) trivial trivial) ?_
  exact ⟨rfl, rfl⟩
theorem rwords_at {n : Nat} (h0 : 1 ≤ n) (h1 : n ≤ 5) : [encStr sNil, encStr ⟨#[110, 111, 100, 101]⟩, encStr ⟨#[119, 97, 121]⟩, encStr ⟨#[97, 114, 101, 97]⟩, encStr ⟨#[114, 111, 117, 116, 101]⟩, encStr ⟨#[116, 117, 114, 110]⟩][n]? = some (encStr (gWord (n : Int))) := by
  match n, h0, h1 with
  | 1, _, _ => rfl
  | 2, _, _ => rfl
  | 3, _, _ => rfl
  | 4, _, _ => rfl
  | 5, _, _ => rfl
  | n + 6, _, h => exact absurd h (by omega)
theorem rWordOf_c (k : Int) (H : Heap) : ACalls Tryz.prog 154 [iv k] H (fun r H' => r = sv (gWord k) ∧ H' = H) := by
  refine ACalls.pure ?_ (by simp) H
  refine ACalls.body Tryz.func154 rfl Tryz.ntmps154 (Nat.le_of_ble_eq_true rfl) ?_
  refine awp_seq ?_
  refine awp_region ?_
  refine al_d rfl rfl rfl (by exact opd_assign rfl rfl) ?_
  refine al_nil ?_
  refine awp_seq ?_
  refine awp_region ?_
  refine al_d rfl rfl rfl (by exact x_buildSlice [encStr sNil, encStr ⟨#[110, 111, 100, 101]⟩, encStr ⟨#[119, 97, 121]⟩, encStr ⟨#[97, 114, 101, 97]⟩, encStr ⟨#[114, 111, 117, 116, 101]⟩, encStr ⟨#[116, 117, 114, 110]⟩] rfl so39 rfl rfl rfl rfl rfl (by simp [encStr])) ?_
  refine al_d rfl rfl rfl (by exact opd_assign rfl rfl) ?_
  refine al_nil ?_
  refine awp_seq ?_
  refine awp_seq ?_
  refine awp_bool (t := 10) (n := 7) (X := decide (k < 1) || decide (5 < k)) ?_ ?_
  · all_goals (refine al_d rfl rfl rfl (by exact opd_move rfl rfl) ?_)
    all_goals (refine al_d rfl rfl rfl (by exact opd_lss rfl rfl rfl) ?_)
    all_goals (refine al_d rfl rfl rfl (by exact opd_move rfl rfl) ?_)
    all_goals (refine al_split (t := 7) rfl (fun h7 => ?_) (fun h7 => ?_))
    all_goals (try contradiction)
    all_goals (first | refine al_off rfl rfl rfl rfl rfl ?_ | refine al_ond rfl rfl rfl rfl rfl rfl (by exact opd_move rfl rfl) ?_)
    all_goals (first | refine al_off rfl rfl rfl rfl rfl ?_ | refine al_ond rfl rfl rfl rfl rfl rfl (by exact opd_gtr rfl rfl rfl) ?_)
    all_goals (refine al_d rfl rfl rfl (by exact (by first | exact opd_pick_t rfl rfl rfl | exact opd_pick_f rfl rfl rfl)) ?_)
    all_goals (refine al_nil ?_)
    all_goals (exact ⟨⟨_, rfl, by (simp only [*, Bool.false_and, Bool.true_and, Bool.and_false, Bool.and_true, Bool.true_or, Bool.false_or, Bool.or_true, Bool.or_false, Bool.not_true, Bool.not_false]; done)⟩, rfl, rfl, rfl⟩)
  refine awp_cond rfl (fun hc1 => ?_) (fun hc1 => ?_)
  -- cond 1
  · have hn : ¬ (k = 1) ∧ ¬ (k = 2) ∧ ¬ (k = 3) ∧ ¬ (k = 4) ∧ ¬ (k = 5) := by
      simp only [Bool.or_eq_true, decide_eq_true_eq] at hc1
      omega
    refine awp_seq ?_
    refine awp_region ?_
    refine al_d rfl rfl rfl (by exact opd_assign rfl rfl) ?_
    refine al_nil ?_
    refine awp_ret ?_
    -- return
    refine aret1 (H' := []) (by exact .inr rfl) rfl (rval_tmp rfl) (Fin.wk (by simp) trivial trivial) ?_
    exact ⟨by simp only [gWord, hn.1, hn.2.1, hn.2.2.1, hn.2.2.2.1, hn.2.2.2.2, if_false], rfl⟩
  · obtain ⟨n, rfl⟩ : ∃ n : Nat, k = (n : Int) := ⟨k.toNat, by simp only [Bool.or_eq_false_iff, decide_eq_false_iff_not] at hc1; omega⟩
    have hb : 1 ≤ n ∧ n ≤ 5 := by
      simp only [Bool.or_eq_false_iff, decide_eq_false_iff_not] at hc1
      omega
    have hi := rwords_at hb.1 hb.2
    refine awp_skip ?_
    refine awp_seq ?_
    refine awp_region ?_
    refine al_d rfl rfl rfl (by exact opd_move rfl rfl) ?_
    refine al_d rfl rfl rfl (by exact opd_move rfl rfl) ?_
    refine al_d rfl rfl rfl (by exact (by exact x_index_pad rfl so39 rfl rfl (by omega) (by exact Int.toNat_natCast _) (by assumption) rfl)) ?_
    refine al_d rfl rfl rfl (by exact (by exact opd_load1_pad rfl Tryz.isAgg9 rfl (by omega) rfl)) ?_
    refine al_d rfl rfl rfl (by exact opd_assign rfl rfl) ?_
    refine al_nil ?_
    refine awp_ret ?_
    -- return
    refine aret1 (H' := []) (by exact .inr rfl) rfl (rval_tmp rfl) (Fin.wk (by simp) trivial trivial) ?_
    exact ⟨rfl, rfl⟩
theorem badTag_eq (l : List GTag) (k : Nat) (t pt : GTag) (hp : 0 < k → l[k - 1]? = some pt) : (((!gName t.key || decide ((t.val.size : Int) < 1)) || decide (200 < (t.val.size : Int))) || (decide ((0 : Int) < (k : Int)) && !slt pt.key t.key)) = badTag (before GTag.key l k) t := by
  have hv : decide ((t.val.size : Int) < 1) = decide (t.val = sNil) := decide_eq_decide.2 (by rw [sNil_iff]; omega)
  rw [hv, badTag]
  cases hg : gName t.key with
  | false => simp
  | true =>
    have hs : sle t.key (before GTag.key l k) = (decide ((0 : Int) < (k : Int)) && !slt pt.key t.key) := by
      cases k with
      | zero =>
        have : slt sNil t.key = true := by
          cases e : slt sNil t.key with
          | true => rfl
          | false => exact absurd (slt_tri (slt_nil _) e) (gName_ne hg)
        rw [before, sle_iff.2 this]; rfl
      | succ k =>
        have h := hp (by omega)
        rw [show k + 1 - 1 = k from rfl] at h
        rw [before_succ h, decide_eq_true (show (0 : Int) < ((k + 1 : Nat) : Int) by omega), Bool.true_and]
        cases e : slt pt.key t.key with
        | true => rw [sle_iff.2 e]; rfl
        | false =>
          cases e2 : sle t.key pt.key with
          | true => rfl
          | false => rw [sle_iff] at e2; rw [e] at e2; cases e2
    rw [← hs]
    cases sle t.key (before GTag.key l k) <;> cases decide (t.val = sNil) <;> cases decide (200 < (t.val.size : Int)) <;> rfl
theorem rTags_c (l : List GTag) (H : Heap) (hl : okTags l) : ACalls Tryz.prog 155 [.pv (slTags l)] H (fun r H' => r = bv (gTags l) ∧ H' = H) := by
  refine ACalls.pure ?_ (by simp) H
  obtain ⟨hl, hks⟩ := hl
  have hml : (l.map encTag).length = l.length := List.length_map _
  refine ACalls.body Tryz.func155 rfl Tryz.ntmps155 (Nat.le_of_ble_eq_true rfl) ?_
  refine awp_seq ?_
  refine awp_region ?_
  refine al_d rfl rfl rfl (by exact opd_assign rfl rfl) ?_
  refine al_nil ?_
  refine awp_seq ?_
  refine awp_seq ?_
  refine awp_region ?_
  refine al_d rfl rfl rfl (by exact opd_move rfl rfl) ?_
  refine al_d rfl rfl rfl (by exact (by exact opd_len_sl rfl Tryz.underlying40 rfl)) ?_
  refine al_d rfl rfl rfl (by exact opd_gtr rfl rfl rfl) ?_
  refine al_nil ?_
  refine awp_cond rfl (fun hc1 => ?_) (fun hc1 => ?_)
  -- cond 1
  · have h60 : decide ((l.length : Int) ≤ 60) = false := by
      have := of_decide_eq_true hc1
      exact decide_eq_false (by omega)
    refine awp_seq ?_
    refine awp_region ?_
    refine al_d rfl rfl rfl (by exact opd_assign rfl rfl) ?_
    refine al_nil ?_
    refine awp_ret ?_
    -- return
    refine aret1 (H' := []) (by exact .inr rfl) rfl (rval_tmp rfl) (Fin.wk (by simp) trivial trivial) ?_
    exact ⟨by rw [gTags, h60, Bool.and_false], rfl⟩
  · have h60 : decide ((l.length : Int) ≤ 60) = true := by
      have := of_decide_eq_false hc1
      exact decide_eq_true (by omega)
    rw [gTags, h60, Bool.and_true]
    refine awp_skip ?_
    refine awp_seq ?_
    refine awp_seq ?_
    refine awp_region ?_
    refine al_d rfl rfl rfl (by exact opd_assign rfl rfl) ?_
    refine al_nil ?_
    refine awp_block ?_
    -- loop
    refine awp_loop (σ := Nat) (fun k => ([(0, .pv (slTags l)), (3, iv (k : Int))], [])) (fun k => k ≤ l.length ∧ ∀ j, j < k → badAt badTag GTag.key l j = false) (fun k => l.length - k) 0 ⟨by omega, by omega⟩ ?_ ?_
    · exact Ent.e0 ⟨⟨_, rfl, rfl⟩, ⟨_, rfl, rfl⟩, trivial⟩
    · rintro k ⟨hk, hno⟩
      refine awp_seq ?_
      refine awp_seq ?_
      refine awp_region ?_
      refine al_d rfl rfl rfl (by exact opd_move rfl rfl) ?_
      refine al_d rfl rfl rfl (by exact opd_move rfl rfl) ?_
      refine al_d rfl rfl rfl (by exact (by exact opd_len_sl rfl Tryz.underlying40 rfl)) ?_
      refine al_d rfl rfl rfl (by exact opd_lss rfl rfl rfl) ?_
      refine al_nil ?_
      refine awp_cond rfl (fun hc2 => ?_) (fun hc2 => ?_)
      -- cond 2
      · have hlt : k < l.length := by have := of_decide_eq_true hc2; omega
        obtain ⟨t, ht⟩ := get_of_lt hlt
        have hi := map_get (f := encTag) ht
        have hkt := hks t (List.mem_of_getElem? ht)
        obtain ⟨pt, hp⟩ : ∃ pt, 0 < k → l[k - 1]? = some pt := by
          by_cases k0 : 0 < k
          · obtain ⟨pt, hp⟩ := get_of_lt (l := l) (k := k - 1) (by omega)
            exact ⟨pt, fun _ => hp⟩
          · exact ⟨t, fun h => absurd h k0⟩
        have hpv : 0 < k → (l.map encTag)[k - 1]? = some (encTag pt) := fun h => map_get (f := encTag) (hp h)
        have hbe := badTag_eq l k t pt hp
        refine awp_skip ?_
        refine awp_seq ?_
        refine awp_block ?_
        refine awp_seq ?_
        refine awp_mergeR (t := 55) (n := 43) (X := ((!gName t.key || decide ((t.val.size : Int) < 1)) || decide (200 < (t.val.size : Int))) || (decide ((0 : Int) < (k : Int)) && !slt pt.key t.key)) ?_ ?_
        · cases hg20 : (!gName t.key : Bool)
          · cases hg29 : (decide ((t.val.size : Int) < 1) : Bool)
            · cases hg38 : (decide (200 < (t.val.size : Int)) : Bool)
              · cases hg41 : (decide ((0 : Int) < (k : Int)) : Bool)
                · refine awp_drawc follows ?_
                  refine dc_cons (DStep.q rfl (by exact opd_move rfl rfl)) rfl ?_
                  refine dc_cons (DStep.q rfl (by exact opd_move rfl rfl)) rfl ?_
                  refine dc_cons (DStep.q rfl (by exact (by exact x_index_pad rfl so40 rfl rfl (by omega) (by exact Int.toNat_natCast _) (by assumption) rfl))) rfl ?_
                  refine dc_cons (DStep.q rfl (by exact (by exact opd_field_pad rfl fo62_0 rfl rfl))) rfl ?_
                  refine dc_cons (DStep.q rfl (by exact (by exact opd_load1_pad rfl Tryz.isAgg9 rfl (by omega) rfl))) rfl ?_
                  refine dc_cons (DStep.q rfl (by exact opr_call rfl rfl Tryz.call103 rfl (rName_c t.key _ hkt.1))) rfl ?_
                  refine dc_cons (DStep.q rfl (by exact opd_not rfl rfl)) rfl ?_
                  refine dc_cons (DStep.q rfl (by exact opd_move rfl rfl)) rfl ?_
                  refine dc_cons (q_on_f rfl rfl rfl (by assumption) (by exact opd_move rfl rfl)) rfl ?_
                  refine dc_cons (q_on_f rfl rfl rfl (by assumption) (by exact opd_move rfl rfl)) rfl ?_
                  refine dc_cons (q_on_f rfl rfl rfl (by assumption) (by exact (by exact x_index_pad rfl so40 rfl rfl (by omega) (by exact Int.toNat_natCast _) (by assumption) rfl))) rfl ?_
                  refine dc_cons (q_on_f rfl rfl rfl (by assumption) (by exact (by exact opd_field_pad rfl fo62_1 rfl rfl))) rfl ?_
                  refine dc_cons (q_on_f rfl rfl rfl (by assumption) (by exact (by exact opd_load1_pad rfl Tryz.isAgg9 rfl (by omega) rfl))) rfl ?_
                  refine dc_cons (q_on_f rfl rfl rfl (by assumption) (by exact opd_len_str rfl Tryz.underlying9 rfl)) rfl ?_
                  refine dc_cons (q_on_f rfl rfl rfl (by assumption) (by exact opd_lss rfl rfl rfl)) rfl ?_
                  refine dc_cons (DStep.q rfl (by exact (by exact opd_pickf rfl rfl (by assumption) rfl))) rfl ?_
                  refine dc_cons (DStep.q rfl (by exact opd_move rfl rfl)) rfl ?_
                  refine dc_cons (q_on_f rfl rfl rfl (by assumption) (by exact opd_move rfl rfl)) rfl ?_
                  refine dc_cons (q_on_f rfl rfl rfl (by assumption) (by exact opd_move rfl rfl)) rfl ?_
                  refine dc_cons (q_on_f rfl rfl rfl (by assumption) (by exact (by exact x_index_pad rfl so40 rfl rfl (by omega) (by exact Int.toNat_natCast _) (by assumption) rfl))) rfl ?_
                  refine dc_cons (q_on_f rfl rfl rfl (by assumption) (by exact (by exact opd_field_pad rfl fo62_1 rfl rfl))) rfl ?_
                  refine dc_cons (q_on_f rfl rfl rfl (by assumption) (by exact (by exact opd_load1_pad rfl Tryz.isAgg9 rfl (by omega) rfl))) rfl ?_
                  refine dc_cons (q_on_f rfl rfl rfl (by assumption) (by exact opd_len_str rfl Tryz.underlying9 rfl)) rfl ?_
                  refine dc_cons (q_on_f rfl rfl rfl (by assumption) (by exact opd_gtr rfl rfl rfl)) rfl ?_
                  refine dc_cons (DStep.q rfl (by exact (by exact opd_pickf rfl rfl (by assumption) rfl))) rfl ?_
                  refine dc_cons (DStep.q rfl (by exact opd_move rfl rfl)) rfl ?_
                  refine dc_cons (q_on_f rfl rfl rfl (by assumption) (by exact opd_move rfl rfl)) rfl ?_
                  refine dc_cons (q_on_f rfl rfl rfl (by assumption) (by exact opd_gtr rfl rfl rfl)) rfl ?_
                  refine dc_cons (q_on_f rfl rfl rfl (by assumption) (by exact opd_move rfl rfl)) rfl ?_
                  refine dc_cons (q_off_t rfl rfl rfl (by assumption)) rfl ?_
                  refine dc_cons (q_off_t rfl rfl rfl (by assumption)) rfl ?_
                  refine dc_cons (q_off_t rfl rfl rfl (by assumption)) rfl ?_
                  refine dc_cons (q_off_t rfl rfl rfl (by assumption)) rfl ?_
                  refine dc_cons (q_off_t rfl rfl rfl (by assumption)) rfl ?_
                  refine dc_cons (q_off_t rfl rfl rfl (by assumption)) rfl ?_
                  refine dc_cons (q_off_t rfl rfl rfl (by assumption)) rfl ?_
                  refine dc_cons (q_off_t rfl rfl rfl (by assumption)) rfl ?_
                  refine dc_cons (q_off_t rfl rfl rfl (by assumption)) rfl ?_
                  refine dc_cons (q_off_t rfl rfl rfl (by assumption)) rfl ?_
                  refine dc_cons (q_off_t rfl rfl rfl (by assumption)) rfl ?_
                  refine dc_cons (q_off_t rfl rfl rfl (by assumption)) rfl ?_
                  refine dc_cons (q_on_f rfl rfl rfl (by assumption) (by exact (by exact opd_pickf rfl rfl (by assumption) rfl))) rfl ?_
                  refine dc_cons (DStep.q rfl (by exact (by exact opd_pickf rfl rfl (by assumption) rfl))) rfl ?_
                  refine dc_nil ⟨by kernel_rfl, ?_⟩
                  exact ⟨rfl, ⟨_, rfl, by rfl⟩, rfl, rfl, rfl⟩
                · refine awp_drawc follows ?_
                  refine dc_cons (DStep.q rfl (by exact opd_move rfl rfl)) rfl ?_
                  refine dc_cons (DStep.q rfl (by exact opd_move rfl rfl)) rfl ?_
                  refine dc_cons (DStep.q rfl (by exact (by exact x_index_pad rfl so40 rfl rfl (by omega) (by exact Int.toNat_natCast _) (by assumption) rfl))) rfl ?_
                  refine dc_cons (DStep.q rfl (by exact (by exact opd_field_pad rfl fo62_0 rfl rfl))) rfl ?_
                  refine dc_cons (DStep.q rfl (by exact (by exact opd_load1_pad rfl Tryz.isAgg9 rfl (by omega) rfl))) rfl ?_
                  refine dc_cons (DStep.q rfl (by exact opr_call rfl rfl Tryz.call103 rfl (rName_c t.key _ hkt.1))) rfl ?_
                  refine dc_cons (DStep.q rfl (by exact opd_not rfl rfl)) rfl ?_
                  refine dc_cons (DStep.q rfl (by exact opd_move rfl rfl)) rfl ?_
                  refine dc_cons (q_on_f rfl rfl rfl (by assumption) (by exact opd_move rfl rfl)) rfl ?_
                  refine dc_cons (q_on_f rfl rfl rfl (by assumption) (by exact opd_move rfl rfl)) rfl ?_
                  refine dc_cons (q_on_f rfl rfl rfl (by assumption) (by exact (by exact x_index_pad rfl so40 rfl rfl (by omega) (by exact Int.toNat_natCast _) (by assumption) rfl))) rfl ?_
                  refine dc_cons (q_on_f rfl rfl rfl (by assumption) (by exact (by exact opd_field_pad rfl fo62_1 rfl rfl))) rfl ?_
                  refine dc_cons (q_on_f rfl rfl rfl (by assumption) (by exact (by exact opd_load1_pad rfl Tryz.isAgg9 rfl (by omega) rfl))) rfl ?_
                  refine dc_cons (q_on_f rfl rfl rfl (by assumption) (by exact opd_len_str rfl Tryz.underlying9 rfl)) rfl ?_
                  refine dc_cons (q_on_f rfl rfl rfl (by assumption) (by exact opd_lss rfl rfl rfl)) rfl ?_
                  refine dc_cons (DStep.q rfl (by exact (by exact opd_pickf rfl rfl (by assumption) rfl))) rfl ?_
                  refine dc_cons (DStep.q rfl (by exact opd_move rfl rfl)) rfl ?_
                  refine dc_cons (q_on_f rfl rfl rfl (by assumption) (by exact opd_move rfl rfl)) rfl ?_
                  refine dc_cons (q_on_f rfl rfl rfl (by assumption) (by exact opd_move rfl rfl)) rfl ?_
                  refine dc_cons (q_on_f rfl rfl rfl (by assumption) (by exact (by exact x_index_pad rfl so40 rfl rfl (by omega) (by exact Int.toNat_natCast _) (by assumption) rfl))) rfl ?_
                  refine dc_cons (q_on_f rfl rfl rfl (by assumption) (by exact (by exact opd_field_pad rfl fo62_1 rfl rfl))) rfl ?_
                  refine dc_cons (q_on_f rfl rfl rfl (by assumption) (by exact (by exact opd_load1_pad rfl Tryz.isAgg9 rfl (by omega) rfl))) rfl ?_
                  refine dc_cons (q_on_f rfl rfl rfl (by assumption) (by exact opd_len_str rfl Tryz.underlying9 rfl)) rfl ?_
                  refine dc_cons (q_on_f rfl rfl rfl (by assumption) (by exact opd_gtr rfl rfl rfl)) rfl ?_
                  refine dc_cons (DStep.q rfl (by exact (by exact opd_pickf rfl rfl (by assumption) rfl))) rfl ?_
                  refine dc_cons (DStep.q rfl (by exact opd_move rfl rfl)) rfl ?_
                  refine dc_cons (q_on_f rfl rfl rfl (by assumption) (by exact opd_move rfl rfl)) rfl ?_
                  refine dc_cons (q_on_f rfl rfl rfl (by assumption) (by exact opd_gtr rfl rfl rfl)) rfl ?_
                  refine dc_cons (q_on_f rfl rfl rfl (by assumption) (by exact opd_move rfl rfl)) rfl ?_
                  refine dc_cons (q_on_t rfl rfl rfl (by assumption) (by exact opd_move rfl rfl)) rfl ?_
                  refine dc_cons (q_on_t rfl rfl rfl (by assumption) (by exact opd_move rfl rfl)) rfl ?_
                  refine dc_cons (q_on_t rfl rfl rfl (by assumption) (by exact opd_sub rfl rfl rfl (by exact w64 (by omega) (by omega)))) rfl ?_
                  refine dc_cons (q_on_t rfl rfl rfl (by assumption) (by exact x_index_pad rfl so40 rfl rfl (by have := of_decide_eq_true hg41; omega) (show ((k : Int) - 1).toNat = k - 1 by omega) (hpv (by have := of_decide_eq_true hg41; omega)) rfl)) rfl ?_
                  refine dc_cons (q_on_t rfl rfl rfl (by assumption) (by exact (by exact opd_field_pad rfl fo62_0 rfl rfl))) rfl ?_
                  refine dc_cons (q_on_t rfl rfl rfl (by assumption) (by exact opd_load1_pad rfl Tryz.isAgg9 rfl (hpv (by have := of_decide_eq_true hg41; omega)) rfl)) rfl ?_
                  refine dc_cons (q_on_t rfl rfl rfl (by assumption) (by exact opd_move rfl rfl)) rfl ?_
                  refine dc_cons (q_on_t rfl rfl rfl (by assumption) (by exact opd_move rfl rfl)) rfl ?_
                  refine dc_cons (q_on_t rfl rfl rfl (by assumption) (by exact (by exact x_index_pad rfl so40 rfl rfl (by omega) (by exact Int.toNat_natCast _) (by assumption) rfl))) rfl ?_
                  refine dc_cons (q_on_t rfl rfl rfl (by assumption) (by exact (by exact opd_field_pad rfl fo62_0 rfl rfl))) rfl ?_
                  refine dc_cons (q_on_t rfl rfl rfl (by assumption) (by exact (by exact opd_load1_pad rfl Tryz.isAgg9 rfl (by omega) rfl))) rfl ?_
                  refine dc_cons (q_on_t rfl rfl rfl (by assumption) (by exact opd_sgeq rfl rfl rfl)) rfl ?_
                  refine dc_cons (q_on_f rfl rfl rfl (by assumption) (by exact (by exact opd_pickt rfl rfl (by assumption) rfl))) rfl ?_
                  refine dc_cons (DStep.q rfl (by exact (by exact opd_pickf rfl rfl (by assumption) rfl))) rfl ?_
                  refine dc_nil ⟨by kernel_rfl, ?_⟩
                  exact ⟨rfl, ⟨_, rfl, by rfl⟩, rfl, rfl, rfl⟩
              · refine awp_drawc follows ?_
                refine dc_cons (DStep.q rfl (by exact opd_move rfl rfl)) rfl ?_
                refine dc_cons (DStep.q rfl (by exact opd_move rfl rfl)) rfl ?_
                refine dc_cons (DStep.q rfl (by exact (by exact x_index_pad rfl so40 rfl rfl (by omega) (by exact Int.toNat_natCast _) (by assumption) rfl))) rfl ?_
                refine dc_cons (DStep.q rfl (by exact (by exact opd_field_pad rfl fo62_0 rfl rfl))) rfl ?_
                refine dc_cons (DStep.q rfl (by exact (by exact opd_load1_pad rfl Tryz.isAgg9 rfl (by omega) rfl))) rfl ?_
                refine dc_cons (DStep.q rfl (by exact opr_call rfl rfl Tryz.call103 rfl (rName_c t.key _ hkt.1))) rfl ?_
                refine dc_cons (DStep.q rfl (by exact opd_not rfl rfl)) rfl ?_
                refine dc_cons (DStep.q rfl (by exact opd_move rfl rfl)) rfl ?_
                refine dc_cons (q_on_f rfl rfl rfl (by assumption) (by exact opd_move rfl rfl)) rfl ?_
                refine dc_cons (q_on_f rfl rfl rfl (by assumption) (by exact opd_move rfl rfl)) rfl ?_
                refine dc_cons (q_on_f rfl rfl rfl (by assumption) (by exact (by exact x_index_pad rfl so40 rfl rfl (by omega) (by exact Int.toNat_natCast _) (by assumption) rfl))) rfl ?_
                refine dc_cons (q_on_f rfl rfl rfl (by assumption) (by exact (by exact opd_field_pad rfl fo62_1 rfl rfl))) rfl ?_
                refine dc_cons (q_on_f rfl rfl rfl (by assumption) (by exact (by exact opd_load1_pad rfl Tryz.isAgg9 rfl (by omega) rfl))) rfl ?_
                refine dc_cons (q_on_f rfl rfl rfl (by assumption) (by exact opd_len_str rfl Tryz.underlying9 rfl)) rfl ?_
                refine dc_cons (q_on_f rfl rfl rfl (by assumption) (by exact opd_lss rfl rfl rfl)) rfl ?_
                refine dc_cons (DStep.q rfl (by exact (by exact opd_pickf rfl rfl (by assumption) rfl))) rfl ?_
                refine dc_cons (DStep.q rfl (by exact opd_move rfl rfl)) rfl ?_
                refine dc_cons (q_on_f rfl rfl rfl (by assumption) (by exact opd_move rfl rfl)) rfl ?_
                refine dc_cons (q_on_f rfl rfl rfl (by assumption) (by exact opd_move rfl rfl)) rfl ?_
                refine dc_cons (q_on_f rfl rfl rfl (by assumption) (by exact (by exact x_index_pad rfl so40 rfl rfl (by omega) (by exact Int.toNat_natCast _) (by assumption) rfl))) rfl ?_
                refine dc_cons (q_on_f rfl rfl rfl (by assumption) (by exact (by exact opd_field_pad rfl fo62_1 rfl rfl))) rfl ?_
                refine dc_cons (q_on_f rfl rfl rfl (by assumption) (by exact (by exact opd_load1_pad rfl Tryz.isAgg9 rfl (by omega) rfl))) rfl ?_
                refine dc_cons (q_on_f rfl rfl rfl (by assumption) (by exact opd_len_str rfl Tryz.underlying9 rfl)) rfl ?_
                refine dc_cons (q_on_f rfl rfl rfl (by assumption) (by exact opd_gtr rfl rfl rfl)) rfl ?_
                refine dc_cons (DStep.q rfl (by exact (by exact opd_pickf rfl rfl (by assumption) rfl))) rfl ?_
                refine dc_cons (DStep.q rfl (by exact opd_move rfl rfl)) rfl ?_
                refine dc_cons (q_off_f rfl rfl rfl (by assumption)) rfl ?_
                refine dc_cons (q_off_f rfl rfl rfl (by assumption)) rfl ?_
                refine dc_cons (q_off_f rfl rfl rfl (by assumption)) rfl ?_
                refine dc_cons (q_off_u rfl rfl rfl) rfl ?_
                refine dc_cons (q_off_u rfl rfl rfl) rfl ?_
                refine dc_cons (q_off_u rfl rfl rfl) rfl ?_
                refine dc_cons (q_off_u rfl rfl rfl) rfl ?_
                refine dc_cons (q_off_u rfl rfl rfl) rfl ?_
                refine dc_cons (q_off_u rfl rfl rfl) rfl ?_
                refine dc_cons (q_off_u rfl rfl rfl) rfl ?_
                refine dc_cons (q_off_u rfl rfl rfl) rfl ?_
                refine dc_cons (q_off_u rfl rfl rfl) rfl ?_
                refine dc_cons (q_off_u rfl rfl rfl) rfl ?_
                refine dc_cons (q_off_u rfl rfl rfl) rfl ?_
                refine dc_cons (q_off_u rfl rfl rfl) rfl ?_
                refine dc_cons (q_off_f rfl rfl rfl (by assumption)) rfl ?_
                refine dc_cons (DStep.q rfl (by exact (by exact opd_pickt rfl rfl (by assumption) rfl))) rfl ?_
                refine dc_nil ⟨by kernel_rfl, ?_⟩
                exact ⟨rfl, ⟨_, rfl, by rfl⟩, rfl, rfl, rfl⟩
            · refine awp_drawc follows ?_
              refine dc_cons (DStep.q rfl (by exact opd_move rfl rfl)) rfl ?_
              refine dc_cons (DStep.q rfl (by exact opd_move rfl rfl)) rfl ?_
              refine dc_cons (DStep.q rfl (by exact (by exact x_index_pad rfl so40 rfl rfl (by omega) (by exact Int.toNat_natCast _) (by assumption) rfl))) rfl ?_
              refine dc_cons (DStep.q rfl (by exact (by exact opd_field_pad rfl fo62_0 rfl rfl))) rfl ?_
              refine dc_cons (DStep.q rfl (by exact (by exact opd_load1_pad rfl Tryz.isAgg9 rfl (by omega) rfl))) rfl ?_
              refine dc_cons (DStep.q rfl (by exact opr_call rfl rfl Tryz.call103 rfl (rName_c t.key _ hkt.1))) rfl ?_
              refine dc_cons (DStep.q rfl (by exact opd_not rfl rfl)) rfl ?_
              refine dc_cons (DStep.q rfl (by exact opd_move rfl rfl)) rfl ?_
              refine dc_cons (q_on_f rfl rfl rfl (by assumption) (by exact opd_move rfl rfl)) rfl ?_
              refine dc_cons (q_on_f rfl rfl rfl (by assumption) (by exact opd_move rfl rfl)) rfl ?_
              refine dc_cons (q_on_f rfl rfl rfl (by assumption) (by exact (by exact x_index_pad rfl so40 rfl rfl (by omega) (by exact Int.toNat_natCast _) (by assumption) rfl))) rfl ?_
              refine dc_cons (q_on_f rfl rfl rfl (by assumption) (by exact (by exact opd_field_pad rfl fo62_1 rfl rfl))) rfl ?_
              refine dc_cons (q_on_f rfl rfl rfl (by assumption) (by exact (by exact opd_load1_pad rfl Tryz.isAgg9 rfl (by omega) rfl))) rfl ?_
              refine dc_cons (q_on_f rfl rfl rfl (by assumption) (by exact opd_len_str rfl Tryz.underlying9 rfl)) rfl ?_
              refine dc_cons (q_on_f rfl rfl rfl (by assumption) (by exact opd_lss rfl rfl rfl)) rfl ?_
              refine dc_cons (DStep.q rfl (by exact (by exact opd_pickf rfl rfl (by assumption) rfl))) rfl ?_
              refine dc_cons (DStep.q rfl (by exact opd_move rfl rfl)) rfl ?_
              refine dc_cons (q_off_f rfl rfl rfl (by assumption)) rfl ?_
              refine dc_cons (q_off_f rfl rfl rfl (by assumption)) rfl ?_
              refine dc_cons (q_off_f rfl rfl rfl (by assumption)) rfl ?_
              refine dc_cons (q_off_f rfl rfl rfl (by assumption)) rfl ?_
              refine dc_cons (q_off_f rfl rfl rfl (by assumption)) rfl ?_
              refine dc_cons (q_off_f rfl rfl rfl (by assumption)) rfl ?_
              refine dc_cons (q_off_f rfl rfl rfl (by assumption)) rfl ?_
              refine dc_cons (DStep.q rfl (by exact (by exact opd_pickt rfl rfl (by assumption) rfl))) rfl ?_
              refine dc_cons (DStep.q rfl (by exact opd_move rfl rfl)) rfl ?_
              refine dc_cons (q_off_f rfl rfl rfl (by rfl)) rfl ?_
              refine dc_cons (q_off_f rfl rfl rfl (by rfl)) rfl ?_
              refine dc_cons (q_off_f rfl rfl rfl (by rfl)) rfl ?_
              refine dc_cons (q_off_u rfl rfl rfl) rfl ?_
              refine dc_cons (q_off_u rfl rfl rfl) rfl ?_
              refine dc_cons (q_off_u rfl rfl rfl) rfl ?_
              refine dc_cons (q_off_u rfl rfl rfl) rfl ?_
              refine dc_cons (q_off_u rfl rfl rfl) rfl ?_
              refine dc_cons (q_off_u rfl rfl rfl) rfl ?_
              refine dc_cons (q_off_u rfl rfl rfl) rfl ?_
              refine dc_cons (q_off_u rfl rfl rfl) rfl ?_
              refine dc_cons (q_off_u rfl rfl rfl) rfl ?_
              refine dc_cons (q_off_u rfl rfl rfl) rfl ?_
              refine dc_cons (q_off_u rfl rfl rfl) rfl ?_
              refine dc_cons (q_off_u rfl rfl rfl) rfl ?_
              refine dc_cons (q_off_f rfl rfl rfl (by rfl)) rfl ?_
              refine dc_cons (DStep.q rfl (by exact (by exact opd_pick_t rfl rfl rfl))) rfl ?_
              refine dc_nil ⟨by kernel_rfl, ?_⟩
              exact ⟨rfl, ⟨_, rfl, by rfl⟩, rfl, rfl, rfl⟩
          · refine awp_drawc follows ?_
            refine dc_cons (DStep.q rfl (by exact opd_move rfl rfl)) rfl ?_
            refine dc_cons (DStep.q rfl (by exact opd_move rfl rfl)) rfl ?_
            refine dc_cons (DStep.q rfl (by exact (by exact x_index_pad rfl so40 rfl rfl (by omega) (by exact Int.toNat_natCast _) (by assumption) rfl))) rfl ?_
            refine dc_cons (DStep.q rfl (by exact (by exact opd_field_pad rfl fo62_0 rfl rfl))) rfl ?_
            refine dc_cons (DStep.q rfl (by exact (by exact opd_load1_pad rfl Tryz.isAgg9 rfl (by omega) rfl))) rfl ?_
            refine dc_cons (DStep.q rfl (by exact opr_call rfl rfl Tryz.call103 rfl (rName_c t.key _ hkt.1))) rfl ?_
            refine dc_cons (DStep.q rfl (by exact opd_not rfl rfl)) rfl ?_
            refine dc_cons (DStep.q rfl (by exact opd_move rfl rfl)) rfl ?_
            refine dc_cons (q_off_f rfl rfl rfl (by assumption)) rfl ?_
            refine dc_cons (q_off_f rfl rfl rfl (by assumption)) rfl ?_
            refine dc_cons (q_off_f rfl rfl rfl (by assumption)) rfl ?_
            refine dc_cons (q_off_f rfl rfl rfl (by assumption)) rfl ?_
            refine dc_cons (q_off_f rfl rfl rfl (by assumption)) rfl ?_
            refine dc_cons (q_off_f rfl rfl rfl (by assumption)) rfl ?_
            refine dc_cons (q_off_f rfl rfl rfl (by assumption)) rfl ?_
            refine dc_cons (DStep.q rfl (by exact (by exact opd_pickt rfl rfl (by assumption) rfl))) rfl ?_
            refine dc_cons (DStep.q rfl (by exact opd_move rfl rfl)) rfl ?_
            refine dc_cons (q_off_f rfl rfl rfl (by rfl)) rfl ?_
            refine dc_cons (q_off_f rfl rfl rfl (by rfl)) rfl ?_
            refine dc_cons (q_off_f rfl rfl rfl (by rfl)) rfl ?_
            refine dc_cons (q_off_f rfl rfl rfl (by rfl)) rfl ?_
            refine dc_cons (q_off_f rfl rfl rfl (by rfl)) rfl ?_
            refine dc_cons (q_off_f rfl rfl rfl (by rfl)) rfl ?_
            refine dc_cons (q_off_f rfl rfl rfl (by rfl)) rfl ?_
            refine dc_cons (DStep.q rfl (by exact (by exact opd_pick_t rfl rfl rfl))) rfl ?_
            refine dc_cons (DStep.q rfl (by exact opd_move rfl rfl)) rfl ?_
            refine dc_cons (q_off_f rfl rfl rfl (by rfl)) rfl ?_
            refine dc_cons (q_off_f rfl rfl rfl (by rfl)) rfl ?_
            refine dc_cons (q_off_f rfl rfl rfl (by rfl)) rfl ?_
            refine dc_cons (q_off_u rfl rfl rfl) rfl ?_
            refine dc_cons (q_off_u rfl rfl rfl) rfl ?_
            refine dc_cons (q_off_u rfl rfl rfl) rfl ?_
            refine dc_cons (q_off_u rfl rfl rfl) rfl ?_
            refine dc_cons (q_off_u rfl rfl rfl) rfl ?_
            refine dc_cons (q_off_u rfl rfl rfl) rfl ?_
            refine dc_cons (q_off_u rfl rfl rfl) rfl ?_
            refine dc_cons (q_off_u rfl rfl rfl) rfl ?_
            refine dc_cons (q_off_u rfl rfl rfl) rfl ?_
            refine dc_cons (q_off_u rfl rfl rfl) rfl ?_
            refine dc_cons (q_off_u rfl rfl rfl) rfl ?_
            refine dc_cons (q_off_u rfl rfl rfl) rfl ?_
            refine dc_cons (q_off_f rfl rfl rfl (by rfl)) rfl ?_
            refine dc_cons (DStep.q rfl (by exact (by exact opd_pick_t rfl rfl rfl))) rfl ?_
            refine dc_nil ⟨by kernel_rfl, ?_⟩
            exact ⟨rfl, ⟨_, rfl, by rfl⟩, rfl, rfl, rfl⟩
        refine awp_cond rfl (fun hc3 => ?_) (fun hc3 => ?_)
        -- cond 3
        · rw [hbe] at hc3
          refine awp_seq ?_
          refine awp_region ?_
          refine al_d rfl rfl rfl (by exact opd_assign rfl rfl) ?_
          refine al_nil ?_
          refine awp_ret ?_
          -- return
          refine aret1 (H' := []) (by exact .inr rfl) rfl (rval_tmp rfl) (Fin.wk (by simp) trivial trivial) ?_
          exact ⟨by rw [range_some hlt ((badAt_some ht).trans hc3)]; rfl, rfl⟩
        · rw [hbe] at hc3
          refine awp_skip ?_
          refine awp_region ?_
          refine al_d rfl rfl rfl (by exact opd_move rfl rfl) ?_
          refine al_d rfl rfl rfl (by exact opd_add rfl rfl rfl (by exact w64 (by omega) (by omega))) ?_
          refine al_d rfl rfl rfl (by exact opd_assign rfl rfl) ?_
          refine al_nil ?_
          -- end of a round
          refine ⟨k + 1, ⟨by omega, fun j hj => ?_⟩, by omega, Ent.e0 ⟨⟨_, rfl, rfl⟩, ⟨_, rfl, rfl⟩, trivial⟩⟩
          by_cases e : j = k
          · subst e; exact (badAt_some ht).trans hc3
          · exact hno j (by omega)
      · have hge : k = l.length := by have := of_decide_eq_false hc2; omega
        subst hge
        refine awp_exit ?_
        refine awp_seq ?_
        refine awp_region ?_
        refine al_d rfl rfl rfl (by exact opd_assign rfl rfl) ?_
        refine al_nil ?_
        refine awp_ret ?_
        -- return
        refine aret1 (H' := []) (by exact .inr rfl) rfl (rval_tmp rfl) (Fin.wk (by simp) trivial trivial) ?_
        exact ⟨by rw [range_any hno]; rfl, rfl⟩
end Go.Proofs.YtdgoodjhndeojaaGreat
end
section
set_option linter.unusedVariables false
set_option linter.unusedSimpArgs false
set_option maxRecDepth 100000
namespace Go.Proofs.YtdgoodjhndeojaaGreat
open Go.Abs

theorem wrong_eq (o : GObj) (k : Nat) (s p : ByteArray) (hp : 0 < k → o.refs[k - 1]? = some p) :
    ((!gName s || ((decide (o.kind = 2) && decide ((0 : Int) < (k : Int))) && decide (p = s))) || (decide (o.kind = 3) && inB (seenL o.refs k) s)) = gWrong o (before id o.refs k) (seenL o.refs k) s := by
  rw [gWrong, gTwice]
  cases hg : gName s with
  | false => simp
  | true =>
    have hs : (decide ((0 : Int) < (k : Int)) && decide (p = s)) = decide (s = before id o.refs k) := by
      cases k with
      | zero => rw [before, decide_eq_false (gName_ne hg)]; rfl
      | succ k =>
        have h := hp (by omega)
        rw [show k + 1 - 1 = k from rfl] at h
        rw [before_succ h, decide_eq_true (show (0 : Int) < ((k + 1 : Nat) : Int) by omega), Bool.true_and]
        exact decide_eq_decide.2 eq_comm
    rw [← hs]
    simp [Bool.and_assoc]
theorem seenL_at {l : List ByteArray} {k : Nat} {s : ByteArray} (h : l[k]? = some s) : seenL l (k + 1) = sput (seenL l k) s := by rw [seenL, h]; rfl
def gNum (k n : Int) : Bool := if k = 1 then decide (n = 0) else if k = 2 then decide (2 ≤ n) else if k = 3 then decide (3 ≤ n) else if k = 4 then decide (1 ≤ n) else decide (n = 3)
def rRefs (o : GObj) : Bool := (decide ((o.refs.length : Int) ≤ 2000) && !((List.range o.refs.length).any (wrongAt o))) && gNum o.kind (o.refs.length : Int)
theorem rRefs_c (o : GObj) (H : Heap) (ho : okO o) : ACalls Tryz.prog 156 [av (encObj o)] H (fun r H' => r = bv (rRefs o) ∧ H' = H) := by
  refine ACalls.pure ?_ (by simp) H
  obtain ⟨h1, h2, h3, h4⟩ := ho
  have hml : (o.refs.map encStr).length = o.refs.length := List.length_map _
  refine ACalls.body Tryz.func156 rfl Tryz.ntmps156 (Nat.le_of_ble_eq_true rfl) ?_
  refine awp_seq ?_
  refine awp_region ?_
  refine al_d rfl rfl rfl (by exact opd_box (id := 1) rfl rfl rfl rfl rfl) ?_
  refine al_d rfl rfl rfl (by exact opd_assign rfl rfl) ?_
  refine al_nil ?_
  refine awp_seq ?_
  refine awp_region ?_
  refine al_d rfl rfl rfl (by exact (by exact opd_field_ref rfl fo42_3 rfl rfl rfl rfl)) ?_
  refine al_d rfl rfl rfl (by exact (by exact opd_load1_ref rfl Tryz.isAgg39 rfl rfl rfl rfl rfl)) ?_
  refine al_d rfl rfl rfl (by exact (by exact opd_len_sl rfl Tryz.underlying39 rfl)) ?_
  refine al_d rfl rfl rfl (by exact opd_assign rfl rfl) ?_
  refine al_nil ?_
  refine awp_seq ?_
  refine awp_seq ?_
  refine awp_region ?_
  refine al_d rfl rfl rfl (by exact opd_move rfl rfl) ?_
  refine al_d rfl rfl rfl (by exact opd_gtr rfl rfl rfl) ?_
  refine al_nil ?_
  refine awp_cond rfl (fun hc1 => ?_) (fun hc1 => ?_)
  -- cond 1
  · have hb : decide ((o.refs.length : Int) ≤ 2000) = false := by
      have := of_decide_eq_true hc1
      exact decide_eq_false (by omega)
    refine awp_seq ?_
    refine awp_region ?_
    refine al_d rfl rfl rfl (by exact opd_assign rfl rfl) ?_
    refine al_nil ?_
    refine awp_ret ?_
    -- return
    refine aret1 (H' := []) (by exact .inr rfl) rfl (rval_tmp rfl) (Fin.wk (by simp) trivial trivial) ?_
    exact ⟨by rw [rRefs, hb]; rfl, rfl⟩
  · have hb : decide ((o.refs.length : Int) ≤ 2000) = true := by
      have := of_decide_eq_false hc1
      exact decide_eq_true (by omega)
    rw [rRefs, hb, Bool.true_and]
    refine awp_skip ?_
    refine awp_seq ?_
    refine awp_region ?_
    refine al_d rfl rfl rfl (by exact opd_makeMap (id := 11) strK rfl rfl) ?_
    refine al_d rfl rfl rfl (by exact opd_assign rfl rfl) ?_
    refine al_nil ?_
    refine awp_seq ?_
    refine awp_seq ?_
    refine awp_region ?_
    refine al_d rfl rfl rfl (by exact opd_assign rfl rfl) ?_
    refine al_nil ?_
    refine awp_block ?_
    -- loop
    refine awp_loop (σ := Nat) (fun k => ([(1, .ref 1 0 0 0), (3, iv ((o.refs.map encStr).length : Int)), (4, .mp 11 0), (5, iv (k : Int))], [(11, sob (seenL o.refs k)), (1, bx 6 42 ((encObj o).map .pv))])) (fun k => k ≤ o.refs.length ∧ ∀ j, j < k → wrongAt o j = false) (fun k => o.refs.length - k) 0 ⟨by omega, by omega⟩ ?_ ?_
    · exact (Ent.wk ⟨⟨_, rfl, rfl⟩, (by (simp; rfl)), ⟨_, rfl, rfl⟩, (by (simp; done)), ⟨_, rfl, rfl⟩, (by (simp; rfl)), ⟨_, rfl, rfl⟩, (by (simp; done)), trivial⟩ ⟨⟨_, rfl, rfl⟩, (by exact sob_clo _ _), ⟨_, rfl, rfl⟩, (by (simp; done)), trivial⟩ trivial)
    · rintro k ⟨hk, hno⟩
      refine awp_seq ?_
      refine awp_seq ?_
      refine awp_region ?_
      refine al_d rfl rfl rfl (by exact opd_move rfl rfl) ?_
      refine al_d rfl rfl rfl (by exact opd_move rfl rfl) ?_
      refine al_d rfl rfl rfl (by exact opd_lss rfl rfl rfl) ?_
      refine al_nil ?_
      refine awp_cond rfl (fun hc2 => ?_) (fun hc2 => ?_)
      -- cond 2
      · have hlt : k < o.refs.length := by have := of_decide_eq_true hc2; omega
        obtain ⟨s, hs⟩ := get_of_lt hlt
        have hi := map_get (f := encStr) hs
        obtain ⟨p, hp⟩ : ∃ p, 0 < k → o.refs[k - 1]? = some p := by
          by_cases k0 : 0 < k
          · obtain ⟨p, hp⟩ := get_of_lt (l := o.refs) (k := k - 1) (by omega)
            exact ⟨p, fun _ => hp⟩
          · exact ⟨s, fun h => absurd h k0⟩
        have hpv : 0 < k → (o.refs.map encStr)[k - 1]? = some (encStr p) := fun h => map_get (f := encStr) (hp h)
        have hbe := wrong_eq o k s p hp
        have hw : wrongAt o k = gWrong o (before id o.refs k) (seenL o.refs k) s := by rw [wrongAt, hs]
        have hse := seenL_at hs
        refine awp_skip ?_
        refine awp_seq ?_
        refine awp_block ?_
        refine awp_seq ?_
        refine awp_seq ?_
        refine awp_mergeR (t := 60) (n := 44) (X := (!gName s || ((decide (o.kind = 2) && decide ((0 : Int) < (k : Int))) && decide (p = s))) || (decide (o.kind = 3) && inB (seenL o.refs k) s)) ?_ ?_
        · cases hg24 : (!gName s : Bool)
          · cases hg28 : (decide (o.kind = 2) : Bool)
            · cases hg51 : (decide (o.kind = 3) : Bool)
              · refine awp_drawc follows ?_
                refine dc_cons (DStep.q rfl (by exact (by exact opd_field_ref rfl fo42_3 rfl rfl rfl rfl))) rfl ?_
                refine dc_cons (DStep.q rfl (by exact (by exact opd_load1_ref rfl Tryz.isAgg39 rfl rfl rfl rfl rfl))) rfl ?_
                refine dc_cons (DStep.q rfl (by exact opd_move rfl rfl)) rfl ?_
                refine dc_cons (DStep.q rfl (by exact (by exact x_index_pad rfl so39 rfl rfl (by omega) (by exact Int.toNat_natCast _) (by assumption) rfl))) rfl ?_
                refine dc_cons (DStep.q rfl (by exact (by exact opd_load1_pad rfl Tryz.isAgg9 rfl (by omega) rfl))) rfl ?_
                refine dc_cons (DStep.q rfl (by exact opr_call rfl rfl Tryz.call103 rfl (rName_c s _ (h4 s (List.mem_of_getElem? hs))))) rfl ?_
                refine dc_cons (DStep.q rfl (by exact opd_not rfl rfl)) rfl ?_
                refine dc_cons (DStep.q rfl (by exact opd_move rfl rfl)) rfl ?_
                refine dc_cons (q_on_f rfl rfl rfl (by assumption) (by exact (by exact opd_field_ref rfl fo42_1 rfl rfl rfl rfl))) rfl ?_
                refine dc_cons (q_on_f rfl rfl rfl (by assumption) (by exact (by exact opd_load1_ref rfl Tryz.isAgg3 rfl rfl rfl rfl rfl))) rfl ?_
                refine dc_cons (q_on_f rfl rfl rfl (by assumption) (by exact opd_eql rfl rfl rfl)) rfl ?_
                refine dc_cons (q_on_f rfl rfl rfl (by assumption) (by exact opd_move rfl rfl)) rfl ?_
                refine dc_cons (q_off_t rfl rfl rfl (by assumption)) rfl ?_
                refine dc_cons (q_off_t rfl rfl rfl (by assumption)) rfl ?_
                refine dc_cons (q_on_f rfl rfl rfl (by assumption) (by exact (by exact opd_pickf rfl rfl (by assumption) rfl))) rfl ?_
                refine dc_cons (q_on_f rfl rfl rfl (by assumption) (by exact opd_move rfl rfl)) rfl ?_
                refine dc_cons (q_off_t rfl rfl rfl (by rfl)) rfl ?_
                refine dc_cons (q_off_t rfl rfl rfl (by rfl)) rfl ?_
                refine dc_cons (q_off_t rfl rfl rfl (by rfl)) rfl ?_
                refine dc_cons (q_off_t rfl rfl rfl (by rfl)) rfl ?_
                refine dc_cons (q_off_t rfl rfl rfl (by rfl)) rfl ?_
                refine dc_cons (q_off_t rfl rfl rfl (by rfl)) rfl ?_
                refine dc_cons (q_off_t rfl rfl rfl (by rfl)) rfl ?_
                refine dc_cons (q_off_t rfl rfl rfl (by rfl)) rfl ?_
                refine dc_cons (q_off_t rfl rfl rfl (by rfl)) rfl ?_
                refine dc_cons (q_off_t rfl rfl rfl (by rfl)) rfl ?_
                refine dc_cons (q_off_t rfl rfl rfl (by rfl)) rfl ?_
                refine dc_cons (q_off_t rfl rfl rfl (by rfl)) rfl ?_
                refine dc_cons (q_on_f rfl rfl rfl (by assumption) (by exact (by exact opd_pick_f rfl rfl rfl))) rfl ?_
                refine dc_cons (DStep.q rfl (by exact (by exact opd_pickf rfl rfl (by assumption) rfl))) rfl ?_
                refine dc_cons (DStep.q rfl (by exact opd_move rfl rfl)) rfl ?_
                refine dc_cons (q_on_f rfl rfl rfl (by rfl) (by exact (by exact opd_field_ref rfl fo42_1 rfl rfl rfl rfl))) rfl ?_
                refine dc_cons (q_on_f rfl rfl rfl (by rfl) (by exact (by exact opd_load1_ref rfl Tryz.isAgg3 rfl rfl rfl rfl rfl))) rfl ?_
                refine dc_cons (q_on_f rfl rfl rfl (by rfl) (by exact opd_eql rfl rfl rfl)) rfl ?_
                refine dc_cons (q_on_f rfl rfl rfl (by rfl) (by exact opd_move rfl rfl)) rfl ?_
                refine dc_cons (q_off_t rfl rfl rfl (by assumption)) rfl ?_
                refine dc_cons (q_off_t rfl rfl rfl (by assumption)) rfl ?_
                refine dc_cons (q_off_t rfl rfl rfl (by assumption)) rfl ?_
                refine dc_cons (q_off_t rfl rfl rfl (by assumption)) rfl ?_
                refine dc_cons (q_off_t rfl rfl rfl (by assumption)) rfl ?_
                refine dc_cons (q_off_t rfl rfl rfl (by assumption)) rfl ?_
                refine dc_cons (q_off_t rfl rfl rfl (by assumption)) rfl ?_
                refine dc_cons (q_on_f rfl rfl rfl (by rfl) (by exact (by exact opd_pickf rfl rfl (by assumption) rfl))) rfl ?_
                refine dc_cons (DStep.q rfl (by exact (by exact opd_pick_f rfl rfl rfl))) rfl ?_
                refine dc_nil ⟨by kernel_rfl, ?_⟩
                exact ⟨rfl, ⟨_, rfl, by rfl⟩, rfl, rfl, rfl⟩
              · refine awp_drawc follows ?_
                refine dc_cons (DStep.q rfl (by exact (by exact opd_field_ref rfl fo42_3 rfl rfl rfl rfl))) rfl ?_
                refine dc_cons (DStep.q rfl (by exact (by exact opd_load1_ref rfl Tryz.isAgg39 rfl rfl rfl rfl rfl))) rfl ?_
                refine dc_cons (DStep.q rfl (by exact opd_move rfl rfl)) rfl ?_
                refine dc_cons (DStep.q rfl (by exact (by exact x_index_pad rfl so39 rfl rfl (by omega) (by exact Int.toNat_natCast _) (by assumption) rfl))) rfl ?_
                refine dc_cons (DStep.q rfl (by exact (by exact opd_load1_pad rfl Tryz.isAgg9 rfl (by omega) rfl))) rfl ?_
                refine dc_cons (DStep.q rfl (by exact opr_call rfl rfl Tryz.call103 rfl (rName_c s _ (h4 s (List.mem_of_getElem? hs))))) rfl ?_
                refine dc_cons (DStep.q rfl (by exact opd_not rfl rfl)) rfl ?_
                refine dc_cons (DStep.q rfl (by exact opd_move rfl rfl)) rfl ?_
                refine dc_cons (q_on_f rfl rfl rfl (by assumption) (by exact (by exact opd_field_ref rfl fo42_1 rfl rfl rfl rfl))) rfl ?_
                refine dc_cons (q_on_f rfl rfl rfl (by assumption) (by exact (by exact opd_load1_ref rfl Tryz.isAgg3 rfl rfl rfl rfl rfl))) rfl ?_
                refine dc_cons (q_on_f rfl rfl rfl (by assumption) (by exact opd_eql rfl rfl rfl)) rfl ?_
                refine dc_cons (q_on_f rfl rfl rfl (by assumption) (by exact opd_move rfl rfl)) rfl ?_
                refine dc_cons (q_off_t rfl rfl rfl (by assumption)) rfl ?_
                refine dc_cons (q_off_t rfl rfl rfl (by assumption)) rfl ?_
                refine dc_cons (q_on_f rfl rfl rfl (by assumption) (by exact (by exact opd_pickf rfl rfl (by assumption) rfl))) rfl ?_
                refine dc_cons (q_on_f rfl rfl rfl (by assumption) (by exact opd_move rfl rfl)) rfl ?_
                refine dc_cons (q_off_t rfl rfl rfl (by rfl)) rfl ?_
                refine dc_cons (q_off_t rfl rfl rfl (by rfl)) rfl ?_
                refine dc_cons (q_off_t rfl rfl rfl (by rfl)) rfl ?_
                refine dc_cons (q_off_t rfl rfl rfl (by rfl)) rfl ?_
                refine dc_cons (q_off_t rfl rfl rfl (by rfl)) rfl ?_
                refine dc_cons (q_off_t rfl rfl rfl (by rfl)) rfl ?_
                refine dc_cons (q_off_t rfl rfl rfl (by rfl)) rfl ?_
                refine dc_cons (q_off_t rfl rfl rfl (by rfl)) rfl ?_
                refine dc_cons (q_off_t rfl rfl rfl (by rfl)) rfl ?_
                refine dc_cons (q_off_t rfl rfl rfl (by rfl)) rfl ?_
                refine dc_cons (q_off_t rfl rfl rfl (by rfl)) rfl ?_
                refine dc_cons (q_off_t rfl rfl rfl (by rfl)) rfl ?_
                refine dc_cons (q_on_f rfl rfl rfl (by assumption) (by exact (by exact opd_pick_f rfl rfl rfl))) rfl ?_
                refine dc_cons (DStep.q rfl (by exact (by exact opd_pickf rfl rfl (by assumption) rfl))) rfl ?_
                refine dc_cons (DStep.q rfl (by exact opd_move rfl rfl)) rfl ?_
                refine dc_cons (q_on_f rfl rfl rfl (by rfl) (by exact (by exact opd_field_ref rfl fo42_1 rfl rfl rfl rfl))) rfl ?_
                refine dc_cons (q_on_f rfl rfl rfl (by rfl) (by exact (by exact opd_load1_ref rfl Tryz.isAgg3 rfl rfl rfl rfl rfl))) rfl ?_
                refine dc_cons (q_on_f rfl rfl rfl (by rfl) (by exact opd_eql rfl rfl rfl)) rfl ?_
                refine dc_cons (q_on_f rfl rfl rfl (by rfl) (by exact opd_move rfl rfl)) rfl ?_
                refine dc_cons (q_on_t rfl rfl rfl (by assumption) (by exact opd_move rfl rfl)) rfl ?_
                refine dc_cons (q_on_t rfl rfl rfl (by assumption) (by exact (by exact opd_field_ref rfl fo42_3 rfl rfl rfl rfl))) rfl ?_
                refine dc_cons (q_on_t rfl rfl rfl (by assumption) (by exact (by exact opd_load1_ref rfl Tryz.isAgg39 rfl rfl rfl rfl rfl))) rfl ?_
                refine dc_cons (q_on_t rfl rfl rfl (by assumption) (by exact opd_move rfl rfl)) rfl ?_
                refine dc_cons (q_on_t rfl rfl rfl (by assumption) (by exact (by exact x_index_pad rfl so39 rfl rfl (by omega) (by exact Int.toNat_natCast _) (by assumption) rfl))) rfl ?_
                refine dc_cons (q_on_t rfl rfl rfl (by assumption) (by exact (by exact opd_load1_pad rfl Tryz.isAgg9 rfl (by omega) rfl))) rfl ?_
                refine dc_cons (q_on_t rfl rfl rfl (by assumption) (by exact x_lookup_set rfl Tryz.underlying67 Tryz.underlying9 rfl rfl rfl rfl rfl Tryz.zeroValue4 (.inl rfl))) rfl ?_
                refine dc_cons (q_on_f rfl rfl rfl (by rfl) (by exact (by exact opd_pickt rfl rfl (by assumption) rfl))) rfl ?_
                refine dc_cons (DStep.q rfl (by exact (by exact opd_pick_f rfl rfl rfl))) rfl ?_
                refine dc_nil ⟨by kernel_rfl, ?_⟩
                exact ⟨rfl, ⟨_, rfl, by rfl⟩, rfl, rfl, rfl⟩
            · cases hg32 : (decide ((0 : Int) < (k : Int)) : Bool)
              · cases hg51 : (decide (o.kind = 3) : Bool)
                · refine awp_drawc follows ?_
                  refine dc_cons (DStep.q rfl (by exact (by exact opd_field_ref rfl fo42_3 rfl rfl rfl rfl))) rfl ?_
                  refine dc_cons (DStep.q rfl (by exact (by exact opd_load1_ref rfl Tryz.isAgg39 rfl rfl rfl rfl rfl))) rfl ?_
                  refine dc_cons (DStep.q rfl (by exact opd_move rfl rfl)) rfl ?_
                  refine dc_cons (DStep.q rfl (by exact (by exact x_index_pad rfl so39 rfl rfl (by omega) (by exact Int.toNat_natCast _) (by assumption) rfl))) rfl ?_
                  refine dc_cons (DStep.q rfl (by exact (by exact opd_load1_pad rfl Tryz.isAgg9 rfl (by omega) rfl))) rfl ?_
                  refine dc_cons (DStep.q rfl (by exact opr_call rfl rfl Tryz.call103 rfl (rName_c s _ (h4 s (List.mem_of_getElem? hs))))) rfl ?_
                  refine dc_cons (DStep.q rfl (by exact opd_not rfl rfl)) rfl ?_
                  refine dc_cons (DStep.q rfl (by exact opd_move rfl rfl)) rfl ?_
                  refine dc_cons (q_on_f rfl rfl rfl (by assumption) (by exact (by exact opd_field_ref rfl fo42_1 rfl rfl rfl rfl))) rfl ?_
                  refine dc_cons (q_on_f rfl rfl rfl (by assumption) (by exact (by exact opd_load1_ref rfl Tryz.isAgg3 rfl rfl rfl rfl rfl))) rfl ?_
                  refine dc_cons (q_on_f rfl rfl rfl (by assumption) (by exact opd_eql rfl rfl rfl)) rfl ?_
                  refine dc_cons (q_on_f rfl rfl rfl (by assumption) (by exact opd_move rfl rfl)) rfl ?_
                  refine dc_cons (q_on_t rfl rfl rfl (by assumption) (by exact opd_move rfl rfl)) rfl ?_
                  refine dc_cons (q_on_t rfl rfl rfl (by assumption) (by exact opd_gtr rfl rfl rfl)) rfl ?_
                  refine dc_cons (q_on_f rfl rfl rfl (by assumption) (by exact (by exact opd_pickt rfl rfl (by assumption) rfl))) rfl ?_
                  refine dc_cons (q_on_f rfl rfl rfl (by assumption) (by exact opd_move rfl rfl)) rfl ?_
                  refine dc_cons (q_off_t rfl rfl rfl (by assumption)) rfl ?_
                  refine dc_cons (q_off_t rfl rfl rfl (by assumption)) rfl ?_
                  refine dc_cons (q_off_t rfl rfl rfl (by assumption)) rfl ?_
                  refine dc_cons (q_off_t rfl rfl rfl (by assumption)) rfl ?_
                  refine dc_cons (q_off_t rfl rfl rfl (by assumption)) rfl ?_
                  refine dc_cons (q_off_t rfl rfl rfl (by assumption)) rfl ?_
                  refine dc_cons (q_off_t rfl rfl rfl (by assumption)) rfl ?_
                  refine dc_cons (q_off_t rfl rfl rfl (by assumption)) rfl ?_
                  refine dc_cons (q_off_t rfl rfl rfl (by assumption)) rfl ?_
                  refine dc_cons (q_off_t rfl rfl rfl (by assumption)) rfl ?_
                  refine dc_cons (q_off_t rfl rfl rfl (by assumption)) rfl ?_
                  refine dc_cons (q_off_t rfl rfl rfl (by assumption)) rfl ?_
                  refine dc_cons (q_on_f rfl rfl rfl (by assumption) (by exact (by exact opd_pickf rfl rfl (by assumption) rfl))) rfl ?_
                  refine dc_cons (DStep.q rfl (by exact (by exact opd_pickf rfl rfl (by assumption) rfl))) rfl ?_
                  refine dc_cons (DStep.q rfl (by exact opd_move rfl rfl)) rfl ?_
                  refine dc_cons (q_on_f rfl rfl rfl (by rfl) (by exact (by exact opd_field_ref rfl fo42_1 rfl rfl rfl rfl))) rfl ?_
                  refine dc_cons (q_on_f rfl rfl rfl (by rfl) (by exact (by exact opd_load1_ref rfl Tryz.isAgg3 rfl rfl rfl rfl rfl))) rfl ?_
                  refine dc_cons (q_on_f rfl rfl rfl (by rfl) (by exact opd_eql rfl rfl rfl)) rfl ?_
                  refine dc_cons (q_on_f rfl rfl rfl (by rfl) (by exact opd_move rfl rfl)) rfl ?_
                  refine dc_cons (q_off_t rfl rfl rfl (by assumption)) rfl ?_
                  refine dc_cons (q_off_t rfl rfl rfl (by assumption)) rfl ?_
                  refine dc_cons (q_off_t rfl rfl rfl (by assumption)) rfl ?_
                  refine dc_cons (q_off_t rfl rfl rfl (by assumption)) rfl ?_
                  refine dc_cons (q_off_t rfl rfl rfl (by assumption)) rfl ?_
                  refine dc_cons (q_off_t rfl rfl rfl (by assumption)) rfl ?_
                  refine dc_cons (q_off_t rfl rfl rfl (by assumption)) rfl ?_
                  refine dc_cons (q_on_f rfl rfl rfl (by rfl) (by exact (by exact opd_pickf rfl rfl (by assumption) rfl))) rfl ?_
                  refine dc_cons (DStep.q rfl (by exact (by exact opd_pick_f rfl rfl rfl))) rfl ?_
                  refine dc_nil ⟨by kernel_rfl, ?_⟩
                  exact ⟨rfl, ⟨_, rfl, by rfl⟩, rfl, rfl, rfl⟩
                · refine awp_drawc follows ?_
                  refine dc_cons (DStep.q rfl (by exact (by exact opd_field_ref rfl fo42_3 rfl rfl rfl rfl))) rfl ?_
                  refine dc_cons (DStep.q rfl (by exact (by exact opd_load1_ref rfl Tryz.isAgg39 rfl rfl rfl rfl rfl))) rfl ?_
                  refine dc_cons (DStep.q rfl (by exact opd_move rfl rfl)) rfl ?_
                  refine dc_cons (DStep.q rfl (by exact (by exact x_index_pad rfl so39 rfl rfl (by omega) (by exact Int.toNat_natCast _) (by assumption) rfl))) rfl ?_
                  refine dc_cons (DStep.q rfl (by exact (by exact opd_load1_pad rfl Tryz.isAgg9 rfl (by omega) rfl))) rfl ?_
                  refine dc_cons (DStep.q rfl (by exact opr_call rfl rfl Tryz.call103 rfl (rName_c s _ (h4 s (List.mem_of_getElem? hs))))) rfl ?_
                  refine dc_cons (DStep.q rfl (by exact opd_not rfl rfl)) rfl ?_
                  refine dc_cons (DStep.q rfl (by exact opd_move rfl rfl)) rfl ?_
                  refine dc_cons (q_on_f rfl rfl rfl (by assumption) (by exact (by exact opd_field_ref rfl fo42_1 rfl rfl rfl rfl))) rfl ?_
                  refine dc_cons (q_on_f rfl rfl rfl (by assumption) (by exact (by exact opd_load1_ref rfl Tryz.isAgg3 rfl rfl rfl rfl rfl))) rfl ?_
                  refine dc_cons (q_on_f rfl rfl rfl (by assumption) (by exact opd_eql rfl rfl rfl)) rfl ?_
                  refine dc_cons (q_on_f rfl rfl rfl (by assumption) (by exact opd_move rfl rfl)) rfl ?_
                  refine dc_cons (q_on_t rfl rfl rfl (by assumption) (by exact opd_move rfl rfl)) rfl ?_
                  refine dc_cons (q_on_t rfl rfl rfl (by assumption) (by exact opd_gtr rfl rfl rfl)) rfl ?_
                  refine dc_cons (q_on_f rfl rfl rfl (by assumption) (by exact (by exact opd_pickt rfl rfl (by assumption) rfl))) rfl ?_
                  refine dc_cons (q_on_f rfl rfl rfl (by assumption) (by exact opd_move rfl rfl)) rfl ?_
                  refine dc_cons (q_off_t rfl rfl rfl (by assumption)) rfl ?_
                  refine dc_cons (q_off_t rfl rfl rfl (by assumption)) rfl ?_
                  refine dc_cons (q_off_t rfl rfl rfl (by assumption)) rfl ?_
                  refine dc_cons (q_off_t rfl rfl rfl (by assumption)) rfl ?_
                  refine dc_cons (q_off_t rfl rfl rfl (by assumption)) rfl ?_
                  refine dc_cons (q_off_t rfl rfl rfl (by assumption)) rfl ?_
                  refine dc_cons (q_off_t rfl rfl rfl (by assumption)) rfl ?_
                  refine dc_cons (q_off_t rfl rfl rfl (by assumption)) rfl ?_
                  refine dc_cons (q_off_t rfl rfl rfl (by assumption)) rfl ?_
                  refine dc_cons (q_off_t rfl rfl rfl (by assumption)) rfl ?_
                  refine dc_cons (q_off_t rfl rfl rfl (by assumption)) rfl ?_
                  refine dc_cons (q_off_t rfl rfl rfl (by assumption)) rfl ?_
                  refine dc_cons (q_on_f rfl rfl rfl (by assumption) (by exact (by exact opd_pickf rfl rfl (by assumption) rfl))) rfl ?_
                  refine dc_cons (DStep.q rfl (by exact (by exact opd_pickf rfl rfl (by assumption) rfl))) rfl ?_
                  refine dc_cons (DStep.q rfl (by exact opd_move rfl rfl)) rfl ?_
                  refine dc_cons (q_on_f rfl rfl rfl (by rfl) (by exact (by exact opd_field_ref rfl fo42_1 rfl rfl rfl rfl))) rfl ?_
                  refine dc_cons (q_on_f rfl rfl rfl (by rfl) (by exact (by exact opd_load1_ref rfl Tryz.isAgg3 rfl rfl rfl rfl rfl))) rfl ?_
                  refine dc_cons (q_on_f rfl rfl rfl (by rfl) (by exact opd_eql rfl rfl rfl)) rfl ?_
                  refine dc_cons (q_on_f rfl rfl rfl (by rfl) (by exact opd_move rfl rfl)) rfl ?_
                  refine dc_cons (q_on_t rfl rfl rfl (by assumption) (by exact opd_move rfl rfl)) rfl ?_
                  refine dc_cons (q_on_t rfl rfl rfl (by assumption) (by exact (by exact opd_field_ref rfl fo42_3 rfl rfl rfl rfl))) rfl ?_
                  refine dc_cons (q_on_t rfl rfl rfl (by assumption) (by exact (by exact opd_load1_ref rfl Tryz.isAgg39 rfl rfl rfl rfl rfl))) rfl ?_
                  refine dc_cons (q_on_t rfl rfl rfl (by assumption) (by exact opd_move rfl rfl)) rfl ?_
                  refine dc_cons (q_on_t rfl rfl rfl (by assumption) (by exact (by exact x_index_pad rfl so39 rfl rfl (by omega) (by exact Int.toNat_natCast _) (by assumption) rfl))) rfl ?_
                  refine dc_cons (q_on_t rfl rfl rfl (by assumption) (by exact (by exact opd_load1_pad rfl Tryz.isAgg9 rfl (by omega) rfl))) rfl ?_
                  refine dc_cons (q_on_t rfl rfl rfl (by assumption) (by exact x_lookup_set rfl Tryz.underlying67 Tryz.underlying9 rfl rfl rfl rfl rfl Tryz.zeroValue4 (.inl rfl))) rfl ?_
                  refine dc_cons (q_on_f rfl rfl rfl (by rfl) (by exact (by exact opd_pickt rfl rfl (by assumption) rfl))) rfl ?_
                  refine dc_cons (DStep.q rfl (by exact (by exact opd_pick_f rfl rfl rfl))) rfl ?_
                  refine dc_nil ⟨by kernel_rfl, ?_⟩
                  exact ⟨rfl, ⟨_, rfl, by rfl⟩, rfl, rfl, rfl⟩
              · cases hg47 : (decide (p = s) : Bool)
                · cases hg51 : (decide (o.kind = 3) : Bool)
                  · refine awp_drawc follows ?_
                    refine dc_cons (DStep.q rfl (by exact (by exact opd_field_ref rfl fo42_3 rfl rfl rfl rfl))) rfl ?_
                    refine dc_cons (DStep.q rfl (by exact (by exact opd_load1_ref rfl Tryz.isAgg39 rfl rfl rfl rfl rfl))) rfl ?_
                    refine dc_cons (DStep.q rfl (by exact opd_move rfl rfl)) rfl ?_
                    refine dc_cons (DStep.q rfl (by exact (by exact x_index_pad rfl so39 rfl rfl (by omega) (by exact Int.toNat_natCast _) (by assumption) rfl))) rfl ?_
                    refine dc_cons (DStep.q rfl (by exact (by exact opd_load1_pad rfl Tryz.isAgg9 rfl (by omega) rfl))) rfl ?_
                    refine dc_cons (DStep.q rfl (by exact opr_call rfl rfl Tryz.call103 rfl (rName_c s _ (h4 s (List.mem_of_getElem? hs))))) rfl ?_
                    refine dc_cons (DStep.q rfl (by exact opd_not rfl rfl)) rfl ?_
                    refine dc_cons (DStep.q rfl (by exact opd_move rfl rfl)) rfl ?_
                    refine dc_cons (q_on_f rfl rfl rfl (by assumption) (by exact (by exact opd_field_ref rfl fo42_1 rfl rfl rfl rfl))) rfl ?_
                    refine dc_cons (q_on_f rfl rfl rfl (by assumption) (by exact (by exact opd_load1_ref rfl Tryz.isAgg3 rfl rfl rfl rfl rfl))) rfl ?_
                    refine dc_cons (q_on_f rfl rfl rfl (by assumption) (by exact opd_eql rfl rfl rfl)) rfl ?_
                    refine dc_cons (q_on_f rfl rfl rfl (by assumption) (by exact opd_move rfl rfl)) rfl ?_
                    refine dc_cons (q_on_t rfl rfl rfl (by assumption) (by exact opd_move rfl rfl)) rfl ?_
                    refine dc_cons (q_on_t rfl rfl rfl (by assumption) (by exact opd_gtr rfl rfl rfl)) rfl ?_
                    refine dc_cons (q_on_f rfl rfl rfl (by assumption) (by exact (by exact opd_pickt rfl rfl (by assumption) rfl))) rfl ?_
                    refine dc_cons (q_on_f rfl rfl rfl (by assumption) (by exact opd_move rfl rfl)) rfl ?_
                    refine dc_cons (q_on_t rfl rfl rfl (by assumption) (by exact (by exact opd_field_ref rfl fo42_3 rfl rfl rfl rfl))) rfl ?_
                    refine dc_cons (q_on_t rfl rfl rfl (by assumption) (by exact (by exact opd_load1_ref rfl Tryz.isAgg39 rfl rfl rfl rfl rfl))) rfl ?_
                    refine dc_cons (q_on_t rfl rfl rfl (by assumption) (by exact opd_move rfl rfl)) rfl ?_
                    refine dc_cons (q_on_t rfl rfl rfl (by assumption) (by exact opd_sub rfl rfl rfl (by exact w64 (by omega) (by omega)))) rfl ?_
                    refine dc_cons (q_on_t rfl rfl rfl (by assumption) (by exact x_index_pad rfl so39 rfl rfl (by have := of_decide_eq_true hg32; omega) (show ((k : Int) - 1).toNat = k - 1 by omega) (hpv (by have := of_decide_eq_true hg32; omega)) rfl)) rfl ?_
                    refine dc_cons (q_on_t rfl rfl rfl (by assumption) (by exact opd_load1_pad rfl Tryz.isAgg9 rfl (hpv (by have := of_decide_eq_true hg32; omega)) rfl)) rfl ?_
                    refine dc_cons (q_on_t rfl rfl rfl (by assumption) (by exact (by exact opd_field_ref rfl fo42_3 rfl rfl rfl rfl))) rfl ?_
                    refine dc_cons (q_on_t rfl rfl rfl (by assumption) (by exact (by exact opd_load1_ref rfl Tryz.isAgg39 rfl rfl rfl rfl rfl))) rfl ?_
                    refine dc_cons (q_on_t rfl rfl rfl (by assumption) (by exact opd_move rfl rfl)) rfl ?_
                    refine dc_cons (q_on_t rfl rfl rfl (by assumption) (by exact (by exact x_index_pad rfl so39 rfl rfl (by omega) (by exact Int.toNat_natCast _) (by assumption) rfl))) rfl ?_
                    refine dc_cons (q_on_t rfl rfl rfl (by assumption) (by exact (by exact opd_load1_pad rfl Tryz.isAgg9 rfl (by omega) rfl))) rfl ?_
                    refine dc_cons (q_on_t rfl rfl rfl (by assumption) (by exact opd_seql rfl rfl rfl)) rfl ?_
                    refine dc_cons (q_on_f rfl rfl rfl (by assumption) (by exact (by exact opd_pickt rfl rfl (by assumption) rfl))) rfl ?_
                    refine dc_cons (DStep.q rfl (by exact (by exact opd_pickf rfl rfl (by assumption) rfl))) rfl ?_
                    refine dc_cons (DStep.q rfl (by exact opd_move rfl rfl)) rfl ?_
                    refine dc_cons (q_on_f rfl rfl rfl (by assumption) (by exact (by exact opd_field_ref rfl fo42_1 rfl rfl rfl rfl))) rfl ?_
                    refine dc_cons (q_on_f rfl rfl rfl (by assumption) (by exact (by exact opd_load1_ref rfl Tryz.isAgg3 rfl rfl rfl rfl rfl))) rfl ?_
                    refine dc_cons (q_on_f rfl rfl rfl (by assumption) (by exact opd_eql rfl rfl rfl)) rfl ?_
                    refine dc_cons (q_on_f rfl rfl rfl (by assumption) (by exact opd_move rfl rfl)) rfl ?_
                    refine dc_cons (q_off_t rfl rfl rfl (by assumption)) rfl ?_
                    refine dc_cons (q_off_t rfl rfl rfl (by assumption)) rfl ?_
                    refine dc_cons (q_off_t rfl rfl rfl (by assumption)) rfl ?_
                    refine dc_cons (q_off_t rfl rfl rfl (by assumption)) rfl ?_
                    refine dc_cons (q_off_t rfl rfl rfl (by assumption)) rfl ?_
                    refine dc_cons (q_off_t rfl rfl rfl (by assumption)) rfl ?_
                    refine dc_cons (q_off_t rfl rfl rfl (by assumption)) rfl ?_
                    refine dc_cons (q_on_f rfl rfl rfl (by assumption) (by exact (by exact opd_pickf rfl rfl (by assumption) rfl))) rfl ?_
                    refine dc_cons (DStep.q rfl (by exact (by exact opd_pickf rfl rfl (by assumption) rfl))) rfl ?_
                    refine dc_nil ⟨by kernel_rfl, ?_⟩
                    exact ⟨rfl, ⟨_, rfl, by rfl⟩, rfl, rfl, rfl⟩
                  · refine awp_drawc follows ?_
                    refine dc_cons (DStep.q rfl (by exact (by exact opd_field_ref rfl fo42_3 rfl rfl rfl rfl))) rfl ?_
                    refine dc_cons (DStep.q rfl (by exact (by exact opd_load1_ref rfl Tryz.isAgg39 rfl rfl rfl rfl rfl))) rfl ?_
                    refine dc_cons (DStep.q rfl (by exact opd_move rfl rfl)) rfl ?_
                    refine dc_cons (DStep.q rfl (by exact (by exact x_index_pad rfl so39 rfl rfl (by omega) (by exact Int.toNat_natCast _) (by assumption) rfl))) rfl ?_
                    refine dc_cons (DStep.q rfl (by exact (by exact opd_load1_pad rfl Tryz.isAgg9 rfl (by omega) rfl))) rfl ?_
                    refine dc_cons (DStep.q rfl (by exact opr_call rfl rfl Tryz.call103 rfl (rName_c s _ (h4 s (List.mem_of_getElem? hs))))) rfl ?_
                    refine dc_cons (DStep.q rfl (by exact opd_not rfl rfl)) rfl ?_
                    refine dc_cons (DStep.q rfl (by exact opd_move rfl rfl)) rfl ?_
                    refine dc_cons (q_on_f rfl rfl rfl (by assumption) (by exact (by exact opd_field_ref rfl fo42_1 rfl rfl rfl rfl))) rfl ?_
                    refine dc_cons (q_on_f rfl rfl rfl (by assumption) (by exact (by exact opd_load1_ref rfl Tryz.isAgg3 rfl rfl rfl rfl rfl))) rfl ?_
                    refine dc_cons (q_on_f rfl rfl rfl (by assumption) (by exact opd_eql rfl rfl rfl)) rfl ?_
                    refine dc_cons (q_on_f rfl rfl rfl (by assumption) (by exact opd_move rfl rfl)) rfl ?_
                    refine dc_cons (q_on_t rfl rfl rfl (by assumption) (by exact opd_move rfl rfl)) rfl ?_
                    refine dc_cons (q_on_t rfl rfl rfl (by assumption) (by exact opd_gtr rfl rfl rfl)) rfl ?_
                    refine dc_cons (q_on_f rfl rfl rfl (by assumption) (by exact (by exact opd_pickt rfl rfl (by assumption) rfl))) rfl ?_
                    refine dc_cons (q_on_f rfl rfl rfl (by assumption) (by exact opd_move rfl rfl)) rfl ?_
                    refine dc_cons (q_on_t rfl rfl rfl (by assumption) (by exact (by exact opd_field_ref rfl fo42_3 rfl rfl rfl rfl))) rfl ?_
                    refine dc_cons (q_on_t rfl rfl rfl (by assumption) (by exact (by exact opd_load1_ref rfl Tryz.isAgg39 rfl rfl rfl rfl rfl))) rfl ?_
                    refine dc_cons (q_on_t rfl rfl rfl (by assumption) (by exact opd_move rfl rfl)) rfl ?_
                    refine dc_cons (q_on_t rfl rfl rfl (by assumption) (by exact opd_sub rfl rfl rfl (by exact w64 (by omega) (by omega)))) rfl ?_
                    refine dc_cons (q_on_t rfl rfl rfl (by assumption) (by exact x_index_pad rfl so39 rfl rfl (by have := of_decide_eq_true hg32; omega) (show ((k : Int) - 1).toNat = k - 1 by omega) (hpv (by have := of_decide_eq_true hg32; omega)) rfl)) rfl ?_
                    refine dc_cons (q_on_t rfl rfl rfl (by assumption) (by exact opd_load1_pad rfl Tryz.isAgg9 rfl (hpv (by have := of_decide_eq_true hg32; omega)) rfl)) rfl ?_
                    refine dc_cons (q_on_t rfl rfl rfl (by assumption) (by exact (by exact opd_field_ref rfl fo42_3 rfl rfl rfl rfl))) rfl ?_
                    refine dc_cons (q_on_t rfl rfl rfl (by assumption) (by exact (by exact opd_load1_ref rfl Tryz.isAgg39 rfl rfl rfl rfl rfl))) rfl ?_
                    refine dc_cons (q_on_t rfl rfl rfl (by assumption) (by exact opd_move rfl rfl)) rfl ?_
                    refine dc_cons (q_on_t rfl rfl rfl (by assumption) (by exact (by exact x_index_pad rfl so39 rfl rfl (by omega) (by exact Int.toNat_natCast _) (by assumption) rfl))) rfl ?_
                    refine dc_cons (q_on_t rfl rfl rfl (by assumption) (by exact (by exact opd_load1_pad rfl Tryz.isAgg9 rfl (by omega) rfl))) rfl ?_
                    refine dc_cons (q_on_t rfl rfl rfl (by assumption) (by exact opd_seql rfl rfl rfl)) rfl ?_
                    refine dc_cons (q_on_f rfl rfl rfl (by assumption) (by exact (by exact opd_pickt rfl rfl (by assumption) rfl))) rfl ?_
                    refine dc_cons (DStep.q rfl (by exact (by exact opd_pickf rfl rfl (by assumption) rfl))) rfl ?_
                    refine dc_cons (DStep.q rfl (by exact opd_move rfl rfl)) rfl ?_
                    refine dc_cons (q_on_f rfl rfl rfl (by assumption) (by exact (by exact opd_field_ref rfl fo42_1 rfl rfl rfl rfl))) rfl ?_
                    refine dc_cons (q_on_f rfl rfl rfl (by assumption) (by exact (by exact opd_load1_ref rfl Tryz.isAgg3 rfl rfl rfl rfl rfl))) rfl ?_
                    refine dc_cons (q_on_f rfl rfl rfl (by assumption) (by exact opd_eql rfl rfl rfl)) rfl ?_
                    refine dc_cons (q_on_f rfl rfl rfl (by assumption) (by exact opd_move rfl rfl)) rfl ?_
                    refine dc_cons (q_on_t rfl rfl rfl (by assumption) (by exact opd_move rfl rfl)) rfl ?_
                    refine dc_cons (q_on_t rfl rfl rfl (by assumption) (by exact (by exact opd_field_ref rfl fo42_3 rfl rfl rfl rfl))) rfl ?_
                    refine dc_cons (q_on_t rfl rfl rfl (by assumption) (by exact (by exact opd_load1_ref rfl Tryz.isAgg39 rfl rfl rfl rfl rfl))) rfl ?_
                    refine dc_cons (q_on_t rfl rfl rfl (by assumption) (by exact opd_move rfl rfl)) rfl ?_
                    refine dc_cons (q_on_t rfl rfl rfl (by assumption) (by exact (by exact x_index_pad rfl so39 rfl rfl (by omega) (by exact Int.toNat_natCast _) (by assumption) rfl))) rfl ?_
                    refine dc_cons (q_on_t rfl rfl rfl (by assumption) (by exact (by exact opd_load1_pad rfl Tryz.isAgg9 rfl (by omega) rfl))) rfl ?_
                    refine dc_cons (q_on_t rfl rfl rfl (by assumption) (by exact x_lookup_set rfl Tryz.underlying67 Tryz.underlying9 rfl rfl rfl rfl rfl Tryz.zeroValue4 (.inl rfl))) rfl ?_
                    refine dc_cons (q_on_f rfl rfl rfl (by assumption) (by exact (by exact opd_pickt rfl rfl (by assumption) rfl))) rfl ?_
                    refine dc_cons (DStep.q rfl (by exact (by exact opd_pickf rfl rfl (by assumption) rfl))) rfl ?_
                    refine dc_nil ⟨by kernel_rfl, ?_⟩
                    exact ⟨rfl, ⟨_, rfl, by rfl⟩, rfl, rfl, rfl⟩
                · refine awp_drawc follows ?_
                  refine dc_cons (DStep.q rfl (by exact (by exact opd_field_ref rfl fo42_3 rfl rfl rfl rfl))) rfl ?_
                  refine dc_cons (DStep.q rfl (by exact (by exact opd_load1_ref rfl Tryz.isAgg39 rfl rfl rfl rfl rfl))) rfl ?_
                  refine dc_cons (DStep.q rfl (by exact opd_move rfl rfl)) rfl ?_
                  refine dc_cons (DStep.q rfl (by exact (by exact x_index_pad rfl so39 rfl rfl (by omega) (by exact Int.toNat_natCast _) (by assumption) rfl))) rfl ?_
                  refine dc_cons (DStep.q rfl (by exact (by exact opd_load1_pad rfl Tryz.isAgg9 rfl (by omega) rfl))) rfl ?_
                  refine dc_cons (DStep.q rfl (by exact opr_call rfl rfl Tryz.call103 rfl (rName_c s _ (h4 s (List.mem_of_getElem? hs))))) rfl ?_
                  refine dc_cons (DStep.q rfl (by exact opd_not rfl rfl)) rfl ?_
                  refine dc_cons (DStep.q rfl (by exact opd_move rfl rfl)) rfl ?_
                  refine dc_cons (q_on_f rfl rfl rfl (by assumption) (by exact (by exact opd_field_ref rfl fo42_1 rfl rfl rfl rfl))) rfl ?_
                  refine dc_cons (q_on_f rfl rfl rfl (by assumption) (by exact (by exact opd_load1_ref rfl Tryz.isAgg3 rfl rfl rfl rfl rfl))) rfl ?_
                  refine dc_cons (q_on_f rfl rfl rfl (by assumption) (by exact opd_eql rfl rfl rfl)) rfl ?_
                  refine dc_cons (q_on_f rfl rfl rfl (by assumption) (by exact opd_move rfl rfl)) rfl ?_
                  refine dc_cons (q_on_t rfl rfl rfl (by assumption) (by exact opd_move rfl rfl)) rfl ?_
                  refine dc_cons (q_on_t rfl rfl rfl (by assumption) (by exact opd_gtr rfl rfl rfl)) rfl ?_
                  refine dc_cons (q_on_f rfl rfl rfl (by assumption) (by exact (by exact opd_pickt rfl rfl (by assumption) rfl))) rfl ?_
                  refine dc_cons (q_on_f rfl rfl rfl (by assumption) (by exact opd_move rfl rfl)) rfl ?_
                  refine dc_cons (q_on_t rfl rfl rfl (by assumption) (by exact (by exact opd_field_ref rfl fo42_3 rfl rfl rfl rfl))) rfl ?_
                  refine dc_cons (q_on_t rfl rfl rfl (by assumption) (by exact (by exact opd_load1_ref rfl Tryz.isAgg39 rfl rfl rfl rfl rfl))) rfl ?_
                  refine dc_cons (q_on_t rfl rfl rfl (by assumption) (by exact opd_move rfl rfl)) rfl ?_
                  refine dc_cons (q_on_t rfl rfl rfl (by assumption) (by exact opd_sub rfl rfl rfl (by exact w64 (by omega) (by omega)))) rfl ?_
                  refine dc_cons (q_on_t rfl rfl rfl (by assumption) (by exact x_index_pad rfl so39 rfl rfl (by have := of_decide_eq_true hg32; omega) (show ((k : Int) - 1).toNat = k - 1 by omega) (hpv (by have := of_decide_eq_true hg32; omega)) rfl)) rfl ?_
                  refine dc_cons (q_on_t rfl rfl rfl (by assumption) (by exact opd_load1_pad rfl Tryz.isAgg9 rfl (hpv (by have := of_decide_eq_true hg32; omega)) rfl)) rfl ?_
                  refine dc_cons (q_on_t rfl rfl rfl (by assumption) (by exact (by exact opd_field_ref rfl fo42_3 rfl rfl rfl rfl))) rfl ?_
                  refine dc_cons (q_on_t rfl rfl rfl (by assumption) (by exact (by exact opd_load1_ref rfl Tryz.isAgg39 rfl rfl rfl rfl rfl))) rfl ?_
                  refine dc_cons (q_on_t rfl rfl rfl (by assumption) (by exact opd_move rfl rfl)) rfl ?_
                  refine dc_cons (q_on_t rfl rfl rfl (by assumption) (by exact (by exact x_index_pad rfl so39 rfl rfl (by omega) (by exact Int.toNat_natCast _) (by assumption) rfl))) rfl ?_
                  refine dc_cons (q_on_t rfl rfl rfl (by assumption) (by exact (by exact opd_load1_pad rfl Tryz.isAgg9 rfl (by omega) rfl))) rfl ?_
                  refine dc_cons (q_on_t rfl rfl rfl (by assumption) (by exact opd_seql rfl rfl rfl)) rfl ?_
                  refine dc_cons (q_on_f rfl rfl rfl (by assumption) (by exact (by exact opd_pickt rfl rfl (by assumption) rfl))) rfl ?_
                  refine dc_cons (DStep.q rfl (by exact (by exact opd_pickf rfl rfl (by assumption) rfl))) rfl ?_
                  refine dc_cons (DStep.q rfl (by exact opd_move rfl rfl)) rfl ?_
                  refine dc_cons (q_off_f rfl rfl rfl (by assumption)) rfl ?_
                  refine dc_cons (q_off_f rfl rfl rfl (by assumption)) rfl ?_
                  refine dc_cons (q_off_f rfl rfl rfl (by assumption)) rfl ?_
                  refine dc_cons (q_off_f rfl rfl rfl (by assumption)) rfl ?_
                  refine dc_cons (q_off_u rfl rfl rfl) rfl ?_
                  refine dc_cons (q_off_u rfl rfl rfl) rfl ?_
                  refine dc_cons (q_off_u rfl rfl rfl) rfl ?_
                  refine dc_cons (q_off_u rfl rfl rfl) rfl ?_
                  refine dc_cons (q_off_u rfl rfl rfl) rfl ?_
                  refine dc_cons (q_off_u rfl rfl rfl) rfl ?_
                  refine dc_cons (q_off_u rfl rfl rfl) rfl ?_
                  refine dc_cons (q_off_f rfl rfl rfl (by assumption)) rfl ?_
                  refine dc_cons (DStep.q rfl (by exact (by exact opd_pickt rfl rfl (by assumption) rfl))) rfl ?_
                  refine dc_nil ⟨by kernel_rfl, ?_⟩
                  exact ⟨rfl, ⟨_, rfl, by rfl⟩, rfl, rfl, rfl⟩
          · refine awp_drawc follows ?_
            refine dc_cons (DStep.q rfl (by exact (by exact opd_field_ref rfl fo42_3 rfl rfl rfl rfl))) rfl ?_
            refine dc_cons (DStep.q rfl (by exact (by exact opd_load1_ref rfl Tryz.isAgg39 rfl rfl rfl rfl rfl))) rfl ?_
            refine dc_cons (DStep.q rfl (by exact opd_move rfl rfl)) rfl ?_
            refine dc_cons (DStep.q rfl (by exact (by exact x_index_pad rfl so39 rfl rfl (by omega) (by exact Int.toNat_natCast _) (by assumption) rfl))) rfl ?_
            refine dc_cons (DStep.q rfl (by exact (by exact opd_load1_pad rfl Tryz.isAgg9 rfl (by omega) rfl))) rfl ?_
            refine dc_cons (DStep.q rfl (by exact opr_call rfl rfl Tryz.call103 rfl (rName_c s _ (h4 s (List.mem_of_getElem? hs))))) rfl ?_
            refine dc_cons (DStep.q rfl (by exact opd_not rfl rfl)) rfl ?_
            refine dc_cons (DStep.q rfl (by exact opd_move rfl rfl)) rfl ?_
            refine dc_cons (q_off_f rfl rfl rfl (by assumption)) rfl ?_
            refine dc_cons (q_off_f rfl rfl rfl (by assumption)) rfl ?_
            refine dc_cons (q_off_f rfl rfl rfl (by assumption)) rfl ?_
            refine dc_cons (q_off_f rfl rfl rfl (by assumption)) rfl ?_
            refine dc_cons (q_off_u rfl rfl rfl) rfl ?_
            refine dc_cons (q_off_u rfl rfl rfl) rfl ?_
            refine dc_cons (q_off_f rfl rfl rfl (by assumption)) rfl ?_
            refine dc_cons (q_off_f rfl rfl rfl (by assumption)) rfl ?_
            refine dc_cons (q_off_u rfl rfl rfl) rfl ?_
            refine dc_cons (q_off_u rfl rfl rfl) rfl ?_
            refine dc_cons (q_off_u rfl rfl rfl) rfl ?_
            refine dc_cons (q_off_u rfl rfl rfl) rfl ?_
            refine dc_cons (q_off_u rfl rfl rfl) rfl ?_
            refine dc_cons (q_off_u rfl rfl rfl) rfl ?_
            refine dc_cons (q_off_u rfl rfl rfl) rfl ?_
            refine dc_cons (q_off_u rfl rfl rfl) rfl ?_
            refine dc_cons (q_off_u rfl rfl rfl) rfl ?_
            refine dc_cons (q_off_u rfl rfl rfl) rfl ?_
            refine dc_cons (q_off_u rfl rfl rfl) rfl ?_
            refine dc_cons (q_off_u rfl rfl rfl) rfl ?_
            refine dc_cons (q_off_f rfl rfl rfl (by assumption)) rfl ?_
            refine dc_cons (DStep.q rfl (by exact (by exact opd_pickt rfl rfl (by assumption) rfl))) rfl ?_
            refine dc_cons (DStep.q rfl (by exact opd_move rfl rfl)) rfl ?_
            refine dc_cons (q_off_f rfl rfl rfl (by rfl)) rfl ?_
            refine dc_cons (q_off_f rfl rfl rfl (by rfl)) rfl ?_
            refine dc_cons (q_off_f rfl rfl rfl (by rfl)) rfl ?_
            refine dc_cons (q_off_f rfl rfl rfl (by rfl)) rfl ?_
            refine dc_cons (q_off_u rfl rfl rfl) rfl ?_
            refine dc_cons (q_off_u rfl rfl rfl) rfl ?_
            refine dc_cons (q_off_u rfl rfl rfl) rfl ?_
            refine dc_cons (q_off_u rfl rfl rfl) rfl ?_
            refine dc_cons (q_off_u rfl rfl rfl) rfl ?_
            refine dc_cons (q_off_u rfl rfl rfl) rfl ?_
            refine dc_cons (q_off_u rfl rfl rfl) rfl ?_
            refine dc_cons (q_off_f rfl rfl rfl (by rfl)) rfl ?_
            refine dc_cons (DStep.q rfl (by exact (by exact opd_pick_t rfl rfl rfl))) rfl ?_
            refine dc_nil ⟨by kernel_rfl, ?_⟩
            exact ⟨rfl, ⟨_, rfl, by rfl⟩, rfl, rfl, rfl⟩
        refine awp_cond rfl (fun hc3 => ?_) (fun hc3 => ?_)
        -- cond 3
        · rw [hbe, ← hw] at hc3
          refine awp_seq ?_
          refine awp_region ?_
          refine al_d rfl rfl rfl (by exact opd_assign rfl rfl) ?_
          refine al_nil ?_
          refine awp_ret ?_
          -- return
          refine aret1 (H' := []) (by exact .inr rfl) rfl (rval_tmp rfl) (Fin.wk (by simp) trivial trivial) ?_
          exact ⟨by rw [range_some hlt hc3]; rfl, rfl⟩
        · rw [hbe, ← hw] at hc3
          refine awp_skip ?_
          refine awp_region ?_
          refine al_d rfl rfl rfl (by exact opd_move rfl rfl) ?_
          refine al_d rfl rfl rfl (by exact (by exact opd_field_ref rfl fo42_3 rfl rfl rfl rfl)) ?_
          refine al_d rfl rfl rfl (by exact (by exact opd_load1_ref rfl Tryz.isAgg39 rfl rfl rfl rfl rfl)) ?_
          refine al_d rfl rfl rfl (by exact opd_move rfl rfl) ?_
          refine al_d rfl rfl rfl (by exact (by exact x_index_pad rfl so39 rfl rfl (by omega) (by exact Int.toNat_natCast _) (by assumption) rfl)) ?_
          refine al_d rfl rfl rfl (by exact (by exact opd_load1_pad rfl Tryz.isAgg9 rfl (by omega) rfl)) ?_
          refine al_n rfl rfl (by exact x_put_set (.inl rfl) Tryz.underlying67 Tryz.underlying9 rfl rfl rfl rfl rfl rfl rfl) ?_
          refine al_nil ?_
          refine awp_region ?_
          refine al_d rfl rfl rfl (by exact opd_move rfl rfl) ?_
          refine al_d rfl rfl rfl (by exact opd_add rfl rfl rfl (by exact w64 (by omega) (by omega))) ?_
          refine al_d rfl rfl rfl (by exact opd_assign rfl rfl) ?_
          refine al_nil ?_
          -- end of a round
          refine ⟨k + 1, ⟨by omega, fun j hj => ?_⟩, by omega, ?_⟩
          · by_cases e : j = k
            · subst e; exact hc3
            · exact hno j (by omega)
          · rw [hse]
            exact (Ent.wk ⟨⟨_, rfl, rfl⟩, (by (simp; rfl)), ⟨_, rfl, rfl⟩, (by (simp; done)), ⟨_, rfl, rfl⟩, (by (simp; rfl)), ⟨_, rfl, rfl⟩, (by (simp; done)), trivial⟩ ⟨⟨_, rfl, rfl⟩, (by exact sob_clo _ _), ⟨_, rfl, rfl⟩, (by (simp; done)), trivial⟩ trivial)
      · have hge : k = o.refs.length := by have := of_decide_eq_false hc2; omega
        subst hge
        rw [range_any hno, Bool.not_false, Bool.true_and, gNum, ← hml]
        refine awp_exit ?_
        refine awp_seq ?_
        refine awp_seq ?_
        refine awp_region ?_
        refine al_d rfl rfl rfl (by exact (by exact opd_field_ref rfl fo42_1 rfl rfl rfl rfl)) ?_
        refine al_d rfl rfl rfl (by exact (by exact opd_load1_ref rfl Tryz.isAgg3 rfl rfl rfl rfl rfl)) ?_
        refine al_nil ?_
        refine awp_block ?_
        refine awp_seq ?_
        refine awp_region ?_
        refine al_d rfl rfl rfl (by exact opd_eql rfl rfl rfl) ?_
        refine al_d rfl rfl rfl (by exact opd_assign rfl rfl) ?_
        refine al_nil ?_
        refine awp_cond rfl (fun hc4 => ?_) (fun hc4 => ?_)
        -- cond 4
        · rw [if_pos (of_decide_eq_true hc4)]
          refine awp_seq ?_
          refine awp_region ?_
          refine al_d rfl rfl rfl (by exact opd_move rfl rfl) ?_
          refine al_d rfl rfl rfl (by exact opd_eql rfl rfl rfl) ?_
          refine al_d rfl rfl rfl (by exact opd_assign rfl rfl) ?_
          refine al_nil ?_
          refine awp_ret ?_
          -- return
          refine aret1 (H' := []) (by exact .inr rfl) rfl (rval_tmp rfl) (Fin.wk (by simp) trivial trivial) ?_
          exact ⟨rfl, rfl⟩
        · rw [if_neg (of_decide_eq_false hc4)]
          refine awp_seq ?_
          refine awp_region ?_
          refine al_d rfl rfl rfl (by exact opd_eql rfl rfl rfl) ?_
          refine al_d rfl rfl rfl (by exact opd_assign rfl rfl) ?_
          refine al_nil ?_
          refine awp_cond rfl (fun hc5 => ?_) (fun hc5 => ?_)
          -- cond 5
          · rw [if_pos (of_decide_eq_true hc5)]
            refine awp_seq ?_
            refine awp_region ?_
            refine al_d rfl rfl rfl (by exact opd_move rfl rfl) ?_
            refine al_d rfl rfl rfl (by exact opd_geq rfl rfl rfl) ?_
            refine al_d rfl rfl rfl (by exact opd_assign rfl rfl) ?_
            refine al_nil ?_
            refine awp_ret ?_
            -- return
            refine aret1 (H' := []) (by exact .inr rfl) rfl (rval_tmp rfl) (Fin.wk (by simp) trivial trivial) ?_
            exact ⟨rfl, rfl⟩
          · rw [if_neg (of_decide_eq_false hc5)]
            refine awp_seq ?_
            refine awp_region ?_
            refine al_d rfl rfl rfl (by exact opd_eql rfl rfl rfl) ?_
            refine al_d rfl rfl rfl (by exact opd_assign rfl rfl) ?_
            refine al_nil ?_
            refine awp_cond rfl (fun hc6 => ?_) (fun hc6 => ?_)
            -- cond 6
            · rw [if_pos (of_decide_eq_true hc6)]
              refine awp_seq ?_
              refine awp_region ?_
              refine al_d rfl rfl rfl (by exact opd_move rfl rfl) ?_
              refine al_d rfl rfl rfl (by exact opd_geq rfl rfl rfl) ?_
              refine al_d rfl rfl rfl (by exact opd_assign rfl rfl) ?_
              refine al_nil ?_
              refine awp_ret ?_
              -- return
              refine aret1 (H' := []) (by exact .inr rfl) rfl (rval_tmp rfl) (Fin.wk (by simp) trivial trivial) ?_
              exact ⟨rfl, rfl⟩
            · rw [if_neg (of_decide_eq_false hc6)]
              refine awp_seq ?_
              refine awp_region ?_
              refine al_d rfl rfl rfl (by exact opd_eql rfl rfl rfl) ?_
              refine al_d rfl rfl rfl (by exact opd_assign rfl rfl) ?_
              refine al_nil ?_
              refine awp_cond rfl (fun hc7 => ?_) (fun hc7 => ?_)
              -- cond 7
              · rw [if_pos (of_decide_eq_true hc7)]
                refine awp_seq ?_
                refine awp_region ?_
                refine al_d rfl rfl rfl (by exact opd_move rfl rfl) ?_
                refine al_d rfl rfl rfl (by exact opd_geq rfl rfl rfl) ?_
                refine al_d rfl rfl rfl (by exact opd_assign rfl rfl) ?_
                refine al_nil ?_
                refine awp_ret ?_
                -- return
                refine aret1 (H' := []) (by exact .inr rfl) rfl (rval_tmp rfl) (Fin.wk (by simp) trivial trivial) ?_
                exact ⟨rfl, rfl⟩
              · rw [if_neg (of_decide_eq_false hc7)]
                refine awp_skip ?_
                refine awp_seq ?_
                refine awp_region ?_
                refine al_d rfl rfl rfl (by exact opd_move rfl rfl) ?_
                refine al_d rfl rfl rfl (by exact opd_eql rfl rfl rfl) ?_
                refine al_d rfl rfl rfl (by exact opd_assign rfl rfl) ?_
                refine al_nil ?_
                refine awp_ret ?_
                -- return
                refine aret1 (H' := []) (by exact .inr rfl) rfl (rval_tmp rfl) (Fin.wk (by simp) trivial trivial) ?_
                exact ⟨rfl, rfl⟩
def atO (o : GObj) : Bool := if o.kind = 1 then gOn o.x o.y else (decide (o.x = 0) && decide (o.y = 0))
theorem rObj_eq (o : GObj) : ((((gName o.id && !decide (gWord o.kind = sNil)) && atO o) && gTags o.tags) && rRefs o) = gObj o := by
  cases hw : decide (gWord o.kind = sNil) with
  | true => simp [gObj, gHead, gHeadN, hw]
  | false =>
    have hk := word_kind hw
    have hk0 : ¬ o.kind = 0 := fun e => by rw [e] at hw; simp [gWord] at hw
    simp only [gObj, gHead, gHeadN, hw, rRefs, atO, gKind, gNum, gLeast]
    generalize gName o.id = a
    generalize gTags o.tags = b
    generalize (List.range o.refs.length).any (wrongAt o) = w
    generalize gOn o.x o.y = c
    generalize (decide (o.x = 0) && decide (o.y = 0)) = d
    generalize (o.refs.length : Int) = n
    generalize o.kind = k at *
    rcases (by omega : k = 1 ∨ k = 2 ∨ k = 3 ∨ k = 4 ∨ k = 5) with rfl | rfl | rfl | rfl | rfl <;> cases a <;> cases b <;> cases w <;> cases c <;> cases d <;> rw [Bool.eq_iff_iff] <;> simp <;> omega
theorem rObj_c (o : GObj) (H : Heap) (ho : okO o) : ACalls Tryz.prog 102 [av (encObj o)] H (fun r H' => r = bv (gObj o) ∧ H' = H) := by
  refine ACalls.pure ?_ (by simp) H
  rw [← rObj_eq]
  refine ACalls.body Tryz.func102 rfl Tryz.ntmps102 (Nat.le_of_ble_eq_true rfl) ?_
  refine awp_seq ?_
  refine awp_region ?_
  refine al_d rfl rfl rfl (by exact opd_box (id := 1) rfl rfl rfl rfl rfl) ?_
  refine al_d rfl rfl rfl (by exact opd_assign rfl rfl) ?_
  refine al_nil ?_
  refine awp_seq ?_
  refine awp_region ?_
  refine al_d rfl rfl rfl (by exact (by exact opd_field_ref rfl fo42_2 rfl rfl rfl rfl)) ?_
  refine al_d rfl rfl rfl (by exact (by exact opd_loadn_ref rfl Tryz.isAgg38 Tryz.sizeOf38 rfl rfl rfl rfl (by simp only [List.drop_succ_cons, List.drop_zero, List.take_succ_cons, List.take_zero, List.take_nil, List.map_cons, List.map_nil, List.set_cons_zero, List.set_cons_succ, List.cons_append, List.nil_append, encTag, encObj, encStr]; rfl) rfl)) ?_
  refine al_d rfl rfl rfl (by exact opr_call rfl rfl Tryz.call104 rfl (rOn_c o.x o.y _)) ?_
  refine al_d rfl rfl rfl (by exact opd_assign rfl rfl) ?_
  refine al_nil ?_
  refine awp_seq ?_
  refine awp_seq ?_
  refine awp_region ?_
  refine al_d rfl rfl rfl (by exact (by exact opd_field_ref rfl fo42_1 rfl rfl rfl rfl)) ?_
  refine al_d rfl rfl rfl (by exact (by exact opd_load1_ref rfl Tryz.isAgg3 rfl rfl rfl rfl rfl)) ?_
  refine al_d rfl rfl rfl (by exact opd_neq rfl rfl rfl) ?_
  refine al_nil ?_
  refine awp_cond rfl (fun hc1 => ?_) (fun hc1 => ?_)
  -- cond 1
  · have hat : atO o = (decide (o.x = 0) && decide (o.y = 0)) := by
      have h : (!decide (o.kind = 1)) = true := hc1
      rw [atO, if_neg (by simpa using h)]
    refine awp_region ?_
    refine al_d rfl rfl rfl (by exact (by exact opd_field_ref rfl fo42_2 rfl rfl rfl rfl)) ?_
    refine al_d rfl rfl rfl (by exact (by exact opd_loadn_ref rfl Tryz.isAgg38 Tryz.sizeOf38 rfl rfl rfl rfl (by simp only [List.drop_succ_cons, List.drop_zero, List.take_succ_cons, List.take_zero, List.take_nil, List.map_cons, List.map_nil, List.set_cons_zero, List.set_cons_succ, List.cons_append, List.nil_append, encTag, encObj, encStr]; rfl) rfl)) ?_
    refine al_d rfl rfl rfl (by exact x_build rfl bo38 rfl rfl) ?_
    refine al_d rfl rfl rfl (by exact opd_aeql rfl rfl rfl rfl rfl Tryz.eqGuardType38 (se38 _ _ _ _)) ?_
    refine al_d rfl rfl rfl (by exact opd_assign rfl rfl) ?_
    refine al_nil ?_
    refine awp_seq ?_
    refine awp_bool (t := 2) (n := 26) (X := (((gName o.id && !decide (gWord o.kind = sNil)) && atO o) && gTags o.tags) && rRefs o) ?_ ?_
    · all_goals (refine al_d rfl rfl rfl (by exact (by exact opd_field_ref rfl fo42_0 rfl rfl rfl rfl)) ?_)
      all_goals (refine al_d rfl rfl rfl (by exact (by exact opd_load1_ref rfl Tryz.isAgg9 rfl rfl rfl rfl rfl)) ?_)
      all_goals (refine al_d rfl rfl rfl (by exact opr_call rfl rfl Tryz.call103 rfl (rName_c o.id _ ho.1)) ?_)
      all_goals (refine al_d rfl rfl rfl (by exact opd_move rfl rfl) ?_)
      all_goals (refine al_split (t := 17) rfl (fun h17 => ?_) (fun h17 => ?_))
      all_goals (try contradiction)
      all_goals (first | refine al_off rfl rfl rfl rfl rfl ?_ | refine al_ond rfl rfl rfl rfl rfl rfl (by exact (by exact opd_field_ref rfl fo42_1 rfl rfl rfl rfl)) ?_)
      all_goals (first | refine al_off rfl rfl rfl rfl rfl ?_ | refine al_ond rfl rfl rfl rfl rfl rfl (by exact (by exact opd_load1_ref rfl Tryz.isAgg3 rfl rfl rfl rfl rfl)) ?_)
      all_goals (first | refine al_off rfl rfl rfl rfl rfl ?_ | refine al_ond rfl rfl rfl rfl rfl rfl (by exact opr_call rfl rfl Tryz.call154 rfl (rWordOf_c o.kind _)) ?_)
      all_goals (first | refine al_off rfl rfl rfl rfl rfl ?_ | refine al_ond rfl rfl rfl rfl rfl rfl (by exact opd_sneq rfl rfl rfl) ?_)
      all_goals (refine al_d rfl rfl rfl (by exact (by first | exact opd_pick_t rfl rfl rfl | exact opd_pick_f rfl rfl rfl)) ?_)
      all_goals (refine al_d rfl rfl rfl (by exact opd_move rfl rfl) ?_)
      all_goals (refine al_split (t := 23) rfl (fun h23 => ?_) (fun h23 => ?_))
      all_goals (try contradiction)
      all_goals (first | refine al_off rfl rfl rfl rfl rfl ?_ | refine al_ond rfl rfl rfl rfl rfl rfl (by exact opd_move rfl rfl) ?_)
      all_goals (refine al_d rfl rfl rfl (by exact (by first | exact opd_pick_t rfl rfl rfl | exact opd_pick_f rfl rfl rfl)) ?_)
      all_goals (refine al_d rfl rfl rfl (by exact opd_move rfl rfl) ?_)
      all_goals (refine al_split (t := 26) rfl (fun h26 => ?_) (fun h26 => ?_))
      all_goals (try contradiction)
      all_goals (first | refine al_off rfl rfl rfl rfl rfl ?_ | refine al_ond rfl rfl rfl rfl rfl rfl (by exact (by exact opd_field_ref rfl fo42_4 rfl rfl rfl rfl)) ?_)
      all_goals (first | refine al_off rfl rfl rfl rfl rfl ?_ | refine al_ond rfl rfl rfl rfl rfl rfl (by exact (by exact opd_load1_ref rfl Tryz.isAgg40 rfl rfl rfl rfl rfl)) ?_)
      all_goals (first | refine al_off rfl rfl rfl rfl rfl ?_ | refine al_ond rfl rfl rfl rfl rfl rfl (by exact opr_call rfl rfl Tryz.call155 rfl (rTags_c o.tags _ ho.2.1)) ?_)
      all_goals (refine al_d rfl rfl rfl (by exact (by first | exact opd_pick_t rfl rfl rfl | exact opd_pick_f rfl rfl rfl)) ?_)
      all_goals (refine al_d rfl rfl rfl (by exact opd_move rfl rfl) ?_)
      all_goals (refine al_split (t := 31) rfl (fun h31 => ?_) (fun h31 => ?_))
      all_goals (try contradiction)
      all_goals (first | refine al_off rfl rfl rfl rfl rfl ?_ | refine al_ond rfl rfl rfl rfl rfl rfl (by exact (by exact opd_loadn_ref rfl Tryz.isAgg42 Tryz.sizeOf42 rfl rfl rfl rfl (by simp only [List.drop_succ_cons, List.drop_zero, List.take_succ_cons, List.take_zero, List.take_nil, List.map_cons, List.map_nil, List.set_cons_zero, List.set_cons_succ, List.cons_append, List.nil_append, encTag, encObj, encStr]; rfl) rfl)) ?_)
      all_goals (first | refine al_off rfl rfl rfl rfl rfl ?_ | refine al_ond rfl rfl rfl rfl rfl rfl (by exact opr_call rfl rfl Tryz.call156 rfl (rRefs_c o _ ho)) ?_)
      all_goals (refine al_d rfl rfl rfl (by exact (by first | exact opd_pick_t rfl rfl rfl | exact opd_pick_f rfl rfl rfl)) ?_)
      all_goals (refine al_d rfl rfl rfl (by exact opd_assign rfl rfl) ?_)
      all_goals (refine al_nil ?_)
      all_goals (exact ⟨⟨_, rfl, by (simp only [hat, *]; rfl)⟩, rfl, rfl, rfl⟩)
    refine awp_ret ?_
    -- return
    refine aret1 (H' := []) (by exact .inr rfl) rfl (rval_tmp rfl) (Fin.wk (by simp) trivial trivial) ?_
    exact ⟨rfl, rfl⟩
  · have hat : atO o = gOn o.x o.y := by
      have h : (!decide (o.kind = 1)) = false := hc1
      rw [atO, if_pos (by simpa using h)]
    refine awp_skip ?_
    refine awp_seq ?_
    refine awp_bool (t := 2) (n := 26) (X := (((gName o.id && !decide (gWord o.kind = sNil)) && atO o) && gTags o.tags) && rRefs o) ?_ ?_
    · all_goals (refine al_d rfl rfl rfl (by exact (by exact opd_field_ref rfl fo42_0 rfl rfl rfl rfl)) ?_)
      all_goals (refine al_d rfl rfl rfl (by exact (by exact opd_load1_ref rfl Tryz.isAgg9 rfl rfl rfl rfl rfl)) ?_)
      all_goals (refine al_d rfl rfl rfl (by exact opr_call rfl rfl Tryz.call103 rfl (rName_c o.id _ ho.1)) ?_)
      all_goals (refine al_d rfl rfl rfl (by exact opd_move rfl rfl) ?_)
      all_goals (refine al_split (t := 17) rfl (fun h17 => ?_) (fun h17 => ?_))
      all_goals (try contradiction)
      all_goals (first | refine al_off rfl rfl rfl rfl rfl ?_ | refine al_ond rfl rfl rfl rfl rfl rfl (by exact (by exact opd_field_ref rfl fo42_1 rfl rfl rfl rfl)) ?_)
      all_goals (first | refine al_off rfl rfl rfl rfl rfl ?_ | refine al_ond rfl rfl rfl rfl rfl rfl (by exact (by exact opd_load1_ref rfl Tryz.isAgg3 rfl rfl rfl rfl rfl)) ?_)
      all_goals (first | refine al_off rfl rfl rfl rfl rfl ?_ | refine al_ond rfl rfl rfl rfl rfl rfl (by exact opr_call rfl rfl Tryz.call154 rfl (rWordOf_c o.kind _)) ?_)
      all_goals (first | refine al_off rfl rfl rfl rfl rfl ?_ | refine al_ond rfl rfl rfl rfl rfl rfl (by exact opd_sneq rfl rfl rfl) ?_)
      all_goals (refine al_d rfl rfl rfl (by exact (by first | exact opd_pick_t rfl rfl rfl | exact opd_pick_f rfl rfl rfl)) ?_)
      all_goals (refine al_d rfl rfl rfl (by exact opd_move rfl rfl) ?_)
      all_goals (refine al_split (t := 23) rfl (fun h23 => ?_) (fun h23 => ?_))
      all_goals (try contradiction)
      all_goals (first | refine al_off rfl rfl rfl rfl rfl ?_ | refine al_ond rfl rfl rfl rfl rfl rfl (by exact opd_move rfl rfl) ?_)
      all_goals (refine al_d rfl rfl rfl (by exact (by first | exact opd_pick_t rfl rfl rfl | exact opd_pick_f rfl rfl rfl)) ?_)
      all_goals (refine al_d rfl rfl rfl (by exact opd_move rfl rfl) ?_)
      all_goals (refine al_split (t := 26) rfl (fun h26 => ?_) (fun h26 => ?_))
      all_goals (try contradiction)
      all_goals (first | refine al_off rfl rfl rfl rfl rfl ?_ | refine al_ond rfl rfl rfl rfl rfl rfl (by exact (by exact opd_field_ref rfl fo42_4 rfl rfl rfl rfl)) ?_)
      all_goals (first | refine al_off rfl rfl rfl rfl rfl ?_ | refine al_ond rfl rfl rfl rfl rfl rfl (by exact (by exact opd_load1_ref rfl Tryz.isAgg40 rfl rfl rfl rfl rfl)) ?_)
      all_goals (first | refine al_off rfl rfl rfl rfl rfl ?_ | refine al_ond rfl rfl rfl rfl rfl rfl (by exact opr_call rfl rfl Tryz.call155 rfl (rTags_c o.tags _ ho.2.1)) ?_)
      all_goals (refine al_d rfl rfl rfl (by exact (by first | exact opd_pick_t rfl rfl rfl | exact opd_pick_f rfl rfl rfl)) ?_)
      all_goals (refine al_d rfl rfl rfl (by exact opd_move rfl rfl) ?_)
      all_goals (refine al_split (t := 31) rfl (fun h31 => ?_) (fun h31 => ?_))
      all_goals (try contradiction)
      all_goals (first | refine al_off rfl rfl rfl rfl rfl ?_ | refine al_ond rfl rfl rfl rfl rfl rfl (by exact (by exact opd_loadn_ref rfl Tryz.isAgg42 Tryz.sizeOf42 rfl rfl rfl rfl (by simp only [List.drop_succ_cons, List.drop_zero, List.take_succ_cons, List.take_zero, List.take_nil, List.map_cons, List.map_nil, List.set_cons_zero, List.set_cons_succ, List.cons_append, List.nil_append, encTag, encObj, encStr]; rfl) rfl)) ?_)
      all_goals (first | refine al_off rfl rfl rfl rfl rfl ?_ | refine al_ond rfl rfl rfl rfl rfl rfl (by exact opr_call rfl rfl Tryz.call156 rfl (rRefs_c o _ ho)) ?_)
      all_goals (refine al_d rfl rfl rfl (by exact (by first | exact opd_pick_t rfl rfl rfl | exact opd_pick_f rfl rfl rfl)) ?_)
      all_goals (refine al_d rfl rfl rfl (by exact opd_assign rfl rfl) ?_)
      all_goals (refine al_nil ?_)
      all_goals (exact ⟨⟨_, rfl, by (simp only [hat, *]; rfl)⟩, rfl, rfl, rfl⟩)
    refine awp_ret ?_
    -- return
    refine aret1 (H' := []) (by exact .inr rfl) rfl (rval_tmp rfl) (Fin.wk (by simp) trivial trivial) ?_
    exact ⟨rfl, rfl⟩
end Go.Proofs.YtdgoodjhndeojaaGreat
end
section
set_option linter.unusedVariables false
set_option linter.unusedSimpArgs false
set_option maxRecDepth 100000
namespace Go.Proofs.YtdgoodjhndeojaaGreat
open Go.Abs
theorem badObj_eq (m : List GObj) (k : Nat) (o po : GObj) (hp : 0 < k → m[k - 1]? = some po) : (!gObj o || (decide ((0 : Int) < (k : Int)) && !slt po.id o.id)) = badObj (before GObj.id m k) o := by
  rw [badObj]
  cases hg : gObj o with
  | false => simp
  | true =>
    have hs : sle o.id (before GObj.id m k) = (decide ((0 : Int) < (k : Int)) && !slt po.id o.id) := by
      cases k with
      | zero =>
        have : slt sNil o.id = true := by
          cases e : slt sNil o.id with
          | true => rfl
          | false => exact absurd (slt_tri (slt_nil _) e) (gName_ne (gObj_name hg))
        rw [before, sle_iff.2 this]; rfl
      | succ k =>
        have h := hp (by omega)
        rw [show k + 1 - 1 = k from rfl] at h
        rw [before_succ h, decide_eq_true (show (0 : Int) < ((k + 1 : Nat) : Int) by omega), Bool.true_and]
        cases e : slt po.id o.id with
        | true => rw [sle_iff.2 e]; rfl
        | false =>
          cases e2 : sle o.id po.id with
          | true => rfl
          | false => rw [sle_iff] at e2; rw [e] at e2; cases e2
    rw [hs]
theorem rMap_c (m : List GObj) (H : Heap) (hm : okM m) : ACalls Tryz.prog 73 [.agg [.pv (slObjs m)]] H (fun r H' => r = bv (gMap m) ∧ H' = H) := by
  refine ACalls.pure ?_ (by simp) H
  obtain ⟨hl, hks⟩ := hm
  have hml : (m.map encObj).length = m.length := List.length_map _
  refine ACalls.body Tryz.func73 rfl Tryz.ntmps73 (Nat.le_of_ble_eq_true rfl) ?_
  refine awp_seq ?_
  refine awp_region ?_
  refine al_d rfl rfl rfl (by exact opd_box (id := 1) rfl rfl rfl rfl rfl) ?_
  refine al_d rfl rfl rfl (by exact opd_assign rfl rfl) ?_
  refine al_nil ?_
  refine awp_seq ?_
  refine awp_seq ?_
  refine awp_region ?_
  refine al_d rfl rfl rfl (by exact (by exact opd_field_ref rfl fo24_0 rfl rfl rfl rfl)) ?_
  refine al_d rfl rfl rfl (by exact (by exact opd_load1_ref rfl Tryz.isAgg22 rfl rfl rfl rfl rfl)) ?_
  refine al_d rfl rfl rfl (by exact (by exact opd_len_sl rfl Tryz.underlying22 rfl)) ?_
  refine al_d rfl rfl rfl (by exact opd_gtr rfl rfl rfl) ?_
  refine al_nil ?_
  refine awp_cond rfl (fun hc1 => ?_) (fun hc1 => ?_)
  -- cond 1
  · have h60 : decide ((m.length : Int) ≤ 1000000) = false := by
      have := of_decide_eq_true hc1
      exact decide_eq_false (by omega)
    refine awp_seq ?_
    refine awp_region ?_
    refine al_d rfl rfl rfl (by exact opd_assign rfl rfl) ?_
    refine al_nil ?_
    refine awp_ret ?_
    -- return
    refine aret1 (H' := []) (by exact .inr rfl) rfl (rval_tmp rfl) (Fin.wk (by simp) trivial trivial) ?_
    exact ⟨by rw [gMap, h60, Bool.and_false], rfl⟩
  · have h60 : decide ((m.length : Int) ≤ 1000000) = true := by
      have := of_decide_eq_false hc1
      exact decide_eq_true (by omega)
    rw [gMap, h60, Bool.and_true]
    refine awp_skip ?_
    refine awp_seq ?_
    refine awp_seq ?_
    refine awp_region ?_
    refine al_d rfl rfl rfl (by exact opd_assign rfl rfl) ?_
    refine al_nil ?_
    refine awp_block ?_
    -- loop
    refine awp_loop (σ := Nat) (fun k => ([(1, .ref 1 0 0 0), (3, iv (k : Int))], [(1, bx 1 24 [.pv (slObjs m)])])) (fun k => k ≤ m.length ∧ ∀ j, j < k → badAt badObj GObj.id m j = false) (fun k => m.length - k) 0 ⟨by omega, by omega⟩ ?_ ?_
    · exact (Ent.wk ⟨⟨_, rfl, rfl⟩, (by (simp; rfl)), ⟨_, rfl, rfl⟩, (by (simp; done)), trivial⟩ ⟨⟨_, rfl, rfl⟩, (by (simp; done)), trivial⟩ trivial)
    · rintro k ⟨hk, hno⟩
      refine awp_seq ?_
      refine awp_seq ?_
      refine awp_region ?_
      refine al_d rfl rfl rfl (by exact opd_move rfl rfl) ?_
      refine al_d rfl rfl rfl (by exact (by exact opd_field_ref rfl fo24_0 rfl rfl rfl rfl)) ?_
      refine al_d rfl rfl rfl (by exact (by exact opd_load1_ref rfl Tryz.isAgg22 rfl rfl rfl rfl rfl)) ?_
      refine al_d rfl rfl rfl (by exact (by exact opd_len_sl rfl Tryz.underlying22 rfl)) ?_
      refine al_d rfl rfl rfl (by exact opd_lss rfl rfl rfl) ?_
      refine al_nil ?_
      refine awp_cond rfl (fun hc2 => ?_) (fun hc2 => ?_)
      -- cond 2
      · have hlt : k < m.length := by have := of_decide_eq_true hc2; omega
        obtain ⟨o, ho⟩ := get_of_lt hlt
        have hi := map_get (f := encObj) ho
        obtain ⟨po, hp⟩ : ∃ po, 0 < k → m[k - 1]? = some po := by
          by_cases k0 : 0 < k
          · obtain ⟨po, hp⟩ := get_of_lt (l := m) (k := k - 1) (by omega)
            exact ⟨po, fun _ => hp⟩
          · exact ⟨o, fun h => absurd h k0⟩
        have hpv : 0 < k → (m.map encObj)[k - 1]? = some (encObj po) := fun h => map_get (f := encObj) (hp h)
        have hbe := badObj_eq m k o po hp
        refine awp_skip ?_
        refine awp_seq ?_
        refine awp_block ?_
        refine awp_seq ?_
        refine awp_mergeR (t := 41) (n := 27) (X := !gObj o || (decide ((0 : Int) < (k : Int)) && !slt po.id o.id)) ?_ ?_
        · cases hg22 : (!gObj o : Bool)
          · cases hg25 : (decide ((0 : Int) < (k : Int)) : Bool)
            · refine awp_drawc follows ?_
              refine dc_cons (DStep.q rfl (by exact (by exact opd_field_ref rfl fo24_0 rfl rfl rfl rfl))) rfl ?_
              refine dc_cons (DStep.q rfl (by exact (by exact opd_load1_ref rfl Tryz.isAgg22 rfl rfl rfl rfl rfl))) rfl ?_
              refine dc_cons (DStep.q rfl (by exact opd_move rfl rfl)) rfl ?_
              refine dc_cons (DStep.q rfl (by exact (by exact x_index_pad rfl so22 rfl rfl (by omega) (by exact Int.toNat_natCast _) (by assumption) rfl))) rfl ?_
              refine dc_cons (DStep.q rfl (by exact (by exact opd_loadn_pad rfl Tryz.isAgg42 Tryz.sizeOf42 rfl (by omega) (by simp only [List.drop_succ_cons, List.drop_zero, List.take_succ_cons, List.take_zero, List.take_nil, List.map_cons, List.map_nil, List.set_cons_zero, List.set_cons_succ, List.cons_append, List.nil_append, encTag, encObj, encStr, encInt]; rfl) rfl))) rfl ?_
              refine dc_cons (DStep.q rfl (by exact opr_call rfl rfl Tryz.call102 rfl (rObj_c o _ (hks o (List.mem_of_getElem? ho))))) rfl ?_
              refine dc_cons (DStep.q rfl (by exact opd_not rfl rfl)) rfl ?_
              refine dc_cons (DStep.q rfl (by exact opd_move rfl rfl)) rfl ?_
              refine dc_cons (q_on_f rfl rfl rfl (by assumption) (by exact opd_move rfl rfl)) rfl ?_
              refine dc_cons (q_on_f rfl rfl rfl (by assumption) (by exact opd_gtr rfl rfl rfl)) rfl ?_
              refine dc_cons (q_on_f rfl rfl rfl (by assumption) (by exact opd_move rfl rfl)) rfl ?_
              refine dc_cons (q_off_t rfl rfl rfl (by assumption)) rfl ?_
              refine dc_cons (q_off_t rfl rfl rfl (by assumption)) rfl ?_
              refine dc_cons (q_off_t rfl rfl rfl (by assumption)) rfl ?_
              refine dc_cons (q_off_t rfl rfl rfl (by assumption)) rfl ?_
              refine dc_cons (q_off_t rfl rfl rfl (by assumption)) rfl ?_
              refine dc_cons (q_off_t rfl rfl rfl (by assumption)) rfl ?_
              refine dc_cons (q_off_t rfl rfl rfl (by assumption)) rfl ?_
              refine dc_cons (q_off_t rfl rfl rfl (by assumption)) rfl ?_
              refine dc_cons (q_off_t rfl rfl rfl (by assumption)) rfl ?_
              refine dc_cons (q_off_t rfl rfl rfl (by assumption)) rfl ?_
              refine dc_cons (q_off_t rfl rfl rfl (by assumption)) rfl ?_
              refine dc_cons (q_off_t rfl rfl rfl (by assumption)) rfl ?_
              refine dc_cons (q_off_t rfl rfl rfl (by assumption)) rfl ?_
              refine dc_cons (q_off_t rfl rfl rfl (by assumption)) rfl ?_
              refine dc_cons (q_on_f rfl rfl rfl (by assumption) (by exact (by exact opd_pickf rfl rfl (by assumption) rfl))) rfl ?_
              refine dc_cons (DStep.q rfl (by exact (by exact opd_pickf rfl rfl (by assumption) rfl))) rfl ?_
              refine dc_nil ⟨by kernel_rfl, ?_⟩
              exact ⟨rfl, ⟨_, rfl, by rfl⟩, rfl, rfl, rfl⟩
            · refine awp_drawc follows ?_
              refine dc_cons (DStep.q rfl (by exact (by exact opd_field_ref rfl fo24_0 rfl rfl rfl rfl))) rfl ?_
              refine dc_cons (DStep.q rfl (by exact (by exact opd_load1_ref rfl Tryz.isAgg22 rfl rfl rfl rfl rfl))) rfl ?_
              refine dc_cons (DStep.q rfl (by exact opd_move rfl rfl)) rfl ?_
              refine dc_cons (DStep.q rfl (by exact (by exact x_index_pad rfl so22 rfl rfl (by omega) (by exact Int.toNat_natCast _) (by assumption) rfl))) rfl ?_
              refine dc_cons (DStep.q rfl (by exact (by exact opd_loadn_pad rfl Tryz.isAgg42 Tryz.sizeOf42 rfl (by omega) (by simp only [List.drop_succ_cons, List.drop_zero, List.take_succ_cons, List.take_zero, List.take_nil, List.map_cons, List.map_nil, List.set_cons_zero, List.set_cons_succ, List.cons_append, List.nil_append, encTag, encObj, encStr, encInt]; rfl) rfl))) rfl ?_
              refine dc_cons (DStep.q rfl (by exact opr_call rfl rfl Tryz.call102 rfl (rObj_c o _ (hks o (List.mem_of_getElem? ho))))) rfl ?_
              refine dc_cons (DStep.q rfl (by exact opd_not rfl rfl)) rfl ?_
              refine dc_cons (DStep.q rfl (by exact opd_move rfl rfl)) rfl ?_
              refine dc_cons (q_on_f rfl rfl rfl (by assumption) (by exact opd_move rfl rfl)) rfl ?_
              refine dc_cons (q_on_f rfl rfl rfl (by assumption) (by exact opd_gtr rfl rfl rfl)) rfl ?_
              refine dc_cons (q_on_f rfl rfl rfl (by assumption) (by exact opd_move rfl rfl)) rfl ?_
              refine dc_cons (q_on_t rfl rfl rfl (by assumption) (by exact (by exact opd_field_ref rfl fo24_0 rfl rfl rfl rfl))) rfl ?_
              refine dc_cons (q_on_t rfl rfl rfl (by assumption) (by exact (by exact opd_load1_ref rfl Tryz.isAgg22 rfl rfl rfl rfl rfl))) rfl ?_
              refine dc_cons (q_on_t rfl rfl rfl (by assumption) (by exact opd_move rfl rfl)) rfl ?_
              refine dc_cons (q_on_t rfl rfl rfl (by assumption) (by exact opd_sub rfl rfl rfl (by exact w64 (by omega) (by omega)))) rfl ?_
              refine dc_cons (q_on_t rfl rfl rfl (by assumption) (by exact x_index_pad rfl so22 rfl rfl (by have := of_decide_eq_true hg25; omega) (show ((k : Int) - 1).toNat = k - 1 by omega) (hpv (by have := of_decide_eq_true hg25; omega)) rfl)) rfl ?_
              refine dc_cons (q_on_t rfl rfl rfl (by assumption) (by exact (by exact opd_field_pad rfl fo42_0 rfl rfl))) rfl ?_
              refine dc_cons (q_on_t rfl rfl rfl (by assumption) (by exact opd_load1_pad rfl Tryz.isAgg9 rfl (hpv (by have := of_decide_eq_true hg25; omega)) rfl)) rfl ?_
              refine dc_cons (q_on_t rfl rfl rfl (by assumption) (by exact (by exact opd_field_ref rfl fo24_0 rfl rfl rfl rfl))) rfl ?_
              refine dc_cons (q_on_t rfl rfl rfl (by assumption) (by exact (by exact opd_load1_ref rfl Tryz.isAgg22 rfl rfl rfl rfl rfl))) rfl ?_
              refine dc_cons (q_on_t rfl rfl rfl (by assumption) (by exact opd_move rfl rfl)) rfl ?_
              refine dc_cons (q_on_t rfl rfl rfl (by assumption) (by exact (by exact x_index_pad rfl so22 rfl rfl (by omega) (by exact Int.toNat_natCast _) (by assumption) rfl))) rfl ?_
              refine dc_cons (q_on_t rfl rfl rfl (by assumption) (by exact (by exact opd_field_pad rfl fo42_0 rfl rfl))) rfl ?_
              refine dc_cons (q_on_t rfl rfl rfl (by assumption) (by exact (by exact opd_load1_pad rfl Tryz.isAgg9 rfl (by omega) rfl))) rfl ?_
              refine dc_cons (q_on_t rfl rfl rfl (by assumption) (by exact opd_sgeq rfl rfl rfl)) rfl ?_
              refine dc_cons (q_on_f rfl rfl rfl (by assumption) (by exact (by exact opd_pickt rfl rfl (by assumption) rfl))) rfl ?_
              refine dc_cons (DStep.q rfl (by exact (by exact opd_pickf rfl rfl (by assumption) rfl))) rfl ?_
              refine dc_nil ⟨by kernel_rfl, ?_⟩
              exact ⟨rfl, ⟨_, rfl, by rfl⟩, rfl, rfl, rfl⟩
          · refine awp_drawc follows ?_
            refine dc_cons (DStep.q rfl (by exact (by exact opd_field_ref rfl fo24_0 rfl rfl rfl rfl))) rfl ?_
            refine dc_cons (DStep.q rfl (by exact (by exact opd_load1_ref rfl Tryz.isAgg22 rfl rfl rfl rfl rfl))) rfl ?_
            refine dc_cons (DStep.q rfl (by exact opd_move rfl rfl)) rfl ?_
            refine dc_cons (DStep.q rfl (by exact (by exact x_index_pad rfl so22 rfl rfl (by omega) (by exact Int.toNat_natCast _) (by assumption) rfl))) rfl ?_
            refine dc_cons (DStep.q rfl (by exact (by exact opd_loadn_pad rfl Tryz.isAgg42 Tryz.sizeOf42 rfl (by omega) (by simp only [List.drop_succ_cons, List.drop_zero, List.take_succ_cons, List.take_zero, List.take_nil, List.map_cons, List.map_nil, List.set_cons_zero, List.set_cons_succ, List.cons_append, List.nil_append, encTag, encObj, encStr, encInt]; rfl) rfl))) rfl ?_
            refine dc_cons (DStep.q rfl (by exact opr_call rfl rfl Tryz.call102 rfl (rObj_c o _ (hks o (List.mem_of_getElem? ho))))) rfl ?_
            refine dc_cons (DStep.q rfl (by exact opd_not rfl rfl)) rfl ?_
            refine dc_cons (DStep.q rfl (by exact opd_move rfl rfl)) rfl ?_
            refine dc_cons (q_off_f rfl rfl rfl (by assumption)) rfl ?_
            refine dc_cons (q_off_f rfl rfl rfl (by assumption)) rfl ?_
            refine dc_cons (q_off_f rfl rfl rfl (by assumption)) rfl ?_
            refine dc_cons (q_off_u rfl rfl rfl) rfl ?_
            refine dc_cons (q_off_u rfl rfl rfl) rfl ?_
            refine dc_cons (q_off_u rfl rfl rfl) rfl ?_
            refine dc_cons (q_off_u rfl rfl rfl) rfl ?_
            refine dc_cons (q_off_u rfl rfl rfl) rfl ?_
            refine dc_cons (q_off_u rfl rfl rfl) rfl ?_
            refine dc_cons (q_off_u rfl rfl rfl) rfl ?_
            refine dc_cons (q_off_u rfl rfl rfl) rfl ?_
            refine dc_cons (q_off_u rfl rfl rfl) rfl ?_
            refine dc_cons (q_off_u rfl rfl rfl) rfl ?_
            refine dc_cons (q_off_u rfl rfl rfl) rfl ?_
            refine dc_cons (q_off_u rfl rfl rfl) rfl ?_
            refine dc_cons (q_off_u rfl rfl rfl) rfl ?_
            refine dc_cons (q_off_u rfl rfl rfl) rfl ?_
            refine dc_cons (q_off_f rfl rfl rfl (by assumption)) rfl ?_
            refine dc_cons (DStep.q rfl (by exact (by exact opd_pickt rfl rfl (by assumption) rfl))) rfl ?_
            refine dc_nil ⟨by kernel_rfl, ?_⟩
            exact ⟨rfl, ⟨_, rfl, by rfl⟩, rfl, rfl, rfl⟩
        refine awp_cond rfl (fun hc3 => ?_) (fun hc3 => ?_)
        -- cond 3
        · rw [hbe] at hc3
          refine awp_seq ?_
          refine awp_region ?_
          refine al_d rfl rfl rfl (by exact opd_assign rfl rfl) ?_
          refine al_nil ?_
          refine awp_ret ?_
          -- return
          refine aret1 (H' := []) (by exact .inr rfl) rfl (rval_tmp rfl) (Fin.wk (by simp) trivial trivial) ?_
          exact ⟨by rw [range_some hlt ((badAt_some ho).trans hc3)]; rfl, rfl⟩
        · rw [hbe] at hc3
          refine awp_skip ?_
          refine awp_region ?_
          refine al_d rfl rfl rfl (by exact opd_move rfl rfl) ?_
          refine al_d rfl rfl rfl (by exact opd_add rfl rfl rfl (by exact w64 (by omega) (by omega))) ?_
          refine al_d rfl rfl rfl (by exact opd_assign rfl rfl) ?_
          refine al_nil ?_
          -- end of a round
          refine ⟨k + 1, ⟨by omega, fun j hj => ?_⟩, by omega, (Ent.wk ⟨⟨_, rfl, rfl⟩, (by (simp; rfl)), ⟨_, rfl, rfl⟩, (by (simp; done)), trivial⟩ ⟨⟨_, rfl, rfl⟩, (by (simp; done)), trivial⟩ trivial)⟩
          by_cases e : j = k
          · subst e; exact (badAt_some ho).trans hc3
          · exact hno j (by omega)
      · have hge : k = m.length := by have := of_decide_eq_false hc2; omega
        subst hge
        refine awp_exit ?_
        refine awp_seq ?_
        refine awp_region ?_
        refine al_d rfl rfl rfl (by exact opd_assign rfl rfl) ?_
        refine al_nil ?_
        refine awp_ret ?_
        -- return
        refine aret1 (H' := []) (by exact .inr rfl) rfl (rval_tmp rfl) (Fin.wk (by simp) trivial trivial) ?_
        exact ⟨by rw [range_any hno]; rfl, rfl⟩
theorem rFind_c (m : List GObj) (id : ByteArray) (H : Heap) (hm : m.length < 4611686018427387904) : ACalls Tryz.prog 91 [.agg [.pv (slObjs m)], sv id] H (fun r H' => r = iv (gidx (idIs id) m) ∧ H' = H) := by
  refine ACalls.pure ?_ (by simp) H
  have hml : (m.map encObj).length = m.length := List.length_map _
  refine ACalls.body Tryz.func91 rfl Tryz.ntmps91 (Nat.le_of_ble_eq_true rfl) ?_
  refine awp_seq ?_
  refine awp_region ?_
  refine al_d rfl rfl rfl (by exact opd_box (id := 2) rfl rfl rfl rfl rfl) ?_
  refine al_d rfl rfl rfl (by exact opd_assign rfl rfl) ?_
  refine al_nil ?_
  refine awp_seq ?_
  refine awp_seq ?_
  refine awp_region ?_
  refine al_d rfl rfl rfl (by exact opd_assign rfl rfl) ?_
  refine al_nil ?_
  refine awp_block ?_
  -- loop
  refine awp_loop (σ := Nat) (fun k => ([(1, sv id), (2, .ref 2 0 0 0), (5, iv (k : Int))], [(2, bx 1 24 [.pv (slObjs m)])])) (fun k => k ≤ m.length ∧ ∀ j, j < k → ∀ b, m[j]? = some b → idIs id b = false) (fun k => m.length - k) 0 ⟨by omega, by omega⟩ ?_ ?_
  · exact (Ent.wk ⟨⟨_, rfl, rfl⟩, (by (simp; done)), ⟨_, rfl, rfl⟩, (by (simp; rfl)), ⟨_, rfl, rfl⟩, (by (simp; done)), trivial⟩ ⟨⟨_, rfl, rfl⟩, (by (simp; done)), trivial⟩ trivial)
  · rintro k ⟨hk, hno⟩
    refine awp_seq ?_
    refine awp_seq ?_
    refine awp_region ?_
    refine al_d rfl rfl rfl (by exact opd_move rfl rfl) ?_
    refine al_d rfl rfl rfl (by exact (by exact opd_field_ref rfl fo24_0 rfl rfl rfl rfl)) ?_
    refine al_d rfl rfl rfl (by exact (by exact opd_load1_ref rfl Tryz.isAgg22 rfl rfl rfl rfl rfl)) ?_
    refine al_d rfl rfl rfl (by exact (by exact opd_len_sl rfl Tryz.underlying22 rfl)) ?_
    refine al_d rfl rfl rfl (by exact opd_lss rfl rfl rfl) ?_
    refine al_nil ?_
    refine awp_cond rfl (fun hc1 => ?_) (fun hc1 => ?_)
    -- cond 1
    · have hlt : k < m.length := by have := of_decide_eq_true hc1; omega
      obtain ⟨o, ho⟩ := get_of_lt hlt
      have hi := map_get (f := encObj) ho
      refine awp_skip ?_
      refine awp_seq ?_
      refine awp_block ?_
      refine awp_seq ?_
      refine awp_region ?_
      refine al_d rfl rfl rfl (by exact (by exact opd_field_ref rfl fo24_0 rfl rfl rfl rfl)) ?_
      refine al_d rfl rfl rfl (by exact (by exact opd_load1_ref rfl Tryz.isAgg22 rfl rfl rfl rfl rfl)) ?_
      refine al_d rfl rfl rfl (by exact opd_move rfl rfl) ?_
      refine al_d rfl rfl rfl (by exact (by exact x_index_pad rfl so22 rfl rfl (by omega) (by exact Int.toNat_natCast _) (by assumption) rfl)) ?_
      refine al_d rfl rfl rfl (by exact (by exact opd_field_pad rfl fo42_0 rfl rfl)) ?_
      refine al_d rfl rfl rfl (by exact (by exact opd_load1_pad rfl Tryz.isAgg9 rfl (by omega) rfl)) ?_
      refine al_d rfl rfl rfl (by exact opd_move rfl rfl) ?_
      refine al_d rfl rfl rfl (by exact opd_seql rfl rfl rfl) ?_
      refine al_nil ?_
      refine awp_cond rfl (fun hc2 => ?_) (fun hc2 => ?_)
      -- cond 2
      · have h : idIs id o = true := hc2
        refine awp_seq ?_
        refine awp_region ?_
        refine al_d rfl rfl rfl (by exact opd_move rfl rfl) ?_
        refine al_d rfl rfl rfl (by exact opd_assign rfl rfl) ?_
        refine al_nil ?_
        refine awp_ret ?_
        -- return
        refine aret1 (H' := []) (by exact .inr rfl) rfl (rval_tmp rfl) (Fin.wk (by simp) trivial trivial) ?_
        exact ⟨by rw [gidx, fidx_some hno ho h], rfl⟩
      · have h : idIs id o = false := hc2
        refine awp_skip ?_
        refine awp_region ?_
        refine al_d rfl rfl rfl (by exact opd_move rfl rfl) ?_
        refine al_d rfl rfl rfl (by exact opd_add rfl rfl rfl (by exact w64 (by omega) (by omega))) ?_
        refine al_d rfl rfl rfl (by exact opd_assign rfl rfl) ?_
        refine al_nil ?_
        -- end of a round
        exact ⟨k + 1, ⟨by omega, pre_succ hno ho h⟩, by omega, (Ent.wk ⟨⟨_, rfl, rfl⟩, (by (simp; done)), ⟨_, rfl, rfl⟩, (by (simp; rfl)), ⟨_, rfl, rfl⟩, (by (simp; done)), trivial⟩ ⟨⟨_, rfl, rfl⟩, (by (simp; done)), trivial⟩ trivial)⟩
    · have hge : k = m.length := by have := of_decide_eq_false hc1; omega
      subst hge
      refine awp_exit ?_
      refine awp_seq ?_
      refine awp_region ?_
      refine al_d rfl rfl rfl (by exact opd_assign rfl rfl) ?_
      refine al_nil ?_
      refine awp_ret ?_
      -- return
      refine aret1 (H' := []) (by exact .inr rfl) rfl (rval_tmp rfl) (Fin.wk (by simp) trivial trivial) ?_
      exact ⟨by rw [gidx, fidx_none hno], rfl⟩
end Go.Proofs.YtdgoodjhndeojaaGreat
end
