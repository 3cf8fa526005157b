/-
  CONTRACT: evidence.Find. Conditions: lengths below 2^40.
  PLAIN LAWS: the law's own test of evidence says what evidence is. Conditions: none.
  CONTRACTS: package planispherelaw31: what is moderate, evidence compared, drops counted, one edit, lists of indices. Conditions: lengths below 2^62.
-/
import Derived.Test.YtdgoodjhndeojaaGreatKH2M8
section
set_option linter.unusedVariables false
set_option linter.unusedSimpArgs false
set_option maxRecDepth 100000
namespace Go.Proofs.YtdgoodjhndeojaaGreat
open Go.Abs

theorem susBox_clo (k : Nat) {H : Heap} (h : (H.get 803).isSome = true) : ∀ r ∈ [susRow k], ∀ a ∈ r, Clo H a := by
  intro r hr
  rw [List.mem_singleton] at hr
  subst hr
  exact susRow_clo k h
theorem allT_c (m : List GObj) (H : Heap) (hm : okM m) (hcl : closedB m = true) : ACalls Tryz.prog 40 [.agg [.pv (slObjs m)], lv []] H (fun r H' => r = .tup [.agg [.pv (slObjs m)], iv (-1), iv 0] ∧ H' = H) := by
  have h := allNil_c m H hm
  simp only [hcl, if_true] at h
  exact h
theorem allF_c (m : List GObj) (H : Heap) (hm : okM m) (hcl : closedB m = false) : ACalls Tryz.prog 40 [.agg [.pv (slObjs m)], lv []] H (fun r H' => r = .tup [.agg [lv []], iv (-1), iv 1] ∧ H' = H) := by
  have h := allNil_c m H hm
  simp only [hcl, Bool.false_eq_true, if_false] at h
  exact h
theorem susF_c (m : List GObj) (H : Heap) (h1 : H.get 812 = none) (h2 : H.get 803 = none) (h3 : H.get 801 = none) : ACalls Tryz.prog 55 [.agg [.pv (slObjs m)]] H (fun r H' => r = .osl 812 0 0 4 ∧ H' = sH m ++ H) :=
  ACalls.frame (suspicions_c m) (fun _ _ h => by cases h) (fun _ _ h => by cases h) (by simp) (fun id hi => by
    right
    have : id = 812 ∨ id = 803 ∨ id = 801 := by
      simp only [Heap.get] at hi
      cases e1 : Nat.beq 812 id with
      | true => exact .inl (Nat.eq_of_beq_eq_true e1).symm
      | false =>
        cases e2 : Nat.beq 803 id with
        | true => exact .inr (.inl (Nat.eq_of_beq_eq_true e2).symm)
        | false =>
          cases e3 : Nat.beq 801 id with
          | true => exact .inr (.inr (Nat.eq_of_beq_eq_true e3).symm)
          | false => rw [e1, e2, e3] at hi; cases hi
    rcases this with rfl | rfl | rfl
    · exact h1
    · exact h2
    · exact h3)
def gFind (m : List GObj) (l : List GEdit) : Int × List Int := if closedB m && gChange l then ((((gFind0 m l).1 : Nat) : Int), toI (gFind0 m l).2) else (0, [])
abbrev ev0 : Ob := bx 2 31 [iv 0, lv []]
theorem evFind_c (m : List GObj) (l : List GEdit) (H : Heap) (hm : okM m) (hl : l.length < 1099511627776) (he : ∀ e ∈ l, okE e) : ACalls Tryz.prog 19 [.agg [.pv (slObjs m)], .pv (slEdits l)] H (fun r H' => r = .agg [iv (gFind m l).1, .pv (slInts (gFind m l).2)] ∧ H' = H) := by
  refine ACalls.pure ?_ (by simp) H
  have hml : (l.map encEdit).length = l.length := List.length_map _
  have het : ∀ y ∈ l, y.obj.tags.length < 4611686018427387904 := fun y hy => (he y hy).2.2.2.1.1
  refine ACalls.body Tryz.func19 rfl Tryz.ntmps19 (Nat.le_of_ble_eq_true rfl) ?_
  cases hcl : closedB m with
  | false =>
    have hg : gFind m l = (0, []) := by rw [gFind, hcl]; rfl
    rw [hg]
    refine awp_seq ?_
    refine awp_region ?_
    refine al_d rfl rfl rfl (by exact opd_box (id := 2) rfl rfl rfl rfl rfl) ?_
    refine al_d rfl rfl rfl (by exact x_alloc (id := 4) rfl zo31 rfl rfl) ?_
    refine al_nil ?_
    refine awp_scope ?_
    refine awp_seq ?_
    refine awp_seq ?_
    refine awp_region ?_
    refine al_d rfl rfl rfl (by exact (by first | exact opd_loadn_ref rfl Tryz.isAgg24 Tryz.sizeOf24 rfl rfl rfl rfl (by simp only [List.drop_succ_cons, List.drop_zero, List.take_succ_cons, List.take_zero, List.take_nil, List.map_cons, List.map_nil, List.set_cons_zero, List.set_cons_succ, List.cons_append, List.nil_append, encTag, encObj, encStr, encEdit, encInt]; rfl) rfl | exact opd_loadn_pad rfl Tryz.isAgg24 Tryz.sizeOf24 rfl (by first | omega | assumption) (by simp only [List.drop_succ_cons, List.drop_zero, List.take_succ_cons, List.take_zero, List.take_nil, List.map_cons, List.map_nil, List.set_cons_zero, List.set_cons_succ, List.cons_append, List.nil_append, encTag, encObj, encStr, encEdit, encInt]; rfl) rfl)) ?_
    refine al_d rfl rfl rfl (by exact opr_call rfl rfl Tryz.call40 rfl (allF_c m _ hm hcl)) ?_
    refine al_d rfl rfl rfl (by exact opd_move rfl rfl) ?_
    refine al_d rfl rfl rfl (by exact opd_extract rfl rfl rfl) ?_
    refine al_d rfl rfl rfl (by exact opd_extract rfl rfl rfl) ?_
    refine al_d rfl rfl rfl (by exact opd_extract rfl rfl rfl) ?_
    refine al_d rfl rfl rfl (by exact x_alloc (id := 5) rfl zo24 rfl rfl) ?_
    refine al_n rfl rfl (by exact (by first | exact x_store_all rfl Tryz.sizeOf24 rfl rfl rfl rfl rfl rfl rfl rfl | exact x_store1 rfl Tryz.sizeOf24 rfl rfl rfl rfl rfl rfl (by simp only [List.length_cons, List.length_nil]; omega) (by simp only [List.drop_succ_cons, List.drop_zero, List.take_succ_cons, List.take_zero, List.take_nil, List.map_cons, List.map_nil, List.set_cons_zero, List.set_cons_succ, List.cons_append, List.nil_append, encTag, encObj, encStr, encEdit, encInt]; rfl) (by simp only [List.drop_succ_cons, List.drop_zero, List.take_succ_cons, List.take_zero, List.take_nil, List.map_cons, List.map_nil, List.set_cons_zero, List.set_cons_succ, List.cons_append, List.nil_append, encTag, encObj, encStr, encEdit, encInt]; rfl) | exact x_store1 rfl Tryz.sizeOf24 rfl rfl rfl rfl rfl rfl (Nat.le_of_ble_eq_true rfl) rfl rfl)) ?_
    refine al_d rfl rfl rfl (by exact opd_assign rfl rfl) ?_
    refine al_d rfl rfl rfl (by exact opd_assign rfl rfl) ?_
    refine al_nil ?_
    refine awp_seq ?_
    refine awp_bool (t := 28) (n := 8) (X := true) ?_ ?_
    · all_goals (refine al_d rfl rfl rfl (by exact opd_move rfl rfl) ?_)
      all_goals (refine al_d rfl rfl rfl (by exact opd_neq rfl rfl rfl) ?_)
      all_goals (refine al_d rfl rfl rfl (by exact opd_move rfl rfl) ?_)
      all_goals (first | refine al_split (t := 24) rfl (fun h24 => ?_) (fun h24 => ?_) | refine al_dup (t := 24) rfl ?_ | skip)
      all_goals (try contradiction)
      all_goals (first | refine al_off rfl rfl rfl rfl rfl ?_ | refine al_offu rfl rfl rfl rfl ?_ | refine al_ond rfl rfl rfl rfl rfl rfl (by exact opd_move rfl rfl) ?_)
      all_goals (first | refine al_off rfl rfl rfl rfl rfl ?_ | refine al_offu rfl rfl rfl rfl ?_ | refine al_ond rfl rfl rfl rfl rfl rfl (by exact opr_call rfl rfl Tryz.call22 rfl (changeValid_c l _ (by omega) he)) ?_)
      all_goals (first | refine al_off rfl rfl rfl rfl rfl ?_ | refine al_offu rfl rfl rfl rfl ?_ | refine al_ond rfl rfl rfl rfl rfl rfl (by exact opd_not rfl rfl) ?_)
      all_goals (refine al_d rfl rfl rfl (by exact (by first | exact opd_pick_t rfl rfl rfl | exact opd_pick_f rfl rfl rfl | exact opd_pickt rfl rfl (by assumption) rfl | exact opd_pickf rfl rfl (by assumption) rfl | exact opd_pick rfl rfl rfl)) ?_)
      all_goals (refine al_nil ?_)
      all_goals (exact ⟨⟨_, rfl, by first | rfl | (simp only [*, Bool.false_and, Bool.true_and, Bool.and_false, Bool.and_true, Bool.true_or, Bool.false_or, Bool.or_true, Bool.or_false, Bool.not_true, Bool.not_false]; done) | (simp_all; done) | (simp_all; omega)⟩, rfl, rfl, rfl⟩)
    refine awp_cond rfl (fun hc1 => ?_) (fun hc1 => ?_)
    -- cond 1
    · skip
      refine awp_seq ?_
      refine awp_region ?_
      refine al_d rfl rfl rfl (by exact x_build rfl bo31 rfl rfl) ?_
      refine al_n rfl rfl (by exact (by first | exact x_store_all rfl Tryz.sizeOf31 rfl rfl rfl rfl rfl rfl rfl rfl | exact x_store rfl Tryz.sizeOf31 rfl rfl rfl rfl rfl rfl rfl (by simp only [List.length_cons, List.length_nil]; omega) (by simp only [List.drop_succ_cons, List.drop_zero, List.take_succ_cons, List.take_zero, List.take_nil, List.map_cons, List.map_nil, List.set_cons_zero, List.set_cons_succ, List.cons_append, List.nil_append, encTag, encObj, encStr, encEdit, encInt]; rfl) (by simp only [List.drop_succ_cons, List.drop_zero, List.take_succ_cons, List.take_zero, List.take_nil, List.map_cons, List.map_nil, List.set_cons_zero, List.set_cons_succ, List.cons_append, List.nil_append, encTag, encObj, encStr, encEdit, encInt]; rfl) | exact x_store rfl Tryz.sizeOf31 rfl rfl rfl rfl rfl rfl rfl (Nat.le_of_ble_eq_true rfl) rfl rfl)) ?_
      refine al_nil ?_
      refine awp_ret ?_
      -- return
      refine aret1 (H' := []) (by first | exact .inr rfl | exact .inl rfl) rfl (rval_cell rfl Tryz.isAgg31 Tryz.sizeOf31 rfl rfl rfl rfl rfl) (Fin.wk (r := .agg [iv 0, lv []]) (by simp) trivial trivial) ?_
      exact ⟨rfl, rfl⟩
    · cases hc1
  | true =>
    refine awp_seq ?_
    refine awp_region ?_
    refine al_d rfl rfl rfl (by exact opd_box (id := 2) rfl rfl rfl rfl rfl) ?_
    refine al_d rfl rfl rfl (by exact x_alloc (id := 4) rfl zo31 rfl rfl) ?_
    refine al_nil ?_
    refine awp_scope ?_
    refine awp_seq ?_
    refine awp_seq ?_
    refine awp_region ?_
    refine al_d rfl rfl rfl (by exact (by first | exact opd_loadn_ref rfl Tryz.isAgg24 Tryz.sizeOf24 rfl rfl rfl rfl (by simp only [List.drop_succ_cons, List.drop_zero, List.take_succ_cons, List.take_zero, List.take_nil, List.map_cons, List.map_nil, List.set_cons_zero, List.set_cons_succ, List.cons_append, List.nil_append, encTag, encObj, encStr, encEdit, encInt]; rfl) rfl | exact opd_loadn_pad rfl Tryz.isAgg24 Tryz.sizeOf24 rfl (by first | omega | assumption) (by simp only [List.drop_succ_cons, List.drop_zero, List.take_succ_cons, List.take_zero, List.take_nil, List.map_cons, List.map_nil, List.set_cons_zero, List.set_cons_succ, List.cons_append, List.nil_append, encTag, encObj, encStr, encEdit, encInt]; rfl) rfl)) ?_
    refine al_d rfl rfl rfl (by exact opr_call rfl rfl Tryz.call40 rfl (allT_c m _ hm hcl)) ?_
    refine al_d rfl rfl rfl (by exact opd_move rfl rfl) ?_
    refine al_d rfl rfl rfl (by exact opd_extract rfl rfl rfl) ?_
    refine al_d rfl rfl rfl (by exact opd_extract rfl rfl rfl) ?_
    refine al_d rfl rfl rfl (by exact opd_extract rfl rfl rfl) ?_
    refine al_d rfl rfl rfl (by exact x_alloc (id := 5) rfl zo24 rfl rfl) ?_
    refine al_n rfl rfl (by exact (by first | exact x_store_all rfl Tryz.sizeOf24 rfl rfl rfl rfl rfl rfl rfl rfl | exact x_store1 rfl Tryz.sizeOf24 rfl rfl rfl rfl rfl rfl (by simp only [List.length_cons, List.length_nil]; omega) (by simp only [List.drop_succ_cons, List.drop_zero, List.take_succ_cons, List.take_zero, List.take_nil, List.map_cons, List.map_nil, List.set_cons_zero, List.set_cons_succ, List.cons_append, List.nil_append, encTag, encObj, encStr, encEdit, encInt]; rfl) (by simp only [List.drop_succ_cons, List.drop_zero, List.take_succ_cons, List.take_zero, List.take_nil, List.map_cons, List.map_nil, List.set_cons_zero, List.set_cons_succ, List.cons_append, List.nil_append, encTag, encObj, encStr, encEdit, encInt]; rfl) | exact x_store1 rfl Tryz.sizeOf24 rfl rfl rfl rfl rfl rfl (Nat.le_of_ble_eq_true rfl) rfl rfl)) ?_
    refine al_d rfl rfl rfl (by exact opd_assign rfl rfl) ?_
    refine al_d rfl rfl rfl (by exact opd_assign rfl rfl) ?_
    refine al_nil ?_
    refine awp_seq ?_
    refine awp_bool (t := 28) (n := 8) (X := !gChange l) ?_ ?_
    · all_goals (refine al_d rfl rfl rfl (by exact opd_move rfl rfl) ?_)
      all_goals (refine al_d rfl rfl rfl (by exact opd_neq rfl rfl rfl) ?_)
      all_goals (refine al_d rfl rfl rfl (by exact opd_move rfl rfl) ?_)
      all_goals (first | refine al_split (t := 24) rfl (fun h24 => ?_) (fun h24 => ?_) | refine al_dup (t := 24) rfl ?_ | skip)
      all_goals (try contradiction)
      all_goals (first | refine al_off rfl rfl rfl rfl rfl ?_ | refine al_offu rfl rfl rfl rfl ?_ | refine al_ond rfl rfl rfl rfl rfl rfl (by exact opd_move rfl rfl) ?_)
      all_goals (first | refine al_off rfl rfl rfl rfl rfl ?_ | refine al_offu rfl rfl rfl rfl ?_ | refine al_ond rfl rfl rfl rfl rfl rfl (by exact opr_call rfl rfl Tryz.call22 rfl (changeValid_c l _ (by omega) he)) ?_)
      all_goals (first | refine al_off rfl rfl rfl rfl rfl ?_ | refine al_offu rfl rfl rfl rfl ?_ | refine al_ond rfl rfl rfl rfl rfl rfl (by exact opd_not rfl rfl) ?_)
      all_goals (refine al_d rfl rfl rfl (by exact (by first | exact opd_pick_t rfl rfl rfl | exact opd_pick_f rfl rfl rfl | exact opd_pickt rfl rfl (by assumption) rfl | exact opd_pickf rfl rfl (by assumption) rfl | exact opd_pick rfl rfl rfl)) ?_)
      all_goals (refine al_nil ?_)
      all_goals (exact ⟨⟨_, rfl, by first | rfl | (simp only [*, Bool.false_and, Bool.true_and, Bool.and_false, Bool.and_true, Bool.true_or, Bool.false_or, Bool.or_true, Bool.or_false, Bool.not_true, Bool.not_false]; done) | (simp_all; done) | (simp_all; omega)⟩, rfl, rfl, rfl⟩)
    refine awp_cond rfl (fun hc2 => ?_) (fun hc2 => ?_)
    -- cond 2
    · have hch : gChange l = false := by simpa using hc2
      have hg : gFind m l = (0, []) := by rw [gFind, hcl, hch]; rfl
      rw [hg]
      refine awp_seq ?_
      refine awp_region ?_
      refine al_d rfl rfl rfl (by exact x_build rfl bo31 rfl rfl) ?_
      refine al_n rfl rfl (by exact (by first | exact x_store_all rfl Tryz.sizeOf31 rfl rfl rfl rfl rfl rfl rfl rfl | exact x_store rfl Tryz.sizeOf31 rfl rfl rfl rfl rfl rfl rfl (by simp only [List.length_cons, List.length_nil]; omega) (by simp only [List.drop_succ_cons, List.drop_zero, List.take_succ_cons, List.take_zero, List.take_nil, List.map_cons, List.map_nil, List.set_cons_zero, List.set_cons_succ, List.cons_append, List.nil_append, encTag, encObj, encStr, encEdit, encInt]; rfl) (by simp only [List.drop_succ_cons, List.drop_zero, List.take_succ_cons, List.take_zero, List.take_nil, List.map_cons, List.map_nil, List.set_cons_zero, List.set_cons_succ, List.cons_append, List.nil_append, encTag, encObj, encStr, encEdit, encInt]; rfl) | exact x_store rfl Tryz.sizeOf31 rfl rfl rfl rfl rfl rfl rfl (Nat.le_of_ble_eq_true rfl) rfl rfl)) ?_
      refine al_nil ?_
      refine awp_ret ?_
      -- return
      refine aret1 (H' := []) (by first | exact .inr rfl | exact .inl rfl) rfl (rval_cell rfl Tryz.isAgg31 Tryz.sizeOf31 rfl rfl rfl rfl rfl) (Fin.wk (r := .agg [iv 0, lv []]) (by simp) trivial trivial) ?_
      exact ⟨rfl, rfl⟩
    · have hch : gChange l = true := by simpa using hc2
      have hg : gFind m l = ((((gFind0 m l).1 : Nat) : Int), toI (gFind0 m l).2) := by rw [gFind, hcl, hch]; rfl
      rw [hg]
      refine awp_skip ?_
      refine awp_seq ?_
      refine awp_region ?_
      refine al_d rfl rfl rfl (by exact opd_assign rfl rfl) ?_
      refine al_nil ?_
      refine awp_seq ?_
      refine awp_seq ?_
      refine awp_region ?_
      refine al_d rfl rfl rfl (by exact opd_move rfl rfl) ?_
      refine al_d rfl rfl rfl (by exact (by first | exact opd_len_sl rfl Tryz.underlying25 rfl | exact opd_len_osl rfl Tryz.underlying25 rfl rfl rfl)) ?_
      refine al_d rfl rfl rfl (by exact opd_move rfl rfl) ?_
      refine al_nil ?_
      refine awp_block ?_
      -- loop
      refine awp_loop (σ := Nat) (fun k => ([(1, .pv (slEdits l)), (2, .ref 2 0 0 0), (4, .ref 4 0 0 0), (8, iv (nDrops (l.take k) : Nat)), (30, .pv (slEdits l)), (31, iv ((l.map encEdit).length : Int)), (32, iv (k : Int))], [(4, ev0), (2, bx 1 24 [.pv (slObjs m)])])) (fun k => k ≤ l.length) (fun k => l.length - k) 0 (by omega) ?_ ?_
      · exact (Ent.wk ⟨⟨_, rfl, rfl⟩, (by first | (simp; done) | (simp; rfl) | exact clo_map _ _ _ | exact susRows_clo rfl | exact susBox_clo _ rfl), ⟨_, rfl, rfl⟩, (by first | (simp; done) | (simp; rfl) | exact clo_map _ _ _ | exact susRows_clo rfl | exact susBox_clo _ rfl), ⟨_, rfl, rfl⟩, (by first | (simp; done) | (simp; rfl) | exact clo_map _ _ _ | exact susRows_clo rfl | exact susBox_clo _ rfl), ⟨_, rfl, rfl⟩, (by first | (simp; done) | (simp; rfl) | exact clo_map _ _ _ | exact susRows_clo rfl | exact susBox_clo _ rfl), ⟨_, rfl, rfl⟩, (by first | (simp; done) | (simp; rfl) | exact clo_map _ _ _ | exact susRows_clo rfl | exact susBox_clo _ rfl), ⟨_, rfl, rfl⟩, (by first | (simp; done) | (simp; rfl) | exact clo_map _ _ _ | exact susRows_clo rfl | exact susBox_clo _ rfl), ⟨_, rfl, rfl⟩, (by first | (simp; done) | (simp; rfl) | exact clo_map _ _ _ | exact susRows_clo rfl | exact susBox_clo _ rfl), trivial⟩ ⟨⟨_, rfl, rfl⟩, (by first | (simp; done) | (simp; rfl) | exact clo_map _ _ _ | exact susRows_clo rfl | exact susBox_clo _ rfl), ⟨_, rfl, rfl⟩, (by first | (simp; done) | (simp; rfl) | exact clo_map _ _ _ | exact susRows_clo rfl | exact susBox_clo _ rfl), trivial⟩ trivial)
      · intro k hk
        refine awp_seq ?_
        refine awp_region ?_
        refine al_d rfl rfl rfl (by exact opd_lss rfl rfl rfl) ?_
        refine al_nil ?_
        refine awp_seq ?_
        refine awp_cond rfl (fun hc3 => ?_) (fun hc3 => ?_)
        -- cond 3
        · have hlt : k < l.length := by have := of_decide_eq_true hc3; omega
          obtain ⟨e, hke⟩ := get_of_lt hlt
          have hi := map_get (f := encEdit) hke
          have hct : nDrops (l.take (k + 1)) = nDrops (l.take k) + (if isDrop e then 1 else 0) := countP_take isDrop hke
          have hcb : nDrops (l.take k) ≤ (l.take k).length := List.countP_le_length
          rw [List.length_take] at hcb
          refine awp_skip ?_
          refine awp_seq ?_
          refine awp_block ?_
          refine awp_seq ?_
          refine awp_region ?_
          refine al_d rfl rfl rfl (by exact (by first | exact x_index_pad rfl so25 rfl rfl (by omega) (by first | exact Int.toNat_natCast _ | rfl) (by assumption) rfl | exact x_index_osl rfl so25 rfl rfl rfl rfl rfl (by omega) (by first | exact Int.toNat_natCast _ | rfl) (by first | omega | assumption) rfl)) ?_
          refine al_d rfl rfl rfl (by exact (by first | exact opd_loadn_ref rfl Tryz.isAgg44 Tryz.sizeOf44 rfl rfl rfl rfl (by simp only [List.drop_succ_cons, List.drop_zero, List.take_succ_cons, List.take_zero, List.take_nil, List.map_cons, List.map_nil, List.set_cons_zero, List.set_cons_succ, List.cons_append, List.nil_append, encTag, encObj, encStr, encEdit, encInt]; rfl) rfl | exact opd_loadn_pad rfl Tryz.isAgg44 Tryz.sizeOf44 rfl (by first | omega | assumption) (by simp only [List.drop_succ_cons, List.drop_zero, List.take_succ_cons, List.take_zero, List.take_nil, List.map_cons, List.map_nil, List.set_cons_zero, List.set_cons_succ, List.cons_append, List.nil_append, encTag, encObj, encStr, encEdit, encInt]; rfl) rfl)) ?_
          refine al_d rfl rfl rfl (by exact x_alloc (id := 10) rfl zo44 rfl rfl) ?_
          refine al_n rfl rfl (by exact (by first | exact x_store_all rfl Tryz.sizeOf44 rfl rfl rfl rfl rfl rfl rfl rfl | exact x_store rfl Tryz.sizeOf44 rfl rfl rfl rfl rfl rfl rfl (by simp only [List.length_cons, List.length_nil]; omega) (by simp only [List.drop_succ_cons, List.drop_zero, List.take_succ_cons, List.take_zero, List.take_nil, List.map_cons, List.map_nil, List.set_cons_zero, List.set_cons_succ, List.cons_append, List.nil_append, encTag, encObj, encStr, encEdit, encInt]; rfl) (by simp only [List.drop_succ_cons, List.drop_zero, List.take_succ_cons, List.take_zero, List.take_nil, List.map_cons, List.map_nil, List.set_cons_zero, List.set_cons_succ, List.cons_append, List.nil_append, encTag, encObj, encStr, encEdit, encInt]; rfl) | exact x_store rfl Tryz.sizeOf44 rfl rfl rfl rfl rfl rfl rfl (Nat.le_of_ble_eq_true rfl) rfl rfl)) ?_
          refine al_nil ?_
          refine awp_seq ?_
          refine awp_region ?_
          refine al_d rfl rfl rfl (by exact (by first | exact opd_field_ref rfl fo44_0 rfl rfl rfl rfl | exact opd_field_pad rfl fo44_0 rfl rfl)) ?_
          refine al_d rfl rfl rfl (by exact (by first | exact opd_load1_ref rfl Tryz.isAgg3 rfl rfl rfl rfl rfl | exact opd_load1_pad rfl Tryz.isAgg3 rfl (by first | omega | assumption) rfl)) ?_
          refine al_d rfl rfl rfl (by exact opd_eql rfl rfl rfl) ?_
          refine al_nil ?_
          refine awp_cond rfl (fun hc4 => ?_) (fun hc4 => ?_)
          -- cond 4
          · have hd : isDrop e = true := hc4
            rw [hd] at hct
            refine awp_region ?_
            refine al_d rfl rfl rfl (by exact opd_move rfl rfl) ?_
            refine al_d rfl rfl rfl (by exact opd_add rfl rfl rfl (by first | exact w64 (by omega) (by omega) | exact wu8 (by omega) (by omega) | rfl)) ?_
            refine al_d rfl rfl rfl (by exact opd_assign rfl rfl) ?_
            refine al_nil ?_
            refine awp_region ?_
            refine al_d rfl rfl rfl (by exact opd_add rfl rfl rfl (by first | exact w64 (by omega) (by omega) | exact wu8 (by omega) (by omega) | rfl)) ?_
            refine al_d rfl rfl rfl (by exact opd_move rfl rfl) ?_
            refine al_nil ?_
            -- end of a round
            refine ⟨k + 1, by omega, by omega, ?_⟩
            rw [hct]
            exact (Ent.wk ⟨⟨_, rfl, rfl⟩, (by first | (simp; done) | (simp; rfl) | exact clo_map _ _ _ | exact susRows_clo rfl | exact susBox_clo _ rfl), ⟨_, rfl, rfl⟩, (by first | (simp; done) | (simp; rfl) | exact clo_map _ _ _ | exact susRows_clo rfl | exact susBox_clo _ rfl), ⟨_, rfl, rfl⟩, (by first | (simp; done) | (simp; rfl) | exact clo_map _ _ _ | exact susRows_clo rfl | exact susBox_clo _ rfl), ⟨_, rfl, rfl⟩, (by first | (simp; done) | (simp; rfl) | exact clo_map _ _ _ | exact susRows_clo rfl | exact susBox_clo _ rfl), ⟨_, rfl, rfl⟩, (by first | (simp; done) | (simp; rfl) | exact clo_map _ _ _ | exact susRows_clo rfl | exact susBox_clo _ rfl), ⟨_, rfl, rfl⟩, (by first | (simp; done) | (simp; rfl) | exact clo_map _ _ _ | exact susRows_clo rfl | exact susBox_clo _ rfl), ⟨_, rfl, rfl⟩, (by first | (simp; done) | (simp; rfl) | exact clo_map _ _ _ | exact susRows_clo rfl | exact susBox_clo _ rfl), trivial⟩ ⟨⟨_, rfl, rfl⟩, (by first | (simp; done) | (simp; rfl) | exact clo_map _ _ _ | exact susRows_clo rfl | exact susBox_clo _ rfl), ⟨_, rfl, rfl⟩, (by first | (simp; done) | (simp; rfl) | exact clo_map _ _ _ | exact susRows_clo rfl | exact susBox_clo _ rfl), trivial⟩ trivial)
          · have hd : isDrop e = false := hc4
            rw [hd] at hct
            refine awp_skip ?_
            refine awp_region ?_
            refine al_d rfl rfl rfl (by exact opd_add rfl rfl rfl (by first | exact w64 (by omega) (by omega) | exact wu8 (by omega) (by omega) | rfl)) ?_
            refine al_d rfl rfl rfl (by exact opd_move rfl rfl) ?_
            refine al_nil ?_
            -- end of a round
            refine ⟨k + 1, by omega, by omega, ?_⟩
            rw [hct]
            exact (Ent.wk ⟨⟨_, rfl, rfl⟩, (by first | (simp; done) | (simp; rfl) | exact clo_map _ _ _ | exact susRows_clo rfl | exact susBox_clo _ rfl), ⟨_, rfl, rfl⟩, (by first | (simp; done) | (simp; rfl) | exact clo_map _ _ _ | exact susRows_clo rfl | exact susBox_clo _ rfl), ⟨_, rfl, rfl⟩, (by first | (simp; done) | (simp; rfl) | exact clo_map _ _ _ | exact susRows_clo rfl | exact susBox_clo _ rfl), ⟨_, rfl, rfl⟩, (by first | (simp; done) | (simp; rfl) | exact clo_map _ _ _ | exact susRows_clo rfl | exact susBox_clo _ rfl), ⟨_, rfl, rfl⟩, (by first | (simp; done) | (simp; rfl) | exact clo_map _ _ _ | exact susRows_clo rfl | exact susBox_clo _ rfl), ⟨_, rfl, rfl⟩, (by first | (simp; done) | (simp; rfl) | exact clo_map _ _ _ | exact susRows_clo rfl | exact susBox_clo _ rfl), ⟨_, rfl, rfl⟩, (by first | (simp; done) | (simp; rfl) | exact clo_map _ _ _ | exact susRows_clo rfl | exact susBox_clo _ rfl), trivial⟩ ⟨⟨_, rfl, rfl⟩, (by first | (simp; done) | (simp; rfl) | exact clo_map _ _ _ | exact susRows_clo rfl | exact susBox_clo _ rfl), ⟨_, rfl, rfl⟩, (by first | (simp; done) | (simp; rfl) | exact clo_map _ _ _ | exact susRows_clo rfl | exact susBox_clo _ rfl), trivial⟩ trivial)
        · have hge : k = l.length := by have := of_decide_eq_false hc3; omega
          subst hge
          rw [List.take_length]
          have hnd : nDrops l ≤ l.length := List.countP_le_length
          refine awp_exit ?_
          refine awp_seq ?_
          refine awp_label ?_
          refine awp_seq ?_
          refine awp_seq ?_
          refine awp_region ?_
          refine al_d rfl rfl rfl (by exact (by first | exact opd_loadn_ref rfl Tryz.isAgg24 Tryz.sizeOf24 rfl rfl rfl rfl (by simp only [List.drop_succ_cons, List.drop_zero, List.take_succ_cons, List.take_zero, List.take_nil, List.map_cons, List.map_nil, List.set_cons_zero, List.set_cons_succ, List.cons_append, List.nil_append, encTag, encObj, encStr, encEdit, encInt]; rfl) rfl | exact opd_loadn_pad rfl Tryz.isAgg24 Tryz.sizeOf24 rfl (by first | omega | assumption) (by simp only [List.drop_succ_cons, List.drop_zero, List.take_succ_cons, List.take_zero, List.take_nil, List.map_cons, List.map_nil, List.set_cons_zero, List.set_cons_succ, List.cons_append, List.nil_append, encTag, encObj, encStr, encEdit, encInt]; rfl) rfl)) ?_
          refine al_d rfl rfl rfl (by exact opr_call rfl rfl Tryz.call55 rfl (susF_c m _ rfl rfl rfl)) ?_
          refine al_d rfl rfl rfl (by exact (by first | exact opd_len_sl rfl Tryz.underlying76 rfl | exact opd_len_osl rfl Tryz.underlying76 rfl rfl rfl)) ?_
          refine al_d rfl rfl rfl (by exact opd_move rfl rfl) ?_
          refine al_nil ?_
          refine awp_block ?_
          -- loop
          refine awp_loop (σ := Nat) (fun i => ([(1, .pv (slEdits l)), (4, .ref 4 0 0 0), (8, iv (nDrops l : Nat)), (43, .osl 812 0 0 4), (44, iv 4), (45, iv (i : Int))], sH m ++ [(4, ev0)])) (fun i => i ≤ 4 ∧ kFirst m l (4 - i) (i + 1) = gFind0 m l) (fun i => 4 - i) 0 ⟨by omega, rfl⟩ ?_ ?_
          · exact (Ent.wk ⟨⟨_, rfl, rfl⟩, (by first | (simp; done) | (simp; rfl) | exact clo_map _ _ _ | exact susRows_clo rfl | exact susBox_clo _ rfl), ⟨_, rfl, rfl⟩, (by first | (simp; done) | (simp; rfl) | exact clo_map _ _ _ | exact susRows_clo rfl | exact susBox_clo _ rfl), ⟨_, rfl, rfl⟩, (by first | (simp; done) | (simp; rfl) | exact clo_map _ _ _ | exact susRows_clo rfl | exact susBox_clo _ rfl), ⟨_, rfl, rfl⟩, (by first | (simp; done) | (simp; rfl) | exact clo_map _ _ _ | exact susRows_clo rfl | exact susBox_clo _ rfl), ⟨_, rfl, rfl⟩, (by first | (simp; done) | (simp; rfl) | exact clo_map _ _ _ | exact susRows_clo rfl | exact susBox_clo _ rfl), ⟨_, rfl, rfl⟩, (by first | (simp; done) | (simp; rfl) | exact clo_map _ _ _ | exact susRows_clo rfl | exact susBox_clo _ rfl), trivial⟩ ⟨⟨_, rfl, rfl⟩, (by first | (simp; done) | (simp; rfl) | exact clo_map _ _ _ | exact susRows_clo rfl | exact susBox_clo _ rfl), ⟨_, rfl, rfl⟩, (by first | (simp; done) | (simp; rfl) | exact clo_map _ _ _ | exact susRows_clo rfl | exact susBox_clo _ rfl), ⟨_, rfl, rfl⟩, (by first | (simp; done) | (simp; rfl) | exact clo_map _ _ _ | exact susRows_clo rfl | exact susBox_clo _ rfl), ⟨_, rfl, rfl⟩, (by first | (simp; done) | (simp; rfl) | exact clo_map _ _ _ | exact susRows_clo rfl | exact susBox_clo _ rfl), trivial⟩ trivial)
          · rintro i ⟨hi4, hinv⟩
            refine awp_seq ?_
            refine awp_region ?_
            refine al_d rfl rfl rfl (by exact opd_lss rfl rfl rfl) ?_
            refine al_nil ?_
            refine awp_seq ?_
            refine awp_cond rfl (fun hc5 => ?_) (fun hc5 => ?_)
            -- cond 5
            · have hi : i < 4 := by have := of_decide_eq_true hc5; omega
              obtain ⟨d, hd⟩ : ∃ d, 4 - i = d + 1 := ⟨4 - i - 1, by omega⟩
              have hd2 : 4 - (i + 1) = d := by omega
              rw [hd, kFirst] at hinv
              have hrow : susRows[0 + i]? = some (susRow (i + 1)) := by rw [Nat.zero_add]; exact susRow_at hi
              have hw : (((i + 1 : Nat) : Int) = 1) ↔ (i + 1 = 1) := by omega
              refine awp_skip ?_
              refine awp_seq ?_
              refine awp_block ?_
              refine awp_seq ?_
              refine awp_region ?_
              refine al_d rfl rfl rfl (by exact x_index_osl rfl so76 rfl rfl rfl rfl rfl (by omega) (Int.toNat_natCast _) hi rfl) ?_
              refine al_d rfl rfl rfl (by exact opd_loadn_ref (r := susRow (i + 1)) (cs := susRow (i + 1)) rfl Tryz.isAgg80 Tryz.sizeOf80 rfl rfl rfl hrow rfl rfl) ?_
              refine al_d rfl rfl rfl (by exact x_alloc (id := 12) rfl zo80 rfl rfl) ?_
              refine al_n rfl rfl (by exact (by first | exact x_store_all rfl Tryz.sizeOf80 rfl rfl rfl rfl rfl rfl rfl rfl | exact x_store rfl Tryz.sizeOf80 rfl rfl rfl rfl rfl rfl rfl (by simp only [List.length_cons, List.length_nil]; omega) (by simp only [List.drop_succ_cons, List.drop_zero, List.take_succ_cons, List.take_zero, List.take_nil, List.map_cons, List.map_nil, List.set_cons_zero, List.set_cons_succ, List.cons_append, List.nil_append, encTag, encObj, encStr, encEdit, encInt]; rfl) (by simp only [List.drop_succ_cons, List.drop_zero, List.take_succ_cons, List.take_zero, List.take_nil, List.map_cons, List.map_nil, List.set_cons_zero, List.set_cons_succ, List.cons_append, List.nil_append, encTag, encObj, encStr, encEdit, encInt]; rfl) | exact x_store rfl Tryz.sizeOf80 rfl rfl rfl rfl rfl rfl rfl (Nat.le_of_ble_eq_true rfl) rfl rfl)) ?_
              refine al_nil ?_
              refine awp_seq ?_
              refine awp_seq ?_
              refine awp_bool (t := 58) (n := 11) (X := decide (((i + 1 : Nat) : Int) = 1) && decide (2 * (nDrops l : Int) ≤ ((l.map encEdit).length : Int))) ?_ ?_
              · all_goals (refine al_d rfl rfl rfl (by exact (by first | exact opd_field_ref rfl fo80_0 rfl rfl rfl rfl | exact opd_field_pad rfl fo80_0 rfl rfl)) ?_)
                all_goals (refine al_d rfl rfl rfl (by exact (by first | exact opd_load1_ref rfl Tryz.isAgg3 rfl rfl rfl rfl rfl | exact opd_load1_pad rfl Tryz.isAgg3 rfl (by first | omega | assumption) rfl)) ?_)
                all_goals (refine al_d rfl rfl rfl (by exact opd_eql rfl rfl rfl) ?_)
                all_goals (refine al_d rfl rfl rfl (by exact opd_move rfl rfl) ?_)
                all_goals (first | refine al_split (t := 52) rfl (fun h52 => ?_) (fun h52 => ?_) | refine al_dup (t := 52) rfl ?_ | skip)
                all_goals (try contradiction)
                all_goals (first | refine al_off rfl rfl rfl rfl rfl ?_ | refine al_offu rfl rfl rfl rfl ?_ | refine al_ond rfl rfl rfl rfl rfl rfl (by exact opd_move rfl rfl) ?_)
                all_goals (first | refine al_off rfl rfl rfl rfl rfl ?_ | refine al_offu rfl rfl rfl rfl ?_ | refine al_ond rfl rfl rfl rfl rfl rfl (by exact opd_mul rfl rfl rfl (by first | exact w64 (by omega) (by omega) | exact wu8 (by omega) (by omega) | rfl)) ?_)
                all_goals (first | refine al_off rfl rfl rfl rfl rfl ?_ | refine al_offu rfl rfl rfl rfl ?_ | refine al_ond rfl rfl rfl rfl rfl rfl (by exact opd_move rfl rfl) ?_)
                all_goals (first | refine al_off rfl rfl rfl rfl rfl ?_ | refine al_offu rfl rfl rfl rfl ?_ | refine al_ond rfl rfl rfl rfl rfl rfl (by exact (by first | exact opd_len_sl rfl Tryz.underlying25 rfl | exact opd_len_osl rfl Tryz.underlying25 rfl rfl rfl)) ?_)
                all_goals (first | refine al_off rfl rfl rfl rfl rfl ?_ | refine al_offu rfl rfl rfl rfl ?_ | refine al_ond rfl rfl rfl rfl rfl rfl (by exact opd_leq rfl rfl rfl) ?_)
                all_goals (refine al_d rfl rfl rfl (by exact (by first | exact opd_pick_t rfl rfl rfl | exact opd_pick_f rfl rfl rfl | exact opd_pickt rfl rfl (by assumption) rfl | exact opd_pickf rfl rfl (by assumption) rfl | exact opd_pick rfl rfl rfl)) ?_)
                all_goals (refine al_nil ?_)
                all_goals (exact ⟨⟨_, rfl, by first | rfl | (simp only [*, Bool.false_and, Bool.true_and, Bool.and_false, Bool.and_true, Bool.true_or, Bool.false_or, Bool.or_true, Bool.or_false, Bool.not_true, Bool.not_false]; done) | (simp_all; done) | (simp_all; omega)⟩, rfl, rfl, rfl⟩)
              refine awp_cond rfl (fun hc6 => ?_) (fun hc6 => ?_)
              -- cond 6
              · have hk1 : i + 1 = 1 ∧ 2 * nDrops l ≤ l.length := by
                  simp only [Bool.and_eq_true, decide_eq_true_eq, hml] at hc6
                  omega
                have hno : kAns m l (i + 1) = none := by rw [kAns, if_pos hk1]
                rw [hno] at hinv
                refine awp_exit ?_
                refine awp_region ?_
                refine al_d rfl rfl rfl (by exact opd_add rfl rfl rfl (by first | exact w64 (by omega) (by omega) | exact wu8 (by omega) (by omega) | rfl)) ?_
                refine al_d rfl rfl rfl (by exact opd_move rfl rfl) ?_
                refine al_nil ?_
                -- end of a round
                refine ⟨i + 1, ⟨by omega, ?_⟩, by omega, (Ent.wk ⟨⟨_, rfl, rfl⟩, (by first | (simp; done) | (simp; rfl) | exact clo_map _ _ _ | exact susRows_clo rfl | exact susBox_clo _ rfl), ⟨_, rfl, rfl⟩, (by first | (simp; done) | (simp; rfl) | exact clo_map _ _ _ | exact susRows_clo rfl | exact susBox_clo _ rfl), ⟨_, rfl, rfl⟩, (by first | (simp; done) | (simp; rfl) | exact clo_map _ _ _ | exact susRows_clo rfl | exact susBox_clo _ rfl), ⟨_, rfl, rfl⟩, (by first | (simp; done) | (simp; rfl) | exact clo_map _ _ _ | exact susRows_clo rfl | exact susBox_clo _ rfl), ⟨_, rfl, rfl⟩, (by first | (simp; done) | (simp; rfl) | exact clo_map _ _ _ | exact susRows_clo rfl | exact susBox_clo _ rfl), ⟨_, rfl, rfl⟩, (by first | (simp; done) | (simp; rfl) | exact clo_map _ _ _ | exact susRows_clo rfl | exact susBox_clo _ rfl), trivial⟩ ⟨⟨_, rfl, rfl⟩, (by first | (simp; done) | (simp; rfl) | exact clo_map _ _ _ | exact susRows_clo rfl | exact susBox_clo _ rfl), ⟨_, rfl, rfl⟩, (by first | (simp; done) | (simp; rfl) | exact clo_map _ _ _ | exact susRows_clo rfl | exact susBox_clo _ rfl), ⟨_, rfl, rfl⟩, (by first | (simp; done) | (simp; rfl) | exact clo_map _ _ _ | exact susRows_clo rfl | exact susBox_clo _ rfl), ⟨_, rfl, rfl⟩, (by first | (simp; done) | (simp; rfl) | exact clo_map _ _ _ | exact susRows_clo rfl | exact susBox_clo _ rfl), trivial⟩ trivial)⟩
                rw [hd2]; exact hinv
              · have hk1 : ¬ (i + 1 = 1 ∧ 2 * nDrops l ≤ l.length) := by
                  intro h
                  simp only [Bool.and_eq_false_iff, decide_eq_false_iff_not, hml] at hc6
                  omega
                have hans : kAns m l (i + 1) = kLoop (decide (i + 1 ≠ 4)) (eShows (i + 1) m) (eTog (i + 1)) (nMany (i + 1)) l 0 := by rw [kAns, if_neg hk1]
                have hnm := nMany_pos (i + 1)
                refine awp_skip ?_
                refine awp_seq ?_
                refine awp_region ?_
                refine al_d rfl rfl rfl (by exact opd_move rfl rfl) ?_
                refine al_d rfl rfl rfl (by exact (by first | exact opd_len_sl rfl Tryz.underlying25 rfl | exact opd_len_osl rfl Tryz.underlying25 rfl rfl rfl)) ?_
                refine al_d rfl rfl rfl (by exact opd_move rfl rfl) ?_
                refine al_nil ?_
                refine awp_block ?_
                -- loop
                refine awp_loop (σ := Nat) (fun j => ([(1, .pv (slEdits l)), (4, .ref 4 0 0 0), (8, iv (nDrops l : Nat)), (43, .osl 812 0 0 4), (44, iv 4), (45, iv (i : Int)), (12, .ref 12 0 0 0), (59, .pv (slEdits l)), (60, iv ((l.map encEdit).length : Int)), (61, iv (j : Int))], (12, bx 4 80 (susRow (i + 1))) :: (sH m ++ [(4, ev0)])))
                  (fun j => j ≤ l.length ∧ kLoop (decide (i + 1 ≠ 4)) (eShows (i + 1) m) (eTog (i + 1)) (nMany (i + 1)) (l.drop j) j = kAns m l (i + 1)) (fun j => l.length - j) 0 ⟨by omega, by rw [hans]; rfl⟩ ?_ ?_
                · exact (Ent.wk ⟨⟨_, rfl, rfl⟩, (by first | (simp; done) | (simp; rfl) | exact clo_map _ _ _ | exact susRows_clo rfl | exact susBox_clo _ rfl), ⟨_, rfl, rfl⟩, (by first | (simp; done) | (simp; rfl) | exact clo_map _ _ _ | exact susRows_clo rfl | exact susBox_clo _ rfl), ⟨_, rfl, rfl⟩, (by first | (simp; done) | (simp; rfl) | exact clo_map _ _ _ | exact susRows_clo rfl | exact susBox_clo _ rfl), ⟨_, rfl, rfl⟩, (by first | (simp; done) | (simp; rfl) | exact clo_map _ _ _ | exact susRows_clo rfl | exact susBox_clo _ rfl), ⟨_, rfl, rfl⟩, (by first | (simp; done) | (simp; rfl) | exact clo_map _ _ _ | exact susRows_clo rfl | exact susBox_clo _ rfl), ⟨_, rfl, rfl⟩, (by first | (simp; done) | (simp; rfl) | exact clo_map _ _ _ | exact susRows_clo rfl | exact susBox_clo _ rfl), ⟨_, rfl, rfl⟩, (by first | (simp; done) | (simp; rfl) | exact clo_map _ _ _ | exact susRows_clo rfl | exact susBox_clo _ rfl), ⟨_, rfl, rfl⟩, (by first | (simp; done) | (simp; rfl) | exact clo_map _ _ _ | exact susRows_clo rfl | exact susBox_clo _ rfl), ⟨_, rfl, rfl⟩, (by first | (simp; done) | (simp; rfl) | exact clo_map _ _ _ | exact susRows_clo rfl | exact susBox_clo _ rfl), ⟨_, rfl, rfl⟩, (by first | (simp; done) | (simp; rfl) | exact clo_map _ _ _ | exact susRows_clo rfl | exact susBox_clo _ rfl), trivial⟩ ⟨⟨_, rfl, rfl⟩, (by first | (simp; done) | (simp; rfl) | exact clo_map _ _ _ | exact susRows_clo rfl | exact susBox_clo _ rfl), ⟨_, rfl, rfl⟩, (by first | (simp; done) | (simp; rfl) | exact clo_map _ _ _ | exact susRows_clo rfl | exact susBox_clo _ rfl), ⟨_, rfl, rfl⟩, (by first | (simp; done) | (simp; rfl) | exact clo_map _ _ _ | exact susRows_clo rfl | exact susBox_clo _ rfl), ⟨_, rfl, rfl⟩, (by first | (simp; done) | (simp; rfl) | exact clo_map _ _ _ | exact susRows_clo rfl | exact susBox_clo _ rfl), ⟨_, rfl, rfl⟩, (by first | (simp; done) | (simp; rfl) | exact clo_map _ _ _ | exact susRows_clo rfl | exact susBox_clo _ rfl), trivial⟩ trivial)
                · rintro j ⟨hj, hjv⟩
                  refine awp_seq ?_
                  refine awp_region ?_
                  refine al_d rfl rfl rfl (by exact opd_lss rfl rfl rfl) ?_
                  refine al_nil ?_
                  refine awp_seq ?_
                  refine awp_cond rfl (fun hc7 => ?_) (fun hc7 => ?_)
                  -- cond 7
                  · have hlt : j < l.length := by have := of_decide_eq_true hc7; omega
                    obtain ⟨x, hx⟩ := get_of_lt hlt
                    have hxi := map_get (f := encEdit) hx
                    have hxm := List.mem_of_getElem? hx
                    have hdr : l.drop j = x :: l.drop (j + 1) := drop_of_get hx
                    rw [hdr, kLoop] at hjv
                    have hsh := fun H hH => eshows_c (i + 1) m x H hm hH (by omega) (by omega)
                    refine awp_skip ?_
                    refine awp_seq ?_
                    refine awp_block ?_
                    refine awp_seq ?_
                    refine awp_region ?_
                    refine al_d rfl rfl rfl (by exact opd_move rfl rfl) ?_
                    refine al_d rfl rfl rfl (by exact (by first | exact x_index_pad rfl so25 rfl rfl (by omega) (by first | exact Int.toNat_natCast _ | rfl) (by assumption) rfl | exact x_index_osl rfl so25 rfl rfl rfl rfl rfl (by omega) (by first | exact Int.toNat_natCast _ | rfl) (by first | omega | assumption) rfl)) ?_
                    refine al_d rfl rfl rfl (by exact (by first | exact opd_loadn_ref rfl Tryz.isAgg44 Tryz.sizeOf44 rfl rfl rfl rfl (by simp only [List.drop_succ_cons, List.drop_zero, List.take_succ_cons, List.take_zero, List.take_nil, List.map_cons, List.map_nil, List.set_cons_zero, List.set_cons_succ, List.cons_append, List.nil_append, encTag, encObj, encStr, encEdit, encInt]; rfl) rfl | exact opd_loadn_pad rfl Tryz.isAgg44 Tryz.sizeOf44 rfl (by first | omega | assumption) (by simp only [List.drop_succ_cons, List.drop_zero, List.take_succ_cons, List.take_zero, List.take_nil, List.map_cons, List.map_nil, List.set_cons_zero, List.set_cons_succ, List.cons_append, List.nil_append, encTag, encObj, encStr, encEdit, encInt]; rfl) rfl)) ?_
                    refine al_d rfl rfl rfl (by exact x_alloc (id := 14) rfl zo44 rfl rfl) ?_
                    refine al_d rfl rfl rfl (by exact opd_assign rfl rfl) ?_
                    refine al_n rfl rfl (by exact (by first | exact x_store_all rfl Tryz.sizeOf44 rfl rfl rfl rfl rfl rfl rfl rfl | exact x_store rfl Tryz.sizeOf44 rfl rfl rfl rfl rfl rfl rfl (by simp only [List.length_cons, List.length_nil]; omega) (by simp only [List.drop_succ_cons, List.drop_zero, List.take_succ_cons, List.take_zero, List.take_nil, List.map_cons, List.map_nil, List.set_cons_zero, List.set_cons_succ, List.cons_append, List.nil_append, encTag, encObj, encStr, encEdit, encInt]; rfl) (by simp only [List.drop_succ_cons, List.drop_zero, List.take_succ_cons, List.take_zero, List.take_nil, List.map_cons, List.map_nil, List.set_cons_zero, List.set_cons_succ, List.cons_append, List.nil_append, encTag, encObj, encStr, encEdit, encInt]; rfl) | exact x_store rfl Tryz.sizeOf44 rfl rfl rfl rfl rfl rfl rfl (Nat.le_of_ble_eq_true rfl) rfl rfl)) ?_
                    refine al_nil ?_
                    refine awp_seq ?_
                    refine awp_seq ?_
                    refine awp_region ?_
                    refine al_d rfl rfl rfl (by exact (by first | exact opd_field_ref rfl fo80_2 rfl rfl rfl rfl | exact opd_field_pad rfl fo80_2 rfl rfl)) ?_
                    refine al_d rfl rfl rfl (by exact (by first | exact opd_load1_ref rfl Tryz.isAgg45 rfl rfl rfl rfl rfl | exact opd_load1_pad rfl Tryz.isAgg45 rfl (by first | omega | assumption) rfl)) ?_
                    refine al_d rfl rfl rfl (by exact (by first | exact opd_loadn_ref rfl Tryz.isAgg44 Tryz.sizeOf44 rfl rfl rfl rfl (by simp only [List.drop_succ_cons, List.drop_zero, List.take_succ_cons, List.take_zero, List.take_nil, List.map_cons, List.map_nil, List.set_cons_zero, List.set_cons_succ, List.cons_append, List.nil_append, encTag, encObj, encStr, encEdit, encInt]; rfl) rfl | exact opd_loadn_pad rfl Tryz.isAgg44 Tryz.sizeOf44 rfl (by first | omega | assumption) (by simp only [List.drop_succ_cons, List.drop_zero, List.take_succ_cons, List.take_zero, List.take_nil, List.map_cons, List.map_nil, List.set_cons_zero, List.set_cons_succ, List.cons_append, List.nil_append, encTag, encObj, encStr, encEdit, encInt]; rfl) rfl)) ?_
                    refine al_d rfl rfl rfl (by exact opr_callV rfl rfl rfl (hsh _ ⟨rfl, rfl, rfl, rfl, rfl, (Closed.ofL ⟨(by first | (simp; done) | (simp; rfl) | exact clo_map _ _ _ | exact susRows_clo rfl | exact susBox_clo _ rfl), (by first | (simp; done) | (simp; rfl) | exact clo_map _ _ _ | exact susRows_clo rfl | exact susBox_clo _ rfl), (by first | (simp; done) | (simp; rfl) | exact clo_map _ _ _ | exact susRows_clo rfl | exact susBox_clo _ rfl), (by first | (simp; done) | (simp; rfl) | exact clo_map _ _ _ | exact susRows_clo rfl | exact susBox_clo _ rfl), (by first | (simp; done) | (simp; rfl) | exact clo_map _ _ _ | exact susRows_clo rfl | exact susBox_clo _ rfl), (by first | (simp; done) | (simp; rfl) | exact clo_map _ _ _ | exact susRows_clo rfl | exact susBox_clo _ rfl), (by first | (simp; done) | (simp; rfl) | exact clo_map _ _ _ | exact susRows_clo rfl | exact susBox_clo _ rfl), trivial⟩)⟩)) ?_
                    refine al_d rfl rfl rfl (by exact opd_not rfl rfl) ?_
                    refine al_nil ?_
                    refine awp_cond rfl (fun hc8 => ?_) (fun hc8 => ?_)
                    -- cond 8
                    · have hs : eShows (i + 1) m x = false := by simpa using hc8
                      rw [hs, if_neg (by simp)] at hjv
                      refine awp_exit ?_
                      refine awp_region ?_
                      refine al_d rfl rfl rfl (by exact opd_add rfl rfl rfl (by first | exact w64 (by omega) (by omega) | exact wu8 (by omega) (by omega) | rfl)) ?_
                      refine al_d rfl rfl rfl (by exact opd_move rfl rfl) ?_
                      refine al_nil ?_
                      -- end of a round
                      exact ⟨j + 1, ⟨by omega, hjv⟩, by omega, (Ent.wk ⟨⟨_, rfl, rfl⟩, (by first | (simp; done) | (simp; rfl) | exact clo_map _ _ _ | exact susRows_clo rfl | exact susBox_clo _ rfl), ⟨_, rfl, rfl⟩, (by first | (simp; done) | (simp; rfl) | exact clo_map _ _ _ | exact susRows_clo rfl | exact susBox_clo _ rfl), ⟨_, rfl, rfl⟩, (by first | (simp; done) | (simp; rfl) | exact clo_map _ _ _ | exact susRows_clo rfl | exact susBox_clo _ rfl), ⟨_, rfl, rfl⟩, (by first | (simp; done) | (simp; rfl) | exact clo_map _ _ _ | exact susRows_clo rfl | exact susBox_clo _ rfl), ⟨_, rfl, rfl⟩, (by first | (simp; done) | (simp; rfl) | exact clo_map _ _ _ | exact susRows_clo rfl | exact susBox_clo _ rfl), ⟨_, rfl, rfl⟩, (by first | (simp; done) | (simp; rfl) | exact clo_map _ _ _ | exact susRows_clo rfl | exact susBox_clo _ rfl), ⟨_, rfl, rfl⟩, (by first | (simp; done) | (simp; rfl) | exact clo_map _ _ _ | exact susRows_clo rfl | exact susBox_clo _ rfl), ⟨_, rfl, rfl⟩, (by first | (simp; done) | (simp; rfl) | exact clo_map _ _ _ | exact susRows_clo rfl | exact susBox_clo _ rfl), ⟨_, rfl, rfl⟩, (by first | (simp; done) | (simp; rfl) | exact clo_map _ _ _ | exact susRows_clo rfl | exact susBox_clo _ rfl), ⟨_, rfl, rfl⟩, (by first | (simp; done) | (simp; rfl) | exact clo_map _ _ _ | exact susRows_clo rfl | exact susBox_clo _ rfl), trivial⟩ ⟨⟨_, rfl, rfl⟩, (by first | (simp; done) | (simp; rfl) | exact clo_map _ _ _ | exact susRows_clo rfl | exact susBox_clo _ rfl), ⟨_, rfl, rfl⟩, (by first | (simp; done) | (simp; rfl) | exact clo_map _ _ _ | exact susRows_clo rfl | exact susBox_clo _ rfl), ⟨_, rfl, rfl⟩, (by first | (simp; done) | (simp; rfl) | exact clo_map _ _ _ | exact susRows_clo rfl | exact susBox_clo _ rfl), ⟨_, rfl, rfl⟩, (by first | (simp; done) | (simp; rfl) | exact clo_map _ _ _ | exact susRows_clo rfl | exact susBox_clo _ rfl), ⟨_, rfl, rfl⟩, (by first | (simp; done) | (simp; rfl) | exact clo_map _ _ _ | exact susRows_clo rfl | exact susBox_clo _ rfl), trivial⟩ trivial)⟩
                    · have hs : eShows (i + 1) m x = true := by simpa using hc8
                      rw [hs, if_pos rfl, ← hdr] at hjv
                      have hnp : nMany (i + 1) ≤ 5 := hnm.2
                      have hpl : ((toI (gr (eShows (i + 1) m) (eTog (i + 1)) (l.drop j) j (nMany (i + 1)) [])).map encInt).length = (gr (eShows (i + 1) m) (eTog (i + 1)) (l.drop j) j (nMany (i + 1)) []).length := by simp
                      refine awp_skip ?_
                      refine awp_seq ?_
                      refine awp_region ?_
                      refine al_d rfl rfl rfl (by exact opd_move rfl rfl) ?_
                      refine al_d rfl rfl rfl (by exact opd_move rfl rfl) ?_
                      refine al_d rfl rfl rfl (by exact (by first | exact opd_field_ref rfl fo80_1 rfl rfl rfl rfl | exact opd_field_pad rfl fo80_1 rfl rfl)) ?_
                      refine al_d rfl rfl rfl (by exact (by first | exact opd_load1_ref rfl Tryz.isAgg3 rfl rfl rfl rfl rfl | exact opd_load1_pad rfl Tryz.isAgg3 rfl (by first | omega | assumption) rfl)) ?_
                      refine al_d rfl rfl rfl (by exact opd_makeFunc rfl rfl) ?_
                      refine al_d rfl rfl rfl (by exact opr_call rfl rfl Tryz.call56 rfl (first_c (eShows (i + 1) m) (eTog (i + 1)) (.clo 57 [.ref 12 0 0 0]) l j (nMany (i + 1)) _ hl hnp hj rfl rfl (Closed.ofL ⟨(by first | (simp; done) | (simp; rfl) | exact clo_map _ _ _ | exact susRows_clo rfl | exact susBox_clo _ rfl), (by first | (simp; done) | (simp; rfl) | exact clo_map _ _ _ | exact susRows_clo rfl | exact susBox_clo _ rfl), (by first | (simp; done) | (simp; rfl) | exact clo_map _ _ _ | exact susRows_clo rfl | exact susBox_clo _ rfl), (by first | (simp; done) | (simp; rfl) | exact clo_map _ _ _ | exact susRows_clo rfl | exact susBox_clo _ rfl), (by first | (simp; done) | (simp; rfl) | exact clo_map _ _ _ | exact susRows_clo rfl | exact susBox_clo _ rfl), (by first | (simp; done) | (simp; rfl) | exact clo_map _ _ _ | exact susRows_clo rfl | exact susBox_clo _ rfl), (by first | (simp; done) | (simp; rfl) | exact clo_map _ _ _ | exact susRows_clo rfl | exact susBox_clo _ rfl), trivial⟩) (.clo (by intro a ha; simp only [List.mem_cons, List.not_mem_nil, or_false] at ha; subst ha; exact .ref rfl)) (fun y hy tk g o9 htl htk ho9 => CallsV.clo Tryz.call57 (findC_c (i + 1) m y tk g _ hm ⟨rfl, rfl, rfl, rfl, rfl, Closed.cons (clo_map _ _ _) (Closed.cons (fun r hr a ha => by obtain ⟨q, rfl⟩ := ho9 r hr a ha; exact .pv q) (Closed.ofL ⟨(by first | (simp; done) | (simp; rfl) | exact clo_map _ _ _ | exact susRows_clo rfl | exact susBox_clo _ rfl), (by first | (simp; done) | (simp; rfl) | exact clo_map _ _ _ | exact susRows_clo rfl | exact susBox_clo _ rfl), (by first | (simp; done) | (simp; rfl) | exact clo_map _ _ _ | exact susRows_clo rfl | exact susBox_clo _ rfl), (by first | (simp; done) | (simp; rfl) | exact clo_map _ _ _ | exact susRows_clo rfl | exact susBox_clo _ rfl), (by first | (simp; done) | (simp; rfl) | exact clo_map _ _ _ | exact susRows_clo rfl | exact susBox_clo _ rfl), (by first | (simp; done) | (simp; rfl) | exact clo_map _ _ _ | exact susRows_clo rfl | exact susBox_clo _ rfl), (by first | (simp; done) | (simp; rfl) | exact clo_map _ _ _ | exact susRows_clo rfl | exact susBox_clo _ rfl), trivial⟩))⟩ rfl rfl rfl rfl (by omega) (fun z hz => het z (htk z hz)) (by omega) (by omega))))) ?_
                      refine al_d rfl rfl rfl (by exact opd_assign rfl rfl) ?_
                      refine al_nil ?_
                      refine awp_seq ?_
                      refine awp_seq ?_
                      refine awp_region ?_
                      refine al_d rfl rfl rfl (by exact opd_move rfl rfl) ?_
                      refine al_d rfl rfl rfl (by exact (by first | exact opd_len_sl rfl Tryz.underlying29 rfl | exact opd_len_osl rfl Tryz.underlying29 rfl rfl rfl)) ?_
                      refine al_d rfl rfl rfl (by exact (by first | exact opd_field_ref rfl fo80_1 rfl rfl rfl rfl | exact opd_field_pad rfl fo80_1 rfl rfl)) ?_
                      refine al_d rfl rfl rfl (by exact (by first | exact opd_load1_ref rfl Tryz.isAgg3 rfl rfl rfl rfl rfl | exact opd_load1_pad rfl Tryz.isAgg3 rfl (by first | omega | assumption) rfl)) ?_
                      refine al_d rfl rfl rfl (by exact opd_eql rfl rfl rfl) ?_
                      refine al_nil ?_
                      refine awp_cond rfl (fun hc9 => ?_) (fun hc9 => ?_)
                      -- cond 9
                      · have hpe : (gr (eShows (i + 1) m) (eTog (i + 1)) (l.drop j) j (nMany (i + 1)) []).length = nMany (i + 1) := by
                          have h := of_decide_eq_true hc9
                          rw [hpl] at h
                          omega
                        rw [if_pos hpe] at hjv
                        rw [← hjv] at hinv
                        have hinv : (i + 1, gr (eShows (i + 1) m) (eTog (i + 1)) (l.drop j) j (nMany (i + 1)) []) = gFind0 m l := hinv
                        rw [← hinv]
                        refine awp_seq ?_
                        refine awp_region ?_
                        refine al_d rfl rfl rfl (by exact (by first | exact opd_field_ref rfl fo80_0 rfl rfl rfl rfl | exact opd_field_pad rfl fo80_0 rfl rfl)) ?_
                        refine al_d rfl rfl rfl (by exact (by first | exact opd_load1_ref rfl Tryz.isAgg3 rfl rfl rfl rfl rfl | exact opd_load1_pad rfl Tryz.isAgg3 rfl (by first | omega | assumption) rfl)) ?_
                        refine al_d rfl rfl rfl (by exact opd_move rfl rfl) ?_
                        refine al_d rfl rfl rfl (by exact x_build rfl bo31 rfl rfl) ?_
                        refine al_n rfl rfl (by exact (by first | exact x_store_all rfl Tryz.sizeOf31 rfl rfl rfl rfl rfl rfl rfl rfl | exact x_store rfl Tryz.sizeOf31 rfl rfl rfl rfl rfl rfl rfl (by simp only [List.length_cons, List.length_nil]; omega) (by simp only [List.drop_succ_cons, List.drop_zero, List.take_succ_cons, List.take_zero, List.take_nil, List.map_cons, List.map_nil, List.set_cons_zero, List.set_cons_succ, List.cons_append, List.nil_append, encTag, encObj, encStr, encEdit, encInt]; rfl) (by simp only [List.drop_succ_cons, List.drop_zero, List.take_succ_cons, List.take_zero, List.take_nil, List.map_cons, List.map_nil, List.set_cons_zero, List.set_cons_succ, List.cons_append, List.nil_append, encTag, encObj, encStr, encEdit, encInt]; rfl) | exact x_store rfl Tryz.sizeOf31 rfl rfl rfl rfl rfl rfl rfl (Nat.le_of_ble_eq_true rfl) rfl rfl)) ?_
                        refine al_nil ?_
                        refine awp_ret ?_
                        -- return
                        refine aret1 (H' := []) (by first | exact .inr rfl | exact .inl rfl) rfl (rval_cell rfl Tryz.isAgg31 Tryz.sizeOf31 rfl rfl rfl rfl rfl) (Fin.wk (r := .agg [iv ((i + 1 : Nat) : Int), .pv (slInts (toI (gr (eShows (i + 1) m) (eTog (i + 1)) (l.drop j) j (nMany (i + 1)) [])))]) (by simp) trivial trivial) ?_
                        exact ⟨rfl, rfl⟩
                      · have hpe : ¬ (gr (eShows (i + 1) m) (eTog (i + 1)) (l.drop j) j (nMany (i + 1)) []).length = nMany (i + 1) := by
                          have h := of_decide_eq_false hc9
                          rw [hpl] at h
                          omega
                        rw [if_neg hpe] at hjv
                        refine awp_skip ?_
                        refine awp_seq ?_
                        refine awp_region ?_
                        refine al_d rfl rfl rfl (by exact (by first | exact opd_field_ref rfl fo80_0 rfl rfl rfl rfl | exact opd_field_pad rfl fo80_0 rfl rfl)) ?_
                        refine al_d rfl rfl rfl (by exact (by first | exact opd_load1_ref rfl Tryz.isAgg3 rfl rfl rfl rfl rfl | exact opd_load1_pad rfl Tryz.isAgg3 rfl (by first | omega | assumption) rfl)) ?_
                        refine al_d rfl rfl rfl (by exact opd_neq rfl rfl rfl) ?_
                        refine al_nil ?_
                        refine awp_cond rfl (fun hc10 => ?_) (fun hc10 => ?_)
                        -- cond 10
                        · have h4 : i + 1 ≠ 4 := by
                            have h : (!decide (((i + 1 : Nat) : Int) = 4)) = true := hc10
                            simp only [Bool.not_eq_true', decide_eq_false_iff_not] at h
                            omega
                          rw [if_pos (decide_eq_true h4)] at hjv
                          rw [← hjv] at hinv
                          have hinv : kFirst m l d (i + 1 + 1) = gFind0 m l := hinv
                          refine awp_exit ?_
                          refine awp_region ?_
                          refine al_d rfl rfl rfl (by exact opd_add rfl rfl rfl (by first | exact w64 (by omega) (by omega) | exact wu8 (by omega) (by omega) | rfl)) ?_
                          refine al_d rfl rfl rfl (by exact opd_move rfl rfl) ?_
                          refine al_nil ?_
                          -- end of a round
                          exact ⟨i + 1, ⟨by omega, by rw [hd2]; exact hinv⟩, by omega, (Ent.wk ⟨⟨_, rfl, rfl⟩, (by first | (simp; done) | (simp; rfl) | exact clo_map _ _ _ | exact susRows_clo rfl | exact susBox_clo _ rfl), ⟨_, rfl, rfl⟩, (by first | (simp; done) | (simp; rfl) | exact clo_map _ _ _ | exact susRows_clo rfl | exact susBox_clo _ rfl), ⟨_, rfl, rfl⟩, (by first | (simp; done) | (simp; rfl) | exact clo_map _ _ _ | exact susRows_clo rfl | exact susBox_clo _ rfl), ⟨_, rfl, rfl⟩, (by first | (simp; done) | (simp; rfl) | exact clo_map _ _ _ | exact susRows_clo rfl | exact susBox_clo _ rfl), ⟨_, rfl, rfl⟩, (by first | (simp; done) | (simp; rfl) | exact clo_map _ _ _ | exact susRows_clo rfl | exact susBox_clo _ rfl), ⟨_, rfl, rfl⟩, (by first | (simp; done) | (simp; rfl) | exact clo_map _ _ _ | exact susRows_clo rfl | exact susBox_clo _ rfl), trivial⟩ ⟨⟨_, rfl, rfl⟩, (by first | (simp; done) | (simp; rfl) | exact clo_map _ _ _ | exact susRows_clo rfl | exact susBox_clo _ rfl), ⟨_, rfl, rfl⟩, (by first | (simp; done) | (simp; rfl) | exact clo_map _ _ _ | exact susRows_clo rfl | exact susBox_clo _ rfl), ⟨_, rfl, rfl⟩, (by first | (simp; done) | (simp; rfl) | exact clo_map _ _ _ | exact susRows_clo rfl | exact susBox_clo _ rfl), ⟨_, rfl, rfl⟩, (by first | (simp; done) | (simp; rfl) | exact clo_map _ _ _ | exact susRows_clo rfl | exact susBox_clo _ rfl), trivial⟩ trivial)⟩
                        · have h4 : i + 1 = 4 := by
                            have h : (!decide (((i + 1 : Nat) : Int) = 4)) = false := hc10
                            simp only [Bool.not_eq_false', decide_eq_true_eq] at h
                            omega
                          rw [if_neg (by simp; omega)] at hjv
                          refine awp_skip ?_
                          refine awp_region ?_
                          refine al_d rfl rfl rfl (by exact opd_add rfl rfl rfl (by first | exact w64 (by omega) (by omega) | exact wu8 (by omega) (by omega) | rfl)) ?_
                          refine al_d rfl rfl rfl (by exact opd_move rfl rfl) ?_
                          refine al_nil ?_
                          -- end of a round
                          exact ⟨j + 1, ⟨by omega, hjv⟩, by omega, (Ent.wk ⟨⟨_, rfl, rfl⟩, (by first | (simp; done) | (simp; rfl) | exact clo_map _ _ _ | exact susRows_clo rfl | exact susBox_clo _ rfl), ⟨_, rfl, rfl⟩, (by first | (simp; done) | (simp; rfl) | exact clo_map _ _ _ | exact susRows_clo rfl | exact susBox_clo _ rfl), ⟨_, rfl, rfl⟩, (by first | (simp; done) | (simp; rfl) | exact clo_map _ _ _ | exact susRows_clo rfl | exact susBox_clo _ rfl), ⟨_, rfl, rfl⟩, (by first | (simp; done) | (simp; rfl) | exact clo_map _ _ _ | exact susRows_clo rfl | exact susBox_clo _ rfl), ⟨_, rfl, rfl⟩, (by first | (simp; done) | (simp; rfl) | exact clo_map _ _ _ | exact susRows_clo rfl | exact susBox_clo _ rfl), ⟨_, rfl, rfl⟩, (by first | (simp; done) | (simp; rfl) | exact clo_map _ _ _ | exact susRows_clo rfl | exact susBox_clo _ rfl), ⟨_, rfl, rfl⟩, (by first | (simp; done) | (simp; rfl) | exact clo_map _ _ _ | exact susRows_clo rfl | exact susBox_clo _ rfl), ⟨_, rfl, rfl⟩, (by first | (simp; done) | (simp; rfl) | exact clo_map _ _ _ | exact susRows_clo rfl | exact susBox_clo _ rfl), ⟨_, rfl, rfl⟩, (by first | (simp; done) | (simp; rfl) | exact clo_map _ _ _ | exact susRows_clo rfl | exact susBox_clo _ rfl), ⟨_, rfl, rfl⟩, (by first | (simp; done) | (simp; rfl) | exact clo_map _ _ _ | exact susRows_clo rfl | exact susBox_clo _ rfl), trivial⟩ ⟨⟨_, rfl, rfl⟩, (by first | (simp; done) | (simp; rfl) | exact clo_map _ _ _ | exact susRows_clo rfl | exact susBox_clo _ rfl), ⟨_, rfl, rfl⟩, (by first | (simp; done) | (simp; rfl) | exact clo_map _ _ _ | exact susRows_clo rfl | exact susBox_clo _ rfl), ⟨_, rfl, rfl⟩, (by first | (simp; done) | (simp; rfl) | exact clo_map _ _ _ | exact susRows_clo rfl | exact susBox_clo _ rfl), ⟨_, rfl, rfl⟩, (by first | (simp; done) | (simp; rfl) | exact clo_map _ _ _ | exact susRows_clo rfl | exact susBox_clo _ rfl), ⟨_, rfl, rfl⟩, (by first | (simp; done) | (simp; rfl) | exact clo_map _ _ _ | exact susRows_clo rfl | exact susBox_clo _ rfl), trivial⟩ trivial)⟩
                  · have hge : j = l.length := by have := of_decide_eq_false hc7; omega
                    rw [hge, List.drop_length, kLoop] at hjv
                    rw [← hjv] at hinv
                    have hinv : kFirst m l d (i + 1 + 1) = gFind0 m l := hinv
                    refine awp_exit ?_
                    refine awp_region ?_
                    refine al_d rfl rfl rfl (by exact opd_add rfl rfl rfl (by first | exact w64 (by omega) (by omega) | exact wu8 (by omega) (by omega) | rfl)) ?_
                    refine al_d rfl rfl rfl (by exact opd_move rfl rfl) ?_
                    refine al_nil ?_
                    -- end of a round
                    exact ⟨i + 1, ⟨by omega, by rw [hd2]; exact hinv⟩, by omega, (Ent.wk ⟨⟨_, rfl, rfl⟩, (by first | (simp; done) | (simp; rfl) | exact clo_map _ _ _ | exact susRows_clo rfl | exact susBox_clo _ rfl), ⟨_, rfl, rfl⟩, (by first | (simp; done) | (simp; rfl) | exact clo_map _ _ _ | exact susRows_clo rfl | exact susBox_clo _ rfl), ⟨_, rfl, rfl⟩, (by first | (simp; done) | (simp; rfl) | exact clo_map _ _ _ | exact susRows_clo rfl | exact susBox_clo _ rfl), ⟨_, rfl, rfl⟩, (by first | (simp; done) | (simp; rfl) | exact clo_map _ _ _ | exact susRows_clo rfl | exact susBox_clo _ rfl), ⟨_, rfl, rfl⟩, (by first | (simp; done) | (simp; rfl) | exact clo_map _ _ _ | exact susRows_clo rfl | exact susBox_clo _ rfl), ⟨_, rfl, rfl⟩, (by first | (simp; done) | (simp; rfl) | exact clo_map _ _ _ | exact susRows_clo rfl | exact susBox_clo _ rfl), trivial⟩ ⟨⟨_, rfl, rfl⟩, (by first | (simp; done) | (simp; rfl) | exact clo_map _ _ _ | exact susRows_clo rfl | exact susBox_clo _ rfl), ⟨_, rfl, rfl⟩, (by first | (simp; done) | (simp; rfl) | exact clo_map _ _ _ | exact susRows_clo rfl | exact susBox_clo _ rfl), ⟨_, rfl, rfl⟩, (by first | (simp; done) | (simp; rfl) | exact clo_map _ _ _ | exact susRows_clo rfl | exact susBox_clo _ rfl), ⟨_, rfl, rfl⟩, (by first | (simp; done) | (simp; rfl) | exact clo_map _ _ _ | exact susRows_clo rfl | exact susBox_clo _ rfl), trivial⟩ trivial)⟩
            · have hi : i = 4 := by have := of_decide_eq_false hc5; omega
              subst hi
              have hinv : (0, []) = gFind0 m l := hinv
              rw [← hinv]
              refine awp_exit ?_
              refine awp_seq ?_
              refine awp_region ?_
              refine al_d rfl rfl rfl (by exact x_build rfl bo31 rfl rfl) ?_
              refine al_n rfl rfl (by exact (by first | exact x_store_all rfl Tryz.sizeOf31 rfl rfl rfl rfl rfl rfl rfl rfl | exact x_store rfl Tryz.sizeOf31 rfl rfl rfl rfl rfl rfl rfl (by simp only [List.length_cons, List.length_nil]; omega) (by simp only [List.drop_succ_cons, List.drop_zero, List.take_succ_cons, List.take_zero, List.take_nil, List.map_cons, List.map_nil, List.set_cons_zero, List.set_cons_succ, List.cons_append, List.nil_append, encTag, encObj, encStr, encEdit, encInt]; rfl) (by simp only [List.drop_succ_cons, List.drop_zero, List.take_succ_cons, List.take_zero, List.take_nil, List.map_cons, List.map_nil, List.set_cons_zero, List.set_cons_succ, List.cons_append, List.nil_append, encTag, encObj, encStr, encEdit, encInt]; rfl) | exact x_store rfl Tryz.sizeOf31 rfl rfl rfl rfl rfl rfl rfl (Nat.le_of_ble_eq_true rfl) rfl rfl)) ?_
              refine al_nil ?_
              refine awp_ret ?_
              -- return
              refine aret1 (H' := []) (by first | exact .inr rfl | exact .inl rfl) rfl (rval_cell rfl Tryz.isAgg31 Tryz.sizeOf31 rfl rfl rfl rfl rfl) (Fin.wk (r := .agg [iv 0, lv []]) (by simp) trivial trivial) ?_
              exact ⟨rfl, rfl⟩
end Go.Proofs.YtdgoodjhndeojaaGreat
end
section
set_option linter.unusedVariables false
set_option linter.unusedSimpArgs false
namespace Go.Proofs.YtdgoodjhndeojaaGreat
open Go.Abs
theorem sput_len1 {l : List ByteArray} {s : ByteArray} (h : s ∈ l) : (sput l s).length = l.length := by
  unfold sput
  rw [if_pos (inB_iff.2 h)]
theorem sput_len2 {l : List ByteArray} {s : ByteArray} (h : ¬ s ∈ l) : (sput l s).length = l.length + 1 := by
  unfold sput
  have : inB l s = false := by
    cases e : inB l s with
    | false => rfl
    | true => exact absurd (inB_iff.1 e) h
  rw [this]
  simp
theorem sput_mem {l : List ByteArray} {s t : ByteArray} : t ∈ sput l s ↔ t ∈ l ∨ t = s := by
  unfold sput
  cases e : inB l s with
  | true =>
    rw [if_pos rfl]
    have := inB_iff.1 e
    constructor
    · exact .inl
    · rintro (h | rfl)
      · exact h
      · exact this
  | false => simp
theorem setsOf_len : ∀ (xs acc : List ByteArray), (xs.foldl sput acc).length ≤ acc.length + xs.length ∧ ((xs.foldl sput acc).length = acc.length + xs.length ↔ xs.Nodup ∧ ∀ x ∈ xs, x ∉ acc)
  | [], acc => by simp
  | x :: xs, acc => by
    obtain ⟨h1, h2⟩ := setsOf_len xs (sput acc x)
    rw [List.foldl_cons]
    by_cases hx : x ∈ acc
    · have hl := sput_len1 hx
      rw [hl] at h1 h2
      refine ⟨by simp only [List.length_cons]; omega, ⟨fun h => ?_, fun h => absurd hx (h.2 x (by simp))⟩⟩
      simp only [List.length_cons] at h
      omega
    · have hl := sput_len2 hx
      rw [hl] at h1 h2
      refine ⟨by simp only [List.length_cons]; omega, ?_⟩
      simp only [List.length_cons]
      rw [show acc.length + (xs.length + 1) = acc.length + 1 + xs.length by omega, h2, List.nodup_cons]
      constructor
      · rintro ⟨a, b⟩
        refine ⟨⟨fun hm => (b x hm) (sput_mem.2 (.inr rfl)), a⟩, fun y hy => ?_⟩
        rcases List.mem_cons.1 hy with rfl | hy
        · exact hx
        · exact fun h => b y hy (sput_mem.2 (.inl h))
      · rintro ⟨⟨a, b⟩, c⟩
        refine ⟨b, fun y hy h => ?_⟩
        rcases sput_mem.1 h with h | rfl
        · exact c y (by simp [hy]) h
        · exact a hy
theorem setsOf_nodup (xs : List ByteArray) : (xs.foldl sput []).length = xs.length ↔ xs.Nodup := by
  have := (setsOf_len xs []).2
  simpa using this
def zEdit : GEdit := ⟨0, sNil, sNil, sNil, 0, 0, sNil, sNil, [], zObj⟩
def eKey (k : Nat) (e : GEdit) : ByteArray := if k = 4 then e.obj.id else e.id
def edAt (l : List GEdit) (x : Int) : GEdit := (l[x.toNat]?).getD zEdit
def prevI (idx : List Int) : Nat → Int
  | 0 => -1
  | k + 1 => (idx[k]?).getD 0
def eSame (a b : GEdit) : Bool := (decide (a.obj.x = b.obj.x) && decide (a.obj.y = b.obj.y)) && tagsEq a.obj.tags b.obj.tags
/-- What is wrong with the index at a place. -/
def badH (m : List GObj) (l : List GEdit) (k : Nat) (idx : List Int) (i : Nat) : Bool := match idx[i]? with
  | none => false
  | some x => (decide (x < 0) || decide ((l.length : Int) ≤ x) || (decide ((0 : Int) < (i : Int)) && decide (x ≤ prevI idx i)) || !eShows k m (edAt l x)) || (decide (k = 4) && !eSame (edAt l x) (edAt l ((idx[0]?).getD 0)))
def gHolds (m : List GObj) (l : List GEdit) (kind : Int) (idx : List Int) : Bool :=
  (decide (1 ≤ kind) && decide (kind ≤ 4) && decide (idx.length = nMany kind.toNat) && !(decide (kind = 1) && decide ((nDrops l : Int) ≤ (l.length : Int) - (nDrops l : Int)))) &&
    (!((List.range idx.length).any (badH m l kind.toNat idx)) && decide ((((idx.map (fun x => eKey kind.toNat (edAt l x))).foldl sput []).length : Int) = (idx.length : Int)))
theorem edAt_nat {l : List GEdit} {p : Nat} {y : GEdit} (h : l[p]? = some y) : edAt l (p : Int) = y := by rw [edAt, Int.toNat_natCast, h]; rfl
theorem steps_up {idx : List Int} (h : ∀ (i : Nat) (x : Int), idx[i]? = some x → i = 0 ∨ prevI idx i < x) : idx.Pairwise (· < ·) := by
  have key : ∀ (d i : Nat) (a b : Int), idx[i]? = some a → idx[i + d + 1]? = some b → a < b := by
    intro d
    induction d with
    | zero =>
      intro i a b ha hb
      rcases h _ _ hb with h | h
      · omega
      · rw [Nat.add_zero, prevI, ha] at h; exact h
    | succ d ih =>
      intro i a b ha hb
      obtain ⟨c, hc⟩ := get_of_lt (l := idx) (k := i + d + 1) (by have := (List.getElem?_eq_some_iff.1 hb).1; omega)
      have h1 := ih i a c ha hc
      rcases h _ _ hb with h | h
      · omega
      · rw [show i + (d + 1) = i + d + 1 from rfl, prevI, hc] at h
        exact Int.lt_trans h1 h
  rw [List.pairwise_iff_getElem]
  intro i j hi hj hij
  exact key (j - i - 1) i _ _ (List.getElem?_eq_getElem hi) (by rw [show i + (j - i - 1) + 1 = j by omega]; exact List.getElem?_eq_getElem hj)
theorem badH_iff {m : List GObj} {l : List GEdit} {k : Nat} {idx : List Int} {i : Nat} {x : Int} (hi : idx[i]? = some x) : badH m l k idx i = false ↔ ((0 ≤ x ∧ x < l.length) ∧ (i = 0 ∨ prevI idx i < x) ∧ eShows k m (edAt l x) = true) ∧ (k = 4 → eSame (edAt l x) (edAt l ((idx[0]?).getD 0)) = true) := by
  simp only [badH, hi, Bool.or_eq_false_iff, Bool.and_eq_false_iff, decide_eq_false_iff_not, Bool.not_eq_false', Int.not_lt, Int.not_le]
  constructor
  · rintro ⟨⟨⟨⟨a, b⟩, c⟩, d⟩, e⟩
    refine ⟨⟨⟨a, b⟩, ?_, d⟩, fun h => ?_⟩
    · rcases c with c | c
      · left; omega
      · exact .inr c
    · rcases e with e | e
      · exact absurd h e
      · exact e
  · rintro ⟨⟨⟨a, b⟩, c, d⟩, e⟩
    refine ⟨⟨⟨⟨a, b⟩, ?_⟩, d⟩, ?_⟩
    · rcases c with c | c
      · left; omega
      · exact .inr c
    · by_cases h : k = 4
      · exact .inr (e h)
      · exact .inl h
theorem eSame_iff {a b : GEdit} : eSame a b = true ↔ (a.obj.x = b.obj.x ∧ a.obj.y = b.obj.y) ∧ a.obj.tags = b.obj.tags := by
  simp only [eSame, Bool.and_eq_true, decide_eq_true_eq, tagsEq_iff]
theorem eTog_iff {k : Nat} {a b : GEdit} (h1 : 1 ≤ k) (h4 : k ≤ 4) : eTog k a b = true ↔ eKey k a ≠ eKey k b ∧ (k = 4 → eSame a b = true) := by
  by_cases h : k = 4
  · subst h
    simp only [eTog, eAlike, eKey, if_true, eSame, Bool.and_eq_true, Bool.not_eq_true', decide_eq_false_iff_not, decide_eq_true_eq, ne_eq, true_implies]
    constructor
    · rintro ⟨⟨a, b⟩, c⟩; exact ⟨a, b, c⟩
    · rintro ⟨a, b, c⟩; exact ⟨⟨a, b⟩, c⟩
  · have : eTog k a b = eApart a b := by
      match k, h1, h4, h with
      | 1, _, _, _ => rfl
      | 2, _, _, _ => rfl
      | 3, _, _, _ => rfl
      | 4, _, _, h => exact absurd rfl h
      | n + 5, _, h, _ => exact absurd h (by omega)
    rw [this, eApart, eKey, eKey, if_neg h, if_neg h]
    simp [h]
theorem toI_back {idx : List Int} (h : ∀ x ∈ idx, 0 ≤ x) : toI (idx.map Int.toNat) = idx := by
  rw [toI, List.map_map]
  conv => rhs; rw [← List.map_id idx]
  apply List.map_congr_left
  intro x hx
  show ((x.toNat : Nat) : Int) = id x
  rw [Int.toNat_of_nonneg (h x hx)]; rfl
theorem holds_ev {m : List GObj} {l : List GEdit} {kind : Int} {idx : List Int} (h : gHolds m l kind idx = true) : Ev m l kind.toNat (idx.map Int.toNat) ∧ toI (idx.map Int.toNat) = idx ∧ ((kind.toNat : Nat) : Int) = kind := by
  simp only [gHolds, Bool.and_eq_true, decide_eq_true_eq, Bool.not_eq_true', Bool.and_eq_false_iff, decide_eq_false_iff_not] at h
  obtain ⟨⟨⟨⟨h1, h4⟩, hlen⟩, hdr⟩, hbad, hids⟩ := h
  obtain ⟨k, rfl⟩ : ∃ k : Nat, kind = (k : Int) := ⟨kind.toNat, by omega⟩
  rw [Int.toNat_natCast] at *
  have hb : ∀ (i : Nat) (x : Int), idx[i]? = some x → ((0 ≤ x ∧ x < l.length) ∧ (i = 0 ∨ prevI idx i < x) ∧ eShows k m (edAt l x) = true) ∧ (k = 4 → eSame (edAt l x) (edAt l ((idx[0]?).getD 0)) = true) := fun i x hi => by
    rw [List.any_eq_false] at hbad
    have := hbad i (List.mem_range.2 (List.getElem?_eq_some_iff.1 hi).1)
    exact (badH_iff hi).1 (by simpa using this)
  have hmem : ∀ x ∈ idx, ((0 ≤ x ∧ x < l.length) ∧ eShows k m (edAt l x) = true) ∧ (k = 4 → eSame (edAt l x) (edAt l ((idx[0]?).getD 0)) = true) := fun x hx => by
    obtain ⟨i, hi⟩ := List.mem_iff_getElem?.1 hx
    obtain ⟨⟨a, b, c⟩, d⟩ := hb i x hi
    exact ⟨⟨a, c⟩, d⟩
  have hup := steps_up (idx := idx) (fun i x hi => (hb i x hi).1.2.1)
  have hnd := (setsOf_nodup (idx.map (fun x => eKey k (edAt l x)))).1 (by rw [List.length_map]; omega)
  have hback := toI_back (idx := idx) (fun x hx => (hmem x hx).1.1.1)
  refine ⟨⟨by omega, by omega, ⟨by rw [List.length_map]; exact hlen, ?_, ?_, ?_⟩, fun e => ?_⟩, hback, rfl⟩
  · rw [List.pairwise_map]
    exact hup.imp_of_mem (fun {a b} ha hb' h => by have := (hmem a ha).1.1; have := (hmem b hb').1.1; omega)
  · intro p hp
    obtain ⟨x, hx, rfl⟩ := List.mem_map.1 hp
    obtain ⟨⟨⟨a, b⟩, c⟩, _⟩ := hmem x hx
    obtain ⟨y, hy⟩ := get_of_lt (l := l) (k := x.toNat) (by omega)
    refine ⟨y, hy, ?_⟩
    rw [edAt, hy] at c
    exact c
  · rw [List.pairwise_map]
    rw [List.Nodup, List.pairwise_map] at hnd
    refine hnd.imp_of_mem (fun {a b} ha hb' hne y z hy hz => ?_)
    rw [eTog_iff (by omega) (by omega)]
    have ea : edAt l a = y := by rw [edAt, hy]; rfl
    have eb : edAt l b = z := by rw [edAt, hz]; rfl
    rw [ea, eb] at hne
    refine ⟨hne, fun e4 => ?_⟩
    have s1 := (hmem a ha).2 e4
    have s2 := (hmem b hb').2 e4
    rw [ea, eSame_iff] at s1
    rw [eb, eSame_iff] at s2
    rw [eSame_iff, s1.1.1, s1.1.2, s1.2, s2.1.1, s2.1.2, s2.2]
    exact ⟨⟨rfl, rfl⟩, rfl⟩
  · subst e
    rcases hdr with h | h
    · exact absurd rfl h
    · omega
end Go.Proofs.YtdgoodjhndeojaaGreat
end
section
set_option linter.unusedVariables false
set_option linter.unusedSimpArgs false
set_option maxRecDepth 100000
namespace Go.Proofs.YtdgoodjhndeojaaGreat
open Go.Abs
def gFew31 (m : List GObj) (l : List GEdit) : Bool := few13 m 24 && few22 l 20
theorem few31_c (m : List GObj) (l : List GEdit) (H : Heap) (hm : m.length < 4611686018427387904) (ho : ∀ o, o ∈ m → okObj o) (hl : l.length < 4611686018427387904) (he : ∀ e, e ∈ l → okEdit e) :
    ACalls Tryz.prog 17 [.agg [.pv (slObjs m)], .pv (slEdits l)] H (fun r H' => r = bv (gFew31 m l) ∧ H' = H) := by
  refine ACalls.pure ?_ (by simp) H
  refine ACalls.body Tryz.func17 rfl Tryz.ntmps17 (Nat.le_of_ble_eq_true rfl) ?_
  refine awp_seq ?_
  refine awp_region ?_
  refine al_d rfl rfl rfl (by exact opd_box (id := 2) rfl rfl rfl rfl rfl) ?_
  refine al_d rfl rfl rfl (by exact opd_assign rfl rfl) ?_
  refine al_nil ?_
  refine awp_seq ?_
  refine awp_bool (t := 4) (n := 8) (X := gFew31 m l) ?_ ?_
  · all_goals (refine al_d rfl rfl rfl (by exact (by first | exact opd_loadn_ref rfl Tryz.isAgg24 Tryz.sizeOf24 rfl rfl rfl rfl (by simp only [List.drop_succ_cons, List.drop_zero, List.take_succ_cons, List.take_zero, List.take_nil, List.map_cons, List.map_nil, List.set_cons_zero, List.set_cons_succ, List.cons_append, List.nil_append, encTag, encObj, encStr, encEdit, encInt]; rfl) rfl | exact opd_loadn_pad rfl Tryz.isAgg24 Tryz.sizeOf24 rfl (by first | omega | assumption) (by simp only [List.drop_succ_cons, List.drop_zero, List.take_succ_cons, List.take_zero, List.take_nil, List.map_cons, List.map_nil, List.set_cons_zero, List.set_cons_succ, List.cons_append, List.nil_append, encTag, encObj, encStr, encEdit, encInt]; rfl) rfl)) ?_)
    all_goals (refine al_d rfl rfl rfl (by exact opr_call rfl rfl Tryz.call53 rfl (few13_c m 24 _ hm ho)) ?_)
    all_goals (refine al_d rfl rfl rfl (by exact opd_move rfl rfl) ?_)
    all_goals (first | refine al_split (t := 7) rfl (fun h7 => ?_) (fun h7 => ?_) | refine al_dup (t := 7) rfl ?_ | skip)
    all_goals (try contradiction)
    all_goals (first | refine al_off rfl rfl rfl rfl rfl ?_ | refine al_offu rfl rfl rfl rfl ?_ | refine al_ond rfl rfl rfl rfl rfl rfl (by exact opd_move rfl rfl) ?_)
    all_goals (first | refine al_off rfl rfl rfl rfl rfl ?_ | refine al_offu rfl rfl rfl rfl ?_ | refine al_ond rfl rfl rfl rfl rfl rfl (by exact opr_call rfl rfl Tryz.call54 rfl (few22_c l 20 _ hl he)) ?_)
    all_goals (refine al_d rfl rfl rfl (by exact (by first | exact opd_pick_t rfl rfl rfl | exact opd_pick_f rfl rfl rfl | exact opd_pickt rfl rfl (by assumption) rfl | exact opd_pickf rfl rfl (by assumption) rfl | exact opd_pick rfl rfl rfl)) ?_)
    all_goals (refine al_d rfl rfl rfl (by exact opd_assign rfl rfl) ?_)
    all_goals (refine al_nil ?_)
    all_goals (exact ⟨⟨_, rfl, by first | rfl | (simp only [gFew31, *]; rfl) | (simp_all [gFew31]; done)⟩, rfl, rfl, rfl⟩)
  refine awp_ret ?_
  -- return
  refine aret1 (H' := []) (by first | exact .inr rfl | exact .inl rfl) rfl (rval_tmp rfl) (Fin.wk (by simp) trivial trivial) ?_
  exact ⟨rfl, rfl⟩
theorem same31_c (k1 k2 : Int) (a b : List Int) (H : Heap) (ha : a.length < 4611686018427387904) :
    ACalls Tryz.prog 18 [.agg [iv k1, .pv (slInts a)], .agg [iv k2, .pv (slInts b)]] H (fun r H' => r = bv (decide (k1 = k2) && decide (a = b)) ∧ H' = H) := by
  refine ACalls.pure ?_ (by simp) H
  have hma : (a.map encInt).length = a.length := List.length_map _
  have hmb : (b.map encInt).length = b.length := List.length_map _
  refine ACalls.body Tryz.func18 rfl Tryz.ntmps18 (Nat.le_of_ble_eq_true rfl) ?_
  refine awp_seq ?_
  refine awp_region ?_
  refine al_d rfl rfl rfl (by exact opd_box (id := 2) rfl rfl rfl rfl rfl) ?_
  refine al_d rfl rfl rfl (by exact opd_box (id := 3) rfl rfl rfl rfl rfl) ?_
  refine al_d rfl rfl rfl (by exact opd_assign rfl rfl) ?_
  refine al_nil ?_
  refine awp_seq ?_
  refine awp_seq ?_
  refine awp_bool (t := 19) (n := 15) (X := !decide (k1 = k2) || !decide (((a.map encInt).length : Int) = ((b.map encInt).length : Int))) ?_ ?_
  · all_goals (refine al_d rfl rfl rfl (by exact (by first | exact opd_field_ref rfl fo31_0 rfl rfl rfl rfl | exact opd_field_pad rfl fo31_0 rfl rfl)) ?_)
    all_goals (refine al_d rfl rfl rfl (by exact (by first | exact opd_load1_ref rfl Tryz.isAgg3 rfl rfl rfl rfl rfl | exact opd_load1_pad rfl Tryz.isAgg3 rfl (by first | omega | assumption) rfl)) ?_)
    all_goals (refine al_d rfl rfl rfl (by exact (by first | exact opd_field_ref rfl fo31_0 rfl rfl rfl rfl | exact opd_field_pad rfl fo31_0 rfl rfl)) ?_)
    all_goals (refine al_d rfl rfl rfl (by exact (by first | exact opd_load1_ref rfl Tryz.isAgg3 rfl rfl rfl rfl rfl | exact opd_load1_pad rfl Tryz.isAgg3 rfl (by first | omega | assumption) rfl)) ?_)
    all_goals (refine al_d rfl rfl rfl (by exact opd_neq rfl rfl rfl) ?_)
    all_goals (refine al_d rfl rfl rfl (by exact opd_move rfl rfl) ?_)
    all_goals (first | refine al_split (t := 11) rfl (fun h11 => ?_) (fun h11 => ?_) | refine al_dup (t := 11) rfl ?_ | skip)
    all_goals (try contradiction)
    all_goals (first | refine al_off rfl rfl rfl rfl rfl ?_ | refine al_offu rfl rfl rfl rfl ?_ | refine al_ond rfl rfl rfl rfl rfl rfl (by exact (by first | exact opd_field_ref rfl fo31_1 rfl rfl rfl rfl | exact opd_field_pad rfl fo31_1 rfl rfl)) ?_)
    all_goals (first | refine al_off rfl rfl rfl rfl rfl ?_ | refine al_offu rfl rfl rfl rfl ?_ | refine al_ond rfl rfl rfl rfl rfl rfl (by exact (by first | exact opd_load1_ref rfl Tryz.isAgg29 rfl rfl rfl rfl rfl | exact opd_load1_pad rfl Tryz.isAgg29 rfl (by first | omega | assumption) rfl)) ?_)
    all_goals (first | refine al_off rfl rfl rfl rfl rfl ?_ | refine al_offu rfl rfl rfl rfl ?_ | refine al_ond rfl rfl rfl rfl rfl rfl (by exact (by first | exact opd_len_sl rfl Tryz.underlying29 rfl | exact opd_len_osl rfl Tryz.underlying29 rfl rfl rfl)) ?_)
    all_goals (first | refine al_off rfl rfl rfl rfl rfl ?_ | refine al_offu rfl rfl rfl rfl ?_ | refine al_ond rfl rfl rfl rfl rfl rfl (by exact (by first | exact opd_field_ref rfl fo31_1 rfl rfl rfl rfl | exact opd_field_pad rfl fo31_1 rfl rfl)) ?_)
    all_goals (first | refine al_off rfl rfl rfl rfl rfl ?_ | refine al_offu rfl rfl rfl rfl ?_ | refine al_ond rfl rfl rfl rfl rfl rfl (by exact (by first | exact opd_load1_ref rfl Tryz.isAgg29 rfl rfl rfl rfl rfl | exact opd_load1_pad rfl Tryz.isAgg29 rfl (by first | omega | assumption) rfl)) ?_)
    all_goals (first | refine al_off rfl rfl rfl rfl rfl ?_ | refine al_offu rfl rfl rfl rfl ?_ | refine al_ond rfl rfl rfl rfl rfl rfl (by exact (by first | exact opd_len_sl rfl Tryz.underlying29 rfl | exact opd_len_osl rfl Tryz.underlying29 rfl rfl rfl)) ?_)
    all_goals (first | refine al_off rfl rfl rfl rfl rfl ?_ | refine al_offu rfl rfl rfl rfl ?_ | refine al_ond rfl rfl rfl rfl rfl rfl (by exact opd_neq rfl rfl rfl) ?_)
    all_goals (refine al_d rfl rfl rfl (by exact (by first | exact opd_pick_t rfl rfl rfl | exact opd_pick_f rfl rfl rfl | exact opd_pickt rfl rfl (by assumption) rfl | exact opd_pickf rfl rfl (by assumption) rfl | exact opd_pick rfl rfl rfl)) ?_)
    all_goals (refine al_nil ?_)
    all_goals (exact ⟨⟨_, rfl, by first | rfl | (simp only [*, Bool.false_and, Bool.true_and, Bool.and_false, Bool.and_true, Bool.true_or, Bool.false_or, Bool.or_true, Bool.or_false, Bool.not_true, Bool.not_false]; done) | (simp_all; done) | (simp_all; omega)⟩, rfl, rfl, rfl⟩)
  refine awp_cond rfl (fun hc1 => ?_) (fun hc1 => ?_)
  -- cond 1
  · have hne : (decide (k1 = k2) && decide (a = b)) = false := by
      rw [Bool.and_eq_false_iff, decide_eq_false_iff_not, decide_eq_false_iff_not]
      by_cases h1 : k1 = k2
      · right
        rintro rfl
        simp [h1] at hc1
      · exact .inl h1
    refine awp_seq ?_
    refine awp_region ?_
    refine al_d rfl rfl rfl (by exact opd_assign rfl rfl) ?_
    refine al_nil ?_
    refine awp_ret ?_
    -- return
    refine aret1 (H' := []) (by first | exact .inr rfl | exact .inl rfl) rfl (rval_tmp rfl) (Fin.wk (by simp) trivial trivial) ?_
    exact ⟨by rw [hne], rfl⟩
  · have h1 : k1 = k2 := by
      simp only [Bool.or_eq_false_iff, Bool.not_eq_false', decide_eq_true_eq] at hc1
      exact hc1.1
    have heq : a.length = b.length := by
      simp only [Bool.or_eq_false_iff, Bool.not_eq_false', decide_eq_true_eq, hma, hmb] at hc1
      have := hc1.2
      omega
    refine awp_skip ?_
    refine awp_seq ?_
    refine awp_seq ?_
    refine awp_region ?_
    refine al_d rfl rfl rfl (by exact opd_assign rfl rfl) ?_
    refine al_nil ?_
    refine awp_block ?_
    -- loop
    refine awp_loop (σ := Nat) (fun k => ([(2, .ref 2 0 0 0), (3, .ref 3 0 0 0), (5, iv (k : Int))], [(3, bx 2 31 [iv k2, .pv (slInts b)]), (2, bx 2 31 [iv k1, .pv (slInts a)])])) (fun k => k ≤ a.length ∧ a.take k = b.take k) (fun k => a.length - k) 0 ⟨by omega, by simp⟩ ?_ ?_
    · exact (Ent.wk ⟨⟨_, rfl, rfl⟩, (by first | (simp; done) | (simp; rfl) | exact clo_map _ _ _), ⟨_, rfl, rfl⟩, (by first | (simp; done) | (simp; rfl) | exact clo_map _ _ _), ⟨_, rfl, rfl⟩, (by first | (simp; done) | (simp; rfl) | exact clo_map _ _ _), trivial⟩ ⟨⟨_, rfl, rfl⟩, (by first | (simp; done) | (simp; rfl) | exact clo_map _ _ _), ⟨_, rfl, rfl⟩, (by first | (simp; done) | (simp; rfl) | exact clo_map _ _ _), trivial⟩ trivial)
    · rintro k ⟨hk, hall⟩
      refine awp_seq ?_
      refine awp_seq ?_
      refine awp_region ?_
      refine al_d rfl rfl rfl (by exact opd_move rfl rfl) ?_
      refine al_d rfl rfl rfl (by exact (by first | exact opd_field_ref rfl fo31_1 rfl rfl rfl rfl | exact opd_field_pad rfl fo31_1 rfl rfl)) ?_
      refine al_d rfl rfl rfl (by exact (by first | exact opd_load1_ref rfl Tryz.isAgg29 rfl rfl rfl rfl rfl | exact opd_load1_pad rfl Tryz.isAgg29 rfl (by first | omega | assumption) rfl)) ?_
      refine al_d rfl rfl rfl (by exact (by first | exact opd_len_sl rfl Tryz.underlying29 rfl | exact opd_len_osl rfl Tryz.underlying29 rfl rfl rfl)) ?_
      refine al_d rfl rfl rfl (by exact opd_lss rfl rfl rfl) ?_
      refine al_nil ?_
      refine awp_cond rfl (fun hc2 => ?_) (fun hc2 => ?_)
      -- cond 2
      · have hlt : k < a.length := by have := of_decide_eq_true hc2; omega
        obtain ⟨x, hx⟩ := get_of_lt hlt
        obtain ⟨y, hy⟩ := get_of_lt (l := b) (k := k) (by omega)
        have hi := map_get (f := encInt) hx
        have hi2 := map_get (f := encInt) hy
        refine awp_skip ?_
        refine awp_seq ?_
        refine awp_block ?_
        refine awp_seq ?_
        refine awp_drawc follows ?_
        refine dc_cons (DStep.q rfl (by exact (by first | exact opd_field_ref rfl fo31_1 rfl rfl rfl rfl | exact opd_field_pad rfl fo31_1 rfl rfl))) rfl ?_
        refine dc_cons (DStep.q rfl (by exact (by first | exact opd_load1_ref rfl Tryz.isAgg29 rfl rfl rfl rfl rfl | exact opd_load1_pad rfl Tryz.isAgg29 rfl (by first | omega | assumption) rfl))) rfl ?_
        refine dc_cons (DStep.q rfl (by exact opd_move rfl rfl)) rfl ?_
        refine dc_cons (DStep.q rfl (by exact (by first | exact x_index_pad rfl so29 rfl rfl (by omega) (by first | exact Int.toNat_natCast _ | rfl) (by assumption) rfl | exact x_index_osl rfl so29 rfl rfl rfl rfl rfl (by omega) (by first | exact Int.toNat_natCast _ | rfl) (by first | omega | assumption) rfl))) rfl ?_
        refine dc_cons (DStep.q rfl (by exact (by first | exact opd_load1_ref rfl Tryz.isAgg3 rfl rfl rfl rfl rfl | exact opd_load1_pad rfl Tryz.isAgg3 rfl (by first | omega | assumption) rfl))) rfl ?_
        refine dc_cons (DStep.q rfl (by exact (by first | exact opd_field_ref rfl fo31_1 rfl rfl rfl rfl | exact opd_field_pad rfl fo31_1 rfl rfl))) rfl ?_
        refine dc_cons (DStep.q rfl (by exact (by first | exact opd_load1_ref rfl Tryz.isAgg29 rfl rfl rfl rfl rfl | exact opd_load1_pad rfl Tryz.isAgg29 rfl (by first | omega | assumption) rfl))) rfl ?_
        refine dc_cons (DStep.q rfl (by exact opd_move rfl rfl)) rfl ?_
        refine dc_cons (DStep.q rfl (by exact (by first | exact x_index_pad rfl so29 rfl rfl (by omega) (by first | exact Int.toNat_natCast _ | rfl) (by assumption) rfl | exact x_index_osl rfl so29 rfl rfl rfl rfl rfl (by omega) (by first | exact Int.toNat_natCast _ | rfl) (by first | omega | assumption) rfl))) rfl ?_
        refine dc_cons (DStep.q rfl (by exact (by first | exact opd_load1_ref rfl Tryz.isAgg3 rfl rfl rfl rfl rfl | exact opd_load1_pad rfl Tryz.isAgg3 rfl (by first | omega | assumption) rfl))) rfl ?_
        refine dc_cons (DStep.q rfl (by exact opd_neq rfl rfl rfl)) rfl ?_
        refine dc_nil ⟨by kernel_rfl, ?_⟩
        refine awp_cond rfl (fun hc3 => ?_) (fun hc3 => ?_)
        -- cond 3
        · have ht : ¬ x = y := by
            have h : (!decide (x = y)) = true := hc3
            simpa using h
          have hne : ¬ a = b := by
            intro e
            subst e
            rw [hx] at hy
            exact ht (Option.some.inj hy)
          refine awp_seq ?_
          refine awp_region ?_
          refine al_d rfl rfl rfl (by exact opd_assign rfl rfl) ?_
          refine al_nil ?_
          refine awp_ret ?_
          -- return
          refine aret1 (H' := []) (by first | exact .inr rfl | exact .inl rfl) rfl (rval_tmp rfl) (Fin.wk (by simp) trivial trivial) ?_
          exact ⟨by rw [decide_eq_false hne, Bool.and_false], rfl⟩
        · have ht : x = y := by
            have h : (!decide (x = y)) = false := hc3
            simpa using h
          refine awp_skip ?_
          refine awp_region ?_
          refine al_d rfl rfl rfl (by exact opd_move rfl rfl) ?_
          refine al_d rfl rfl rfl (by exact opd_add rfl rfl rfl (by first | exact w64 (by omega) (by omega) | exact wu8 (by omega) (by omega) | rfl)) ?_
          refine al_d rfl rfl rfl (by exact opd_assign rfl rfl) ?_
          refine al_nil ?_
          -- end of a round
          refine ⟨k + 1, ⟨by omega, ?_⟩, by omega, (Ent.wk ⟨⟨_, rfl, rfl⟩, (by first | (simp; done) | (simp; rfl) | exact clo_map _ _ _), ⟨_, rfl, rfl⟩, (by first | (simp; done) | (simp; rfl) | exact clo_map _ _ _), ⟨_, rfl, rfl⟩, (by first | (simp; done) | (simp; rfl) | exact clo_map _ _ _), trivial⟩ ⟨⟨_, rfl, rfl⟩, (by first | (simp; done) | (simp; rfl) | exact clo_map _ _ _), ⟨_, rfl, rfl⟩, (by first | (simp; done) | (simp; rfl) | exact clo_map _ _ _), trivial⟩ trivial)⟩
          rw [List.take_add_one, List.take_add_one, hx, hy, hall, ht]
      · have hge : k = a.length := by have := of_decide_eq_false hc2; omega
        have he : a = b := by
          have h := hall
          rw [hge, List.take_length, heq, List.take_length] at h
          exact h
        refine awp_exit ?_
        refine awp_seq ?_
        refine awp_region ?_
        refine al_d rfl rfl rfl (by exact opd_assign rfl rfl) ?_
        refine al_nil ?_
        refine awp_ret ?_
        -- return
        refine aret1 (H' := []) (by first | exact .inr rfl | exact .inl rfl) rfl (rval_tmp rfl) (Fin.wk (by simp) trivial trivial) ?_
        exact ⟨by rw [decide_eq_true he, decide_eq_true h1]; rfl, rfl⟩
theorem nDrops_le (l : List GEdit) : nDrops l ≤ l.length := List.countP_le_length
theorem nDrops_take {l : List GEdit} {k : Nat} {e : GEdit} (h : l[k]? = some e) : nDrops (l.take (k + 1)) = nDrops (l.take k) + (if e.op = 5 then 1 else 0) := by
  rw [nDrops, nDrops, List.take_add_one, h, List.countP_append]
  by_cases h5 : e.op = 5 <;> simp [isDrop, h5]
theorem count_c (l : List GEdit) (H : Heap) (hl : l.length < 4611686018427387904) : ACalls Tryz.prog 65 [.pv (slEdits l)] H (fun r H' => r = iv (nDrops l : Int) ∧ H' = H) := by
  refine ACalls.pure ?_ (by simp) H
  have hml : (l.map encEdit).length = l.length := List.length_map _
  refine ACalls.body Tryz.func65 rfl Tryz.ntmps65 (Nat.le_of_ble_eq_true rfl) ?_
  refine awp_seq ?_
  refine awp_region ?_
  refine al_d rfl rfl rfl (by exact opd_assign rfl rfl) ?_
  refine al_nil ?_
  refine awp_seq ?_
  refine awp_region ?_
  refine al_d rfl rfl rfl (by exact opd_assign rfl rfl) ?_
  refine al_nil ?_
  refine awp_seq ?_
  refine awp_seq ?_
  refine awp_region ?_
  refine al_d rfl rfl rfl (by exact opd_assign rfl rfl) ?_
  refine al_nil ?_
  refine awp_block ?_
  -- loop
  refine awp_loop (σ := Nat) (fun k => ([(0, .pv (slEdits l)), (3, iv (nDrops (l.take k) : Int)), (4, iv (k : Int))], [])) (fun k => k ≤ l.length) (fun k => l.length - k) 0 (by omega) ?_ ?_
  · exact Ent.e0 ⟨⟨_, rfl, rfl⟩, ⟨_, rfl, rfl⟩, ⟨_, rfl, rfl⟩, trivial⟩
  · intro k hk
    have hnk := nDrops_le (l.take k)
    have hnl : (l.take k).length ≤ l.length := by rw [List.length_take]; omega
    refine awp_seq ?_
    refine awp_seq ?_
    refine awp_region ?_
    refine al_d rfl rfl rfl (by exact opd_move rfl rfl) ?_
    refine al_d rfl rfl rfl (by exact opd_move rfl rfl) ?_
    refine al_d rfl rfl rfl (by exact (by first | exact opd_len_sl rfl Tryz.underlying25 rfl | exact opd_len_osl rfl Tryz.underlying25 rfl rfl rfl)) ?_
    refine al_d rfl rfl rfl (by exact opd_lss rfl rfl rfl) ?_
    refine al_nil ?_
    refine awp_cond rfl (fun hc1 => ?_) (fun hc1 => ?_)
    -- cond 1
    · have hlt : k < l.length := by have := of_decide_eq_true hc1; omega
      obtain ⟨e, hx⟩ := get_of_lt hlt
      have hi := map_get (f := encEdit) hx
      have hn1 := nDrops_take hx
      refine awp_skip ?_
      refine awp_seq ?_
      refine awp_block ?_
      refine awp_seq ?_
      refine awp_region ?_
      refine al_d rfl rfl rfl (by exact opd_move rfl rfl) ?_
      refine al_d rfl rfl rfl (by exact opd_move rfl rfl) ?_
      refine al_d rfl rfl rfl (by exact (by first | exact x_index_pad rfl so25 rfl rfl (by omega) (by first | exact Int.toNat_natCast _ | rfl) (by assumption) rfl | exact x_index_osl rfl so25 rfl rfl rfl rfl rfl (by omega) (by first | exact Int.toNat_natCast _ | rfl) (by first | omega | assumption) rfl)) ?_
      refine al_d rfl rfl rfl (by exact (by first | exact opd_field_ref rfl fo44_0 rfl rfl rfl rfl | exact opd_field_pad rfl fo44_0 rfl rfl)) ?_
      refine al_d rfl rfl rfl (by exact (by first | exact opd_load1_ref rfl Tryz.isAgg3 rfl rfl rfl rfl rfl | exact opd_load1_pad rfl Tryz.isAgg3 rfl (by first | omega | assumption) rfl)) ?_
      refine al_d rfl rfl rfl (by exact opd_eql rfl rfl rfl) ?_
      refine al_nil ?_
      refine awp_cond rfl (fun hc2 => ?_) (fun hc2 => ?_)
      -- cond 2
      · have h5 : e.op = 5 := of_decide_eq_true hc2
        rw [if_pos h5] at hn1
        refine awp_region ?_
        refine al_d rfl rfl rfl (by exact opd_move rfl rfl) ?_
        refine al_d rfl rfl rfl (by exact opd_add rfl rfl rfl (by first | exact w64 (by omega) (by omega) | exact wu8 (by omega) (by omega) | rfl)) ?_
        refine al_d rfl rfl rfl (by exact opd_assign rfl rfl) ?_
        refine al_nil ?_
        refine awp_region ?_
        refine al_d rfl rfl rfl (by exact opd_move rfl rfl) ?_
        refine al_d rfl rfl rfl (by exact opd_add rfl rfl rfl (by first | exact w64 (by omega) (by omega) | exact wu8 (by omega) (by omega) | rfl)) ?_
        refine al_d rfl rfl rfl (by exact opd_assign rfl rfl) ?_
        refine al_nil ?_
        -- end of a round
        refine ⟨k + 1, by omega, by omega, ?_⟩
        rw [hn1]
        exact Ent.e0 ⟨⟨_, rfl, rfl⟩, ⟨_, rfl, rfl⟩, ⟨_, rfl, rfl⟩, trivial⟩
      · have h5 : ¬ e.op = 5 := of_decide_eq_false hc2
        rw [if_neg h5] at hn1
        refine awp_skip ?_
        refine awp_region ?_
        refine al_d rfl rfl rfl (by exact opd_move rfl rfl) ?_
        refine al_d rfl rfl rfl (by exact opd_add rfl rfl rfl (by first | exact w64 (by omega) (by omega) | exact wu8 (by omega) (by omega) | rfl)) ?_
        refine al_d rfl rfl rfl (by exact opd_assign rfl rfl) ?_
        refine al_nil ?_
        -- end of a round
        refine ⟨k + 1, by omega, by omega, ?_⟩
        rw [hn1]
        exact Ent.e0 ⟨⟨_, rfl, rfl⟩, ⟨_, rfl, rfl⟩, ⟨_, rfl, rfl⟩, trivial⟩
    · have hge : k = l.length := by have := of_decide_eq_false hc1; omega
      subst hge
      rw [List.take_length]
      refine awp_exit ?_
      refine awp_seq ?_
      refine awp_region ?_
      refine al_d rfl rfl rfl (by exact opd_move rfl rfl) ?_
      refine al_d rfl rfl rfl (by exact opd_assign rfl rfl) ?_
      refine al_nil ?_
      refine awp_ret ?_
      -- return
      refine aret1 (H' := []) (by first | exact .inr rfl | exact .inl rfl) rfl (rval_tmp rfl) (Fin.wk (by simp) trivial trivial) ?_
      exact ⟨rfl, rfl⟩
theorem behind_c (a b : List Int) (H : Heap) (ha : a.length < 4611686018427387904) : ACalls Tryz.prog 24 [.pv (slInts a), .pv (slInts b)] H (fun r H' => r = bv (gBehind a b) ∧ H' = H) := by
  refine ACalls.pure ?_ (by simp) H
  have hma : (a.map encInt).length = a.length := List.length_map _
  have hmb : (b.map encInt).length = b.length := List.length_map _
  refine ACalls.body Tryz.func24 rfl Tryz.ntmps24 (Nat.le_of_ble_eq_true rfl) ?_
  refine awp_seq ?_
  refine awp_region ?_
  refine al_d rfl rfl rfl (by exact opd_assign rfl rfl) ?_
  refine al_nil ?_
  refine awp_seq ?_
  refine awp_seq ?_
  refine awp_region ?_
  refine al_d rfl rfl rfl (by exact opd_assign rfl rfl) ?_
  refine al_nil ?_
  refine awp_block ?_
  -- loop
  refine awp_loop (σ := Nat) (fun k => ([(0, .pv (slInts a)), (1, .pv (slInts b)), (5, iv (k : Int))], [])) (fun k => k ≤ a.length ∧ k ≤ b.length ∧ gBehind a b = gBehind (a.drop k) (b.drop k)) (fun k => a.length - k) 0 ⟨by omega, by omega, rfl⟩ ?_ ?_
  · exact Ent.e0 ⟨⟨_, rfl, rfl⟩, ⟨_, rfl, rfl⟩, ⟨_, rfl, rfl⟩, trivial⟩
  · rintro k ⟨hk, hk2, hinv⟩
    refine awp_seq ?_
    refine awp_seq ?_
    refine awp_bool (t := 15) (n := 11) (X := decide ((k : Int) < ((a.map encInt).length : Int)) && decide ((k : Int) < ((b.map encInt).length : Int))) ?_ ?_
    · all_goals (refine al_d rfl rfl rfl (by exact opd_move rfl rfl) ?_)
      all_goals (refine al_d rfl rfl rfl (by exact opd_move rfl rfl) ?_)
      all_goals (refine al_d rfl rfl rfl (by exact (by first | exact opd_len_sl rfl Tryz.underlying29 rfl | exact opd_len_osl rfl Tryz.underlying29 rfl rfl rfl)) ?_)
      all_goals (refine al_d rfl rfl rfl (by exact opd_lss rfl rfl rfl) ?_)
      all_goals (refine al_d rfl rfl rfl (by exact opd_move rfl rfl) ?_)
      all_goals (first | refine al_split (t := 10) rfl (fun h10 => ?_) (fun h10 => ?_) | refine al_dup (t := 10) rfl ?_ | skip)
      all_goals (try contradiction)
      all_goals (first | refine al_off rfl rfl rfl rfl rfl ?_ | refine al_offu rfl rfl rfl rfl ?_ | refine al_ond rfl rfl rfl rfl rfl rfl (by exact opd_move rfl rfl) ?_)
      all_goals (first | refine al_off rfl rfl rfl rfl rfl ?_ | refine al_offu rfl rfl rfl rfl ?_ | refine al_ond rfl rfl rfl rfl rfl rfl (by exact opd_move rfl rfl) ?_)
      all_goals (first | refine al_off rfl rfl rfl rfl rfl ?_ | refine al_offu rfl rfl rfl rfl ?_ | refine al_ond rfl rfl rfl rfl rfl rfl (by exact (by first | exact opd_len_sl rfl Tryz.underlying29 rfl | exact opd_len_osl rfl Tryz.underlying29 rfl rfl rfl)) ?_)
      all_goals (first | refine al_off rfl rfl rfl rfl rfl ?_ | refine al_offu rfl rfl rfl rfl ?_ | refine al_ond rfl rfl rfl rfl rfl rfl (by exact opd_lss rfl rfl rfl) ?_)
      all_goals (refine al_d rfl rfl rfl (by exact (by first | exact opd_pick_t rfl rfl rfl | exact opd_pick_f rfl rfl rfl | exact opd_pickt rfl rfl (by assumption) rfl | exact opd_pickf rfl rfl (by assumption) rfl | exact opd_pick rfl rfl rfl)) ?_)
      all_goals (refine al_nil ?_)
      all_goals (exact ⟨⟨_, rfl, by first | rfl | (simp only [*, Bool.false_and, Bool.true_and, Bool.and_false, Bool.and_true, Bool.true_or, Bool.false_or, Bool.or_true, Bool.or_false, Bool.not_true, Bool.not_false]; done) | (simp_all; done) | (simp_all; omega)⟩, rfl, rfl, rfl⟩)
    refine awp_cond rfl (fun hc1 => ?_) (fun hc1 => ?_)
    -- cond 1
    · have hlt : k < a.length ∧ k < b.length := by
        simp only [Bool.and_eq_true, decide_eq_true_eq, hma, hmb] at hc1
        omega
      obtain ⟨x, hx⟩ := get_of_lt hlt.1
      obtain ⟨y, hy⟩ := get_of_lt hlt.2
      have hi := map_get (f := encInt) hx
      have hi2 := map_get (f := encInt) hy
      have hda : a.drop k = x :: a.drop (k + 1) := by
        obtain ⟨hl1, he1⟩ := List.getElem?_eq_some_iff.1 hx
        rw [List.drop_eq_getElem_cons hl1, he1]
      have hdb : b.drop k = y :: b.drop (k + 1) := by
        obtain ⟨hl1, he1⟩ := List.getElem?_eq_some_iff.1 hy
        rw [List.drop_eq_getElem_cons hl1, he1]
      rw [hda, hdb, gBehind] at hinv
      refine awp_skip ?_
      refine awp_seq ?_
      refine awp_block ?_
      refine awp_seq ?_
      refine awp_drawc follows ?_
      refine dc_cons (DStep.q rfl (by exact opd_move rfl rfl)) rfl ?_
      refine dc_cons (DStep.q rfl (by exact opd_move rfl rfl)) rfl ?_
      refine dc_cons (DStep.q rfl (by exact (by first | exact x_index_pad rfl so29 rfl rfl (by omega) (by first | exact Int.toNat_natCast _ | rfl) (by assumption) rfl | exact x_index_osl rfl so29 rfl rfl rfl rfl rfl (by omega) (by first | exact Int.toNat_natCast _ | rfl) (by first | omega | assumption) rfl))) rfl ?_
      refine dc_cons (DStep.q rfl (by exact (by first | exact opd_load1_ref rfl Tryz.isAgg3 rfl rfl rfl rfl rfl | exact opd_load1_pad rfl Tryz.isAgg3 rfl (by first | omega | assumption) rfl))) rfl ?_
      refine dc_cons (DStep.q rfl (by exact opd_move rfl rfl)) rfl ?_
      refine dc_cons (DStep.q rfl (by exact opd_move rfl rfl)) rfl ?_
      refine dc_cons (DStep.q rfl (by exact (by first | exact x_index_pad rfl so29 rfl rfl (by omega) (by first | exact Int.toNat_natCast _ | rfl) (by assumption) rfl | exact x_index_osl rfl so29 rfl rfl rfl rfl rfl (by omega) (by first | exact Int.toNat_natCast _ | rfl) (by first | omega | assumption) rfl))) rfl ?_
      refine dc_cons (DStep.q rfl (by exact (by first | exact opd_load1_ref rfl Tryz.isAgg3 rfl rfl rfl rfl rfl | exact opd_load1_pad rfl Tryz.isAgg3 rfl (by first | omega | assumption) rfl))) rfl ?_
      refine dc_cons (DStep.q rfl (by exact opd_neq rfl rfl rfl)) rfl ?_
      refine dc_nil ⟨by kernel_rfl, ?_⟩
      refine awp_cond rfl (fun hc2 => ?_) (fun hc2 => ?_)
      -- cond 2
      · have ht : ¬ x = y := by
          have h : (!decide (x = y)) = true := hc2
          simpa using h
        rw [if_neg ht] at hinv
        refine awp_seq ?_
        refine awp_drawc follows ?_
        refine dc_cons (DStep.q rfl (by exact opd_move rfl rfl)) rfl ?_
        refine dc_cons (DStep.q rfl (by exact opd_move rfl rfl)) rfl ?_
        refine dc_cons (DStep.q rfl (by exact (by first | exact x_index_pad rfl so29 rfl rfl (by omega) (by first | exact Int.toNat_natCast _ | rfl) (by assumption) rfl | exact x_index_osl rfl so29 rfl rfl rfl rfl rfl (by omega) (by first | exact Int.toNat_natCast _ | rfl) (by first | omega | assumption) rfl))) rfl ?_
        refine dc_cons (DStep.q rfl (by exact (by first | exact opd_load1_ref rfl Tryz.isAgg3 rfl rfl rfl rfl rfl | exact opd_load1_pad rfl Tryz.isAgg3 rfl (by first | omega | assumption) rfl))) rfl ?_
        refine dc_cons (DStep.q rfl (by exact opd_move rfl rfl)) rfl ?_
        refine dc_cons (DStep.q rfl (by exact opd_move rfl rfl)) rfl ?_
        refine dc_cons (DStep.q rfl (by exact (by first | exact x_index_pad rfl so29 rfl rfl (by omega) (by first | exact Int.toNat_natCast _ | rfl) (by assumption) rfl | exact x_index_osl rfl so29 rfl rfl rfl rfl rfl (by omega) (by first | exact Int.toNat_natCast _ | rfl) (by first | omega | assumption) rfl))) rfl ?_
        refine dc_cons (DStep.q rfl (by exact (by first | exact opd_load1_ref rfl Tryz.isAgg3 rfl rfl rfl rfl rfl | exact opd_load1_pad rfl Tryz.isAgg3 rfl (by first | omega | assumption) rfl))) rfl ?_
        refine dc_cons (DStep.q rfl (by exact opd_gtr rfl rfl rfl)) rfl ?_
        refine dc_cons (DStep.q rfl (by exact opd_assign rfl rfl)) rfl ?_
        refine dc_nil ⟨by kernel_rfl, ?_⟩
        refine awp_ret ?_
        -- return
        refine aret1 (H' := []) (by first | exact .inr rfl | exact .inl rfl) rfl (rval_tmp rfl) (Fin.wk (by simp) trivial trivial) ?_
        exact ⟨by rw [hinv], rfl⟩
      · have ht : x = y := by
          have h : (!decide (x = y)) = false := hc2
          simpa using h
        rw [if_pos ht] at hinv
        refine awp_skip ?_
        refine awp_region ?_
        refine al_d rfl rfl rfl (by exact opd_move rfl rfl) ?_
        refine al_d rfl rfl rfl (by exact opd_add rfl rfl rfl (by first | exact w64 (by omega) (by omega) | exact wu8 (by omega) (by omega) | rfl)) ?_
        refine al_d rfl rfl rfl (by exact opd_assign rfl rfl) ?_
        refine al_nil ?_
        -- end of a round
        exact ⟨k + 1, ⟨by omega, by omega, hinv⟩, by omega, Ent.e0 ⟨⟨_, rfl, rfl⟩, ⟨_, rfl, rfl⟩, ⟨_, rfl, rfl⟩, trivial⟩⟩
    · have hge : k = a.length ∨ k = b.length := by
        simp only [Bool.and_eq_false_iff, decide_eq_false_iff_not, hma, hmb] at hc1
        omega
      have hfin : gBehind a b = decide (b.length < a.length) := by
        rw [hinv]
        rcases hge with h | h
        · rw [show a.drop k = [] from List.drop_eq_nil_of_le (by omega), gBehind, decide_eq_false (by omega)]
        · rw [show b.drop k = [] from List.drop_eq_nil_of_le (by omega)]
          by_cases hab : b.length < a.length
          · obtain ⟨x, hx⟩ := get_of_lt (l := a) (k := k) (by omega)
            obtain ⟨hl1, he1⟩ := List.getElem?_eq_some_iff.1 hx
            rw [List.drop_eq_getElem_cons hl1, gBehind, decide_eq_true hab]
          · rw [show a.drop k = [] from List.drop_eq_nil_of_le (by omega), gBehind, decide_eq_false hab]
      refine awp_exit ?_
      refine awp_seq ?_
      refine awp_region ?_
      refine al_d rfl rfl rfl (by exact opd_move rfl rfl) ?_
      refine al_d rfl rfl rfl (by exact (by first | exact opd_len_sl rfl Tryz.underlying29 rfl | exact opd_len_osl rfl Tryz.underlying29 rfl rfl rfl)) ?_
      refine al_d rfl rfl rfl (by exact opd_move rfl rfl) ?_
      refine al_d rfl rfl rfl (by exact (by first | exact opd_len_sl rfl Tryz.underlying29 rfl | exact opd_len_osl rfl Tryz.underlying29 rfl rfl rfl)) ?_
      refine al_d rfl rfl rfl (by exact opd_gtr rfl rfl rfl) ?_
      refine al_d rfl rfl rfl (by exact opd_assign rfl rfl) ?_
      refine al_nil ?_
      refine awp_ret ?_
      -- return
      refine aret1 (H' := []) (by first | exact .inr rfl | exact .inl rfl) rfl (rval_tmp rfl) (Fin.wk (by simp) trivial trivial) ?_
      refine ⟨?_, rfl⟩
      rw [hfin]
      simp only [List.length_map]
      by_cases hab : b.length < a.length
      · rw [decide_eq_true hab, decide_eq_true (by omega)]
      · rw [decide_eq_false hab, decide_eq_false (by omega)]
theorem one_c (k : Nat) (m : List GObj) (e : GEdit) (H : Heap) (hm : okM m) (h1 : 1 ≤ k) (h4 : k ≤ 4) : ACalls Tryz.prog 66 [.agg [.pv (slObjs m)], av (encEdit e), iv (k : Int)] H (fun r H' => r = bv (eShows k m e) ∧ H' = H) := by
  refine ACalls.pure ?_ (by simp) H
  have hml : (m.map encObj).length = m.length := List.length_map _
  have hF := fun H => find_c m e.id H hm.1
  refine ACalls.body Tryz.func66 rfl Tryz.ntmps66 (Nat.le_of_ble_eq_true rfl) ?_
  refine awp_seq ?_
  refine awp_region ?_
  refine al_d rfl rfl rfl (by exact opd_box (id := 3) rfl rfl rfl rfl rfl) ?_
  refine al_d rfl rfl rfl (by exact opd_box (id := 4) rfl rfl rfl rfl rfl) ?_
  refine al_d rfl rfl rfl (by exact opd_assign rfl rfl) ?_
  refine al_nil ?_
  refine awp_seq ?_
  refine awp_seq ?_
  refine awp_region ?_
  refine al_d rfl rfl rfl (by exact opd_move rfl rfl) ?_
  refine al_d rfl rfl rfl (by exact opd_eql rfl rfl rfl) ?_
  refine al_nil ?_
  refine awp_cond rfl (fun hc1 => ?_) (fun hc1 => ?_)
  -- cond 1
  · have hk : k = 4 := by have := of_decide_eq_true hc1; omega
    subst hk
    refine awp_seq ?_
    refine awp_bool (t := 6) (n := 11) (X := decide (e.op = 1) && decide (e.obj.kind = 1)) ?_ ?_
    · all_goals (refine al_d rfl rfl rfl (by exact (by first | exact opd_field_ref rfl fo44_0 rfl rfl rfl rfl | exact opd_field_pad rfl fo44_0 rfl rfl)) ?_)
      all_goals (refine al_d rfl rfl rfl (by exact (by first | exact opd_load1_ref rfl Tryz.isAgg3 rfl rfl rfl rfl rfl | exact opd_load1_pad rfl Tryz.isAgg3 rfl (by first | omega | assumption) rfl)) ?_)
      all_goals (refine al_d rfl rfl rfl (by exact opd_eql rfl rfl rfl) ?_)
      all_goals (refine al_d rfl rfl rfl (by exact opd_move rfl rfl) ?_)
      all_goals (first | refine al_split (t := 16) rfl (fun h16 => ?_) (fun h16 => ?_) | refine al_dup (t := 16) rfl ?_ | skip)
      all_goals (try contradiction)
      all_goals (first | refine al_off rfl rfl rfl rfl rfl ?_ | refine al_offu rfl rfl rfl rfl ?_ | refine al_ond rfl rfl rfl rfl rfl rfl (by exact (by first | exact opd_field_ref rfl fo44_8 rfl rfl rfl rfl | exact opd_field_pad rfl fo44_8 rfl rfl)) ?_)
      all_goals (first | refine al_off rfl rfl rfl rfl rfl ?_ | refine al_offu rfl rfl rfl rfl ?_ | refine al_ond rfl rfl rfl rfl rfl rfl (by exact (by first | exact opd_field_ref rfl fo42_1 rfl rfl rfl rfl | exact opd_field_pad rfl fo42_1 rfl rfl)) ?_)
      all_goals (first | refine al_off rfl rfl rfl rfl rfl ?_ | refine al_offu rfl rfl rfl rfl ?_ | refine al_ond rfl rfl rfl rfl rfl rfl (by exact (by first | exact opd_load1_ref rfl Tryz.isAgg3 rfl rfl rfl rfl rfl | exact opd_load1_pad rfl Tryz.isAgg3 rfl (by first | omega | assumption) rfl)) ?_)
      all_goals (first | refine al_off rfl rfl rfl rfl rfl ?_ | refine al_offu rfl rfl rfl rfl ?_ | refine al_ond rfl rfl rfl rfl rfl rfl (by exact opd_eql rfl rfl rfl) ?_)
      all_goals (refine al_d rfl rfl rfl (by exact (by first | exact opd_pick_t rfl rfl rfl | exact opd_pick_f rfl rfl rfl | exact opd_pickt rfl rfl (by assumption) rfl | exact opd_pickf rfl rfl (by assumption) rfl | exact opd_pick rfl rfl rfl)) ?_)
      all_goals (refine al_d rfl rfl rfl (by exact opd_assign rfl rfl) ?_)
      all_goals (refine al_nil ?_)
      all_goals (exact ⟨⟨_, rfl, by first | rfl | (simp only [*, Bool.false_and, Bool.true_and, Bool.and_false, Bool.and_true, Bool.true_or, Bool.false_or, Bool.or_true, Bool.or_false, Bool.not_true, Bool.not_false]; done) | (simp_all; done) | (simp_all; omega)⟩, rfl, rfl, rfl⟩)
    refine awp_ret ?_
    -- return
    refine aret1 (H' := []) (by first | exact .inr rfl | exact .inl rfl) rfl (rval_tmp rfl) (Fin.wk (by simp) trivial trivial) ?_
    exact ⟨rfl, rfl⟩
  · have hk : ¬ k = 4 := by have := of_decide_eq_false hc1; omega
    rcases gidx_cases (idIs e.id) m with ⟨hg, hf⟩ | ⟨j, o, hg, ho, hf⟩
    · rw [hg] at hF
      obtain ⟨ho1, ho2⟩ := obOf_none hf
      have hs : eShows k m e = false := by
        match k, h1, h4, hk with
        | 1, _, _, _ => simp [eShows, ho2]
        | 2, _, _, _ => simp [eShows, ho1, zObj, gGet]
        | 3, _, _, _ => simp [eShows, ho2]
        | 4, _, _, h => exact absurd rfl h
        | n + 5, _, h, _ => exact absurd h (by omega)
      refine awp_skip ?_
      refine awp_seq ?_
      refine awp_region ?_
      refine al_d rfl rfl rfl (by exact (by first | exact opd_loadn_ref rfl Tryz.isAgg24 Tryz.sizeOf24 rfl rfl rfl rfl (by simp only [List.drop_succ_cons, List.drop_zero, List.take_succ_cons, List.take_zero, List.take_nil, List.map_cons, List.map_nil, List.set_cons_zero, List.set_cons_succ, List.cons_append, List.nil_append, encTag, encObj, encStr, encEdit, encInt]; rfl) rfl | exact opd_loadn_pad rfl Tryz.isAgg24 Tryz.sizeOf24 rfl (by first | omega | assumption) (by simp only [List.drop_succ_cons, List.drop_zero, List.take_succ_cons, List.take_zero, List.take_nil, List.map_cons, List.map_nil, List.set_cons_zero, List.set_cons_succ, List.cons_append, List.nil_append, encTag, encObj, encStr, encEdit, encInt]; rfl) rfl)) ?_
      refine al_d rfl rfl rfl (by exact (by first | exact opd_field_ref rfl fo44_1 rfl rfl rfl rfl | exact opd_field_pad rfl fo44_1 rfl rfl)) ?_
      refine al_d rfl rfl rfl (by exact (by first | exact opd_load1_ref rfl Tryz.isAgg9 rfl rfl rfl rfl rfl | exact opd_load1_pad rfl Tryz.isAgg9 rfl (by first | omega | assumption) rfl)) ?_
      refine al_d rfl rfl rfl (by exact opr_call rfl rfl Tryz.call36 rfl (hF _)) ?_
      refine al_d rfl rfl rfl (by exact opd_assign rfl rfl) ?_
      refine al_nil ?_
      refine awp_seq ?_
      refine awp_seq ?_
      refine awp_region ?_
      refine al_d rfl rfl rfl (by exact opd_move rfl rfl) ?_
      refine al_d rfl rfl rfl (by exact opd_lss rfl rfl rfl) ?_
      refine al_d rfl rfl rfl (by exact opd_move rfl rfl) ?_
      refine al_off rfl rfl rfl (by first | rfl | assumption) rfl ?_
      refine al_off rfl rfl rfl (by first | rfl | assumption) rfl ?_
      refine al_off rfl rfl rfl (by first | rfl | assumption) rfl ?_
      refine al_off rfl rfl rfl (by first | rfl | assumption) rfl ?_
      refine al_off rfl rfl rfl (by first | rfl | assumption) rfl ?_
      refine al_d rfl rfl rfl (by exact (by first | exact opd_pick_t rfl rfl rfl | exact opd_pick_f rfl rfl rfl | exact opd_pickt rfl rfl (by assumption) rfl | exact opd_pickf rfl rfl (by assumption) rfl | exact opd_pick rfl rfl rfl)) ?_
      refine al_nil ?_
      refine awp_cond rfl (fun hc2 => ?_) (fun hc2 => ?_)
      -- cond 2
      · skip
        refine awp_seq ?_
        refine awp_region ?_
        refine al_d rfl rfl rfl (by exact opd_assign rfl rfl) ?_
        refine al_nil ?_
        refine awp_ret ?_
        -- return
        refine aret1 (H' := []) (by first | exact .inr rfl | exact .inl rfl) rfl (rval_tmp rfl) (Fin.wk (by simp) trivial trivial) ?_
        exact ⟨by rw [hs], rfl⟩
      · cases hc2
    · rw [hg] at hF
      obtain ⟨ho1, ho2⟩ := obOf_some hf
      have hi := map_get (f := encObj) ho
      have hkl := (List.getElem?_eq_some_iff.1 ho).1
      have hj0 : decide ((j : Int) < 0) = false := decide_eq_false (by omega)
      refine awp_skip ?_
      refine awp_seq ?_
      refine awp_region ?_
      refine al_d rfl rfl rfl (by exact (by first | exact opd_loadn_ref rfl Tryz.isAgg24 Tryz.sizeOf24 rfl rfl rfl rfl (by simp only [List.drop_succ_cons, List.drop_zero, List.take_succ_cons, List.take_zero, List.take_nil, List.map_cons, List.map_nil, List.set_cons_zero, List.set_cons_succ, List.cons_append, List.nil_append, encTag, encObj, encStr, encEdit, encInt]; rfl) rfl | exact opd_loadn_pad rfl Tryz.isAgg24 Tryz.sizeOf24 rfl (by first | omega | assumption) (by simp only [List.drop_succ_cons, List.drop_zero, List.take_succ_cons, List.take_zero, List.take_nil, List.map_cons, List.map_nil, List.set_cons_zero, List.set_cons_succ, List.cons_append, List.nil_append, encTag, encObj, encStr, encEdit, encInt]; rfl) rfl)) ?_
      refine al_d rfl rfl rfl (by exact (by first | exact opd_field_ref rfl fo44_1 rfl rfl rfl rfl | exact opd_field_pad rfl fo44_1 rfl rfl)) ?_
      refine al_d rfl rfl rfl (by exact (by first | exact opd_load1_ref rfl Tryz.isAgg9 rfl rfl rfl rfl rfl | exact opd_load1_pad rfl Tryz.isAgg9 rfl (by first | omega | assumption) rfl)) ?_
      refine al_d rfl rfl rfl (by exact opr_call rfl rfl Tryz.call36 rfl (hF _)) ?_
      refine al_d rfl rfl rfl (by exact opd_assign rfl rfl) ?_
      refine al_nil ?_
      refine awp_seq ?_
      refine awp_seq ?_
      refine awp_region ?_
      refine al_d rfl rfl rfl (by exact opd_move rfl rfl) ?_
      refine al_d rfl rfl rfl (by exact opd_lss rfl rfl rfl) ?_
      refine al_d rfl rfl rfl (by exact opd_move rfl rfl) ?_
      refine al_ond rfl rfl rfl (by first | rfl | assumption) rfl rfl (by exact opd_move rfl rfl) ?_
      refine al_ond rfl rfl rfl (by first | rfl | assumption) rfl rfl (by exact (by first | exact opd_field_ref rfl fo24_0 rfl rfl rfl rfl | exact opd_field_pad rfl fo24_0 rfl rfl)) ?_
      refine al_ond rfl rfl rfl (by first | rfl | assumption) rfl rfl (by exact (by first | exact opd_load1_ref rfl Tryz.isAgg22 rfl rfl rfl rfl rfl | exact opd_load1_pad rfl Tryz.isAgg22 rfl (by first | omega | assumption) rfl)) ?_
      refine al_ond rfl rfl rfl (by first | rfl | assumption) rfl rfl (by exact (by first | exact opd_len_sl rfl Tryz.underlying22 rfl | exact opd_len_osl rfl Tryz.underlying22 rfl rfl rfl)) ?_
      refine al_ond rfl rfl rfl (by first | rfl | assumption) rfl rfl (by exact opd_geq rfl rfl rfl) ?_
      refine al_d rfl rfl rfl (by exact (by first | exact opd_pick_t rfl rfl rfl | exact opd_pick_f rfl rfl rfl | exact opd_pickt rfl rfl (by assumption) rfl | exact opd_pickf rfl rfl (by assumption) rfl | exact opd_pick rfl rfl rfl)) ?_
      refine al_nil ?_
      refine awp_cond rfl (fun hc3 => ?_) (fun hc3 => ?_)
      -- cond 3
      · exfalso
        have h : decide (((m.map encObj).length : Int) ≤ (j : Int)) = true := hc3
        rw [decide_eq_true_eq] at h
        omega
      · skip
        refine awp_skip ?_
        refine awp_seq ?_
        refine awp_region ?_
        refine al_d rfl rfl rfl (by exact (by first | exact opd_field_ref rfl fo24_0 rfl rfl rfl rfl | exact opd_field_pad rfl fo24_0 rfl rfl)) ?_
        refine al_d rfl rfl rfl (by exact (by first | exact opd_load1_ref rfl Tryz.isAgg22 rfl rfl rfl rfl rfl | exact opd_load1_pad rfl Tryz.isAgg22 rfl (by first | omega | assumption) rfl)) ?_
        refine al_d rfl rfl rfl (by exact opd_move rfl rfl) ?_
        refine al_d rfl rfl rfl (by exact (by first | exact x_index_pad rfl so22 rfl rfl (by omega) (by first | exact Int.toNat_natCast _ | rfl) (by assumption) rfl | exact x_index_osl rfl so22 rfl rfl rfl rfl rfl (by omega) (by first | exact Int.toNat_natCast _ | rfl) (by first | omega | assumption) rfl)) ?_
        refine al_d rfl rfl rfl (by exact (by first | exact opd_loadn_ref rfl Tryz.isAgg42 Tryz.sizeOf42 rfl rfl rfl rfl (by simp only [List.drop_succ_cons, List.drop_zero, List.take_succ_cons, List.take_zero, List.take_nil, List.map_cons, List.map_nil, List.set_cons_zero, List.set_cons_succ, List.cons_append, List.nil_append, encTag, encObj, encStr, encEdit, encInt]; rfl) rfl | exact opd_loadn_pad rfl Tryz.isAgg42 Tryz.sizeOf42 rfl (by first | omega | assumption) (by simp only [List.drop_succ_cons, List.drop_zero, List.take_succ_cons, List.take_zero, List.take_nil, List.map_cons, List.map_nil, List.set_cons_zero, List.set_cons_succ, List.cons_append, List.nil_append, encTag, encObj, encStr, encEdit, encInt]; rfl) rfl)) ?_
        refine al_d rfl rfl rfl (by exact x_alloc (id := 8) rfl zo42 rfl rfl) ?_
        refine al_n rfl rfl (by exact (by first | exact x_store_all rfl Tryz.sizeOf42 rfl rfl rfl rfl rfl rfl rfl rfl | exact x_store rfl Tryz.sizeOf42 rfl rfl rfl rfl rfl rfl rfl (by simp only [List.length_cons, List.length_nil]; omega) (by simp only [List.drop_succ_cons, List.drop_zero, List.take_succ_cons, List.take_zero, List.take_nil, List.map_cons, List.map_nil, List.set_cons_zero, List.set_cons_succ, List.cons_append, List.nil_append, encTag, encObj, encStr, encEdit, encInt]; rfl) (by simp only [List.drop_succ_cons, List.drop_zero, List.take_succ_cons, List.take_zero, List.take_nil, List.map_cons, List.map_nil, List.set_cons_zero, List.set_cons_succ, List.cons_append, List.nil_append, encTag, encObj, encStr, encEdit, encInt]; rfl) | exact x_store rfl Tryz.sizeOf42 rfl rfl rfl rfl rfl rfl rfl (Nat.le_of_ble_eq_true rfl) rfl rfl)) ?_
        refine al_nil ?_
        refine awp_seq ?_
        refine awp_seq ?_
        refine awp_region ?_
        refine al_d rfl rfl rfl (by exact opd_move rfl rfl) ?_
        refine al_d rfl rfl rfl (by exact opd_eql rfl rfl rfl) ?_
        refine al_nil ?_
        refine awp_cond rfl (fun hc4 => ?_) (fun hc4 => ?_)
        -- cond 4
        · have hk1 : k = 1 := by have := of_decide_eq_true hc4; omega
          subst hk1
          have hs : eShows 1 m e = decide (e.op = 5) := by simp only [eShows, ho2, Bool.and_true]
          refine awp_seq ?_
          refine awp_region ?_
          refine al_d rfl rfl rfl (by exact (by first | exact opd_field_ref rfl fo44_0 rfl rfl rfl rfl | exact opd_field_pad rfl fo44_0 rfl rfl)) ?_
          refine al_d rfl rfl rfl (by exact (by first | exact opd_load1_ref rfl Tryz.isAgg3 rfl rfl rfl rfl rfl | exact opd_load1_pad rfl Tryz.isAgg3 rfl (by first | omega | assumption) rfl)) ?_
          refine al_d rfl rfl rfl (by exact opd_eql rfl rfl rfl) ?_
          refine al_d rfl rfl rfl (by exact opd_assign rfl rfl) ?_
          refine al_nil ?_
          refine awp_ret ?_
          -- return
          refine aret1 (H' := []) (by first | exact .inr rfl | exact .inl rfl) rfl (rval_tmp rfl) (Fin.wk (by simp) trivial trivial) ?_
          exact ⟨by rw [hs], rfl⟩
        · have hk1 : ¬ k = 1 := by have := of_decide_eq_false hc4; omega
          refine awp_skip ?_
          refine awp_seq ?_
          refine awp_seq ?_
          refine awp_region ?_
          refine al_d rfl rfl rfl (by exact opd_move rfl rfl) ?_
          refine al_d rfl rfl rfl (by exact opd_eql rfl rfl rfl) ?_
          refine al_nil ?_
          refine awp_cond rfl (fun hc5 => ?_) (fun hc5 => ?_)
          -- cond 5
          · have hk2 : k = 2 := by have := of_decide_eq_true hc5; omega
            subst hk2
            have hs : eShows 2 m e = (decide (e.op = 3) && decide (e.key = sName) && decide (e.val = sNil) && (gGet o.tags sName).isSome) := by simp only [eShows, ho1]
            rw [hs]
            refine awp_seq ?_
            refine awp_region ?_
            refine al_d rfl rfl rfl (by exact (by first | exact opd_field_ref rfl fo42_4 rfl rfl rfl rfl | exact opd_field_pad rfl fo42_4 rfl rfl)) ?_
            refine al_d rfl rfl rfl (by exact (by first | exact opd_load1_ref rfl Tryz.isAgg40 rfl rfl rfl rfl rfl | exact opd_load1_pad rfl Tryz.isAgg40 rfl (by first | omega | assumption) rfl)) ?_
            refine al_d rfl rfl rfl (by exact opr_call rfl rfl Tryz.call95 rfl (tagGet_c o.tags sName _ (hm.2 o (List.mem_of_getElem? ho)).2.1.1)) ?_
            refine al_d rfl rfl rfl (by exact opd_move rfl rfl) ?_
            refine al_d rfl rfl rfl (by exact opd_extract rfl rfl rfl) ?_
            refine al_d rfl rfl rfl (by exact opd_extract rfl rfl rfl) ?_
            refine al_d rfl rfl rfl (by exact opd_assign rfl rfl) ?_
            refine al_d rfl rfl rfl (by exact opd_assign rfl rfl) ?_
            refine al_nil ?_
            refine awp_seq ?_
            refine awp_bool (t := 6) (n := 20) (X := decide (e.op = 3) && decide (e.key = sName) && decide (e.val = sNil) && (gGet o.tags sName).isSome) ?_ ?_
            · all_goals (refine al_d rfl rfl rfl (by exact (by first | exact opd_field_ref rfl fo44_0 rfl rfl rfl rfl | exact opd_field_pad rfl fo44_0 rfl rfl)) ?_)
              all_goals (refine al_d rfl rfl rfl (by exact (by first | exact opd_load1_ref rfl Tryz.isAgg3 rfl rfl rfl rfl rfl | exact opd_load1_pad rfl Tryz.isAgg3 rfl (by first | omega | assumption) rfl)) ?_)
              all_goals (refine al_d rfl rfl rfl (by exact opd_eql rfl rfl rfl) ?_)
              all_goals (refine al_d rfl rfl rfl (by exact opd_move rfl rfl) ?_)
              all_goals (first | refine al_split (t := 56) rfl (fun h56 => ?_) (fun h56 => ?_) | refine al_dup (t := 56) rfl ?_ | skip)
              all_goals (try contradiction)
              all_goals (first | refine al_off rfl rfl rfl rfl rfl ?_ | refine al_offu rfl rfl rfl rfl ?_ | refine al_ond rfl rfl rfl rfl rfl rfl (by exact (by first | exact opd_field_ref rfl fo44_5 rfl rfl rfl rfl | exact opd_field_pad rfl fo44_5 rfl rfl)) ?_)
              all_goals (first | refine al_off rfl rfl rfl rfl rfl ?_ | refine al_offu rfl rfl rfl rfl ?_ | refine al_ond rfl rfl rfl rfl rfl rfl (by exact (by first | exact opd_load1_ref rfl Tryz.isAgg9 rfl rfl rfl rfl rfl | exact opd_load1_pad rfl Tryz.isAgg9 rfl (by first | omega | assumption) rfl)) ?_)
              all_goals (first | refine al_off rfl rfl rfl rfl rfl ?_ | refine al_offu rfl rfl rfl rfl ?_ | refine al_ond rfl rfl rfl rfl rfl rfl (by exact opd_seql rfl rfl rfl) ?_)
              all_goals (refine al_d rfl rfl rfl (by exact (by first | exact opd_pick_t rfl rfl rfl | exact opd_pick_f rfl rfl rfl | exact opd_pickt rfl rfl (by assumption) rfl | exact opd_pickf rfl rfl (by assumption) rfl | exact opd_pick rfl rfl rfl)) ?_)
              all_goals (refine al_d rfl rfl rfl (by exact opd_move rfl rfl) ?_)
              all_goals (first | refine al_split (t := 61) rfl (fun h61 => ?_) (fun h61 => ?_) | refine al_dup (t := 61) rfl ?_ | skip)
              all_goals (try contradiction)
              all_goals (first | refine al_off rfl rfl rfl rfl rfl ?_ | refine al_offu rfl rfl rfl rfl ?_ | refine al_ond rfl rfl rfl rfl rfl rfl (by exact (by first | exact opd_field_ref rfl fo44_6 rfl rfl rfl rfl | exact opd_field_pad rfl fo44_6 rfl rfl)) ?_)
              all_goals (first | refine al_off rfl rfl rfl rfl rfl ?_ | refine al_offu rfl rfl rfl rfl ?_ | refine al_ond rfl rfl rfl rfl rfl rfl (by exact (by first | exact opd_load1_ref rfl Tryz.isAgg9 rfl rfl rfl rfl rfl | exact opd_load1_pad rfl Tryz.isAgg9 rfl (by first | omega | assumption) rfl)) ?_)
              all_goals (first | refine al_off rfl rfl rfl rfl rfl ?_ | refine al_offu rfl rfl rfl rfl ?_ | refine al_ond rfl rfl rfl rfl rfl rfl (by exact opd_seql rfl rfl rfl) ?_)
              all_goals (refine al_d rfl rfl rfl (by exact (by first | exact opd_pick_t rfl rfl rfl | exact opd_pick_f rfl rfl rfl | exact opd_pickt rfl rfl (by assumption) rfl | exact opd_pickf rfl rfl (by assumption) rfl | exact opd_pick rfl rfl rfl)) ?_)
              all_goals (refine al_d rfl rfl rfl (by exact opd_move rfl rfl) ?_)
              all_goals (first | refine al_split (t := 66) rfl (fun h66 => ?_) (fun h66 => ?_) | refine al_dup (t := 66) rfl ?_ | skip)
              all_goals (try contradiction)
              all_goals (first | refine al_off rfl rfl rfl rfl rfl ?_ | refine al_offu rfl rfl rfl rfl ?_ | refine al_ond rfl rfl rfl rfl rfl rfl (by exact opd_move rfl rfl) ?_)
              all_goals (refine al_d rfl rfl rfl (by exact (by first | exact opd_pick_t rfl rfl rfl | exact opd_pick_f rfl rfl rfl | exact opd_pickt rfl rfl (by assumption) rfl | exact opd_pickf rfl rfl (by assumption) rfl | exact opd_pick rfl rfl rfl)) ?_)
              all_goals (refine al_d rfl rfl rfl (by exact opd_assign rfl rfl) ?_)
              all_goals (refine al_nil ?_)
              all_goals (exact ⟨⟨_, rfl, by first | rfl | (simp only [*, Bool.false_and, Bool.true_and, Bool.and_false, Bool.and_true, Bool.true_or, Bool.false_or, Bool.or_true, Bool.or_false, Bool.not_true, Bool.not_false]; done) | (simp_all; done) | (simp_all; omega)⟩, rfl, rfl, rfl⟩)
            refine awp_ret ?_
            -- return
            refine aret1 (H' := []) (by first | exact .inr rfl | exact .inl rfl) rfl (rval_tmp rfl) (Fin.wk (by simp) trivial trivial) ?_
            exact ⟨rfl, rfl⟩
          · have hk3 : k = 3 := by have := of_decide_eq_false hc5; omega
            subst hk3
            have hs : eShows 3 m e = (decide (e.op = 2) && decide (o.kind = 1) && decide (1000000 ≤ gDist o.x o.y e.x e.y)) := by simp only [eShows, ho1, ho2, Bool.and_true]
            rw [hs]
            refine awp_skip ?_
            refine awp_seq ?_
            refine awp_bool (t := 6) (n := 19) (X := decide (e.op = 2) && decide (o.kind = 1) && decide (1000000 ≤ gDist o.x o.y e.x e.y)) ?_ ?_
            · all_goals (refine al_d rfl rfl rfl (by exact (by first | exact opd_field_ref rfl fo44_0 rfl rfl rfl rfl | exact opd_field_pad rfl fo44_0 rfl rfl)) ?_)
              all_goals (refine al_d rfl rfl rfl (by exact (by first | exact opd_load1_ref rfl Tryz.isAgg3 rfl rfl rfl rfl rfl | exact opd_load1_pad rfl Tryz.isAgg3 rfl (by first | omega | assumption) rfl)) ?_)
              all_goals (refine al_d rfl rfl rfl (by exact opd_eql rfl rfl rfl) ?_)
              all_goals (refine al_d rfl rfl rfl (by exact opd_move rfl rfl) ?_)
              all_goals (first | refine al_split (t := 72) rfl (fun h72 => ?_) (fun h72 => ?_) | refine al_dup (t := 72) rfl ?_ | skip)
              all_goals (try contradiction)
              all_goals (first | refine al_off rfl rfl rfl rfl rfl ?_ | refine al_offu rfl rfl rfl rfl ?_ | refine al_ond rfl rfl rfl rfl rfl rfl (by exact (by first | exact opd_field_ref rfl fo42_1 rfl rfl rfl rfl | exact opd_field_pad rfl fo42_1 rfl rfl)) ?_)
              all_goals (first | refine al_off rfl rfl rfl rfl rfl ?_ | refine al_offu rfl rfl rfl rfl ?_ | refine al_ond rfl rfl rfl rfl rfl rfl (by exact (by first | exact opd_load1_ref rfl Tryz.isAgg3 rfl rfl rfl rfl rfl | exact opd_load1_pad rfl Tryz.isAgg3 rfl (by first | omega | assumption) rfl)) ?_)
              all_goals (first | refine al_off rfl rfl rfl rfl rfl ?_ | refine al_offu rfl rfl rfl rfl ?_ | refine al_ond rfl rfl rfl rfl rfl rfl (by exact opd_eql rfl rfl rfl) ?_)
              all_goals (refine al_d rfl rfl rfl (by exact (by first | exact opd_pick_t rfl rfl rfl | exact opd_pick_f rfl rfl rfl | exact opd_pickt rfl rfl (by assumption) rfl | exact opd_pickf rfl rfl (by assumption) rfl | exact opd_pick rfl rfl rfl)) ?_)
              all_goals (refine al_d rfl rfl rfl (by exact opd_move rfl rfl) ?_)
              all_goals (first | refine al_split (t := 77) rfl (fun h77 => ?_) (fun h77 => ?_) | refine al_dup (t := 77) rfl ?_ | skip)
              all_goals (try contradiction)
              all_goals (first | refine al_off rfl rfl rfl rfl rfl ?_ | refine al_offu rfl rfl rfl rfl ?_ | refine al_ond rfl rfl rfl rfl rfl rfl (by exact (by first | exact opd_field_ref rfl fo42_2 rfl rfl rfl rfl | exact opd_field_pad rfl fo42_2 rfl rfl)) ?_)
              all_goals (first | refine al_off rfl rfl rfl rfl rfl ?_ | refine al_offu rfl rfl rfl rfl ?_ | refine al_ond rfl rfl rfl rfl rfl rfl (by exact (by first | exact opd_loadn_ref rfl Tryz.isAgg38 Tryz.sizeOf38 rfl rfl rfl rfl (by simp only [List.drop_succ_cons, List.drop_zero, List.take_succ_cons, List.take_zero, List.take_nil, List.map_cons, List.map_nil, List.set_cons_zero, List.set_cons_succ, List.cons_append, List.nil_append, encTag, encObj, encStr, encEdit, encInt]; rfl) rfl | exact opd_loadn_pad rfl Tryz.isAgg38 Tryz.sizeOf38 rfl (by first | omega | assumption) (by simp only [List.drop_succ_cons, List.drop_zero, List.take_succ_cons, List.take_zero, List.take_nil, List.map_cons, List.map_nil, List.set_cons_zero, List.set_cons_succ, List.cons_append, List.nil_append, encTag, encObj, encStr, encEdit, encInt]; rfl) rfl)) ?_)
              all_goals (first | refine al_off rfl rfl rfl rfl rfl ?_ | refine al_offu rfl rfl rfl rfl ?_ | refine al_ond rfl rfl rfl rfl rfl rfl (by exact (by first | exact opd_field_ref rfl fo44_4 rfl rfl rfl rfl | exact opd_field_pad rfl fo44_4 rfl rfl)) ?_)
              all_goals (first | refine al_off rfl rfl rfl rfl rfl ?_ | refine al_offu rfl rfl rfl rfl ?_ | refine al_ond rfl rfl rfl rfl rfl rfl (by exact (by first | exact opd_loadn_ref rfl Tryz.isAgg38 Tryz.sizeOf38 rfl rfl rfl rfl (by simp only [List.drop_succ_cons, List.drop_zero, List.take_succ_cons, List.take_zero, List.take_nil, List.map_cons, List.map_nil, List.set_cons_zero, List.set_cons_succ, List.cons_append, List.nil_append, encTag, encObj, encStr, encEdit, encInt]; rfl) rfl | exact opd_loadn_pad rfl Tryz.isAgg38 Tryz.sizeOf38 rfl (by first | omega | assumption) (by simp only [List.drop_succ_cons, List.drop_zero, List.take_succ_cons, List.take_zero, List.take_nil, List.map_cons, List.map_nil, List.set_cons_zero, List.set_cons_succ, List.cons_append, List.nil_append, encTag, encObj, encStr, encEdit, encInt]; rfl) rfl)) ?_)
              all_goals (first | refine al_off rfl rfl rfl rfl rfl ?_ | refine al_offu rfl rfl rfl rfl ?_ | refine al_ond rfl rfl rfl rfl rfl rfl (by exact opr_call rfl rfl Tryz.call111 rfl (distance_c o.x o.y e.x e.y _)) ?_)
              all_goals (first | refine al_off rfl rfl rfl rfl rfl ?_ | refine al_offu rfl rfl rfl rfl ?_ | refine al_ond rfl rfl rfl rfl rfl rfl (by exact opd_geq rfl rfl rfl) ?_)
              all_goals (refine al_d rfl rfl rfl (by exact (by first | exact opd_pick_t rfl rfl rfl | exact opd_pick_f rfl rfl rfl | exact opd_pickt rfl rfl (by assumption) rfl | exact opd_pickf rfl rfl (by assumption) rfl | exact opd_pick rfl rfl rfl)) ?_)
              all_goals (refine al_d rfl rfl rfl (by exact opd_assign rfl rfl) ?_)
              all_goals (refine al_nil ?_)
              all_goals (exact ⟨⟨_, rfl, by first | rfl | (simp only [*, Bool.false_and, Bool.true_and, Bool.and_false, Bool.and_true, Bool.true_or, Bool.false_or, Bool.or_true, Bool.or_false, Bool.not_true, Bool.not_false]; done) | (simp_all; done) | (simp_all; omega)⟩, rfl, rfl, rfl⟩)
            refine awp_ret ?_
            -- return
            refine aret1 (H' := []) (by first | exact .inr rfl | exact .inl rfl) rfl (rval_tmp rfl) (Fin.wk (by simp) trivial trivial) ?_
            exact ⟨rfl, rfl⟩
end Go.Proofs.YtdgoodjhndeojaaGreat
end
