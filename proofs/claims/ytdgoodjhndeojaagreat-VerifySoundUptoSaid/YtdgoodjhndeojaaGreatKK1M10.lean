/-
  CONTRACT: evidence.Find. Conditions: lengths below 2^40.
  CONTRACTS: package planispherelaw32: nodes, head. Conditions: none.
  CONTRACT: planispherelaw32.head: the chapter's examples hold. Conditions: none.
  PLAIN LAWS: the law's own test of evidence says what evidence is. Conditions: none.
  PLAIN LAWS: the small checker says what evidence is, for a valid map and valid edits. Conditions: none.
  PLAIN LAW: what shows evidence to the small checker, at a valid map and a valid edit. CONTRACT: planispherelaw32.VerifyFound answers true. Conditions: the arguments' sizes.
  WHAT THE ARGUMENTS OF THE LAWS HOLD: edits, as the contracts ask. Conditions: none.
-/
import Derived.Test.YtdgoodjhndeojaaGreatKK1M9
section
set_option linter.unusedVariables false
set_option linter.unusedSimpArgs false
set_option maxRecDepth 100000
namespace Go.Proofs.YtdgoodjhndeojaaGreat
open Go.Abs

theorem susBox_clo (k : Nat) {H : Heap} (h : (H.get 803).isSome = true) : ∀ r ∈ [susRow k], ∀ a ∈ r, Clo H a := by
  intro r hr
  rw [List.mem_singleton] at hr
  subst hr
  exact susRow_clo k h
theorem allT_c (m : List GObj) (H : Heap) (hm : okM m) (hcl : closedB m = true) : ACalls Tryz.prog 40 [.agg [.pv (slObjs m)], lv []] H (fun r H' => r = .tup [.agg [.pv (slObjs m)], iv (-1), iv 0] ∧ H' = H) := by
  have h := allNil_c m H hm
  simp only [hcl, if_true] at h
  exact h
theorem allF_c (m : List GObj) (H : Heap) (hm : okM m) (hcl : closedB m = false) : ACalls Tryz.prog 40 [.agg [.pv (slObjs m)], lv []] H (fun r H' => r = .tup [.agg [lv []], iv (-1), iv 1] ∧ H' = H) := by
  have h := allNil_c m H hm
  simp only [hcl, Bool.false_eq_true, if_false] at h
  exact h
theorem susF_c (m : List GObj) (H : Heap) (h1 : H.get 812 = none) (h2 : H.get 803 = none) (h3 : H.get 801 = none) : ACalls Tryz.prog 55 [.agg [.pv (slObjs m)]] H (fun r H' => r = .osl 812 0 0 4 ∧ H' = sH m ++ H) :=
  ACalls.frame (suspicions_c m) (fun _ _ h => by cases h) (fun _ _ h => by cases h) (by simp) (fun id hi => by
    right
    have : id = 812 ∨ id = 803 ∨ id = 801 := by
      simp only [Heap.get] at hi
      cases e1 : Nat.beq 812 id with
      | true => exact .inl (Nat.eq_of_beq_eq_true e1).symm
      | false =>
        cases e2 : Nat.beq 803 id with
        | true => exact .inr (.inl (Nat.eq_of_beq_eq_true e2).symm)
        | false =>
          cases e3 : Nat.beq 801 id with
          | true => exact .inr (.inr (Nat.eq_of_beq_eq_true e3).symm)
          | false => rw [e1, e2, e3] at hi; cases hi
    rcases this with rfl | rfl | rfl
    · exact h1
    · exact h2
    · exact h3)
def gFind (m : List GObj) (l : List GEdit) : Int × List Int := if closedB m && gChange l then ((((gFind0 m l).1 : Nat) : Int), toI (gFind0 m l).2) else (0, [])
abbrev ev0 : Ob := bx 2 31 [iv 0, lv []]
theorem evFind_c (m : List GObj) (l : List GEdit) (H : Heap) (hm : okM m) (hl : l.length < 1099511627776) (he : ∀ e ∈ l, okE e) : ACalls Tryz.prog 19 [.agg [.pv (slObjs m)], .pv (slEdits l)] H (fun r H' => r = .agg [iv (gFind m l).1, .pv (slInts (gFind m l).2)] ∧ H' = H) := by
  refine ACalls.pure ?_ (by simp) H
  have hml : (l.map encEdit).length = l.length := List.length_map _
  have het : ∀ y ∈ l, y.obj.tags.length < 4611686018427387904 := fun y hy => (he y hy).2.2.2.1.1
  refine ACalls.body Tryz.func19 rfl Tryz.ntmps19 (Nat.le_of_ble_eq_true rfl) ?_
  cases hcl : closedB m with
  | false =>
    have hg : gFind m l = (0, []) := by rw [gFind, hcl]; rfl
    rw [hg]
    refine awp_seq ?_
    refine awp_region ?_
    refine al_d rfl rfl rfl (by exact opd_box (id := 2) rfl rfl rfl rfl rfl) ?_
    refine al_d rfl rfl rfl (by exact x_alloc (id := 4) rfl zo31 rfl rfl) ?_
    refine al_nil ?_
    refine awp_scope ?_
    refine awp_seq ?_
    refine awp_seq ?_
    refine awp_region ?_
    refine al_d rfl rfl rfl (by exact (by first | exact opd_loadn_ref rfl Tryz.isAgg24 Tryz.sizeOf24 rfl rfl rfl rfl (by simp only [List.drop_succ_cons, List.drop_zero, List.take_succ_cons, List.take_zero, List.take_nil, List.map_cons, List.map_nil, List.set_cons_zero, List.set_cons_succ, List.cons_append, List.nil_append, encTag, encObj, encStr, encEdit, encInt]; rfl) rfl | exact opd_loadn_pad rfl Tryz.isAgg24 Tryz.sizeOf24 rfl (by first | omega | assumption) (by simp only [List.drop_succ_cons, List.drop_zero, List.take_succ_cons, List.take_zero, List.take_nil, List.map_cons, List.map_nil, List.set_cons_zero, List.set_cons_succ, List.cons_append, List.nil_append, encTag, encObj, encStr, encEdit, encInt]; rfl) rfl)) ?_
    refine al_d rfl rfl rfl (by exact opr_call rfl rfl Tryz.call40 rfl (allF_c m _ hm hcl)) ?_
    refine al_d rfl rfl rfl (by exact opd_move rfl rfl) ?_
    refine al_d rfl rfl rfl (by exact opd_extract rfl rfl rfl) ?_
    refine al_d rfl rfl rfl (by exact opd_extract rfl rfl rfl) ?_
    refine al_d rfl rfl rfl (by exact opd_extract rfl rfl rfl) ?_
    refine al_d rfl rfl rfl (by exact x_alloc (id := 5) rfl zo24 rfl rfl) ?_
    refine al_n rfl rfl (by exact (by first | exact x_store_all rfl Tryz.sizeOf24 rfl rfl rfl rfl rfl rfl rfl rfl | exact x_store1 rfl Tryz.sizeOf24 rfl rfl rfl rfl rfl rfl (by simp only [List.length_cons, List.length_nil]; omega) (by simp only [List.drop_succ_cons, List.drop_zero, List.take_succ_cons, List.take_zero, List.take_nil, List.map_cons, List.map_nil, List.set_cons_zero, List.set_cons_succ, List.cons_append, List.nil_append, encTag, encObj, encStr, encEdit, encInt]; rfl) (by simp only [List.drop_succ_cons, List.drop_zero, List.take_succ_cons, List.take_zero, List.take_nil, List.map_cons, List.map_nil, List.set_cons_zero, List.set_cons_succ, List.cons_append, List.nil_append, encTag, encObj, encStr, encEdit, encInt]; rfl) | exact x_store1 rfl Tryz.sizeOf24 rfl rfl rfl rfl rfl rfl (Nat.le_of_ble_eq_true rfl) rfl rfl)) ?_
    refine al_d rfl rfl rfl (by exact opd_assign rfl rfl) ?_
    refine al_d rfl rfl rfl (by exact opd_assign rfl rfl) ?_
    refine al_nil ?_
    refine awp_seq ?_
    refine awp_bool (t := 28) (n := 8) (X := true) ?_ ?_
    · all_goals (refine al_d rfl rfl rfl (by exact opd_move rfl rfl) ?_)
      all_goals (refine al_d rfl rfl rfl (by exact opd_neq rfl rfl rfl) ?_)
      all_goals (refine al_d rfl rfl rfl (by exact opd_move rfl rfl) ?_)
      all_goals (first | refine al_split (t := 24) rfl (fun h24 => ?_) (fun h24 => ?_) | refine al_dup (t := 24) rfl ?_ | skip)
      all_goals (try contradiction)
      all_goals (first | refine al_off rfl rfl rfl rfl rfl ?_ | refine al_offu rfl rfl rfl rfl ?_ | refine al_ond rfl rfl rfl rfl rfl rfl (by exact opd_move rfl rfl) ?_)
      all_goals (first | refine al_off rfl rfl rfl rfl rfl ?_ | refine al_offu rfl rfl rfl rfl ?_ | refine al_ond rfl rfl rfl rfl rfl rfl (by exact opr_call rfl rfl Tryz.call22 rfl (changeValid_c l _ (by omega) he)) ?_)
      all_goals (first | refine al_off rfl rfl rfl rfl rfl ?_ | refine al_offu rfl rfl rfl rfl ?_ | refine al_ond rfl rfl rfl rfl rfl rfl (by exact opd_not rfl rfl) ?_)
      all_goals (refine al_d rfl rfl rfl (by exact (by first | exact opd_pick_t rfl rfl rfl | exact opd_pick_f rfl rfl rfl | exact opd_pickt rfl rfl (by assumption) rfl | exact opd_pickf rfl rfl (by assumption) rfl | exact opd_pick rfl rfl rfl)) ?_)
      all_goals (refine al_nil ?_)
      all_goals (exact ⟨⟨_, rfl, by first | rfl | (simp only [*, Bool.false_and, Bool.true_and, Bool.and_false, Bool.and_true, Bool.true_or, Bool.false_or, Bool.or_true, Bool.or_false, Bool.not_true, Bool.not_false]; done) | (simp_all; done) | (simp_all; omega)⟩, rfl, rfl, rfl⟩)
    refine awp_cond rfl (fun hc1 => ?_) (fun hc1 => ?_)
    -- cond 1
    · skip
      refine awp_seq ?_
      refine awp_region ?_
      refine al_d rfl rfl rfl (by exact x_build rfl bo31 rfl rfl) ?_
      refine al_n rfl rfl (by exact (by first | exact x_store_all rfl Tryz.sizeOf31 rfl rfl rfl rfl rfl rfl rfl rfl | exact x_store rfl Tryz.sizeOf31 rfl rfl rfl rfl rfl rfl rfl (by simp only [List.length_cons, List.length_nil]; omega) (by simp only [List.drop_succ_cons, List.drop_zero, List.take_succ_cons, List.take_zero, List.take_nil, List.map_cons, List.map_nil, List.set_cons_zero, List.set_cons_succ, List.cons_append, List.nil_append, encTag, encObj, encStr, encEdit, encInt]; rfl) (by simp only [List.drop_succ_cons, List.drop_zero, List.take_succ_cons, List.take_zero, List.take_nil, List.map_cons, List.map_nil, List.set_cons_zero, List.set_cons_succ, List.cons_append, List.nil_append, encTag, encObj, encStr, encEdit, encInt]; rfl) | exact x_store rfl Tryz.sizeOf31 rfl rfl rfl rfl rfl rfl rfl (Nat.le_of_ble_eq_true rfl) rfl rfl)) ?_
      refine al_nil ?_
      refine awp_ret ?_
      -- return
      refine aret1 (H' := []) (by first | exact .inr rfl | exact .inl rfl) rfl (rval_cell rfl Tryz.isAgg31 Tryz.sizeOf31 rfl rfl rfl rfl rfl) (Fin.wk (r := .agg [iv 0, lv []]) (by simp) trivial trivial) ?_
      exact ⟨rfl, rfl⟩
    · cases hc1
  | true =>
    refine awp_seq ?_
    refine awp_region ?_
    refine al_d rfl rfl rfl (by exact opd_box (id := 2) rfl rfl rfl rfl rfl) ?_
    refine al_d rfl rfl rfl (by exact x_alloc (id := 4) rfl zo31 rfl rfl) ?_
    refine al_nil ?_
    refine awp_scope ?_
    refine awp_seq ?_
    refine awp_seq ?_
    refine awp_region ?_
    refine al_d rfl rfl rfl (by exact (by first | exact opd_loadn_ref rfl Tryz.isAgg24 Tryz.sizeOf24 rfl rfl rfl rfl (by simp only [List.drop_succ_cons, List.drop_zero, List.take_succ_cons, List.take_zero, List.take_nil, List.map_cons, List.map_nil, List.set_cons_zero, List.set_cons_succ, List.cons_append, List.nil_append, encTag, encObj, encStr, encEdit, encInt]; rfl) rfl | exact opd_loadn_pad rfl Tryz.isAgg24 Tryz.sizeOf24 rfl (by first | omega | assumption) (by simp only [List.drop_succ_cons, List.drop_zero, List.take_succ_cons, List.take_zero, List.take_nil, List.map_cons, List.map_nil, List.set_cons_zero, List.set_cons_succ, List.cons_append, List.nil_append, encTag, encObj, encStr, encEdit, encInt]; rfl) rfl)) ?_
    refine al_d rfl rfl rfl (by exact opr_call rfl rfl Tryz.call40 rfl (allT_c m _ hm hcl)) ?_
    refine al_d rfl rfl rfl (by exact opd_move rfl rfl) ?_
    refine al_d rfl rfl rfl (by exact opd_extract rfl rfl rfl) ?_
    refine al_d rfl rfl rfl (by exact opd_extract rfl rfl rfl) ?_
    refine al_d rfl rfl rfl (by exact opd_extract rfl rfl rfl) ?_
    refine al_d rfl rfl rfl (by exact x_alloc (id := 5) rfl zo24 rfl rfl) ?_
    refine al_n rfl rfl (by exact (by first | exact x_store_all rfl Tryz.sizeOf24 rfl rfl rfl rfl rfl rfl rfl rfl | exact x_store1 rfl Tryz.sizeOf24 rfl rfl rfl rfl rfl rfl (by simp only [List.length_cons, List.length_nil]; omega) (by simp only [List.drop_succ_cons, List.drop_zero, List.take_succ_cons, List.take_zero, List.take_nil, List.map_cons, List.map_nil, List.set_cons_zero, List.set_cons_succ, List.cons_append, List.nil_append, encTag, encObj, encStr, encEdit, encInt]; rfl) (by simp only [List.drop_succ_cons, List.drop_zero, List.take_succ_cons, List.take_zero, List.take_nil, List.map_cons, List.map_nil, List.set_cons_zero, List.set_cons_succ, List.cons_append, List.nil_append, encTag, encObj, encStr, encEdit, encInt]; rfl) | exact x_store1 rfl Tryz.sizeOf24 rfl rfl rfl rfl rfl rfl (Nat.le_of_ble_eq_true rfl) rfl rfl)) ?_
    refine al_d rfl rfl rfl (by exact opd_assign rfl rfl) ?_
    refine al_d rfl rfl rfl (by exact opd_assign rfl rfl) ?_
    refine al_nil ?_
    refine awp_seq ?_
    refine awp_bool (t := 28) (n := 8) (X := !gChange l) ?_ ?_
    · all_goals (refine al_d rfl rfl rfl (by exact opd_move rfl rfl) ?_)
      all_goals (refine al_d rfl rfl rfl (by exact opd_neq rfl rfl rfl) ?_)
      all_goals (refine al_d rfl rfl rfl (by exact opd_move rfl rfl) ?_)
      all_goals (first | refine al_split (t := 24) rfl (fun h24 => ?_) (fun h24 => ?_) | refine al_dup (t := 24) rfl ?_ | skip)
      all_goals (try contradiction)
      all_goals (first | refine al_off rfl rfl rfl rfl rfl ?_ | refine al_offu rfl rfl rfl rfl ?_ | refine al_ond rfl rfl rfl rfl rfl rfl (by exact opd_move rfl rfl) ?_)
      all_goals (first | refine al_off rfl rfl rfl rfl rfl ?_ | refine al_offu rfl rfl rfl rfl ?_ | refine al_ond rfl rfl rfl rfl rfl rfl (by exact opr_call rfl rfl Tryz.call22 rfl (changeValid_c l _ (by omega) he)) ?_)
      all_goals (first | refine al_off rfl rfl rfl rfl rfl ?_ | refine al_offu rfl rfl rfl rfl ?_ | refine al_ond rfl rfl rfl rfl rfl rfl (by exact opd_not rfl rfl) ?_)
      all_goals (refine al_d rfl rfl rfl (by exact (by first | exact opd_pick_t rfl rfl rfl | exact opd_pick_f rfl rfl rfl | exact opd_pickt rfl rfl (by assumption) rfl | exact opd_pickf rfl rfl (by assumption) rfl | exact opd_pick rfl rfl rfl)) ?_)
      all_goals (refine al_nil ?_)
      all_goals (exact ⟨⟨_, rfl, by first | rfl | (simp only [*, Bool.false_and, Bool.true_and, Bool.and_false, Bool.and_true, Bool.true_or, Bool.false_or, Bool.or_true, Bool.or_false, Bool.not_true, Bool.not_false]; done) | (simp_all; done) | (simp_all; omega)⟩, rfl, rfl, rfl⟩)
    refine awp_cond rfl (fun hc2 => ?_) (fun hc2 => ?_)
    -- cond 2
    · have hch : gChange l = false := by simpa using hc2
      have hg : gFind m l = (0, []) := by rw [gFind, hcl, hch]; rfl
      rw [hg]
      refine awp_seq ?_
      refine awp_region ?_
      refine al_d rfl rfl rfl (by exact x_build rfl bo31 rfl rfl) ?_
      refine al_n rfl rfl (by exact (by first | exact x_store_all rfl Tryz.sizeOf31 rfl rfl rfl rfl rfl rfl rfl rfl | exact x_store rfl Tryz.sizeOf31 rfl rfl rfl rfl rfl rfl rfl (by simp only [List.length_cons, List.length_nil]; omega) (by simp only [List.drop_succ_cons, List.drop_zero, List.take_succ_cons, List.take_zero, List.take_nil, List.map_cons, List.map_nil, List.set_cons_zero, List.set_cons_succ, List.cons_append, List.nil_append, encTag, encObj, encStr, encEdit, encInt]; rfl) (by simp only [List.drop_succ_cons, List.drop_zero, List.take_succ_cons, List.take_zero, List.take_nil, List.map_cons, List.map_nil, List.set_cons_zero, List.set_cons_succ, List.cons_append, List.nil_append, encTag, encObj, encStr, encEdit, encInt]; rfl) | exact x_store rfl Tryz.sizeOf31 rfl rfl rfl rfl rfl rfl rfl (Nat.le_of_ble_eq_true rfl) rfl rfl)) ?_
      refine al_nil ?_
      refine awp_ret ?_
      -- return
      refine aret1 (H' := []) (by first | exact .inr rfl | exact .inl rfl) rfl (rval_cell rfl Tryz.isAgg31 Tryz.sizeOf31 rfl rfl rfl rfl rfl) (Fin.wk (r := .agg [iv 0, lv []]) (by simp) trivial trivial) ?_
      exact ⟨rfl, rfl⟩
    · have hch : gChange l = true := by simpa using hc2
      have hg : gFind m l = ((((gFind0 m l).1 : Nat) : Int), toI (gFind0 m l).2) := by rw [gFind, hcl, hch]; rfl
      rw [hg]
      refine awp_skip ?_
      refine awp_seq ?_
      refine awp_region ?_
      refine al_d rfl rfl rfl (by exact opd_assign rfl rfl) ?_
      refine al_nil ?_
      refine awp_seq ?_
      refine awp_seq ?_
      refine awp_region ?_
      refine al_d rfl rfl rfl (by exact opd_move rfl rfl) ?_
      refine al_d rfl rfl rfl (by exact (by first | exact opd_len_sl rfl Tryz.underlying25 rfl | exact opd_len_osl rfl Tryz.underlying25 rfl rfl rfl)) ?_
      refine al_d rfl rfl rfl (by exact opd_move rfl rfl) ?_
      refine al_nil ?_
      refine awp_block ?_
      -- loop
      refine awp_loop (σ := Nat) (fun k => ([(1, .pv (slEdits l)), (2, .ref 2 0 0 0), (4, .ref 4 0 0 0), (8, iv (nDrops (l.take k) : Nat)), (30, .pv (slEdits l)), (31, iv ((l.map encEdit).length : Int)), (32, iv (k : Int))], [(4, ev0), (2, bx 1 24 [.pv (slObjs m)])])) (fun k => k ≤ l.length) (fun k => l.length - k) 0 (by omega) ?_ ?_
      · exact (Ent.wk ⟨⟨_, rfl, rfl⟩, (by first | (simp; done) | (simp; rfl) | exact clo_map _ _ _ | exact susRows_clo rfl | exact susBox_clo _ rfl), ⟨_, rfl, rfl⟩, (by first | (simp; done) | (simp; rfl) | exact clo_map _ _ _ | exact susRows_clo rfl | exact susBox_clo _ rfl), ⟨_, rfl, rfl⟩, (by first | (simp; done) | (simp; rfl) | exact clo_map _ _ _ | exact susRows_clo rfl | exact susBox_clo _ rfl), ⟨_, rfl, rfl⟩, (by first | (simp; done) | (simp; rfl) | exact clo_map _ _ _ | exact susRows_clo rfl | exact susBox_clo _ rfl), ⟨_, rfl, rfl⟩, (by first | (simp; done) | (simp; rfl) | exact clo_map _ _ _ | exact susRows_clo rfl | exact susBox_clo _ rfl), ⟨_, rfl, rfl⟩, (by first | (simp; done) | (simp; rfl) | exact clo_map _ _ _ | exact susRows_clo rfl | exact susBox_clo _ rfl), ⟨_, rfl, rfl⟩, (by first | (simp; done) | (simp; rfl) | exact clo_map _ _ _ | exact susRows_clo rfl | exact susBox_clo _ rfl), trivial⟩ ⟨⟨_, rfl, rfl⟩, (by first | (simp; done) | (simp; rfl) | exact clo_map _ _ _ | exact susRows_clo rfl | exact susBox_clo _ rfl), ⟨_, rfl, rfl⟩, (by first | (simp; done) | (simp; rfl) | exact clo_map _ _ _ | exact susRows_clo rfl | exact susBox_clo _ rfl), trivial⟩ trivial)
      · intro k hk
        refine awp_seq ?_
        refine awp_region ?_
        refine al_d rfl rfl rfl (by exact opd_lss rfl rfl rfl) ?_
        refine al_nil ?_
        refine awp_seq ?_
        refine awp_cond rfl (fun hc3 => ?_) (fun hc3 => ?_)
        -- cond 3
        · have hlt : k < l.length := by have := of_decide_eq_true hc3; omega
          obtain ⟨e, hke⟩ := get_of_lt hlt
          have hi := map_get (f := encEdit) hke
          have hct : nDrops (l.take (k + 1)) = nDrops (l.take k) + (if isDrop e then 1 else 0) := countP_take isDrop hke
          have hcb : nDrops (l.take k) ≤ (l.take k).length := List.countP_le_length
          rw [List.length_take] at hcb
          refine awp_skip ?_
          refine awp_seq ?_
          refine awp_block ?_
          refine awp_seq ?_
          refine awp_region ?_
          refine al_d rfl rfl rfl (by exact (by first | exact x_index_pad rfl so25 rfl rfl (by omega) (by first | exact Int.toNat_natCast _ | rfl) (by assumption) rfl | exact x_index_osl rfl so25 rfl rfl rfl rfl rfl (by omega) (by first | exact Int.toNat_natCast _ | rfl) (by first | omega | assumption) rfl)) ?_
          refine al_d rfl rfl rfl (by exact (by first | exact opd_loadn_ref rfl Tryz.isAgg44 Tryz.sizeOf44 rfl rfl rfl rfl (by simp only [List.drop_succ_cons, List.drop_zero, List.take_succ_cons, List.take_zero, List.take_nil, List.map_cons, List.map_nil, List.set_cons_zero, List.set_cons_succ, List.cons_append, List.nil_append, encTag, encObj, encStr, encEdit, encInt]; rfl) rfl | exact opd_loadn_pad rfl Tryz.isAgg44 Tryz.sizeOf44 rfl (by first | omega | assumption) (by simp only [List.drop_succ_cons, List.drop_zero, List.take_succ_cons, List.take_zero, List.take_nil, List.map_cons, List.map_nil, List.set_cons_zero, List.set_cons_succ, List.cons_append, List.nil_append, encTag, encObj, encStr, encEdit, encInt]; rfl) rfl)) ?_
          refine al_d rfl rfl rfl (by exact x_alloc (id := 10) rfl zo44 rfl rfl) ?_
          refine al_n rfl rfl (by exact (by first | exact x_store_all rfl Tryz.sizeOf44 rfl rfl rfl rfl rfl rfl rfl rfl | exact x_store rfl Tryz.sizeOf44 rfl rfl rfl rfl rfl rfl rfl (by simp only [List.length_cons, List.length_nil]; omega) (by simp only [List.drop_succ_cons, List.drop_zero, List.take_succ_cons, List.take_zero, List.take_nil, List.map_cons, List.map_nil, List.set_cons_zero, List.set_cons_succ, List.cons_append, List.nil_append, encTag, encObj, encStr, encEdit, encInt]; rfl) (by simp only [List.drop_succ_cons, List.drop_zero, List.take_succ_cons, List.take_zero, List.take_nil, List.map_cons, List.map_nil, List.set_cons_zero, List.set_cons_succ, List.cons_append, List.nil_append, encTag, encObj, encStr, encEdit, encInt]; rfl) | exact x_store rfl Tryz.sizeOf44 rfl rfl rfl rfl rfl rfl rfl (Nat.le_of_ble_eq_true rfl) rfl rfl)) ?_
          refine al_nil ?_
          refine awp_seq ?_
          refine awp_region ?_
          refine al_d rfl rfl rfl (by exact (by first | exact opd_field_ref rfl fo44_0 rfl rfl rfl rfl | exact opd_field_pad rfl fo44_0 rfl rfl)) ?_
          refine al_d rfl rfl rfl (by exact (by first | exact opd_load1_ref rfl Tryz.isAgg3 rfl rfl rfl rfl rfl | exact opd_load1_pad rfl Tryz.isAgg3 rfl (by first | omega | assumption) rfl)) ?_
          refine al_d rfl rfl rfl (by exact opd_eql rfl rfl rfl) ?_
          refine al_nil ?_
          refine awp_cond rfl (fun hc4 => ?_) (fun hc4 => ?_)
          -- cond 4
          · have hd : isDrop e = true := hc4
            rw [hd] at hct
            refine awp_region ?_
            refine al_d rfl rfl rfl (by exact opd_move rfl rfl) ?_
            refine al_d rfl rfl rfl (by exact opd_add rfl rfl rfl (by first | exact w64 (by omega) (by omega) | exact wu8 (by omega) (by omega) | rfl)) ?_
            refine al_d rfl rfl rfl (by exact opd_assign rfl rfl) ?_
            refine al_nil ?_
            refine awp_region ?_
            refine al_d rfl rfl rfl (by exact opd_add rfl rfl rfl (by first | exact w64 (by omega) (by omega) | exact wu8 (by omega) (by omega) | rfl)) ?_
            refine al_d rfl rfl rfl (by exact opd_move rfl rfl) ?_
            refine al_nil ?_
            -- end of a round
            refine ⟨k + 1, by omega, by omega, ?_⟩
            rw [hct]
            exact (Ent.wk ⟨⟨_, rfl, rfl⟩, (by first | (simp; done) | (simp; rfl) | exact clo_map _ _ _ | exact susRows_clo rfl | exact susBox_clo _ rfl), ⟨_, rfl, rfl⟩, (by first | (simp; done) | (simp; rfl) | exact clo_map _ _ _ | exact susRows_clo rfl | exact susBox_clo _ rfl), ⟨_, rfl, rfl⟩, (by first | (simp; done) | (simp; rfl) | exact clo_map _ _ _ | exact susRows_clo rfl | exact susBox_clo _ rfl), ⟨_, rfl, rfl⟩, (by first | (simp; done) | (simp; rfl) | exact clo_map _ _ _ | exact susRows_clo rfl | exact susBox_clo _ rfl), ⟨_, rfl, rfl⟩, (by first | (simp; done) | (simp; rfl) | exact clo_map _ _ _ | exact susRows_clo rfl | exact susBox_clo _ rfl), ⟨_, rfl, rfl⟩, (by first | (simp; done) | (simp; rfl) | exact clo_map _ _ _ | exact susRows_clo rfl | exact susBox_clo _ rfl), ⟨_, rfl, rfl⟩, (by first | (simp; done) | (simp; rfl) | exact clo_map _ _ _ | exact susRows_clo rfl | exact susBox_clo _ rfl), trivial⟩ ⟨⟨_, rfl, rfl⟩, (by first | (simp; done) | (simp; rfl) | exact clo_map _ _ _ | exact susRows_clo rfl | exact susBox_clo _ rfl), ⟨_, rfl, rfl⟩, (by first | (simp; done) | (simp; rfl) | exact clo_map _ _ _ | exact susRows_clo rfl | exact susBox_clo _ rfl), trivial⟩ trivial)
          · have hd : isDrop e = false := hc4
            rw [hd] at hct
            refine awp_skip ?_
            refine awp_region ?_
            refine al_d rfl rfl rfl (by exact opd_add rfl rfl rfl (by first | exact w64 (by omega) (by omega) | exact wu8 (by omega) (by omega) | rfl)) ?_
            refine al_d rfl rfl rfl (by exact opd_move rfl rfl) ?_
            refine al_nil ?_
            -- end of a round
            refine ⟨k + 1, by omega, by omega, ?_⟩
            rw [hct]
            exact (Ent.wk ⟨⟨_, rfl, rfl⟩, (by first | (simp; done) | (simp; rfl) | exact clo_map _ _ _ | exact susRows_clo rfl | exact susBox_clo _ rfl), ⟨_, rfl, rfl⟩, (by first | (simp; done) | (simp; rfl) | exact clo_map _ _ _ | exact susRows_clo rfl | exact susBox_clo _ rfl), ⟨_, rfl, rfl⟩, (by first | (simp; done) | (simp; rfl) | exact clo_map _ _ _ | exact susRows_clo rfl | exact susBox_clo _ rfl), ⟨_, rfl, rfl⟩, (by first | (simp; done) | (simp; rfl) | exact clo_map _ _ _ | exact susRows_clo rfl | exact susBox_clo _ rfl), ⟨_, rfl, rfl⟩, (by first | (simp; done) | (simp; rfl) | exact clo_map _ _ _ | exact susRows_clo rfl | exact susBox_clo _ rfl), ⟨_, rfl, rfl⟩, (by first | (simp; done) | (simp; rfl) | exact clo_map _ _ _ | exact susRows_clo rfl | exact susBox_clo _ rfl), ⟨_, rfl, rfl⟩, (by first | (simp; done) | (simp; rfl) | exact clo_map _ _ _ | exact susRows_clo rfl | exact susBox_clo _ rfl), trivial⟩ ⟨⟨_, rfl, rfl⟩, (by first | (simp; done) | (simp; rfl) | exact clo_map _ _ _ | exact susRows_clo rfl | exact susBox_clo _ rfl), ⟨_, rfl, rfl⟩, (by first | (simp; done) | (simp; rfl) | exact clo_map _ _ _ | exact susRows_clo rfl | exact susBox_clo _ rfl), trivial⟩ trivial)
        · have hge : k = l.length := by have := of_decide_eq_false hc3; omega
          subst hge
          rw [List.take_length]
          have hnd : nDrops l ≤ l.length := List.countP_le_length
          refine awp_exit ?_
          refine awp_seq ?_
          refine awp_label ?_
          refine awp_seq ?_
          refine awp_seq ?_
          refine awp_region ?_
          refine al_d rfl rfl rfl (by exact (by first | exact opd_loadn_ref rfl Tryz.isAgg24 Tryz.sizeOf24 rfl rfl rfl rfl (by simp only [List.drop_succ_cons, List.drop_zero, List.take_succ_cons, List.take_zero, List.take_nil, List.map_cons, List.map_nil, List.set_cons_zero, List.set_cons_succ, List.cons_append, List.nil_append, encTag, encObj, encStr, encEdit, encInt]; rfl) rfl | exact opd_loadn_pad rfl Tryz.isAgg24 Tryz.sizeOf24 rfl (by first | omega | assumption) (by simp only [List.drop_succ_cons, List.drop_zero, List.take_succ_cons, List.take_zero, List.take_nil, List.map_cons, List.map_nil, List.set_cons_zero, List.set_cons_succ, List.cons_append, List.nil_append, encTag, encObj, encStr, encEdit, encInt]; rfl) rfl)) ?_
          refine al_d rfl rfl rfl (by exact opr_call rfl rfl Tryz.call55 rfl (susF_c m _ rfl rfl rfl)) ?_
          refine al_d rfl rfl rfl (by exact (by first | exact opd_len_sl rfl Tryz.underlying76 rfl | exact opd_len_osl rfl Tryz.underlying76 rfl rfl rfl)) ?_
          refine al_d rfl rfl rfl (by exact opd_move rfl rfl) ?_
          refine al_nil ?_
          refine awp_block ?_
          -- loop
          refine awp_loop (σ := Nat) (fun i => ([(1, .pv (slEdits l)), (4, .ref 4 0 0 0), (8, iv (nDrops l : Nat)), (43, .osl 812 0 0 4), (44, iv 4), (45, iv (i : Int))], sH m ++ [(4, ev0)])) (fun i => i ≤ 4 ∧ kFirst m l (4 - i) (i + 1) = gFind0 m l) (fun i => 4 - i) 0 ⟨by omega, rfl⟩ ?_ ?_
          · exact (Ent.wk ⟨⟨_, rfl, rfl⟩, (by first | (simp; done) | (simp; rfl) | exact clo_map _ _ _ | exact susRows_clo rfl | exact susBox_clo _ rfl), ⟨_, rfl, rfl⟩, (by first | (simp; done) | (simp; rfl) | exact clo_map _ _ _ | exact susRows_clo rfl | exact susBox_clo _ rfl), ⟨_, rfl, rfl⟩, (by first | (simp; done) | (simp; rfl) | exact clo_map _ _ _ | exact susRows_clo rfl | exact susBox_clo _ rfl), ⟨_, rfl, rfl⟩, (by first | (simp; done) | (simp; rfl) | exact clo_map _ _ _ | exact susRows_clo rfl | exact susBox_clo _ rfl), ⟨_, rfl, rfl⟩, (by first | (simp; done) | (simp; rfl) | exact clo_map _ _ _ | exact susRows_clo rfl | exact susBox_clo _ rfl), ⟨_, rfl, rfl⟩, (by first | (simp; done) | (simp; rfl) | exact clo_map _ _ _ | exact susRows_clo rfl | exact susBox_clo _ rfl), trivial⟩ ⟨⟨_, rfl, rfl⟩, (by first | (simp; done) | (simp; rfl) | exact clo_map _ _ _ | exact susRows_clo rfl | exact susBox_clo _ rfl), ⟨_, rfl, rfl⟩, (by first | (simp; done) | (simp; rfl) | exact clo_map _ _ _ | exact susRows_clo rfl | exact susBox_clo _ rfl), ⟨_, rfl, rfl⟩, (by first | (simp; done) | (simp; rfl) | exact clo_map _ _ _ | exact susRows_clo rfl | exact susBox_clo _ rfl), ⟨_, rfl, rfl⟩, (by first | (simp; done) | (simp; rfl) | exact clo_map _ _ _ | exact susRows_clo rfl | exact susBox_clo _ rfl), trivial⟩ trivial)
          · rintro i ⟨hi4, hinv⟩
            refine awp_seq ?_
            refine awp_region ?_
            refine al_d rfl rfl rfl (by exact opd_lss rfl rfl rfl) ?_
            refine al_nil ?_
            refine awp_seq ?_
            refine awp_cond rfl (fun hc5 => ?_) (fun hc5 => ?_)
            -- cond 5
            · have hi : i < 4 := by have := of_decide_eq_true hc5; omega
              obtain ⟨d, hd⟩ : ∃ d, 4 - i = d + 1 := ⟨4 - i - 1, by omega⟩
              have hd2 : 4 - (i + 1) = d := by omega
              rw [hd, kFirst] at hinv
              have hrow : susRows[0 + i]? = some (susRow (i + 1)) := by rw [Nat.zero_add]; exact susRow_at hi
              have hw : (((i + 1 : Nat) : Int) = 1) ↔ (i + 1 = 1) := by omega
              refine awp_skip ?_
              refine awp_seq ?_
              refine awp_block ?_
              refine awp_seq ?_
              refine awp_region ?_
              refine al_d rfl rfl rfl (by exact x_index_osl rfl so76 rfl rfl rfl rfl rfl (by omega) (Int.toNat_natCast _) hi rfl) ?_
              refine al_d rfl rfl rfl (by exact opd_loadn_ref (r := susRow (i + 1)) (cs := susRow (i + 1)) rfl Tryz.isAgg80 Tryz.sizeOf80 rfl rfl rfl hrow rfl rfl) ?_
              refine al_d rfl rfl rfl (by exact x_alloc (id := 12) rfl zo80 rfl rfl) ?_
              refine al_n rfl rfl (by exact (by first | exact x_store_all rfl Tryz.sizeOf80 rfl rfl rfl rfl rfl rfl rfl rfl | exact x_store rfl Tryz.sizeOf80 rfl rfl rfl rfl rfl rfl rfl (by simp only [List.length_cons, List.length_nil]; omega) (by simp only [List.drop_succ_cons, List.drop_zero, List.take_succ_cons, List.take_zero, List.take_nil, List.map_cons, List.map_nil, List.set_cons_zero, List.set_cons_succ, List.cons_append, List.nil_append, encTag, encObj, encStr, encEdit, encInt]; rfl) (by simp only [List.drop_succ_cons, List.drop_zero, List.take_succ_cons, List.take_zero, List.take_nil, List.map_cons, List.map_nil, List.set_cons_zero, List.set_cons_succ, List.cons_append, List.nil_append, encTag, encObj, encStr, encEdit, encInt]; rfl) | exact x_store rfl Tryz.sizeOf80 rfl rfl rfl rfl rfl rfl rfl (Nat.le_of_ble_eq_true rfl) rfl rfl)) ?_
              refine al_nil ?_
              refine awp_seq ?_
              refine awp_seq ?_
              refine awp_bool (t := 58) (n := 11) (X := decide (((i + 1 : Nat) : Int) = 1) && decide (2 * (nDrops l : Int) ≤ ((l.map encEdit).length : Int))) ?_ ?_
              · all_goals (refine al_d rfl rfl rfl (by exact (by first | exact opd_field_ref rfl fo80_0 rfl rfl rfl rfl | exact opd_field_pad rfl fo80_0 rfl rfl)) ?_)
                all_goals (refine al_d rfl rfl rfl (by exact (by first | exact opd_load1_ref rfl Tryz.isAgg3 rfl rfl rfl rfl rfl | exact opd_load1_pad rfl Tryz.isAgg3 rfl (by first | omega | assumption) rfl)) ?_)
                all_goals (refine al_d rfl rfl rfl (by exact opd_eql rfl rfl rfl) ?_)
                all_goals (refine al_d rfl rfl rfl (by exact opd_move rfl rfl) ?_)
                all_goals (first | refine al_split (t := 52) rfl (fun h52 => ?_) (fun h52 => ?_) | refine al_dup (t := 52) rfl ?_ | skip)
                all_goals (try contradiction)
                all_goals (first | refine al_off rfl rfl rfl rfl rfl ?_ | refine al_offu rfl rfl rfl rfl ?_ | refine al_ond rfl rfl rfl rfl rfl rfl (by exact opd_move rfl rfl) ?_)
                all_goals (first | refine al_off rfl rfl rfl rfl rfl ?_ | refine al_offu rfl rfl rfl rfl ?_ | refine al_ond rfl rfl rfl rfl rfl rfl (by exact opd_mul rfl rfl rfl (by first | exact w64 (by omega) (by omega) | exact wu8 (by omega) (by omega) | rfl)) ?_)
                all_goals (first | refine al_off rfl rfl rfl rfl rfl ?_ | refine al_offu rfl rfl rfl rfl ?_ | refine al_ond rfl rfl rfl rfl rfl rfl (by exact opd_move rfl rfl) ?_)
                all_goals (first | refine al_off rfl rfl rfl rfl rfl ?_ | refine al_offu rfl rfl rfl rfl ?_ | refine al_ond rfl rfl rfl rfl rfl rfl (by exact (by first | exact opd_len_sl rfl Tryz.underlying25 rfl | exact opd_len_osl rfl Tryz.underlying25 rfl rfl rfl)) ?_)
                all_goals (first | refine al_off rfl rfl rfl rfl rfl ?_ | refine al_offu rfl rfl rfl rfl ?_ | refine al_ond rfl rfl rfl rfl rfl rfl (by exact opd_leq rfl rfl rfl) ?_)
                all_goals (refine al_d rfl rfl rfl (by exact (by first | exact opd_pick_t rfl rfl rfl | exact opd_pick_f rfl rfl rfl | exact opd_pickt rfl rfl (by assumption) rfl | exact opd_pickf rfl rfl (by assumption) rfl | exact opd_pick rfl rfl rfl)) ?_)
                all_goals (refine al_nil ?_)
                all_goals (exact ⟨⟨_, rfl, by first | rfl | (simp only [*, Bool.false_and, Bool.true_and, Bool.and_false, Bool.and_true, Bool.true_or, Bool.false_or, Bool.or_true, Bool.or_false, Bool.not_true, Bool.not_false]; done) | (simp_all; done) | (simp_all; omega)⟩, rfl, rfl, rfl⟩)
              refine awp_cond rfl (fun hc6 => ?_) (fun hc6 => ?_)
              -- cond 6
              · have hk1 : i + 1 = 1 ∧ 2 * nDrops l ≤ l.length := by
                  simp only [Bool.and_eq_true, decide_eq_true_eq, hml] at hc6
                  omega
                have hno : kAns m l (i + 1) = none := by rw [kAns, if_pos hk1]
                rw [hno] at hinv
                refine awp_exit ?_
                refine awp_region ?_
                refine al_d rfl rfl rfl (by exact opd_add rfl rfl rfl (by first | exact w64 (by omega) (by omega) | exact wu8 (by omega) (by omega) | rfl)) ?_
                refine al_d rfl rfl rfl (by exact opd_move rfl rfl) ?_
                refine al_nil ?_
                -- end of a round
                refine ⟨i + 1, ⟨by omega, ?_⟩, by omega, (Ent.wk ⟨⟨_, rfl, rfl⟩, (by first | (simp; done) | (simp; rfl) | exact clo_map _ _ _ | exact susRows_clo rfl | exact susBox_clo _ rfl), ⟨_, rfl, rfl⟩, (by first | (simp; done) | (simp; rfl) | exact clo_map _ _ _ | exact susRows_clo rfl | exact susBox_clo _ rfl), ⟨_, rfl, rfl⟩, (by first | (simp; done) | (simp; rfl) | exact clo_map _ _ _ | exact susRows_clo rfl | exact susBox_clo _ rfl), ⟨_, rfl, rfl⟩, (by first | (simp; done) | (simp; rfl) | exact clo_map _ _ _ | exact susRows_clo rfl | exact susBox_clo _ rfl), ⟨_, rfl, rfl⟩, (by first | (simp; done) | (simp; rfl) | exact clo_map _ _ _ | exact susRows_clo rfl | exact susBox_clo _ rfl), ⟨_, rfl, rfl⟩, (by first | (simp; done) | (simp; rfl) | exact clo_map _ _ _ | exact susRows_clo rfl | exact susBox_clo _ rfl), trivial⟩ ⟨⟨_, rfl, rfl⟩, (by first | (simp; done) | (simp; rfl) | exact clo_map _ _ _ | exact susRows_clo rfl | exact susBox_clo _ rfl), ⟨_, rfl, rfl⟩, (by first | (simp; done) | (simp; rfl) | exact clo_map _ _ _ | exact susRows_clo rfl | exact susBox_clo _ rfl), ⟨_, rfl, rfl⟩, (by first | (simp; done) | (simp; rfl) | exact clo_map _ _ _ | exact susRows_clo rfl | exact susBox_clo _ rfl), ⟨_, rfl, rfl⟩, (by first | (simp; done) | (simp; rfl) | exact clo_map _ _ _ | exact susRows_clo rfl | exact susBox_clo _ rfl), trivial⟩ trivial)⟩
                rw [hd2]; exact hinv
              · have hk1 : ¬ (i + 1 = 1 ∧ 2 * nDrops l ≤ l.length) := by
                  intro h
                  simp only [Bool.and_eq_false_iff, decide_eq_false_iff_not, hml] at hc6
                  omega
                have hans : kAns m l (i + 1) = kLoop (decide (i + 1 ≠ 4)) (eShows (i + 1) m) (eTog (i + 1)) (nMany (i + 1)) l 0 := by rw [kAns, if_neg hk1]
                have hnm := nMany_pos (i + 1)
                refine awp_skip ?_
                refine awp_seq ?_
                refine awp_region ?_
                refine al_d rfl rfl rfl (by exact opd_move rfl rfl) ?_
                refine al_d rfl rfl rfl (by exact (by first | exact opd_len_sl rfl Tryz.underlying25 rfl | exact opd_len_osl rfl Tryz.underlying25 rfl rfl rfl)) ?_
                refine al_d rfl rfl rfl (by exact opd_move rfl rfl) ?_
                refine al_nil ?_
                refine awp_block ?_
                -- loop
                refine awp_loop (σ := Nat) (fun j => ([(1, .pv (slEdits l)), (4, .ref 4 0 0 0), (8, iv (nDrops l : Nat)), (43, .osl 812 0 0 4), (44, iv 4), (45, iv (i : Int)), (12, .ref 12 0 0 0), (59, .pv (slEdits l)), (60, iv ((l.map encEdit).length : Int)), (61, iv (j : Int))], (12, bx 4 80 (susRow (i + 1))) :: (sH m ++ [(4, ev0)])))
                  (fun j => j ≤ l.length ∧ kLoop (decide (i + 1 ≠ 4)) (eShows (i + 1) m) (eTog (i + 1)) (nMany (i + 1)) (l.drop j) j = kAns m l (i + 1)) (fun j => l.length - j) 0 ⟨by omega, by rw [hans]; rfl⟩ ?_ ?_
                · exact (Ent.wk ⟨⟨_, rfl, rfl⟩, (by first | (simp; done) | (simp; rfl) | exact clo_map _ _ _ | exact susRows_clo rfl | exact susBox_clo _ rfl), ⟨_, rfl, rfl⟩, (by first | (simp; done) | (simp; rfl) | exact clo_map _ _ _ | exact susRows_clo rfl | exact susBox_clo _ rfl), ⟨_, rfl, rfl⟩, (by first | (simp; done) | (simp; rfl) | exact clo_map _ _ _ | exact susRows_clo rfl | exact susBox_clo _ rfl), ⟨_, rfl, rfl⟩, (by first | (simp; done) | (simp; rfl) | exact clo_map _ _ _ | exact susRows_clo rfl | exact susBox_clo _ rfl), ⟨_, rfl, rfl⟩, (by first | (simp; done) | (simp; rfl) | exact clo_map _ _ _ | exact susRows_clo rfl | exact susBox_clo _ rfl), ⟨_, rfl, rfl⟩, (by first | (simp; done) | (simp; rfl) | exact clo_map _ _ _ | exact susRows_clo rfl | exact susBox_clo _ rfl), ⟨_, rfl, rfl⟩, (by first | (simp; done) | (simp; rfl) | exact clo_map _ _ _ | exact susRows_clo rfl | exact susBox_clo _ rfl), ⟨_, rfl, rfl⟩, (by first | (simp; done) | (simp; rfl) | exact clo_map _ _ _ | exact susRows_clo rfl | exact susBox_clo _ rfl), ⟨_, rfl, rfl⟩, (by first | (simp; done) | (simp; rfl) | exact clo_map _ _ _ | exact susRows_clo rfl | exact susBox_clo _ rfl), ⟨_, rfl, rfl⟩, (by first | (simp; done) | (simp; rfl) | exact clo_map _ _ _ | exact susRows_clo rfl | exact susBox_clo _ rfl), trivial⟩ ⟨⟨_, rfl, rfl⟩, (by first | (simp; done) | (simp; rfl) | exact clo_map _ _ _ | exact susRows_clo rfl | exact susBox_clo _ rfl), ⟨_, rfl, rfl⟩, (by first | (simp; done) | (simp; rfl) | exact clo_map _ _ _ | exact susRows_clo rfl | exact susBox_clo _ rfl), ⟨_, rfl, rfl⟩, (by first | (simp; done) | (simp; rfl) | exact clo_map _ _ _ | exact susRows_clo rfl | exact susBox_clo _ rfl), ⟨_, rfl, rfl⟩, (by first | (simp; done) | (simp; rfl) | exact clo_map _ _ _ | exact susRows_clo rfl | exact susBox_clo _ rfl), ⟨_, rfl, rfl⟩, (by first | (simp; done) | (simp; rfl) | exact clo_map _ _ _ | exact susRows_clo rfl | exact susBox_clo _ rfl), trivial⟩ trivial)
                · rintro j ⟨hj, hjv⟩
                  refine awp_seq ?_
                  refine awp_region ?_
                  refine al_d rfl rfl rfl (by exact opd_lss rfl rfl rfl) ?_
                  refine al_nil ?_
                  refine awp_seq ?_
                  refine awp_cond rfl (fun hc7 => ?_) (fun hc7 => ?_)
                  -- cond 7
                  · have hlt : j < l.length := by have := of_decide_eq_true hc7; omega
                    obtain ⟨x, hx⟩ := get_of_lt hlt
                    have hxi := map_get (f := encEdit) hx
                    have hxm := List.mem_of_getElem? hx
                    have hdr : l.drop j = x :: l.drop (j + 1) := drop_of_get hx
                    rw [hdr, kLoop] at hjv
                    have hsh := fun H hH => eshows_c (i + 1) m x H hm hH (by omega) (by omega)
                    refine awp_skip ?_
                    refine awp_seq ?_
                    refine awp_block ?_
                    refine awp_seq ?_
                    refine awp_region ?_
                    refine al_d rfl rfl rfl (by exact opd_move rfl rfl) ?_
                    refine al_d rfl rfl rfl (by exact (by first | exact x_index_pad rfl so25 rfl rfl (by omega) (by first | exact Int.toNat_natCast _ | rfl) (by assumption) rfl | exact x_index_osl rfl so25 rfl rfl rfl rfl rfl (by omega) (by first | exact Int.toNat_natCast _ | rfl) (by first | omega | assumption) rfl)) ?_
                    refine al_d rfl rfl rfl (by exact (by first | exact opd_loadn_ref rfl Tryz.isAgg44 Tryz.sizeOf44 rfl rfl rfl rfl (by simp only [List.drop_succ_cons, List.drop_zero, List.take_succ_cons, List.take_zero, List.take_nil, List.map_cons, List.map_nil, List.set_cons_zero, List.set_cons_succ, List.cons_append, List.nil_append, encTag, encObj, encStr, encEdit, encInt]; rfl) rfl | exact opd_loadn_pad rfl Tryz.isAgg44 Tryz.sizeOf44 rfl (by first | omega | assumption) (by simp only [List.drop_succ_cons, List.drop_zero, List.take_succ_cons, List.take_zero, List.take_nil, List.map_cons, List.map_nil, List.set_cons_zero, List.set_cons_succ, List.cons_append, List.nil_append, encTag, encObj, encStr, encEdit, encInt]; rfl) rfl)) ?_
                    refine al_d rfl rfl rfl (by exact x_alloc (id := 14) rfl zo44 rfl rfl) ?_
                    refine al_d rfl rfl rfl (by exact opd_assign rfl rfl) ?_
                    refine al_n rfl rfl (by exact (by first | exact x_store_all rfl Tryz.sizeOf44 rfl rfl rfl rfl rfl rfl rfl rfl | exact x_store rfl Tryz.sizeOf44 rfl rfl rfl rfl rfl rfl rfl (by simp only [List.length_cons, List.length_nil]; omega) (by simp only [List.drop_succ_cons, List.drop_zero, List.take_succ_cons, List.take_zero, List.take_nil, List.map_cons, List.map_nil, List.set_cons_zero, List.set_cons_succ, List.cons_append, List.nil_append, encTag, encObj, encStr, encEdit, encInt]; rfl) (by simp only [List.drop_succ_cons, List.drop_zero, List.take_succ_cons, List.take_zero, List.take_nil, List.map_cons, List.map_nil, List.set_cons_zero, List.set_cons_succ, List.cons_append, List.nil_append, encTag, encObj, encStr, encEdit, encInt]; rfl) | exact x_store rfl Tryz.sizeOf44 rfl rfl rfl rfl rfl rfl rfl (Nat.le_of_ble_eq_true rfl) rfl rfl)) ?_
                    refine al_nil ?_
                    refine awp_seq ?_
                    refine awp_seq ?_
                    refine awp_region ?_
                    refine al_d rfl rfl rfl (by exact (by first | exact opd_field_ref rfl fo80_2 rfl rfl rfl rfl | exact opd_field_pad rfl fo80_2 rfl rfl)) ?_
                    refine al_d rfl rfl rfl (by exact (by first | exact opd_load1_ref rfl Tryz.isAgg45 rfl rfl rfl rfl rfl | exact opd_load1_pad rfl Tryz.isAgg45 rfl (by first | omega | assumption) rfl)) ?_
                    refine al_d rfl rfl rfl (by exact (by first | exact opd_loadn_ref rfl Tryz.isAgg44 Tryz.sizeOf44 rfl rfl rfl rfl (by simp only [List.drop_succ_cons, List.drop_zero, List.take_succ_cons, List.take_zero, List.take_nil, List.map_cons, List.map_nil, List.set_cons_zero, List.set_cons_succ, List.cons_append, List.nil_append, encTag, encObj, encStr, encEdit, encInt]; rfl) rfl | exact opd_loadn_pad rfl Tryz.isAgg44 Tryz.sizeOf44 rfl (by first | omega | assumption) (by simp only [List.drop_succ_cons, List.drop_zero, List.take_succ_cons, List.take_zero, List.take_nil, List.map_cons, List.map_nil, List.set_cons_zero, List.set_cons_succ, List.cons_append, List.nil_append, encTag, encObj, encStr, encEdit, encInt]; rfl) rfl)) ?_
                    refine al_d rfl rfl rfl (by exact opr_callV rfl rfl rfl (hsh _ ⟨rfl, rfl, rfl, rfl, rfl, (Closed.ofL ⟨(by first | (simp; done) | (simp; rfl) | exact clo_map _ _ _ | exact susRows_clo rfl | exact susBox_clo _ rfl), (by first | (simp; done) | (simp; rfl) | exact clo_map _ _ _ | exact susRows_clo rfl | exact susBox_clo _ rfl), (by first | (simp; done) | (simp; rfl) | exact clo_map _ _ _ | exact susRows_clo rfl | exact susBox_clo _ rfl), (by first | (simp; done) | (simp; rfl) | exact clo_map _ _ _ | exact susRows_clo rfl | exact susBox_clo _ rfl), (by first | (simp; done) | (simp; rfl) | exact clo_map _ _ _ | exact susRows_clo rfl | exact susBox_clo _ rfl), (by first | (simp; done) | (simp; rfl) | exact clo_map _ _ _ | exact susRows_clo rfl | exact susBox_clo _ rfl), (by first | (simp; done) | (simp; rfl) | exact clo_map _ _ _ | exact susRows_clo rfl | exact susBox_clo _ rfl), trivial⟩)⟩)) ?_
                    refine al_d rfl rfl rfl (by exact opd_not rfl rfl) ?_
                    refine al_nil ?_
                    refine awp_cond rfl (fun hc8 => ?_) (fun hc8 => ?_)
                    -- cond 8
                    · have hs : eShows (i + 1) m x = false := by simpa using hc8
                      rw [hs, if_neg (by simp)] at hjv
                      refine awp_exit ?_
                      refine awp_region ?_
                      refine al_d rfl rfl rfl (by exact opd_add rfl rfl rfl (by first | exact w64 (by omega) (by omega) | exact wu8 (by omega) (by omega) | rfl)) ?_
                      refine al_d rfl rfl rfl (by exact opd_move rfl rfl) ?_
                      refine al_nil ?_
                      -- end of a round
                      exact ⟨j + 1, ⟨by omega, hjv⟩, by omega, (Ent.wk ⟨⟨_, rfl, rfl⟩, (by first | (simp; done) | (simp; rfl) | exact clo_map _ _ _ | exact susRows_clo rfl | exact susBox_clo _ rfl), ⟨_, rfl, rfl⟩, (by first | (simp; done) | (simp; rfl) | exact clo_map _ _ _ | exact susRows_clo rfl | exact susBox_clo _ rfl), ⟨_, rfl, rfl⟩, (by first | (simp; done) | (simp; rfl) | exact clo_map _ _ _ | exact susRows_clo rfl | exact susBox_clo _ rfl), ⟨_, rfl, rfl⟩, (by first | (simp; done) | (simp; rfl) | exact clo_map _ _ _ | exact susRows_clo rfl | exact susBox_clo _ rfl), ⟨_, rfl, rfl⟩, (by first | (simp; done) | (simp; rfl) | exact clo_map _ _ _ | exact susRows_clo rfl | exact susBox_clo _ rfl), ⟨_, rfl, rfl⟩, (by first | (simp; done) | (simp; rfl) | exact clo_map _ _ _ | exact susRows_clo rfl | exact susBox_clo _ rfl), ⟨_, rfl, rfl⟩, (by first | (simp; done) | (simp; rfl) | exact clo_map _ _ _ | exact susRows_clo rfl | exact susBox_clo _ rfl), ⟨_, rfl, rfl⟩, (by first | (simp; done) | (simp; rfl) | exact clo_map _ _ _ | exact susRows_clo rfl | exact susBox_clo _ rfl), ⟨_, rfl, rfl⟩, (by first | (simp; done) | (simp; rfl) | exact clo_map _ _ _ | exact susRows_clo rfl | exact susBox_clo _ rfl), ⟨_, rfl, rfl⟩, (by first | (simp; done) | (simp; rfl) | exact clo_map _ _ _ | exact susRows_clo rfl | exact susBox_clo _ rfl), trivial⟩ ⟨⟨_, rfl, rfl⟩, (by first | (simp; done) | (simp; rfl) | exact clo_map _ _ _ | exact susRows_clo rfl | exact susBox_clo _ rfl), ⟨_, rfl, rfl⟩, (by first | (simp; done) | (simp; rfl) | exact clo_map _ _ _ | exact susRows_clo rfl | exact susBox_clo _ rfl), ⟨_, rfl, rfl⟩, (by first | (simp; done) | (simp; rfl) | exact clo_map _ _ _ | exact susRows_clo rfl | exact susBox_clo _ rfl), ⟨_, rfl, rfl⟩, (by first | (simp; done) | (simp; rfl) | exact clo_map _ _ _ | exact susRows_clo rfl | exact susBox_clo _ rfl), ⟨_, rfl, rfl⟩, (by first | (simp; done) | (simp; rfl) | exact clo_map _ _ _ | exact susRows_clo rfl | exact susBox_clo _ rfl), trivial⟩ trivial)⟩
                    · have hs : eShows (i + 1) m x = true := by simpa using hc8
                      rw [hs, if_pos rfl, ← hdr] at hjv
                      have hnp : nMany (i + 1) ≤ 5 := hnm.2
                      have hpl : ((toI (gr (eShows (i + 1) m) (eTog (i + 1)) (l.drop j) j (nMany (i + 1)) [])).map encInt).length = (gr (eShows (i + 1) m) (eTog (i + 1)) (l.drop j) j (nMany (i + 1)) []).length := by simp
                      refine awp_skip ?_
                      refine awp_seq ?_
                      refine awp_region ?_
                      refine al_d rfl rfl rfl (by exact opd_move rfl rfl) ?_
                      refine al_d rfl rfl rfl (by exact opd_move rfl rfl) ?_
                      refine al_d rfl rfl rfl (by exact (by first | exact opd_field_ref rfl fo80_1 rfl rfl rfl rfl | exact opd_field_pad rfl fo80_1 rfl rfl)) ?_
                      refine al_d rfl rfl rfl (by exact (by first | exact opd_load1_ref rfl Tryz.isAgg3 rfl rfl rfl rfl rfl | exact opd_load1_pad rfl Tryz.isAgg3 rfl (by first | omega | assumption) rfl)) ?_
                      refine al_d rfl rfl rfl (by exact opd_makeFunc rfl rfl) ?_
                      refine al_d rfl rfl rfl (by exact opr_call rfl rfl Tryz.call56 rfl (first_c (eShows (i + 1) m) (eTog (i + 1)) (.clo 57 [.ref 12 0 0 0]) l j (nMany (i + 1)) _ hl hnp hj rfl rfl (Closed.ofL ⟨(by first | (simp; done) | (simp; rfl) | exact clo_map _ _ _ | exact susRows_clo rfl | exact susBox_clo _ rfl), (by first | (simp; done) | (simp; rfl) | exact clo_map _ _ _ | exact susRows_clo rfl | exact susBox_clo _ rfl), (by first | (simp; done) | (simp; rfl) | exact clo_map _ _ _ | exact susRows_clo rfl | exact susBox_clo _ rfl), (by first | (simp; done) | (simp; rfl) | exact clo_map _ _ _ | exact susRows_clo rfl | exact susBox_clo _ rfl), (by first | (simp; done) | (simp; rfl) | exact clo_map _ _ _ | exact susRows_clo rfl | exact susBox_clo _ rfl), (by first | (simp; done) | (simp; rfl) | exact clo_map _ _ _ | exact susRows_clo rfl | exact susBox_clo _ rfl), (by first | (simp; done) | (simp; rfl) | exact clo_map _ _ _ | exact susRows_clo rfl | exact susBox_clo _ rfl), trivial⟩) (.clo (by intro a ha; simp only [List.mem_cons, List.not_mem_nil, or_false] at ha; subst ha; exact .ref rfl)) (fun y hy tk g o9 htl htk ho9 => CallsV.clo Tryz.call57 (findC_c (i + 1) m y tk g _ hm ⟨rfl, rfl, rfl, rfl, rfl, Closed.cons (clo_map _ _ _) (Closed.cons (fun r hr a ha => by obtain ⟨q, rfl⟩ := ho9 r hr a ha; exact .pv q) (Closed.ofL ⟨(by first | (simp; done) | (simp; rfl) | exact clo_map _ _ _ | exact susRows_clo rfl | exact susBox_clo _ rfl), (by first | (simp; done) | (simp; rfl) | exact clo_map _ _ _ | exact susRows_clo rfl | exact susBox_clo _ rfl), (by first | (simp; done) | (simp; rfl) | exact clo_map _ _ _ | exact susRows_clo rfl | exact susBox_clo _ rfl), (by first | (simp; done) | (simp; rfl) | exact clo_map _ _ _ | exact susRows_clo rfl | exact susBox_clo _ rfl), (by first | (simp; done) | (simp; rfl) | exact clo_map _ _ _ | exact susRows_clo rfl | exact susBox_clo _ rfl), (by first | (simp; done) | (simp; rfl) | exact clo_map _ _ _ | exact susRows_clo rfl | exact susBox_clo _ rfl), (by first | (simp; done) | (simp; rfl) | exact clo_map _ _ _ | exact susRows_clo rfl | exact susBox_clo _ rfl), trivial⟩))⟩ rfl rfl rfl rfl (by omega) (fun z hz => het z (htk z hz)) (by omega) (by omega))))) ?_
                      refine al_d rfl rfl rfl (by exact opd_assign rfl rfl) ?_
                      refine al_nil ?_
                      refine awp_seq ?_
                      refine awp_seq ?_
                      refine awp_region ?_
                      refine al_d rfl rfl rfl (by exact opd_move rfl rfl) ?_
                      refine al_d rfl rfl rfl (by exact (by first | exact opd_len_sl rfl Tryz.underlying29 rfl | exact opd_len_osl rfl Tryz.underlying29 rfl rfl rfl)) ?_
                      refine al_d rfl rfl rfl (by exact (by first | exact opd_field_ref rfl fo80_1 rfl rfl rfl rfl | exact opd_field_pad rfl fo80_1 rfl rfl)) ?_
                      refine al_d rfl rfl rfl (by exact (by first | exact opd_load1_ref rfl Tryz.isAgg3 rfl rfl rfl rfl rfl | exact opd_load1_pad rfl Tryz.isAgg3 rfl (by first | omega | assumption) rfl)) ?_
                      refine al_d rfl rfl rfl (by exact opd_eql rfl rfl rfl) ?_
                      refine al_nil ?_
                      refine awp_cond rfl (fun hc9 => ?_) (fun hc9 => ?_)
                      -- cond 9
                      · have hpe : (gr (eShows (i + 1) m) (eTog (i + 1)) (l.drop j) j (nMany (i + 1)) []).length = nMany (i + 1) := by
                          have h := of_decide_eq_true hc9
                          rw [hpl] at h
                          omega
                        rw [if_pos hpe] at hjv
                        rw [← hjv] at hinv
                        have hinv : (i + 1, gr (eShows (i + 1) m) (eTog (i + 1)) (l.drop j) j (nMany (i + 1)) []) = gFind0 m l := hinv
                        rw [← hinv]
                        refine awp_seq ?_
                        refine awp_region ?_
                        refine al_d rfl rfl rfl (by exact (by first | exact opd_field_ref rfl fo80_0 rfl rfl rfl rfl | exact opd_field_pad rfl fo80_0 rfl rfl)) ?_
                        refine al_d rfl rfl rfl (by exact (by first | exact opd_load1_ref rfl Tryz.isAgg3 rfl rfl rfl rfl rfl | exact opd_load1_pad rfl Tryz.isAgg3 rfl (by first | omega | assumption) rfl)) ?_
                        refine al_d rfl rfl rfl (by exact opd_move rfl rfl) ?_
                        refine al_d rfl rfl rfl (by exact x_build rfl bo31 rfl rfl) ?_
                        refine al_n rfl rfl (by exact (by first | exact x_store_all rfl Tryz.sizeOf31 rfl rfl rfl rfl rfl rfl rfl rfl | exact x_store rfl Tryz.sizeOf31 rfl rfl rfl rfl rfl rfl rfl (by simp only [List.length_cons, List.length_nil]; omega) (by simp only [List.drop_succ_cons, List.drop_zero, List.take_succ_cons, List.take_zero, List.take_nil, List.map_cons, List.map_nil, List.set_cons_zero, List.set_cons_succ, List.cons_append, List.nil_append, encTag, encObj, encStr, encEdit, encInt]; rfl) (by simp only [List.drop_succ_cons, List.drop_zero, List.take_succ_cons, List.take_zero, List.take_nil, List.map_cons, List.map_nil, List.set_cons_zero, List.set_cons_succ, List.cons_append, List.nil_append, encTag, encObj, encStr, encEdit, encInt]; rfl) | exact x_store rfl Tryz.sizeOf31 rfl rfl rfl rfl rfl rfl rfl (Nat.le_of_ble_eq_true rfl) rfl rfl)) ?_
                        refine al_nil ?_
                        refine awp_ret ?_
                        -- return
                        refine aret1 (H' := []) (by first | exact .inr rfl | exact .inl rfl) rfl (rval_cell rfl Tryz.isAgg31 Tryz.sizeOf31 rfl rfl rfl rfl rfl) (Fin.wk (r := .agg [iv ((i + 1 : Nat) : Int), .pv (slInts (toI (gr (eShows (i + 1) m) (eTog (i + 1)) (l.drop j) j (nMany (i + 1)) [])))]) (by simp) trivial trivial) ?_
                        exact ⟨rfl, rfl⟩
                      · have hpe : ¬ (gr (eShows (i + 1) m) (eTog (i + 1)) (l.drop j) j (nMany (i + 1)) []).length = nMany (i + 1) := by
                          have h := of_decide_eq_false hc9
                          rw [hpl] at h
                          omega
                        rw [if_neg hpe] at hjv
                        refine awp_skip ?_
                        refine awp_seq ?_
                        refine awp_region ?_
                        refine al_d rfl rfl rfl (by exact (by first | exact opd_field_ref rfl fo80_0 rfl rfl rfl rfl | exact opd_field_pad rfl fo80_0 rfl rfl)) ?_
                        refine al_d rfl rfl rfl (by exact (by first | exact opd_load1_ref rfl Tryz.isAgg3 rfl rfl rfl rfl rfl | exact opd_load1_pad rfl Tryz.isAgg3 rfl (by first | omega | assumption) rfl)) ?_
                        refine al_d rfl rfl rfl (by exact opd_neq rfl rfl rfl) ?_
                        refine al_nil ?_
                        refine awp_cond rfl (fun hc10 => ?_) (fun hc10 => ?_)
                        -- cond 10
                        · have h4 : i + 1 ≠ 4 := by
                            have h : (!decide (((i + 1 : Nat) : Int) = 4)) = true := hc10
                            simp only [Bool.not_eq_true', decide_eq_false_iff_not] at h
                            omega
                          rw [if_pos (decide_eq_true h4)] at hjv
                          rw [← hjv] at hinv
                          have hinv : kFirst m l d (i + 1 + 1) = gFind0 m l := hinv
                          refine awp_exit ?_
                          refine awp_region ?_
                          refine al_d rfl rfl rfl (by exact opd_add rfl rfl rfl (by first | exact w64 (by omega) (by omega) | exact wu8 (by omega) (by omega) | rfl)) ?_
                          refine al_d rfl rfl rfl (by exact opd_move rfl rfl) ?_
                          refine al_nil ?_
                          -- end of a round
                          exact ⟨i + 1, ⟨by omega, by rw [hd2]; exact hinv⟩, by omega, (Ent.wk ⟨⟨_, rfl, rfl⟩, (by first | (simp; done) | (simp; rfl) | exact clo_map _ _ _ | exact susRows_clo rfl | exact susBox_clo _ rfl), ⟨_, rfl, rfl⟩, (by first | (simp; done) | (simp; rfl) | exact clo_map _ _ _ | exact susRows_clo rfl | exact susBox_clo _ rfl), ⟨_, rfl, rfl⟩, (by first | (simp; done) | (simp; rfl) | exact clo_map _ _ _ | exact susRows_clo rfl | exact susBox_clo _ rfl), ⟨_, rfl, rfl⟩, (by first | (simp; done) | (simp; rfl) | exact clo_map _ _ _ | exact susRows_clo rfl | exact susBox_clo _ rfl), ⟨_, rfl, rfl⟩, (by first | (simp; done) | (simp; rfl) | exact clo_map _ _ _ | exact susRows_clo rfl | exact susBox_clo _ rfl), ⟨_, rfl, rfl⟩, (by first | (simp; done) | (simp; rfl) | exact clo_map _ _ _ | exact susRows_clo rfl | exact susBox_clo _ rfl), trivial⟩ ⟨⟨_, rfl, rfl⟩, (by first | (simp; done) | (simp; rfl) | exact clo_map _ _ _ | exact susRows_clo rfl | exact susBox_clo _ rfl), ⟨_, rfl, rfl⟩, (by first | (simp; done) | (simp; rfl) | exact clo_map _ _ _ | exact susRows_clo rfl | exact susBox_clo _ rfl), ⟨_, rfl, rfl⟩, (by first | (simp; done) | (simp; rfl) | exact clo_map _ _ _ | exact susRows_clo rfl | exact susBox_clo _ rfl), ⟨_, rfl, rfl⟩, (by first | (simp; done) | (simp; rfl) | exact clo_map _ _ _ | exact susRows_clo rfl | exact susBox_clo _ rfl), trivial⟩ trivial)⟩
                        · have h4 : i + 1 = 4 := by
                            have h : (!decide (((i + 1 : Nat) : Int) = 4)) = false := hc10
                            simp only [Bool.not_eq_false', decide_eq_true_eq] at h
                            omega
                          rw [if_neg (by simp; omega)] at hjv
                          refine awp_skip ?_
                          refine awp_region ?_
                          refine al_d rfl rfl rfl (by exact opd_add rfl rfl rfl (by first | exact w64 (by omega) (by omega) | exact wu8 (by omega) (by omega) | rfl)) ?_
                          refine al_d rfl rfl rfl (by exact opd_move rfl rfl) ?_
                          refine al_nil ?_
                          -- end of a round
                          exact ⟨j + 1, ⟨by omega, hjv⟩, by omega, (Ent.wk ⟨⟨_, rfl, rfl⟩, (by first | (simp; done) | (simp; rfl) | exact clo_map _ _ _ | exact susRows_clo rfl | exact susBox_clo _ rfl), ⟨_, rfl, rfl⟩, (by first | (simp; done) | (simp; rfl) | exact clo_map _ _ _ | exact susRows_clo rfl | exact susBox_clo _ rfl), ⟨_, rfl, rfl⟩, (by first | (simp; done) | (simp; rfl) | exact clo_map _ _ _ | exact susRows_clo rfl | exact susBox_clo _ rfl), ⟨_, rfl, rfl⟩, (by first | (simp; done) | (simp; rfl) | exact clo_map _ _ _ | exact susRows_clo rfl | exact susBox_clo _ rfl), ⟨_, rfl, rfl⟩, (by first | (simp; done) | (simp; rfl) | exact clo_map _ _ _ | exact susRows_clo rfl | exact susBox_clo _ rfl), ⟨_, rfl, rfl⟩, (by first | (simp; done) | (simp; rfl) | exact clo_map _ _ _ | exact susRows_clo rfl | exact susBox_clo _ rfl), ⟨_, rfl, rfl⟩, (by first | (simp; done) | (simp; rfl) | exact clo_map _ _ _ | exact susRows_clo rfl | exact susBox_clo _ rfl), ⟨_, rfl, rfl⟩, (by first | (simp; done) | (simp; rfl) | exact clo_map _ _ _ | exact susRows_clo rfl | exact susBox_clo _ rfl), ⟨_, rfl, rfl⟩, (by first | (simp; done) | (simp; rfl) | exact clo_map _ _ _ | exact susRows_clo rfl | exact susBox_clo _ rfl), ⟨_, rfl, rfl⟩, (by first | (simp; done) | (simp; rfl) | exact clo_map _ _ _ | exact susRows_clo rfl | exact susBox_clo _ rfl), trivial⟩ ⟨⟨_, rfl, rfl⟩, (by first | (simp; done) | (simp; rfl) | exact clo_map _ _ _ | exact susRows_clo rfl | exact susBox_clo _ rfl), ⟨_, rfl, rfl⟩, (by first | (simp; done) | (simp; rfl) | exact clo_map _ _ _ | exact susRows_clo rfl | exact susBox_clo _ rfl), ⟨_, rfl, rfl⟩, (by first | (simp; done) | (simp; rfl) | exact clo_map _ _ _ | exact susRows_clo rfl | exact susBox_clo _ rfl), ⟨_, rfl, rfl⟩, (by first | (simp; done) | (simp; rfl) | exact clo_map _ _ _ | exact susRows_clo rfl | exact susBox_clo _ rfl), ⟨_, rfl, rfl⟩, (by first | (simp; done) | (simp; rfl) | exact clo_map _ _ _ | exact susRows_clo rfl | exact susBox_clo _ rfl), trivial⟩ trivial)⟩
                  · have hge : j = l.length := by have := of_decide_eq_false hc7; omega
                    rw [hge, List.drop_length, kLoop] at hjv
                    rw [← hjv] at hinv
                    have hinv : kFirst m l d (i + 1 + 1) = gFind0 m l := hinv
                    refine awp_exit ?_
                    refine awp_region ?_
                    refine al_d rfl rfl rfl (by exact opd_add rfl rfl rfl (by first | exact w64 (by omega) (by omega) | exact wu8 (by omega) (by omega) | rfl)) ?_
                    refine al_d rfl rfl rfl (by exact opd_move rfl rfl) ?_
                    refine al_nil ?_
                    -- end of a round
                    exact ⟨i + 1, ⟨by omega, by rw [hd2]; exact hinv⟩, by omega, (Ent.wk ⟨⟨_, rfl, rfl⟩, (by first | (simp; done) | (simp; rfl) | exact clo_map _ _ _ | exact susRows_clo rfl | exact susBox_clo _ rfl), ⟨_, rfl, rfl⟩, (by first | (simp; done) | (simp; rfl) | exact clo_map _ _ _ | exact susRows_clo rfl | exact susBox_clo _ rfl), ⟨_, rfl, rfl⟩, (by first | (simp; done) | (simp; rfl) | exact clo_map _ _ _ | exact susRows_clo rfl | exact susBox_clo _ rfl), ⟨_, rfl, rfl⟩, (by first | (simp; done) | (simp; rfl) | exact clo_map _ _ _ | exact susRows_clo rfl | exact susBox_clo _ rfl), ⟨_, rfl, rfl⟩, (by first | (simp; done) | (simp; rfl) | exact clo_map _ _ _ | exact susRows_clo rfl | exact susBox_clo _ rfl), ⟨_, rfl, rfl⟩, (by first | (simp; done) | (simp; rfl) | exact clo_map _ _ _ | exact susRows_clo rfl | exact susBox_clo _ rfl), trivial⟩ ⟨⟨_, rfl, rfl⟩, (by first | (simp; done) | (simp; rfl) | exact clo_map _ _ _ | exact susRows_clo rfl | exact susBox_clo _ rfl), ⟨_, rfl, rfl⟩, (by first | (simp; done) | (simp; rfl) | exact clo_map _ _ _ | exact susRows_clo rfl | exact susBox_clo _ rfl), ⟨_, rfl, rfl⟩, (by first | (simp; done) | (simp; rfl) | exact clo_map _ _ _ | exact susRows_clo rfl | exact susBox_clo _ rfl), ⟨_, rfl, rfl⟩, (by first | (simp; done) | (simp; rfl) | exact clo_map _ _ _ | exact susRows_clo rfl | exact susBox_clo _ rfl), trivial⟩ trivial)⟩
            · have hi : i = 4 := by have := of_decide_eq_false hc5; omega
              subst hi
              have hinv : (0, []) = gFind0 m l := hinv
              rw [← hinv]
              refine awp_exit ?_
              refine awp_seq ?_
              refine awp_region ?_
              refine al_d rfl rfl rfl (by exact x_build rfl bo31 rfl rfl) ?_
              refine al_n rfl rfl (by exact (by first | exact x_store_all rfl Tryz.sizeOf31 rfl rfl rfl rfl rfl rfl rfl rfl | exact x_store rfl Tryz.sizeOf31 rfl rfl rfl rfl rfl rfl rfl (by simp only [List.length_cons, List.length_nil]; omega) (by simp only [List.drop_succ_cons, List.drop_zero, List.take_succ_cons, List.take_zero, List.take_nil, List.map_cons, List.map_nil, List.set_cons_zero, List.set_cons_succ, List.cons_append, List.nil_append, encTag, encObj, encStr, encEdit, encInt]; rfl) (by simp only [List.drop_succ_cons, List.drop_zero, List.take_succ_cons, List.take_zero, List.take_nil, List.map_cons, List.map_nil, List.set_cons_zero, List.set_cons_succ, List.cons_append, List.nil_append, encTag, encObj, encStr, encEdit, encInt]; rfl) | exact x_store rfl Tryz.sizeOf31 rfl rfl rfl rfl rfl rfl rfl (Nat.le_of_ble_eq_true rfl) rfl rfl)) ?_
              refine al_nil ?_
              refine awp_ret ?_
              -- return
              refine aret1 (H' := []) (by first | exact .inr rfl | exact .inl rfl) rfl (rval_cell rfl Tryz.isAgg31 Tryz.sizeOf31 rfl rfl rfl rfl rfl) (Fin.wk (r := .agg [iv 0, lv []]) (by simp) trivial trivial) ?_
              exact ⟨rfl, rfl⟩
end Go.Proofs.YtdgoodjhndeojaaGreat
end
section
set_option linter.unusedVariables false
set_option linter.unusedSimpArgs false
set_option maxRecDepth 100000
namespace Go.Proofs.YtdgoodjhndeojaaGreat
open Go.Abs
def nm (i : Nat) : ByteArray := ⟨#[110, 49 + UInt8.ofNat i]⟩
def nodeO (i : Nat) : GObj := ⟨nm i, 1, (i : Int), 0, [], []⟩
def names5 : List ByteArray := (List.range 5).map nm
def nodes5 : List GObj := (List.range 5).map nodeO
theorem names5_at {i : Nat} (h : i < 5) : (names5.map encStr)[i]? = some (encStr (nm i)) := by
  match i, h with
  | 0, _ => rfl
  | 1, _ => rfl
  | 2, _ => rfl
  | 3, _ => rfl
  | 4, _ => rfl
  | n + 5, h => exact absurd h (by omega)
abbrev obRows (l : List GObj) : List (List AV) := l.map (fun e => (encObj e).map .pv)
theorem range_snoc {α : Type} (f : Nat → α) (i : Nat) : (List.range (i + 1)).map f = (List.range i).map f ++ [f i] := by rw [List.range_succ, List.map_append]; rfl
theorem nodes_c (H : Heap) : ACalls Tryz.prog 70 [] H (fun r H' => r = .tup [lv (names5.map encStr), .agg [.pv (slObjs nodes5)]] ∧ H' = H) := by
  refine ACalls.pure ?_ (by simp) H
  refine ACalls.body Tryz.func70 rfl Tryz.ntmps70 (Nat.le_of_ble_eq_true rfl) ?_
  refine awp_seq ?_
  refine awp_region ?_
  refine al_d rfl rfl rfl (by exact opd_assign rfl rfl) ?_
  refine al_d rfl rfl rfl (by exact x_alloc (id := 1) rfl zo24 rfl rfl) ?_
  refine al_nil ?_
  refine awp_seq ?_
  refine awp_region ?_
  refine al_d rfl rfl rfl (by exact x_buildSlice (names5.map encStr) rfl so39 rfl rfl rfl rfl rfl (by simp [encStr])) ?_
  refine al_d rfl rfl rfl (by exact opd_assign rfl rfl) ?_
  refine al_nil ?_
  refine awp_seq ?_
  refine awp_region ?_
  refine al_d rfl rfl rfl (by exact x_alloc (id := 3) rfl zoN24 rfl rfl) ?_
  refine al_nil ?_
  refine awp_seq ?_
  refine awp_seq ?_
  refine awp_region ?_
  refine al_d rfl rfl rfl (by exact opd_assign rfl rfl) ?_
  refine al_nil ?_
  refine awp_block ?_
  -- loop
  refine awp_loop2 (fun (i : Nat) (g : Nat) => ([(1, .ref 1 0 0 0), (2, lv (names5.map encStr)), (3, .ref 3 0 0 0), (4, iv (i : Int))], [(9, ⟨g, 6, 42, obRows ((List.range i).map nodeO)⟩), (3, bx 1 24 [.osl 9 g 0 i]), (1, bx 1 24 [lv []])])) (fun i g => i ≤ 5) (fun i g => 5 - i) 0 0 (by omega) ?_ ?_
  · exact (Ent.nz 9 6 42 rfl rfl ⟨⟨_, rfl, (by first | exact Nz.own | exact Nz.weak | exact Nz.same (by first | (simp; done) | (simp; rfl) | exact clo_map _ _ _))⟩, ⟨_, rfl, (by first | exact Nz.own | exact Nz.weak | exact Nz.same (by first | (simp; done) | (simp; rfl) | exact clo_map _ _ _))⟩, ⟨_, rfl, (by first | exact Nz.own | exact Nz.weak | exact Nz.same (by first | (simp; done) | (simp; rfl) | exact clo_map _ _ _))⟩, ⟨_, rfl, (by first | exact Nz.own | exact Nz.weak | exact Nz.same (by first | (simp; done) | (simp; rfl) | exact clo_map _ _ _))⟩, trivial⟩ ⟨⟨_, rfl, rfl, rfl, rfl, (by first | exact .inl ⟨rfl, (by first | (simp; done) | (simp; rfl) | exact clo_map _ _ _)⟩ | exact .inr ⟨_, _, rfl, rfl, (by repeat (first | exact trivial | refine ⟨(by first | exact Nz.own | exact Nz.weak | exact Nz.same (by first | (simp; done) | (simp; rfl) | exact clo_map _ _ _)), ?_⟩))⟩)⟩, ⟨_, rfl, rfl, rfl, rfl, (by first | exact .inl ⟨rfl, (by first | (simp; done) | (simp; rfl) | exact clo_map _ _ _)⟩ | exact .inr ⟨_, _, rfl, rfl, (by repeat (first | exact trivial | refine ⟨(by first | exact Nz.own | exact Nz.weak | exact Nz.same (by first | (simp; done) | (simp; rfl) | exact clo_map _ _ _)), ?_⟩))⟩)⟩, trivial⟩ trivial)
  · intro i g hi
    refine awp_seq ?_
    refine awp_seq ?_
    refine awp_region ?_
    refine al_d rfl rfl rfl (by exact opd_move rfl rfl) ?_
    refine al_d rfl rfl rfl (by exact opd_move rfl rfl) ?_
    refine al_d rfl rfl rfl (by exact (by first | exact opd_len_sl rfl Tryz.underlying39 rfl | exact opd_len_osl rfl Tryz.underlying39 rfl rfl rfl)) ?_
    refine al_d rfl rfl rfl (by exact opd_lss rfl rfl rfl) ?_
    refine al_nil ?_
    refine awp_cond rfl (fun hc1 => ?_) (fun hc1 => ?_)
    -- cond 1
    · have hlt : i < 5 := by
        have h : decide ((i : Int) < 5) = true := hc1
        simp at h; omega
      have hni := names5_at hlt
      refine awp_skip ?_
      refine awp_seq ?_
      refine awp_block ?_
      refine awp_drawc follows ?_
      refine dc_cons (r := ⟨_, some [3], []⟩) (DStep.plain rfl (fun H1 hH => by exact (by first | exact opd_field_ref rfl fo24_0 rfl ((hH _ rfl).trans rfl) rfl rfl | exact opd_field_pad rfl fo24_0 rfl rfl))) rfl ?_
      refine dc_cons (r := ⟨_, some [3], []⟩) (DStep.plain rfl (fun H1 hH => by exact (by first | exact opd_load1_ref rfl Tryz.isAgg22 rfl ((hH _ rfl).trans rfl) rfl rfl rfl | exact opd_load1_pad rfl Tryz.isAgg22 rfl (by first | omega | assumption) rfl))) rfl ?_
      refine dc_cons (r := ⟨_, some [], []⟩) (DStep.plain rfl (fun H1 hH => by exact opd_move rfl rfl)) rfl ?_
      refine dc_cons (r := ⟨_, some [], []⟩) (DStep.plain rfl (fun H1 hH => by exact opd_move rfl rfl)) rfl ?_
      refine dc_cons (r := ⟨_, some [], []⟩) (DStep.plain rfl (fun H1 hH => by exact (by first | exact x_index_pad rfl so39 rfl rfl (by omega) (by first | exact Int.toNat_natCast _ | rfl) (by assumption) rfl | exact x_index_osl rfl so39 rfl ((hH _ rfl).trans rfl) rfl rfl rfl (by omega) (by first | exact Int.toNat_natCast _ | rfl) (by first | omega | assumption) rfl))) rfl ?_
      refine dc_cons (r := ⟨_, some [], []⟩) (DStep.plain rfl (fun H1 hH => by exact (by first | exact opd_load1_ref rfl Tryz.isAgg9 rfl ((hH _ rfl).trans rfl) rfl rfl rfl | exact opd_load1_pad rfl Tryz.isAgg9 rfl (by first | omega | assumption) rfl))) rfl ?_
      refine dc_cons (r := ⟨_, some [], []⟩) (DStep.plain rfl (fun H1 hH => by exact opd_move rfl rfl)) rfl ?_
      refine dc_cons (r := ⟨_, some [], []⟩) (DStep.plain rfl (fun H1 hH => by exact x_build rfl bo38 rfl rfl)) rfl ?_
      refine dc_cons (r := ⟨_, some [], []⟩) (DStep.plain rfl (fun H1 hH => by exact x_build rfl bo42 rfl rfl)) rfl ?_
      refine dc_cons (r := ⟨_, some [], []⟩) (DStep.plain rfl (fun H1 hH => by exact x_buildSlice [encObj (nodeO i)] rfl so22 rfl rfl rfl rfl rfl (by simp [encObj]))) rfl ?_
      refine dc_cons (r := ⟨_, some [9], [_]⟩) (DStep.plain rfl (fun H1 hH => by exact (by first | exact x_append rfl so22 ei42 rfl ((hH _ rfl).trans rfl) rfl rfl rfl (by simp : _ = i) rfl (by simp [encObj]) (rfl : _ = 1) (by omega) (rfl : _ = i + 1) (List.map_append (l₂ := [nodeO i])).symm | exact x_append_osl rfl so22 ei42 rfl ((hH _ rfl).trans rfl) rfl rfl rfl (by simp : _ = i) rfl ((hH _ rfl).trans rfl) rfl rfl (by simp [encObj]) (rfl : _ = 1) (by omega) (rfl : _ = i + 1) (List.map_append (l₂ := [nodeO i])).symm))) rfl ?_
      refine dc_cons (r := ⟨_, some [3], []⟩) (DStep.plain rfl (fun H1 hH => by exact (by first | exact opd_field_ref rfl fo24_0 rfl ((hH _ rfl).trans rfl) rfl rfl | exact opd_field_pad rfl fo24_0 rfl rfl))) rfl ?_
      refine dc_cons (r := ⟨_, some [3], [_]⟩) (DStep.plain rfl (fun H1 hH => by exact (by first | exact x_store_all rfl Tryz.sizeOf22 rfl rfl rfl rfl ((hH _ rfl).trans rfl) rfl rfl rfl | exact x_store1 rfl Tryz.sizeOf22 rfl rfl rfl ((hH _ rfl).trans rfl) rfl rfl (by simp only [List.length_cons, List.length_nil]; omega) (by simp only [List.drop_succ_cons, List.drop_zero, List.take_succ_cons, List.take_zero, List.take_nil, List.map_cons, List.map_nil, List.set_cons_zero, List.set_cons_succ, List.cons_append, List.nil_append, encTag, encObj, encEdit]; rfl) (by simp only [List.drop_succ_cons, List.drop_zero, List.take_succ_cons, List.take_zero, List.take_nil, List.map_cons, List.map_nil, List.set_cons_zero, List.set_cons_succ, List.cons_append, List.nil_append, encTag, encObj, encEdit]; rfl) | exact x_store1 rfl Tryz.sizeOf22 rfl rfl rfl ((hH _ rfl).trans rfl) rfl rfl (Nat.le_of_ble_eq_true rfl) rfl rfl))) rfl ?_
      refine dc_nil ⟨by kernel_rfl, ?_⟩
      refine awp_region ?_
      refine al_d rfl rfl rfl (by exact opd_move rfl rfl) ?_
      refine al_d rfl rfl rfl (by exact opd_add rfl rfl rfl (by first | exact w64 (by omega) (by omega) | exact wu8 (by omega) (by omega) | rfl)) ?_
      refine al_d rfl rfl rfl (by exact opd_assign rfl rfl) ?_
      refine al_nil ?_
      -- end of a round
      refine ⟨i + 1, g + 1, by omega, by omega, ?_⟩
      rw [range_snoc]
      exact (Ent.wk ⟨⟨_, rfl, rfl⟩, (by first | (simp; done) | (simp; rfl) | exact clo_map _ _ _), ⟨_, rfl, rfl⟩, (by first | (simp; done) | (simp; rfl) | exact clo_map _ _ _), ⟨_, rfl, rfl⟩, (by first | (simp; done) | (simp; rfl) | exact clo_map _ _ _), ⟨_, rfl, rfl⟩, (by first | (simp; done) | (simp; rfl) | exact clo_map _ _ _), trivial⟩ ⟨⟨_, rfl, rfl⟩, (by first | (simp; done) | (simp; rfl) | exact clo_map _ _ _), ⟨_, rfl, rfl⟩, (by first | (simp; done) | (simp; rfl) | exact clo_map _ _ _), ⟨_, rfl, rfl⟩, (by first | (simp; done) | (simp; rfl) | exact clo_map _ _ _), trivial⟩ trivial)
    · have hge : i = 5 := by
        have h : decide ((i : Int) < 5) = false := hc1
        simp at h; omega
      subst hge
      refine awp_exit ?_
      refine awp_seq ?_
      refine awp_drawc follows ?_
      refine dc_cons (r := ⟨_, some [], []⟩) (DStep.plain rfl (fun H1 hH => by exact opd_move rfl rfl)) rfl ?_
      refine dc_cons (r := ⟨_, some [3], []⟩) (DStep.plain rfl (fun H1 hH => by exact (by first | exact opd_loadn_ref rfl Tryz.isAgg24 Tryz.sizeOf24 rfl ((hH _ rfl).trans rfl) rfl rfl (by simp only [List.drop_succ_cons, List.drop_zero, List.take_succ_cons, List.take_zero, List.take_nil, List.map_cons, List.map_nil, List.set_cons_zero, List.set_cons_succ, List.cons_append, List.nil_append, encTag, encObj, encEdit]; rfl) rfl | exact opd_loadn_pad rfl Tryz.isAgg24 Tryz.sizeOf24 rfl (by first | omega | assumption) (by simp only [List.drop_succ_cons, List.drop_zero, List.take_succ_cons, List.take_zero, List.take_nil, List.map_cons, List.map_nil, List.set_cons_zero, List.set_cons_succ, List.cons_append, List.nil_append, encTag, encObj, encEdit]; rfl) rfl))) rfl ?_
      refine dc_cons (r := ⟨_, some [], []⟩) (DStep.plain rfl (fun H1 hH => by exact opd_assign rfl rfl)) rfl ?_
      refine dc_cons (r := ⟨_, some [1], [_]⟩) (DStep.plain rfl (fun H1 hH => by exact (by first | exact x_store_all rfl Tryz.sizeOf24 rfl rfl rfl rfl ((hH _ rfl).trans rfl) rfl rfl rfl | exact x_store1 rfl Tryz.sizeOf24 rfl rfl rfl ((hH _ rfl).trans rfl) rfl rfl (by simp only [List.length_cons, List.length_nil]; omega) (by simp only [List.drop_succ_cons, List.drop_zero, List.take_succ_cons, List.take_zero, List.take_nil, List.map_cons, List.map_nil, List.set_cons_zero, List.set_cons_succ, List.cons_append, List.nil_append, encTag, encObj, encEdit]; rfl) (by simp only [List.drop_succ_cons, List.drop_zero, List.take_succ_cons, List.take_zero, List.take_nil, List.map_cons, List.map_nil, List.set_cons_zero, List.set_cons_succ, List.cons_append, List.nil_append, encTag, encObj, encEdit]; rfl) | exact x_store1 rfl Tryz.sizeOf24 rfl rfl rfl ((hH _ rfl).trans rfl) rfl rfl (Nat.le_of_ble_eq_true rfl) rfl rfl))) rfl ?_
      refine dc_nil ⟨by kernel_rfl, ?_⟩
      refine awp_ret ?_
      -- return
      refine aret2 (H' := []) (by first | exact .inr rfl | exact .inl rfl) rfl (rval_tmp rfl) (rval_cell rfl Tryz.isAgg24 Tryz.sizeOf24 rfl rfl rfl (by simp only [List.drop_succ_cons, List.drop_zero, List.take_succ_cons, List.take_zero, List.take_nil, List.map_cons, List.map_nil, List.set_cons_zero, List.set_cons_succ, List.cons_append, List.nil_append, encTag, encObj, encEdit]; rfl) rfl) (Fin.fz (id := 9) (nodes5.map encObj) rfl (rows_of encObj nodes5) (.tup (by rfl) (fz_cons (.same (by simp)) (fz_cons (.agg (by rfl) (fz_cons (.osl rfl) fz_nil)) fz_nil))) rfl trivial trivial) ?_
      exact ⟨rfl, rfl⟩
end Go.Proofs.YtdgoodjhndeojaaGreat
end
section
set_option linter.unusedVariables false
set_option linter.unusedSimpArgs false
set_option maxRecDepth 100000
namespace Go.Proofs.YtdgoodjhndeojaaGreat
open Go.Abs
def dropE (i : Nat) : GEdit := ⟨5, nm i, sNil, sNil, 0, 0, sNil, sNil, [], zObj⟩
def moveE (i : Nat) : GEdit := ⟨2, nm i, sNil, sNil, 3000, 0, sNil, sNil, [], zObj⟩
def putE (i : Nat) : GEdit := ⟨1, sNil, sNil, sNil, 0, 0, sNil, sNil, [], ⟨⟨#[120]⟩ ++ nm i, 1, 0, 0, [], []⟩⟩
abbrev drops5 : List GEdit := (List.range 5).map dropE
abbrev moves5 : List GEdit := (List.range 5).map moveE
abbrev puts5 : List GEdit := (List.range 5).map putE
theorem okNodes : okMap nodes5 := ⟨by decide, fun o ho => by
  obtain ⟨i, _, rfl⟩ := List.mem_map.1 ho
  exact (by decide : 0 < 4611686018427387904)⟩
theorem okPlain {l : List GEdit} (h : l.length < 1099511627776) (ht : ∀ e, e ∈ l → e.obj.tags = []) : okEdits l := ⟨h, fun e he => by
  rw [okTagsV, ht e he]; decide⟩
theorem plain5 (f : Nat → GEdit) (h : ∀ i, (f i).obj.tags = []) : ∀ e, e ∈ (List.range 5).map f → e.obj.tags = [] := fun e he => by
  obtain ⟨i, _, rfl⟩ := List.mem_map.1 he
  exact h i
theorem ev1 : gAccept nodes5 (drops5 ++ [moveE 0]) 1 [0, 1, 2, 3, 4] = true := by kernel_rfl
theorem ev2 : gAccept nodes5 (drops5 ++ moves5) 1 [0, 1, 2, 3, 4] = false := by kernel_rfl
theorem ev3 : gAccept nodes5 puts5 4 [0, 1, 2, 3] = true := by kernel_rfl
theorem ev4 : gAccept nodes5 puts5 0 [] = false := by kernel_rfl
theorem ev5 : gAccept nodes5 moves5 3 [0, 2, 4] = true := by kernel_rfl
theorem ev6 : gAccept nodes5 moves5 3 [0, 2] = false := by kernel_rfl
/-- Accept is lent an owned slice. -/
theorem lent_c (l : List GEdit) (kind : Int) (idx : List Int) (b : Bool) (H : Heap) (id n : Nat) (ob : Ob) (hH : H.get id = some ob) (hrows : ob.rows = (l.map encEdit).map (·.map .pv)) (hn : n = l.length) (hl : okEdits l) (hx : idx.length < 4611686018427387904) (hb : gAccept nodes5 l kind idx = b) :
    ACalls Tryz.prog 28 [.agg [.pv (slObjs nodes5)], .osl id ob.g 0 n, .agg [iv kind, .pv (slInts idx)]] H (fun r H' => r = bv b ∧ H' = H) := by
  subst hb hn
  exact RO.calls (RO.lend (id := id) (l.map encEdit) (RO.of (accept_c nodes5 l kind idx [] okNodes hl hx) rfl) hH hrows rfl
    (fz_cons (.same (by simp)) (fz_cons (.osl (by rw [Nat.zero_add, List.drop_zero, ← List.length_map (f := encEdit), List.take_length])) (fz_cons (.same (by simp)) fz_nil))) (fun _ _ h => by cases h) (fun _ _ h => by cases h) rfl)
theorem head32_c (H : Heap) : ACalls Tryz.prog 26 [] H (fun r H' => r = bv true ∧ H' = H) := by
  refine ACalls.pure ?_ (by simp) H
  have p1 := plain5 dropE (fun _ => rfl)
  have p2 := plain5 moveE (fun _ => rfl)
  have p3 := plain5 putE (fun _ => rfl)
  have o1 : okEdits (drops5 ++ [moveE 0]) := okPlain (by decide) (fun e he => by
    rcases List.mem_append.1 he with h | h
    · exact p1 e h
    · rw [List.mem_singleton.1 h]; rfl)
  have o2 : okEdits (drops5 ++ moves5) := okPlain (by decide) (fun e he => by
    rcases List.mem_append.1 he with h | h
    · exact p1 e h
    · exact p2 e h)
  have o3 : okEdits puts5 := okPlain (by decide) p3
  have o4 : okEdits moves5 := okPlain (by decide) p2
  refine ACalls.body Tryz.func26 rfl Tryz.ntmps26 (Nat.le_of_ble_eq_true rfl) ?_
  refine awp_seq ?_
  refine awp_region ?_
  refine al_d rfl rfl rfl (by exact opd_assign rfl rfl) ?_
  refine al_nil ?_
  refine awp_seq ?_
  refine awp_region ?_
  refine al_d rfl rfl rfl (by exact opr_call rfl rfl Tryz.call70 rfl (nodes_c _)) ?_
  refine al_d rfl rfl rfl (by exact opd_move rfl rfl) ?_
  refine al_d rfl rfl rfl (by exact opd_extract rfl rfl rfl) ?_
  refine al_d rfl rfl rfl (by exact opd_extract rfl rfl rfl) ?_
  refine al_d rfl rfl rfl (by exact x_alloc (id := 2) rfl zo24 rfl rfl) ?_
  refine al_d rfl rfl rfl (by exact opd_assign rfl rfl) ?_
  refine al_n rfl rfl (by exact (by first | exact x_store_all rfl Tryz.sizeOf24 rfl rfl rfl rfl rfl rfl rfl rfl | exact x_store1 rfl Tryz.sizeOf24 rfl rfl rfl rfl rfl rfl (by simp only [List.length_cons, List.length_nil]; omega) (by simp only [List.drop_succ_cons, List.drop_zero, List.take_succ_cons, List.take_zero, List.take_nil, List.map_cons, List.map_nil, List.set_cons_zero, List.set_cons_succ, List.cons_append, List.nil_append, encTag, encObj, encEdit]; rfl) (by simp only [List.drop_succ_cons, List.drop_zero, List.take_succ_cons, List.take_zero, List.take_nil, List.map_cons, List.map_nil, List.set_cons_zero, List.set_cons_succ, List.cons_append, List.nil_append, encTag, encObj, encEdit]; rfl) | exact x_store1 rfl Tryz.sizeOf24 rfl rfl rfl rfl rfl rfl (Nat.le_of_ble_eq_true rfl) rfl rfl)) ?_
  refine al_nil ?_
  refine awp_seq ?_
  refine awp_region ?_
  refine al_d rfl rfl rfl (by exact opd_assign_own (id := 3) (sz := 15) (ty := 44) rfl rfl rfl) ?_
  refine al_d rfl rfl rfl (by exact opd_assign_own (id := 4) (sz := 15) (ty := 44) rfl rfl rfl) ?_
  refine al_d rfl rfl rfl (by exact opd_assign_own (id := 5) (sz := 15) (ty := 44) rfl rfl rfl) ?_
  refine al_nil ?_
  refine awp_seq ?_
  refine awp_seq ?_
  refine awp_region ?_
  refine al_d rfl rfl rfl (by exact opd_assign rfl rfl) ?_
  refine al_nil ?_
  refine awp_block ?_
  -- loop
  refine awp_loop (σ := Nat) (fun i => ([(1, lv (names5.map encStr)), (2, .ref 2 0 0 0), (3, .osl 3 i 0 i), (4, .osl 4 i 0 i), (5, .osl 5 i 0 i), (6, iv (i : Int))],
    [(3, ⟨i, 15, 44, edRows ((List.range i).map dropE)⟩), (4, ⟨i, 15, 44, edRows ((List.range i).map putE)⟩), (5, ⟨i, 15, 44, edRows ((List.range i).map moveE)⟩), (2, bx 1 24 [.pv (slObjs nodes5)])])) (fun i => i ≤ 5) (fun i => 5 - i) 0 (by omega) ?_ ?_
  · exact (Ent.wk ⟨⟨_, rfl, rfl⟩, (by first | (simp; done) | (simp; rfl) | exact clo_map _ _ _), ⟨_, rfl, rfl⟩, (by first | (simp; done) | (simp; rfl) | exact clo_map _ _ _), ⟨_, rfl, rfl⟩, (by first | (simp; done) | (simp; rfl) | exact clo_map _ _ _), ⟨_, rfl, rfl⟩, (by first | (simp; done) | (simp; rfl) | exact clo_map _ _ _), ⟨_, rfl, rfl⟩, (by first | (simp; done) | (simp; rfl) | exact clo_map _ _ _), ⟨_, rfl, rfl⟩, (by first | (simp; done) | (simp; rfl) | exact clo_map _ _ _), trivial⟩ ⟨⟨_, rfl, rfl⟩, (by first | (simp; done) | (simp; rfl) | exact clo_map _ _ _), ⟨_, rfl, rfl⟩, (by first | (simp; done) | (simp; rfl) | exact clo_map _ _ _), ⟨_, rfl, rfl⟩, (by first | (simp; done) | (simp; rfl) | exact clo_map _ _ _), ⟨_, rfl, rfl⟩, (by first | (simp; done) | (simp; rfl) | exact clo_map _ _ _), trivial⟩ trivial)
  · intro i hi
    refine awp_seq ?_
    refine awp_seq ?_
    refine awp_region ?_
    refine al_d rfl rfl rfl (by exact opd_move rfl rfl) ?_
    refine al_d rfl rfl rfl (by exact opd_move rfl rfl) ?_
    refine al_d rfl rfl rfl (by exact (by first | exact opd_len_sl rfl Tryz.underlying39 rfl | exact opd_len_osl rfl Tryz.underlying39 rfl rfl rfl)) ?_
    refine al_d rfl rfl rfl (by exact opd_lss rfl rfl rfl) ?_
    refine al_nil ?_
    refine awp_cond rfl (fun hc1 => ?_) (fun hc1 => ?_)
    -- cond 1
    · have hlt : i < 5 := by
        have h : decide ((i : Int) < 5) = true := hc1
        simp at h; omega
      have hni := names5_at hlt
      have hsz : (nm i).size = 2 := rfl
      refine awp_skip ?_
      refine awp_seq ?_
      refine awp_block ?_
      refine awp_seq ?_
      refine awp_region ?_
      refine al_d rfl rfl rfl (by exact opd_move rfl rfl) ?_
      refine al_d rfl rfl rfl (by exact opd_move rfl rfl) ?_
      refine al_d rfl rfl rfl (by exact opd_move rfl rfl) ?_
      refine al_d rfl rfl rfl (by exact (by first | exact x_index_pad rfl so39 rfl rfl (by omega) (by first | exact Int.toNat_natCast _ | rfl) (by assumption) rfl | exact x_index_osl rfl so39 rfl rfl rfl rfl rfl (by omega) (by first | exact Int.toNat_natCast _ | rfl) (by first | omega | assumption) rfl)) ?_
      refine al_d rfl rfl rfl (by exact (by first | exact opd_load1_ref rfl Tryz.isAgg9 rfl rfl rfl rfl rfl | exact opd_load1_pad rfl Tryz.isAgg9 rfl (by first | omega | assumption) rfl)) ?_
      refine al_d rfl rfl rfl (by exact x_build rfl bo44 rfl rfl) ?_
      refine al_d rfl rfl rfl (by exact x_buildSlice [encEdit (dropE i)] rfl so25 rfl rfl rfl rfl rfl (by simp [encEdit])) ?_
      refine al_d rfl rfl rfl (by exact (by first | exact x_append rfl so25 ei44 rfl rfl rfl rfl rfl (by simp : _ = i) rfl (by simp [encEdit]) (rfl : _ = 1) (by omega) (rfl : _ = i + 1) (List.map_append (l₂ := [dropE i])).symm | exact x_append_osl rfl so25 ei44 rfl rfl rfl rfl rfl (by simp : _ = i) rfl rfl rfl rfl (by simp [encEdit]) (rfl : _ = 1) (by omega) (rfl : _ = i + 1) (List.map_append (l₂ := [dropE i])).symm)) ?_
      refine al_d rfl rfl rfl (by exact opd_assign rfl rfl) ?_
      refine al_nil ?_
      refine awp_seq ?_
      refine awp_region ?_
      refine al_d rfl rfl rfl (by exact opd_move rfl rfl) ?_
      refine al_d rfl rfl rfl (by exact opd_move rfl rfl) ?_
      refine al_d rfl rfl rfl (by exact opd_move rfl rfl) ?_
      refine al_d rfl rfl rfl (by exact (by first | exact x_index_pad rfl so39 rfl rfl (by omega) (by first | exact Int.toNat_natCast _ | rfl) (by assumption) rfl | exact x_index_osl rfl so39 rfl rfl rfl rfl rfl (by omega) (by first | exact Int.toNat_natCast _ | rfl) (by first | omega | assumption) rfl)) ?_
      refine al_d rfl rfl rfl (by exact (by first | exact opd_load1_ref rfl Tryz.isAgg9 rfl rfl rfl rfl rfl | exact opd_load1_pad rfl Tryz.isAgg9 rfl (by first | omega | assumption) rfl)) ?_
      refine al_d rfl rfl rfl (by exact x_build rfl bo38 rfl rfl) ?_
      refine al_d rfl rfl rfl (by exact x_build rfl bo44 rfl rfl) ?_
      refine al_d rfl rfl rfl (by exact x_buildSlice [encEdit (moveE i)] rfl so25 rfl rfl rfl rfl rfl (by simp [encEdit])) ?_
      refine al_d rfl rfl rfl (by exact (by first | exact x_append rfl so25 ei44 rfl rfl rfl rfl rfl (by simp : _ = i) rfl (by simp [encEdit]) (rfl : _ = 1) (by omega) (rfl : _ = i + 1) (List.map_append (l₂ := [moveE i])).symm | exact x_append_osl rfl so25 ei44 rfl rfl rfl rfl rfl (by simp : _ = i) rfl rfl rfl rfl (by simp [encEdit]) (rfl : _ = 1) (by omega) (rfl : _ = i + 1) (List.map_append (l₂ := [moveE i])).symm)) ?_
      refine al_d rfl rfl rfl (by exact opd_assign rfl rfl) ?_
      refine al_nil ?_
      refine awp_region ?_
      refine al_d rfl rfl rfl (by exact opd_move rfl rfl) ?_
      refine al_d rfl rfl rfl (by exact opd_move rfl rfl) ?_
      refine al_d rfl rfl rfl (by exact opd_move rfl rfl) ?_
      refine al_d rfl rfl rfl (by exact (by first | exact x_index_pad rfl so39 rfl rfl (by omega) (by first | exact Int.toNat_natCast _ | rfl) (by assumption) rfl | exact x_index_osl rfl so39 rfl rfl rfl rfl rfl (by omega) (by first | exact Int.toNat_natCast _ | rfl) (by first | omega | assumption) rfl)) ?_
      refine al_d rfl rfl rfl (by exact (by first | exact opd_load1_ref rfl Tryz.isAgg9 rfl rfl rfl rfl rfl | exact opd_load1_pad rfl Tryz.isAgg9 rfl (by first | omega | assumption) rfl)) ?_
      refine al_d rfl rfl rfl (by exact opd_sadd rfl rfl rfl (show (1 : Nat) + 2 ≤ 9223372036854775807 by decide) rfl) ?_
      refine al_d rfl rfl rfl (by exact x_build rfl bo42 rfl rfl) ?_
      refine al_d rfl rfl rfl (by exact x_build rfl bo44 rfl rfl) ?_
      refine al_d rfl rfl rfl (by exact x_buildSlice [encEdit (putE i)] rfl so25 rfl rfl rfl rfl rfl (by simp [encEdit])) ?_
      refine al_d rfl rfl rfl (by exact (by first | exact x_append rfl so25 ei44 rfl rfl rfl rfl rfl (by simp : _ = i) rfl (by simp [encEdit]) (rfl : _ = 1) (by omega) (rfl : _ = i + 1) (List.map_append (l₂ := [putE i])).symm | exact x_append_osl rfl so25 ei44 rfl rfl rfl rfl rfl (by simp : _ = i) rfl rfl rfl rfl (by simp [encEdit]) (rfl : _ = 1) (by omega) (rfl : _ = i + 1) (List.map_append (l₂ := [putE i])).symm)) ?_
      refine al_d rfl rfl rfl (by exact opd_assign rfl rfl) ?_
      refine al_nil ?_
      refine awp_region ?_
      refine al_d rfl rfl rfl (by exact opd_move rfl rfl) ?_
      refine al_d rfl rfl rfl (by exact opd_add rfl rfl rfl (by first | exact w64 (by omega) (by omega) | exact wu8 (by omega) (by omega) | rfl)) ?_
      refine al_d rfl rfl rfl (by exact opd_assign rfl rfl) ?_
      refine al_nil ?_
      -- end of a round
      refine ⟨i + 1, by omega, by omega, ?_⟩
      rw [range_snoc, range_snoc, range_snoc]
      exact (Ent.wk ⟨⟨_, rfl, rfl⟩, (by first | (simp; done) | (simp; rfl) | exact clo_map _ _ _), ⟨_, rfl, rfl⟩, (by first | (simp; done) | (simp; rfl) | exact clo_map _ _ _), ⟨_, rfl, rfl⟩, (by first | (simp; done) | (simp; rfl) | exact clo_map _ _ _), ⟨_, rfl, rfl⟩, (by first | (simp; done) | (simp; rfl) | exact clo_map _ _ _), ⟨_, rfl, rfl⟩, (by first | (simp; done) | (simp; rfl) | exact clo_map _ _ _), ⟨_, rfl, rfl⟩, (by first | (simp; done) | (simp; rfl) | exact clo_map _ _ _), trivial⟩ ⟨⟨_, rfl, rfl⟩, (by first | (simp; done) | (simp; rfl) | exact clo_map _ _ _), ⟨_, rfl, rfl⟩, (by first | (simp; done) | (simp; rfl) | exact clo_map _ _ _), ⟨_, rfl, rfl⟩, (by first | (simp; done) | (simp; rfl) | exact clo_map _ _ _), ⟨_, rfl, rfl⟩, (by first | (simp; done) | (simp; rfl) | exact clo_map _ _ _), trivial⟩ trivial)
    · have hge : i = 5 := by
        have h : decide ((i : Int) < 5) = false := hc1
        simp at h; omega
      subst hge
      refine awp_exit ?_
      refine awp_seq ?_
      refine awp_region ?_
      refine al_d rfl rfl rfl (by exact x_buildSlice ([0, 1, 2, 3, 4].map encInt) rfl so29 rfl rfl rfl rfl rfl (by simp [encInt])) ?_
      refine al_d rfl rfl rfl (by exact x_build rfl bo31 rfl rfl) ?_
      refine al_d rfl rfl rfl (by exact x_alloc (id := 7) rfl zo31 rfl rfl) ?_
      refine al_n rfl rfl (by exact (by first | exact x_store_all rfl Tryz.sizeOf31 rfl rfl rfl rfl rfl rfl rfl rfl | exact x_store rfl Tryz.sizeOf31 rfl rfl rfl rfl rfl rfl rfl (by simp only [List.length_cons, List.length_nil]; omega) (by simp only [List.drop_succ_cons, List.drop_zero, List.take_succ_cons, List.take_zero, List.take_nil, List.map_cons, List.map_nil, List.set_cons_zero, List.set_cons_succ, List.cons_append, List.nil_append, encTag, encObj, encEdit]; rfl) (by simp only [List.drop_succ_cons, List.drop_zero, List.take_succ_cons, List.take_zero, List.take_nil, List.map_cons, List.map_nil, List.set_cons_zero, List.set_cons_succ, List.cons_append, List.nil_append, encTag, encObj, encEdit]; rfl) | exact x_store rfl Tryz.sizeOf31 rfl rfl rfl rfl rfl rfl rfl (Nat.le_of_ble_eq_true rfl) rfl rfl)) ?_
      refine al_nil ?_
      refine awp_seq ?_
      refine awp_drawc follows ?_
      refine dc_cons (r := ⟨_, some [2], []⟩) (DStep.plain rfl (fun H1 hH => by exact (by first | exact opd_loadn_ref rfl Tryz.isAgg24 Tryz.sizeOf24 rfl ((hH _ rfl).trans rfl) rfl rfl (by simp only [List.drop_succ_cons, List.drop_zero, List.take_succ_cons, List.take_zero, List.take_nil, List.map_cons, List.map_nil, List.set_cons_zero, List.set_cons_succ, List.cons_append, List.nil_append, encTag, encObj, encEdit]; rfl) rfl | exact opd_loadn_pad rfl Tryz.isAgg24 Tryz.sizeOf24 rfl (by first | omega | assumption) (by simp only [List.drop_succ_cons, List.drop_zero, List.take_succ_cons, List.take_zero, List.take_nil, List.map_cons, List.map_nil, List.set_cons_zero, List.set_cons_succ, List.cons_append, List.nil_append, encTag, encObj, encEdit]; rfl) rfl))) rfl ?_
      refine dc_cons (r := ⟨_, some [50], [_]⟩) (DStep.plain rfl (fun H1 hH => by exact x_buildSlice_own (id := 50) rfl so25 rfl rfl rfl rfl (by simp) ((hH _ rfl).trans rfl))) rfl ?_
      refine dc_cons (r := ⟨_, some [3], []⟩) (DStep.plain rfl (fun H1 hH => by exact opd_move rfl rfl)) rfl ?_
      refine dc_cons (r := ⟨_, some [3, 50], [_]⟩) (DStep.plain rfl (fun H1 hH => by exact (by first | exact x_append rfl so25 ei44 rfl ((hH _ rfl).trans rfl) rfl rfl rfl rfl rfl (by simp [encEdit]) (by simp) (by omega) rfl rfl | exact x_append_osl rfl so25 ei44 rfl ((hH _ rfl).trans rfl) rfl rfl rfl rfl rfl ((hH _ rfl).trans rfl) rfl rfl (by simp [encEdit]) (by simp) (by omega) rfl rfl))) rfl ?_
      refine dc_cons (r := ⟨_, some [5], []⟩) (DStep.plain rfl (fun H1 hH => by exact opd_move rfl rfl)) rfl ?_
      refine dc_cons (r := ⟨_, some [5], []⟩) (DStep.plain rfl (fun H1 hH => by exact x_index_osl rfl so25 rfl ((hH 5 rfl).trans rfl) rfl rfl rfl (by decide) (rfl : _ = 0) (by decide) rfl)) rfl ?_
      refine dc_cons (r := ⟨_, some [5], []⟩) (DStep.plain rfl (fun H1 hH => by exact opd_loadn_ref (r := (encEdit (moveE 0)).map AV.pv) (cs := (encEdit (moveE 0)).map AV.pv) rfl Tryz.isAgg44 Tryz.sizeOf44 rfl ((hH 5 rfl).trans rfl) rfl rfl rfl rfl)) rfl ?_
      refine dc_cons (r := ⟨_, some [], []⟩) (DStep.plain rfl (fun H1 hH => by exact x_buildSlice [encEdit (moveE 0)] rfl so25 rfl rfl rfl rfl rfl (by simp [encEdit]))) rfl ?_
      refine dc_cons (r := ⟨_, some [50], [_]⟩) (DStep.plain rfl (fun H1 hH => by exact (by first | exact x_append rfl so25 ei44 rfl ((hH _ rfl).trans rfl) rfl rfl rfl rfl rfl (by simp [encEdit]) (rfl : _ = 1) (by omega) rfl rfl | exact x_append_osl rfl so25 ei44 rfl ((hH _ rfl).trans rfl) rfl rfl rfl rfl rfl ((hH _ rfl).trans rfl) rfl rfl (by simp [encEdit]) (rfl : _ = 1) (by omega) rfl rfl))) rfl ?_
      refine dc_cons (r := ⟨_, some [7], []⟩) (DStep.plain rfl (fun H1 hH => by exact (by first | exact opd_loadn_ref rfl Tryz.isAgg31 Tryz.sizeOf31 rfl ((hH _ rfl).trans rfl) rfl rfl (by simp only [List.drop_succ_cons, List.drop_zero, List.take_succ_cons, List.take_zero, List.take_nil, List.map_cons, List.map_nil, List.set_cons_zero, List.set_cons_succ, List.cons_append, List.nil_append, encTag, encObj, encEdit]; rfl) rfl | exact opd_loadn_pad rfl Tryz.isAgg31 Tryz.sizeOf31 rfl (by first | omega | assumption) (by simp only [List.drop_succ_cons, List.drop_zero, List.take_succ_cons, List.take_zero, List.take_nil, List.map_cons, List.map_nil, List.set_cons_zero, List.set_cons_succ, List.cons_append, List.nil_append, encTag, encObj, encEdit]; rfl) rfl))) rfl ?_
      refine dc_cons (r := ⟨_, some [50], []⟩) (DStep.plain rfl (fun H1 hH => by exact opr_call rfl rfl Tryz.call28 rfl (lent_c (drops5 ++ [moveE 0]) 1 [0, 1, 2, 3, 4] true _ 50 _ _ ((hH 50 rfl).trans rfl) (by rfl) (by rfl) o1 (by decide) ev1))) rfl ?_
      refine dc_cons (r := ⟨_, some [], []⟩) (DStep.plain rfl (fun H1 hH => by exact opd_move rfl rfl)) rfl ?_
      refine dc_cons (r := ⟨_, some [2], []⟩) (l_on_t rfl rfl rfl (by first | rfl | assumption) (fun H1 hH => by exact (by first | exact opd_loadn_ref rfl Tryz.isAgg24 Tryz.sizeOf24 rfl ((hH _ rfl).trans rfl) rfl rfl (by simp only [List.drop_succ_cons, List.drop_zero, List.take_succ_cons, List.take_zero, List.take_nil, List.map_cons, List.map_nil, List.set_cons_zero, List.set_cons_succ, List.cons_append, List.nil_append, encTag, encObj, encEdit]; rfl) rfl | exact opd_loadn_pad rfl Tryz.isAgg24 Tryz.sizeOf24 rfl (by first | omega | assumption) (by simp only [List.drop_succ_cons, List.drop_zero, List.take_succ_cons, List.take_zero, List.take_nil, List.map_cons, List.map_nil, List.set_cons_zero, List.set_cons_succ, List.cons_append, List.nil_append, encTag, encObj, encEdit]; rfl) rfl))) rfl ?_
      refine dc_cons (r := ⟨_, some [62], [_]⟩) (l_on_t rfl rfl rfl (by first | rfl | assumption) (fun H1 hH => by exact x_buildSlice_own (id := 62) rfl so25 rfl rfl rfl rfl (by simp) ((hH _ rfl).trans rfl))) rfl ?_
      refine dc_cons (r := ⟨_, some [3], []⟩) (l_on_t rfl rfl rfl (by first | rfl | assumption) (fun H1 hH => by exact opd_move rfl rfl)) rfl ?_
      refine dc_cons (r := ⟨_, some [3, 62], [_]⟩) (l_on_t rfl rfl rfl (by first | rfl | assumption) (fun H1 hH => by exact (by first | exact x_append rfl so25 ei44 rfl ((hH _ rfl).trans rfl) rfl rfl rfl rfl rfl (by simp [encEdit]) (by simp) (by omega) rfl rfl | exact x_append_osl rfl so25 ei44 rfl ((hH _ rfl).trans rfl) rfl rfl rfl rfl rfl ((hH _ rfl).trans rfl) rfl rfl (by simp [encEdit]) (by simp) (by omega) rfl rfl))) rfl ?_
      refine dc_cons (r := ⟨_, some [5], []⟩) (l_on_t rfl rfl rfl (by first | rfl | assumption) (fun H1 hH => by exact opd_move rfl rfl)) rfl ?_
      refine dc_cons (r := ⟨_, some [5, 62], [_]⟩) (l_on_t rfl rfl rfl (by first | rfl | assumption) (fun H1 hH => by exact (by first | exact x_append rfl so25 ei44 rfl ((hH _ rfl).trans rfl) rfl rfl rfl rfl rfl (by simp [encEdit]) (by simp) (by omega) rfl rfl | exact x_append_osl rfl so25 ei44 rfl ((hH _ rfl).trans rfl) rfl rfl rfl rfl rfl ((hH _ rfl).trans rfl) rfl rfl (by simp [encEdit]) (by simp) (by omega) rfl rfl))) rfl ?_
      refine dc_cons (r := ⟨_, some [7], []⟩) (l_on_t rfl rfl rfl (by first | rfl | assumption) (fun H1 hH => by exact (by first | exact opd_loadn_ref rfl Tryz.isAgg31 Tryz.sizeOf31 rfl ((hH _ rfl).trans rfl) rfl rfl (by simp only [List.drop_succ_cons, List.drop_zero, List.take_succ_cons, List.take_zero, List.take_nil, List.map_cons, List.map_nil, List.set_cons_zero, List.set_cons_succ, List.cons_append, List.nil_append, encTag, encObj, encEdit]; rfl) rfl | exact opd_loadn_pad rfl Tryz.isAgg31 Tryz.sizeOf31 rfl (by first | omega | assumption) (by simp only [List.drop_succ_cons, List.drop_zero, List.take_succ_cons, List.take_zero, List.take_nil, List.map_cons, List.map_nil, List.set_cons_zero, List.set_cons_succ, List.cons_append, List.nil_append, encTag, encObj, encEdit]; rfl) rfl))) rfl ?_
      refine dc_cons (r := ⟨_, some [62], []⟩) (l_on_t rfl rfl rfl (by first | rfl | assumption) (fun H1 hH => by exact opr_call rfl rfl Tryz.call28 rfl (lent_c (drops5 ++ moves5) 1 [0, 1, 2, 3, 4] false _ 62 _ _ ((hH 62 rfl).trans rfl) (by rfl) (by rfl) o2 (by decide) ev2))) rfl ?_
      refine dc_cons (r := ⟨_, some [], []⟩) (l_on_t rfl rfl rfl (by first | rfl | assumption) (fun H1 hH => by exact opd_not rfl rfl)) rfl ?_
      refine dc_cons (r := ⟨_, some [], []⟩) (DStep.plain rfl (fun H1 hH => by exact (by first | exact opd_pick_t rfl rfl rfl | exact opd_pick_f rfl rfl rfl | exact opd_pickt rfl rfl (by assumption) rfl | exact opd_pickf rfl rfl (by assumption) rfl | exact opd_pick rfl rfl rfl))) rfl ?_
      refine dc_cons (r := ⟨_, some [], []⟩) (DStep.plain rfl (fun H1 hH => by exact opd_assign rfl rfl)) rfl ?_
      refine dc_nil ⟨by kernel_rfl, ?_⟩
      refine awp_seq ?_
      refine awp_bool (t := 9) (n := 14) (X := true) ?_ ?_
      · all_goals (refine al_d rfl rfl rfl (by exact (by first | exact opd_loadn_ref rfl Tryz.isAgg24 Tryz.sizeOf24 rfl rfl rfl rfl (by simp only [List.drop_succ_cons, List.drop_zero, List.take_succ_cons, List.take_zero, List.take_nil, List.map_cons, List.map_nil, List.set_cons_zero, List.set_cons_succ, List.cons_append, List.nil_append, encTag, encObj, encEdit]; rfl) rfl | exact opd_loadn_pad rfl Tryz.isAgg24 Tryz.sizeOf24 rfl (by first | omega | assumption) (by simp only [List.drop_succ_cons, List.drop_zero, List.take_succ_cons, List.take_zero, List.take_nil, List.map_cons, List.map_nil, List.set_cons_zero, List.set_cons_succ, List.cons_append, List.nil_append, encTag, encObj, encEdit]; rfl) rfl)) ?_)
        all_goals (refine al_d rfl rfl rfl (by exact opd_move rfl rfl) ?_)
        all_goals (refine al_d rfl rfl rfl (by exact x_buildSlice ([0, 1, 2, 3].map encInt) rfl so29 rfl rfl rfl rfl rfl (by simp [encInt])) ?_)
        all_goals (refine al_d rfl rfl rfl (by exact x_build rfl bo31 rfl rfl) ?_)
        all_goals (refine al_d rfl rfl rfl (by exact opr_call rfl rfl Tryz.call28 rfl (lent_c puts5 4 [0, 1, 2, 3] true _ 4 _ ⟨5, 15, 44, edRows puts5⟩ rfl (rows_of encEdit puts5) (by rfl) o3 (by decide) ev3)) ?_)
        all_goals (refine al_d rfl rfl rfl (by exact opd_move rfl rfl) ?_)
        all_goals (first | refine al_split (t := 76) rfl (fun h76 => ?_) (fun h76 => ?_) | refine al_dup (t := 76) rfl ?_ | skip)
        all_goals (try contradiction)
        all_goals (first | refine al_off rfl rfl rfl rfl rfl ?_ | refine al_offu rfl rfl rfl rfl ?_ | refine al_ond rfl rfl rfl rfl rfl rfl (by exact (by first | exact opd_loadn_ref rfl Tryz.isAgg24 Tryz.sizeOf24 rfl rfl rfl rfl (by simp only [List.drop_succ_cons, List.drop_zero, List.take_succ_cons, List.take_zero, List.take_nil, List.map_cons, List.map_nil, List.set_cons_zero, List.set_cons_succ, List.cons_append, List.nil_append, encTag, encObj, encEdit]; rfl) rfl | exact opd_loadn_pad rfl Tryz.isAgg24 Tryz.sizeOf24 rfl (by first | omega | assumption) (by simp only [List.drop_succ_cons, List.drop_zero, List.take_succ_cons, List.take_zero, List.take_nil, List.map_cons, List.map_nil, List.set_cons_zero, List.set_cons_succ, List.cons_append, List.nil_append, encTag, encObj, encEdit]; rfl) rfl)) ?_)
        all_goals (first | refine al_off rfl rfl rfl rfl rfl ?_ | refine al_offu rfl rfl rfl rfl ?_ | refine al_ond rfl rfl rfl rfl rfl rfl (by exact opd_move rfl rfl) ?_)
        all_goals (first | refine al_off rfl rfl rfl rfl rfl ?_ | refine al_offu rfl rfl rfl rfl ?_ | refine al_ond rfl rfl rfl rfl rfl rfl (by exact x_build rfl bo31 rfl rfl) ?_)
        all_goals (first | refine al_off rfl rfl rfl rfl rfl ?_ | refine al_offu rfl rfl rfl rfl ?_ | refine al_ond rfl rfl rfl rfl rfl rfl (by exact opr_call rfl rfl Tryz.call28 rfl (lent_c puts5 0 [] false _ 4 _ ⟨5, 15, 44, edRows puts5⟩ rfl (rows_of encEdit puts5) (by rfl) o3 (by decide) ev4)) ?_)
        all_goals (first | refine al_off rfl rfl rfl rfl rfl ?_ | refine al_offu rfl rfl rfl rfl ?_ | refine al_ond rfl rfl rfl rfl rfl rfl (by exact opd_not rfl rfl) ?_)
        all_goals (refine al_d rfl rfl rfl (by exact (by first | exact opd_pick_t rfl rfl rfl | exact opd_pick_f rfl rfl rfl | exact opd_pickt rfl rfl (by assumption) rfl | exact opd_pickf rfl rfl (by assumption) rfl | exact opd_pick rfl rfl rfl)) ?_)
        all_goals (refine al_d rfl rfl rfl (by exact opd_assign rfl rfl) ?_)
        all_goals (refine al_nil ?_)
        all_goals (exact ⟨⟨_, rfl, by first | rfl | (simp only [*, Bool.false_and, Bool.true_and, Bool.and_false, Bool.and_true, Bool.true_or, Bool.false_or, Bool.or_true, Bool.or_false, Bool.not_true, Bool.not_false]; done) | (simp_all; done) | (simp_all; omega)⟩, rfl, rfl, rfl⟩)
      refine awp_seq ?_
      refine awp_bool (t := 0) (n := 23) (X := true) ?_ ?_
      · all_goals (refine al_d rfl rfl rfl (by exact opd_move rfl rfl) ?_)
        all_goals (refine al_d rfl rfl rfl (by exact opd_move rfl rfl) ?_)
        all_goals (first | refine al_split (t := 84) rfl (fun h84 => ?_) (fun h84 => ?_) | refine al_dup (t := 84) rfl ?_ | skip)
        all_goals (try contradiction)
        all_goals (first | refine al_off rfl rfl rfl rfl rfl ?_ | refine al_offu rfl rfl rfl rfl ?_ | refine al_ond rfl rfl rfl rfl rfl rfl (by exact opd_move rfl rfl) ?_)
        all_goals (refine al_d rfl rfl rfl (by exact (by first | exact opd_pick_t rfl rfl rfl | exact opd_pick_f rfl rfl rfl | exact opd_pickt rfl rfl (by assumption) rfl | exact opd_pickf rfl rfl (by assumption) rfl | exact opd_pick rfl rfl rfl)) ?_)
        all_goals (refine al_d rfl rfl rfl (by exact opd_move rfl rfl) ?_)
        all_goals (first | refine al_split (t := 87) rfl (fun h87 => ?_) (fun h87 => ?_) | refine al_dup (t := 87) rfl ?_ | skip)
        all_goals (try contradiction)
        all_goals (first | refine al_off rfl rfl rfl rfl rfl ?_ | refine al_offu rfl rfl rfl rfl ?_ | refine al_ond rfl rfl rfl rfl rfl rfl (by exact (by first | exact opd_loadn_ref rfl Tryz.isAgg24 Tryz.sizeOf24 rfl rfl rfl rfl (by simp only [List.drop_succ_cons, List.drop_zero, List.take_succ_cons, List.take_zero, List.take_nil, List.map_cons, List.map_nil, List.set_cons_zero, List.set_cons_succ, List.cons_append, List.nil_append, encTag, encObj, encEdit]; rfl) rfl | exact opd_loadn_pad rfl Tryz.isAgg24 Tryz.sizeOf24 rfl (by first | omega | assumption) (by simp only [List.drop_succ_cons, List.drop_zero, List.take_succ_cons, List.take_zero, List.take_nil, List.map_cons, List.map_nil, List.set_cons_zero, List.set_cons_succ, List.cons_append, List.nil_append, encTag, encObj, encEdit]; rfl) rfl)) ?_)
        all_goals (first | refine al_off rfl rfl rfl rfl rfl ?_ | refine al_offu rfl rfl rfl rfl ?_ | refine al_ond rfl rfl rfl rfl rfl rfl (by exact opd_move rfl rfl) ?_)
        all_goals (first | refine al_off rfl rfl rfl rfl rfl ?_ | refine al_offu rfl rfl rfl rfl ?_ | refine al_ond rfl rfl rfl rfl rfl rfl (by exact x_buildSlice ([0, 2, 4].map encInt) rfl so29 rfl rfl rfl rfl rfl (by simp [encInt])) ?_)
        all_goals (first | refine al_off rfl rfl rfl rfl rfl ?_ | refine al_offu rfl rfl rfl rfl ?_ | refine al_ond rfl rfl rfl rfl rfl rfl (by exact x_build rfl bo31 rfl rfl) ?_)
        all_goals (first | refine al_off rfl rfl rfl rfl rfl ?_ | refine al_offu rfl rfl rfl rfl ?_ | refine al_ond rfl rfl rfl rfl rfl rfl (by exact opr_call rfl rfl Tryz.call28 rfl (lent_c moves5 3 [0, 2, 4] true _ 5 _ ⟨5, 15, 44, edRows moves5⟩ rfl (rows_of encEdit moves5) (by rfl) o4 (by decide) ev5)) ?_)
        all_goals (refine al_d rfl rfl rfl (by exact (by first | exact opd_pick_t rfl rfl rfl | exact opd_pick_f rfl rfl rfl | exact opd_pickt rfl rfl (by assumption) rfl | exact opd_pickf rfl rfl (by assumption) rfl | exact opd_pick rfl rfl rfl)) ?_)
        all_goals (refine al_d rfl rfl rfl (by exact opd_move rfl rfl) ?_)
        all_goals (first | refine al_split (t := 94) rfl (fun h94 => ?_) (fun h94 => ?_) | refine al_dup (t := 94) rfl ?_ | skip)
        all_goals (try contradiction)
        all_goals (first | refine al_off rfl rfl rfl rfl rfl ?_ | refine al_offu rfl rfl rfl rfl ?_ | refine al_ond rfl rfl rfl rfl rfl rfl (by exact (by first | exact opd_loadn_ref rfl Tryz.isAgg24 Tryz.sizeOf24 rfl rfl rfl rfl (by simp only [List.drop_succ_cons, List.drop_zero, List.take_succ_cons, List.take_zero, List.take_nil, List.map_cons, List.map_nil, List.set_cons_zero, List.set_cons_succ, List.cons_append, List.nil_append, encTag, encObj, encEdit]; rfl) rfl | exact opd_loadn_pad rfl Tryz.isAgg24 Tryz.sizeOf24 rfl (by first | omega | assumption) (by simp only [List.drop_succ_cons, List.drop_zero, List.take_succ_cons, List.take_zero, List.take_nil, List.map_cons, List.map_nil, List.set_cons_zero, List.set_cons_succ, List.cons_append, List.nil_append, encTag, encObj, encEdit]; rfl) rfl)) ?_)
        all_goals (first | refine al_off rfl rfl rfl rfl rfl ?_ | refine al_offu rfl rfl rfl rfl ?_ | refine al_ond rfl rfl rfl rfl rfl rfl (by exact opd_move rfl rfl) ?_)
        all_goals (first | refine al_off rfl rfl rfl rfl rfl ?_ | refine al_offu rfl rfl rfl rfl ?_ | refine al_ond rfl rfl rfl rfl rfl rfl (by exact x_buildSlice ([0, 2].map encInt) rfl so29 rfl rfl rfl rfl rfl (by simp [encInt])) ?_)
        all_goals (first | refine al_off rfl rfl rfl rfl rfl ?_ | refine al_offu rfl rfl rfl rfl ?_ | refine al_ond rfl rfl rfl rfl rfl rfl (by exact x_build rfl bo31 rfl rfl) ?_)
        all_goals (first | refine al_off rfl rfl rfl rfl rfl ?_ | refine al_offu rfl rfl rfl rfl ?_ | refine al_ond rfl rfl rfl rfl rfl rfl (by exact opr_call rfl rfl Tryz.call28 rfl (lent_c moves5 3 [0, 2] false _ 5 _ ⟨5, 15, 44, edRows moves5⟩ rfl (rows_of encEdit moves5) (by rfl) o4 (by decide) ev6)) ?_)
        all_goals (first | refine al_off rfl rfl rfl rfl rfl ?_ | refine al_offu rfl rfl rfl rfl ?_ | refine al_ond rfl rfl rfl rfl rfl rfl (by exact opd_not rfl rfl) ?_)
        all_goals (refine al_d rfl rfl rfl (by exact (by first | exact opd_pick_t rfl rfl rfl | exact opd_pick_f rfl rfl rfl | exact opd_pickt rfl rfl (by assumption) rfl | exact opd_pickf rfl rfl (by assumption) rfl | exact opd_pick rfl rfl rfl)) ?_)
        all_goals (refine al_d rfl rfl rfl (by exact opd_assign rfl rfl) ?_)
        all_goals (refine al_nil ?_)
        all_goals (exact ⟨⟨_, rfl, by first | rfl | (simp only [*, Bool.false_and, Bool.true_and, Bool.and_false, Bool.and_true, Bool.true_or, Bool.false_or, Bool.or_true, Bool.or_false, Bool.not_true, Bool.not_false]; done) | (simp_all; done) | (simp_all; omega)⟩, rfl, rfl, rfl⟩)
      refine awp_ret ?_
      -- return
      -- end of the body
      refine aret1 (H' := []) (by first | exact .inr rfl | exact .inl rfl) rfl (rval_tmp rfl) (Fin.wk (by simp) trivial trivial) ?_
      exact ⟨rfl, rfl⟩
end Go.Proofs.YtdgoodjhndeojaaGreat
end
section
set_option linter.unusedVariables false
set_option linter.unusedSimpArgs false
namespace Go.Proofs.YtdgoodjhndeojaaGreat
open Go.Abs
def zEdit : GEdit := ⟨0, sNil, sNil, sNil, 0, 0, sNil, sNil, [], zObj⟩
def eKey (k : Nat) (e : GEdit) : ByteArray := if k = 4 then e.obj.id else e.id
def edAt (l : List GEdit) (x : Int) : GEdit := (l[x.toNat]?).getD zEdit
def prevI (idx : List Int) : Nat → Int
  | 0 => -1
  | k + 1 => (idx[k]?).getD 0
def eSame (a b : GEdit) : Bool := (decide (a.obj.x = b.obj.x) && decide (a.obj.y = b.obj.y)) && tagsEq a.obj.tags b.obj.tags
/-- What is wrong with the index at a place. -/
def badH (m : List GObj) (l : List GEdit) (k : Nat) (idx : List Int) (i : Nat) : Bool := match idx[i]? with
  | none => false
  | some x => (decide (x < 0) || decide ((l.length : Int) ≤ x) || (decide ((0 : Int) < (i : Int)) && decide (x ≤ prevI idx i)) || !eShows k m (edAt l x)) || (decide (k = 4) && !eSame (edAt l x) (edAt l ((idx[0]?).getD 0)))
def gHolds (m : List GObj) (l : List GEdit) (kind : Int) (idx : List Int) : Bool :=
  (decide (1 ≤ kind) && decide (kind ≤ 4) && decide (idx.length = nMany kind.toNat) && !(decide (kind = 1) && decide ((nDrops l : Int) ≤ (l.length : Int) - (nDrops l : Int)))) &&
    (!((List.range idx.length).any (badH m l kind.toNat idx)) && decide ((((idx.map (fun x => eKey kind.toNat (edAt l x))).foldl sput []).length : Int) = (idx.length : Int)))
theorem toI_back {idx : List Int} (h : ∀ x ∈ idx, 0 ≤ x) : toI (idx.map Int.toNat) = idx := by
  rw [toI, List.map_map]
  conv => rhs; rw [← List.map_id idx]
  apply List.map_congr_left
  intro x hx
  show ((x.toNat : Nat) : Int) = id x
  rw [Int.toNat_of_nonneg (h x hx)]; rfl
end Go.Proofs.YtdgoodjhndeojaaGreat
end
section
set_option linter.unusedVariables false
set_option linter.unusedSimpArgs false
namespace Go.Proofs.YtdgoodjhndeojaaGreat
open Go.Abs
theorem loop_iff {k : Nat} {m : List GObj} {l : List GEdit} : ∀ (idx : List Int) (sh : List GEdit) (last : Int), -1 ≤ last →
    (gAccLoop k m l idx sh last = true ↔ (∀ x ∈ idx, (last < x ∧ x < l.length) ∧ gShows k m (edAt l x) = true ∧ ∀ y ∈ sh, gTog k y (edAt l x) = true) ∧ idx.Pairwise (fun a b => a < b ∧ gTog k (edAt l a) (edAt l b) = true))
  | [], sh, last, _ => by simp [gAccLoop]
  | i :: r, sh, last, hlast => by
    rw [gAccLoop]
    by_cases hb : i ≤ last ∨ (l.length : Int) ≤ i
    · rw [if_pos hb]
      constructor
      · intro h; cases h
      · rintro ⟨h, _⟩
        have := (h i (by simp)).1
        omega
    · rw [if_neg hb]
      obtain ⟨y, hy⟩ := get_of_lt (l := l) (k := i.toNat) (by omega)
      have he : edAt l i = y := by rw [edAt, hy]; rfl
      rw [hy]
      show (gShows k m y && !(sh.any fun x => !gTog k x y) && gAccLoop k m l r (sh ++ [y]) i) = true ↔ _
      rw [Bool.and_eq_true, Bool.and_eq_true, fits_iff, loop_iff r (sh ++ [y]) i (by omega), List.pairwise_cons]
      constructor
      · rintro ⟨⟨h1, h2⟩, h3, h4⟩
        refine ⟨fun x hx => ?_, fun x hx => ?_, h4⟩
        · rcases List.mem_cons.1 hx with rfl | hx
          · rw [he]; exact ⟨by omega, h1, h2⟩
          · obtain ⟨a, b, c⟩ := h3 x hx
            exact ⟨by omega, b, fun z hz => c z (by simp [hz])⟩
        · obtain ⟨a, b, c⟩ := h3 x hx
          rw [he]
          exact ⟨a.1, c y (by simp)⟩
      · rintro ⟨h1, h2, h3⟩
        have hi := h1 i (by simp)
        rw [he] at hi
        refine ⟨⟨hi.2.1, hi.2.2⟩, fun x hx => ?_, h3⟩
        obtain ⟨a, b, c⟩ := h1 x (by simp [hx])
        have h2x := h2 x hx
        rw [he] at h2x
        refine ⟨⟨h2x.1, a.2⟩, b, fun z hz => ?_⟩
        rcases List.mem_append.1 hz with hz | hz
        · exact c z hz
        · rw [List.mem_singleton] at hz; subst hz; exact h2x.2
theorem tog_eq {k : Nat} (h1 : 1 ≤ k) (h4 : k ≤ 4) (a b : GEdit) : gTog k a b = eTog k a b := by
  match k, h1, h4 with
  | 1, _, _ => rfl
  | 2, _, _ => rfl
  | 3, _, _ => rfl
  | 4, _, _ => rfl
  | n + 5, _, h => exact absurd h (by omega)
theorem many_eq {k : Nat} (h1 : 1 ≤ k) (h4 : k ≤ 4) : kMany k = (nMany k : Nat) := by
  match k, h1, h4 with
  | 1, _, _ => rfl
  | 2, _, _ => rfl
  | 3, _, _ => rfl
  | 4, _, _ => rfl
  | n + 5, _, h => exact absurd h (by omega)
theorem drop_eq (l : List GEdit) : l.countP gDrop = nDrops l := rfl
theorem accept_ev {m : List GObj} {l : List GEdit} {kind : Int} {idx : List Int} (hS : ∀ k, 1 ≤ k → k ≤ 4 → ∀ e ∈ l, gShows k m e = eShows k m e) (h : gAccept m l kind idx = true) :
    Ev m l kind.toNat (idx.map Int.toNat) ∧ toI (idx.map Int.toNat) = idx ∧ ((kind.toNat : Nat) : Int) = kind := by
  simp only [gAccept, Bool.and_eq_true, decide_eq_true_eq, Bool.or_eq_true, Bool.not_eq_true', decide_eq_false_iff_not] at h
  obtain ⟨⟨⟨⟨h1, h4⟩, hlen⟩, hloop⟩, hdr⟩ := h
  obtain ⟨k, rfl⟩ : ∃ k : Nat, kind = (k : Int) := ⟨kind.toNat, by omega⟩
  rw [Int.toNat_natCast] at *
  rw [many_eq (by omega) (by omega)] at hlen
  obtain ⟨hmem, hpw⟩ := (loop_iff idx [] (-1) (by omega)).1 hloop
  have hget : ∀ x ∈ idx, ∃ y, l[x.toNat]? = some y ∧ edAt l x = y ∧ 0 ≤ x := fun x hx => by
    obtain ⟨a, _⟩ := hmem x hx
    obtain ⟨y, hy⟩ := get_of_lt (l := l) (k := x.toNat) (by omega)
    exact ⟨y, hy, by rw [edAt, hy]; rfl, by omega⟩
  refine ⟨⟨by omega, by omega, ⟨by rw [List.length_map]; omega, ?_, ?_, ?_⟩, fun e => ?_⟩, toI_back (fun x hx => by obtain ⟨_, _, _, h⟩ := hget x hx; exact h), rfl⟩
  · rw [List.pairwise_map]
    exact hpw.imp_of_mem (fun {a b} ha hb h => by
      obtain ⟨_, _, _, h1⟩ := hget a ha
      obtain ⟨_, _, _, h2⟩ := hget b hb
      have := h.1
      omega)
  · intro p hp
    obtain ⟨x, hx, rfl⟩ := List.mem_map.1 hp
    obtain ⟨y, a, b, c⟩ := hget x hx
    refine ⟨y, a, ?_⟩
    have := (hmem x hx).2.1
    rw [b, hS k (by omega) (by omega) y (List.mem_of_getElem? a)] at this
    exact this
  · rw [List.pairwise_map]
    refine hpw.imp_of_mem (fun {a b} ha hb h y z hy hz => ?_)
    have := h.2
    rw [tog_eq (by omega) (by omega)] at this
    obtain ⟨y', a1, a2, _⟩ := hget a ha
    obtain ⟨z', b1, b2, _⟩ := hget b hb
    rw [hy] at a1; cases a1
    rw [hz] at b1; cases b1
    rw [a2, b2] at this
    exact this
  · subst e
    rw [drop_eq] at hdr
    rcases hdr with h | h
    · exact absurd rfl h
    · omega
end Go.Proofs.YtdgoodjhndeojaaGreat
end
section
set_option linter.unusedVariables false
set_option linter.unusedSimpArgs false
set_option maxRecDepth 100000
namespace Go.Proofs.YtdgoodjhndeojaaGreat
open Go.Abs
theorem gGet_some (l : List GTag) (k : ByteArray) : (gGet l k).isSome = l.any (fun t => decide (t.key = k)) := by
  rw [gGet, Option.isSome_map, Bool.eq_iff_iff, List.find?_isSome, List.any_eq_true]
theorem onP_near {x y : Int} (h : onP x y = true) : nearP x y = true := by
  have := onP_lo h
  simp only [nearP, Bool.not_eq_true', Bool.or_eq_false_iff, decide_eq_false_iff_not]
  omega
theorem gOn_onP {x y : Int} (h : gOn x y = true) : onP x y = true := by
  simp only [gOn, Bool.and_eq_true, decide_eq_true_eq] at h
  simp only [onP, Bool.and_eq_true, decide_eq_true_eq]
  omega
theorem node_on {o : GObj} (h : gObj o = true) (hk : o.kind = 1) : onP o.x o.y = true := by
  simp only [gObj, Bool.and_eq_true] at h
  have := h.2.2
  rw [gKind, if_pos hk, Bool.and_eq_true] at this
  exact gOn_onP this.2
theorem move_on {e : GEdit} (h : gEditV e = true) (ho : e.op = 2) : onP e.x e.y = true := by
  simp only [gEditV, Bool.and_eq_true] at h
  have := h.2.1
  rw [okOf, if_neg (by omega), if_pos ho, Bool.and_eq_true] at this
  exact this.2
theorem shows_eq {m : List GObj} {e : GEdit} (hm : gMap m = true) (he : gEditV e = true) (k : Nat) (h1 : 1 ≤ k) (h4 : k ≤ 4) : gShows k m e = eShows k m e := by
  match k, h1, h4 with
  | 1, _, _ => exact Bool.and_comm _ _
  | 2, _, _ =>
    show gBlanked m e = _
    simp only [gBlanked, eShows, gNamed, gGet_some]
    rfl
  | 3, _, _ =>
    show gMoved m e = _
    simp only [gMoved, eShows]
    by_cases ho : e.op = 2
    · by_cases hk : (obOf m e.id).kind = 1
      · have hob : isOb m e.id = true ∧ gObj (obOf m e.id) = true := by
          cases hf : m.find? (idIs e.id) with
          | none => rw [(obOf_none hf).1] at hk; cases hk
          | some o =>
            rw [(obOf_some hf).1, (obOf_some hf).2]
            exact ⟨rfl, (gMap_iff.1 hm).1 o (List.mem_of_find?_eq_some hf)⟩
        have p1 := node_on hob.2 hk
        have p2 := move_on he ho
        simp only [ho, hk, hob.1, p1, p2, decide_true, Bool.true_and, gDist, onP_near p1, onP_near p2, Bool.and_self, if_true]
        rfl
      · simp [hk]
    · simp [ho]
  | 4, _, _ => rfl
  | n + 5, _, h => exact absurd h (by omega)
theorem change_all {l : List GEdit} (h : gChange l = true) : ∀ e ∈ l, gEditV e = true := by
  intro e he
  simp only [gChange, Bool.and_eq_true, Bool.not_eq_true', List.any_eq_false, Bool.not_eq_true', Bool.not_eq_false'] at h
  have := h.2 e he
  simpa using this
theorem closed_map {m : List GObj} (h : closedB m = true) : gMap m = true := by
  rw [closedB, Bool.and_eq_true] at h
  exact h.1
theorem find_cases (m : List GObj) (l : List GEdit) : gFind m l = (0, []) ∨ (closedB m = true ∧ gChange l = true ∧ ∃ (k : Nat) (e : List Nat), gFind m l = ((k : Int), toI e) ∧ gFind0 m l = (k, e) ∧ Ev m l k e) := by
  unfold gFind
  cases hc : closedB m with
  | false => exact .inl rfl
  | true =>
    cases hg : gChange l with
    | false => exact .inl rfl
    | true =>
      rcases find_sound m l with h | h
      · left; rw [h]; rfl
      · exact .inr ⟨rfl, rfl, _, _, rfl, rfl, h⟩
theorem find_len (m : List GObj) (l : List GEdit) : (gFind m l).2.length ≤ 5 := by
  rcases find_cases m l with h | ⟨_, _, k, e, h1, _, h2⟩
  · rw [h]; simp
  · rw [h1]
    have := h2.ch.len
    have := (nMany_pos k).2
    simp only [List.length_map]
    omega
def okAll (m : List GObj) (l : List GEdit) : Prop := okM m ∧ m.length < 1099511627776 ∧ l.length < 1099511627776 ∧ (∀ e ∈ l, okE e)
theorem okAll_map {m : List GObj} {l : List GEdit} (h : okAll m l) : okMap m := ⟨h.1.1, fun o ho => (h.1.2 o ho).2.1.1⟩
theorem okAll_edits {m : List GObj} {l : List GEdit} (h : okAll m l) : okEdits l := ⟨h.2.2.1, fun e he => (h.2.2.2 e he).2.2.2.1.1⟩
end Go.Proofs.YtdgoodjhndeojaaGreat
end
section
set_option linter.unusedVariables false
set_option linter.unusedSimpArgs false
namespace Go.Proofs.YtdgoodjhndeojaaGreat
open Go.Abs
theorem okE_of {B : Nat} {e : GEdit} (hB : B < 4611686018427387904) (h : szEdit B e) : okE e :=
  ⟨⟨by have := h.2.1; omega, by have := h.2.2.1; omega, by have := h.2.2.2.1; omega, by have := h.2.2.2.2.2.2.1; omega⟩,
    ⟨by have := h.2.2.2.2.2.2.2.2.1.1; omega, fun s hs => by have := h.2.2.2.2.2.2.2.2.1.2 s hs; omega⟩, okO_of hB h.2.2.2.2.2.2.2.2.2⟩
theorem okAll_of {m : List GObj} {l : List GEdit} (hm : szMap 1048576 m) (hl : szEdits 1048576 l) : okAll m l :=
  ⟨okM_of (by decide) hm, by have := hm.1; omega, by have := hl.1; omega, fun e he => okE_of (by decide) (hl.2 e he)⟩
end Go.Proofs.YtdgoodjhndeojaaGreat
end
