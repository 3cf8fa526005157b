/-
  CONTRACTS: equal tags, edits that are alike, the closures over the edits that are shown. Conditions: lengths below 2^62.
  CONTRACT: verify.Accept. Conditions: lengths below 2^40.
-/
import Derived.Test.YtdgoodjhndeojaaGreatKK1M4
section
set_option linter.unusedVariables false
set_option linter.unusedSimpArgs false
set_option maxRecDepth 100000
namespace Go.Proofs.YtdgoodjhndeojaaGreat
open Go.Abs
theorem tagEq_iff (a b : GTag) : tagEq a b = true ↔ a = b := by
  cases a; cases b; simp [tagEq]
theorem tagsEq_ne : ∀ (a b : List GTag), a.length ≠ b.length → tagsEq a b = false
  | [], [], h => absurd rfl h
  | [], _ :: _, _ => rfl
  | _ :: _, [], _ => rfl
  | x :: a, y :: b, h => by rw [tagsEq, tagsEq_ne a b (by simpa using h)]; simp
theorem tagsEq_at : ∀ (a b : List GTag) (k : Nat) (x y : GTag), a[k]? = some x → b[k]? = some y → tagEq x y = false → tagsEq a b = false
  | [], _, k, x, y, h, _, _ => by simp at h
  | _ :: _, [], k, x, y, _, h, _ => by simp at h
  | u :: a, v :: b, 0, x, y, h1, h2, h => by cases h1; cases h2; rw [tagsEq, h]; rfl
  | u :: a, v :: b, k + 1, x, y, h1, h2, h => by rw [tagsEq, tagsEq_at a b k x y h1 h2 h]; simp
theorem tagsEq_all : ∀ (a b : List GTag), a.length = b.length → (∀ k, k < a.length → ∀ x y, a[k]? = some x → b[k]? = some y → tagEq x y = true) → tagsEq a b = true
  | [], [], _, _ => rfl
  | [], _ :: _, h, _ => by simp at h
  | _ :: _, [], h, _ => by simp at h
  | u :: a, v :: b, hl, h => by
    rw [tagsEq, h 0 (by simp) u v rfl rfl, tagsEq_all a b (by simpa using hl) (fun k hk x y h1 h2 => h (k + 1) (by simpa using hk) x y h1 h2)]; rfl
theorem equalTags_c (a b : List GTag) (H : Heap) (ha : a.length < 4611686018427387904) :
    ACalls Tryz.prog 87 [lv (a.map encTag), lv (b.map encTag)] H (fun r H' => r = bv (tagsEq a b) ∧ H' = H) := by
  refine ACalls.pure ?_ (by simp) H
  refine ACalls.body Tryz.func87 rfl Tryz.ntmps87 (Nat.le_of_ble_eq_true rfl) ?_
  refine awp_seq ?_
  refine awp_region ?_
  refine al_d rfl rfl rfl (by exact opd_assign rfl rfl) ?_
  refine al_nil ?_
  refine awp_seq ?_
  refine awp_seq ?_
  refine awp_region ?_
  refine al_d rfl rfl rfl (by exact opd_move rfl rfl) ?_
  refine al_d rfl rfl rfl (by exact (by first | exact opd_len_sl rfl Tryz.underlying40 rfl | exact opd_len_osl rfl Tryz.underlying40 rfl rfl rfl)) ?_
  refine al_d rfl rfl rfl (by exact opd_move rfl rfl) ?_
  refine al_d rfl rfl rfl (by exact (by first | exact opd_len_sl rfl Tryz.underlying40 rfl | exact opd_len_osl rfl Tryz.underlying40 rfl rfl rfl)) ?_
  refine al_d rfl rfl rfl (by exact opd_neq rfl rfl rfl) ?_
  refine al_nil ?_
  refine awp_cond rfl (fun hc1 => ?_) (fun hc1 => ?_)
  -- cond 1
  · have hne : a.length ≠ b.length := by simp at hc1; omega
    refine awp_seq ?_
    refine awp_region ?_
    refine al_d rfl rfl rfl (by exact opd_assign rfl rfl) ?_
    refine al_nil ?_
    refine awp_ret ?_
    -- return
    refine aret1 (H' := []) (by first | exact .inr rfl | exact .inl rfl) rfl (rval_tmp rfl) (Fin.wk (by simp) trivial trivial) ?_
    exact ⟨by rw [tagsEq_ne a b hne], rfl⟩
  · have heq : a.length = b.length := by simp at hc1; omega
    refine awp_skip ?_
    refine awp_seq ?_
    refine awp_seq ?_
    refine awp_region ?_
    refine al_d rfl rfl rfl (by exact opd_move rfl rfl) ?_
    refine al_d rfl rfl rfl (by exact (by first | exact opd_len_sl rfl Tryz.underlying40 rfl | exact opd_len_osl rfl Tryz.underlying40 rfl rfl rfl)) ?_
    refine al_d rfl rfl rfl (by exact opd_move rfl rfl) ?_
    refine al_nil ?_
    refine awp_block ?_
    -- loop
    refine awp_loop (σ := Nat) (fun k => ([(0, lv (a.map encTag)), (1, lv (b.map encTag)), (12, iv (a.map encTag).length), (13, iv (k : Int))], [])) (fun k => k ≤ a.length ∧ ∀ j, j < k → ∀ x y, a[j]? = some x → b[j]? = some y → tagEq x y = true) (fun k => a.length - k) 0 ⟨by omega, by omega⟩ ?_ ?_
    · exact Ent.e0 ⟨⟨_, rfl, rfl⟩, ⟨_, rfl, rfl⟩, ⟨_, rfl, rfl⟩, ⟨_, rfl, rfl⟩, trivial⟩
    · rintro k ⟨hk, hall⟩
      refine awp_seq ?_
      refine awp_region ?_
      refine al_d rfl rfl rfl (by exact opd_lss rfl rfl rfl) ?_
      refine al_nil ?_
      refine awp_seq ?_
      refine awp_cond rfl (fun hc2 => ?_) (fun hc2 => ?_)
      -- cond 2
      · have hlt : k < a.length := by simpa using hc2
        obtain ⟨x, hx⟩ := get_of_lt hlt
        obtain ⟨y, hy⟩ := get_of_lt (l := b) (k := k) (by omega)
        have hi := map_get (f := encTag) hx
        have hi2 := map_get (f := encTag) hy
        refine awp_skip ?_
        refine awp_seq ?_
        refine awp_block ?_
        refine awp_seq ?_
        refine awp_region ?_
        refine al_d rfl rfl rfl (by exact opd_move rfl rfl) ?_
        refine al_d rfl rfl rfl (by exact opd_assign rfl rfl) ?_
        refine al_nil ?_
        refine awp_seq ?_
        refine awp_drawc follows ?_
        refine dc_cons (DStep.q rfl (by exact opd_move rfl rfl)) rfl ?_
        refine dc_cons (DStep.q rfl (by exact opd_move rfl rfl)) rfl ?_
        refine dc_cons (DStep.q rfl (by exact (by first | exact x_index_pad rfl so40 rfl rfl (by omega) (by first | exact Int.toNat_natCast _ | rfl) (by assumption) rfl | exact x_index_osl rfl so40 rfl rfl rfl rfl rfl (by omega) (by first | exact Int.toNat_natCast _ | rfl) (by first | omega | assumption) rfl))) rfl ?_
        refine dc_cons (DStep.q rfl (by exact (by first | exact opd_loadn_ref rfl Tryz.isAgg62 Tryz.sizeOf62 rfl rfl rfl rfl (by simp only [List.drop_succ_cons, List.drop_zero, List.take_succ_cons, List.take_zero, List.take_nil, List.map_cons, List.map_nil, List.set_cons_zero, List.set_cons_succ, List.cons_append, List.nil_append, encTag, encObj, encEdit]; rfl) rfl | exact opd_loadn_pad rfl Tryz.isAgg62 Tryz.sizeOf62 rfl (by first | omega | assumption) (by simp only [List.drop_succ_cons, List.drop_zero, List.take_succ_cons, List.take_zero, List.take_nil, List.map_cons, List.map_nil, List.set_cons_zero, List.set_cons_succ, List.cons_append, List.nil_append, encTag, encObj, encEdit]; rfl) rfl))) rfl ?_
        refine dc_cons (DStep.q rfl (by exact opd_move rfl rfl)) rfl ?_
        refine dc_cons (DStep.q rfl (by exact opd_move rfl rfl)) rfl ?_
        refine dc_cons (DStep.q rfl (by exact (by first | exact x_index_pad rfl so40 rfl rfl (by omega) (by first | exact Int.toNat_natCast _ | rfl) (by assumption) rfl | exact x_index_osl rfl so40 rfl rfl rfl rfl rfl (by omega) (by first | exact Int.toNat_natCast _ | rfl) (by first | omega | assumption) rfl))) rfl ?_
        refine dc_cons (DStep.q rfl (by exact (by first | exact opd_loadn_ref rfl Tryz.isAgg62 Tryz.sizeOf62 rfl rfl rfl rfl (by simp only [List.drop_succ_cons, List.drop_zero, List.take_succ_cons, List.take_zero, List.take_nil, List.map_cons, List.map_nil, List.set_cons_zero, List.set_cons_succ, List.cons_append, List.nil_append, encTag, encObj, encEdit]; rfl) rfl | exact opd_loadn_pad rfl Tryz.isAgg62 Tryz.sizeOf62 rfl (by first | omega | assumption) (by simp only [List.drop_succ_cons, List.drop_zero, List.take_succ_cons, List.take_zero, List.take_nil, List.map_cons, List.map_nil, List.set_cons_zero, List.set_cons_succ, List.cons_append, List.nil_append, encTag, encObj, encEdit]; rfl) rfl))) rfl ?_
        refine dc_cons (DStep.q rfl (by exact opd_aneq rfl rfl rfl rfl rfl Tryz.eqGuardType62 (se62 _ _ _ _))) rfl ?_
        refine dc_nil ⟨by kernel_rfl, ?_⟩
        refine awp_cond rfl (fun hc3 => ?_) (fun hc3 => ?_)
        -- cond 3
        · have ht : tagEq x y = false := by
            have h : (!tagEq x y) = true := hc3
            simpa using h
          refine awp_seq ?_
          refine awp_region ?_
          refine al_d rfl rfl rfl (by exact opd_assign rfl rfl) ?_
          refine al_nil ?_
          refine awp_ret ?_
          -- return
          refine aret1 (H' := []) (by first | exact .inr rfl | exact .inl rfl) rfl (rval_tmp rfl) (Fin.wk (by simp) trivial trivial) ?_
          exact ⟨by rw [tagsEq_at a b k x y hx hy ht], rfl⟩
        · have ht : tagEq x y = true := by
            have h : (!tagEq x y) = false := hc3
            simpa using h
          refine awp_skip ?_
          refine awp_region ?_
          refine al_d rfl rfl rfl (by exact opd_add rfl rfl rfl (by first | exact w64 (by omega) (by omega) | exact wu8 (by omega) (by omega) | rfl)) ?_
          refine al_d rfl rfl rfl (by exact opd_move rfl rfl) ?_
          refine al_nil ?_
          -- end of a round
          refine ⟨k + 1, ⟨by omega, fun j hj x' y' h1 h2 => ?_⟩, by omega, Ent.e0 ⟨⟨_, rfl, rfl⟩, ⟨_, rfl, rfl⟩, ⟨_, rfl, rfl⟩, ⟨_, rfl, rfl⟩, trivial⟩⟩
          by_cases e : j = k
          · subst e; rw [hx] at h1; rw [hy] at h2; cases h1; cases h2; exact ht
          · exact hall j (by omega) x' y' h1 h2
      · have hge : k = a.length := by have : a.length ≤ k := by simpa using hc2
                                      omega
        subst hge
        refine awp_exit ?_
        refine awp_seq ?_
        refine awp_region ?_
        refine al_d rfl rfl rfl (by exact opd_assign rfl rfl) ?_
        refine al_nil ?_
        refine awp_ret ?_
        -- return
        refine aret1 (H' := []) (by first | exact .inr rfl | exact .inl rfl) rfl (rval_tmp rfl) (Fin.wk (by simp) trivial trivial) ?_
        exact ⟨by rw [tagsEq_all a b heq hall], rfl⟩
theorem alike_c (a b : GEdit) (H : Heap) (ha : a.obj.tags.length < 4611686018427387904) : ACalls Tryz.prog 133 [av (encEdit a), av (encEdit b)] H (fun r H' => r = bv (gAlike a b) ∧ H' = H) := by
  refine ACalls.pure ?_ (by simp) H
  refine ACalls.body Tryz.func133 rfl Tryz.ntmps133 (Nat.le_of_ble_eq_true rfl) ?_
  refine awp_seq ?_
  refine awp_region ?_
  refine al_d rfl rfl rfl (by exact opd_box (id := 2) rfl rfl rfl rfl rfl) ?_
  refine al_d rfl rfl rfl (by exact opd_box (id := 3) rfl rfl rfl rfl rfl) ?_
  refine al_d rfl rfl rfl (by exact opd_assign rfl rfl) ?_
  refine al_nil ?_
  refine awp_seq ?_
  refine awp_bool (t := 4) (n := 28) (X := gAlike a b) ?_ ?_
  · all_goals (refine al_d rfl rfl rfl (by exact (by first | exact opd_field_ref rfl fo44_8 rfl rfl rfl rfl | exact opd_field_pad rfl fo44_8 rfl rfl)) ?_)
    all_goals (refine al_d rfl rfl rfl (by exact (by first | exact opd_field_ref rfl fo42_0 rfl rfl rfl rfl | exact opd_field_pad rfl fo42_0 rfl rfl)) ?_)
    all_goals (refine al_d rfl rfl rfl (by exact (by first | exact opd_load1_ref rfl Tryz.isAgg9 rfl rfl rfl rfl rfl | exact opd_load1_pad rfl Tryz.isAgg9 rfl (by first | omega | assumption) rfl)) ?_)
    all_goals (refine al_d rfl rfl rfl (by exact (by first | exact opd_field_ref rfl fo44_8 rfl rfl rfl rfl | exact opd_field_pad rfl fo44_8 rfl rfl)) ?_)
    all_goals (refine al_d rfl rfl rfl (by exact (by first | exact opd_field_ref rfl fo42_0 rfl rfl rfl rfl | exact opd_field_pad rfl fo42_0 rfl rfl)) ?_)
    all_goals (refine al_d rfl rfl rfl (by exact (by first | exact opd_load1_ref rfl Tryz.isAgg9 rfl rfl rfl rfl rfl | exact opd_load1_pad rfl Tryz.isAgg9 rfl (by first | omega | assumption) rfl)) ?_)
    all_goals (refine al_d rfl rfl rfl (by exact opd_sneq rfl rfl rfl) ?_)
    all_goals (refine al_d rfl rfl rfl (by exact opd_move rfl rfl) ?_)
    all_goals (first | refine al_split (t := 12) rfl (fun h12 => ?_) (fun h12 => ?_) | refine al_dup (t := 12) rfl ?_ | skip)
    all_goals (try contradiction)
    all_goals (first | refine al_off rfl rfl rfl rfl rfl ?_ | refine al_offu rfl rfl rfl rfl ?_ | refine al_ond rfl rfl rfl rfl rfl rfl (by exact (by first | exact opd_field_ref rfl fo44_8 rfl rfl rfl rfl | exact opd_field_pad rfl fo44_8 rfl rfl)) ?_)
    all_goals (first | refine al_off rfl rfl rfl rfl rfl ?_ | refine al_offu rfl rfl rfl rfl ?_ | refine al_ond rfl rfl rfl rfl rfl rfl (by exact (by first | exact opd_field_ref rfl fo42_2 rfl rfl rfl rfl | exact opd_field_pad rfl fo42_2 rfl rfl)) ?_)
    all_goals (first | refine al_off rfl rfl rfl rfl rfl ?_ | refine al_offu rfl rfl rfl rfl ?_ | refine al_ond rfl rfl rfl rfl rfl rfl (by exact (by first | exact opd_loadn_ref rfl Tryz.isAgg38 Tryz.sizeOf38 rfl rfl rfl rfl (by simp only [List.drop_succ_cons, List.drop_zero, List.take_succ_cons, List.take_zero, List.take_nil, List.map_cons, List.map_nil, List.set_cons_zero, List.set_cons_succ, List.cons_append, List.nil_append, encTag, encObj, encEdit]; rfl) rfl | exact opd_loadn_pad rfl Tryz.isAgg38 Tryz.sizeOf38 rfl (by first | omega | assumption) (by simp only [List.drop_succ_cons, List.drop_zero, List.take_succ_cons, List.take_zero, List.take_nil, List.map_cons, List.map_nil, List.set_cons_zero, List.set_cons_succ, List.cons_append, List.nil_append, encTag, encObj, encEdit]; rfl) rfl)) ?_)
    all_goals (first | refine al_off rfl rfl rfl rfl rfl ?_ | refine al_offu rfl rfl rfl rfl ?_ | refine al_ond rfl rfl rfl rfl rfl rfl (by exact (by first | exact opd_field_ref rfl fo44_8 rfl rfl rfl rfl | exact opd_field_pad rfl fo44_8 rfl rfl)) ?_)
    all_goals (first | refine al_off rfl rfl rfl rfl rfl ?_ | refine al_offu rfl rfl rfl rfl ?_ | refine al_ond rfl rfl rfl rfl rfl rfl (by exact (by first | exact opd_field_ref rfl fo42_2 rfl rfl rfl rfl | exact opd_field_pad rfl fo42_2 rfl rfl)) ?_)
    all_goals (first | refine al_off rfl rfl rfl rfl rfl ?_ | refine al_offu rfl rfl rfl rfl ?_ | refine al_ond rfl rfl rfl rfl rfl rfl (by exact (by first | exact opd_loadn_ref rfl Tryz.isAgg38 Tryz.sizeOf38 rfl rfl rfl rfl (by simp only [List.drop_succ_cons, List.drop_zero, List.take_succ_cons, List.take_zero, List.take_nil, List.map_cons, List.map_nil, List.set_cons_zero, List.set_cons_succ, List.cons_append, List.nil_append, encTag, encObj, encEdit]; rfl) rfl | exact opd_loadn_pad rfl Tryz.isAgg38 Tryz.sizeOf38 rfl (by first | omega | assumption) (by simp only [List.drop_succ_cons, List.drop_zero, List.take_succ_cons, List.take_zero, List.take_nil, List.map_cons, List.map_nil, List.set_cons_zero, List.set_cons_succ, List.cons_append, List.nil_append, encTag, encObj, encEdit]; rfl) rfl)) ?_)
    all_goals (first | refine al_off rfl rfl rfl rfl rfl ?_ | refine al_offu rfl rfl rfl rfl ?_ | refine al_ond rfl rfl rfl rfl rfl rfl (by exact opd_aeql rfl rfl rfl rfl rfl Tryz.eqGuardType38 (se38 _ _ _ _)) ?_)
    all_goals (refine al_d rfl rfl rfl (by exact (by first | exact opd_pick_t rfl rfl rfl | exact opd_pick_f rfl rfl rfl | exact opd_pickt rfl rfl (by assumption) rfl | exact opd_pickf rfl rfl (by assumption) rfl | exact opd_pick rfl rfl rfl)) ?_)
    all_goals (refine al_d rfl rfl rfl (by exact opd_move rfl rfl) ?_)
    all_goals (first | refine al_split (t := 21) rfl (fun h21 => ?_) (fun h21 => ?_) | refine al_dup (t := 21) rfl ?_ | skip)
    all_goals (try contradiction)
    all_goals (first | refine al_off rfl rfl rfl rfl rfl ?_ | refine al_offu rfl rfl rfl rfl ?_ | refine al_ond rfl rfl rfl rfl rfl rfl (by exact (by first | exact opd_field_ref rfl fo44_8 rfl rfl rfl rfl | exact opd_field_pad rfl fo44_8 rfl rfl)) ?_)
    all_goals (first | refine al_off rfl rfl rfl rfl rfl ?_ | refine al_offu rfl rfl rfl rfl ?_ | refine al_ond rfl rfl rfl rfl rfl rfl (by exact (by first | exact opd_field_ref rfl fo42_4 rfl rfl rfl rfl | exact opd_field_pad rfl fo42_4 rfl rfl)) ?_)
    all_goals (first | refine al_off rfl rfl rfl rfl rfl ?_ | refine al_offu rfl rfl rfl rfl ?_ | refine al_ond rfl rfl rfl rfl rfl rfl (by exact (by first | exact opd_load1_ref rfl Tryz.isAgg40 rfl rfl rfl rfl rfl | exact opd_load1_pad rfl Tryz.isAgg40 rfl (by first | omega | assumption) rfl)) ?_)
    all_goals (first | refine al_off rfl rfl rfl rfl rfl ?_ | refine al_offu rfl rfl rfl rfl ?_ | refine al_ond rfl rfl rfl rfl rfl rfl (by exact (by first | exact opd_field_ref rfl fo44_8 rfl rfl rfl rfl | exact opd_field_pad rfl fo44_8 rfl rfl)) ?_)
    all_goals (first | refine al_off rfl rfl rfl rfl rfl ?_ | refine al_offu rfl rfl rfl rfl ?_ | refine al_ond rfl rfl rfl rfl rfl rfl (by exact (by first | exact opd_field_ref rfl fo42_4 rfl rfl rfl rfl | exact opd_field_pad rfl fo42_4 rfl rfl)) ?_)
    all_goals (first | refine al_off rfl rfl rfl rfl rfl ?_ | refine al_offu rfl rfl rfl rfl ?_ | refine al_ond rfl rfl rfl rfl rfl rfl (by exact (by first | exact opd_load1_ref rfl Tryz.isAgg40 rfl rfl rfl rfl rfl | exact opd_load1_pad rfl Tryz.isAgg40 rfl (by first | omega | assumption) rfl)) ?_)
    all_goals (first | refine al_off rfl rfl rfl rfl rfl ?_ | refine al_offu rfl rfl rfl rfl ?_ | refine al_ond rfl rfl rfl rfl rfl rfl (by exact opr_call rfl rfl Tryz.call87 rfl (equalTags_c a.obj.tags b.obj.tags _ ha)) ?_)
    all_goals (refine al_d rfl rfl rfl (by exact (by first | exact opd_pick_t rfl rfl rfl | exact opd_pick_f rfl rfl rfl | exact opd_pickt rfl rfl (by assumption) rfl | exact opd_pickf rfl rfl (by assumption) rfl | exact opd_pick rfl rfl rfl)) ?_)
    all_goals (refine al_d rfl rfl rfl (by exact opd_assign rfl rfl) ?_)
    all_goals (refine al_nil ?_)
    all_goals (exact ⟨⟨_, rfl, by first | rfl | (simp only [gAlike, *]; rfl) | (simp_all [gAlike]; done) | (simp only [*, Bool.false_and, Bool.true_and, Bool.and_false, Bool.and_true, Bool.true_or, Bool.false_or, Bool.or_true, Bool.or_false, Bool.not_true, Bool.not_false]; done) | (simp_all; omega) | (simp_all [gAlike]; omega)⟩, rfl, rfl, rfl⟩)
  refine awp_ret ?_
  -- return
  refine aret1 (H' := []) (by first | exact .inr rfl | exact .inl rfl) rfl (rval_tmp rfl) (Fin.wk (by simp) trivial trivial) ?_
  exact ⟨rfl, rfl⟩
/-- slices.IndexFunc over an owned slice. -/
theorem indexOwn_GEdit (fv : AV) (l : List GEdit) (p : GEdit → Bool) (H : Heap) (id g sz : Nat) (ob : Ob) (hob : H.get id = some ob) (hg : ob.g = g) (hsz : ob.sz = sz) (hrows : ob.rows = l.map (fun e => (encEdit e).map .pv)) (hs : sz = 15)
    (hl : l.length < 4611686018427387904) (hf : ∀ o, o ∈ l → CallsV Tryz.prog fv [.agg ((encEdit o).map .pv)] H (fun r H' => r = .pv (.bool (p o)) ∧ H' = H)) :
    ACalls Tryz.prog 114 [.osl id g 0 l.length, fv] H (fun r H' => r = .pv (.int .i64 (gidx p l)) ∧ H' = H) := by
  subst hs hg
  refine ACalls.body Tryz.func114 rfl Tryz.ntmps114 (Nat.le_of_ble_eq_true rfl) ?_
  refine awp_seq ?_
  refine awp_region ?_
  refine al_d rfl rfl rfl (by exact opd_assign rfl rfl) ?_
  refine al_nil ?_
  refine awp_seq ?_
  refine awp_seq ?_
  refine awp_region ?_
  refine al_d rfl rfl rfl (by exact opd_move rfl rfl) ?_
  refine al_d rfl rfl rfl (by exact (by first | exact opd_len_sl rfl Tryz.underlying25 rfl | exact opd_len_osl rfl Tryz.underlying25 rfl hob rfl)) ?_
  refine al_d rfl rfl rfl (by exact opd_move rfl rfl) ?_
  refine al_nil ?_
  refine awp_block ?_
  -- loop
  refine awp_loop (σ := Nat) (fun k => ([(0, .osl id ob.g 0 l.length), (1, fv), (7, .pv (.int .i64 l.length)), (8, .pv (.int .i64 (k : Int)))], H)) (fun k => k ≤ l.length ∧ ∀ j, j < k → ∀ b, l[j]? = some b → p b = false) (fun k => l.length - k) 0 ⟨by omega, by omega⟩ ?_ ?_
  · exact Ent.e0 ⟨⟨_, rfl, rfl⟩, ⟨_, rfl, rfl⟩, ⟨_, rfl, rfl⟩, ⟨_, rfl, rfl⟩, trivial⟩
  · rintro k ⟨hk, hno⟩
    refine awp_seq ?_
    refine awp_region ?_
    refine al_d rfl rfl rfl (by exact opd_lss rfl rfl rfl) ?_
    refine al_nil ?_
    refine awp_seq ?_
    refine awp_cond rfl (fun hc1 => ?_) (fun hc1 => ?_)
    -- cond 1
    · have hlt : k < l.length := by simpa using hc1
      obtain ⟨o, ho⟩ := get_of_lt hlt
      have hi : ob.rows[0 + k]? = some ((encEdit o).map .pv) := by rw [hrows, Nat.zero_add, List.getElem?_map, ho]; rfl
      have hfo := hf o (List.mem_of_getElem? ho)
      refine awp_skip ?_
      refine awp_seq ?_
      refine awp_block ?_
      refine awp_seq ?_
      refine awp_region ?_
      refine al_d rfl rfl rfl (by exact opd_move rfl rfl) ?_
      refine al_d rfl rfl rfl (by exact opd_assign rfl rfl) ?_
      refine al_nil ?_
      refine awp_seq ?_
      refine awp_region ?_
      refine al_d rfl rfl rfl (by exact opd_move rfl rfl) ?_
      refine al_d rfl rfl rfl (by exact opd_move rfl rfl) ?_
      refine al_d rfl rfl rfl (by exact opd_move rfl rfl) ?_
      refine al_d rfl rfl rfl (by exact x_index_osl rfl so25 rfl hob rfl hsz rfl (by omega) (Int.toNat_natCast _) hlt rfl) ?_
      refine al_d rfl rfl rfl (by exact opd_loadn_ref rfl Tryz.isAgg44 Tryz.sizeOf44 rfl hob rfl hi (by simp only [List.drop_zero, encEdit, List.map_cons, List.map_nil, List.take_succ_cons, List.take_zero, List.take_nil]; rfl) rfl) ?_
      refine al_d rfl rfl rfl (by exact opr_callV rfl rfl rfl (hfo)) ?_
      refine al_nil ?_
      refine awp_cond rfl (fun hc2 => ?_) (fun hc2 => ?_)
      -- cond 2
      · skip
        refine awp_seq ?_
        refine awp_region ?_
        refine al_d rfl rfl rfl (by exact opd_move rfl rfl) ?_
        refine al_d rfl rfl rfl (by exact opd_assign rfl rfl) ?_
        refine al_nil ?_
        refine awp_ret ?_
        -- return
        exact aret1 (H' := H) (.inr rfl) rfl (rval_tmp rfl) Fin.refl ⟨by rw [gidx, fidx_some hno ho hc2], rfl⟩
      · skip
        refine awp_skip ?_
        refine awp_region ?_
        refine al_d rfl rfl rfl (by exact opd_add rfl rfl rfl (by first | exact w64 (by omega) (by omega) | exact wu8 (by omega) (by omega) | rfl)) ?_
        refine al_d rfl rfl rfl (by exact opd_move rfl rfl) ?_
        refine al_nil ?_
        -- end of a round
        refine ⟨k + 1, ⟨by omega, pre_succ hno ho hc2⟩, by omega, Ent.e0 ⟨⟨_, rfl, rfl⟩, ⟨_, rfl, rfl⟩, ⟨_, rfl, rfl⟩, ⟨_, rfl, rfl⟩, trivial⟩⟩
    · have hge : k = l.length := by have : l.length ≤ k := by simpa using hc1
                                    omega
      subst hge
      refine awp_exit ?_
      refine awp_seq ?_
      refine awp_region ?_
      refine al_d rfl rfl rfl (by exact opd_assign rfl rfl) ?_
      refine al_nil ?_
      refine awp_ret ?_
      -- return
      exact aret1 (H' := H) (.inr rfl) rfl (rval_tmp rfl) Fin.refl ⟨by rw [gidx, fidx_none hno], rfl⟩
theorem containsOwn_GEdit (fv : AV) (l : List GEdit) (p : GEdit → Bool) (H : Heap) (id g sz : Nat) (ob : Ob) (hob : H.get id = some ob) (hg : ob.g = g) (hsz : ob.sz = sz) (hrows : ob.rows = l.map (fun e => (encEdit e).map .pv)) (hs : sz = 15)
    (hl : l.length < 4611686018427387904) (hf : ∀ o, o ∈ l → CallsV Tryz.prog fv [.agg ((encEdit o).map .pv)] H (fun r H' => r = .pv (.bool (p o)) ∧ H' = H)) :
    ACalls Tryz.prog 58 [.osl id g 0 l.length, fv] H (fun r H' => r = .pv (.bool (l.any p)) ∧ H' = H) := by
  refine ACalls.body Tryz.func58 rfl Tryz.ntmps58 (Nat.le_of_ble_eq_true rfl) ?_
  refine awp_seq ?_
  refine awp_region ?_
  refine al_d rfl rfl rfl (by exact opd_assign rfl rfl) ?_
  refine al_nil ?_
  refine awp_seq ?_
  refine awp_region ?_
  refine al_d rfl rfl rfl (by exact opd_move rfl rfl) ?_
  refine al_d rfl rfl rfl (by exact opd_move rfl rfl) ?_
  refine al_d rfl rfl rfl (by exact opr_call rfl rfl Tryz.call114 rfl (indexOwn_GEdit fv l p H id g sz ob hob hg hsz hrows hs hl hf)) ?_
  refine al_d rfl rfl rfl (by exact opd_geq rfl rfl rfl) ?_
  refine al_d rfl rfl rfl (by exact opd_assign rfl rfl) ?_
  refine al_nil ?_
  refine awp_ret ?_
  -- return
  exact aret1 (H' := H) (.inr rfl) rfl (rval_tmp rfl) Fin.refl ⟨by rw [gidx_any], rfl⟩
end Go.Proofs.YtdgoodjhndeojaaGreat
end
section
set_option linter.unusedVariables false
set_option linter.unusedSimpArgs false
set_option maxRecDepth 100000
namespace Go.Proofs.YtdgoodjhndeojaaGreat
open Go.Abs
def kMany (k : Nat) : Int := match k with | 0 => 0 | 1 => 5 | 2 => 3 | 3 => 3 | _ => 4
def kF1 (k : Nat) : PV := match k with | 0 => .nilfn | 1 => .fn 128 | 2 => .fn 130 | 3 => .fn 131 | _ => .fn 132
def kF2 (k : Nat) : PV := match k with | 0 => .nilfn | 1 => .fn 129 | 2 => .fn 129 | 3 => .fn 129 | _ => .fn 133
def kindsV : List AV := [iv 0, .pv .nilfn, .pv .nilfn, iv 5, .pv (.fn 128), .pv (.fn 129), iv 3, .pv (.fn 130), .pv (.fn 129),
  iv 3, .pv (.fn 131), .pv (.fn 129), iv 4, .pv (.fn 132), .pv (.fn 133)]
theorem kinds_c (H : Heap) : ACalls Tryz.prog 71 [] H (fun r H' => r = .agg kindsV ∧ H' = H) := by
  refine ACalls.pure ?_ (by simp) H
  refine ACalls.body Tryz.func71 rfl Tryz.ntmps71 (Nat.le_of_ble_eq_true rfl) ?_
  refine awp_seq ?_
  refine awp_region ?_
  refine al_d rfl rfl rfl (by exact x_alloc (id := 0) rfl zo93 rfl rfl) ?_
  refine al_nil ?_
  refine awp_seq ?_
  refine awp_region ?_
  refine al_d rfl rfl rfl (by exact x_build rfl bo92 rfl rfl) ?_
  refine al_d rfl rfl rfl (by exact x_build rfl bo92 rfl rfl) ?_
  refine al_d rfl rfl rfl (by exact x_build rfl bo92 rfl rfl) ?_
  refine al_d rfl rfl rfl (by exact x_build rfl bo92 rfl rfl) ?_
  refine al_d rfl rfl rfl (by exact x_build_arr rfl ao93 rfl rfl) ?_
  refine al_n rfl rfl (by exact (by first | exact x_store_all rfl Tryz.sizeOf93 rfl rfl rfl rfl rfl rfl rfl rfl | exact x_store rfl Tryz.sizeOf93 rfl rfl rfl rfl rfl rfl rfl (by simp only [List.length_cons, List.length_nil]; omega) (by simp only [List.drop_succ_cons, List.drop_zero, List.take_succ_cons, List.take_zero, List.take_nil, List.map_cons, List.map_nil, List.set_cons_zero, List.set_cons_succ, List.cons_append, List.nil_append, encTag, encObj, encEdit]; rfl) (by simp only [List.drop_succ_cons, List.drop_zero, List.take_succ_cons, List.take_zero, List.take_nil, List.map_cons, List.map_nil, List.set_cons_zero, List.set_cons_succ, List.cons_append, List.nil_append, encTag, encObj, encEdit]; rfl) | exact x_store rfl Tryz.sizeOf93 rfl rfl rfl rfl rfl rfl rfl (Nat.le_of_ble_eq_true rfl) rfl rfl)) ?_
  refine al_nil ?_
  refine awp_ret ?_
  -- return
  refine aret1 (H' := []) (by first | exact .inr rfl | exact .inl rfl) rfl (rval_cell rfl Tryz.isAgg93 Tryz.sizeOf93 rfl rfl rfl (by simp only [List.drop_succ_cons, List.drop_zero, List.take_succ_cons, List.take_zero, List.take_nil, List.map_cons, List.map_nil, List.set_cons_zero, List.set_cons_succ, List.cons_append, List.nil_append, encTag, encObj, encEdit]; rfl) rfl) (Fin.wk (r := .agg kindsV) (by simp [kindsV]) trivial trivial) ?_
  exact ⟨rfl, rfl⟩
theorem kinds_many {k : Nat} (h : k < 5) : kindsV[0 + k * 3 + 0]? = some (iv (kMany k)) := by
  match k, h with
  | 0, _ => rfl
  | 1, _ => rfl
  | 2, _ => rfl
  | 3, _ => rfl
  | 4, _ => rfl
  | n + 5, h => exact absurd h (by omega)
theorem kinds_row {k : Nat} (h : k < 5) : (kindsV.drop (0 + k * 3)).take 3 = [iv (kMany k), .pv (kF1 k), .pv (kF2 k)] := by
  match k, h with
  | 0, _ => rfl
  | 1, _ => rfl
  | 2, _ => rfl
  | 3, _ => rfl
  | 4, _ => rfl
  | n + 5, h => exact absurd h (by omega)
def gShows (k : Nat) (m : List GObj) (e : GEdit) : Bool := match k with | 1 => gDropped m e | 2 => gBlanked m e | 3 => gMoved m e | _ => gPut e
def gTog (k : Nat) (a b : GEdit) : Bool := match k with | 4 => gAlike a b | _ => gOthers a b
/-- What is moderate. -/
def okTagsV (l : List GTag) : Prop := l.length < 4611686018427387904
def okMap (m : List GObj) : Prop := m.length < 4611686018427387904 ∧ ∀ o, o ∈ m → okTagsV o.tags
def okEdits (l : List GEdit) : Prop := l.length < 1099511627776 ∧ ∀ e, e ∈ l → okTagsV e.obj.tags
theorem obOf_tags {m : List GObj} (h : okMap m) (id : ByteArray) : okTagsV (obOf m id).tags := by
  unfold obOf
  cases hf : m.find? (idIs id) with
  | none => exact (by decide : 0 < 4611686018427387904)
  | some o => exact h.2 o (List.mem_of_find?_eq_some hf)
theorem shows_c (k : Nat) (m : List GObj) (e : GEdit) (H : Heap) (hm : okMap m) (h1 : 1 ≤ k) (h4 : k < 5) : CallsV Tryz.prog (.pv (kF1 k)) [.agg [.pv (slObjs m)], av (encEdit e)] H (fun r H' => r = bv (gShows k m e) ∧ H' = H) := by
  match k, h1, h4 with
  | 1, _, _ => exact CallsV.fn Tryz.call128 (dropped_c m e H hm.1)
  | 2, _, _ => exact CallsV.fn Tryz.call130 (blanked_c m e H hm.1 (obOf_tags hm _))
  | 3, _, _ => exact CallsV.fn Tryz.call131 (moved_c m e H hm.1)
  | 4, _, _ => exact CallsV.fn Tryz.call132 (put_c (slObjs m) e H)
  | n + 5, _, h => exact absurd h (by omega)
theorem tog_c (k : Nat) (a b : GEdit) (H : Heap) (ha : okTagsV a.obj.tags) (h1 : 1 ≤ k) (h4 : k < 5) : CallsV Tryz.prog (.pv (kF2 k)) [av (encEdit a), av (encEdit b)] H (fun r H' => r = bv (gTog k a b) ∧ H' = H) := by
  match k, h1, h4 with
  | 1, _, _ => exact CallsV.fn Tryz.call129 (others_c a b H)
  | 2, _, _ => exact CallsV.fn Tryz.call129 (others_c a b H)
  | 3, _, _ => exact CallsV.fn Tryz.call129 (others_c a b H)
  | 4, _, _ => exact CallsV.fn Tryz.call133 (alike_c a b H ha)
  | n + 5, _, h => exact absurd h (by omega)
theorem accept1_c (k : Nat) (x y : GEdit) (l : List GEdit) (i : Nat) (H : Heap) (T1 T2 T3 : Nat) (h8 : H.get 8 = some (bx 3 T1 [iv (kMany k), .pv (kF1 k), .pv (kF2 k)])) (h4 : H.get 4 = some (bx 1 T2 [.pv (slEdits l)])) (h12 : H.get 12 = some (bx 1 T3 [iv (i : Int)]))
    (hi : l[i]? = some y) (h9 : H.get 902 = none) (hc : Closed H) (hx : okTagsV x.obj.tags) (hk1 : 1 ≤ k) (hk4 : k < 5) :
    ACalls Tryz.prog 72 [av (encEdit x), .ref 8 0 0 0, .ref 4 0 0 0, .ref 12 0 0 0] H (fun r H' => r = bv (!gTog k x y) ∧ H' = H) := by
  have hy := map_get (f := encEdit) hi
  have htog := fun H => tog_c k x y H hx hk1 hk4
  refine ACalls.body Tryz.func72 rfl Tryz.ntmps72 (Nat.le_of_ble_eq_true rfl) ?_
  refine awp_seq ?_
  refine awp_region ?_
  refine al_d rfl rfl rfl (by exact opd_box (id := 902) rfl rfl rfl rfl h9) ?_
  refine al_d rfl rfl rfl (by exact opd_assign rfl rfl) ?_
  refine al_nil ?_
  refine awp_seq ?_
  refine awp_drawc follows ?_
  refine dc_cons (DStep.q rfl (by exact opd_field_ref rfl fo92_2 rfl h8 rfl rfl)) rfl ?_
  refine dc_cons (DStep.q rfl (by exact opd_load1_ref rfl Tryz.isAgg78 rfl h8 rfl rfl rfl)) rfl ?_
  refine dc_cons (DStep.q rfl (by exact (by first | exact opd_loadn_ref rfl Tryz.isAgg44 Tryz.sizeOf44 rfl rfl rfl rfl (by simp only [List.drop_succ_cons, List.drop_zero, List.take_succ_cons, List.take_zero, List.take_nil, List.map_cons, List.map_nil, List.set_cons_zero, List.set_cons_succ, List.cons_append, List.nil_append, encTag, encObj, encEdit]; rfl) rfl | exact opd_loadn_pad rfl Tryz.isAgg44 Tryz.sizeOf44 rfl (by first | omega | assumption) (by simp only [List.drop_succ_cons, List.drop_zero, List.take_succ_cons, List.take_zero, List.take_nil, List.map_cons, List.map_nil, List.set_cons_zero, List.set_cons_succ, List.cons_append, List.nil_append, encTag, encObj, encEdit]; rfl) rfl))) rfl ?_
  refine dc_cons (DStep.q rfl (by exact opd_load1_ref rfl Tryz.isAgg25 rfl h4 rfl rfl rfl)) rfl ?_
  refine dc_cons (DStep.q rfl (by exact opd_load1_ref rfl Tryz.isAgg3 rfl h12 rfl rfl rfl)) rfl ?_
  refine dc_cons (DStep.q rfl (by exact (by first | exact x_index_pad rfl so25 rfl rfl (by omega) (by first | exact Int.toNat_natCast _ | rfl) (by assumption) rfl | exact x_index_osl rfl so25 rfl rfl rfl rfl rfl (by omega) (by first | exact Int.toNat_natCast _ | rfl) (by first | omega | assumption) rfl))) rfl ?_
  refine dc_cons (DStep.q rfl (by exact (by first | exact opd_loadn_ref rfl Tryz.isAgg44 Tryz.sizeOf44 rfl rfl rfl rfl (by simp only [List.drop_succ_cons, List.drop_zero, List.take_succ_cons, List.take_zero, List.take_nil, List.map_cons, List.map_nil, List.set_cons_zero, List.set_cons_succ, List.cons_append, List.nil_append, encTag, encObj, encEdit]; rfl) rfl | exact opd_loadn_pad rfl Tryz.isAgg44 Tryz.sizeOf44 rfl (by first | omega | assumption) (by simp only [List.drop_succ_cons, List.drop_zero, List.take_succ_cons, List.take_zero, List.take_nil, List.map_cons, List.map_nil, List.set_cons_zero, List.set_cons_succ, List.cons_append, List.nil_append, encTag, encObj, encEdit]; rfl) rfl))) rfl ?_
  refine dc_cons (DStep.q rfl (by exact opr_callV rfl rfl rfl (htog _))) rfl ?_
  refine dc_cons (DStep.q rfl (by exact opd_not rfl rfl)) rfl ?_
  refine dc_cons (DStep.q rfl (by exact opd_assign rfl rfl)) rfl ?_
  refine dc_nil ⟨by kernel_rfl, ?_⟩
  refine awp_ret ?_
  -- return
  refine aret1 (H' := H) (.inr rfl) rfl (rval_tmp rfl) (Fin.pops [_] (by simp) hc (by simpa using h9)) ?_
  exact ⟨rfl, rfl⟩
def gDrop (e : GEdit) : Bool := decide (e.op = 5)
def gAccLoop (k : Nat) (m : List GObj) (l : List GEdit) : List Int → List GEdit → Int → Bool
  | [], _, _ => true
  | i :: r, sh, last => if i ≤ last ∨ (l.length : Int) ≤ i then false else
      match l[i.toNat]? with
      | none => false
      | some y => gShows k m y && !(sh.any fun x => !gTog k x y) && gAccLoop k m l r (sh ++ [y]) i
def gAccept (m : List GObj) (l : List GEdit) (kind : Int) (idx : List Int) : Bool :=
  decide (1 ≤ kind) && decide (kind ≤ 4) && decide ((idx.length : Int) = kMany kind.toNat) && gAccLoop kind.toNat m l idx [] (-1) && (!decide (kind = 1) || decide ((l.length : Int) - (l.countP gDrop : Nat) < (l.countP gDrop : Nat)))
theorem kMany_zero {k : Nat} (h : k < 5) : kMany k = 0 ↔ k = 0 := by
  match k, h with
  | 0, _ => simp [kMany]
  | 1, _ => simp [kMany]
  | 2, _ => simp [kMany]
  | 3, _ => simp [kMany]
  | 4, _ => simp [kMany]
  | n + 5, h => exact absurd h (by omega)
theorem countP_take {α : Type} (p : α → Bool) {l : List α} {k : Nat} {a : α} (h : l[k]? = some a) : (l.take (k + 1)).countP p = (l.take k).countP p + (if p a then 1 else 0) := by
  rw [List.take_add_one, h, List.countP_append]
  simp [List.countP_cons]
theorem kind_cases (kind : Int) : kind < 0 ∨ 5 ≤ kind ∨ ∃ k : Nat, kind = (k : Int) ∧ k < 5 := by
  by_cases h : kind < 0
  · exact .inl h
  · by_cases h2 : 5 ≤ kind
    · exact .inr (.inl h2)
    · exact .inr (.inr ⟨kind.toNat, by omega, by omega⟩)
theorem gAccLoop_stop {k : Nat} {m : List GObj} {l : List GEdit} {i : Int} {r : List Int} {sh : List GEdit} {last : Int} (h : i ≤ last ∨ (l.length : Int) ≤ i) : gAccLoop k m l (i :: r) sh last = false := by
  rw [gAccLoop, if_pos h]
theorem gAccLoop_go {k : Nat} {m : List GObj} {l : List GEdit} {p : Nat} {r : List Int} {sh : List GEdit} {last : Int} {y : GEdit} (h : ¬ ((p : Int) ≤ last)) (hp : l[p]? = some y) :
    gAccLoop k m l ((p : Int) :: r) sh last = (gShows k m y && !(sh.any fun x => !gTog k x y) && gAccLoop k m l r (sh ++ [y]) p) := by
  have hlt := (List.getElem?_eq_some_iff.1 hp).1
  rw [gAccLoop, if_neg (by omega), Int.toNat_natCast, hp]
theorem drop_of_get {α : Type} {l : List α} {k : Nat} {a : α} (h : l[k]? = some a) : l.drop k = a :: l.drop (k + 1) := by
  obtain ⟨hlt, he⟩ := List.getElem?_eq_some_iff.1 h
  rw [List.drop_eq_getElem_cons hlt, he]
theorem idx_cases (i last : Int) (l : List GEdit) (h : -1 ≤ last) : i ≤ last ∨ (last < i ∧ (l.length : Int) ≤ i) ∨ ∃ (p : Nat) (y : GEdit), i = (p : Int) ∧ last < (p : Int) ∧ p < l.length ∧ l[p]? = some y := by
  by_cases h1 : i ≤ last
  · exact .inl h1
  · by_cases h2 : (l.length : Int) ≤ i
    · exact .inr (.inl ⟨by omega, h2⟩)
    · exact .inr (.inr ⟨i.toNat, l[i.toNat]'(by omega), by omega, by omega, by omega, List.getElem?_eq_getElem (by omega)⟩)
theorem kMany_le (k : Nat) : kMany k ≤ 5 := by
  unfold kMany; split <;> decide
theorem len_snoc {α : Type} (l : List α) (a : α) : l.length + 1 = (l ++ [a]).length := by simp
abbrev edRows (l : List GEdit) : List (List AV) := l.map (fun e => (encEdit e).map .pv)
theorem accept_c (m : List GObj) (l : List GEdit) (kind : Int) (idx : List Int) (H : Heap) (hm : okMap m) (hl : okEdits l) (hx : idx.length < 4611686018427387904) :
    ACalls Tryz.prog 28 [.agg [.pv (slObjs m)], .pv (slEdits l), .agg [iv kind, .pv (slInts idx)]] H (fun r H' => r = bv (gAccept m l kind idx) ∧ H' = H) := by
  refine ACalls.pure ?_ (by simp) H
  have hll := hl.1
  refine ACalls.body Tryz.func28 rfl Tryz.ntmps28 (Nat.le_of_ble_eq_true rfl) ?_
  refine awp_seq ?_
  refine awp_region ?_
  refine al_d rfl rfl rfl (by exact opd_box (id := 3) rfl rfl rfl rfl rfl) ?_
  refine al_d rfl rfl rfl (by exact opd_box (id := 4) rfl rfl rfl rfl rfl) ?_
  refine al_d rfl rfl rfl (by exact opd_box (id := 5) rfl rfl rfl rfl rfl) ?_
  refine al_d rfl rfl rfl (by exact opd_assign rfl rfl) ?_
  refine al_nil ?_
  refine awp_seq ?_
  refine awp_region ?_
  refine al_d rfl rfl rfl (by exact opr_call rfl rfl Tryz.call71 rfl (kinds_c _)) ?_
  refine al_d rfl rfl rfl (by exact x_alloc (id := 7) rfl zo93 rfl rfl) ?_
  refine al_n rfl rfl (by exact (by first | exact x_store_all rfl Tryz.sizeOf93 rfl rfl rfl rfl rfl rfl rfl rfl | exact x_store rfl Tryz.sizeOf93 rfl rfl rfl rfl rfl rfl rfl (by simp only [List.length_cons, List.length_nil]; omega) (by simp only [List.drop_succ_cons, List.drop_zero, List.take_succ_cons, List.take_zero, List.take_nil, List.map_cons, List.map_nil, List.set_cons_zero, List.set_cons_succ, List.cons_append, List.nil_append, encTag, encObj, encEdit]; rfl) (by simp only [List.drop_succ_cons, List.drop_zero, List.take_succ_cons, List.take_zero, List.take_nil, List.map_cons, List.map_nil, List.set_cons_zero, List.set_cons_succ, List.cons_append, List.nil_append, encTag, encObj, encEdit]; rfl) | exact x_store rfl Tryz.sizeOf93 rfl rfl rfl rfl rfl rfl rfl (Nat.le_of_ble_eq_true rfl) rfl rfl)) ?_
  refine al_nil ?_
  refine awp_seq ?_
  refine awp_seq ?_
  -- guard at a region with tests: %bool 43 := ..
  rcases kind_cases kind with h | h | ⟨k, rfl, hk⟩
  · have e1 : decide (kind < 0) = true := by simpa using h
    refine awp_mergeR (t := 43) (n := 27) (X := true) ?_ ?_
    · refine awp_drawc follows ?_
      refine dc_cons (DStep.q rfl (by exact (by first | exact opd_field_ref rfl fo31_0 rfl rfl rfl rfl | exact opd_field_pad rfl fo31_0 rfl rfl))) rfl ?_
      refine dc_cons (DStep.q rfl (by exact (by first | exact opd_load1_ref rfl Tryz.isAgg3 rfl rfl rfl rfl rfl | exact opd_load1_pad rfl Tryz.isAgg3 rfl (by first | omega | assumption) rfl))) rfl ?_
      refine dc_cons (DStep.q rfl (by exact opd_lss rfl rfl rfl)) rfl ?_
      refine dc_cons (DStep.q rfl (by exact opd_move rfl rfl)) rfl ?_
      refine dc_cons (q_off_f rfl rfl rfl (by first | rfl | assumption)) rfl ?_
      refine dc_cons (q_off_f rfl rfl rfl (by first | rfl | assumption)) rfl ?_
      refine dc_cons (q_off_f rfl rfl rfl (by first | rfl | assumption)) rfl ?_
      refine dc_cons (DStep.q rfl (by exact (by first | exact opd_pick_t rfl rfl rfl | exact opd_pick_f rfl rfl rfl | exact opd_pickt rfl rfl (by assumption) rfl | exact opd_pickf rfl rfl (by assumption) rfl | exact opd_pick rfl rfl rfl))) rfl ?_
      refine dc_cons (DStep.q rfl (by exact opd_move rfl rfl)) rfl ?_
      refine dc_cons (q_off_f rfl rfl rfl (by first | rfl | assumption)) rfl ?_
      refine dc_cons (q_off_f rfl rfl rfl (by first | rfl | assumption)) rfl ?_
      refine dc_cons (q_off_f rfl rfl rfl (by first | rfl | assumption)) rfl ?_
      refine dc_cons (q_off_f rfl rfl rfl (by first | rfl | assumption)) rfl ?_
      refine dc_cons (q_off_f rfl rfl rfl (by first | rfl | assumption)) rfl ?_
      refine dc_cons (q_off_f rfl rfl rfl (by first | rfl | assumption)) rfl ?_
      refine dc_cons (DStep.q rfl (by exact (by first | exact opd_pick_t rfl rfl rfl | exact opd_pick_f rfl rfl rfl | exact opd_pickt rfl rfl (by assumption) rfl | exact opd_pickf rfl rfl (by assumption) rfl | exact opd_pick rfl rfl rfl))) rfl ?_
      refine dc_cons (DStep.q rfl (by exact opd_move rfl rfl)) rfl ?_
      refine dc_cons (q_off_f rfl rfl rfl (by first | rfl | assumption)) rfl ?_
      refine dc_cons (q_off_f rfl rfl rfl (by first | rfl | assumption)) rfl ?_
      refine dc_cons (q_off_f rfl rfl rfl (by first | rfl | assumption)) rfl ?_
      refine dc_cons (q_off_f rfl rfl rfl (by first | rfl | assumption)) rfl ?_
      refine dc_cons (q_off_f rfl rfl rfl (by first | rfl | assumption)) rfl ?_
      refine dc_cons (q_off_f rfl rfl rfl (by first | rfl | assumption)) rfl ?_
      refine dc_cons (q_off_f rfl rfl rfl (by first | rfl | assumption)) rfl ?_
      refine dc_cons (q_off_f rfl rfl rfl (by first | rfl | assumption)) rfl ?_
      refine dc_cons (q_off_f rfl rfl rfl (by first | rfl | assumption)) rfl ?_
      refine dc_cons (DStep.q rfl (by exact (by first | exact opd_pick_t rfl rfl rfl | exact opd_pick_f rfl rfl rfl | exact opd_pickt rfl rfl (by assumption) rfl | exact opd_pickf rfl rfl (by assumption) rfl | exact opd_pick rfl rfl rfl))) rfl ?_
      refine dc_nil ⟨by kernel_rfl, ?_⟩
      exact ⟨rfl, ⟨_, rfl, by first | rfl | (simp only [*, Bool.false_and, Bool.true_and, Bool.and_false, Bool.and_true, Bool.true_or, Bool.false_or, Bool.or_true, Bool.or_false, Bool.not_true, Bool.not_false]; done) | (simp_all; done) | (simp_all; omega)⟩, rfl, rfl, rfl⟩
    refine awp_cond rfl (fun hc1 => ?_) (fun hc1 => ?_)
    -- cond 1
    · skip
      refine awp_seq ?_
      refine awp_region ?_
      refine al_d rfl rfl rfl (by exact opd_assign rfl rfl) ?_
      refine al_nil ?_
      refine awp_ret ?_
      -- return
      refine aret1 (H' := []) (by first | exact .inr rfl | exact .inl rfl) rfl (rval_tmp rfl) (Fin.wk (by simp) trivial trivial) ?_
      exact ⟨by simp [gAccept, show ¬ (1 ≤ kind) by omega], rfl⟩
    · cases hc1
  · have e1 : decide (kind < 0) = false := by simp; omega
    have e2 : decide (5 ≤ kind) = true := by simpa using h
    refine awp_mergeR (t := 43) (n := 27) (X := true) ?_ ?_
    · refine awp_drawc follows ?_
      refine dc_cons (DStep.q rfl (by exact (by first | exact opd_field_ref rfl fo31_0 rfl rfl rfl rfl | exact opd_field_pad rfl fo31_0 rfl rfl))) rfl ?_
      refine dc_cons (DStep.q rfl (by exact (by first | exact opd_load1_ref rfl Tryz.isAgg3 rfl rfl rfl rfl rfl | exact opd_load1_pad rfl Tryz.isAgg3 rfl (by first | omega | assumption) rfl))) rfl ?_
      refine dc_cons (DStep.q rfl (by exact opd_lss rfl rfl rfl)) rfl ?_
      refine dc_cons (DStep.q rfl (by exact opd_move rfl rfl)) rfl ?_
      refine dc_cons (q_on_f rfl rfl rfl (by first | rfl | assumption) (by exact (by first | exact opd_field_ref rfl fo31_0 rfl rfl rfl rfl | exact opd_field_pad rfl fo31_0 rfl rfl))) rfl ?_
      refine dc_cons (q_on_f rfl rfl rfl (by first | rfl | assumption) (by exact (by first | exact opd_load1_ref rfl Tryz.isAgg3 rfl rfl rfl rfl rfl | exact opd_load1_pad rfl Tryz.isAgg3 rfl (by first | omega | assumption) rfl))) rfl ?_
      refine dc_cons (q_on_f rfl rfl rfl (by first | rfl | assumption) (by exact opd_geq rfl rfl rfl)) rfl ?_
      refine dc_cons (DStep.q rfl (by exact (by first | exact opd_pick_t rfl rfl rfl | exact opd_pick_f rfl rfl rfl | exact opd_pickt rfl rfl (by assumption) rfl | exact opd_pickf rfl rfl (by assumption) rfl | exact opd_pick rfl rfl rfl))) rfl ?_
      refine dc_cons (DStep.q rfl (by exact opd_move rfl rfl)) rfl ?_
      refine dc_cons (q_off_f rfl rfl rfl (by first | rfl | assumption)) rfl ?_
      refine dc_cons (q_off_f rfl rfl rfl (by first | rfl | assumption)) rfl ?_
      refine dc_cons (q_off_f rfl rfl rfl (by first | rfl | assumption)) rfl ?_
      refine dc_cons (q_off_f rfl rfl rfl (by first | rfl | assumption)) rfl ?_
      refine dc_cons (q_off_f rfl rfl rfl (by first | rfl | assumption)) rfl ?_
      refine dc_cons (q_off_f rfl rfl rfl (by first | rfl | assumption)) rfl ?_
      refine dc_cons (DStep.q rfl (by exact (by first | exact opd_pick_t rfl rfl rfl | exact opd_pick_f rfl rfl rfl | exact opd_pickt rfl rfl (by assumption) rfl | exact opd_pickf rfl rfl (by assumption) rfl | exact opd_pick rfl rfl rfl))) rfl ?_
      refine dc_cons (DStep.q rfl (by exact opd_move rfl rfl)) rfl ?_
      refine dc_cons (q_off_f rfl rfl rfl (by first | rfl | assumption)) rfl ?_
      refine dc_cons (q_off_f rfl rfl rfl (by first | rfl | assumption)) rfl ?_
      refine dc_cons (q_off_f rfl rfl rfl (by first | rfl | assumption)) rfl ?_
      refine dc_cons (q_off_f rfl rfl rfl (by first | rfl | assumption)) rfl ?_
      refine dc_cons (q_off_f rfl rfl rfl (by first | rfl | assumption)) rfl ?_
      refine dc_cons (q_off_f rfl rfl rfl (by first | rfl | assumption)) rfl ?_
      refine dc_cons (q_off_f rfl rfl rfl (by first | rfl | assumption)) rfl ?_
      refine dc_cons (q_off_f rfl rfl rfl (by first | rfl | assumption)) rfl ?_
      refine dc_cons (q_off_f rfl rfl rfl (by first | rfl | assumption)) rfl ?_
      refine dc_cons (DStep.q rfl (by exact (by first | exact opd_pick_t rfl rfl rfl | exact opd_pick_f rfl rfl rfl | exact opd_pickt rfl rfl (by assumption) rfl | exact opd_pickf rfl rfl (by assumption) rfl | exact opd_pick rfl rfl rfl))) rfl ?_
      refine dc_nil ⟨by kernel_rfl, ?_⟩
      exact ⟨rfl, ⟨_, rfl, by first | rfl | (simp only [*, Bool.false_and, Bool.true_and, Bool.and_false, Bool.and_true, Bool.true_or, Bool.false_or, Bool.or_true, Bool.or_false, Bool.not_true, Bool.not_false]; done) | (simp_all; done) | (simp_all; omega)⟩, rfl, rfl, rfl⟩
    refine awp_cond rfl (fun hc2 => ?_) (fun hc2 => ?_)
    -- cond 2
    · skip
      refine awp_seq ?_
      refine awp_region ?_
      refine al_d rfl rfl rfl (by exact opd_assign rfl rfl) ?_
      refine al_nil ?_
      refine awp_ret ?_
      -- return
      refine aret1 (H' := []) (by first | exact .inr rfl | exact .inl rfl) rfl (rval_tmp rfl) (Fin.wk (by simp) trivial trivial) ?_
      exact ⟨by simp [gAccept, show ¬ (kind ≤ 4) by omega], rfl⟩
    · cases hc2
  · have e1 : decide ((k : Int) < 0) = false := by simp
    have e2 : decide (5 ≤ (k : Int)) = false := by simp; omega
    refine awp_mergeR (t := 43) (n := 27) (X := decide (kMany k = 0) || !decide ((idx.length : Int) = kMany k)) ?_ ?_
    · cases hg33 : (decide (kMany k = 0) : Bool)
      · refine awp_drawc follows ?_
        refine dc_cons (DStep.q rfl (by exact (by first | exact opd_field_ref rfl fo31_0 rfl rfl rfl rfl | exact opd_field_pad rfl fo31_0 rfl rfl))) rfl ?_
        refine dc_cons (DStep.q rfl (by exact (by first | exact opd_load1_ref rfl Tryz.isAgg3 rfl rfl rfl rfl rfl | exact opd_load1_pad rfl Tryz.isAgg3 rfl (by first | omega | assumption) rfl))) rfl ?_
        refine dc_cons (DStep.q rfl (by exact opd_lss rfl rfl rfl)) rfl ?_
        refine dc_cons (DStep.q rfl (by exact opd_move rfl rfl)) rfl ?_
        refine dc_cons (q_on_f rfl rfl rfl (by first | rfl | assumption) (by exact (by first | exact opd_field_ref rfl fo31_0 rfl rfl rfl rfl | exact opd_field_pad rfl fo31_0 rfl rfl))) rfl ?_
        refine dc_cons (q_on_f rfl rfl rfl (by first | rfl | assumption) (by exact (by first | exact opd_load1_ref rfl Tryz.isAgg3 rfl rfl rfl rfl rfl | exact opd_load1_pad rfl Tryz.isAgg3 rfl (by first | omega | assumption) rfl))) rfl ?_
        refine dc_cons (q_on_f rfl rfl rfl (by first | rfl | assumption) (by exact opd_geq rfl rfl rfl)) rfl ?_
        refine dc_cons (DStep.q rfl (by exact (by first | exact opd_pick_t rfl rfl rfl | exact opd_pick_f rfl rfl rfl | exact opd_pickt rfl rfl (by assumption) rfl | exact opd_pickf rfl rfl (by assumption) rfl | exact opd_pick rfl rfl rfl))) rfl ?_
        refine dc_cons (DStep.q rfl (by exact opd_move rfl rfl)) rfl ?_
        refine dc_cons (q_on_f rfl rfl rfl (by first | rfl | assumption) (by exact (by first | exact opd_field_ref rfl fo31_0 rfl rfl rfl rfl | exact opd_field_pad rfl fo31_0 rfl rfl))) rfl ?_
        refine dc_cons (q_on_f rfl rfl rfl (by first | rfl | assumption) (by exact (by first | exact opd_load1_ref rfl Tryz.isAgg3 rfl rfl rfl rfl rfl | exact opd_load1_pad rfl Tryz.isAgg3 rfl (by first | omega | assumption) rfl))) rfl ?_
        refine dc_cons (q_on_f rfl rfl rfl (by first | rfl | assumption) (by exact opd_index_arr rfl Tryz.underlying93 Tryz.sizeOf92 rfl rfl rfl rfl (by omega) (by first | exact Int.toNat_natCast _ | rfl) (by first | omega | assumption) rfl)) rfl ?_
        refine dc_cons (q_on_f rfl rfl rfl (by first | rfl | assumption) (by exact (by first | exact opd_field_ref rfl fo92_0 rfl rfl rfl rfl | exact opd_field_pad rfl fo92_0 rfl rfl))) rfl ?_
        refine dc_cons (q_on_f rfl rfl rfl (by first | rfl | assumption) (by exact (by first | exact opd_load1_ref rfl Tryz.isAgg3 rfl rfl rfl rfl (kinds_many hk) | exact opd_load1_pad rfl Tryz.isAgg3 rfl (by first | omega | assumption) rfl))) rfl ?_
        refine dc_cons (q_on_f rfl rfl rfl (by first | rfl | assumption) (by exact opd_eql rfl rfl rfl)) rfl ?_
        refine dc_cons (DStep.q rfl (by exact (by first | exact opd_pick_t rfl rfl rfl | exact opd_pick_f rfl rfl rfl | exact opd_pickt rfl rfl (by assumption) rfl | exact opd_pickf rfl rfl (by assumption) rfl | exact opd_pick rfl rfl rfl))) rfl ?_
        refine dc_cons (DStep.q rfl (by exact opd_move rfl rfl)) rfl ?_
        refine dc_cons (q_on_f rfl rfl rfl (by first | rfl | assumption) (by exact (by first | exact opd_field_ref rfl fo31_1 rfl rfl rfl rfl | exact opd_field_pad rfl fo31_1 rfl rfl))) rfl ?_
        refine dc_cons (q_on_f rfl rfl rfl (by first | rfl | assumption) (by exact (by first | exact opd_load1_ref rfl Tryz.isAgg29 rfl rfl rfl rfl rfl | exact opd_load1_pad rfl Tryz.isAgg29 rfl (by first | omega | assumption) rfl))) rfl ?_
        refine dc_cons (q_on_f rfl rfl rfl (by first | rfl | assumption) (by exact (by first | exact opd_len_sl rfl Tryz.underlying29 rfl | exact opd_len_osl rfl Tryz.underlying29 rfl rfl rfl))) rfl ?_
        refine dc_cons (q_on_f rfl rfl rfl (by first | rfl | assumption) (by exact (by first | exact opd_field_ref rfl fo31_0 rfl rfl rfl rfl | exact opd_field_pad rfl fo31_0 rfl rfl))) rfl ?_
        refine dc_cons (q_on_f rfl rfl rfl (by first | rfl | assumption) (by exact (by first | exact opd_load1_ref rfl Tryz.isAgg3 rfl rfl rfl rfl rfl | exact opd_load1_pad rfl Tryz.isAgg3 rfl (by first | omega | assumption) rfl))) rfl ?_
        refine dc_cons (q_on_f rfl rfl rfl (by first | rfl | assumption) (by exact opd_index_arr rfl Tryz.underlying93 Tryz.sizeOf92 rfl rfl rfl rfl (by omega) (by first | exact Int.toNat_natCast _ | rfl) (by first | omega | assumption) rfl)) rfl ?_
        refine dc_cons (q_on_f rfl rfl rfl (by first | rfl | assumption) (by exact (by first | exact opd_field_ref rfl fo92_0 rfl rfl rfl rfl | exact opd_field_pad rfl fo92_0 rfl rfl))) rfl ?_
        refine dc_cons (q_on_f rfl rfl rfl (by first | rfl | assumption) (by exact (by first | exact opd_load1_ref rfl Tryz.isAgg3 rfl rfl rfl rfl (kinds_many hk) | exact opd_load1_pad rfl Tryz.isAgg3 rfl (by first | omega | assumption) rfl))) rfl ?_
        refine dc_cons (q_on_f rfl rfl rfl (by first | rfl | assumption) (by exact opd_neq rfl rfl rfl)) rfl ?_
        refine dc_cons (DStep.q rfl (by exact (by first | exact opd_pick_t rfl rfl rfl | exact opd_pick_f rfl rfl rfl | exact opd_pickt rfl rfl (by assumption) rfl | exact opd_pickf rfl rfl (by assumption) rfl | exact opd_pick rfl rfl rfl))) rfl ?_
        refine dc_nil ⟨by kernel_rfl, ?_⟩
        exact ⟨rfl, ⟨_, rfl, by first | rfl | (simp only [*, Bool.false_and, Bool.true_and, Bool.and_false, Bool.and_true, Bool.true_or, Bool.false_or, Bool.or_true, Bool.or_false, Bool.not_true, Bool.not_false]; done) | (simp_all; done) | (simp_all; omega)⟩, rfl, rfl, rfl⟩
      · refine awp_drawc follows ?_
        refine dc_cons (DStep.q rfl (by exact (by first | exact opd_field_ref rfl fo31_0 rfl rfl rfl rfl | exact opd_field_pad rfl fo31_0 rfl rfl))) rfl ?_
        refine dc_cons (DStep.q rfl (by exact (by first | exact opd_load1_ref rfl Tryz.isAgg3 rfl rfl rfl rfl rfl | exact opd_load1_pad rfl Tryz.isAgg3 rfl (by first | omega | assumption) rfl))) rfl ?_
        refine dc_cons (DStep.q rfl (by exact opd_lss rfl rfl rfl)) rfl ?_
        refine dc_cons (DStep.q rfl (by exact opd_move rfl rfl)) rfl ?_
        refine dc_cons (q_on_f rfl rfl rfl (by first | rfl | assumption) (by exact (by first | exact opd_field_ref rfl fo31_0 rfl rfl rfl rfl | exact opd_field_pad rfl fo31_0 rfl rfl))) rfl ?_
        refine dc_cons (q_on_f rfl rfl rfl (by first | rfl | assumption) (by exact (by first | exact opd_load1_ref rfl Tryz.isAgg3 rfl rfl rfl rfl rfl | exact opd_load1_pad rfl Tryz.isAgg3 rfl (by first | omega | assumption) rfl))) rfl ?_
        refine dc_cons (q_on_f rfl rfl rfl (by first | rfl | assumption) (by exact opd_geq rfl rfl rfl)) rfl ?_
        refine dc_cons (DStep.q rfl (by exact (by first | exact opd_pick_t rfl rfl rfl | exact opd_pick_f rfl rfl rfl | exact opd_pickt rfl rfl (by assumption) rfl | exact opd_pickf rfl rfl (by assumption) rfl | exact opd_pick rfl rfl rfl))) rfl ?_
        refine dc_cons (DStep.q rfl (by exact opd_move rfl rfl)) rfl ?_
        refine dc_cons (q_on_f rfl rfl rfl (by first | rfl | assumption) (by exact (by first | exact opd_field_ref rfl fo31_0 rfl rfl rfl rfl | exact opd_field_pad rfl fo31_0 rfl rfl))) rfl ?_
        refine dc_cons (q_on_f rfl rfl rfl (by first | rfl | assumption) (by exact (by first | exact opd_load1_ref rfl Tryz.isAgg3 rfl rfl rfl rfl rfl | exact opd_load1_pad rfl Tryz.isAgg3 rfl (by first | omega | assumption) rfl))) rfl ?_
        refine dc_cons (q_on_f rfl rfl rfl (by first | rfl | assumption) (by exact opd_index_arr rfl Tryz.underlying93 Tryz.sizeOf92 rfl rfl rfl rfl (by omega) (by first | exact Int.toNat_natCast _ | rfl) (by first | omega | assumption) rfl)) rfl ?_
        refine dc_cons (q_on_f rfl rfl rfl (by first | rfl | assumption) (by exact (by first | exact opd_field_ref rfl fo92_0 rfl rfl rfl rfl | exact opd_field_pad rfl fo92_0 rfl rfl))) rfl ?_
        refine dc_cons (q_on_f rfl rfl rfl (by first | rfl | assumption) (by exact (by first | exact opd_load1_ref rfl Tryz.isAgg3 rfl rfl rfl rfl (kinds_many hk) | exact opd_load1_pad rfl Tryz.isAgg3 rfl (by first | omega | assumption) rfl))) rfl ?_
        refine dc_cons (q_on_f rfl rfl rfl (by first | rfl | assumption) (by exact opd_eql rfl rfl rfl)) rfl ?_
        refine dc_cons (DStep.q rfl (by exact (by first | exact opd_pick_t rfl rfl rfl | exact opd_pick_f rfl rfl rfl | exact opd_pickt rfl rfl (by assumption) rfl | exact opd_pickf rfl rfl (by assumption) rfl | exact opd_pick rfl rfl rfl))) rfl ?_
        refine dc_cons (DStep.q rfl (by exact opd_move rfl rfl)) rfl ?_
        refine dc_cons (q_off_f rfl rfl rfl (by first | rfl | assumption)) rfl ?_
        refine dc_cons (q_off_f rfl rfl rfl (by first | rfl | assumption)) rfl ?_
        refine dc_cons (q_off_f rfl rfl rfl (by first | rfl | assumption)) rfl ?_
        refine dc_cons (q_off_f rfl rfl rfl (by first | rfl | assumption)) rfl ?_
        refine dc_cons (q_off_f rfl rfl rfl (by first | rfl | assumption)) rfl ?_
        refine dc_cons (q_off_f rfl rfl rfl (by first | rfl | assumption)) rfl ?_
        refine dc_cons (q_off_f rfl rfl rfl (by first | rfl | assumption)) rfl ?_
        refine dc_cons (q_off_f rfl rfl rfl (by first | rfl | assumption)) rfl ?_
        refine dc_cons (q_off_f rfl rfl rfl (by first | rfl | assumption)) rfl ?_
        refine dc_cons (DStep.q rfl (by exact (by first | exact opd_pick_t rfl rfl rfl | exact opd_pick_f rfl rfl rfl | exact opd_pickt rfl rfl (by assumption) rfl | exact opd_pickf rfl rfl (by assumption) rfl | exact opd_pick rfl rfl rfl))) rfl ?_
        refine dc_nil ⟨by kernel_rfl, ?_⟩
        exact ⟨rfl, ⟨_, rfl, by first | rfl | (simp only [*, Bool.false_and, Bool.true_and, Bool.and_false, Bool.and_true, Bool.true_or, Bool.false_or, Bool.or_true, Bool.or_false, Bool.not_true, Bool.not_false]; done) | (simp_all; done) | (simp_all; omega)⟩, rfl, rfl, rfl⟩
    refine awp_cond rfl (fun hc3 => ?_) (fun hc3 => ?_)
    -- cond 3
    · have hbad : k = 0 ∨ ¬ ((idx.length : Int) = kMany k) := by
        rw [← kMany_zero hk]
        simpa using hc3
      refine awp_seq ?_
      refine awp_region ?_
      refine al_d rfl rfl rfl (by exact opd_assign rfl rfl) ?_
      refine al_nil ?_
      refine awp_ret ?_
      -- return
      refine aret1 (H' := []) (by first | exact .inr rfl | exact .inl rfl) rfl (rval_tmp rfl) (Fin.wk (by simp) trivial trivial) ?_
      refine ⟨?_, rfl⟩
      have : gAccept m l k idx = false := by
        rcases hbad with h | h
        · subst h; rfl
        · simp [gAccept, h]
      rw [this]
    · have hgood : ¬ k = 0 ∧ (idx.length : Int) = kMany k := by
        rw [← kMany_zero hk]
        simpa using hc3
      obtain ⟨hk0, hlen⟩ := hgood
      have hk1 : 1 ≤ k := by omega
      have h5 := kMany_le k
      have hacc : gAccept m l k idx = (gAccLoop k m l idx [] (-1) && (!decide ((k : Int) = 1) || decide ((l.length : Int) - (l.countP gDrop : Nat) < (l.countP gDrop : Nat)))) := by
        simp [gAccept, hlen, show (1 : Int) ≤ k by omega, show (k : Int) ≤ 4 by omega]
      rw [hacc]
      refine awp_skip ?_
      refine awp_seq ?_
      refine awp_region ?_
      refine al_d rfl rfl rfl (by exact (by first | exact opd_field_ref rfl fo31_0 rfl rfl rfl rfl | exact opd_field_pad rfl fo31_0 rfl rfl)) ?_
      refine al_d rfl rfl rfl (by exact (by first | exact opd_load1_ref rfl Tryz.isAgg3 rfl rfl rfl rfl rfl | exact opd_load1_pad rfl Tryz.isAgg3 rfl (by first | omega | assumption) rfl)) ?_
      refine al_d rfl rfl rfl (by exact opd_index_arr rfl Tryz.underlying93 Tryz.sizeOf92 rfl rfl rfl rfl (by omega) (by first | exact Int.toNat_natCast _ | rfl) (by first | omega | assumption) rfl) ?_
      refine al_d rfl rfl rfl (by exact (by first | exact opd_loadn_ref rfl Tryz.isAgg92 Tryz.sizeOf92 rfl rfl rfl rfl (kinds_row hk) rfl | exact opd_loadn_pad rfl Tryz.isAgg92 Tryz.sizeOf92 rfl (by first | omega | assumption) (kinds_row hk) rfl)) ?_
      refine al_d rfl rfl rfl (by exact x_alloc (id := 8) rfl zo92 rfl rfl) ?_
      refine al_n rfl rfl (by exact (by first | exact x_store_all rfl Tryz.sizeOf92 rfl rfl rfl rfl rfl rfl rfl rfl | exact x_store rfl Tryz.sizeOf92 rfl rfl rfl rfl rfl rfl rfl (by simp only [List.length_cons, List.length_nil]; omega) (by simp only [List.drop_succ_cons, List.drop_zero, List.take_succ_cons, List.take_zero, List.take_nil, List.map_cons, List.map_nil, List.set_cons_zero, List.set_cons_succ, List.cons_append, List.nil_append, encTag, encObj, encEdit]; rfl) (by simp only [List.drop_succ_cons, List.drop_zero, List.take_succ_cons, List.take_zero, List.take_nil, List.map_cons, List.map_nil, List.set_cons_zero, List.set_cons_succ, List.cons_append, List.nil_append, encTag, encObj, encEdit]; rfl) | exact x_store rfl Tryz.sizeOf92 rfl rfl rfl rfl rfl rfl rfl (Nat.le_of_ble_eq_true rfl) rfl rfl)) ?_
      refine al_nil ?_
      refine awp_seq ?_
      refine awp_region ?_
      refine al_d rfl rfl rfl (by exact opd_assign_own (id := 9) (sz := 15) (ty := 44) rfl rfl rfl) ?_
      refine al_nil ?_
      refine awp_seq ?_
      refine awp_region ?_
      refine al_d rfl rfl rfl (by exact opd_assign rfl rfl) ?_
      refine al_nil ?_
      refine awp_seq ?_
      refine awp_seq ?_
      refine awp_region ?_
      refine al_d rfl rfl rfl (by exact (by first | exact opd_field_ref rfl fo31_1 rfl rfl rfl rfl | exact opd_field_pad rfl fo31_1 rfl rfl)) ?_
      refine al_d rfl rfl rfl (by exact (by first | exact opd_load1_ref rfl Tryz.isAgg29 rfl rfl rfl rfl rfl | exact opd_load1_pad rfl Tryz.isAgg29 rfl (by first | omega | assumption) rfl)) ?_
      refine al_d rfl rfl rfl (by exact (by first | exact opd_len_sl rfl Tryz.underlying29 rfl | exact opd_len_osl rfl Tryz.underlying29 rfl rfl rfl)) ?_
      refine al_d rfl rfl rfl (by exact opd_move rfl rfl) ?_
      refine al_nil ?_
      refine awp_block ?_
      -- loop
      refine awp_loop4 (fun (j : Nat) (sh : List GEdit) (last : Int) (g : Nat) => ([(3, .ref 3 0 0 0), (4, .ref 4 0 0 0), (5, .ref 5 0 0 0), (8, .ref 8 0 0 0), (9, .osl 9 g 0 sh.length), (10, iv last), (49, .pv (slInts idx)), (50, iv (idx.map encInt).length), (51, iv (j : Int))],
          [(9, ⟨g, 15, 44, edRows sh⟩), (8, bx 3 92 [iv (kMany k), .pv (kF1 k), .pv (kF2 k)]), (5, bx 2 31 [iv (k : Int), .pv (slInts idx)]), (4, bx 1 25 [.pv (slEdits l)]), (3, bx 1 24 [.pv (slObjs m)])]))
        (fun j sh last g => j ≤ idx.length ∧ sh.length ≤ j ∧ -1 ≤ last ∧ (∀ x, x ∈ sh → okTagsV x.obj.tags) ∧ gAccLoop k m l idx [] (-1) = gAccLoop k m l (idx.drop j) sh last) (fun j _ _ _ => idx.length - j) 0 [] (-1) 0 ⟨by omega, by simp, by simp, by simp, by simp⟩ ?_ ?_
      · exact (Ent.wk ⟨⟨_, rfl, rfl⟩, (by first | (simp; done) | (simp; rfl) | exact clo_map _ _ _), ⟨_, rfl, rfl⟩, (by first | (simp; done) | (simp; rfl) | exact clo_map _ _ _), ⟨_, rfl, rfl⟩, (by first | (simp; done) | (simp; rfl) | exact clo_map _ _ _), ⟨_, rfl, rfl⟩, (by first | (simp; done) | (simp; rfl) | exact clo_map _ _ _), ⟨_, rfl, rfl⟩, (by first | (simp; done) | (simp; rfl) | exact clo_map _ _ _), ⟨_, rfl, rfl⟩, (by first | (simp; done) | (simp; rfl) | exact clo_map _ _ _), ⟨_, rfl, rfl⟩, (by first | (simp; done) | (simp; rfl) | exact clo_map _ _ _), ⟨_, rfl, rfl⟩, (by first | (simp; done) | (simp; rfl) | exact clo_map _ _ _), ⟨_, rfl, rfl⟩, (by first | (simp; done) | (simp; rfl) | exact clo_map _ _ _), trivial⟩ ⟨⟨_, rfl, rfl⟩, (by first | (simp; done) | (simp; rfl) | exact clo_map _ _ _), ⟨_, rfl, rfl⟩, (by first | (simp; done) | (simp; rfl) | exact clo_map _ _ _), ⟨_, rfl, rfl⟩, (by first | (simp; done) | (simp; rfl) | exact clo_map _ _ _), ⟨_, rfl, rfl⟩, (by first | (simp; done) | (simp; rfl) | exact clo_map _ _ _), ⟨_, rfl, rfl⟩, (by first | (simp; done) | (simp; rfl) | exact clo_map _ _ _), trivial⟩ trivial)
      · rintro j sh last g ⟨hj, hsl, hlast, htg, hinv⟩
        refine awp_seq ?_
        refine awp_region ?_
        refine al_d rfl rfl rfl (by exact opd_lss rfl rfl rfl) ?_
        refine al_nil ?_
        refine awp_seq ?_
        refine awp_cond rfl (fun hc4 => ?_) (fun hc4 => ?_)
        -- cond 4
        · have hlt : j < idx.length := by simpa using hc4
          obtain ⟨i, hi⟩ := get_of_lt hlt
          have hii := map_get (f := encInt) hi
          rw [drop_of_get hi] at hinv
          refine awp_skip ?_
          refine awp_seq ?_
          refine awp_block ?_
          refine awp_seq ?_
          refine awp_region ?_
          refine al_d rfl rfl rfl (by exact (by first | exact x_index_pad rfl so29 rfl rfl (by omega) (by first | exact Int.toNat_natCast _ | rfl) (by assumption) rfl | exact x_index_osl rfl so29 rfl rfl rfl rfl rfl (by omega) (by first | exact Int.toNat_natCast _ | rfl) (by first | omega | assumption) rfl)) ?_
          refine al_d rfl rfl rfl (by exact (by first | exact opd_load1_ref rfl Tryz.isAgg3 rfl rfl rfl rfl rfl | exact opd_load1_pad rfl Tryz.isAgg3 rfl (by first | omega | assumption) rfl)) ?_
          refine al_d rfl rfl rfl (by exact x_alloc (id := 12) rfl zo3 rfl rfl) ?_
          refine al_n rfl rfl (by exact (by first | exact x_store_all rfl Tryz.sizeOf3 rfl rfl rfl rfl rfl rfl rfl rfl | exact x_store1 rfl Tryz.sizeOf3 rfl rfl rfl rfl rfl rfl (by simp only [List.length_cons, List.length_nil]; omega) (by simp only [List.drop_succ_cons, List.drop_zero, List.take_succ_cons, List.take_zero, List.take_nil, List.map_cons, List.map_nil, List.set_cons_zero, List.set_cons_succ, List.cons_append, List.nil_append, encTag, encObj, encEdit]; rfl) (by simp only [List.drop_succ_cons, List.drop_zero, List.take_succ_cons, List.take_zero, List.take_nil, List.map_cons, List.map_nil, List.set_cons_zero, List.set_cons_succ, List.cons_append, List.nil_append, encTag, encObj, encEdit]; rfl) | exact x_store1 rfl Tryz.sizeOf3 rfl rfl rfl rfl rfl rfl (Nat.le_of_ble_eq_true rfl) rfl rfl)) ?_
          refine al_nil ?_
          refine awp_seq ?_
          refine awp_seq ?_
          -- guard at a region with tests: %bool 79 := ..
          rcases idx_cases i last l hlast with h | ⟨h0, h⟩ | ⟨p, y, rfl, h0, hpl, hp⟩
          · have e3 : decide (i ≤ last) = true := by simpa using h
            refine awp_mergeR (t := 79) (n := 25) (X := true) ?_ ?_
            · refine awp_drawc follows ?_
              refine dc_cons (DStep.q rfl (by exact (by first | exact opd_load1_ref rfl Tryz.isAgg3 rfl rfl rfl rfl rfl | exact opd_load1_pad rfl Tryz.isAgg3 rfl (by first | omega | assumption) rfl))) rfl ?_
              refine dc_cons (DStep.q rfl (by exact opd_move rfl rfl)) rfl ?_
              refine dc_cons (DStep.q rfl (by exact opd_leq rfl rfl rfl)) rfl ?_
              refine dc_cons (DStep.q rfl (by exact opd_move rfl rfl)) rfl ?_
              refine dc_cons (q_off_f rfl rfl rfl (by first | rfl | assumption)) rfl ?_
              refine dc_cons (q_off_f rfl rfl rfl (by first | rfl | assumption)) rfl ?_
              refine dc_cons (q_off_f rfl rfl rfl (by first | rfl | assumption)) rfl ?_
              refine dc_cons (q_off_f rfl rfl rfl (by first | rfl | assumption)) rfl ?_
              refine dc_cons (DStep.q rfl (by exact (by first | exact opd_pick_t rfl rfl rfl | exact opd_pick_f rfl rfl rfl | exact opd_pickt rfl rfl (by assumption) rfl | exact opd_pickf rfl rfl (by assumption) rfl | exact opd_pick rfl rfl rfl))) rfl ?_
              refine dc_cons (DStep.q rfl (by exact opd_move rfl rfl)) rfl ?_
              refine dc_cons (q_off_f rfl rfl rfl (by first | rfl | assumption)) rfl ?_
              refine dc_cons (q_off_f rfl rfl rfl (by first | rfl | assumption)) rfl ?_
              refine dc_cons (q_off_f rfl rfl rfl (by first | rfl | assumption)) rfl ?_
              refine dc_cons (q_off_f rfl rfl rfl (by first | rfl | assumption)) rfl ?_
              refine dc_cons (q_off_f rfl rfl rfl (by first | rfl | assumption)) rfl ?_
              refine dc_cons (q_off_f rfl rfl rfl (by first | rfl | assumption)) rfl ?_
              refine dc_cons (q_off_f rfl rfl rfl (by first | rfl | assumption)) rfl ?_
              refine dc_cons (q_off_f rfl rfl rfl (by first | rfl | assumption)) rfl ?_
              refine dc_cons (q_off_f rfl rfl rfl (by first | rfl | assumption)) rfl ?_
              refine dc_cons (DStep.q rfl (by exact (by first | exact opd_pick_t rfl rfl rfl | exact opd_pick_f rfl rfl rfl | exact opd_pickt rfl rfl (by assumption) rfl | exact opd_pickf rfl rfl (by assumption) rfl | exact opd_pick rfl rfl rfl))) rfl ?_
              refine dc_cons (DStep.q rfl (by exact opd_move rfl rfl)) rfl ?_
              refine dc_cons (q_off_f rfl rfl rfl (by first | rfl | assumption)) rfl ?_
              refine dc_cons (q_off_f rfl rfl rfl (by first | rfl | assumption)) rfl ?_
              refine dc_cons (q_off_f rfl rfl rfl (by first | rfl | assumption)) rfl ?_
              refine dc_cons (DStep.q rfl (by exact (by first | exact opd_pick_t rfl rfl rfl | exact opd_pick_f rfl rfl rfl | exact opd_pickt rfl rfl (by assumption) rfl | exact opd_pickf rfl rfl (by assumption) rfl | exact opd_pick rfl rfl rfl))) rfl ?_
              refine dc_nil ⟨by kernel_rfl, ?_⟩
              exact ⟨rfl, ⟨_, rfl, by first | rfl | (simp only [*, Bool.false_and, Bool.true_and, Bool.and_false, Bool.and_true, Bool.true_or, Bool.false_or, Bool.or_true, Bool.or_false, Bool.not_true, Bool.not_false]; done) | (simp_all; done) | (simp_all; omega)⟩, rfl, rfl, rfl⟩
            refine awp_cond rfl (fun hc5 => ?_) (fun hc5 => ?_)
            -- cond 5
            · skip
              refine awp_seq ?_
              refine awp_region ?_
              refine al_d rfl rfl rfl (by exact opd_assign rfl rfl) ?_
              refine al_nil ?_
              refine awp_ret ?_
              -- return
              refine aret1 (H' := []) (by first | exact .inr rfl | exact .inl rfl) rfl (rval_tmp rfl) (Fin.wk (by simp) trivial trivial) ?_
              exact ⟨by rw [hinv, gAccLoop_stop (.inl h)]; rfl, rfl⟩
            · cases hc5
          · have e3 : decide (i ≤ last) = false := by simp; omega
            have e4 : decide ((l.map encEdit).length ≤ i) = true := by simpa using h
            refine awp_mergeR (t := 79) (n := 25) (X := true) ?_ ?_
            · refine awp_drawc follows ?_
              refine dc_cons (DStep.q rfl (by exact (by first | exact opd_load1_ref rfl Tryz.isAgg3 rfl rfl rfl rfl rfl | exact opd_load1_pad rfl Tryz.isAgg3 rfl (by first | omega | assumption) rfl))) rfl ?_
              refine dc_cons (DStep.q rfl (by exact opd_move rfl rfl)) rfl ?_
              refine dc_cons (DStep.q rfl (by exact opd_leq rfl rfl rfl)) rfl ?_
              refine dc_cons (DStep.q rfl (by exact opd_move rfl rfl)) rfl ?_
              refine dc_cons (q_on_f rfl rfl rfl (by first | rfl | assumption) (by exact (by first | exact opd_load1_ref rfl Tryz.isAgg3 rfl rfl rfl rfl rfl | exact opd_load1_pad rfl Tryz.isAgg3 rfl (by first | omega | assumption) rfl))) rfl ?_
              refine dc_cons (q_on_f rfl rfl rfl (by first | rfl | assumption) (by exact (by first | exact opd_load1_ref rfl Tryz.isAgg25 rfl rfl rfl rfl rfl | exact opd_load1_pad rfl Tryz.isAgg25 rfl (by first | omega | assumption) rfl))) rfl ?_
              refine dc_cons (q_on_f rfl rfl rfl (by first | rfl | assumption) (by exact (by first | exact opd_len_sl rfl Tryz.underlying25 rfl | exact opd_len_osl rfl Tryz.underlying25 rfl rfl rfl))) rfl ?_
              refine dc_cons (q_on_f rfl rfl rfl (by first | rfl | assumption) (by exact opd_geq rfl rfl rfl)) rfl ?_
              refine dc_cons (DStep.q rfl (by exact (by first | exact opd_pick_t rfl rfl rfl | exact opd_pick_f rfl rfl rfl | exact opd_pickt rfl rfl (by assumption) rfl | exact opd_pickf rfl rfl (by assumption) rfl | exact opd_pick rfl rfl rfl))) rfl ?_
              refine dc_cons (DStep.q rfl (by exact opd_move rfl rfl)) rfl ?_
              refine dc_cons (q_off_f rfl rfl rfl (by first | rfl | assumption)) rfl ?_
              refine dc_cons (q_off_f rfl rfl rfl (by first | rfl | assumption)) rfl ?_
              refine dc_cons (q_off_f rfl rfl rfl (by first | rfl | assumption)) rfl ?_
              refine dc_cons (q_off_f rfl rfl rfl (by first | rfl | assumption)) rfl ?_
              refine dc_cons (q_off_f rfl rfl rfl (by first | rfl | assumption)) rfl ?_
              refine dc_cons (q_off_f rfl rfl rfl (by first | rfl | assumption)) rfl ?_
              refine dc_cons (q_off_f rfl rfl rfl (by first | rfl | assumption)) rfl ?_
              refine dc_cons (q_off_f rfl rfl rfl (by first | rfl | assumption)) rfl ?_
              refine dc_cons (q_off_f rfl rfl rfl (by first | rfl | assumption)) rfl ?_
              refine dc_cons (DStep.q rfl (by exact (by first | exact opd_pick_t rfl rfl rfl | exact opd_pick_f rfl rfl rfl | exact opd_pickt rfl rfl (by assumption) rfl | exact opd_pickf rfl rfl (by assumption) rfl | exact opd_pick rfl rfl rfl))) rfl ?_
              refine dc_cons (DStep.q rfl (by exact opd_move rfl rfl)) rfl ?_
              refine dc_cons (q_off_f rfl rfl rfl (by first | rfl | assumption)) rfl ?_
              refine dc_cons (q_off_f rfl rfl rfl (by first | rfl | assumption)) rfl ?_
              refine dc_cons (q_off_f rfl rfl rfl (by first | rfl | assumption)) rfl ?_
              refine dc_cons (DStep.q rfl (by exact (by first | exact opd_pick_t rfl rfl rfl | exact opd_pick_f rfl rfl rfl | exact opd_pickt rfl rfl (by assumption) rfl | exact opd_pickf rfl rfl (by assumption) rfl | exact opd_pick rfl rfl rfl))) rfl ?_
              refine dc_nil ⟨by kernel_rfl, ?_⟩
              exact ⟨rfl, ⟨_, rfl, by first | rfl | (simp only [*, Bool.false_and, Bool.true_and, Bool.and_false, Bool.and_true, Bool.true_or, Bool.false_or, Bool.or_true, Bool.or_false, Bool.not_true, Bool.not_false]; done) | (simp_all; done) | (simp_all; omega)⟩, rfl, rfl, rfl⟩
            refine awp_cond rfl (fun hc6 => ?_) (fun hc6 => ?_)
            -- cond 6
            · skip
              refine awp_seq ?_
              refine awp_region ?_
              refine al_d rfl rfl rfl (by exact opd_assign rfl rfl) ?_
              refine al_nil ?_
              refine awp_ret ?_
              -- return
              refine aret1 (H' := []) (by first | exact .inr rfl | exact .inl rfl) rfl (rval_tmp rfl) (Fin.wk (by simp) trivial trivial) ?_
              exact ⟨by rw [hinv, gAccLoop_stop (.inr h)]; rfl, rfl⟩
            · cases hc6
          · have e3 : decide ((p : Int) ≤ last) = false := by simp; omega
            have e4 : decide ((l.map encEdit).length ≤ (p : Int)) = false := by simp; omega
            have hpe := map_get (f := encEdit) hp
            have hshows := fun H => shows_c k m y H hm hk1 hk
            have hyt := hl.2 y (List.mem_of_getElem? hp)
            refine awp_mergeR (t := 79) (n := 25) (X := !gShows k m y || sh.any (fun x => !gTog k x y)) ?_ ?_
            · cases hg75 : (!gShows k m y : Bool)
              · refine awp_drawc follows ?_
                refine dc_cons (DStep.q rfl (by exact (by first | exact opd_load1_ref rfl Tryz.isAgg3 rfl rfl rfl rfl rfl | exact opd_load1_pad rfl Tryz.isAgg3 rfl (by first | omega | assumption) rfl))) rfl ?_
                refine dc_cons (DStep.q rfl (by exact opd_move rfl rfl)) rfl ?_
                refine dc_cons (DStep.q rfl (by exact opd_leq rfl rfl rfl)) rfl ?_
                refine dc_cons (DStep.q rfl (by exact opd_move rfl rfl)) rfl ?_
                refine dc_cons (q_on_f rfl rfl rfl (by first | rfl | assumption) (by exact (by first | exact opd_load1_ref rfl Tryz.isAgg3 rfl rfl rfl rfl rfl | exact opd_load1_pad rfl Tryz.isAgg3 rfl (by first | omega | assumption) rfl))) rfl ?_
                refine dc_cons (q_on_f rfl rfl rfl (by first | rfl | assumption) (by exact (by first | exact opd_load1_ref rfl Tryz.isAgg25 rfl rfl rfl rfl rfl | exact opd_load1_pad rfl Tryz.isAgg25 rfl (by first | omega | assumption) rfl))) rfl ?_
                refine dc_cons (q_on_f rfl rfl rfl (by first | rfl | assumption) (by exact (by first | exact opd_len_sl rfl Tryz.underlying25 rfl | exact opd_len_osl rfl Tryz.underlying25 rfl rfl rfl))) rfl ?_
                refine dc_cons (q_on_f rfl rfl rfl (by first | rfl | assumption) (by exact opd_geq rfl rfl rfl)) rfl ?_
                refine dc_cons (DStep.q rfl (by exact (by first | exact opd_pick_t rfl rfl rfl | exact opd_pick_f rfl rfl rfl | exact opd_pickt rfl rfl (by assumption) rfl | exact opd_pickf rfl rfl (by assumption) rfl | exact opd_pick rfl rfl rfl))) rfl ?_
                refine dc_cons (DStep.q rfl (by exact opd_move rfl rfl)) rfl ?_
                refine dc_cons (q_on_f rfl rfl rfl (by first | rfl | assumption) (by exact (by first | exact opd_field_ref rfl fo92_1 rfl rfl rfl rfl | exact opd_field_pad rfl fo92_1 rfl rfl))) rfl ?_
                refine dc_cons (q_on_f rfl rfl rfl (by first | rfl | assumption) (by exact (by first | exact opd_load1_ref rfl Tryz.isAgg52 rfl rfl rfl rfl rfl | exact opd_load1_pad rfl Tryz.isAgg52 rfl (by first | omega | assumption) rfl))) rfl ?_
                refine dc_cons (q_on_f rfl rfl rfl (by first | rfl | assumption) (by exact (by first | exact opd_loadn_ref rfl Tryz.isAgg24 Tryz.sizeOf24 rfl rfl rfl rfl (by simp only [List.drop_succ_cons, List.drop_zero, List.take_succ_cons, List.take_zero, List.take_nil, List.map_cons, List.map_nil, List.set_cons_zero, List.set_cons_succ, List.cons_append, List.nil_append, encTag, encObj, encEdit]; rfl) rfl | exact opd_loadn_pad rfl Tryz.isAgg24 Tryz.sizeOf24 rfl (by first | omega | assumption) (by simp only [List.drop_succ_cons, List.drop_zero, List.take_succ_cons, List.take_zero, List.take_nil, List.map_cons, List.map_nil, List.set_cons_zero, List.set_cons_succ, List.cons_append, List.nil_append, encTag, encObj, encEdit]; rfl) rfl))) rfl ?_
                refine dc_cons (q_on_f rfl rfl rfl (by first | rfl | assumption) (by exact (by first | exact opd_load1_ref rfl Tryz.isAgg25 rfl rfl rfl rfl rfl | exact opd_load1_pad rfl Tryz.isAgg25 rfl (by first | omega | assumption) rfl))) rfl ?_
                refine dc_cons (q_on_f rfl rfl rfl (by first | rfl | assumption) (by exact (by first | exact opd_load1_ref rfl Tryz.isAgg3 rfl rfl rfl rfl rfl | exact opd_load1_pad rfl Tryz.isAgg3 rfl (by first | omega | assumption) rfl))) rfl ?_
                refine dc_cons (q_on_f rfl rfl rfl (by first | rfl | assumption) (by exact (by first | exact x_index_pad rfl so25 rfl rfl (by omega) (by first | exact Int.toNat_natCast _ | rfl) (by assumption) rfl | exact x_index_osl rfl so25 rfl rfl rfl rfl rfl (by omega) (by first | exact Int.toNat_natCast _ | rfl) (by first | omega | assumption) rfl))) rfl ?_
                refine dc_cons (q_on_f rfl rfl rfl (by first | rfl | assumption) (by exact (by first | exact opd_loadn_ref rfl Tryz.isAgg44 Tryz.sizeOf44 rfl rfl rfl rfl (by simp only [List.drop_succ_cons, List.drop_zero, List.take_succ_cons, List.take_zero, List.take_nil, List.map_cons, List.map_nil, List.set_cons_zero, List.set_cons_succ, List.cons_append, List.nil_append, encTag, encObj, encEdit]; rfl) rfl | exact opd_loadn_pad rfl Tryz.isAgg44 Tryz.sizeOf44 rfl (by first | omega | assumption) (by simp only [List.drop_succ_cons, List.drop_zero, List.take_succ_cons, List.take_zero, List.take_nil, List.map_cons, List.map_nil, List.set_cons_zero, List.set_cons_succ, List.cons_append, List.nil_append, encTag, encObj, encEdit]; rfl) rfl))) rfl ?_
                refine dc_cons (q_on_f rfl rfl rfl (by first | rfl | assumption) (by exact opr_callV rfl rfl rfl (hshows _))) rfl ?_
                refine dc_cons (q_on_f rfl rfl rfl (by first | rfl | assumption) (by exact opd_not rfl rfl)) rfl ?_
                refine dc_cons (DStep.q rfl (by exact (by first | exact opd_pick_t rfl rfl rfl | exact opd_pick_f rfl rfl rfl | exact opd_pickt rfl rfl (by assumption) rfl | exact opd_pickf rfl rfl (by assumption) rfl | exact opd_pick rfl rfl rfl))) rfl ?_
                refine dc_cons (DStep.q rfl (by exact opd_move rfl rfl)) rfl ?_
                refine dc_cons (q_on_f rfl rfl rfl (by first | rfl | assumption) (by exact opd_move rfl rfl)) rfl ?_
                refine dc_cons (q_on_f rfl rfl rfl (by first | rfl | assumption) (by exact opd_makeFunc rfl rfl)) rfl ?_
                refine dc_cons (q_on_f rfl rfl rfl (by first | rfl | assumption) (by exact opr_call rfl rfl Tryz.call58 rfl (containsOwn_GEdit _ sh (fun x => !gTog k x y) _ 9 g 15 _ rfl rfl rfl rfl rfl (by omega) (fun x hx => CallsV.clo Tryz.call72 (accept1_c k x y l p _ _ _ _ rfl rfl rfl hp rfl (Closed.of (by simp)) (htg x hx) hk1 hk))))) rfl ?_
                refine dc_cons (DStep.q rfl (by exact (by first | exact opd_pick_t rfl rfl rfl | exact opd_pick_f rfl rfl rfl | exact opd_pickt rfl rfl (by assumption) rfl | exact opd_pickf rfl rfl (by assumption) rfl | exact opd_pick rfl rfl rfl))) rfl ?_
                refine dc_nil ⟨by kernel_rfl, ?_⟩
                exact ⟨rfl, ⟨_, rfl, by first | rfl | (simp only [*, Bool.false_and, Bool.true_and, Bool.and_false, Bool.and_true, Bool.true_or, Bool.false_or, Bool.or_true, Bool.or_false, Bool.not_true, Bool.not_false]; done) | (simp_all; done) | (simp_all; omega)⟩, rfl, rfl, rfl⟩
              · refine awp_drawc follows ?_
                refine dc_cons (DStep.q rfl (by exact (by first | exact opd_load1_ref rfl Tryz.isAgg3 rfl rfl rfl rfl rfl | exact opd_load1_pad rfl Tryz.isAgg3 rfl (by first | omega | assumption) rfl))) rfl ?_
                refine dc_cons (DStep.q rfl (by exact opd_move rfl rfl)) rfl ?_
                refine dc_cons (DStep.q rfl (by exact opd_leq rfl rfl rfl)) rfl ?_
                refine dc_cons (DStep.q rfl (by exact opd_move rfl rfl)) rfl ?_
                refine dc_cons (q_on_f rfl rfl rfl (by first | rfl | assumption) (by exact (by first | exact opd_load1_ref rfl Tryz.isAgg3 rfl rfl rfl rfl rfl | exact opd_load1_pad rfl Tryz.isAgg3 rfl (by first | omega | assumption) rfl))) rfl ?_
                refine dc_cons (q_on_f rfl rfl rfl (by first | rfl | assumption) (by exact (by first | exact opd_load1_ref rfl Tryz.isAgg25 rfl rfl rfl rfl rfl | exact opd_load1_pad rfl Tryz.isAgg25 rfl (by first | omega | assumption) rfl))) rfl ?_
                refine dc_cons (q_on_f rfl rfl rfl (by first | rfl | assumption) (by exact (by first | exact opd_len_sl rfl Tryz.underlying25 rfl | exact opd_len_osl rfl Tryz.underlying25 rfl rfl rfl))) rfl ?_
                refine dc_cons (q_on_f rfl rfl rfl (by first | rfl | assumption) (by exact opd_geq rfl rfl rfl)) rfl ?_
                refine dc_cons (DStep.q rfl (by exact (by first | exact opd_pick_t rfl rfl rfl | exact opd_pick_f rfl rfl rfl | exact opd_pickt rfl rfl (by assumption) rfl | exact opd_pickf rfl rfl (by assumption) rfl | exact opd_pick rfl rfl rfl))) rfl ?_
                refine dc_cons (DStep.q rfl (by exact opd_move rfl rfl)) rfl ?_
                refine dc_cons (q_on_f rfl rfl rfl (by first | rfl | assumption) (by exact (by first | exact opd_field_ref rfl fo92_1 rfl rfl rfl rfl | exact opd_field_pad rfl fo92_1 rfl rfl))) rfl ?_
                refine dc_cons (q_on_f rfl rfl rfl (by first | rfl | assumption) (by exact (by first | exact opd_load1_ref rfl Tryz.isAgg52 rfl rfl rfl rfl rfl | exact opd_load1_pad rfl Tryz.isAgg52 rfl (by first | omega | assumption) rfl))) rfl ?_
                refine dc_cons (q_on_f rfl rfl rfl (by first | rfl | assumption) (by exact (by first | exact opd_loadn_ref rfl Tryz.isAgg24 Tryz.sizeOf24 rfl rfl rfl rfl (by simp only [List.drop_succ_cons, List.drop_zero, List.take_succ_cons, List.take_zero, List.take_nil, List.map_cons, List.map_nil, List.set_cons_zero, List.set_cons_succ, List.cons_append, List.nil_append, encTag, encObj, encEdit]; rfl) rfl | exact opd_loadn_pad rfl Tryz.isAgg24 Tryz.sizeOf24 rfl (by first | omega | assumption) (by simp only [List.drop_succ_cons, List.drop_zero, List.take_succ_cons, List.take_zero, List.take_nil, List.map_cons, List.map_nil, List.set_cons_zero, List.set_cons_succ, List.cons_append, List.nil_append, encTag, encObj, encEdit]; rfl) rfl))) rfl ?_
                refine dc_cons (q_on_f rfl rfl rfl (by first | rfl | assumption) (by exact (by first | exact opd_load1_ref rfl Tryz.isAgg25 rfl rfl rfl rfl rfl | exact opd_load1_pad rfl Tryz.isAgg25 rfl (by first | omega | assumption) rfl))) rfl ?_
                refine dc_cons (q_on_f rfl rfl rfl (by first | rfl | assumption) (by exact (by first | exact opd_load1_ref rfl Tryz.isAgg3 rfl rfl rfl rfl rfl | exact opd_load1_pad rfl Tryz.isAgg3 rfl (by first | omega | assumption) rfl))) rfl ?_
                refine dc_cons (q_on_f rfl rfl rfl (by first | rfl | assumption) (by exact (by first | exact x_index_pad rfl so25 rfl rfl (by omega) (by first | exact Int.toNat_natCast _ | rfl) (by assumption) rfl | exact x_index_osl rfl so25 rfl rfl rfl rfl rfl (by omega) (by first | exact Int.toNat_natCast _ | rfl) (by first | omega | assumption) rfl))) rfl ?_
                refine dc_cons (q_on_f rfl rfl rfl (by first | rfl | assumption) (by exact (by first | exact opd_loadn_ref rfl Tryz.isAgg44 Tryz.sizeOf44 rfl rfl rfl rfl (by simp only [List.drop_succ_cons, List.drop_zero, List.take_succ_cons, List.take_zero, List.take_nil, List.map_cons, List.map_nil, List.set_cons_zero, List.set_cons_succ, List.cons_append, List.nil_append, encTag, encObj, encEdit]; rfl) rfl | exact opd_loadn_pad rfl Tryz.isAgg44 Tryz.sizeOf44 rfl (by first | omega | assumption) (by simp only [List.drop_succ_cons, List.drop_zero, List.take_succ_cons, List.take_zero, List.take_nil, List.map_cons, List.map_nil, List.set_cons_zero, List.set_cons_succ, List.cons_append, List.nil_append, encTag, encObj, encEdit]; rfl) rfl))) rfl ?_
                refine dc_cons (q_on_f rfl rfl rfl (by first | rfl | assumption) (by exact opr_callV rfl rfl rfl (hshows _))) rfl ?_
                refine dc_cons (q_on_f rfl rfl rfl (by first | rfl | assumption) (by exact opd_not rfl rfl)) rfl ?_
                refine dc_cons (DStep.q rfl (by exact (by first | exact opd_pick_t rfl rfl rfl | exact opd_pick_f rfl rfl rfl | exact opd_pickt rfl rfl (by assumption) rfl | exact opd_pickf rfl rfl (by assumption) rfl | exact opd_pick rfl rfl rfl))) rfl ?_
                refine dc_cons (DStep.q rfl (by exact opd_move rfl rfl)) rfl ?_
                refine dc_cons (q_off_f rfl rfl rfl (by first | rfl | assumption)) rfl ?_
                refine dc_cons (q_off_f rfl rfl rfl (by first | rfl | assumption)) rfl ?_
                refine dc_cons (q_off_f rfl rfl rfl (by first | rfl | assumption)) rfl ?_
                refine dc_cons (DStep.q rfl (by exact (by first | exact opd_pick_t rfl rfl rfl | exact opd_pick_f rfl rfl rfl | exact opd_pickt rfl rfl (by assumption) rfl | exact opd_pickf rfl rfl (by assumption) rfl | exact opd_pick rfl rfl rfl))) rfl ?_
                refine dc_nil ⟨by kernel_rfl, ?_⟩
                exact ⟨rfl, ⟨_, rfl, by first | rfl | (simp only [*, Bool.false_and, Bool.true_and, Bool.and_false, Bool.and_true, Bool.true_or, Bool.false_or, Bool.or_true, Bool.or_false, Bool.not_true, Bool.not_false]; done) | (simp_all; done) | (simp_all; omega)⟩, rfl, rfl, rfl⟩
            refine awp_cond rfl (fun hc7 => ?_) (fun hc7 => ?_)
            -- cond 7
            · skip
              refine awp_seq ?_
              refine awp_region ?_
              refine al_d rfl rfl rfl (by exact opd_assign rfl rfl) ?_
              refine al_nil ?_
              refine awp_ret ?_
              -- return
              refine aret1 (H' := []) (by first | exact .inr rfl | exact .inl rfl) rfl (rval_tmp rfl) (Fin.wk (by simp) trivial trivial) ?_
              exact ⟨by rw [hinv, gAccLoop_go (by omega) hp]; revert hc7; cases gShows k m y <;> cases sh.any (fun x => !gTog k x y) <;> simp, rfl⟩
            · have hh : gShows k m y = true ∧ sh.any (fun x => !gTog k x y) = false := by
                revert hc7; cases gShows k m y <;> cases sh.any (fun x => !gTog k x y) <;> simp
              rw [gAccLoop_go (by omega) hp, hh.1, hh.2] at hinv
              refine awp_skip ?_
              refine awp_drawc follows ?_
              refine dc_cons (r := ⟨_, some [9], []⟩) (DStep.plain rfl (fun H1 hH => by exact opd_move rfl rfl)) rfl ?_
              refine dc_cons (r := ⟨_, some [4], []⟩) (DStep.plain rfl (fun H1 hH => by exact (by first | exact opd_load1_ref rfl Tryz.isAgg25 rfl ((hH _ rfl).trans rfl) rfl rfl rfl | exact opd_load1_pad rfl Tryz.isAgg25 rfl (by first | omega | assumption) rfl))) rfl ?_
              refine dc_cons (r := ⟨_, some [12], []⟩) (DStep.plain rfl (fun H1 hH => by exact (by first | exact opd_load1_ref rfl Tryz.isAgg3 rfl ((hH _ rfl).trans rfl) rfl rfl rfl | exact opd_load1_pad rfl Tryz.isAgg3 rfl (by first | omega | assumption) rfl))) rfl ?_
              refine dc_cons (r := ⟨_, some [], []⟩) (DStep.plain rfl (fun H1 hH => by exact (by first | exact x_index_pad rfl so25 rfl rfl (by omega) (by first | exact Int.toNat_natCast _ | rfl) (by assumption) rfl | exact x_index_osl rfl so25 rfl ((hH _ rfl).trans rfl) rfl rfl rfl (by omega) (by first | exact Int.toNat_natCast _ | rfl) (by first | omega | assumption) rfl))) rfl ?_
              refine dc_cons (r := ⟨_, some [], []⟩) (DStep.plain rfl (fun H1 hH => by exact (by first | exact opd_loadn_ref rfl Tryz.isAgg44 Tryz.sizeOf44 rfl ((hH _ rfl).trans rfl) rfl rfl (by simp only [List.drop_succ_cons, List.drop_zero, List.take_succ_cons, List.take_zero, List.take_nil, List.map_cons, List.map_nil, List.set_cons_zero, List.set_cons_succ, List.cons_append, List.nil_append, encTag, encObj, encEdit]; rfl) rfl | exact opd_loadn_pad rfl Tryz.isAgg44 Tryz.sizeOf44 rfl (by first | omega | assumption) (by simp only [List.drop_succ_cons, List.drop_zero, List.take_succ_cons, List.take_zero, List.take_nil, List.map_cons, List.map_nil, List.set_cons_zero, List.set_cons_succ, List.cons_append, List.nil_append, encTag, encObj, encEdit]; rfl) rfl))) rfl ?_
              refine dc_cons (r := ⟨_, some [], []⟩) (DStep.plain rfl (fun H1 hH => by exact x_buildSlice [encEdit y] rfl so25 rfl rfl rfl rfl rfl (by simp [encEdit]))) rfl ?_
              refine dc_cons (r := ⟨_, some [9], [_]⟩) (DStep.plain rfl (fun H1 hH => by exact (by first | exact x_append rfl so25 ei44 rfl ((hH _ rfl).trans rfl) rfl rfl rfl (List.length_map _) rfl (by simp [encEdit]) (rfl : _ = 1) (by omega) (len_snoc sh y) (List.map_append (l₂ := [y])).symm | exact x_append_osl rfl so25 ei44 rfl ((hH _ rfl).trans rfl) rfl rfl rfl (List.length_map _) rfl ((hH _ rfl).trans rfl) rfl rfl (by simp [encEdit]) (rfl : _ = 1) (by omega) (len_snoc sh y) (List.map_append (l₂ := [y])).symm))) rfl ?_
              refine dc_cons (r := ⟨_, some [12], []⟩) (DStep.plain rfl (fun H1 hH => by exact (by first | exact opd_load1_ref rfl Tryz.isAgg3 rfl ((hH _ rfl).trans rfl) rfl rfl rfl | exact opd_load1_pad rfl Tryz.isAgg3 rfl (by first | omega | assumption) rfl))) rfl ?_
              refine dc_cons (r := ⟨_, some [9], []⟩) (DStep.plain rfl (fun H1 hH => by exact opd_assign rfl rfl)) rfl ?_
              refine dc_cons (r := ⟨_, some [], []⟩) (DStep.plain rfl (fun H1 hH => by exact opd_assign rfl rfl)) rfl ?_
              refine dc_nil ⟨by kernel_rfl, ?_⟩
              refine awp_region ?_
              refine al_d rfl rfl rfl (by exact opd_add rfl rfl rfl (by first | exact w64 (by omega) (by omega) | exact wu8 (by omega) (by omega) | rfl)) ?_
              refine al_d rfl rfl rfl (by exact opd_move rfl rfl) ?_
              refine al_nil ?_
              -- end of a round
              refine ⟨j + 1, sh ++ [y], (p : Int), g + 1, ⟨by omega, by simp; omega, by omega, ?_, by simpa using hinv⟩, by omega, ?_⟩
              · intro x hx
                rcases List.mem_append.1 hx with h | h
                · exact htg x h
                · rw [List.mem_singleton] at h; subst h; exact hyt
              · exact (Ent.wk ⟨⟨_, rfl, rfl⟩, (by first | (simp; done) | (simp; rfl) | exact clo_map _ _ _), ⟨_, rfl, rfl⟩, (by first | (simp; done) | (simp; rfl) | exact clo_map _ _ _), ⟨_, rfl, rfl⟩, (by first | (simp; done) | (simp; rfl) | exact clo_map _ _ _), ⟨_, rfl, rfl⟩, (by first | (simp; done) | (simp; rfl) | exact clo_map _ _ _), ⟨_, rfl, rfl⟩, (by first | (simp; done) | (simp; rfl) | exact clo_map _ _ _), ⟨_, rfl, rfl⟩, (by first | (simp; done) | (simp; rfl) | exact clo_map _ _ _), ⟨_, rfl, rfl⟩, (by first | (simp; done) | (simp; rfl) | exact clo_map _ _ _), ⟨_, rfl, rfl⟩, (by first | (simp; done) | (simp; rfl) | exact clo_map _ _ _), ⟨_, rfl, rfl⟩, (by first | (simp; done) | (simp; rfl) | exact clo_map _ _ _), trivial⟩ ⟨⟨_, rfl, rfl⟩, (by first | (simp; done) | (simp; rfl) | exact clo_map _ _ _), ⟨_, rfl, rfl⟩, (by first | (simp; done) | (simp; rfl) | exact clo_map _ _ _), ⟨_, rfl, rfl⟩, (by first | (simp; done) | (simp; rfl) | exact clo_map _ _ _), ⟨_, rfl, rfl⟩, (by first | (simp; done) | (simp; rfl) | exact clo_map _ _ _), ⟨_, rfl, rfl⟩, (by first | (simp; done) | (simp; rfl) | exact clo_map _ _ _), trivial⟩ trivial)
        · have hge : j = idx.length := by
            have : idx.length ≤ j := by simpa using hc4
            omega
          subst hge
          have hinv' : gAccLoop k m l idx [] (-1) = true := by rw [hinv]; simp [gAccLoop]
          rw [hinv', Bool.true_and]
          have hcn : l.countP gDrop ≤ l.length := List.countP_le_length
          refine awp_exit ?_
          refine awp_seq ?_
          refine awp_region ?_
          refine al_d rfl rfl rfl (by exact opd_assign rfl rfl) ?_
          refine al_nil ?_
          refine awp_seq ?_
          refine awp_seq ?_
          refine awp_region ?_
          refine al_d rfl rfl rfl (by exact (by first | exact opd_load1_ref rfl Tryz.isAgg25 rfl rfl rfl rfl rfl | exact opd_load1_pad rfl Tryz.isAgg25 rfl (by first | omega | assumption) rfl)) ?_
          refine al_d rfl rfl rfl (by exact (by first | exact opd_len_sl rfl Tryz.underlying25 rfl | exact opd_len_osl rfl Tryz.underlying25 rfl rfl rfl)) ?_
          refine al_d rfl rfl rfl (by exact opd_move rfl rfl) ?_
          refine al_nil ?_
          refine awp_block ?_
          -- loop
          refine awp_loop (σ := Nat) (fun q => ([(4, .ref 4 0 0 0), (5, .ref 5 0 0 0), (13, iv ((l.take q).countP gDrop : Nat)), (89, .pv (slEdits l)), (90, iv (l.map encEdit).length), (91, iv (q : Int))], [(5, bx 2 31 [iv (k : Int), .pv (slInts idx)]), (4, bx 1 25 [.pv (slEdits l)])]))
            (fun q => q ≤ l.length) (fun q => l.length - q) 0 (by omega) ?_ ?_
          · exact (Ent.wk ⟨⟨_, rfl, rfl⟩, (by first | (simp; done) | (simp; rfl) | exact clo_map _ _ _), ⟨_, rfl, rfl⟩, (by first | (simp; done) | (simp; rfl) | exact clo_map _ _ _), ⟨_, rfl, rfl⟩, (by first | (simp; done) | (simp; rfl) | exact clo_map _ _ _), ⟨_, rfl, rfl⟩, (by first | (simp; done) | (simp; rfl) | exact clo_map _ _ _), ⟨_, rfl, rfl⟩, (by first | (simp; done) | (simp; rfl) | exact clo_map _ _ _), ⟨_, rfl, rfl⟩, (by first | (simp; done) | (simp; rfl) | exact clo_map _ _ _), trivial⟩ ⟨⟨_, rfl, rfl⟩, (by first | (simp; done) | (simp; rfl) | exact clo_map _ _ _), ⟨_, rfl, rfl⟩, (by first | (simp; done) | (simp; rfl) | exact clo_map _ _ _), trivial⟩ trivial)
          · intro q hq
            have hcq : (l.take q).countP gDrop ≤ q := Nat.le_trans List.countP_le_length (by simp; omega)
            refine awp_seq ?_
            refine awp_region ?_
            refine al_d rfl rfl rfl (by exact opd_lss rfl rfl rfl) ?_
            refine al_nil ?_
            refine awp_seq ?_
            refine awp_cond rfl (fun hc8 => ?_) (fun hc8 => ?_)
            -- cond 8
            · have hlt : q < l.length := by simpa using hc8
              obtain ⟨y, hy⟩ := get_of_lt hlt
              have hye := map_get (f := encEdit) hy
              have hnext := countP_take gDrop hy
              refine awp_skip ?_
              refine awp_seq ?_
              refine awp_block ?_
              refine awp_seq ?_
              refine awp_region ?_
              refine al_d rfl rfl rfl (by exact (by first | exact x_index_pad rfl so25 rfl rfl (by omega) (by first | exact Int.toNat_natCast _ | rfl) (by assumption) rfl | exact x_index_osl rfl so25 rfl rfl rfl rfl rfl (by omega) (by first | exact Int.toNat_natCast _ | rfl) (by first | omega | assumption) rfl)) ?_
              refine al_d rfl rfl rfl (by exact (by first | exact opd_loadn_ref rfl Tryz.isAgg44 Tryz.sizeOf44 rfl rfl rfl rfl (by simp only [List.drop_succ_cons, List.drop_zero, List.take_succ_cons, List.take_zero, List.take_nil, List.map_cons, List.map_nil, List.set_cons_zero, List.set_cons_succ, List.cons_append, List.nil_append, encTag, encObj, encEdit]; rfl) rfl | exact opd_loadn_pad rfl Tryz.isAgg44 Tryz.sizeOf44 rfl (by first | omega | assumption) (by simp only [List.drop_succ_cons, List.drop_zero, List.take_succ_cons, List.take_zero, List.take_nil, List.map_cons, List.map_nil, List.set_cons_zero, List.set_cons_succ, List.cons_append, List.nil_append, encTag, encObj, encEdit]; rfl) rfl)) ?_
              refine al_d rfl rfl rfl (by exact x_alloc (id := 15) rfl zo44 rfl rfl) ?_
              refine al_n rfl rfl (by exact (by first | exact x_store_all rfl Tryz.sizeOf44 rfl rfl rfl rfl rfl rfl rfl rfl | exact x_store rfl Tryz.sizeOf44 rfl rfl rfl rfl rfl rfl rfl (by simp only [List.length_cons, List.length_nil]; omega) (by simp only [List.drop_succ_cons, List.drop_zero, List.take_succ_cons, List.take_zero, List.take_nil, List.map_cons, List.map_nil, List.set_cons_zero, List.set_cons_succ, List.cons_append, List.nil_append, encTag, encObj, encEdit]; rfl) (by simp only [List.drop_succ_cons, List.drop_zero, List.take_succ_cons, List.take_zero, List.take_nil, List.map_cons, List.map_nil, List.set_cons_zero, List.set_cons_succ, List.cons_append, List.nil_append, encTag, encObj, encEdit]; rfl) | exact x_store rfl Tryz.sizeOf44 rfl rfl rfl rfl rfl rfl rfl (Nat.le_of_ble_eq_true rfl) rfl rfl)) ?_
              refine al_nil ?_
              refine awp_seq ?_
              refine awp_region ?_
              refine al_d rfl rfl rfl (by exact (by first | exact opd_field_ref rfl fo44_0 rfl rfl rfl rfl | exact opd_field_pad rfl fo44_0 rfl rfl)) ?_
              refine al_d rfl rfl rfl (by exact (by first | exact opd_load1_ref rfl Tryz.isAgg3 rfl rfl rfl rfl rfl | exact opd_load1_pad rfl Tryz.isAgg3 rfl (by first | omega | assumption) rfl)) ?_
              refine al_d rfl rfl rfl (by exact opd_eql rfl rfl rfl) ?_
              refine al_nil ?_
              refine awp_cond rfl (fun hc9 => ?_) (fun hc9 => ?_)
              -- cond 9
              · have hd : gDrop y = true := hc9
                rw [hd, if_pos rfl] at hnext
                refine awp_region ?_
                refine al_d rfl rfl rfl (by exact opd_move rfl rfl) ?_
                refine al_d rfl rfl rfl (by exact opd_add rfl rfl rfl (by first | exact w64 (by omega) (by omega) | exact wu8 (by omega) (by omega) | rfl)) ?_
                refine al_d rfl rfl rfl (by exact opd_assign rfl rfl) ?_
                refine al_nil ?_
                refine awp_region ?_
                refine al_d rfl rfl rfl (by exact opd_add rfl rfl rfl (by first | exact w64 (by omega) (by omega) | exact wu8 (by omega) (by omega) | rfl)) ?_
                refine al_d rfl rfl rfl (by exact opd_move rfl rfl) ?_
                refine al_nil ?_
                -- end of a round
                refine ⟨q + 1, by omega, by omega, ?_⟩
                rw [hnext]
                exact (Ent.wk ⟨⟨_, rfl, rfl⟩, (by first | (simp; done) | (simp; rfl) | exact clo_map _ _ _), ⟨_, rfl, rfl⟩, (by first | (simp; done) | (simp; rfl) | exact clo_map _ _ _), ⟨_, rfl, rfl⟩, (by first | (simp; done) | (simp; rfl) | exact clo_map _ _ _), ⟨_, rfl, rfl⟩, (by first | (simp; done) | (simp; rfl) | exact clo_map _ _ _), ⟨_, rfl, rfl⟩, (by first | (simp; done) | (simp; rfl) | exact clo_map _ _ _), ⟨_, rfl, rfl⟩, (by first | (simp; done) | (simp; rfl) | exact clo_map _ _ _), trivial⟩ ⟨⟨_, rfl, rfl⟩, (by first | (simp; done) | (simp; rfl) | exact clo_map _ _ _), ⟨_, rfl, rfl⟩, (by first | (simp; done) | (simp; rfl) | exact clo_map _ _ _), trivial⟩ trivial)
              · have hd : gDrop y = false := hc9
                rw [hd] at hnext
                simp only [Bool.false_eq_true, if_false, Nat.add_zero] at hnext
                refine awp_skip ?_
                refine awp_region ?_
                refine al_d rfl rfl rfl (by exact opd_add rfl rfl rfl (by first | exact w64 (by omega) (by omega) | exact wu8 (by omega) (by omega) | rfl)) ?_
                refine al_d rfl rfl rfl (by exact opd_move rfl rfl) ?_
                refine al_nil ?_
                -- end of a round
                refine ⟨q + 1, by omega, by omega, ?_⟩
                rw [hnext]
                exact (Ent.wk ⟨⟨_, rfl, rfl⟩, (by first | (simp; done) | (simp; rfl) | exact clo_map _ _ _), ⟨_, rfl, rfl⟩, (by first | (simp; done) | (simp; rfl) | exact clo_map _ _ _), ⟨_, rfl, rfl⟩, (by first | (simp; done) | (simp; rfl) | exact clo_map _ _ _), ⟨_, rfl, rfl⟩, (by first | (simp; done) | (simp; rfl) | exact clo_map _ _ _), ⟨_, rfl, rfl⟩, (by first | (simp; done) | (simp; rfl) | exact clo_map _ _ _), ⟨_, rfl, rfl⟩, (by first | (simp; done) | (simp; rfl) | exact clo_map _ _ _), trivial⟩ ⟨⟨_, rfl, rfl⟩, (by first | (simp; done) | (simp; rfl) | exact clo_map _ _ _), ⟨_, rfl, rfl⟩, (by first | (simp; done) | (simp; rfl) | exact clo_map _ _ _), trivial⟩ trivial)
            · have hge : q = l.length := by
                have : l.length ≤ q := by simpa using hc8
                omega
              subst hge
              rw [List.take_length]
              have hml : (l.map encEdit).length = l.length := List.length_map _
              refine awp_exit ?_
              refine awp_seq ?_
              refine awp_bool (t := 6) (n := 13) (X := !decide ((k : Int) = 1) || decide ((l.length : Int) - (l.countP gDrop : Nat) < (l.countP gDrop : Nat))) ?_ ?_
              · all_goals (refine al_d rfl rfl rfl (by exact (by first | exact opd_field_ref rfl fo31_0 rfl rfl rfl rfl | exact opd_field_pad rfl fo31_0 rfl rfl)) ?_)
                all_goals (refine al_d rfl rfl rfl (by exact (by first | exact opd_load1_ref rfl Tryz.isAgg3 rfl rfl rfl rfl rfl | exact opd_load1_pad rfl Tryz.isAgg3 rfl (by first | omega | assumption) rfl)) ?_)
                all_goals (refine al_d rfl rfl rfl (by exact opd_neq rfl rfl rfl) ?_)
                all_goals (refine al_d rfl rfl rfl (by exact opd_move rfl rfl) ?_)
                all_goals (first | refine al_split (t := 104) rfl (fun h104 => ?_) (fun h104 => ?_) | refine al_dup (t := 104) rfl ?_ | skip)
                all_goals (try contradiction)
                all_goals (first | refine al_off rfl rfl rfl rfl rfl ?_ | refine al_offu rfl rfl rfl rfl ?_ | refine al_ond rfl rfl rfl rfl rfl rfl (by exact opd_move rfl rfl) ?_)
                all_goals (first | refine al_off rfl rfl rfl rfl rfl ?_ | refine al_offu rfl rfl rfl rfl ?_ | refine al_ond rfl rfl rfl rfl rfl rfl (by exact (by first | exact opd_load1_ref rfl Tryz.isAgg25 rfl rfl rfl rfl rfl | exact opd_load1_pad rfl Tryz.isAgg25 rfl (by first | omega | assumption) rfl)) ?_)
                all_goals (first | refine al_off rfl rfl rfl rfl rfl ?_ | refine al_offu rfl rfl rfl rfl ?_ | refine al_ond rfl rfl rfl rfl rfl rfl (by exact (by first | exact opd_len_sl rfl Tryz.underlying25 rfl | exact opd_len_osl rfl Tryz.underlying25 rfl rfl rfl)) ?_)
                all_goals (first | refine al_off rfl rfl rfl rfl rfl ?_ | refine al_offu rfl rfl rfl rfl ?_ | refine al_ond rfl rfl rfl rfl rfl rfl (by exact opd_move rfl rfl) ?_)
                all_goals (first | refine al_off rfl rfl rfl rfl rfl ?_ | refine al_offu rfl rfl rfl rfl ?_ | refine al_ond rfl rfl rfl rfl rfl rfl (by exact opd_sub rfl rfl rfl (by first | exact w64 (by omega) (by omega) | exact wu8 (by omega) (by omega) | rfl)) ?_)
                all_goals (first | refine al_off rfl rfl rfl rfl rfl ?_ | refine al_offu rfl rfl rfl rfl ?_ | refine al_ond rfl rfl rfl rfl rfl rfl (by exact opd_gtr rfl rfl rfl) ?_)
                all_goals (refine al_d rfl rfl rfl (by exact (by first | exact opd_pick_t rfl rfl rfl | exact opd_pick_f rfl rfl rfl | exact opd_pickt rfl rfl (by assumption) rfl | exact opd_pickf rfl rfl (by assumption) rfl | exact opd_pick rfl rfl rfl)) ?_)
                all_goals (refine al_d rfl rfl rfl (by exact opd_assign rfl rfl) ?_)
                all_goals (refine al_nil ?_)
                all_goals (exact ⟨⟨_, rfl, by first | rfl | (simp only [*, Bool.false_and, Bool.true_and, Bool.and_false, Bool.and_true, Bool.true_or, Bool.false_or, Bool.or_true, Bool.or_false, Bool.not_true, Bool.not_false]; done) | (simp_all; done) | (simp_all; omega)⟩, rfl, rfl, rfl⟩)
              refine awp_ret ?_
              -- return
              refine aret1 (H' := []) (by first | exact .inr rfl | exact .inl rfl) rfl (rval_tmp rfl) (Fin.wk (by simp) trivial trivial) ?_
              exact ⟨rfl, rfl⟩
end Go.Proofs.YtdgoodjhndeojaaGreat
end
