/-
  CONTRACTS: view.Of, Common, Disputed; the law's ids, without. Conditions: lengths below 2^40.
-/
import Derived.Test.YtdgoodjhndeojaaE14
set_option linter.unusedVariables false
set_option linter.unusedSimpArgs false
set_option maxRecDepth 100000
namespace Go.Proofs.Ytdgoodjhndeojaa
open Go.Abs
theorem of1_c (s : ByteArray) (b : Bool) (v : ByteArray) (H : Heap) (T : Nat) (h3 : H.get 3 = some (bx 1 T [sv v])) : ACalls Try.prog 47 [sv s, bv b, .ref 3 0 0 0] H (fun r H' => r = bv (!b || decide (s = v)) ∧ H' = H) := by
  refine ACalls.body Try.func47 rfl Try.ntmps47 (Nat.le_of_ble_eq_true rfl) ?_
  refine awp_seq ?_
  refine awp_region ?_
  refine al_d rfl rfl rfl (by exact opd_assign rfl rfl) ?_
  refine al_nil ?_
  refine awp_seq ?_
  refine awp_bool (t := 5) (n := 9) (X := !b || decide (s = v)) ?_ ?_
  · all_goals (refine al_d rfl rfl rfl (by exact opd_move rfl rfl) ?_)
    all_goals (refine al_d rfl rfl rfl (by exact opd_not rfl rfl) ?_)
    all_goals (refine al_d rfl rfl rfl (by exact opd_move rfl rfl) ?_)
    all_goals (first | refine al_split (t := 8) rfl (fun h8 => ?_) (fun h8 => ?_) | refine al_dup (t := 8) rfl ?_ | skip)
    all_goals (try contradiction)
    all_goals (first | refine al_off rfl rfl rfl rfl rfl ?_ | refine al_offu rfl rfl rfl rfl ?_ | refine al_ond rfl rfl rfl rfl rfl rfl (by exact opd_move rfl rfl) ?_)
    all_goals (first | refine al_off rfl rfl rfl rfl rfl ?_ | refine al_offu rfl rfl rfl rfl ?_ | refine al_ond rfl rfl rfl rfl rfl rfl (by exact opd_load1_ref rfl Try.isAgg9 rfl h3 rfl rfl rfl) ?_)
    all_goals (first | refine al_off rfl rfl rfl rfl rfl ?_ | refine al_offu rfl rfl rfl rfl ?_ | refine al_ond rfl rfl rfl rfl rfl rfl (by exact opd_seql rfl rfl rfl) ?_)
    all_goals (refine al_d rfl rfl rfl (by exact (by first | exact opd_pick_t rfl rfl rfl | exact opd_pick_f rfl rfl rfl | exact opd_pickt rfl rfl (by assumption) rfl | exact opd_pickf rfl rfl (by assumption) rfl | exact opd_pick rfl rfl rfl)) ?_)
    all_goals (refine al_d rfl rfl rfl (by exact opd_assign rfl rfl) ?_)
    all_goals (refine al_nil ?_)
    all_goals (exact ⟨⟨_, rfl, by first | rfl | (simp only [*, Bool.false_and, Bool.true_and, Bool.and_false, Bool.and_true, Bool.true_or, Bool.false_or, Bool.or_true, Bool.or_false, Bool.not_true, Bool.not_false]; done) | (simp_all; done) | (simp_all; omega)⟩, rfl, rfl, rfl⟩)
  refine awp_ret ?_
  -- return
  exact aret1 (H' := H) (.inr rfl) rfl (rval_tmp rfl) Fin.refl ⟨rfl, rfl⟩
theorem clear_low {K : Heap} (h : ∀ p ∈ K, p.1 < 900) : clear K := fun i h1 h2 => by
  cases e : K.get i with
  | none => rfl
  | some o => have := h _ (mem_of_hget e); simp only at this; omega
theorem of_c (m : List GObj) (v : ByteArray) (H : Heap) (hm : okM m) (hl : m.length < 1099511627776) : ACalls Try.prog 16 [.agg [.pv (slObjs m)], sv v] H (fun r H' => r = .agg [.pv (slObjs (gOf m v))] ∧ H' = H) := by
  refine ACalls.pure ?_ (by simp) H
  have hw : ∀ o, o ∈ m → ∀ D, lo D 930 → Closed (D ++ [(4, bx 1 24 [lv []]), (3, bx 1 9 [sv v]), (2, bx 1 24 [.pv (slObjs m)])]) → CallsV Try.prog (.clo 47 [.ref 3 0 0 0]) [sv (ownS o), bv (ownB o)] (D ++ [(4, bx 1 24 [lv []]), (3, bx 1 9 [sv v]), (2, bx 1 24 [.pv (slObjs m)])])
      (fun r H' => r = bv (inView v o) ∧ H' = D ++ [(4, bx 1 24 [lv []]), (3, bx 1 9 [sv v]), (2, bx 1 24 [.pv (slObjs m)])]) := fun o ho D hD _ =>
    CallsV.clo Try.call47 (of1_c _ _ v _ 9 (by rw [lo_app hD (.inl (by omega))]; rfl))
  refine ACalls.body Try.func16 rfl Try.ntmps16 (Nat.le_of_ble_eq_true rfl) ?_
  refine awp_seq ?_
  refine awp_region ?_
  refine al_d rfl rfl rfl (by exact opd_box (id := 2) rfl rfl rfl rfl rfl) ?_
  refine al_d rfl rfl rfl (by exact opd_box (id := 3) rfl rfl rfl rfl rfl) ?_
  refine al_d rfl rfl rfl (by exact x_alloc (id := 4) rfl zo24 rfl rfl) ?_
  refine al_nil ?_
  refine awp_seq ?_
  refine awp_region ?_
  refine al_d rfl rfl rfl (by exact (by first | exact opd_loadn_ref rfl Try.isAgg24 Try.sizeOf24 rfl rfl rfl rfl (by simp only [List.drop_succ_cons, List.drop_zero, List.take_succ_cons, List.take_zero, List.take_nil, List.map_cons, List.map_nil, List.set_cons_zero, List.set_cons_succ, List.cons_append, List.nil_append, encTag, encObj]; rfl) rfl | exact opd_loadn_pad rfl Try.isAgg24 Try.sizeOf24 rfl (by first | omega | assumption) (by simp only [List.drop_succ_cons, List.drop_zero, List.take_succ_cons, List.take_zero, List.take_nil, List.map_cons, List.map_nil, List.set_cons_zero, List.set_cons_succ, List.cons_append, List.nil_append, encTag, encObj]; rfl) rfl)) ?_
  refine al_d rfl rfl rfl (by exact opd_makeFunc rfl rfl) ?_
  refine al_d rfl rfl rfl (by exact opr_call rfl rfl Try.call44 rfl (objects_c _ m (inView v) [(4, bx 1 24 [lv []]), (3, bx 1 9 [sv v]), (2, bx 1 24 [.pv (slObjs m)])] hm hl (clear_low (by simp)) (Closed.of (by simp)) (.clo (by intro a ha; simp only [List.reverse_cons, List.reverse_nil, List.nil_append, List.mem_singleton] at ha; subst ha; exact .ref rfl)) rfl hw)) ?_
  refine al_d rfl rfl rfl (by exact x_build rfl bo24 rfl rfl) ?_
  refine al_n rfl rfl (by exact (by first | exact x_store_all rfl Try.sizeOf24 rfl rfl rfl rfl rfl rfl rfl rfl | exact x_store1 rfl Try.sizeOf24 rfl rfl rfl rfl rfl rfl (by simp only [List.length_cons, List.length_nil]; omega) (by simp only [List.drop_succ_cons, List.drop_zero, List.take_succ_cons, List.take_zero, List.take_nil, List.map_cons, List.map_nil, List.set_cons_zero, List.set_cons_succ, List.cons_append, List.nil_append, encTag, encObj]; rfl) (by simp only [List.drop_succ_cons, List.drop_zero, List.take_succ_cons, List.take_zero, List.take_nil, List.map_cons, List.map_nil, List.set_cons_zero, List.set_cons_succ, List.cons_append, List.nil_append, encTag, encObj]; rfl))) ?_
  refine al_nil ?_
  refine awp_ret ?_
  -- return
  refine aret1 (H' := []) (by first | exact .inr rfl | exact .inl rfl) rfl (rval_cell rfl Try.isAgg24 Try.sizeOf24 rfl rfl rfl (by simp only [List.drop_succ_cons, List.drop_zero, List.take_succ_cons, List.take_zero, List.take_nil, List.map_cons, List.map_nil, List.set_cons_zero, List.set_cons_succ, List.cons_append, List.nil_append, encTag, encObj]; rfl) rfl) (Fin.wk (r := .agg [.pv (slObjs (gOf m v))]) (by simp) trivial trivial) ?_
  exact ⟨rfl, rfl⟩
theorem common_c (m : List GObj) (H : Heap) (hm : okM m) (hl : m.length < 1099511627776) : ACalls Try.prog 14 [.agg [.pv (slObjs m)]] H (fun r H' => r = .agg [.pv (slObjs (gCommon m))] ∧ H' = H) := by
  refine ACalls.pure ?_ (by simp) H
  have hw : ∀ o, o ∈ m → ∀ D, lo D 930 → Closed (D ++ [(2, bx 1 24 [lv []]), (1, bx 1 24 [.pv (slObjs m)])]) → CallsV Try.prog (.pv (.fn 45)) [sv (ownS o), bv (ownB o)] (D ++ [(2, bx 1 24 [lv []]), (1, bx 1 24 [.pv (slObjs m)])])
      (fun r H' => r = bv (!ownB o) ∧ H' = D ++ [(2, bx 1 24 [lv []]), (1, bx 1 24 [.pv (slObjs m)])]) := fun o ho D hD _ =>
    CallsV.fn Try.call45 (common1_c _ _ _)
  refine ACalls.body Try.func14 rfl Try.ntmps14 (Nat.le_of_ble_eq_true rfl) ?_
  refine awp_seq ?_
  refine awp_region ?_
  refine al_d rfl rfl rfl (by exact opd_box (id := 1) rfl rfl rfl rfl rfl) ?_
  refine al_d rfl rfl rfl (by exact x_alloc (id := 2) rfl zo24 rfl rfl) ?_
  refine al_nil ?_
  refine awp_seq ?_
  refine awp_region ?_
  refine al_d rfl rfl rfl (by exact (by first | exact opd_loadn_ref rfl Try.isAgg24 Try.sizeOf24 rfl rfl rfl rfl (by simp only [List.drop_succ_cons, List.drop_zero, List.take_succ_cons, List.take_zero, List.take_nil, List.map_cons, List.map_nil, List.set_cons_zero, List.set_cons_succ, List.cons_append, List.nil_append, encTag, encObj]; rfl) rfl | exact opd_loadn_pad rfl Try.isAgg24 Try.sizeOf24 rfl (by first | omega | assumption) (by simp only [List.drop_succ_cons, List.drop_zero, List.take_succ_cons, List.take_zero, List.take_nil, List.map_cons, List.map_nil, List.set_cons_zero, List.set_cons_succ, List.cons_append, List.nil_append, encTag, encObj]; rfl) rfl)) ?_
  refine al_d rfl rfl rfl (by exact opr_call rfl rfl Try.call44 rfl (objects_c _ m (fun o => !ownB o) [(2, bx 1 24 [lv []]), (1, bx 1 24 [.pv (slObjs m)])] hm hl (clear_low (by simp)) (Closed.of (by simp)) (.pv _) rfl hw)) ?_
  refine al_d rfl rfl rfl (by exact x_build rfl bo24 rfl rfl) ?_
  refine al_n rfl rfl (by exact (by first | exact x_store_all rfl Try.sizeOf24 rfl rfl rfl rfl rfl rfl rfl rfl | exact x_store1 rfl Try.sizeOf24 rfl rfl rfl rfl rfl rfl (by simp only [List.length_cons, List.length_nil]; omega) (by simp only [List.drop_succ_cons, List.drop_zero, List.take_succ_cons, List.take_zero, List.take_nil, List.map_cons, List.map_nil, List.set_cons_zero, List.set_cons_succ, List.cons_append, List.nil_append, encTag, encObj]; rfl) (by simp only [List.drop_succ_cons, List.drop_zero, List.take_succ_cons, List.take_zero, List.take_nil, List.map_cons, List.map_nil, List.set_cons_zero, List.set_cons_succ, List.cons_append, List.nil_append, encTag, encObj]; rfl))) ?_
  refine al_nil ?_
  refine awp_ret ?_
  -- return
  refine aret1 (H' := []) (by first | exact .inr rfl | exact .inl rfl) rfl (rval_cell rfl Try.isAgg24 Try.sizeOf24 rfl rfl rfl (by simp only [List.drop_succ_cons, List.drop_zero, List.take_succ_cons, List.take_zero, List.take_nil, List.map_cons, List.map_nil, List.set_cons_zero, List.set_cons_succ, List.cons_append, List.nil_append, encTag, encObj]; rfl) rfl) (Fin.wk (r := .agg [.pv (slObjs (gCommon m))]) (by simp) trivial trivial) ?_
  exact ⟨rfl, rfl⟩
abbrev strR (l : List ByteArray) : List (List AV) := l.map (fun e => (encStr e).map .pv)
theorem gObjects_len (m : List GObj) (q : GObj → Bool) : (gObjects m q).length ≤ m.length := by
  rw [gObjects]; split
  · exact List.length_filter_le _ _
  · simp
theorem map_take {α β : Type} (f : α → β) {l : List α} {k : Nat} {a : α} (h : l[k]? = some a) : (l.take (k + 1)).map f = (l.take k).map f ++ [f a] := by
  rw [List.take_add_one, h, List.map_append]; rfl
theorem take_len {α : Type} {l : List α} {k : Nat} (h : k ≤ l.length) : (l.take k).length = k := by rw [List.length_take]; omega
theorem disputed_c (m : List GObj) (H : Heap) (hm : okM m) (hl : m.length < 1099511627776) : ACalls Try.prog 15 [.agg [.pv (slObjs m)]] H (fun r H' => r = .pv (slStrs (gDisp m)) ∧ H' = H) := by
  refine ACalls.pure ?_ (by simp) H
  have hw : ∀ o, o ∈ m → ∀ D, lo D 930 → Closed (D ++ [(3, ⟨0, 1, 9, []⟩), (1, bx 1 24 [.pv (slObjs m)])]) → CallsV Try.prog (.pv (.fn 46)) [sv (ownS o), bv (ownB o)] (D ++ [(3, ⟨0, 1, 9, []⟩), (1, bx 1 24 [.pv (slObjs m)])])
      (fun r H' => r = bv (ownB o) ∧ H' = D ++ [(3, ⟨0, 1, 9, []⟩), (1, bx 1 24 [.pv (slObjs m)])]) := fun o ho D hD _ =>
    CallsV.fn Try.call46 (disputed1_c _ _ _)
  refine ACalls.body Try.func15 rfl Try.ntmps15 (Nat.le_of_ble_eq_true rfl) ?_
  refine awp_seq ?_
  refine awp_region ?_
  refine al_d rfl rfl rfl (by exact opd_box (id := 1) rfl rfl rfl rfl rfl) ?_
  refine al_d rfl rfl rfl (by exact opd_assign rfl rfl) ?_
  refine al_nil ?_
  refine awp_seq ?_
  refine awp_region ?_
  refine al_d rfl rfl rfl (by exact opd_assign_own (id := 3) (sz := 1) (ty := 9) rfl rfl rfl) ?_
  refine al_nil ?_
  refine awp_seq ?_
  refine awp_seq ?_
  refine awp_region ?_
  refine al_d rfl rfl rfl (by exact (by first | exact opd_loadn_ref rfl Try.isAgg24 Try.sizeOf24 rfl rfl rfl rfl (by simp only [List.drop_succ_cons, List.drop_zero, List.take_succ_cons, List.take_zero, List.take_nil, List.map_cons, List.map_nil, List.set_cons_zero, List.set_cons_succ, List.cons_append, List.nil_append, encTag, encObj]; rfl) rfl | exact opd_loadn_pad rfl Try.isAgg24 Try.sizeOf24 rfl (by first | omega | assumption) (by simp only [List.drop_succ_cons, List.drop_zero, List.take_succ_cons, List.take_zero, List.take_nil, List.map_cons, List.map_nil, List.set_cons_zero, List.set_cons_succ, List.cons_append, List.nil_append, encTag, encObj]; rfl) rfl)) ?_
  refine al_d rfl rfl rfl (by exact opr_call rfl rfl Try.call44 rfl (objects_c _ m ownB [(3, ⟨0, 1, 9, []⟩), (1, bx 1 24 [.pv (slObjs m)])] hm hl (clear_low (by simp)) (Closed.of (by simp)) (.pv _) rfl hw)) ?_
  refine al_d rfl rfl rfl (by exact (by first | exact opd_len_sl rfl Try.underlying22 rfl | exact opd_len_osl rfl Try.underlying22 rfl rfl rfl)) ?_
  refine al_d rfl rfl rfl (by exact opd_move rfl rfl) ?_
  refine al_nil ?_
  refine awp_block ?_
  -- loop
  have hgl := gObjects_len m ownB
  rw [gDisp]
  generalize gObjects m ownB = l at hgl ⊢
  have hml : (l.map encObj).length = l.length := List.length_map _
  refine awp_loop2 (fun (k : Nat) (g : Nat) => ([(3, .osl 3 g 0 k), (7, .pv (slObjs l)), (8, iv ((l.map encObj).length : Int)), (9, iv (k : Int))], [(3, ⟨g, 1, 9, strR ((l.take k).map GObj.id)⟩)])) (fun k g => k ≤ l.length) (fun k g => l.length - k) 0 0 (by omega) ?_ ?_
  · exact (Ent.wk ⟨⟨_, rfl, rfl⟩, (by first | (simp; done) | (simp; rfl) | exact clo_map _ _ _), ⟨_, rfl, rfl⟩, (by first | (simp; done) | (simp; rfl) | exact clo_map _ _ _), ⟨_, rfl, rfl⟩, (by first | (simp; done) | (simp; rfl) | exact clo_map _ _ _), ⟨_, rfl, rfl⟩, (by first | (simp; done) | (simp; rfl) | exact clo_map _ _ _), trivial⟩ ⟨⟨_, rfl, rfl⟩, (by first | (simp; done) | (simp; rfl) | exact clo_map _ _ _), trivial⟩ trivial)
  · intro k g hk
    refine awp_seq ?_
    refine awp_region ?_
    refine al_d rfl rfl rfl (by exact opd_lss rfl rfl rfl) ?_
    refine al_nil ?_
    refine awp_seq ?_
    refine awp_cond rfl (fun hc1 => ?_) (fun hc1 => ?_)
    -- cond 1
    · have hlt : k < l.length := by have := of_decide_eq_true hc1; omega
      obtain ⟨o, ho⟩ := get_of_lt hlt
      have hi := map_get (f := encObj) ho
      have htl : ((l.take k).map GObj.id).length = k := by rw [List.length_map]; exact take_len hk
      refine awp_skip ?_
      refine awp_seq ?_
      refine awp_block ?_
      refine awp_seq ?_
      refine awp_region ?_
      refine al_d rfl rfl rfl (by exact (by first | exact x_index_pad rfl so22 rfl rfl (by omega) (by first | exact Int.toNat_natCast _ | rfl) (by assumption) rfl | exact x_index_osl rfl so22 rfl rfl rfl rfl rfl (by omega) (by first | exact Int.toNat_natCast _ | rfl) (by first | omega | assumption) rfl)) ?_
      refine al_d rfl rfl rfl (by exact (by first | exact opd_loadn_ref rfl Try.isAgg38 Try.sizeOf38 rfl rfl rfl rfl (by simp only [List.drop_succ_cons, List.drop_zero, List.take_succ_cons, List.take_zero, List.take_nil, List.map_cons, List.map_nil, List.set_cons_zero, List.set_cons_succ, List.cons_append, List.nil_append, encTag, encObj]; rfl) rfl | exact opd_loadn_pad rfl Try.isAgg38 Try.sizeOf38 rfl (by first | omega | assumption) (by simp only [List.drop_succ_cons, List.drop_zero, List.take_succ_cons, List.take_zero, List.take_nil, List.map_cons, List.map_nil, List.set_cons_zero, List.set_cons_succ, List.cons_append, List.nil_append, encTag, encObj]; rfl) rfl)) ?_
      refine al_d rfl rfl rfl (by exact x_alloc (id := 5) rfl zo38 rfl rfl) ?_
      refine al_n rfl rfl (by exact (by first | exact x_store_all rfl Try.sizeOf38 rfl rfl rfl rfl rfl rfl rfl rfl | exact x_store rfl Try.sizeOf38 rfl rfl rfl rfl rfl rfl rfl (by simp only [List.length_cons, List.length_nil]; omega) (by simp only [List.drop_succ_cons, List.drop_zero, List.take_succ_cons, List.take_zero, List.take_nil, List.map_cons, List.map_nil, List.set_cons_zero, List.set_cons_succ, List.cons_append, List.nil_append, encTag, encObj]; rfl) (by simp only [List.drop_succ_cons, List.drop_zero, List.take_succ_cons, List.take_zero, List.take_nil, List.map_cons, List.map_nil, List.set_cons_zero, List.set_cons_succ, List.cons_append, List.nil_append, encTag, encObj]; rfl))) ?_
      refine al_nil ?_
      refine awp_region ?_
      refine al_d rfl rfl rfl (by exact opd_move rfl rfl) ?_
      refine al_d rfl rfl rfl (by exact (by first | exact opd_field_ref rfl fo38_0 rfl rfl rfl rfl | exact opd_field_pad rfl fo38_0 rfl rfl)) ?_
      refine al_d rfl rfl rfl (by exact (by first | exact opd_load1_ref rfl Try.isAgg9 rfl rfl rfl rfl rfl | exact opd_load1_pad rfl Try.isAgg9 rfl (by first | omega | assumption) rfl)) ?_
      refine al_d rfl rfl rfl (by exact x_buildSlice [encStr o.id] rfl so28 rfl rfl rfl rfl rfl (by simp [encStr])) ?_
      refine al_d rfl rfl rfl (by exact (by first | exact x_append rfl so28 ei9 rfl rfl rfl rfl rfl (by rw [List.length_map]; exact htl) rfl (by simp [encStr]) (rfl : _ = 1) (by omega) (rfl : _ = k + 1) ((List.map_append (l₂ := [o.id])).symm) | exact x_append_osl rfl so28 ei9 rfl rfl rfl rfl rfl (by rw [List.length_map]; exact htl) rfl rfl rfl rfl (by simp [encStr]) (rfl : _ = 1) (by omega) (rfl : _ = k + 1) ((List.map_append (l₂ := [o.id])).symm))) ?_
      refine al_d rfl rfl rfl (by exact opd_assign rfl rfl) ?_
      refine al_nil ?_
      refine awp_region ?_
      refine al_d rfl rfl rfl (by exact opd_add rfl rfl rfl (by first | exact w64 (by omega) (by omega) | exact wu8 (by omega) (by omega) | rfl)) ?_
      refine al_d rfl rfl rfl (by exact opd_move rfl rfl) ?_
      refine al_nil ?_
      -- end of a round
      refine ⟨k + 1, g + 1, by omega, by omega, ?_⟩
      rw [map_take GObj.id ho]
      exact (Ent.wk ⟨⟨_, rfl, rfl⟩, (by first | (simp; done) | (simp; rfl) | exact clo_map _ _ _), ⟨_, rfl, rfl⟩, (by first | (simp; done) | (simp; rfl) | exact clo_map _ _ _), ⟨_, rfl, rfl⟩, (by first | (simp; done) | (simp; rfl) | exact clo_map _ _ _), ⟨_, rfl, rfl⟩, (by first | (simp; done) | (simp; rfl) | exact clo_map _ _ _), trivial⟩ ⟨⟨_, rfl, rfl⟩, (by first | (simp; done) | (simp; rfl) | exact clo_map _ _ _), trivial⟩ trivial)
    · have hge : k = l.length := by have := of_decide_eq_false hc1; omega
      subst hge
      rw [List.take_length]
      refine awp_exit ?_
      refine awp_seq ?_
      refine awp_region ?_
      refine al_d rfl rfl rfl (by exact opd_move rfl rfl) ?_
      refine al_d rfl rfl rfl (by exact opd_assign rfl rfl) ?_
      refine al_nil ?_
      refine awp_ret ?_
      -- return
      refine aret1 (H' := []) (.inr rfl) rfl (rval_tmp rfl) (Fin.slice [(3, ⟨g, 1, 9, strR (l.map GObj.id)⟩)] ((l.map GObj.id).map encStr) rfl rfl (rows_of encStr _) (by simp) (Closed.of (by simp)) (by simp [Heap.get]) (by simp [Heap.get]) rfl) ⟨rfl, rfl⟩
end Go.Proofs.Ytdgoodjhndeojaa
