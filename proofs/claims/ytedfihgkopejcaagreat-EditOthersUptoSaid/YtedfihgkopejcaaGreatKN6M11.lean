/-
  PLAIN: what an edit does to the object that it names (for EditMeans). Conditions: none.
  CONTRACT: EditCommutes answers true. Conditions: the arguments' sizes.
  CONTRACT: EditOthers answers true. Conditions: the arguments' sizes.
-/
import Derived.Test.YtedfihgkopejcaaGreatKN6M10
section
set_option linter.unusedVariables false
set_option linter.unusedSimpArgs false
set_option maxRecDepth 100000
namespace Go.Proofs.YtedfihgkopejcaaGreat
open Go.Abs
/-- The old object with what an edit of its kind changes. -/
def Means (nx : List GObj) (e : GEdit) (o o' : GObj) : Prop :=
  (e.op = 2 ∧ o' = ⟨o.id, o.kind, e.x, e.y, o.refs, o.tags⟩) ∨
  (e.op = 3 ∧ o' = ⟨o.id, o.kind, o.x, o.y, o.refs, o'.tags⟩ ∧ (∀ t, t ∈ o'.tags → t.key = e.key → t.val = e.val) ∧ (e.val ≠ sNil → ∃ t, t ∈ o'.tags ∧ t.key = e.key)) ∨
  (e.op = 4 ∧ o' = ⟨o.id, o.kind, o.x, o.y, e.refs, o.tags⟩) ∨
  (e.op = 6 ∧ (∃ y, look nx e.other = some y) ∧ o' = ⟨o.id, o.kind, o.x, o.y, o'.refs, o.tags⟩) ∨
  (e.op = 7 ∧ look nx e.other = none ∧ o' = ⟨o.id, o.kind, o.x, o.y, o'.refs, o.tags⟩)
end Go.Proofs.YtedfihgkopejcaaGreat
end
section
set_option linter.unusedVariables false
set_option linter.unusedSimpArgs false
set_option maxRecDepth 100000
namespace Go.Proofs.YtedfihgkopejcaaGreat
open Go.Abs

theorem names_len {e : GEdit} (h : e.refs.length + e.obj.refs.length < 1099511627776) : (gNames e).length < 4611686018427387904 := by
  unfold gNames
  split
  · rw [sortS_length]
    have h1 := List.length_filter_le nonE (idsOf e)
    have h2 := addAll_len e.obj.refs (addAll (addAll [] [e.id, e.other, e.node, e.obj.id]) e.refs)
    have h3 := addAll_len e.refs (addAll [] [e.id, e.other, e.node, e.obj.id])
    have h4 := addAll_len [e.id, e.other, e.node, e.obj.id] []
    have h5 : ([e.id, e.other, e.node, e.obj.id] : List ByteArray).length = 4 := rfl
    have h6 : ([] : List ByteArray).length = 0 := rfl
    have h7 : (idsOf e).length = (addAll (addAll (addAll [] [e.id, e.other, e.node, e.obj.id]) e.refs) e.obj.refs).length := rfl
    omega
  · show 0 < _; omega
end Go.Proofs.YtedfihgkopejcaaGreat
end
section
set_option linter.unusedVariables false
set_option linter.unusedSimpArgs false
set_option maxRecDepth 100000
namespace Go.Proofs.YtedfihgkopejcaaGreat
open Go.Abs

theorem editOthers_c (m : List GObj) (x : GEdit) (H : Heap) (hm : okM m) (hml : m.length < 34359738368) (hx : okE x) (hxs : x.refs.length + x.obj.refs.length < 1099511627776) :
    ACalls Tryz.prog 3 [.agg [.pv (slObjs m)], av (encEdit x)] H (fun r H' => r = bv true ∧ H' = H) := by
  refine ACalls.pure ?_ (by simp) H
  have hL : okL m := ⟨hm.1, fun o ho => ⟨(hm.2 o ho).2.2.1, (hm.2 o ho).2.1.1⟩⟩
  have heo : ∀ e, e ∈ [x] → okObj e.obj ∧ e.refs.length < 4611686018427387904 := fun e h => by
    rw [List.mem_singleton] at h
    subst h
    exact ⟨⟨hx.2.2.2.2.1, hx.2.2.2.1.1⟩, by have := hx.2.1.1; omega⟩
  have hnx := names_len hxs
  have hap := fun H => apply_c m x H hm hx (by omega)
  have hok : (gApply m x).2 = 0 → (∀ d, d ∈ gDiff m (gApply m x).1 → inB (gNames x) d.id = true) ∧ (gDiff m (gApply m x).1).length ≤ 2 ∧ okM (gApply m x).1 ∧ (gApply m x).1.length < 2097152 := fun h => by
    obtain ⟨h1, h2, h3, h4⟩ := apply_ok (m := m) hm hx h
    have hA : gApply m x = gAfter m x := by rw [gApply, if_pos h1]
    rw [hA] at h h3 h4 ⊢
    obtain ⟨o1, o2⟩ := others h1 h
    refine ⟨fun d hd => inB_iff.2 (o1 d hd), o2, h4, ?_⟩
    have := (gMap_iff.1 (closed_gMap h3)).2.2
    omega
  have hasc := names_asc x
  obtain ⟨a, ha⟩ : ∃ a, a = gApply m x := ⟨_, rfl⟩
  rw [← ha] at hap hok
  obtain ⟨nx, er⟩ := a
  simp only at hap hok
  clear ha
  have hn1 := fun H => names_cE x H hx hxs
  obtain ⟨ns, hnse⟩ : ∃ n, n = gNames x := ⟨_, rfl⟩
  rw [← hnse] at hnx hok hasc hn1
  clear hnse
  have hnl : (ns.map encStr).length = ns.length := List.length_map _
  refine ACalls.body Tryz.func3 rfl Tryz.ntmps3 (Nat.le_of_ble_eq_true rfl) ?_
  refine awp_seq ?_
  refine awp_region ?_
  refine al_d rfl rfl rfl (by exact opd_box (id := 2) rfl rfl rfl rfl rfl) ?_
  refine al_d rfl rfl rfl (by exact opd_box (id := 3) rfl rfl rfl rfl rfl) ?_
  refine al_d rfl rfl rfl (by exact opd_assign rfl rfl) ?_
  refine al_nil ?_
  refine awp_seq ?_
  refine awp_region ?_
  refine al_d rfl rfl rfl (by exact opr_call rfl rfl Tryz.call5 rfl (head21_c _)) ?_
  refine al_d rfl rfl rfl (by exact opd_assign rfl rfl) ?_
  refine al_nil ?_
  refine awp_seq ?_
  refine awp_seq ?_
  refine awp_region ?_
  refine al_d rfl rfl rfl (by exact (by exact opd_loadn_ref rfl Tryz.isAgg24 Tryz.sizeOf24 rfl rfl rfl rfl (by simp only [List.drop_succ_cons, List.drop_zero, List.take_succ_cons, List.take_zero, List.take_nil, List.map_cons, List.map_nil, List.set_cons_zero, List.set_cons_succ, List.cons_append, List.nil_append, encTag, encObj, encStr, encEdit, encInt, encDelta]; rfl) rfl)) ?_
  refine al_d rfl rfl rfl (by exact (by exact opd_loadn_ref rfl Tryz.isAgg32 Tryz.sizeOf32 rfl rfl rfl rfl (by simp only [List.drop_succ_cons, List.drop_zero, List.take_succ_cons, List.take_zero, List.take_nil, List.map_cons, List.map_nil, List.set_cons_zero, List.set_cons_succ, List.cons_append, List.nil_append, encTag, encObj, encStr, encEdit, encInt, encDelta]; rfl) rfl)) ?_
  refine al_d rfl rfl rfl (by exact (by exact x_buildSlice ([x].map encEdit) rfl so45 rfl rfl rfl rfl rfl (by intro r hr; simp only [List.map_cons, List.map_nil, List.mem_cons, List.not_mem_nil, or_false] at hr; subst hr; rfl))) ?_
  refine al_d rfl rfl rfl (by exact opr_call rfl rfl Tryz.call6 rfl (lawFew21_c m [x] _ hL.1 hL.2 (by show 1 < _; omega) heo)) ?_
  refine al_d rfl rfl rfl (by exact opd_not rfl rfl) ?_
  refine al_nil ?_
  refine awp_cond rfl (fun hc1 => ?_) (fun hc1 => ?_)
  -- cond 1
  · skip
    refine awp_seq ?_
    refine awp_region ?_
    refine al_d rfl rfl rfl (by exact opd_move rfl rfl) ?_
    refine al_d rfl rfl rfl (by exact opd_assign rfl rfl) ?_
    refine al_nil ?_
    refine awp_ret ?_
    -- return
    refine aret1 (H' := []) (by exact .inr rfl) rfl (rval_tmp rfl) (Fin.wk (by simp) trivial trivial) ?_
    exact ⟨rfl, rfl⟩
  · skip
    refine awp_skip ?_
    refine awp_seq ?_
    refine awp_region ?_
    refine al_d rfl rfl rfl (by exact (by exact opd_loadn_ref rfl Tryz.isAgg32 Tryz.sizeOf32 rfl rfl rfl rfl (by simp only [List.drop_succ_cons, List.drop_zero, List.take_succ_cons, List.take_zero, List.take_nil, List.map_cons, List.map_nil, List.set_cons_zero, List.set_cons_succ, List.cons_append, List.nil_append, encTag, encObj, encStr, encEdit, encInt, encDelta]; rfl) rfl)) ?_
    refine al_d rfl rfl rfl (by exact opr_call rfl rfl Tryz.call7 rfl (hn1 _)) ?_
    refine al_d rfl rfl rfl (by exact opd_assign rfl rfl) ?_
    refine al_nil ?_
    refine awp_seq ?_
    refine awp_seq ?_
    refine awp_region ?_
    refine al_d rfl rfl rfl (by exact opd_assign rfl rfl) ?_
    refine al_nil ?_
    refine awp_block ?_
    -- loop
    refine awp_loop (σ := Nat) (fun q => ([(2, .ref 2 0 0 0), (3, .ref 3 0 0 0), (5, bv true), (6, .pv (slStrs ns)), (7, iv (q : Int))], [(3, bx 15 32 ((encEdit x).map .pv)), (2, bx 1 24 [.pv (slObjs m)])])) (fun q => 1 ≤ q) (fun q => ns.length - q) 1 (Nat.le_refl _) ?_ ?_
    · exact (Ent.wk ⟨⟨_, rfl, rfl⟩, (by (simp; rfl)), ⟨_, rfl, rfl⟩, (by (simp; rfl)), ⟨_, rfl, rfl⟩, (by (simp; done)), ⟨_, rfl, rfl⟩, (by (simp; done)), ⟨_, rfl, rfl⟩, (by (simp; done)), trivial⟩ ⟨⟨_, rfl, rfl⟩, (by (simp; done)), ⟨_, rfl, rfl⟩, (by (simp; done)), trivial⟩ trivial)
    · rintro q hq
      refine awp_seq ?_
      refine awp_seq ?_
      refine awp_region ?_
      refine al_d rfl rfl rfl (by exact opd_move rfl rfl) ?_
      refine al_d rfl rfl rfl (by exact opd_move rfl rfl) ?_
      refine al_d rfl rfl rfl (by exact (by exact opd_len_sl rfl Tryz.underlying27 rfl)) ?_
      refine al_d rfl rfl rfl (by exact opd_lss rfl rfl rfl) ?_
      refine al_nil ?_
      refine awp_cond rfl (fun hc2 => ?_) (fun hc2 => ?_)
      -- cond 2
      · have hql : q < ns.length := by have := of_decide_eq_true hc2; omega
        obtain ⟨s, hs⟩ := get_of_lt hql
        obtain ⟨s0, hs0⟩ := get_of_lt (show q - 1 < ns.length by omega)
        have hlt : slt s0 s = true := by
          obtain ⟨h1, e1⟩ := List.getElem?_eq_some_iff.1 hs0
          obtain ⟨h2, e2⟩ := List.getElem?_eq_some_iff.1 hs
          have := List.pairwise_iff_getElem.1 hasc (q - 1) q h1 h2 (by omega)
          rw [e1, e2] at this
          exact this
        have hi := map_get (f := encStr) hs
        have hi0 := map_get (f := encStr) hs0
        refine awp_skip ?_
        refine awp_seq ?_
        refine awp_block ?_
        refine awp_seq ?_
        refine awp_drawc follows ?_
        refine dc_cons (DStep.q rfl (by exact opd_move rfl rfl)) rfl ?_
        refine dc_cons (DStep.q rfl (by exact opd_move rfl rfl)) rfl ?_
        refine dc_cons (DStep.q rfl (by exact opd_sub rfl rfl rfl (show IntKind.i64.wrap ((q : Int) - 1) = ((q - 1 : Nat) : Int) by rw [IntKind.wrap_i64]; omega))) rfl ?_
        refine dc_cons (DStep.q rfl (by exact (by exact x_index_pad rfl so27 rfl rfl (by omega) (by exact Int.toNat_natCast _) hi0 rfl))) rfl ?_
        refine dc_cons (DStep.q rfl (by exact (by exact opd_load1_pad rfl Tryz.isAgg9 rfl hi0 rfl))) rfl ?_
        refine dc_cons (DStep.q rfl (by exact opd_move rfl rfl)) rfl ?_
        refine dc_cons (DStep.q rfl (by exact opd_move rfl rfl)) rfl ?_
        refine dc_cons (DStep.q rfl (by exact (by exact x_index_pad rfl so27 rfl rfl (by omega) (by exact Int.toNat_natCast _) hi rfl))) rfl ?_
        refine dc_cons (DStep.q rfl (by exact (by exact opd_load1_pad rfl Tryz.isAgg9 rfl hi rfl))) rfl ?_
        refine dc_cons (DStep.q rfl (by exact opd_sgeq rfl rfl rfl)) rfl ?_
        refine dc_nil ⟨by kernel_rfl, ?_⟩
        refine awp_cond rfl (fun hc3 => ?_) (fun hc3 => ?_)
        -- cond 3
        · skip
          exact absurd hc3 (by rw [hlt]; decide)
        · skip
          refine awp_skip ?_
          refine awp_region ?_
          refine al_d rfl rfl rfl (by exact opd_move rfl rfl) ?_
          refine al_d rfl rfl rfl (by exact opd_add rfl rfl rfl (by exact w64 (by omega) (by omega))) ?_
          refine al_d rfl rfl rfl (by exact opd_assign rfl rfl) ?_
          refine al_nil ?_
          -- end of a round
          exact ⟨q + 1, by omega, by omega, (Ent.wk ⟨⟨_, rfl, rfl⟩, (by (simp; rfl)), ⟨_, rfl, rfl⟩, (by (simp; rfl)), ⟨_, rfl, rfl⟩, (by (simp; done)), ⟨_, rfl, rfl⟩, (by (simp; done)), ⟨_, rfl, rfl⟩, (by (simp; done)), trivial⟩ ⟨⟨_, rfl, rfl⟩, (by (simp; done)), ⟨_, rfl, rfl⟩, (by (simp; done)), trivial⟩ trivial)⟩
      · skip
        refine awp_exit ?_
        refine awp_seq ?_
        refine awp_region ?_
        refine al_d rfl rfl rfl (by exact (by exact opd_loadn_ref rfl Tryz.isAgg24 Tryz.sizeOf24 rfl rfl rfl rfl (by simp only [List.drop_succ_cons, List.drop_zero, List.take_succ_cons, List.take_zero, List.take_nil, List.map_cons, List.map_nil, List.set_cons_zero, List.set_cons_succ, List.cons_append, List.nil_append, encTag, encObj, encStr, encEdit, encInt, encDelta]; rfl) rfl)) ?_
        refine al_d rfl rfl rfl (by exact (by exact opd_loadn_ref rfl Tryz.isAgg32 Tryz.sizeOf32 rfl rfl rfl rfl (by simp only [List.drop_succ_cons, List.drop_zero, List.take_succ_cons, List.take_zero, List.take_nil, List.map_cons, List.map_nil, List.set_cons_zero, List.set_cons_succ, List.cons_append, List.nil_append, encTag, encObj, encStr, encEdit, encInt, encDelta]; rfl) rfl)) ?_
        refine al_d rfl rfl rfl (by exact opr_call rfl rfl Tryz.call8 rfl (hap _)) ?_
        refine al_d rfl rfl rfl (by exact opd_move rfl rfl) ?_
        refine al_d rfl rfl rfl (by exact opd_extract rfl rfl rfl) ?_
        refine al_d rfl rfl rfl (by exact opd_extract rfl rfl rfl) ?_
        refine al_d rfl rfl rfl (by exact x_alloc (id := 8) rfl zo24 rfl rfl) ?_
        refine al_n rfl rfl (by exact (by exact x_store_all rfl Tryz.sizeOf24 rfl rfl rfl rfl rfl rfl rfl rfl)) ?_
        refine al_d rfl rfl rfl (by exact opd_assign rfl rfl) ?_
        refine al_nil ?_
        refine awp_seq ?_
        refine awp_seq ?_
        refine awp_region ?_
        refine al_d rfl rfl rfl (by exact opd_move rfl rfl) ?_
        refine al_d rfl rfl rfl (by exact opd_neq rfl rfl rfl) ?_
        refine al_nil ?_
        refine awp_cond rfl (fun hc4 => ?_) (fun hc4 => ?_)
        -- cond 4
        · skip
          refine awp_seq ?_
          refine awp_region ?_
          refine al_d rfl rfl rfl (by exact opd_move rfl rfl) ?_
          refine al_d rfl rfl rfl (by exact opd_assign rfl rfl) ?_
          refine al_nil ?_
          refine awp_ret ?_
          -- return
          refine aret1 (H' := []) (by exact .inr rfl) rfl (rval_tmp rfl) (Fin.wk (by simp) trivial trivial) ?_
          exact ⟨rfl, rfl⟩
        · have h0 : er = 0 := by
            have h := hc4
            simpa using h
          obtain ⟨k1, k2, k3, k4⟩ := hok h0
          have hd := fun H => diff_c m nx H hm k3 (by omega) (fun o ho => ⟨(hm.2 o ho).2.2.1, (hm.2 o ho).2.1.1⟩)
          obtain ⟨ds, hds⟩ : ∃ ds, ds = gDiff m nx := ⟨_, rfl⟩
          rw [← hds] at k1 k2 hd
          have hdl : (ds.map encDelta).length = ds.length := List.length_map _
          refine awp_skip ?_
          refine awp_seq ?_
          refine awp_region ?_
          refine al_d rfl rfl rfl (by exact (by exact opd_loadn_ref rfl Tryz.isAgg24 Tryz.sizeOf24 rfl rfl rfl rfl (by simp only [List.drop_succ_cons, List.drop_zero, List.take_succ_cons, List.take_zero, List.take_nil, List.map_cons, List.map_nil, List.set_cons_zero, List.set_cons_succ, List.cons_append, List.nil_append, encTag, encObj, encStr, encEdit, encInt, encDelta]; rfl) rfl)) ?_
          refine al_d rfl rfl rfl (by exact (by exact opd_loadn_ref rfl Tryz.isAgg24 Tryz.sizeOf24 rfl rfl rfl rfl (by simp only [List.drop_succ_cons, List.drop_zero, List.take_succ_cons, List.take_zero, List.take_nil, List.map_cons, List.map_nil, List.set_cons_zero, List.set_cons_succ, List.cons_append, List.nil_append, encTag, encObj, encStr, encEdit, encInt, encDelta]; rfl) rfl)) ?_
          refine al_d rfl rfl rfl (by exact opr_call rfl rfl Tryz.call9 rfl (hd _)) ?_
          refine al_d rfl rfl rfl (by exact opd_assign rfl rfl) ?_
          refine al_nil ?_
          refine awp_seq ?_
          refine awp_seq ?_
          refine awp_region ?_
          refine al_d rfl rfl rfl (by exact opd_assign rfl rfl) ?_
          refine al_nil ?_
          refine awp_block ?_
          -- loop
          refine awp_loop (σ := Nat) (fun q => ([(5, bv true), (6, .pv (slStrs ns)), (10, .pv (slDeltas ds)), (11, iv (q : Int))], [])) (fun q => True) (fun q => ds.length - q) 0 trivial ?_ ?_
          · exact (Ent.wk ⟨⟨_, rfl, rfl⟩, (by (simp; done)), ⟨_, rfl, rfl⟩, (by (simp; done)), ⟨_, rfl, rfl⟩, (by (simp; done)), ⟨_, rfl, rfl⟩, (by (simp; done)), trivial⟩ trivial trivial)
          · rintro k _
            refine awp_seq ?_
            refine awp_seq ?_
            refine awp_region ?_
            refine al_d rfl rfl rfl (by exact opd_move rfl rfl) ?_
            refine al_d rfl rfl rfl (by exact opd_move rfl rfl) ?_
            refine al_d rfl rfl rfl (by exact (by exact opd_len_sl rfl Tryz.underlying39 rfl)) ?_
            refine al_d rfl rfl rfl (by exact opd_lss rfl rfl rfl) ?_
            refine al_nil ?_
            refine awp_cond rfl (fun hc5 => ?_) (fun hc5 => ?_)
            -- cond 5
            · have hkl : k < ds.length := by have := of_decide_eq_true hc5; omega
              obtain ⟨d, hd⟩ := get_of_lt hkl
              have hi := map_get (f := encDelta) hd
              have hin : ACalls Tryz.prog 10 [.pv (slStrs ns), sv d.id] [] (fun r H' => r = bv true ∧ H' = []) := by
                have := has06_c ns d.id [] hnx
                rwa [k1 d (List.mem_of_getElem? hd)] at this
              refine awp_skip ?_
              refine awp_seq ?_
              refine awp_block ?_
              refine awp_seq ?_
              refine awp_region ?_
              refine al_d rfl rfl rfl (by exact opd_move rfl rfl) ?_
              refine al_d rfl rfl rfl (by exact opd_move rfl rfl) ?_
              refine al_d rfl rfl rfl (by exact opd_move rfl rfl) ?_
              refine al_d rfl rfl rfl (by exact (by exact x_index_pad rfl so39 rfl rfl (by omega) (by exact Int.toNat_natCast _) hi rfl)) ?_
              refine al_d rfl rfl rfl (by exact (by exact opd_field_pad rfl fo43_0 rfl rfl)) ?_
              refine al_d rfl rfl rfl (by exact (by exact opd_load1_pad rfl Tryz.isAgg9 rfl hi rfl)) ?_
              refine al_d rfl rfl rfl (by exact opr_call rfl rfl Tryz.call10 rfl (hin)) ?_
              refine al_d rfl rfl rfl (by exact opd_not rfl rfl) ?_
              refine al_nil ?_
              refine awp_cond rfl (fun hc6 => ?_) (fun hc6 => ?_)
              -- cond 6
              · skip
                cases hc6
              · skip
                refine awp_skip ?_
                refine awp_region ?_
                refine al_d rfl rfl rfl (by exact opd_move rfl rfl) ?_
                refine al_d rfl rfl rfl (by exact opd_add rfl rfl rfl (by exact w64 (by omega) (by omega))) ?_
                refine al_d rfl rfl rfl (by exact opd_assign rfl rfl) ?_
                refine al_nil ?_
                -- end of a round
                exact ⟨k + 1, trivial, by omega, (Ent.wk ⟨⟨_, rfl, rfl⟩, (by (simp; done)), ⟨_, rfl, rfl⟩, (by (simp; done)), ⟨_, rfl, rfl⟩, (by (simp; done)), ⟨_, rfl, rfl⟩, (by (simp; done)), trivial⟩ trivial trivial)⟩
            · have hfin : (true && decide (((ds.map encDelta).length : Int) ≤ 2)) = true := by rw [hdl, Bool.true_and, decide_eq_true_eq]; omega
              refine awp_exit ?_
              refine awp_seq ?_
              refine awp_bool (t := 4) (n := 8) (X := true && decide (((ds.map encDelta).length : Int) ≤ 2)) ?_ ?_
              · all_goals (refine al_d rfl rfl rfl (by exact opd_move rfl rfl) ?_)
                all_goals (refine al_d rfl rfl rfl (by exact opd_move rfl rfl) ?_)
                all_goals (refine al_split (t := 64) rfl (fun h64 => ?_) (fun h64 => ?_))
                all_goals (try contradiction)
                all_goals (refine al_ond rfl rfl rfl rfl rfl rfl (by exact opd_move rfl rfl) ?_)
                all_goals (refine al_ond rfl rfl rfl rfl rfl rfl (by exact (by exact opd_len_sl rfl Tryz.underlying39 rfl)) ?_)
                all_goals (refine al_ond rfl rfl rfl rfl rfl rfl (by exact opd_leq rfl rfl rfl) ?_)
                all_goals (refine al_d rfl rfl rfl (by exact (by exact opd_pick_t rfl rfl rfl)) ?_)
                all_goals (refine al_d rfl rfl rfl (by exact opd_assign rfl rfl) ?_)
                all_goals (refine al_nil ?_)
                all_goals (exact ⟨⟨_, rfl, by rfl⟩, rfl, rfl, rfl⟩)
              refine awp_ret ?_
              -- return
              refine aret1 (H' := []) (by exact .inr rfl) rfl (rval_tmp rfl) (Fin.wk (by simp) trivial trivial) ?_
              exact ⟨by rw [hfin], rfl⟩
end Go.Proofs.YtedfihgkopejcaaGreat
end
