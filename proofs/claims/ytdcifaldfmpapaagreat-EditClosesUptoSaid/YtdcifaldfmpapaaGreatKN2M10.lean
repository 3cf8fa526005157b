/-
  CONTRACT: planispherelaw21.head answers true. Conditions: none.
  CONTRACTS: the reference: letters, names, points, words, tags. Conditions: lengths below 2^62.
  CONTRACTS: the reference: references, objects. Conditions: lengths below 2^62.
  CONTRACTS: what is moderate (planisphereref13.Few); objects and maps compared (planisphereref11.Same, 12.Same). Conditions: lengths below 2^62.
  CONTRACT: EditCloses answers true. Conditions: the arguments' sizes.
-/
import Derived.Test.YtdcifaldfmpapaaGreatKN2M9
section
set_option linter.unusedVariables false
set_option linter.unusedSimpArgs false
set_option maxRecDepth 100000
namespace Go.Proofs.YtdcifaldfmpapaaGreat
open Go.Abs

def ed0 (op : Int) (id other node : ByteArray) : GEdit := ⟨op, id, other, node, 0, 0, sNil, sNil, [], zObj⟩
def eS : GEdit := ed0 6 (st1 119) (st1 118) (st1 98)
def eJ : GEdit := ed0 7 (st1 119) (st1 118) sNil
def eB : GEdit := ed0 5 (st1 98) sNil sNil
def eM : GEdit := ed0 2 (st1 119) sNil sNil
def eW : GEdit := ed0 5 (st1 119) sNil sNil
def x1 : List GObj := cs3.map nodeA ++ [⟨st1 118, 2, 0, 0, [st1 98, st1 99], []⟩, ⟨st1 119, 2, 0, 0, [st1 97, st1 98], []⟩]
theorem hS : gApply s0 eS = (x1, 0) := by kernel_rfl
theorem hJ : gApply x1 eJ = (s0, 0) := by kernel_rfl
theorem hB : gApply s0 eB = ([], 14) := by kernel_rfl
theorem hM : gApply s0 eM = ([], 13) := by kernel_rfl
theorem hA : gAll s0 [eW, eW] = ([], 1, 11) := by kernel_rfl
theorem sortS_ofN {l : List ByteArray} (h : (l.map toU).Pairwise (fun x y => decide (x ≤ y) = true)) : sortS l = l := by
  rw [sortS, List.mergeSort_of_pairwise h, map_toU]
theorem hN : gNames eS = [st1 98, st1 118, st1 119] := by
  have h1 : gEditV eS = true := by kernel_rfl
  have h2 : (idsOf eS).filter nonE = [st1 119, st1 118, st1 98] := by kernel_rfl
  rw [gNames, if_pos h1, h2]
  have hp : [st1 119, st1 118, st1 98].Perm [st1 98, st1 118, st1 119] := (List.reverse_perm [st1 119, st1 118, st1 98]).symm
  rw [sortS_eq hp]
  exact sortS_ofN (by decide)
theorem okE0 (op : Int) {id other node : ByteArray} (h1 : id.size < 10) (h2 : other.size < 10) (h3 : node.size < 10) : okE (ed0 op id other node) :=
  ⟨⟨by show id.size < _; omega, by show other.size < _; omega, by show node.size < _; omega, by show 0 < _; omega⟩, ⟨by show 0 < _; omega, fun s hs => by cases hs⟩, ⟨by show 0 < _; omega, ⟨by show 0 < _; omega, fun t ht => by cases ht⟩, by show 0 < _; omega, fun s hs => by cases hs⟩⟩
theorem okO_node (c : UInt8) : okO (nodeA c) := ⟨by show 1 < _; omega, ⟨by show 0 < _; omega, fun t ht => by cases ht⟩, by show 0 < _; omega, fun s hs => by cases hs⟩
theorem okO_way (id : ByteArray) (l : List UInt8) (h1 : id.size < 10) (h2 : l.length < 10) : okO ⟨id, 2, 0, 0, l.map st1, []⟩ :=
  ⟨by show id.size < _; omega, ⟨by show 0 < _; omega, fun t ht => by cases ht⟩, by show (l.map st1).length < _; rw [List.length_map]; omega, fun s hs => by
    obtain ⟨c, _, rfl⟩ := List.mem_map.1 hs
    show 1 < _; omega⟩
theorem okM_s0 : okM s0 := by
  refine ⟨by show 4 < _; omega, fun o ho => ?_⟩
  rcases List.mem_append.1 ho with h | h
  · obtain ⟨c, _, rfl⟩ := List.mem_map.1 h
    exact okO_node c
  · rw [List.mem_singleton] at h
    subst h
    exact okO_way (st1 119) cs3 (by decide) (by decide)
theorem okM_x1 : okM x1 := by
  refine ⟨by show 5 < _; omega, fun o ho => ?_⟩
  rcases List.mem_append.1 ho with h | h
  · obtain ⟨c, _, rfl⟩ := List.mem_map.1 h
    exact okO_node c
  · simp only [List.mem_cons, List.not_mem_nil, or_false] at h
    rcases h with rfl | rfl
    · exact okO_way (st1 118) [98, 99] (by decide) (by decide)
    · exact okO_way (st1 119) [97, 98] (by decide) (by decide)
theorem apply_t {m x : List GObj} {e : GEdit} {n : Int} (h : gApply m e = (x, n)) (H : Heap) (hm : okM m) (he : okE e) (hl : m.length < 549755813888) :
    ACalls Tryz.prog 12 [.agg [.pv (slObjs m)], av (encEdit e)] H (fun r H' => r = .tup [.agg [.pv (slObjs x)], iv n] ∧ H' = H) := by
  have := apply_c m e H hm he hl
  rwa [h] at this
theorem all_t {m x : List GObj} {l : List GEdit} {i n : Int} (h : gAll m l = (x, i, n)) (H : Heap) (hm : okM m) (hl : l.length < 549755813888) (he : ∀ e, e ∈ l → okE e) :
    ACalls Tryz.prog 20 [.agg [.pv (slObjs m)], .pv (slEdits l)] H (fun r H' => r = .tup [.agg [.pv (slObjs x)], iv i, iv n] ∧ H' = H) := by
  have := all_c m l H hm hl he
  rwa [h] at this
theorem names_t {e : GEdit} {l : List ByteArray} (h : gNames e = l) (H : Heap) (he : okE e) (hsz : e.refs.length + e.obj.refs.length < 1099511627776) : ACalls Tryz.prog 17 [av (encEdit e)] H (fun r H' => r = .pv (slStrs l) ∧ H' = H) := by
  have := names_cE e H he hsz
  rwa [h] at this
theorem same06_t {a b : List ByteArray} (h : a = b) (H : Heap) (ha : a.length < 4611686018427387904) : ACalls Tryz.prog 34 [.pv (slStrs a), .pv (slStrs b)] H (fun r H' => r = bv true ∧ H' = H) := by
  have := same06_c a b H ha
  rwa [decide_eq_true h] at this
theorem atlasSame_t {a b : List GObj} (h : a = b) (H : Heap) (ha : okM a) : ACalls Tryz.prog 38 [.agg [.pv (slObjs a)], .agg [.pv (slObjs b)]] H (fun r H' => r = bv true ∧ H' = H) := by
  have := atlasSame_c a b H ha.1 (fun o ho => okS_of (ha.2 o ho))
  rwa [decide_eq_true h] at this
theorem head21_c (H : Heap) : ACalls Tryz.prog 10 [] H (fun r H' => r = bv true ∧ H' = H) := by
  refine ACalls.pure ?_ (by simp) H
  have w1 : (st1 119).size < 10 := by decide
  have w2 : (st1 118).size < 10 := by decide
  have w3 : (st1 98).size < 10 := by decide
  have w4 : sNil.size < 10 := by decide
  have l0 : s0.length < 549755813888 := by show 4 < _; omega
  have l1 : x1.length < 549755813888 := by show 5 < _; omega
  refine ACalls.body Tryz.func10 rfl Tryz.ntmps10 (Nat.le_of_ble_eq_true rfl) ?_
  refine awp_seq ?_
  refine awp_region ?_
  refine al_d rfl rfl rfl (by exact opd_assign rfl rfl) ?_
  refine al_nil ?_
  refine awp_seq ?_
  refine awp_region ?_
  refine al_d rfl rfl rfl (by exact opr_call rfl rfl Tryz.call37 rfl (sample_c _)) ?_
  refine al_d rfl rfl rfl (by exact x_alloc (id := 1) rfl zo24 rfl rfl) ?_
  refine al_n rfl rfl (by exact (by exact x_store_all rfl Tryz.sizeOf24 rfl rfl rfl rfl rfl rfl rfl rfl)) ?_
  refine al_nil ?_
  refine awp_seq ?_
  refine awp_region ?_
  refine al_d rfl rfl rfl (by exact (by exact opd_loadn_ref rfl Tryz.isAgg24 Tryz.sizeOf24 rfl rfl rfl rfl rfl rfl)) ?_
  refine al_d rfl rfl rfl (by exact x_build rfl bo32 rfl rfl) ?_
  refine al_d rfl rfl rfl (by exact opr_call rfl rfl Tryz.call12 rfl (apply_t hS _ okM_s0 (okE0 6 w1 w2 w3) l0)) ?_
  refine al_d rfl rfl rfl (by exact opd_move rfl rfl) ?_
  refine al_d rfl rfl rfl (by exact opd_extract rfl rfl rfl) ?_
  refine al_d rfl rfl rfl (by exact opd_extract rfl rfl rfl) ?_
  refine al_d rfl rfl rfl (by exact x_alloc (id := 2) rfl zo24 rfl rfl) ?_
  refine al_n rfl rfl (by exact (by exact x_store_all rfl Tryz.sizeOf24 rfl rfl rfl rfl rfl rfl rfl rfl)) ?_
  refine al_d rfl rfl rfl (by exact opd_assign rfl rfl) ?_
  refine al_nil ?_
  refine awp_seq ?_
  refine awp_region ?_
  refine al_d rfl rfl rfl (by exact (by exact opd_loadn_ref rfl Tryz.isAgg24 Tryz.sizeOf24 rfl rfl rfl rfl rfl rfl)) ?_
  refine al_d rfl rfl rfl (by exact x_build rfl bo32 rfl rfl) ?_
  refine al_d rfl rfl rfl (by exact opr_call rfl rfl Tryz.call12 rfl (apply_t hJ _ okM_x1 (okE0 7 w1 w2 w4) l1)) ?_
  refine al_d rfl rfl rfl (by exact opd_move rfl rfl) ?_
  refine al_d rfl rfl rfl (by exact opd_extract rfl rfl rfl) ?_
  refine al_d rfl rfl rfl (by exact opd_extract rfl rfl rfl) ?_
  refine al_d rfl rfl rfl (by exact x_alloc (id := 4) rfl zo24 rfl rfl) ?_
  refine al_n rfl rfl (by exact (by exact x_store_all rfl Tryz.sizeOf24 rfl rfl rfl rfl rfl rfl rfl rfl)) ?_
  refine al_d rfl rfl rfl (by exact opd_assign rfl rfl) ?_
  refine al_nil ?_
  refine awp_seq ?_
  refine awp_region ?_
  refine al_d rfl rfl rfl (by exact (by exact opd_loadn_ref rfl Tryz.isAgg24 Tryz.sizeOf24 rfl rfl rfl rfl rfl rfl)) ?_
  refine al_d rfl rfl rfl (by exact x_build rfl bo32 rfl rfl) ?_
  refine al_d rfl rfl rfl (by exact opr_call rfl rfl Tryz.call12 rfl (apply_t hB _ okM_s0 (okE0 5 w3 w4 w4) l0)) ?_
  refine al_d rfl rfl rfl (by exact opd_move rfl rfl) ?_
  refine al_d rfl rfl rfl (by exact opd_extract rfl rfl rfl) ?_
  refine al_d rfl rfl rfl (by exact opd_extract rfl rfl rfl) ?_
  refine al_d rfl rfl rfl (by exact x_alloc (id := 6) rfl zo24 rfl rfl) ?_
  refine al_n rfl rfl (by exact (by exact x_store_all rfl Tryz.sizeOf24 rfl rfl rfl rfl rfl rfl rfl rfl)) ?_
  refine al_d rfl rfl rfl (by exact opd_assign rfl rfl) ?_
  refine al_nil ?_
  refine awp_seq ?_
  refine awp_region ?_
  refine al_d rfl rfl rfl (by exact (by exact opd_loadn_ref rfl Tryz.isAgg24 Tryz.sizeOf24 rfl rfl rfl rfl rfl rfl)) ?_
  refine al_d rfl rfl rfl (by exact x_build rfl bo32 rfl rfl) ?_
  refine al_d rfl rfl rfl (by exact opr_call rfl rfl Tryz.call12 rfl (apply_t hM _ okM_s0 (okE0 2 w1 w4 w4) l0)) ?_
  refine al_d rfl rfl rfl (by exact opd_move rfl rfl) ?_
  refine al_d rfl rfl rfl (by exact opd_extract rfl rfl rfl) ?_
  refine al_d rfl rfl rfl (by exact opd_extract rfl rfl rfl) ?_
  refine al_d rfl rfl rfl (by exact x_alloc (id := 8) rfl zo24 rfl rfl) ?_
  refine al_n rfl rfl (by exact (by exact x_store_all rfl Tryz.sizeOf24 rfl rfl rfl rfl rfl rfl rfl rfl)) ?_
  refine al_d rfl rfl rfl (by exact opd_assign rfl rfl) ?_
  refine al_nil ?_
  refine awp_seq ?_
  refine awp_region ?_
  refine al_d rfl rfl rfl (by exact (by exact opd_loadn_ref rfl Tryz.isAgg24 Tryz.sizeOf24 rfl rfl rfl rfl rfl rfl)) ?_
  refine al_d rfl rfl rfl (by exact x_build rfl bo32 rfl rfl) ?_
  refine al_d rfl rfl rfl (by exact x_build rfl bo32 rfl rfl) ?_
  refine al_d rfl rfl rfl (by exact (by exact x_buildSlice ([eW, eW].map encEdit) rfl so46 rfl rfl rfl rfl rfl (by intro r hr; simp only [List.map_cons, List.map_nil, List.mem_cons, List.not_mem_nil, or_false] at hr; rcases hr with rfl | rfl <;> rfl))) ?_
  refine al_d rfl rfl rfl (by exact opr_call rfl rfl Tryz.call20 rfl (all_t hA _ okM_s0 (by show 2 < _; omega) (by intro e he; simp only [List.mem_cons, List.not_mem_nil, or_false] at he; rcases he with rfl | rfl <;> exact okE0 5 w1 w4 w4))) ?_
  refine al_d rfl rfl rfl (by exact opd_move rfl rfl) ?_
  refine al_d rfl rfl rfl (by exact opd_extract rfl rfl rfl) ?_
  refine al_d rfl rfl rfl (by exact opd_extract rfl rfl rfl) ?_
  refine al_d rfl rfl rfl (by exact opd_extract rfl rfl rfl) ?_
  refine al_d rfl rfl rfl (by exact x_alloc (id := 10) rfl zo24 rfl rfl) ?_
  refine al_n rfl rfl (by exact (by exact x_store_all rfl Tryz.sizeOf24 rfl rfl rfl rfl rfl rfl rfl rfl)) ?_
  refine al_d rfl rfl rfl (by exact opd_assign rfl rfl) ?_
  refine al_d rfl rfl rfl (by exact opd_assign rfl rfl) ?_
  refine al_nil ?_
  refine awp_seq ?_
  refine awp_seq ?_
  refine awp_region ?_
  refine al_d rfl rfl rfl (by exact opd_move rfl rfl) ?_
  refine al_d rfl rfl rfl (by exact opd_neq rfl rfl rfl) ?_
  refine al_d rfl rfl rfl (by exact opd_move rfl rfl) ?_
  refine al_ond rfl rfl rfl (by rfl) rfl rfl (by exact (by exact opd_field_ref rfl fo24_0 rfl rfl rfl rfl)) ?_
  refine al_ond rfl rfl rfl (by rfl) rfl rfl (by exact (by exact opd_load1_ref rfl Tryz.isAgg22 rfl rfl rfl rfl rfl)) ?_
  refine al_ond rfl rfl rfl (by rfl) rfl rfl (by exact (by exact opd_len_sl rfl Tryz.underlying22 rfl)) ?_
  refine al_ond rfl rfl rfl (by rfl) rfl rfl (by exact opd_neq rfl rfl rfl) ?_
  refine al_d rfl rfl rfl (by exact (by exact opd_pick_f rfl rfl rfl)) ?_
  refine al_nil ?_
  refine awp_cond rfl (fun hc1 => ?_) (fun hc1 => ?_)
  -- cond 1
  · cases hc1
  · skip
    have hi3 : (x1.map encObj)[3]? = some (encObj ⟨st1 118, 2, 0, 0, [st1 98, st1 99], []⟩) := rfl
    have hi4 : (x1.map encObj)[4]? = some (encObj ⟨st1 119, 2, 0, 0, [st1 97, st1 98], []⟩) := rfl
    refine awp_skip ?_
    refine awp_seq ?_
    refine awp_region ?_
    refine al_d rfl rfl rfl (by exact (by exact opd_field_ref rfl fo24_0 rfl rfl rfl rfl)) ?_
    refine al_d rfl rfl rfl (by exact (by exact opd_load1_ref rfl Tryz.isAgg22 rfl rfl rfl rfl rfl)) ?_
    refine al_d rfl rfl rfl (by exact (by exact x_index_pad rfl so22 rfl rfl (by omega) (by exact Int.toNat_natCast _) hi3 rfl)) ?_
    refine al_d rfl rfl rfl (by exact (by exact opd_field_pad rfl fo30_3 rfl rfl)) ?_
    refine al_d rfl rfl rfl (by exact (by exact opd_load1_pad rfl Tryz.isAgg27 rfl (by omega) rfl)) ?_
    refine al_d rfl rfl rfl (by exact (by exact x_buildSlice ([st1 98, st1 99].map encStr) rfl so27 rfl rfl rfl rfl rfl (by simp [encStr]))) ?_
    refine al_d rfl rfl rfl (by exact opr_call rfl rfl Tryz.call34 rfl (same06_t (a := [st1 98, st1 99]) (b := [st1 98, st1 99]) rfl _ (by show 2 < _; omega))) ?_
    refine al_d rfl rfl rfl (by exact opd_move rfl rfl) ?_
    refine al_ond rfl rfl rfl (by rfl) rfl rfl (by exact (by exact opd_field_ref rfl fo24_0 rfl rfl rfl rfl)) ?_
    refine al_ond rfl rfl rfl (by rfl) rfl rfl (by exact (by exact opd_load1_ref rfl Tryz.isAgg22 rfl rfl rfl rfl rfl)) ?_
    refine al_ond rfl rfl rfl (by rfl) rfl rfl (by exact (by exact x_index_pad rfl so22 rfl rfl (by omega) (by exact Int.toNat_natCast _) hi4 rfl)) ?_
    refine al_ond rfl rfl rfl (by rfl) rfl rfl (by exact (by exact opd_field_pad rfl fo30_3 rfl rfl)) ?_
    refine al_ond rfl rfl rfl (by rfl) rfl rfl (by exact (by exact opd_load1_pad rfl Tryz.isAgg27 rfl (by omega) rfl)) ?_
    refine al_ond rfl rfl rfl (by rfl) rfl rfl (by exact (by exact x_buildSlice ([st1 97, st1 98].map encStr) rfl so27 rfl rfl rfl rfl rfl (by simp [encStr]))) ?_
    refine al_ond rfl rfl rfl (by rfl) rfl rfl (by exact opr_call rfl rfl Tryz.call34 rfl (same06_t (a := [st1 97, st1 98]) (b := [st1 97, st1 98]) rfl _ (by show 2 < _; omega))) ?_
    refine al_d rfl rfl rfl (by exact (by exact opd_pick_t rfl rfl rfl)) ?_
    refine al_d rfl rfl rfl (by exact opd_move rfl rfl) ?_
    refine al_ond rfl rfl rfl (by rfl) rfl rfl (by exact opd_move rfl rfl) ?_
    refine al_ond rfl rfl rfl (by rfl) rfl rfl (by exact opd_eql rfl rfl rfl) ?_
    refine al_d rfl rfl rfl (by exact (by exact opd_pick_t rfl rfl rfl)) ?_
    refine al_d rfl rfl rfl (by exact opd_move rfl rfl) ?_
    refine al_ond rfl rfl rfl (by rfl) rfl rfl (by exact (by exact opd_loadn_ref rfl Tryz.isAgg24 Tryz.sizeOf24 rfl rfl rfl rfl rfl rfl)) ?_
    refine al_ond rfl rfl rfl (by rfl) rfl rfl (by exact (by exact opd_loadn_ref rfl Tryz.isAgg24 Tryz.sizeOf24 rfl rfl rfl rfl rfl rfl)) ?_
    refine al_ond rfl rfl rfl (by rfl) rfl rfl (by exact opr_call rfl rfl Tryz.call38 rfl (atlasSame_t (a := s0) (b := s0) rfl _ okM_s0)) ?_
    refine al_d rfl rfl rfl (by exact (by exact opd_pick_t rfl rfl rfl)) ?_
    refine al_d rfl rfl rfl (by exact opd_move rfl rfl) ?_
    refine al_ond rfl rfl rfl (by rfl) rfl rfl (by exact opd_move rfl rfl) ?_
    refine al_ond rfl rfl rfl (by rfl) rfl rfl (by exact opd_eql rfl rfl rfl) ?_
    refine al_d rfl rfl rfl (by exact (by exact opd_pick_t rfl rfl rfl)) ?_
    refine al_d rfl rfl rfl (by exact opd_move rfl rfl) ?_
    refine al_ond rfl rfl rfl (by rfl) rfl rfl (by exact opd_move rfl rfl) ?_
    refine al_ond rfl rfl rfl (by rfl) rfl rfl (by exact opd_eql rfl rfl rfl) ?_
    refine al_d rfl rfl rfl (by exact (by exact opd_pick_t rfl rfl rfl)) ?_
    refine al_d rfl rfl rfl (by exact opd_assign rfl rfl) ?_
    refine al_nil ?_
    refine awp_seq ?_
    refine awp_region ?_
    refine al_d rfl rfl rfl (by exact opd_move rfl rfl) ?_
    refine al_d rfl rfl rfl (by exact opd_move rfl rfl) ?_
    refine al_ond rfl rfl rfl (by rfl) rfl rfl (by exact opd_move rfl rfl) ?_
    refine al_ond rfl rfl rfl (by rfl) rfl rfl (by exact opd_eql rfl rfl rfl) ?_
    refine al_d rfl rfl rfl (by exact (by exact opd_pick_t rfl rfl rfl)) ?_
    refine al_d rfl rfl rfl (by exact opd_move rfl rfl) ?_
    refine al_ond rfl rfl rfl (by rfl) rfl rfl (by exact opd_move rfl rfl) ?_
    refine al_ond rfl rfl rfl (by rfl) rfl rfl (by exact opd_eql rfl rfl rfl) ?_
    refine al_d rfl rfl rfl (by exact (by exact opd_pick_t rfl rfl rfl)) ?_
    refine al_d rfl rfl rfl (by exact opd_move rfl rfl) ?_
    refine al_ond rfl rfl rfl (by rfl) rfl rfl (by exact x_build rfl bo32 rfl rfl) ?_
    refine al_ond rfl rfl rfl (by rfl) rfl rfl (by exact opr_call rfl rfl Tryz.call17 rfl (names_t hN _ (okE0 6 w1 w2 w3) (by show 0 < _; omega))) ?_
    refine al_ond rfl rfl rfl (by rfl) rfl rfl (by exact (by exact x_buildSlice ([st1 98, st1 118, st1 119].map encStr) rfl so27 rfl rfl rfl rfl rfl (by simp [encStr]))) ?_
    refine al_ond rfl rfl rfl (by rfl) rfl rfl (by exact opr_call rfl rfl Tryz.call34 rfl (same06_t (a := [st1 98, st1 118, st1 119]) (b := [st1 98, st1 118, st1 119]) rfl _ (by show 3 < _; omega))) ?_
    refine al_d rfl rfl rfl (by exact (by exact opd_pick_t rfl rfl rfl)) ?_
    refine al_d rfl rfl rfl (by exact opd_assign rfl rfl) ?_
    refine al_nil ?_
    refine awp_ret ?_
    -- return
    refine aret1 (H' := []) (by exact .inr rfl) rfl (rval_tmp rfl) (Fin.wk (by simp) trivial trivial) ?_
    exact ⟨rfl, rfl⟩
end Go.Proofs.YtdcifaldfmpapaaGreat
end
section
set_option linter.unusedVariables false
set_option linter.unusedSimpArgs false
set_option maxRecDepth 100000
namespace Go.Proofs.YtdcifaldfmpapaaGreat
open Go.Abs
def isW (n : Int) : Bool := (isLet n || isDig n) || decide (n = 95)
def badW (s : ByteArray) (k : Nat) : Bool := !isW (byteAt s k)
def rName (s : ByteArray) : Bool := !((List.range s.size).any (badW s)) && (decide ((0 : Int) < (s.size : Int)) && decide ((s.size : Int) ≤ 24) && isLet (byteAt s 0))
end Go.Proofs.YtdcifaldfmpapaaGreat
end
section
set_option linter.unusedVariables false
set_option linter.unusedSimpArgs false
set_option maxRecDepth 100000
namespace Go.Proofs.YtdcifaldfmpapaaGreat
open Go.Abs

def gNum (k n : Int) : Bool := if k = 1 then decide (n = 0) else if k = 2 then decide (2 ≤ n) else if k = 3 then decide (3 ≤ n) else if k = 4 then decide (1 ≤ n) else decide (n = 3)
def rRefs (o : GObj) : Bool := (decide ((o.refs.length : Int) ≤ 2000) && !((List.range o.refs.length).any (wrongAt o))) && gNum o.kind (o.refs.length : Int)
def atO (o : GObj) : Bool := if o.kind = 1 then gOn o.x o.y else (decide (o.x = 0) && decide (o.y = 0))
end Go.Proofs.YtdcifaldfmpapaaGreat
end
section
set_option linter.unusedVariables false
set_option linter.unusedSimpArgs false
set_option maxRecDepth 100000
namespace Go.Proofs.YtdcifaldfmpapaaGreat
open Go.Abs
/-- The k-th elements are equal, for all k below n. -/
def eqTo {α : Type} (e : α → α → Bool) (a b : List α) : Bool := decide (a.length = b.length) && (List.range a.length).all fun k => match a[k]?, b[k]? with | some x, some y => e x y | _, _ => true
def strEq (a b : ByteArray) : Bool := decide (a = b)
def headEq (a b : GObj) : Bool := decide (a.id = b.id) && decide (a.kind = b.kind) && (decide (a.x = b.x) && decide (a.y = b.y)) && decide (a.refs.length = b.refs.length) && decide (a.tags.length = b.tags.length)
def gSameR (a b : GObj) : Bool := headEq a b && (eqTo strEq a.refs b.refs && eqTo tagEq a.tags b.tags)
def headNe (a b : GObj) (n1 n2 n3 n4 : Int) : Bool := !decide (a.id = b.id) || !decide (a.kind = b.kind) || !(decide (a.x = b.x) && decide (a.y = b.y)) || !decide (n1 = n2) || !decide (n3 = n4)
def gSameM (a b : List GObj) : Bool := eqTo gSameR a b
def okL (m : List GObj) : Prop := m.length < 4611686018427387904 ∧ ∀ o ∈ m, o.refs.length < 4611686018427387904 ∧ o.tags.length < 4611686018427387904
end Go.Proofs.YtdcifaldfmpapaaGreat
end
section
set_option linter.unusedVariables false
set_option linter.unusedSimpArgs false
set_option maxRecDepth 100000
namespace Go.Proofs.YtdcifaldfmpapaaGreat
open Go.Abs

theorem putAll_err : ∀ {l m : List GObj}, (putAll m l).2 ≠ 0 → (putAll m l).1 = []
  | [], m, h => absurd rfl h
  | o :: l, m, h => by
    rw [putAll] at h ⊢
    by_cases h0 : (gPutM m o).2 = 0
    · rw [if_neg (by simp [h0])] at h ⊢
      exact putAll_err h
    · rw [if_pos (by simp [h0])]
theorem gDropM_err {m : List GObj} {id : ByteArray} (h : (gDropM m id).2 ≠ 0) : (gDropM m id).1 = [] := by
  unfold gDropM at h ⊢
  split at h
  · rename_i h1; rw [if_pos h1]
  · rename_i h1
    rw [if_neg h1]
    split at h
    · rename_i h2; rw [if_pos h2]
    · exact absurd rfl h
theorem after_err {m : List GObj} {e : GEdit} (h : (gAfter m e).2 ≠ 0) : (gAfter m e).1 = [] := by
  unfold gAfter at h ⊢
  split at h
  · rename_i h1; rw [if_pos h1]
  · rename_i h1
    rw [if_neg h1]
    split at h
    · rename_i h2; rw [if_pos h2]
    · rename_i h2
      rw [if_neg h2]
      split at h
      · rename_i h3; rw [if_pos h3]; exact putAll_err h
      · rename_i h3
        rw [if_neg h3]
        split at h
        · rename_i h4; rw [if_pos h4]; exact gDropM_err h
        · rename_i h4
          exact absurd rfl h
theorem apply_err {m : List GObj} {e : GEdit} (h : (gApply m e).2 ≠ 0) : (gApply m e).1 = [] := by
  unfold gApply at h ⊢
  split at h
  · rename_i h1; rw [if_pos h1]; exact after_err h
  · rename_i h1; rw [if_neg h1]
theorem apply_ok {m : List GObj} {e : GEdit} (hm : okM m) (he : okE e) (h : (gApply m e).2 = 0) : closedB m = true ∧ gEditV e = true ∧ closedB (gApply m e).1 = true ∧ okM (gApply m e).1 := by
  unfold gApply at h ⊢
  split at h
  · rename_i h1
    rw [if_pos h1]
    exact ⟨h1, (eff_of (closed_gMap h1) h).1, after_closed h1 h, after_okM hm (closed_gMap h1) he h⟩
  · cases h
theorem closed21_t {m : List GObj} (h : closedB m = true) (H : Heap) (hm : okM m) : ACalls Tryz.prog 13 [.agg [.pv (slObjs m)]] H (fun r H' => r = bv true ∧ H' = H) := by
  have := closed21_c m H hm
  rwa [h] at this
theorem editV_t {e : GEdit} (h : gEditV e = true) (H : Heap) (he : okE e) : ACalls Tryz.prog 14 [av (encEdit e)] H (fun r H' => r = bv true ∧ H' = H) := by
  have := editValid_c e H he
  rwa [h] at this
theorem mapV_t {m : List GObj} (h : gMap m = true) (H : Heap) (hm : okM m) : ACalls Tryz.prog 15 [.agg [.pv (slObjs m)]] H (fun r H' => r = bv true ∧ H' = H) := by
  have := atlasValid_c m H hm
  rwa [h] at this
theorem find_t {m : List GObj} {s : ByteArray} {k : Nat} (h : gidx (idIs s) m = (k : Int)) (H : Heap) (hm : m.length < 4611686018427387904) : ACalls Tryz.prog 16 [.agg [.pv (slObjs m)], sv s] H (fun r H' => r = iv (k : Int) ∧ H' = H) := by
  have := find_c m s H hm
  rwa [h] at this
theorem ref_at {m : List GObj} (hc : closedB m = true) {o : GObj} (ho : o ∈ m) {q : Nat} {s : ByteArray} (hs : o.refs[q]? = some s) :
    ∃ (k : Nat) (y : GObj), gidx (idIs s) m = (k : Int) ∧ m[k]? = some y ∧ y.kind = gWanted o.kind (q : Int) := by
  have h := (closed_iff.1 hc).2 o ho q s hs
  rcases gidx_cases (idIs s) m with ⟨_, e2⟩ | ⟨k, y, e1, e2, e3⟩
  · rw [kindOf, e2] at h; cases h
  · rw [kindOf, e3] at h
    exact ⟨k, y, e1, e2, Option.some.inj h⟩
theorem editCloses_c (m : List GObj) (x : GEdit) (H : Heap) (hm : okM m) (hml : m.length < 549755813888) (he : okE x) :
    ACalls Tryz.prog 3 [.agg [.pv (slObjs m)], av (encEdit x)] H (fun r H' => r = bv true ∧ H' = H) := by
  refine ACalls.pure ?_ (by simp) H
  have hL : okL m := ⟨hm.1, fun o ho => ⟨(hm.2 o ho).2.2.1, (hm.2 o ho).2.1.1⟩⟩
  have heo : ∀ e, e ∈ [x] → okObj e.obj ∧ e.refs.length < 4611686018427387904 := fun e h => by
    rw [List.mem_singleton] at h
    subst h
    exact ⟨⟨he.2.2.2.2.1, he.2.2.2.1.1⟩, by have := he.2.1.1; omega⟩
  have hap := fun H => apply_c m x H hm he hml
  have hok := fun h => apply_ok (m := m) hm he h
  have her := fun h => apply_err (m := m) (e := x) h
  obtain ⟨a, ha⟩ : ∃ a, a = gApply m x := ⟨_, rfl⟩
  rw [← ha] at hap hok her
  obtain ⟨nx, er⟩ := a
  simp only at hap hok her
  clear ha
  refine ACalls.body Tryz.func3 rfl Tryz.ntmps3 (Nat.le_of_ble_eq_true rfl) ?_
  refine awp_seq ?_
  refine awp_region ?_
  refine al_d rfl rfl rfl (by exact opd_box (id := 2) rfl rfl rfl rfl rfl) ?_
  refine al_d rfl rfl rfl (by exact opd_box (id := 3) rfl rfl rfl rfl rfl) ?_
  refine al_d rfl rfl rfl (by exact opd_assign rfl rfl) ?_
  refine al_nil ?_
  refine awp_seq ?_
  refine awp_region ?_
  refine al_d rfl rfl rfl (by exact opr_call rfl rfl Tryz.call10 rfl (head21_c _)) ?_
  refine al_d rfl rfl rfl (by exact opd_assign rfl rfl) ?_
  refine al_nil ?_
  refine awp_seq ?_
  refine awp_seq ?_
  refine awp_region ?_
  refine al_d rfl rfl rfl (by exact (by exact opd_loadn_ref rfl Tryz.isAgg24 Tryz.sizeOf24 rfl rfl rfl rfl (by simp only [List.drop_succ_cons, List.drop_zero, List.take_succ_cons, List.take_zero, List.take_nil, List.map_cons, List.map_nil, List.set_cons_zero, List.set_cons_succ, List.cons_append, List.nil_append, encTag, encObj, encStr, encEdit, encInt]; rfl) rfl)) ?_
  refine al_d rfl rfl rfl (by exact (by exact opd_loadn_ref rfl Tryz.isAgg32 Tryz.sizeOf32 rfl rfl rfl rfl (by simp only [List.drop_succ_cons, List.drop_zero, List.take_succ_cons, List.take_zero, List.take_nil, List.map_cons, List.map_nil, List.set_cons_zero, List.set_cons_succ, List.cons_append, List.nil_append, encTag, encObj, encStr, encEdit, encInt]; rfl) rfl)) ?_
  refine al_d rfl rfl rfl (by exact (by exact x_buildSlice ([x].map encEdit) rfl so46 rfl rfl rfl rfl rfl (by intro r hr; simp only [List.map_cons, List.map_nil, List.mem_cons, List.not_mem_nil, or_false] at hr; subst hr; rfl))) ?_
  refine al_d rfl rfl rfl (by exact opr_call rfl rfl Tryz.call11 rfl (lawFew21_c m [x] _ hL.1 hL.2 (by show 1 < _; omega) heo)) ?_
  refine al_d rfl rfl rfl (by exact opd_not rfl rfl) ?_
  refine al_nil ?_
  refine awp_cond rfl (fun hc1 => ?_) (fun hc1 => ?_)
  -- cond 1
  · skip
    refine awp_seq ?_
    refine awp_region ?_
    refine al_d rfl rfl rfl (by exact opd_move rfl rfl) ?_
    refine al_d rfl rfl rfl (by exact opd_assign rfl rfl) ?_
    refine al_nil ?_
    refine awp_ret ?_
    -- return
    refine aret1 (H' := []) (by exact .inr rfl) rfl (rval_tmp rfl) (Fin.wk (by simp) trivial trivial) ?_
    exact ⟨rfl, rfl⟩
  · skip
    refine awp_skip ?_
    refine awp_seq ?_
    refine awp_region ?_
    refine al_d rfl rfl rfl (by exact (by exact opd_loadn_ref rfl Tryz.isAgg24 Tryz.sizeOf24 rfl rfl rfl rfl (by simp only [List.drop_succ_cons, List.drop_zero, List.take_succ_cons, List.take_zero, List.take_nil, List.map_cons, List.map_nil, List.set_cons_zero, List.set_cons_succ, List.cons_append, List.nil_append, encTag, encObj, encStr, encEdit, encInt]; rfl) rfl)) ?_
    refine al_d rfl rfl rfl (by exact (by exact opd_loadn_ref rfl Tryz.isAgg32 Tryz.sizeOf32 rfl rfl rfl rfl (by simp only [List.drop_succ_cons, List.drop_zero, List.take_succ_cons, List.take_zero, List.take_nil, List.map_cons, List.map_nil, List.set_cons_zero, List.set_cons_succ, List.cons_append, List.nil_append, encTag, encObj, encStr, encEdit, encInt]; rfl) rfl)) ?_
    refine al_d rfl rfl rfl (by exact opr_call rfl rfl Tryz.call12 rfl (hap _)) ?_
    refine al_d rfl rfl rfl (by exact opd_move rfl rfl) ?_
    refine al_d rfl rfl rfl (by exact opd_extract rfl rfl rfl) ?_
    refine al_d rfl rfl rfl (by exact opd_extract rfl rfl rfl) ?_
    refine al_d rfl rfl rfl (by exact x_alloc (id := 6) rfl zo24 rfl rfl) ?_
    refine al_n rfl rfl (by exact (by exact x_store_all rfl Tryz.sizeOf24 rfl rfl rfl rfl rfl rfl rfl rfl)) ?_
    refine al_d rfl rfl rfl (by exact opd_assign rfl rfl) ?_
    refine al_nil ?_
    refine awp_seq ?_
    refine awp_seq ?_
    refine awp_region ?_
    refine al_d rfl rfl rfl (by exact opd_move rfl rfl) ?_
    refine al_d rfl rfl rfl (by exact opd_neq rfl rfl rfl) ?_
    refine al_nil ?_
    refine awp_cond rfl (fun hc2 => ?_) (fun hc2 => ?_)
    -- cond 2
    · have hne : er ≠ 0 := by
        have h := hc2
        simpa using h
      have hfin : (true && decide (((nx.map encObj).length : Int) = 0)) = true := by rw [her hne]; rfl
      refine awp_seq ?_
      refine awp_bool (t := 4) (n := 9) (X := true && decide (((nx.map encObj).length : Int) = 0)) ?_ ?_
      · all_goals (refine al_d rfl rfl rfl (by exact opd_move rfl rfl) ?_)
        all_goals (refine al_d rfl rfl rfl (by exact opd_move rfl rfl) ?_)
        all_goals (refine al_split (t := 29) rfl (fun h29 => ?_) (fun h29 => ?_))
        all_goals (try contradiction)
        all_goals (refine al_ond rfl rfl rfl rfl rfl rfl (by exact (by exact opd_field_ref rfl fo24_0 rfl rfl rfl rfl)) ?_)
        all_goals (refine al_ond rfl rfl rfl rfl rfl rfl (by exact (by exact opd_load1_ref rfl Tryz.isAgg22 rfl rfl rfl rfl rfl)) ?_)
        all_goals (refine al_ond rfl rfl rfl rfl rfl rfl (by exact (by exact opd_len_sl rfl Tryz.underlying22 rfl)) ?_)
        all_goals (refine al_ond rfl rfl rfl rfl rfl rfl (by exact opd_eql rfl rfl rfl) ?_)
        all_goals (refine al_d rfl rfl rfl (by exact (by exact opd_pick_t rfl rfl rfl)) ?_)
        all_goals (refine al_d rfl rfl rfl (by exact opd_assign rfl rfl) ?_)
        all_goals (refine al_nil ?_)
        all_goals (exact ⟨⟨_, rfl, by rfl⟩, rfl, rfl, rfl⟩)
      refine awp_ret ?_
      -- return
      refine aret1 (H' := []) (by exact .inr rfl) rfl (rval_tmp rfl) (Fin.wk (by simp) trivial trivial) ?_
      exact ⟨by rw [hfin], rfl⟩
    · have h0 : er = 0 := by
        have h := hc2
        simpa using h
      obtain ⟨g1, g2, g3, g4⟩ := hok h0
      have hgn := closed_gMap g3
      have hnl := gMap_small hgn
      have hnml : (nx.map encObj).length = nx.length := List.length_map _
      refine awp_skip ?_
      refine awp_seq ?_
      refine awp_seq ?_
      refine awp_region ?_
      refine al_d rfl rfl rfl (by exact (by exact opd_loadn_ref rfl Tryz.isAgg24 Tryz.sizeOf24 rfl rfl rfl rfl (by simp only [List.drop_succ_cons, List.drop_zero, List.take_succ_cons, List.take_zero, List.take_nil, List.map_cons, List.map_nil, List.set_cons_zero, List.set_cons_succ, List.cons_append, List.nil_append, encTag, encObj, encStr, encEdit, encInt]; rfl) rfl)) ?_
      refine al_d rfl rfl rfl (by exact opr_call rfl rfl Tryz.call13 rfl (closed21_t g1 _ hm)) ?_
      refine al_d rfl rfl rfl (by exact opd_not rfl rfl) ?_
      refine al_d rfl rfl rfl (by exact opd_move rfl rfl) ?_
      refine al_ond rfl rfl rfl (by rfl) rfl rfl (by exact (by exact opd_loadn_ref rfl Tryz.isAgg32 Tryz.sizeOf32 rfl rfl rfl rfl (by simp only [List.drop_succ_cons, List.drop_zero, List.take_succ_cons, List.take_zero, List.take_nil, List.map_cons, List.map_nil, List.set_cons_zero, List.set_cons_succ, List.cons_append, List.nil_append, encTag, encObj, encStr, encEdit, encInt]; rfl) rfl)) ?_
      refine al_ond rfl rfl rfl (by rfl) rfl rfl (by exact opr_call rfl rfl Tryz.call14 rfl (editV_t g2 _ he)) ?_
      refine al_ond rfl rfl rfl (by rfl) rfl rfl (by exact opd_not rfl rfl) ?_
      refine al_d rfl rfl rfl (by exact (by exact opd_pick_f rfl rfl rfl)) ?_
      refine al_d rfl rfl rfl (by exact opd_move rfl rfl) ?_
      refine al_ond rfl rfl rfl (by rfl) rfl rfl (by exact (by exact opd_loadn_ref rfl Tryz.isAgg24 Tryz.sizeOf24 rfl rfl rfl rfl (by simp only [List.drop_succ_cons, List.drop_zero, List.take_succ_cons, List.take_zero, List.take_nil, List.map_cons, List.map_nil, List.set_cons_zero, List.set_cons_succ, List.cons_append, List.nil_append, encTag, encObj, encStr, encEdit, encInt]; rfl) rfl)) ?_
      refine al_ond rfl rfl rfl (by rfl) rfl rfl (by exact opr_call rfl rfl Tryz.call13 rfl (closed21_t g3 _ g4)) ?_
      refine al_ond rfl rfl rfl (by rfl) rfl rfl (by exact opd_not rfl rfl) ?_
      refine al_d rfl rfl rfl (by exact (by exact opd_pick_f rfl rfl rfl)) ?_
      refine al_d rfl rfl rfl (by exact opd_move rfl rfl) ?_
      refine al_ond rfl rfl rfl (by rfl) rfl rfl (by exact (by exact opd_loadn_ref rfl Tryz.isAgg24 Tryz.sizeOf24 rfl rfl rfl rfl (by simp only [List.drop_succ_cons, List.drop_zero, List.take_succ_cons, List.take_zero, List.take_nil, List.map_cons, List.map_nil, List.set_cons_zero, List.set_cons_succ, List.cons_append, List.nil_append, encTag, encObj, encStr, encEdit, encInt]; rfl) rfl)) ?_
      refine al_ond rfl rfl rfl (by rfl) rfl rfl (by exact opr_call rfl rfl Tryz.call15 rfl (mapV_t hgn _ g4)) ?_
      refine al_ond rfl rfl rfl (by rfl) rfl rfl (by exact opd_not rfl rfl) ?_
      refine al_d rfl rfl rfl (by exact (by exact opd_pick_f rfl rfl rfl)) ?_
      refine al_nil ?_
      refine awp_cond rfl (fun hc3 => ?_) (fun hc3 => ?_)
      -- cond 3
      · cases hc3
      · skip
        refine awp_skip ?_
        refine awp_seq ?_
        refine awp_seq ?_
        refine awp_region ?_
        refine al_d rfl rfl rfl (by exact opd_assign rfl rfl) ?_
        refine al_nil ?_
        refine awp_block ?_
        -- loop
        refine awp_loop (σ := Nat) (fun k => ([(5, bv true), (6, .ref 6 0 0 0), (8, iv (k : Int))], [(6, bx 1 24 [.pv (slObjs nx)])])) (fun k => k ≤ nx.length) (fun k => nx.length - k) 0 (by omega) ?_ ?_
        · exact (Ent.wk ⟨⟨_, rfl, rfl⟩, (by (simp; done)), ⟨_, rfl, rfl⟩, (by (simp; rfl)), ⟨_, rfl, rfl⟩, (by (simp; done)), trivial⟩ ⟨⟨_, rfl, rfl⟩, (by (simp; done)), trivial⟩ trivial)
        · rintro k hk
          refine awp_seq ?_
          refine awp_seq ?_
          refine awp_region ?_
          refine al_d rfl rfl rfl (by exact opd_move rfl rfl) ?_
          refine al_d rfl rfl rfl (by exact (by exact opd_field_ref rfl fo24_0 rfl rfl rfl rfl)) ?_
          refine al_d rfl rfl rfl (by exact (by exact opd_load1_ref rfl Tryz.isAgg22 rfl rfl rfl rfl rfl)) ?_
          refine al_d rfl rfl rfl (by exact (by exact opd_len_sl rfl Tryz.underlying22 rfl)) ?_
          refine al_d rfl rfl rfl (by exact opd_lss rfl rfl rfl) ?_
          refine al_nil ?_
          refine awp_cond rfl (fun hc4 => ?_) (fun hc4 => ?_)
          -- cond 4
          · have hlt : k < nx.length := by have := of_decide_eq_true hc4; omega
            obtain ⟨o, hoi⟩ := get_of_lt hlt
            have hi := map_get (f := encObj) hoi
            have hom := List.mem_of_getElem? hoi
            have hrl : (o.refs.map encStr).length = o.refs.length := List.length_map _
            have hrs := (g4.2 o hom).2.2.1
            refine awp_skip ?_
            refine awp_seq ?_
            refine awp_block ?_
            refine awp_seq ?_
            refine awp_region ?_
            refine al_d rfl rfl rfl (by exact (by exact opd_field_ref rfl fo24_0 rfl rfl rfl rfl)) ?_
            refine al_d rfl rfl rfl (by exact (by exact opd_load1_ref rfl Tryz.isAgg22 rfl rfl rfl rfl rfl)) ?_
            refine al_d rfl rfl rfl (by exact opd_move rfl rfl) ?_
            refine al_d rfl rfl rfl (by exact (by exact x_index_pad rfl so22 rfl rfl (by omega) (by exact Int.toNat_natCast _) hi rfl)) ?_
            refine al_d rfl rfl rfl (by exact (by exact opd_loadn_pad rfl Tryz.isAgg30 Tryz.sizeOf30 rfl (by omega) (by simp only [List.drop_succ_cons, List.drop_zero, List.take_succ_cons, List.take_zero, List.take_nil, List.map_cons, List.map_nil, List.set_cons_zero, List.set_cons_succ, List.cons_append, List.nil_append, encTag, encObj, encStr, encEdit, encInt]; rfl) rfl)) ?_
            refine al_d rfl rfl rfl (by exact x_alloc (id := 9) rfl zo30 rfl rfl) ?_
            refine al_n rfl rfl (by exact (by exact x_store_all rfl Tryz.sizeOf30 rfl rfl rfl rfl rfl rfl rfl rfl)) ?_
            refine al_nil ?_
            refine awp_seq ?_
            refine awp_region ?_
            refine al_d rfl rfl rfl (by exact opd_assign rfl rfl) ?_
            refine al_nil ?_
            refine awp_block ?_
            -- loop
            refine awp_loop (σ := Nat) (fun q => ([(5, bv true), (6, .ref 6 0 0 0), (8, iv (k : Int)), (9, .ref 9 0 0 0), (10, iv (q : Int))], [(9, bx 6 30 ((encObj o).map .pv)), (6, bx 1 24 [.pv (slObjs nx)])])) (fun q => q ≤ o.refs.length) (fun q => o.refs.length - q) 0 (by omega) ?_ ?_
            · exact (Ent.wk ⟨⟨_, rfl, rfl⟩, (by (simp; done)), ⟨_, rfl, rfl⟩, (by (simp; rfl)), ⟨_, rfl, rfl⟩, (by (simp; done)), ⟨_, rfl, rfl⟩, (by (simp; rfl)), ⟨_, rfl, rfl⟩, (by (simp; done)), trivial⟩ ⟨⟨_, rfl, rfl⟩, (by (simp; done)), ⟨_, rfl, rfl⟩, (by (simp; done)), trivial⟩ trivial)
            · rintro q hq
              refine awp_seq ?_
              refine awp_seq ?_
              refine awp_region ?_
              refine al_d rfl rfl rfl (by exact opd_move rfl rfl) ?_
              refine al_d rfl rfl rfl (by exact (by exact opd_field_ref rfl fo30_3 rfl rfl rfl rfl)) ?_
              refine al_d rfl rfl rfl (by exact (by exact opd_load1_ref rfl Tryz.isAgg27 rfl rfl rfl rfl rfl)) ?_
              refine al_d rfl rfl rfl (by exact (by exact opd_len_sl rfl Tryz.underlying27 rfl)) ?_
              refine al_d rfl rfl rfl (by exact opd_lss rfl rfl rfl) ?_
              refine al_nil ?_
              refine awp_cond rfl (fun hc5 => ?_) (fun hc5 => ?_)
              -- cond 5
              · have hql : q < o.refs.length := by have := of_decide_eq_true hc5; omega
                obtain ⟨s, hs⟩ := get_of_lt hql
                have hi2 := map_get (f := encStr) hs
                obtain ⟨j, y, e1, e2, e3⟩ := ref_at g3 hom hs
                have hi3 := map_get (f := encObj) e2
                have hjl := (List.getElem?_eq_some_iff.1 e2).1
                have hk0 : decide ((j : Int) < 0) = false := decide_eq_false (by omega)
                have hk1 : decide (((nx.map encObj).length : Int) ≤ (j : Int)) = false := decide_eq_false (by omega)
                refine awp_skip ?_
                refine awp_seq ?_
                refine awp_block ?_
                refine awp_seq ?_
                refine awp_drawc follows ?_
                refine dc_cons (DStep.q rfl (by exact (by exact opd_loadn_ref rfl Tryz.isAgg24 Tryz.sizeOf24 rfl rfl rfl rfl (by simp only [List.drop_succ_cons, List.drop_zero, List.take_succ_cons, List.take_zero, List.take_nil, List.map_cons, List.map_nil, List.set_cons_zero, List.set_cons_succ, List.cons_append, List.nil_append, encTag, encObj, encStr, encEdit, encInt]; rfl) rfl))) rfl ?_
                refine dc_cons (DStep.q rfl (by exact (by exact opd_field_ref rfl fo30_3 rfl rfl rfl rfl))) rfl ?_
                refine dc_cons (DStep.q rfl (by exact (by exact opd_load1_ref rfl Tryz.isAgg27 rfl rfl rfl rfl rfl))) rfl ?_
                refine dc_cons (DStep.q rfl (by exact opd_move rfl rfl)) rfl ?_
                refine dc_cons (DStep.q rfl (by exact (by exact x_index_pad rfl so27 rfl rfl (by omega) (by exact Int.toNat_natCast _) hi2 rfl))) rfl ?_
                refine dc_cons (DStep.q rfl (by exact (by exact opd_load1_pad rfl Tryz.isAgg9 rfl (by omega) rfl))) rfl ?_
                refine dc_cons (DStep.q rfl (by exact opr_call rfl rfl Tryz.call16 rfl (find_t e1 _ (by omega)))) rfl ?_
                refine dc_cons (DStep.q rfl (by exact opd_assign rfl rfl)) rfl ?_
                refine dc_nil ⟨by kernel_rfl, ?_⟩
                refine awp_seq ?_
                refine awp_region ?_
                refine al_d rfl rfl rfl (by exact opd_assign rfl rfl) ?_
                refine al_nil ?_
                refine awp_seq ?_
                refine awp_seq ?_
                refine awp_bool (t := 90) (n := 14) (X := decide (o.kind = 4) || (decide (o.kind = 5) && !decide ((q : Int) = 1))) ?_ ?_
                · all_goals (refine al_d rfl rfl rfl (by exact (by exact opd_field_ref rfl fo30_1 rfl rfl rfl rfl)) ?_)
                  all_goals (refine al_d rfl rfl rfl (by exact (by exact opd_load1_ref rfl Tryz.isAgg3 rfl rfl rfl rfl rfl)) ?_)
                  all_goals (refine al_d rfl rfl rfl (by exact opd_eql rfl rfl rfl) ?_)
                  all_goals (refine al_d rfl rfl rfl (by exact opd_move rfl rfl) ?_)
                  all_goals (refine al_split (t := 82) rfl (fun h82 => ?_) (fun h82 => ?_))
                  all_goals (try contradiction)
                  all_goals (first | refine al_off rfl rfl rfl rfl rfl ?_ | refine al_ond rfl rfl rfl rfl rfl rfl (by exact (by exact opd_field_ref rfl fo30_1 rfl rfl rfl rfl)) ?_)
                  all_goals (first | refine al_off rfl rfl rfl rfl rfl ?_ | refine al_ond rfl rfl rfl rfl rfl rfl (by exact (by exact opd_load1_ref rfl Tryz.isAgg3 rfl rfl rfl rfl rfl)) ?_)
                  all_goals (first | refine al_off rfl rfl rfl rfl rfl ?_ | refine al_ond rfl rfl rfl rfl rfl rfl (by exact opd_eql rfl rfl rfl) ?_)
                  all_goals (first | refine al_off rfl rfl rfl rfl rfl ?_ | refine al_ond rfl rfl rfl rfl rfl rfl (by exact opd_move rfl rfl) ?_)
                  all_goals (first | refine al_split (t := 86) rfl (fun h86 => ?_) (fun h86 => ?_) | refine al_dup (t := 86) rfl ?_)
                  all_goals (try contradiction)
                  all_goals (first | refine al_off rfl rfl rfl rfl rfl ?_ | refine al_offu rfl rfl rfl rfl ?_ | refine al_ond rfl rfl rfl rfl rfl rfl (by exact opd_move rfl rfl) ?_)
                  all_goals (first | refine al_off rfl rfl rfl rfl rfl ?_ | refine al_offu rfl rfl rfl rfl ?_ | refine al_ond rfl rfl rfl rfl rfl rfl (by exact opd_neq rfl rfl rfl) ?_)
                  all_goals (first | refine al_off rfl rfl rfl rfl rfl ?_ | refine al_ond rfl rfl rfl rfl rfl rfl (by exact (by first | exact opd_pick_t rfl rfl rfl | exact opd_pick_f rfl rfl rfl)) ?_)
                  all_goals (refine al_d rfl rfl rfl (by exact (by first | exact opd_pick_t rfl rfl rfl | exact opd_pick_f rfl rfl rfl)) ?_)
                  all_goals (refine al_nil ?_)
                  all_goals (exact ⟨⟨_, rfl, by first | (rw [h82]; rfl) | (rw [h82, h86]; rfl)⟩, rfl, rfl, rfl⟩)
                refine awp_cond rfl (fun hc6 => ?_) (fun hc6 => ?_)
                -- cond 6
                · have hyk : y.kind = 2 := by rw [e3, gWanted, if_pos hc6]
                  have hk2 : (!decide (y.kind = 2)) = false := by rw [hyk]; rfl
                  refine awp_region ?_
                  refine al_d rfl rfl rfl (by exact opd_assign rfl rfl) ?_
                  refine al_nil ?_
                  refine awp_seq ?_
                  refine awp_region ?_
                  refine al_d rfl rfl rfl (by exact opd_move rfl rfl) ?_
                  refine al_d rfl rfl rfl (by exact opd_lss rfl rfl rfl) ?_
                  refine al_d rfl rfl rfl (by exact opd_move rfl rfl) ?_
                  refine al_ond rfl rfl rfl (by rfl) rfl rfl (by exact opd_move rfl rfl) ?_
                  refine al_ond rfl rfl rfl (by rfl) rfl rfl (by exact (by exact opd_field_ref rfl fo24_0 rfl rfl rfl rfl)) ?_
                  refine al_ond rfl rfl rfl (by rfl) rfl rfl (by exact (by exact opd_load1_ref rfl Tryz.isAgg22 rfl rfl rfl rfl rfl)) ?_
                  refine al_ond rfl rfl rfl (by rfl) rfl rfl (by exact (by exact opd_len_sl rfl Tryz.underlying22 rfl)) ?_
                  refine al_ond rfl rfl rfl (by rfl) rfl rfl (by exact opd_geq rfl rfl rfl) ?_
                  refine al_d rfl rfl rfl (by exact (by exact opd_pick_f rfl rfl rfl)) ?_
                  refine al_d rfl rfl rfl (by exact opd_move rfl rfl) ?_
                  refine al_ond rfl rfl rfl (by assumption) rfl rfl (by exact (by exact opd_field_ref rfl fo24_0 rfl rfl rfl rfl)) ?_
                  refine al_ond rfl rfl rfl (by assumption) rfl rfl (by exact (by exact opd_load1_ref rfl Tryz.isAgg22 rfl rfl rfl rfl rfl)) ?_
                  refine al_ond rfl rfl rfl (by assumption) rfl rfl (by exact opd_move rfl rfl) ?_
                  refine al_ond rfl rfl rfl (by assumption) rfl rfl (by exact (by exact x_index_pad rfl so22 rfl rfl (by omega) (by exact Int.toNat_natCast _) hi3 rfl)) ?_
                  refine al_ond rfl rfl rfl (by assumption) rfl rfl (by exact (by exact opd_field_pad rfl fo30_1 rfl rfl)) ?_
                  refine al_ond rfl rfl rfl (by assumption) rfl rfl (by exact (by exact opd_load1_pad rfl Tryz.isAgg3 rfl (by omega) rfl)) ?_
                  refine al_ond rfl rfl rfl (by assumption) rfl rfl (by exact opd_move rfl rfl) ?_
                  refine al_ond rfl rfl rfl (by assumption) rfl rfl (by exact opd_neq rfl rfl rfl) ?_
                  refine al_d rfl rfl rfl (by exact (by exact opd_pickf rfl rfl (by assumption) rfl)) ?_
                  refine al_nil ?_
                  refine awp_cond rfl (fun hc7 => ?_) (fun hc7 => ?_)
                  -- cond 7
                  · (rw [hk2] at hc7; cases hc7)
                  · skip
                    refine awp_skip ?_
                    refine awp_region ?_
                    refine al_d rfl rfl rfl (by exact opd_move rfl rfl) ?_
                    refine al_d rfl rfl rfl (by exact opd_add rfl rfl rfl (by exact w64 (by omega) (by omega))) ?_
                    refine al_d rfl rfl rfl (by exact opd_assign rfl rfl) ?_
                    refine al_nil ?_
                    -- end of a round
                    exact ⟨q + 1, by omega, by omega, (Ent.wk ⟨⟨_, rfl, rfl⟩, (by (simp; done)), ⟨_, rfl, rfl⟩, (by (simp; rfl)), ⟨_, rfl, rfl⟩, (by (simp; done)), ⟨_, rfl, rfl⟩, (by (simp; rfl)), ⟨_, rfl, rfl⟩, (by (simp; done)), trivial⟩ ⟨⟨_, rfl, rfl⟩, (by (simp; done)), ⟨_, rfl, rfl⟩, (by (simp; done)), trivial⟩ trivial)⟩
                · have hyk : y.kind = 1 := by rw [e3, gWanted, hc6]; rfl
                  have hk2 : (!decide (y.kind = 1)) = false := by rw [hyk]; rfl
                  refine awp_skip ?_
                  refine awp_seq ?_
                  refine awp_region ?_
                  refine al_d rfl rfl rfl (by exact opd_move rfl rfl) ?_
                  refine al_d rfl rfl rfl (by exact opd_lss rfl rfl rfl) ?_
                  refine al_d rfl rfl rfl (by exact opd_move rfl rfl) ?_
                  refine al_ond rfl rfl rfl (by rfl) rfl rfl (by exact opd_move rfl rfl) ?_
                  refine al_ond rfl rfl rfl (by rfl) rfl rfl (by exact (by exact opd_field_ref rfl fo24_0 rfl rfl rfl rfl)) ?_
                  refine al_ond rfl rfl rfl (by rfl) rfl rfl (by exact (by exact opd_load1_ref rfl Tryz.isAgg22 rfl rfl rfl rfl rfl)) ?_
                  refine al_ond rfl rfl rfl (by rfl) rfl rfl (by exact (by exact opd_len_sl rfl Tryz.underlying22 rfl)) ?_
                  refine al_ond rfl rfl rfl (by rfl) rfl rfl (by exact opd_geq rfl rfl rfl) ?_
                  refine al_d rfl rfl rfl (by exact (by exact opd_pick_f rfl rfl rfl)) ?_
                  refine al_d rfl rfl rfl (by exact opd_move rfl rfl) ?_
                  refine al_ond rfl rfl rfl (by assumption) rfl rfl (by exact (by exact opd_field_ref rfl fo24_0 rfl rfl rfl rfl)) ?_
                  refine al_ond rfl rfl rfl (by assumption) rfl rfl (by exact (by exact opd_load1_ref rfl Tryz.isAgg22 rfl rfl rfl rfl rfl)) ?_
                  refine al_ond rfl rfl rfl (by assumption) rfl rfl (by exact opd_move rfl rfl) ?_
                  refine al_ond rfl rfl rfl (by assumption) rfl rfl (by exact (by exact x_index_pad rfl so22 rfl rfl (by omega) (by exact Int.toNat_natCast _) hi3 rfl)) ?_
                  refine al_ond rfl rfl rfl (by assumption) rfl rfl (by exact (by exact opd_field_pad rfl fo30_1 rfl rfl)) ?_
                  refine al_ond rfl rfl rfl (by assumption) rfl rfl (by exact (by exact opd_load1_pad rfl Tryz.isAgg3 rfl (by omega) rfl)) ?_
                  refine al_ond rfl rfl rfl (by assumption) rfl rfl (by exact opd_move rfl rfl) ?_
                  refine al_ond rfl rfl rfl (by assumption) rfl rfl (by exact opd_neq rfl rfl rfl) ?_
                  refine al_d rfl rfl rfl (by exact (by exact opd_pickf rfl rfl (by assumption) rfl)) ?_
                  refine al_nil ?_
                  refine awp_cond rfl (fun hc8 => ?_) (fun hc8 => ?_)
                  -- cond 8
                  · (rw [hk2] at hc8; cases hc8)
                  · skip
                    refine awp_skip ?_
                    refine awp_region ?_
                    refine al_d rfl rfl rfl (by exact opd_move rfl rfl) ?_
                    refine al_d rfl rfl rfl (by exact opd_add rfl rfl rfl (by exact w64 (by omega) (by omega))) ?_
                    refine al_d rfl rfl rfl (by exact opd_assign rfl rfl) ?_
                    refine al_nil ?_
                    -- end of a round
                    exact ⟨q + 1, by omega, by omega, (Ent.wk ⟨⟨_, rfl, rfl⟩, (by (simp; done)), ⟨_, rfl, rfl⟩, (by (simp; rfl)), ⟨_, rfl, rfl⟩, (by (simp; done)), ⟨_, rfl, rfl⟩, (by (simp; rfl)), ⟨_, rfl, rfl⟩, (by (simp; done)), trivial⟩ ⟨⟨_, rfl, rfl⟩, (by (simp; done)), ⟨_, rfl, rfl⟩, (by (simp; done)), trivial⟩ trivial)⟩
              · skip
                refine awp_exit ?_
                refine awp_region ?_
                refine al_d rfl rfl rfl (by exact opd_move rfl rfl) ?_
                refine al_d rfl rfl rfl (by exact opd_add rfl rfl rfl (by exact w64 (by omega) (by omega))) ?_
                refine al_d rfl rfl rfl (by exact opd_assign rfl rfl) ?_
                refine al_nil ?_
                -- end of a round
                exact ⟨k + 1, by omega, by omega, (Ent.wk ⟨⟨_, rfl, rfl⟩, (by (simp; done)), ⟨_, rfl, rfl⟩, (by (simp; rfl)), ⟨_, rfl, rfl⟩, (by (simp; done)), trivial⟩ ⟨⟨_, rfl, rfl⟩, (by (simp; done)), trivial⟩ trivial)⟩
          · skip
            refine awp_exit ?_
            refine awp_seq ?_
            refine awp_region ?_
            refine al_d rfl rfl rfl (by exact opd_move rfl rfl) ?_
            refine al_d rfl rfl rfl (by exact opd_assign rfl rfl) ?_
            refine al_nil ?_
            refine awp_ret ?_
            -- return
            refine aret1 (H' := []) (by exact .inr rfl) rfl (rval_tmp rfl) (Fin.wk (by simp) trivial trivial) ?_
            exact ⟨rfl, rfl⟩
end Go.Proofs.YtdcifaldfmpapaaGreat
end
