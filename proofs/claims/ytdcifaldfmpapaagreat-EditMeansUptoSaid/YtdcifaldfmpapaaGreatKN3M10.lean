/-
  CONTRACT: planispherelaw21.head answers true. Conditions: none.
  CONTRACTS: the reference: letters, names, points, words, tags. Conditions: lengths below 2^62.
  CONTRACTS: the reference: references, objects. Conditions: lengths below 2^62.
  CONTRACTS: what is moderate (planisphereref13.Few); objects and maps compared (planisphereref11.Same, 12.Same). Conditions: lengths below 2^62.
  CONTRACT: EditCloses answers true. Conditions: the arguments' sizes.
  PLAIN: what an edit does to the object that it names (for EditMeans). Conditions: none.
  CONTRACT: EditMeans answers true. Conditions: the arguments' sizes.
-/
import Derived.Test.YtdcifaldfmpapaaGreatKN3M9
section
set_option linter.unusedVariables false
set_option linter.unusedSimpArgs false
set_option maxRecDepth 100000
namespace Go.Proofs.YtdcifaldfmpapaaGreat
open Go.Abs

def ed0 (op : Int) (id other node : ByteArray) : GEdit := ⟨op, id, other, node, 0, 0, sNil, sNil, [], zObj⟩
def eS : GEdit := ed0 6 (st1 119) (st1 118) (st1 98)
def eJ : GEdit := ed0 7 (st1 119) (st1 118) sNil
def eB : GEdit := ed0 5 (st1 98) sNil sNil
def eM : GEdit := ed0 2 (st1 119) sNil sNil
def eW : GEdit := ed0 5 (st1 119) sNil sNil
def x1 : List GObj := cs3.map nodeA ++ [⟨st1 118, 2, 0, 0, [st1 98, st1 99], []⟩, ⟨st1 119, 2, 0, 0, [st1 97, st1 98], []⟩]
theorem hS : gApply s0 eS = (x1, 0) := by kernel_rfl
theorem hJ : gApply x1 eJ = (s0, 0) := by kernel_rfl
theorem hB : gApply s0 eB = ([], 14) := by kernel_rfl
theorem hM : gApply s0 eM = ([], 13) := by kernel_rfl
theorem hA : gAll s0 [eW, eW] = ([], 1, 11) := by kernel_rfl
theorem sortS_ofN {l : List ByteArray} (h : (l.map toU).Pairwise (fun x y => decide (x ≤ y) = true)) : sortS l = l := by
  rw [sortS, List.mergeSort_of_pairwise h, map_toU]
theorem hN : gNames eS = [st1 98, st1 118, st1 119] := by
  have h1 : gEditV eS = true := by kernel_rfl
  have h2 : (idsOf eS).filter nonE = [st1 119, st1 118, st1 98] := by kernel_rfl
  rw [gNames, if_pos h1, h2]
  have hp : [st1 119, st1 118, st1 98].Perm [st1 98, st1 118, st1 119] := (List.reverse_perm [st1 119, st1 118, st1 98]).symm
  rw [sortS_eq hp]
  exact sortS_ofN (by decide)
theorem okE0 (op : Int) {id other node : ByteArray} (h1 : id.size < 10) (h2 : other.size < 10) (h3 : node.size < 10) : okE (ed0 op id other node) :=
  ⟨⟨by show id.size < _; omega, by show other.size < _; omega, by show node.size < _; omega, by show 0 < _; omega⟩, ⟨by show 0 < _; omega, fun s hs => by cases hs⟩, ⟨by show 0 < _; omega, ⟨by show 0 < _; omega, fun t ht => by cases ht⟩, by show 0 < _; omega, fun s hs => by cases hs⟩⟩
theorem okO_node (c : UInt8) : okO (nodeA c) := ⟨by show 1 < _; omega, ⟨by show 0 < _; omega, fun t ht => by cases ht⟩, by show 0 < _; omega, fun s hs => by cases hs⟩
theorem okO_way (id : ByteArray) (l : List UInt8) (h1 : id.size < 10) (h2 : l.length < 10) : okO ⟨id, 2, 0, 0, l.map st1, []⟩ :=
  ⟨by show id.size < _; omega, ⟨by show 0 < _; omega, fun t ht => by cases ht⟩, by show (l.map st1).length < _; rw [List.length_map]; omega, fun s hs => by
    obtain ⟨c, _, rfl⟩ := List.mem_map.1 hs
    show 1 < _; omega⟩
theorem okM_s0 : okM s0 := by
  refine ⟨by show 4 < _; omega, fun o ho => ?_⟩
  rcases List.mem_append.1 ho with h | h
  · obtain ⟨c, _, rfl⟩ := List.mem_map.1 h
    exact okO_node c
  · rw [List.mem_singleton] at h
    subst h
    exact okO_way (st1 119) cs3 (by decide) (by decide)
theorem okM_x1 : okM x1 := by
  refine ⟨by show 5 < _; omega, fun o ho => ?_⟩
  rcases List.mem_append.1 ho with h | h
  · obtain ⟨c, _, rfl⟩ := List.mem_map.1 h
    exact okO_node c
  · simp only [List.mem_cons, List.not_mem_nil, or_false] at h
    rcases h with rfl | rfl
    · exact okO_way (st1 118) [98, 99] (by decide) (by decide)
    · exact okO_way (st1 119) [97, 98] (by decide) (by decide)
theorem apply_t {m x : List GObj} {e : GEdit} {n : Int} (h : gApply m e = (x, n)) (H : Heap) (hm : okM m) (he : okE e) (hl : m.length < 549755813888) :
    ACalls Tryz.prog 12 [.agg [.pv (slObjs m)], av (encEdit e)] H (fun r H' => r = .tup [.agg [.pv (slObjs x)], iv n] ∧ H' = H) := by
  have := apply_c m e H hm he hl
  rwa [h] at this
theorem all_t {m x : List GObj} {l : List GEdit} {i n : Int} (h : gAll m l = (x, i, n)) (H : Heap) (hm : okM m) (hl : l.length < 549755813888) (he : ∀ e, e ∈ l → okE e) :
    ACalls Tryz.prog 20 [.agg [.pv (slObjs m)], .pv (slEdits l)] H (fun r H' => r = .tup [.agg [.pv (slObjs x)], iv i, iv n] ∧ H' = H) := by
  have := all_c m l H hm hl he
  rwa [h] at this
theorem names_t {e : GEdit} {l : List ByteArray} (h : gNames e = l) (H : Heap) (he : okE e) (hsz : e.refs.length + e.obj.refs.length < 1099511627776) : ACalls Tryz.prog 17 [av (encEdit e)] H (fun r H' => r = .pv (slStrs l) ∧ H' = H) := by
  have := names_cE e H he hsz
  rwa [h] at this
theorem same06_t {a b : List ByteArray} (h : a = b) (H : Heap) (ha : a.length < 4611686018427387904) : ACalls Tryz.prog 34 [.pv (slStrs a), .pv (slStrs b)] H (fun r H' => r = bv true ∧ H' = H) := by
  have := same06_c a b H ha
  rwa [decide_eq_true h] at this
theorem atlasSame_t {a b : List GObj} (h : a = b) (H : Heap) (ha : okM a) : ACalls Tryz.prog 38 [.agg [.pv (slObjs a)], .agg [.pv (slObjs b)]] H (fun r H' => r = bv true ∧ H' = H) := by
  have := atlasSame_c a b H ha.1 (fun o ho => okS_of (ha.2 o ho))
  rwa [decide_eq_true h] at this
theorem head21_c (H : Heap) : ACalls Tryz.prog 10 [] H (fun r H' => r = bv true ∧ H' = H) := by
  refine ACalls.pure ?_ (by simp) H
  have w1 : (st1 119).size < 10 := by decide
  have w2 : (st1 118).size < 10 := by decide
  have w3 : (st1 98).size < 10 := by decide
  have w4 : sNil.size < 10 := by decide
  have l0 : s0.length < 549755813888 := by show 4 < _; omega
  have l1 : x1.length < 549755813888 := by show 5 < _; omega
  refine ACalls.body Tryz.func10 rfl Tryz.ntmps10 (Nat.le_of_ble_eq_true rfl) ?_
  refine awp_seq ?_
  refine awp_region ?_
  refine al_d rfl rfl rfl (by exact opd_assign rfl rfl) ?_
  refine al_nil ?_
  refine awp_seq ?_
  refine awp_region ?_
  refine al_d rfl rfl rfl (by exact opr_call rfl rfl Tryz.call37 rfl (sample_c _)) ?_
  refine al_d rfl rfl rfl (by exact x_alloc (id := 1) rfl zo24 rfl rfl) ?_
  refine al_n rfl rfl (by exact (by exact x_store_all rfl Tryz.sizeOf24 rfl rfl rfl rfl rfl rfl rfl rfl)) ?_
  refine al_nil ?_
  refine awp_seq ?_
  refine awp_region ?_
  refine al_d rfl rfl rfl (by exact (by exact opd_loadn_ref rfl Tryz.isAgg24 Tryz.sizeOf24 rfl rfl rfl rfl rfl rfl)) ?_
  refine al_d rfl rfl rfl (by exact x_build rfl bo32 rfl rfl) ?_
  refine al_d rfl rfl rfl (by exact opr_call rfl rfl Tryz.call12 rfl (apply_t hS _ okM_s0 (okE0 6 w1 w2 w3) l0)) ?_
  refine al_d rfl rfl rfl (by exact opd_move rfl rfl) ?_
  refine al_d rfl rfl rfl (by exact opd_extract rfl rfl rfl) ?_
  refine al_d rfl rfl rfl (by exact opd_extract rfl rfl rfl) ?_
  refine al_d rfl rfl rfl (by exact x_alloc (id := 2) rfl zo24 rfl rfl) ?_
  refine al_n rfl rfl (by exact (by exact x_store_all rfl Tryz.sizeOf24 rfl rfl rfl rfl rfl rfl rfl rfl)) ?_
  refine al_d rfl rfl rfl (by exact opd_assign rfl rfl) ?_
  refine al_nil ?_
  refine awp_seq ?_
  refine awp_region ?_
  refine al_d rfl rfl rfl (by exact (by exact opd_loadn_ref rfl Tryz.isAgg24 Tryz.sizeOf24 rfl rfl rfl rfl rfl rfl)) ?_
  refine al_d rfl rfl rfl (by exact x_build rfl bo32 rfl rfl) ?_
  refine al_d rfl rfl rfl (by exact opr_call rfl rfl Tryz.call12 rfl (apply_t hJ _ okM_x1 (okE0 7 w1 w2 w4) l1)) ?_
  refine al_d rfl rfl rfl (by exact opd_move rfl rfl) ?_
  refine al_d rfl rfl rfl (by exact opd_extract rfl rfl rfl) ?_
  refine al_d rfl rfl rfl (by exact opd_extract rfl rfl rfl) ?_
  refine al_d rfl rfl rfl (by exact x_alloc (id := 4) rfl zo24 rfl rfl) ?_
  refine al_n rfl rfl (by exact (by exact x_store_all rfl Tryz.sizeOf24 rfl rfl rfl rfl rfl rfl rfl rfl)) ?_
  refine al_d rfl rfl rfl (by exact opd_assign rfl rfl) ?_
  refine al_nil ?_
  refine awp_seq ?_
  refine awp_region ?_
  refine al_d rfl rfl rfl (by exact (by exact opd_loadn_ref rfl Tryz.isAgg24 Tryz.sizeOf24 rfl rfl rfl rfl rfl rfl)) ?_
  refine al_d rfl rfl rfl (by exact x_build rfl bo32 rfl rfl) ?_
  refine al_d rfl rfl rfl (by exact opr_call rfl rfl Tryz.call12 rfl (apply_t hB _ okM_s0 (okE0 5 w3 w4 w4) l0)) ?_
  refine al_d rfl rfl rfl (by exact opd_move rfl rfl) ?_
  refine al_d rfl rfl rfl (by exact opd_extract rfl rfl rfl) ?_
  refine al_d rfl rfl rfl (by exact opd_extract rfl rfl rfl) ?_
  refine al_d rfl rfl rfl (by exact x_alloc (id := 6) rfl zo24 rfl rfl) ?_
  refine al_n rfl rfl (by exact (by exact x_store_all rfl Tryz.sizeOf24 rfl rfl rfl rfl rfl rfl rfl rfl)) ?_
  refine al_d rfl rfl rfl (by exact opd_assign rfl rfl) ?_
  refine al_nil ?_
  refine awp_seq ?_
  refine awp_region ?_
  refine al_d rfl rfl rfl (by exact (by exact opd_loadn_ref rfl Tryz.isAgg24 Tryz.sizeOf24 rfl rfl rfl rfl rfl rfl)) ?_
  refine al_d rfl rfl rfl (by exact x_build rfl bo32 rfl rfl) ?_
  refine al_d rfl rfl rfl (by exact opr_call rfl rfl Tryz.call12 rfl (apply_t hM _ okM_s0 (okE0 2 w1 w4 w4) l0)) ?_
  refine al_d rfl rfl rfl (by exact opd_move rfl rfl) ?_
  refine al_d rfl rfl rfl (by exact opd_extract rfl rfl rfl) ?_
  refine al_d rfl rfl rfl (by exact opd_extract rfl rfl rfl) ?_
  refine al_d rfl rfl rfl (by exact x_alloc (id := 8) rfl zo24 rfl rfl) ?_
  refine al_n rfl rfl (by exact (by exact x_store_all rfl Tryz.sizeOf24 rfl rfl rfl rfl rfl rfl rfl rfl)) ?_
  refine al_d rfl rfl rfl (by exact opd_assign rfl rfl) ?_
  refine al_nil ?_
  refine awp_seq ?_
  refine awp_region ?_
  refine al_d rfl rfl rfl (by exact (by exact opd_loadn_ref rfl Tryz.isAgg24 Tryz.sizeOf24 rfl rfl rfl rfl rfl rfl)) ?_
  refine al_d rfl rfl rfl (by exact x_build rfl bo32 rfl rfl) ?_
  refine al_d rfl rfl rfl (by exact x_build rfl bo32 rfl rfl) ?_
  refine al_d rfl rfl rfl (by exact (by exact x_buildSlice ([eW, eW].map encEdit) rfl so46 rfl rfl rfl rfl rfl (by intro r hr; simp only [List.map_cons, List.map_nil, List.mem_cons, List.not_mem_nil, or_false] at hr; rcases hr with rfl | rfl <;> rfl))) ?_
  refine al_d rfl rfl rfl (by exact opr_call rfl rfl Tryz.call20 rfl (all_t hA _ okM_s0 (by show 2 < _; omega) (by intro e he; simp only [List.mem_cons, List.not_mem_nil, or_false] at he; rcases he with rfl | rfl <;> exact okE0 5 w1 w4 w4))) ?_
  refine al_d rfl rfl rfl (by exact opd_move rfl rfl) ?_
  refine al_d rfl rfl rfl (by exact opd_extract rfl rfl rfl) ?_
  refine al_d rfl rfl rfl (by exact opd_extract rfl rfl rfl) ?_
  refine al_d rfl rfl rfl (by exact opd_extract rfl rfl rfl) ?_
  refine al_d rfl rfl rfl (by exact x_alloc (id := 10) rfl zo24 rfl rfl) ?_
  refine al_n rfl rfl (by exact (by exact x_store_all rfl Tryz.sizeOf24 rfl rfl rfl rfl rfl rfl rfl rfl)) ?_
  refine al_d rfl rfl rfl (by exact opd_assign rfl rfl) ?_
  refine al_d rfl rfl rfl (by exact opd_assign rfl rfl) ?_
  refine al_nil ?_
  refine awp_seq ?_
  refine awp_seq ?_
  refine awp_region ?_
  refine al_d rfl rfl rfl (by exact opd_move rfl rfl) ?_
  refine al_d rfl rfl rfl (by exact opd_neq rfl rfl rfl) ?_
  refine al_d rfl rfl rfl (by exact opd_move rfl rfl) ?_
  refine al_ond rfl rfl rfl (by rfl) rfl rfl (by exact (by exact opd_field_ref rfl fo24_0 rfl rfl rfl rfl)) ?_
  refine al_ond rfl rfl rfl (by rfl) rfl rfl (by exact (by exact opd_load1_ref rfl Tryz.isAgg22 rfl rfl rfl rfl rfl)) ?_
  refine al_ond rfl rfl rfl (by rfl) rfl rfl (by exact (by exact opd_len_sl rfl Tryz.underlying22 rfl)) ?_
  refine al_ond rfl rfl rfl (by rfl) rfl rfl (by exact opd_neq rfl rfl rfl) ?_
  refine al_d rfl rfl rfl (by exact (by exact opd_pick_f rfl rfl rfl)) ?_
  refine al_nil ?_
  refine awp_cond rfl (fun hc1 => ?_) (fun hc1 => ?_)
  -- cond 1
  · cases hc1
  · skip
    have hi3 : (x1.map encObj)[3]? = some (encObj ⟨st1 118, 2, 0, 0, [st1 98, st1 99], []⟩) := rfl
    have hi4 : (x1.map encObj)[4]? = some (encObj ⟨st1 119, 2, 0, 0, [st1 97, st1 98], []⟩) := rfl
    refine awp_skip ?_
    refine awp_seq ?_
    refine awp_region ?_
    refine al_d rfl rfl rfl (by exact (by exact opd_field_ref rfl fo24_0 rfl rfl rfl rfl)) ?_
    refine al_d rfl rfl rfl (by exact (by exact opd_load1_ref rfl Tryz.isAgg22 rfl rfl rfl rfl rfl)) ?_
    refine al_d rfl rfl rfl (by exact (by exact x_index_pad rfl so22 rfl rfl (by omega) (by exact Int.toNat_natCast _) hi3 rfl)) ?_
    refine al_d rfl rfl rfl (by exact (by exact opd_field_pad rfl fo30_3 rfl rfl)) ?_
    refine al_d rfl rfl rfl (by exact (by exact opd_load1_pad rfl Tryz.isAgg27 rfl (by omega) rfl)) ?_
    refine al_d rfl rfl rfl (by exact (by exact x_buildSlice ([st1 98, st1 99].map encStr) rfl so27 rfl rfl rfl rfl rfl (by simp [encStr]))) ?_
    refine al_d rfl rfl rfl (by exact opr_call rfl rfl Tryz.call34 rfl (same06_t (a := [st1 98, st1 99]) (b := [st1 98, st1 99]) rfl _ (by show 2 < _; omega))) ?_
    refine al_d rfl rfl rfl (by exact opd_move rfl rfl) ?_
    refine al_ond rfl rfl rfl (by rfl) rfl rfl (by exact (by exact opd_field_ref rfl fo24_0 rfl rfl rfl rfl)) ?_
    refine al_ond rfl rfl rfl (by rfl) rfl rfl (by exact (by exact opd_load1_ref rfl Tryz.isAgg22 rfl rfl rfl rfl rfl)) ?_
    refine al_ond rfl rfl rfl (by rfl) rfl rfl (by exact (by exact x_index_pad rfl so22 rfl rfl (by omega) (by exact Int.toNat_natCast _) hi4 rfl)) ?_
    refine al_ond rfl rfl rfl (by rfl) rfl rfl (by exact (by exact opd_field_pad rfl fo30_3 rfl rfl)) ?_
    refine al_ond rfl rfl rfl (by rfl) rfl rfl (by exact (by exact opd_load1_pad rfl Tryz.isAgg27 rfl (by omega) rfl)) ?_
    refine al_ond rfl rfl rfl (by rfl) rfl rfl (by exact (by exact x_buildSlice ([st1 97, st1 98].map encStr) rfl so27 rfl rfl rfl rfl rfl (by simp [encStr]))) ?_
    refine al_ond rfl rfl rfl (by rfl) rfl rfl (by exact opr_call rfl rfl Tryz.call34 rfl (same06_t (a := [st1 97, st1 98]) (b := [st1 97, st1 98]) rfl _ (by show 2 < _; omega))) ?_
    refine al_d rfl rfl rfl (by exact (by exact opd_pick_t rfl rfl rfl)) ?_
    refine al_d rfl rfl rfl (by exact opd_move rfl rfl) ?_
    refine al_ond rfl rfl rfl (by rfl) rfl rfl (by exact opd_move rfl rfl) ?_
    refine al_ond rfl rfl rfl (by rfl) rfl rfl (by exact opd_eql rfl rfl rfl) ?_
    refine al_d rfl rfl rfl (by exact (by exact opd_pick_t rfl rfl rfl)) ?_
    refine al_d rfl rfl rfl (by exact opd_move rfl rfl) ?_
    refine al_ond rfl rfl rfl (by rfl) rfl rfl (by exact (by exact opd_loadn_ref rfl Tryz.isAgg24 Tryz.sizeOf24 rfl rfl rfl rfl rfl rfl)) ?_
    refine al_ond rfl rfl rfl (by rfl) rfl rfl (by exact (by exact opd_loadn_ref rfl Tryz.isAgg24 Tryz.sizeOf24 rfl rfl rfl rfl rfl rfl)) ?_
    refine al_ond rfl rfl rfl (by rfl) rfl rfl (by exact opr_call rfl rfl Tryz.call38 rfl (atlasSame_t (a := s0) (b := s0) rfl _ okM_s0)) ?_
    refine al_d rfl rfl rfl (by exact (by exact opd_pick_t rfl rfl rfl)) ?_
    refine al_d rfl rfl rfl (by exact opd_move rfl rfl) ?_
    refine al_ond rfl rfl rfl (by rfl) rfl rfl (by exact opd_move rfl rfl) ?_
    refine al_ond rfl rfl rfl (by rfl) rfl rfl (by exact opd_eql rfl rfl rfl) ?_
    refine al_d rfl rfl rfl (by exact (by exact opd_pick_t rfl rfl rfl)) ?_
    refine al_d rfl rfl rfl (by exact opd_move rfl rfl) ?_
    refine al_ond rfl rfl rfl (by rfl) rfl rfl (by exact opd_move rfl rfl) ?_
    refine al_ond rfl rfl rfl (by rfl) rfl rfl (by exact opd_eql rfl rfl rfl) ?_
    refine al_d rfl rfl rfl (by exact (by exact opd_pick_t rfl rfl rfl)) ?_
    refine al_d rfl rfl rfl (by exact opd_assign rfl rfl) ?_
    refine al_nil ?_
    refine awp_seq ?_
    refine awp_region ?_
    refine al_d rfl rfl rfl (by exact opd_move rfl rfl) ?_
    refine al_d rfl rfl rfl (by exact opd_move rfl rfl) ?_
    refine al_ond rfl rfl rfl (by rfl) rfl rfl (by exact opd_move rfl rfl) ?_
    refine al_ond rfl rfl rfl (by rfl) rfl rfl (by exact opd_eql rfl rfl rfl) ?_
    refine al_d rfl rfl rfl (by exact (by exact opd_pick_t rfl rfl rfl)) ?_
    refine al_d rfl rfl rfl (by exact opd_move rfl rfl) ?_
    refine al_ond rfl rfl rfl (by rfl) rfl rfl (by exact opd_move rfl rfl) ?_
    refine al_ond rfl rfl rfl (by rfl) rfl rfl (by exact opd_eql rfl rfl rfl) ?_
    refine al_d rfl rfl rfl (by exact (by exact opd_pick_t rfl rfl rfl)) ?_
    refine al_d rfl rfl rfl (by exact opd_move rfl rfl) ?_
    refine al_ond rfl rfl rfl (by rfl) rfl rfl (by exact x_build rfl bo32 rfl rfl) ?_
    refine al_ond rfl rfl rfl (by rfl) rfl rfl (by exact opr_call rfl rfl Tryz.call17 rfl (names_t hN _ (okE0 6 w1 w2 w3) (by show 0 < _; omega))) ?_
    refine al_ond rfl rfl rfl (by rfl) rfl rfl (by exact (by exact x_buildSlice ([st1 98, st1 118, st1 119].map encStr) rfl so27 rfl rfl rfl rfl rfl (by simp [encStr]))) ?_
    refine al_ond rfl rfl rfl (by rfl) rfl rfl (by exact opr_call rfl rfl Tryz.call34 rfl (same06_t (a := [st1 98, st1 118, st1 119]) (b := [st1 98, st1 118, st1 119]) rfl _ (by show 3 < _; omega))) ?_
    refine al_d rfl rfl rfl (by exact (by exact opd_pick_t rfl rfl rfl)) ?_
    refine al_d rfl rfl rfl (by exact opd_assign rfl rfl) ?_
    refine al_nil ?_
    refine awp_ret ?_
    -- return
    refine aret1 (H' := []) (by exact .inr rfl) rfl (rval_tmp rfl) (Fin.wk (by simp) trivial trivial) ?_
    exact ⟨rfl, rfl⟩
end Go.Proofs.YtdcifaldfmpapaaGreat
end
section
set_option linter.unusedVariables false
set_option linter.unusedSimpArgs false
set_option maxRecDepth 100000
namespace Go.Proofs.YtdcifaldfmpapaaGreat
open Go.Abs
def isW (n : Int) : Bool := (isLet n || isDig n) || decide (n = 95)
def badW (s : ByteArray) (k : Nat) : Bool := !isW (byteAt s k)
def rName (s : ByteArray) : Bool := !((List.range s.size).any (badW s)) && (decide ((0 : Int) < (s.size : Int)) && decide ((s.size : Int) ≤ 24) && isLet (byteAt s 0))
end Go.Proofs.YtdcifaldfmpapaaGreat
end
section
set_option linter.unusedVariables false
set_option linter.unusedSimpArgs false
set_option maxRecDepth 100000
namespace Go.Proofs.YtdcifaldfmpapaaGreat
open Go.Abs

def gNum (k n : Int) : Bool := if k = 1 then decide (n = 0) else if k = 2 then decide (2 ≤ n) else if k = 3 then decide (3 ≤ n) else if k = 4 then decide (1 ≤ n) else decide (n = 3)
def rRefs (o : GObj) : Bool := (decide ((o.refs.length : Int) ≤ 2000) && !((List.range o.refs.length).any (wrongAt o))) && gNum o.kind (o.refs.length : Int)
def atO (o : GObj) : Bool := if o.kind = 1 then gOn o.x o.y else (decide (o.x = 0) && decide (o.y = 0))
end Go.Proofs.YtdcifaldfmpapaaGreat
end
section
set_option linter.unusedVariables false
set_option linter.unusedSimpArgs false
set_option maxRecDepth 100000
namespace Go.Proofs.YtdcifaldfmpapaaGreat
open Go.Abs
/-- The k-th elements are equal, for all k below n. -/
def eqTo {α : Type} (e : α → α → Bool) (a b : List α) : Bool := decide (a.length = b.length) && (List.range a.length).all fun k => match a[k]?, b[k]? with | some x, some y => e x y | _, _ => true
def strEq (a b : ByteArray) : Bool := decide (a = b)
def headEq (a b : GObj) : Bool := decide (a.id = b.id) && decide (a.kind = b.kind) && (decide (a.x = b.x) && decide (a.y = b.y)) && decide (a.refs.length = b.refs.length) && decide (a.tags.length = b.tags.length)
def gSameR (a b : GObj) : Bool := headEq a b && (eqTo strEq a.refs b.refs && eqTo tagEq a.tags b.tags)
def headNe (a b : GObj) (n1 n2 n3 n4 : Int) : Bool := !decide (a.id = b.id) || !decide (a.kind = b.kind) || !(decide (a.x = b.x) && decide (a.y = b.y)) || !decide (n1 = n2) || !decide (n3 = n4)
def gSameM (a b : List GObj) : Bool := eqTo gSameR a b
def okL (m : List GObj) : Prop := m.length < 4611686018427387904 ∧ ∀ o ∈ m, o.refs.length < 4611686018427387904 ∧ o.tags.length < 4611686018427387904
end Go.Proofs.YtdcifaldfmpapaaGreat
end
section
set_option linter.unusedVariables false
set_option linter.unusedSimpArgs false
set_option maxRecDepth 100000
namespace Go.Proofs.YtdcifaldfmpapaaGreat
open Go.Abs

theorem apply_ok {m : List GObj} {e : GEdit} (hm : okM m) (he : okE e) (h : (gApply m e).2 = 0) : closedB m = true ∧ gEditV e = true ∧ closedB (gApply m e).1 = true ∧ okM (gApply m e).1 := by
  unfold gApply at h ⊢
  split at h
  · rename_i h1
    rw [if_pos h1]
    exact ⟨h1, (eff_of (closed_gMap h1) h).1, after_closed h1 h, after_okM hm (closed_gMap h1) he h⟩
  · cases h
theorem find_t {m : List GObj} {s : ByteArray} {k : Nat} (h : gidx (idIs s) m = (k : Int)) (H : Heap) (hm : m.length < 4611686018427387904) : ACalls Tryz.prog 16 [.agg [.pv (slObjs m)], sv s] H (fun r H' => r = iv (k : Int) ∧ H' = H) := by
  have := find_c m s H hm
  rwa [h] at this
end Go.Proofs.YtdcifaldfmpapaaGreat
end
section
set_option linter.unusedVariables false
set_option linter.unusedSimpArgs false
set_option maxRecDepth 100000
namespace Go.Proofs.YtdcifaldfmpapaaGreat
open Go.Abs
theorem asc_cut {l1 l2 : List GTag} {y : GTag} (h : asc GTag.key (l1 ++ y :: l2)) : ∀ t, t ∈ l1 ++ l2 → t.key ≠ y.key := by
  intro t ht he
  rw [asc, List.pairwise_append] at h
  obtain ⟨_, h2, h3⟩ := h
  rcases List.mem_append.1 ht with h | h
  · have := h3 t h y List.mem_cons_self
    rw [he, slt_irr] at this; cases this
  · have := (List.pairwise_cons.1 h2).1 t h
    rw [he, slt_irr] at this; cases this
/-- The tags after tag.Set: each that has the key has the value; there is one unless the value is empty. -/
theorem set_val {l : List GTag} {key val : ByteArray} (h : (gSet l key val).2 = 0) :
    (∀ t, t ∈ (gSet l key val).1 → t.key = key → t.val = val) ∧ (val ≠ sNil → ∃ t, t ∈ (gSet l key val).1 ∧ t.key = key) := by
  unfold gSet at h ⊢
  by_cases h1 : (!gTags l || !gName key || decide (200 < (val.size : Int))) = true
  · rw [if_pos h1] at h; cases h
  · rw [if_neg h1] at h ⊢
    have hg : gTags l = true := by
      simp only [Bool.or_eq_true, not_or, Bool.not_eq_true', Bool.not_eq_false] at h1
      exact h1.1.1
    have ha := (gTags_iff.1 hg).2.1
    by_cases h2 : hasK GTag.key l key = true
    · rw [if_pos h2]
      obtain ⟨y, hy, hye⟩ := hasK_get (f := GTag.key) ha h2
      have hcut := cut_at hy
      have hno := asc_cut (hcut ▸ ha)
      by_cases h3 : val = sNil
      · rw [if_pos h3]
        exact ⟨fun t ht he => absurd (he.trans hye.symm) (hno t ht), fun hv => absurd h3 hv⟩
      · rw [if_neg h3]
        obtain ⟨hlt, _⟩ := List.getElem?_eq_some_iff.1 hy
        show (∀ t, t ∈ l.set (lbI GTag.key l key) ⟨key, val⟩ → t.key = key → t.val = val) ∧ (val ≠ sNil → ∃ t, t ∈ l.set (lbI GTag.key l key) ⟨key, val⟩ ∧ t.key = key)
        rw [List.set_eq_take_append_cons_drop, if_pos hlt]
        refine ⟨fun t ht he => ?_, fun _ => ⟨⟨key, val⟩, by simp, rfl⟩⟩
        rcases List.mem_append.1 ht with h | h
        · exact absurd (he.trans hye.symm) (hno t (List.mem_append.2 (.inl h)))
        · rcases List.mem_cons.1 h with h | h
          · rw [h]
          · exact absurd (he.trans hye.symm) (hno t (List.mem_append.2 (.inr h)))
    · rw [if_neg h2] at h ⊢
      have hno : ∀ t, t ∈ l → t.key ≠ key := fun t ht he => h2 (by rw [hasK, List.any_eq_true]; exact ⟨t, ht, decide_eq_true he⟩)
      by_cases h3 : val = sNil
      · rw [if_pos h3]
        exact ⟨fun t ht he => absurd he (hno t ht), fun hv => absurd h3 hv⟩
      · rw [if_neg h3] at h ⊢
        by_cases h4 : l.length = 60
        · rw [if_pos h4] at h; cases h
        · rw [if_neg h4]
          refine ⟨fun t ht he => ?_, fun _ => ⟨⟨key, val⟩, by simp, rfl⟩⟩
          rcases List.mem_append.1 ht with h | h
          · exact absurd he (hno t (List.mem_of_mem_take h))
          · rcases List.mem_cons.1 h with h | h
            · rw [h]
            · exact absurd he (hno t (List.mem_of_mem_drop h))
theorem gWo_len {m : List GObj} {id : ByteArray} (hu : ups m) (hf : hasK GObj.id m id = true) : (gWo m id).length + 1 = m.length := by
  obtain ⟨y, hy, _⟩ := hasK_get (f := GObj.id) hu hf
  obtain ⟨hlt, _⟩ := List.getElem?_eq_some_iff.1 hy
  rw [gWo, List.length_append, List.length_take, List.length_drop]
  omega
/-- The old object with what an edit of its kind changes. -/
def Means (nx : List GObj) (e : GEdit) (o o' : GObj) : Prop :=
  (e.op = 2 ∧ o' = ⟨o.id, o.kind, e.x, e.y, o.refs, o.tags⟩) ∨
  (e.op = 3 ∧ o' = ⟨o.id, o.kind, o.x, o.y, o.refs, o'.tags⟩ ∧ (∀ t, t ∈ o'.tags → t.key = e.key → t.val = e.val) ∧ (e.val ≠ sNil → ∃ t, t ∈ o'.tags ∧ t.key = e.key)) ∨
  (e.op = 4 ∧ o' = ⟨o.id, o.kind, o.x, o.y, e.refs, o.tags⟩) ∨
  (e.op = 6 ∧ (∃ y, look nx e.other = some y) ∧ o' = ⟨o.id, o.kind, o.x, o.y, o'.refs, o.tags⟩) ∨
  (e.op = 7 ∧ look nx e.other = none ∧ o' = ⟨o.id, o.kind, o.x, o.y, o'.refs, o.tags⟩)
theorem eff_means {m nx : List GObj} {e : GEdit} (hc : closedB m = true) (h : Eff m e nx) :
    (e.op = 1 ∧ look m e.obj.id = none ∧ look nx e.obj.id = some e.obj) ∨
    (e.op = 5 ∧ (∃ o, look m e.id = some o) ∧ look nx e.id = none ∧ nx.length + 1 = m.length) ∨
    (∃ o o', look m e.id = some o ∧ look nx e.id = some o' ∧ Means nx e o o') := by
  have hg := closed_gMap hc
  have hu := (gMap_iff.1 hg).2.1
  cases h with
  | put ho hn hr hgo hm => exact .inl ⟨ho, hn, by rw [look_with _ _ hu, if_pos rfl]⟩
  | move o ho hl hk hgo hm => exact .inr (.inr ⟨o, _, hl, by rw [look_with _ _ hu, if_pos (look_id hl).symm], .inl ⟨ho, rfl⟩⟩)
  | tag o ho hl hs hgo hm => exact .inr (.inr ⟨o, _, hl, by rw [look_with _ _ hu, if_pos (look_id hl).symm], .inr (.inl ⟨ho, rfl, set_val hs⟩)⟩)
  | refs o ho hl hk hr hgo hm => exact .inr (.inr ⟨o, _, hl, by rw [look_with _ _ hu, if_pos (look_id hl).symm], .inr (.inr (.inl ⟨ho, rfl⟩))⟩)
  | drop o ho hl hr =>
    have hf : hasK GObj.id m e.id = true := by rw [hasK_look, hl]; rfl
    exact .inr (.inl ⟨ho, ⟨o, hl⟩, by rw [look_wo _ hu hf, if_pos rfl], gWo_len hu hf⟩)
  | split o k ho hl hk hn hi hr hm =>
    have hne : e.id ≠ e.other := fun h => by rw [h, hn] at hl; cases hl
    have hu2 : ups (gWith m ⟨o.id, o.kind, o.x, o.y, o.refs.take (k + 1), o.tags⟩) := gWith_ups hu
    exact .inr (.inr ⟨o, _, hl, by rw [look_with _ _ hu2, if_neg hne, look_with _ _ hu, if_pos (look_id hl).symm], .inr (.inr (.inr (.inl ⟨ho, ⟨_, by rw [look_with _ _ hu2, if_pos rfl]⟩, rfl⟩)))⟩)
  | join o x ho hl hk hx hk2 hne he hr hlen hm =>
    have hu2 := (gMap_iff.1 hm).2.1
    have hf : hasK GObj.id (gWith m ⟨o.id, o.kind, o.x, o.y, o.refs ++ x.refs.drop 1, o.tags⟩) e.other = true := by
      rw [hasK_look, look_with _ _ hu]
      split
      · rfl
      · rw [hx]; rfl
    exact .inr (.inr ⟨o, _, hl, by rw [look_wo _ hu2 hf, if_neg hne, look_with _ _ hu, if_pos (look_id hl).symm], .inr (.inr (.inr (.inr ⟨ho, by rw [look_wo _ hu2 hf, if_pos rfl], rfl⟩)))⟩)
end Go.Proofs.YtdcifaldfmpapaaGreat
end
section
set_option linter.unusedVariables false
set_option linter.unusedSimpArgs false
set_option maxRecDepth 100000
namespace Go.Proofs.YtdcifaldfmpapaaGreat
open Go.Abs

theorem apply_eff {m : List GObj} {e : GEdit} (h : (gApply m e).2 = 0) : Eff m e (gApply m e).1 := by
  unfold gApply at h ⊢
  split at h
  · rename_i h1
    rw [if_pos h1]
    exact (eff_of (closed_gMap h1) h).2
  · cases h
theorem sameO_t {a b : GObj} (h : a = b) (H : Heap) (ha : okO a) : ACalls Tryz.prog 21 [av (encObj a), av (encObj b)] H (fun r H' => r = bv true ∧ H' = H) := by
  have := sameO_c a b H (okS_of ha)
  rwa [gSameO_iff.2 h] at this
theorem find_neg {m : List GObj} {s : ByteArray} (h : look m s = none) (H : Heap) (hm : m.length < 4611686018427387904) : ACalls Tryz.prog 16 [.agg [.pv (slObjs m)], sv s] H (fun r H' => r = iv (-1) ∧ H' = H) := by
  have := find_c m s H hm
  rcases gidx_cases (idIs s) m with ⟨e1, _⟩ | ⟨_, _, _, _, e3⟩
  · rwa [e1] at this
  · rw [show m.find? (idIs s) = look m s from rfl, h] at e3; cases e3
theorem look_at {m : List GObj} {s : ByteArray} {o : GObj} (h : look m s = some o) : ∃ k : Nat, gidx (idIs s) m = (k : Int) ∧ m[k]? = some o := by
  rcases gidx_cases (idIs s) m with ⟨_, e2⟩ | ⟨k, y, e1, e2, e3⟩
  · rw [show m.find? (idIs s) = look m s from rfl, h] at e2; cases e2
  · rw [show m.find? (idIs s) = look m s from rfl, h] at e3
    cases e3
    exact ⟨k, e1, e2⟩
theorem editMeans_c (m : List GObj) (x : GEdit) (H : Heap) (hm : okM m) (hml : m.length < 549755813888) (he : okE x) :
    ACalls Tryz.prog 6 [.agg [.pv (slObjs m)], av (encEdit x)] H (fun r H' => r = bv true ∧ H' = H) := by
  refine ACalls.pure ?_ (by simp) H
  have hL : okL m := ⟨hm.1, fun o ho => ⟨(hm.2 o ho).2.2.1, (hm.2 o ho).2.1.1⟩⟩
  have heo : ∀ e, e ∈ [x] → okObj e.obj ∧ e.refs.length < 4611686018427387904 := fun e h => by
    rw [List.mem_singleton] at h
    subst h
    exact ⟨⟨he.2.2.2.2.1, he.2.2.2.1.1⟩, by have := he.2.1.1; omega⟩
  have hmm : (m.map encObj).length = m.length := List.length_map _
  have hap := fun H => apply_c m x H hm he hml
  have hok := fun h => apply_ok (m := m) hm he h
  have hef := fun h => apply_eff (m := m) (e := x) h
  obtain ⟨a, ha⟩ : ∃ a, a = gApply m x := ⟨_, rfl⟩
  rw [← ha] at hap hok hef
  obtain ⟨nx, er⟩ := a
  simp only at hap hok hef
  clear ha
  refine ACalls.body Tryz.func6 rfl Tryz.ntmps6 (Nat.le_of_ble_eq_true rfl) ?_
  refine awp_seq ?_
  refine awp_region ?_
  refine al_d rfl rfl rfl (by exact opd_box (id := 2) rfl rfl rfl rfl rfl) ?_
  refine al_d rfl rfl rfl (by exact opd_box (id := 3) rfl rfl rfl rfl rfl) ?_
  refine al_d rfl rfl rfl (by exact opd_assign rfl rfl) ?_
  refine al_nil ?_
  refine awp_seq ?_
  refine awp_region ?_
  refine al_d rfl rfl rfl (by exact opr_call rfl rfl Tryz.call10 rfl (head21_c _)) ?_
  refine al_d rfl rfl rfl (by exact opd_assign rfl rfl) ?_
  refine al_nil ?_
  refine awp_seq ?_
  refine awp_seq ?_
  refine awp_region ?_
  refine al_d rfl rfl rfl (by exact (by exact opd_loadn_ref rfl Tryz.isAgg24 Tryz.sizeOf24 rfl rfl rfl rfl (by simp only [List.drop_succ_cons, List.drop_zero, List.take_succ_cons, List.take_zero, List.take_nil, List.map_cons, List.map_nil, List.set_cons_zero, List.set_cons_succ, List.cons_append, List.nil_append, encTag, encObj, encStr, encEdit, encInt]; rfl) rfl)) ?_
  refine al_d rfl rfl rfl (by exact (by exact opd_loadn_ref rfl Tryz.isAgg32 Tryz.sizeOf32 rfl rfl rfl rfl (by simp only [List.drop_succ_cons, List.drop_zero, List.take_succ_cons, List.take_zero, List.take_nil, List.map_cons, List.map_nil, List.set_cons_zero, List.set_cons_succ, List.cons_append, List.nil_append, encTag, encObj, encStr, encEdit, encInt]; rfl) rfl)) ?_
  refine al_d rfl rfl rfl (by exact (by exact x_buildSlice ([x].map encEdit) rfl so46 rfl rfl rfl rfl rfl (by intro r hr; simp only [List.map_cons, List.map_nil, List.mem_cons, List.not_mem_nil, or_false] at hr; subst hr; rfl))) ?_
  refine al_d rfl rfl rfl (by exact opr_call rfl rfl Tryz.call11 rfl (lawFew21_c m [x] _ hL.1 hL.2 (by show 1 < _; omega) heo)) ?_
  refine al_d rfl rfl rfl (by exact opd_not rfl rfl) ?_
  refine al_nil ?_
  refine awp_cond rfl (fun hc1 => ?_) (fun hc1 => ?_)
  -- cond 1
  · skip
    refine awp_seq ?_
    refine awp_region ?_
    refine al_d rfl rfl rfl (by exact opd_move rfl rfl) ?_
    refine al_d rfl rfl rfl (by exact opd_assign rfl rfl) ?_
    refine al_nil ?_
    refine awp_ret ?_
    -- return
    refine aret1 (H' := []) (by exact .inr rfl) rfl (rval_tmp rfl) (Fin.wk (by simp) trivial trivial) ?_
    exact ⟨rfl, rfl⟩
  · skip
    refine awp_skip ?_
    refine awp_seq ?_
    refine awp_region ?_
    refine al_d rfl rfl rfl (by exact (by exact opd_loadn_ref rfl Tryz.isAgg24 Tryz.sizeOf24 rfl rfl rfl rfl (by simp only [List.drop_succ_cons, List.drop_zero, List.take_succ_cons, List.take_zero, List.take_nil, List.map_cons, List.map_nil, List.set_cons_zero, List.set_cons_succ, List.cons_append, List.nil_append, encTag, encObj, encStr, encEdit, encInt]; rfl) rfl)) ?_
    refine al_d rfl rfl rfl (by exact (by exact opd_loadn_ref rfl Tryz.isAgg32 Tryz.sizeOf32 rfl rfl rfl rfl (by simp only [List.drop_succ_cons, List.drop_zero, List.take_succ_cons, List.take_zero, List.take_nil, List.map_cons, List.map_nil, List.set_cons_zero, List.set_cons_succ, List.cons_append, List.nil_append, encTag, encObj, encStr, encEdit, encInt]; rfl) rfl)) ?_
    refine al_d rfl rfl rfl (by exact opr_call rfl rfl Tryz.call12 rfl (hap _)) ?_
    refine al_d rfl rfl rfl (by exact opd_move rfl rfl) ?_
    refine al_d rfl rfl rfl (by exact opd_extract rfl rfl rfl) ?_
    refine al_d rfl rfl rfl (by exact opd_extract rfl rfl rfl) ?_
    refine al_d rfl rfl rfl (by exact x_alloc (id := 6) rfl zo24 rfl rfl) ?_
    refine al_n rfl rfl (by exact (by exact x_store_all rfl Tryz.sizeOf24 rfl rfl rfl rfl rfl rfl rfl rfl)) ?_
    refine al_d rfl rfl rfl (by exact opd_assign rfl rfl) ?_
    refine al_nil ?_
    refine awp_seq ?_
    refine awp_seq ?_
    refine awp_region ?_
    refine al_d rfl rfl rfl (by exact opd_move rfl rfl) ?_
    refine al_d rfl rfl rfl (by exact opd_neq rfl rfl rfl) ?_
    refine al_nil ?_
    refine awp_cond rfl (fun hc2 => ?_) (fun hc2 => ?_)
    -- cond 2
    · skip
      refine awp_seq ?_
      refine awp_region ?_
      refine al_d rfl rfl rfl (by exact opd_move rfl rfl) ?_
      refine al_d rfl rfl rfl (by exact opd_assign rfl rfl) ?_
      refine al_nil ?_
      refine awp_ret ?_
      -- return
      refine aret1 (H' := []) (by exact .inr rfl) rfl (rval_tmp rfl) (Fin.wk (by simp) trivial trivial) ?_
      exact ⟨rfl, rfl⟩
    · have h0 : er = 0 := by
        have h := hc2
        simpa using h
      obtain ⟨g1, g2, g3, g4⟩ := hok h0
      have hgn := closed_gMap g3
      have hnl := gMap_small hgn
      have hnml : (nx.map encObj).length = nx.length := List.length_map _
      rcases eff_means g1 (hef h0) with ⟨hop, b1, b2⟩ | ⟨hop, ⟨o, b1⟩, b2, b3⟩ | ⟨o, o', b1, b2, b3⟩
      · obtain ⟨j, j1, j2⟩ := look_at b2
        have hjl := (List.getElem?_eq_some_iff.1 j2).1
        have hi := map_get (f := encObj) j2
        have k1 : (!(decide ((-1 : Int) < 0) == decide (x.op = 1))) = false := by rw [hop]; rfl
        have k2 : (!(decide ((j : Int) < 0) == decide (x.op = 5))) = false := by rw [hop, decide_eq_false (show ¬ (j : Int) < 0 by omega)]; rfl
        have k3 : decide (((m.map encObj).length : Int) ≤ -1) = false := decide_eq_false (by omega)
        have k4 : decide (((nx.map encObj).length : Int) ≤ (j : Int)) = false := decide_eq_false (by omega)
        refine awp_skip ?_
        refine awp_seq ?_
        refine awp_region ?_
        refine al_d rfl rfl rfl (by exact (by exact opd_field_ref rfl fo32_1 rfl rfl rfl rfl)) ?_
        refine al_d rfl rfl rfl (by exact (by exact opd_load1_ref rfl Tryz.isAgg9 rfl rfl rfl rfl rfl)) ?_
        refine al_d rfl rfl rfl (by exact opd_assign rfl rfl) ?_
        refine al_nil ?_
        refine awp_seq ?_
        refine awp_seq ?_
        refine awp_region ?_
        refine al_d rfl rfl rfl (by exact (by exact opd_field_ref rfl fo32_0 rfl rfl rfl rfl)) ?_
        refine al_d rfl rfl rfl (by exact (by exact opd_load1_ref rfl Tryz.isAgg3 rfl rfl rfl rfl rfl)) ?_
        refine al_d rfl rfl rfl (by exact opd_eql rfl rfl rfl) ?_
        refine al_nil ?_
        refine awp_cond rfl (fun hc3 => ?_) (fun hc3 => ?_)
        -- cond 3
        · skip
          refine awp_region ?_
          refine al_d rfl rfl rfl (by exact (by exact opd_field_ref rfl fo32_8 rfl rfl rfl rfl)) ?_
          refine al_d rfl rfl rfl (by exact (by exact opd_field_ref rfl fo30_0 rfl rfl rfl rfl)) ?_
          refine al_d rfl rfl rfl (by exact (by exact opd_load1_ref rfl Tryz.isAgg9 rfl rfl rfl rfl rfl)) ?_
          refine al_d rfl rfl rfl (by exact opd_assign rfl rfl) ?_
          refine al_nil ?_
          refine awp_seq ?_
          refine awp_drawc follows ?_
          refine dc_cons (DStep.q rfl (by exact (by exact opd_loadn_ref rfl Tryz.isAgg24 Tryz.sizeOf24 rfl rfl rfl rfl (by simp only [List.drop_succ_cons, List.drop_zero, List.take_succ_cons, List.take_zero, List.take_nil, List.map_cons, List.map_nil, List.set_cons_zero, List.set_cons_succ, List.cons_append, List.nil_append, encTag, encObj, encStr, encEdit, encInt]; rfl) rfl))) rfl ?_
          refine dc_cons (DStep.q rfl (by exact opd_move rfl rfl)) rfl ?_
          refine dc_cons (DStep.q rfl (by exact opr_call rfl rfl Tryz.call16 rfl (find_neg b1 _ hm.1))) rfl ?_
          refine dc_cons (DStep.q rfl (by exact (by exact opd_loadn_ref rfl Tryz.isAgg24 Tryz.sizeOf24 rfl rfl rfl rfl (by simp only [List.drop_succ_cons, List.drop_zero, List.take_succ_cons, List.take_zero, List.take_nil, List.map_cons, List.map_nil, List.set_cons_zero, List.set_cons_succ, List.cons_append, List.nil_append, encTag, encObj, encStr, encEdit, encInt]; rfl) rfl))) rfl ?_
          refine dc_cons (DStep.q rfl (by exact opd_move rfl rfl)) rfl ?_
          refine dc_cons (DStep.q rfl (by exact opr_call rfl rfl Tryz.call16 rfl (find_t j1 _ (by omega)))) rfl ?_
          refine dc_cons (DStep.q rfl (by exact opd_assign rfl rfl)) rfl ?_
          refine dc_cons (DStep.q rfl (by exact opd_assign rfl rfl)) rfl ?_
          refine dc_nil ⟨by kernel_rfl, ?_⟩
          refine awp_seq ?_
          refine awp_seq ?_
          refine awp_region ?_
          refine al_d rfl rfl rfl (by exact opd_move rfl rfl) ?_
          refine al_d rfl rfl rfl (by exact opd_lss rfl rfl rfl) ?_
          refine al_d rfl rfl rfl (by exact (by exact opd_field_ref rfl fo32_0 rfl rfl rfl rfl)) ?_
          refine al_d rfl rfl rfl (by exact (by exact opd_load1_ref rfl Tryz.isAgg3 rfl rfl rfl rfl rfl)) ?_
          refine al_d rfl rfl rfl (by exact opd_eql rfl rfl rfl) ?_
          refine al_d rfl rfl rfl (by exact opd_bneq rfl Tryz.underlying4 rfl rfl) ?_
          refine al_d rfl rfl rfl (by exact opd_move rfl rfl) ?_
          refine al_ond rfl rfl rfl (by assumption) rfl rfl (by exact opd_move rfl rfl) ?_
          refine al_ond rfl rfl rfl (by assumption) rfl rfl (by exact opd_lss rfl rfl rfl) ?_
          refine al_ond rfl rfl rfl (by assumption) rfl rfl (by exact (by exact opd_field_ref rfl fo32_0 rfl rfl rfl rfl)) ?_
          refine al_ond rfl rfl rfl (by assumption) rfl rfl (by exact (by exact opd_load1_ref rfl Tryz.isAgg3 rfl rfl rfl rfl rfl)) ?_
          refine al_ond rfl rfl rfl (by assumption) rfl rfl (by exact opd_eql rfl rfl rfl) ?_
          refine al_ond rfl rfl rfl (by assumption) rfl rfl (by exact opd_bneq rfl Tryz.underlying4 rfl rfl) ?_
          refine al_d rfl rfl rfl (by exact (by exact opd_pickf rfl rfl (by assumption) rfl)) ?_
          refine al_d rfl rfl rfl (by exact opd_move rfl rfl) ?_
          refine al_ond rfl rfl rfl (by assumption) rfl rfl (by exact opd_move rfl rfl) ?_
          refine al_ond rfl rfl rfl (by assumption) rfl rfl (by exact (by exact opd_field_ref rfl fo24_0 rfl rfl rfl rfl)) ?_
          refine al_ond rfl rfl rfl (by assumption) rfl rfl (by exact (by exact opd_load1_ref rfl Tryz.isAgg22 rfl rfl rfl rfl rfl)) ?_
          refine al_ond rfl rfl rfl (by assumption) rfl rfl (by exact (by exact opd_len_sl rfl Tryz.underlying22 rfl)) ?_
          refine al_ond rfl rfl rfl (by assumption) rfl rfl (by exact opd_geq rfl rfl rfl) ?_
          refine al_d rfl rfl rfl (by exact (by exact opd_pickf rfl rfl (by assumption) rfl)) ?_
          refine al_d rfl rfl rfl (by exact opd_move rfl rfl) ?_
          refine al_ond rfl rfl rfl (by assumption) rfl rfl (by exact opd_move rfl rfl) ?_
          refine al_ond rfl rfl rfl (by assumption) rfl rfl (by exact (by exact opd_field_ref rfl fo24_0 rfl rfl rfl rfl)) ?_
          refine al_ond rfl rfl rfl (by assumption) rfl rfl (by exact (by exact opd_load1_ref rfl Tryz.isAgg22 rfl rfl rfl rfl rfl)) ?_
          refine al_ond rfl rfl rfl (by assumption) rfl rfl (by exact (by exact opd_len_sl rfl Tryz.underlying22 rfl)) ?_
          refine al_ond rfl rfl rfl (by assumption) rfl rfl (by exact opd_geq rfl rfl rfl) ?_
          refine al_d rfl rfl rfl (by exact (by exact opd_pickf rfl rfl (by assumption) rfl)) ?_
          refine al_nil ?_
          refine awp_cond rfl (fun hc4 => ?_) (fun hc4 => ?_)
          -- cond 4
          · (rw [k4] at hc4; cases hc4)
          · skip
            refine awp_skip ?_
            refine awp_seq ?_
            refine awp_seq ?_
            refine awp_region ?_
            refine al_d rfl rfl rfl (by exact opd_move rfl rfl) ?_
            refine al_d rfl rfl rfl (by exact opd_lss rfl rfl rfl) ?_
            refine al_nil ?_
            refine awp_cond rfl (fun hc5 => ?_) (fun hc5 => ?_)
            -- cond 5
            · skip
              refine awp_seq ?_
              refine awp_drawc follows ?_
              refine dc_cons (DStep.q rfl (by exact opd_move rfl rfl)) rfl ?_
              refine dc_cons (DStep.q rfl (by exact opd_move rfl rfl)) rfl ?_
              refine dc_cons (q_on_t rfl rfl rfl (by rfl) (by exact (by exact opd_field_ref rfl fo24_0 rfl rfl rfl rfl))) rfl ?_
              refine dc_cons (q_on_t rfl rfl rfl (by rfl) (by exact (by exact opd_load1_ref rfl Tryz.isAgg22 rfl rfl rfl rfl rfl))) rfl ?_
              refine dc_cons (q_on_t rfl rfl rfl (by rfl) (by exact opd_move rfl rfl)) rfl ?_
              refine dc_cons (q_on_t rfl rfl rfl (by rfl) (by exact (by exact x_index_pad rfl so22 rfl rfl (by omega) (by exact Int.toNat_natCast _) hi rfl))) rfl ?_
              refine dc_cons (q_on_t rfl rfl rfl (by rfl) (by exact (by exact opd_loadn_pad rfl Tryz.isAgg30 Tryz.sizeOf30 rfl hi (by simp only [List.drop_succ_cons, List.drop_zero, List.take_succ_cons, List.take_zero, List.take_nil, List.map_cons, List.map_nil, List.set_cons_zero, List.set_cons_succ, List.cons_append, List.nil_append, encTag, encObj, encStr, encEdit, encInt]; rfl) rfl))) rfl ?_
              refine dc_cons (q_on_t rfl rfl rfl (by rfl) (by exact (by exact opd_field_ref rfl fo32_8 rfl rfl rfl rfl))) rfl ?_
              refine dc_cons (q_on_t rfl rfl rfl (by rfl) (by exact (by exact opd_loadn_ref rfl Tryz.isAgg30 Tryz.sizeOf30 rfl rfl rfl rfl (by simp only [List.drop_succ_cons, List.drop_zero, List.take_succ_cons, List.take_zero, List.take_nil, List.map_cons, List.map_nil, List.set_cons_zero, List.set_cons_succ, List.cons_append, List.nil_append, encTag, encObj, encStr, encEdit, encInt]; rfl) rfl))) rfl ?_
              refine dc_cons (q_on_t rfl rfl rfl (by rfl) (by exact opr_call rfl rfl Tryz.call21 rfl (sameO_t rfl _ he.2.2))) rfl ?_
              refine dc_cons (DStep.q rfl (by exact (by exact opd_pick_t rfl rfl rfl))) rfl ?_
              refine dc_cons (DStep.q rfl (by exact opd_assign rfl rfl)) rfl ?_
              refine dc_nil ⟨by kernel_rfl, ?_⟩
              refine awp_ret ?_
              -- return
              refine aret1 (H' := []) (by exact .inr rfl) rfl (rval_tmp rfl) (Fin.wk (by simp) trivial trivial) ?_
              exact ⟨rfl, rfl⟩
            · cases hc5
        · exact absurd hc3 (by rw [hop]; decide)
      · obtain ⟨j, j1, j2⟩ := look_at b1
        have hjl := (List.getElem?_eq_some_iff.1 j2).1
        have hi := map_get (f := encObj) j2
        have k1 : (!(decide ((j : Int) < 0) == decide (x.op = 1))) = false := by rw [hop, decide_eq_false (show ¬ (j : Int) < 0 by omega)]; rfl
        have k2 : (!(decide ((-1 : Int) < 0) == decide (x.op = 5))) = false := by rw [hop]; rfl
        have k3 : decide (((m.map encObj).length : Int) ≤ (j : Int)) = false := decide_eq_false (by omega)
        have k4 : decide (((nx.map encObj).length : Int) ≤ -1) = false := decide_eq_false (by omega)
        refine awp_skip ?_
        refine awp_seq ?_
        refine awp_region ?_
        refine al_d rfl rfl rfl (by exact (by exact opd_field_ref rfl fo32_1 rfl rfl rfl rfl)) ?_
        refine al_d rfl rfl rfl (by exact (by exact opd_load1_ref rfl Tryz.isAgg9 rfl rfl rfl rfl rfl)) ?_
        refine al_d rfl rfl rfl (by exact opd_assign rfl rfl) ?_
        refine al_nil ?_
        refine awp_seq ?_
        refine awp_seq ?_
        refine awp_region ?_
        refine al_d rfl rfl rfl (by exact (by exact opd_field_ref rfl fo32_0 rfl rfl rfl rfl)) ?_
        refine al_d rfl rfl rfl (by exact (by exact opd_load1_ref rfl Tryz.isAgg3 rfl rfl rfl rfl rfl)) ?_
        refine al_d rfl rfl rfl (by exact opd_eql rfl rfl rfl) ?_
        refine al_nil ?_
        refine awp_cond rfl (fun hc6 => ?_) (fun hc6 => ?_)
        -- cond 6
        · exact absurd hc6 (by rw [hop]; decide)
        · skip
          refine awp_skip ?_
          refine awp_seq ?_
          refine awp_drawc follows ?_
          refine dc_cons (DStep.q rfl (by exact (by exact opd_loadn_ref rfl Tryz.isAgg24 Tryz.sizeOf24 rfl rfl rfl rfl (by simp only [List.drop_succ_cons, List.drop_zero, List.take_succ_cons, List.take_zero, List.take_nil, List.map_cons, List.map_nil, List.set_cons_zero, List.set_cons_succ, List.cons_append, List.nil_append, encTag, encObj, encStr, encEdit, encInt]; rfl) rfl))) rfl ?_
          refine dc_cons (DStep.q rfl (by exact opd_move rfl rfl)) rfl ?_
          refine dc_cons (DStep.q rfl (by exact opr_call rfl rfl Tryz.call16 rfl (find_t j1 _ (by omega)))) rfl ?_
          refine dc_cons (DStep.q rfl (by exact (by exact opd_loadn_ref rfl Tryz.isAgg24 Tryz.sizeOf24 rfl rfl rfl rfl (by simp only [List.drop_succ_cons, List.drop_zero, List.take_succ_cons, List.take_zero, List.take_nil, List.map_cons, List.map_nil, List.set_cons_zero, List.set_cons_succ, List.cons_append, List.nil_append, encTag, encObj, encStr, encEdit, encInt]; rfl) rfl))) rfl ?_
          refine dc_cons (DStep.q rfl (by exact opd_move rfl rfl)) rfl ?_
          refine dc_cons (DStep.q rfl (by exact opr_call rfl rfl Tryz.call16 rfl (find_neg b2 _ (by omega)))) rfl ?_
          refine dc_cons (DStep.q rfl (by exact opd_assign rfl rfl)) rfl ?_
          refine dc_cons (DStep.q rfl (by exact opd_assign rfl rfl)) rfl ?_
          refine dc_nil ⟨by kernel_rfl, ?_⟩
          refine awp_seq ?_
          refine awp_seq ?_
          refine awp_region ?_
          refine al_d rfl rfl rfl (by exact opd_move rfl rfl) ?_
          refine al_d rfl rfl rfl (by exact opd_lss rfl rfl rfl) ?_
          refine al_d rfl rfl rfl (by exact (by exact opd_field_ref rfl fo32_0 rfl rfl rfl rfl)) ?_
          refine al_d rfl rfl rfl (by exact (by exact opd_load1_ref rfl Tryz.isAgg3 rfl rfl rfl rfl rfl)) ?_
          refine al_d rfl rfl rfl (by exact opd_eql rfl rfl rfl) ?_
          refine al_d rfl rfl rfl (by exact opd_bneq rfl Tryz.underlying4 rfl rfl) ?_
          refine al_d rfl rfl rfl (by exact opd_move rfl rfl) ?_
          refine al_ond rfl rfl rfl (by assumption) rfl rfl (by exact opd_move rfl rfl) ?_
          refine al_ond rfl rfl rfl (by assumption) rfl rfl (by exact opd_lss rfl rfl rfl) ?_
          refine al_ond rfl rfl rfl (by assumption) rfl rfl (by exact (by exact opd_field_ref rfl fo32_0 rfl rfl rfl rfl)) ?_
          refine al_ond rfl rfl rfl (by assumption) rfl rfl (by exact (by exact opd_load1_ref rfl Tryz.isAgg3 rfl rfl rfl rfl rfl)) ?_
          refine al_ond rfl rfl rfl (by assumption) rfl rfl (by exact opd_eql rfl rfl rfl) ?_
          refine al_ond rfl rfl rfl (by assumption) rfl rfl (by exact opd_bneq rfl Tryz.underlying4 rfl rfl) ?_
          refine al_d rfl rfl rfl (by exact (by exact opd_pickf rfl rfl (by assumption) rfl)) ?_
          refine al_d rfl rfl rfl (by exact opd_move rfl rfl) ?_
          refine al_ond rfl rfl rfl (by assumption) rfl rfl (by exact opd_move rfl rfl) ?_
          refine al_ond rfl rfl rfl (by assumption) rfl rfl (by exact (by exact opd_field_ref rfl fo24_0 rfl rfl rfl rfl)) ?_
          refine al_ond rfl rfl rfl (by assumption) rfl rfl (by exact (by exact opd_load1_ref rfl Tryz.isAgg22 rfl rfl rfl rfl rfl)) ?_
          refine al_ond rfl rfl rfl (by assumption) rfl rfl (by exact (by exact opd_len_sl rfl Tryz.underlying22 rfl)) ?_
          refine al_ond rfl rfl rfl (by assumption) rfl rfl (by exact opd_geq rfl rfl rfl) ?_
          refine al_d rfl rfl rfl (by exact (by exact opd_pickf rfl rfl (by assumption) rfl)) ?_
          refine al_d rfl rfl rfl (by exact opd_move rfl rfl) ?_
          refine al_ond rfl rfl rfl (by assumption) rfl rfl (by exact opd_move rfl rfl) ?_
          refine al_ond rfl rfl rfl (by assumption) rfl rfl (by exact (by exact opd_field_ref rfl fo24_0 rfl rfl rfl rfl)) ?_
          refine al_ond rfl rfl rfl (by assumption) rfl rfl (by exact (by exact opd_load1_ref rfl Tryz.isAgg22 rfl rfl rfl rfl rfl)) ?_
          refine al_ond rfl rfl rfl (by assumption) rfl rfl (by exact (by exact opd_len_sl rfl Tryz.underlying22 rfl)) ?_
          refine al_ond rfl rfl rfl (by assumption) rfl rfl (by exact opd_geq rfl rfl rfl) ?_
          refine al_d rfl rfl rfl (by exact (by exact opd_pickf rfl rfl (by assumption) rfl)) ?_
          refine al_nil ?_
          refine awp_cond rfl (fun hc7 => ?_) (fun hc7 => ?_)
          -- cond 7
          · (rw [k4] at hc7; cases hc7)
          · skip
            refine awp_skip ?_
            refine awp_seq ?_
            refine awp_seq ?_
            refine awp_region ?_
            refine al_d rfl rfl rfl (by exact opd_move rfl rfl) ?_
            refine al_d rfl rfl rfl (by exact opd_lss rfl rfl rfl) ?_
            refine al_nil ?_
            refine awp_cond rfl (fun hc8 => ?_) (fun hc8 => ?_)
            -- cond 8
            · exact absurd hc8 (by rw [decide_eq_false (show ¬ (j : Int) < 0 by omega)]; decide)
            · skip
              refine awp_skip ?_
              refine awp_seq ?_
              refine awp_seq ?_
              refine awp_region ?_
              refine al_d rfl rfl rfl (by exact opd_move rfl rfl) ?_
              refine al_d rfl rfl rfl (by exact opd_lss rfl rfl rfl) ?_
              refine al_nil ?_
              refine awp_cond rfl (fun hc9 => ?_) (fun hc9 => ?_)
              -- cond 9
              · have hfin : decide (((nx.map encObj).length : Int) = ((m.map encObj).length : Int) - 1) = true := decide_eq_true (by omega)
                refine awp_seq ?_
                refine awp_region ?_
                refine al_d rfl rfl rfl (by exact opd_move rfl rfl) ?_
                refine al_d rfl rfl rfl (by exact opd_move rfl rfl) ?_
                refine al_ond rfl rfl rfl (by rfl) rfl rfl (by exact (by exact opd_field_ref rfl fo24_0 rfl rfl rfl rfl)) ?_
                refine al_ond rfl rfl rfl (by rfl) rfl rfl (by exact (by exact opd_load1_ref rfl Tryz.isAgg22 rfl rfl rfl rfl rfl)) ?_
                refine al_ond rfl rfl rfl (by rfl) rfl rfl (by exact (by exact opd_len_sl rfl Tryz.underlying22 rfl)) ?_
                refine al_ond rfl rfl rfl (by rfl) rfl rfl (by exact (by exact opd_field_ref rfl fo24_0 rfl rfl rfl rfl)) ?_
                refine al_ond rfl rfl rfl (by rfl) rfl rfl (by exact (by exact opd_load1_ref rfl Tryz.isAgg22 rfl rfl rfl rfl rfl)) ?_
                refine al_ond rfl rfl rfl (by rfl) rfl rfl (by exact (by exact opd_len_sl rfl Tryz.underlying22 rfl)) ?_
                refine al_ond rfl rfl rfl (by rfl) rfl rfl (by exact opd_sub rfl rfl rfl (by exact w64 (by omega) (by omega))) ?_
                refine al_ond rfl rfl rfl (by rfl) rfl rfl (by exact opd_eql rfl rfl rfl) ?_
                refine al_d rfl rfl rfl (by exact (by exact opd_pick_t rfl rfl rfl)) ?_
                refine al_d rfl rfl rfl (by exact opd_assign rfl rfl) ?_
                refine al_nil ?_
                refine awp_ret ?_
                -- return
                refine aret1 (H' := []) (by exact .inr rfl) rfl (rval_tmp rfl) (Fin.wk (by simp) trivial trivial) ?_
                exact ⟨by rw [hfin], rfl⟩
              · cases hc9
      · obtain ⟨j, j1, j2⟩ := look_at b1
        obtain ⟨k, i1, i2⟩ := look_at b2
        have hjl := (List.getElem?_eq_some_iff.1 j2).1
        have hkl := (List.getElem?_eq_some_iff.1 i2).1
        have hi := map_get (f := encObj) j2
        have hi2 := map_get (f := encObj) i2
        have hn : x.op ≠ 1 ∧ x.op ≠ 5 := by
          rcases b3 with ⟨h, _⟩ | ⟨h, _⟩ | ⟨h, _⟩ | ⟨h, _⟩ | ⟨h, _⟩ <;> rw [h] <;> decide
        have hj0 : ¬ (j : Int) < 0 := by omega
        have hk0 : ¬ (k : Int) < 0 := by omega
        have k1 : (!(decide ((j : Int) < 0) == decide (x.op = 1))) = false := by rw [decide_eq_false hj0, decide_eq_false hn.1]; rfl
        have k2 : (!(decide ((k : Int) < 0) == decide (x.op = 5))) = false := by rw [decide_eq_false hk0, decide_eq_false hn.2]; rfl
        have k3 : decide (((m.map encObj).length : Int) ≤ (j : Int)) = false := decide_eq_false (by omega)
        have k4 : decide (((nx.map encObj).length : Int) ≤ (k : Int)) = false := decide_eq_false (by omega)
        refine awp_skip ?_
        refine awp_seq ?_
        refine awp_region ?_
        refine al_d rfl rfl rfl (by exact (by exact opd_field_ref rfl fo32_1 rfl rfl rfl rfl)) ?_
        refine al_d rfl rfl rfl (by exact (by exact opd_load1_ref rfl Tryz.isAgg9 rfl rfl rfl rfl rfl)) ?_
        refine al_d rfl rfl rfl (by exact opd_assign rfl rfl) ?_
        refine al_nil ?_
        refine awp_seq ?_
        refine awp_seq ?_
        refine awp_region ?_
        refine al_d rfl rfl rfl (by exact (by exact opd_field_ref rfl fo32_0 rfl rfl rfl rfl)) ?_
        refine al_d rfl rfl rfl (by exact (by exact opd_load1_ref rfl Tryz.isAgg3 rfl rfl rfl rfl rfl)) ?_
        refine al_d rfl rfl rfl (by exact opd_eql rfl rfl rfl) ?_
        refine al_nil ?_
        refine awp_cond rfl (fun hc10 => ?_) (fun hc10 => ?_)
        -- cond 10
        · exact absurd (of_decide_eq_true hc10) hn.1
        · skip
          refine awp_skip ?_
          refine awp_seq ?_
          refine awp_drawc follows ?_
          refine dc_cons (DStep.q rfl (by exact (by exact opd_loadn_ref rfl Tryz.isAgg24 Tryz.sizeOf24 rfl rfl rfl rfl (by simp only [List.drop_succ_cons, List.drop_zero, List.take_succ_cons, List.take_zero, List.take_nil, List.map_cons, List.map_nil, List.set_cons_zero, List.set_cons_succ, List.cons_append, List.nil_append, encTag, encObj, encStr, encEdit, encInt]; rfl) rfl))) rfl ?_
          refine dc_cons (DStep.q rfl (by exact opd_move rfl rfl)) rfl ?_
          refine dc_cons (DStep.q rfl (by exact opr_call rfl rfl Tryz.call16 rfl (find_t j1 _ (by omega)))) rfl ?_
          refine dc_cons (DStep.q rfl (by exact (by exact opd_loadn_ref rfl Tryz.isAgg24 Tryz.sizeOf24 rfl rfl rfl rfl (by simp only [List.drop_succ_cons, List.drop_zero, List.take_succ_cons, List.take_zero, List.take_nil, List.map_cons, List.map_nil, List.set_cons_zero, List.set_cons_succ, List.cons_append, List.nil_append, encTag, encObj, encStr, encEdit, encInt]; rfl) rfl))) rfl ?_
          refine dc_cons (DStep.q rfl (by exact opd_move rfl rfl)) rfl ?_
          refine dc_cons (DStep.q rfl (by exact opr_call rfl rfl Tryz.call16 rfl (find_t i1 _ (by omega)))) rfl ?_
          refine dc_cons (DStep.q rfl (by exact opd_assign rfl rfl)) rfl ?_
          refine dc_cons (DStep.q rfl (by exact opd_assign rfl rfl)) rfl ?_
          refine dc_nil ⟨by kernel_rfl, ?_⟩
          refine awp_seq ?_
          refine awp_seq ?_
          refine awp_region ?_
          refine al_d rfl rfl rfl (by exact opd_move rfl rfl) ?_
          refine al_d rfl rfl rfl (by exact opd_lss rfl rfl rfl) ?_
          refine al_d rfl rfl rfl (by exact (by exact opd_field_ref rfl fo32_0 rfl rfl rfl rfl)) ?_
          refine al_d rfl rfl rfl (by exact (by exact opd_load1_ref rfl Tryz.isAgg3 rfl rfl rfl rfl rfl)) ?_
          refine al_d rfl rfl rfl (by exact opd_eql rfl rfl rfl) ?_
          refine al_d rfl rfl rfl (by exact opd_bneq rfl Tryz.underlying4 rfl rfl) ?_
          refine al_d rfl rfl rfl (by exact opd_move rfl rfl) ?_
          refine al_ond rfl rfl rfl (by assumption) rfl rfl (by exact opd_move rfl rfl) ?_
          refine al_ond rfl rfl rfl (by assumption) rfl rfl (by exact opd_lss rfl rfl rfl) ?_
          refine al_ond rfl rfl rfl (by assumption) rfl rfl (by exact (by exact opd_field_ref rfl fo32_0 rfl rfl rfl rfl)) ?_
          refine al_ond rfl rfl rfl (by assumption) rfl rfl (by exact (by exact opd_load1_ref rfl Tryz.isAgg3 rfl rfl rfl rfl rfl)) ?_
          refine al_ond rfl rfl rfl (by assumption) rfl rfl (by exact opd_eql rfl rfl rfl) ?_
          refine al_ond rfl rfl rfl (by assumption) rfl rfl (by exact opd_bneq rfl Tryz.underlying4 rfl rfl) ?_
          refine al_d rfl rfl rfl (by exact (by exact opd_pickf rfl rfl (by assumption) rfl)) ?_
          refine al_d rfl rfl rfl (by exact opd_move rfl rfl) ?_
          refine al_ond rfl rfl rfl (by assumption) rfl rfl (by exact opd_move rfl rfl) ?_
          refine al_ond rfl rfl rfl (by assumption) rfl rfl (by exact (by exact opd_field_ref rfl fo24_0 rfl rfl rfl rfl)) ?_
          refine al_ond rfl rfl rfl (by assumption) rfl rfl (by exact (by exact opd_load1_ref rfl Tryz.isAgg22 rfl rfl rfl rfl rfl)) ?_
          refine al_ond rfl rfl rfl (by assumption) rfl rfl (by exact (by exact opd_len_sl rfl Tryz.underlying22 rfl)) ?_
          refine al_ond rfl rfl rfl (by assumption) rfl rfl (by exact opd_geq rfl rfl rfl) ?_
          refine al_d rfl rfl rfl (by exact (by exact opd_pickf rfl rfl (by assumption) rfl)) ?_
          refine al_d rfl rfl rfl (by exact opd_move rfl rfl) ?_
          refine al_ond rfl rfl rfl (by assumption) rfl rfl (by exact opd_move rfl rfl) ?_
          refine al_ond rfl rfl rfl (by assumption) rfl rfl (by exact (by exact opd_field_ref rfl fo24_0 rfl rfl rfl rfl)) ?_
          refine al_ond rfl rfl rfl (by assumption) rfl rfl (by exact (by exact opd_load1_ref rfl Tryz.isAgg22 rfl rfl rfl rfl rfl)) ?_
          refine al_ond rfl rfl rfl (by assumption) rfl rfl (by exact (by exact opd_len_sl rfl Tryz.underlying22 rfl)) ?_
          refine al_ond rfl rfl rfl (by assumption) rfl rfl (by exact opd_geq rfl rfl rfl) ?_
          refine al_d rfl rfl rfl (by exact (by exact opd_pickf rfl rfl (by assumption) rfl)) ?_
          refine al_nil ?_
          refine awp_cond rfl (fun hc11 => ?_) (fun hc11 => ?_)
          -- cond 11
          · (rw [k4] at hc11; cases hc11)
          · skip
            refine awp_skip ?_
            refine awp_seq ?_
            refine awp_seq ?_
            refine awp_region ?_
            refine al_d rfl rfl rfl (by exact opd_move rfl rfl) ?_
            refine al_d rfl rfl rfl (by exact opd_lss rfl rfl rfl) ?_
            refine al_nil ?_
            refine awp_cond rfl (fun hc12 => ?_) (fun hc12 => ?_)
            -- cond 12
            · exact absurd (of_decide_eq_true hc12) hj0
            · skip
              refine awp_skip ?_
              refine awp_seq ?_
              refine awp_seq ?_
              refine awp_region ?_
              refine al_d rfl rfl rfl (by exact opd_move rfl rfl) ?_
              refine al_d rfl rfl rfl (by exact opd_lss rfl rfl rfl) ?_
              refine al_nil ?_
              refine awp_cond rfl (fun hc13 => ?_) (fun hc13 => ?_)
              -- cond 13
              · exact absurd (of_decide_eq_true hc13) hk0
              · skip
                refine awp_skip ?_
                refine awp_seq ?_
                refine awp_drawc follows ?_
                refine dc_cons (r := ⟨_, some [2], []⟩) (DStep.plain rfl (fun H1 hH => by exact (by exact opd_field_ref rfl fo24_0 rfl ((hH _ rfl).trans rfl) rfl rfl))) rfl ?_
                refine dc_cons (r := ⟨_, some [2], []⟩) (DStep.plain rfl (fun H1 hH => by exact (by exact opd_load1_ref rfl Tryz.isAgg22 rfl ((hH _ rfl).trans rfl) rfl rfl rfl))) rfl ?_
                refine dc_cons (r := ⟨_, some [], []⟩) (DStep.plain rfl (fun H1 hH => by exact opd_move rfl rfl)) rfl ?_
                refine dc_cons (r := ⟨_, some [], []⟩) (DStep.plain rfl (fun H1 hH => by exact (by exact x_index_pad rfl so22 rfl rfl (by omega) (by exact Int.toNat_natCast _) hi rfl))) rfl ?_
                refine dc_cons (r := ⟨_, some [], []⟩) (DStep.plain rfl (fun H1 hH => by exact (by exact opd_loadn_pad rfl Tryz.isAgg30 Tryz.sizeOf30 rfl hi (by simp only [List.drop_succ_cons, List.drop_zero, List.take_succ_cons, List.take_zero, List.take_nil, List.map_cons, List.map_nil, List.set_cons_zero, List.set_cons_succ, List.cons_append, List.nil_append, encTag, encObj, encStr, encEdit, encInt]; rfl) rfl))) rfl ?_
                refine dc_cons (r := ⟨_, some [6], []⟩) (DStep.plain rfl (fun H1 hH => by exact (by exact opd_field_ref rfl fo24_0 rfl ((hH _ rfl).trans rfl) rfl rfl))) rfl ?_
                refine dc_cons (r := ⟨_, some [6], []⟩) (DStep.plain rfl (fun H1 hH => by exact (by exact opd_load1_ref rfl Tryz.isAgg22 rfl ((hH _ rfl).trans rfl) rfl rfl rfl))) rfl ?_
                refine dc_cons (r := ⟨_, some [], []⟩) (DStep.plain rfl (fun H1 hH => by exact opd_move rfl rfl)) rfl ?_
                refine dc_cons (r := ⟨_, some [], []⟩) (DStep.plain rfl (fun H1 hH => by exact (by exact x_index_pad rfl so22 rfl rfl (by omega) (by exact Int.toNat_natCast _) hi2 rfl))) rfl ?_
                refine dc_cons (r := ⟨_, some [], []⟩) (DStep.plain rfl (fun H1 hH => by exact (by exact opd_loadn_pad rfl Tryz.isAgg30 Tryz.sizeOf30 rfl hi2 (by simp only [List.drop_succ_cons, List.drop_zero, List.take_succ_cons, List.take_zero, List.take_nil, List.map_cons, List.map_nil, List.set_cons_zero, List.set_cons_succ, List.cons_append, List.nil_append, encTag, encObj, encStr, encEdit, encInt]; rfl) rfl))) rfl ?_
                refine dc_cons (r := ⟨_, some [11], [_]⟩) (DStep.plain rfl (fun H1 hH => by exact x_alloc (id := 11) rfl zo30 rfl ((hH _ rfl).trans rfl))) rfl ?_
                refine dc_cons (r := ⟨_, some [12], [_]⟩) (DStep.plain rfl (fun H1 hH => by exact x_alloc (id := 12) rfl zo30 rfl ((hH _ rfl).trans rfl))) rfl ?_
                refine dc_cons (r := ⟨_, some [11], [_]⟩) (DStep.plain rfl (fun H1 hH => by exact (by exact x_store_all rfl Tryz.sizeOf30 rfl rfl rfl rfl ((hH _ rfl).trans rfl) rfl rfl rfl))) rfl ?_
                refine dc_cons (r := ⟨_, some [12], [_]⟩) (DStep.plain rfl (fun H1 hH => by exact (by exact x_store_all rfl Tryz.sizeOf30 rfl rfl rfl rfl ((hH _ rfl).trans rfl) rfl rfl rfl))) rfl ?_
                refine dc_nil ⟨by kernel_rfl, ?_⟩
                refine awp_seq ?_
                refine awp_seq ?_
                -- before the slot
                have hom' := g4.2 o' (List.mem_of_getElem? i2)
                rcases b3 with ⟨hop, hob⟩ | ⟨hop, hob, t1, t2⟩ | ⟨hop, hob⟩ | ⟨hop, ⟨y, hy⟩, hob⟩ | ⟨hop, hy, hob⟩
                · have k6 : decide (x.op = 6) = false := by rw [hop]; rfl
                  refine awp_region ?_
                  refine al_d rfl rfl rfl (by exact (by exact opd_field_ref rfl fo32_0 rfl rfl rfl rfl)) ?_
                  refine al_d rfl rfl rfl (by exact (by exact opd_load1_ref rfl Tryz.isAgg3 rfl rfl rfl rfl rfl)) ?_
                  refine al_d rfl rfl rfl (by exact opd_eql rfl rfl rfl) ?_
                  refine al_nil ?_
                  refine awp_cond rfl (fun hc14 => ?_) (fun hc14 => ?_)
                  -- cond 14
                  · skip
                    refine awp_region ?_
                    refine al_d rfl rfl rfl (by exact (by exact opd_field_ref rfl fo32_4 rfl rfl rfl rfl)) ?_
                    refine al_d rfl rfl rfl (by exact (by exact opd_loadn_ref rfl Tryz.isAgg26 Tryz.sizeOf26 rfl rfl rfl rfl (by simp only [List.drop_succ_cons, List.drop_zero, List.take_succ_cons, List.take_zero, List.take_nil, List.map_cons, List.map_nil, List.set_cons_zero, List.set_cons_succ, List.cons_append, List.nil_append, encTag, encObj, encStr, encEdit, encInt]; rfl) rfl)) ?_
                    refine al_d rfl rfl rfl (by exact (by exact opd_field_ref rfl fo30_2 rfl rfl rfl rfl)) ?_
                    refine al_n rfl rfl (by exact (by exact x_store rfl Tryz.sizeOf26 rfl rfl rfl rfl rfl rfl rfl (by simp only [List.length_cons, List.length_nil]; omega) (by simp only [List.drop_succ_cons, List.drop_zero, List.take_succ_cons, List.take_zero, List.take_nil, List.map_cons, List.map_nil, List.set_cons_zero, List.set_cons_succ, List.cons_append, List.nil_append, encTag, encObj, encStr, encEdit, encInt]; rfl) (by simp only [List.drop_succ_cons, List.drop_zero, List.take_succ_cons, List.take_zero, List.take_nil, List.map_cons, List.map_nil, List.set_cons_zero, List.set_cons_succ, List.cons_append, List.nil_append, encTag, encObj, encStr, encEdit, encInt]; rfl))) ?_
                    refine al_nil ?_
                    refine awp_seq ?_
                    refine awp_seq ?_
                    refine awp_region ?_
                    refine al_d rfl rfl rfl (by exact (by exact opd_field_ref rfl fo32_0 rfl rfl rfl rfl)) ?_
                    refine al_d rfl rfl rfl (by exact (by exact opd_load1_ref rfl Tryz.isAgg3 rfl rfl rfl rfl rfl)) ?_
                    refine al_d rfl rfl rfl (by exact opd_eql rfl rfl rfl) ?_
                    refine al_nil ?_
                    refine awp_cond rfl (fun hc15 => ?_) (fun hc15 => ?_)
                    -- cond 15
                    · skip
                      exact absurd (of_decide_eq_true hc15) (by rw [hop]; decide)
                    · skip
                      refine awp_skip ?_
                      refine awp_seq ?_
                      refine awp_seq ?_
                      refine awp_region ?_
                      refine al_d rfl rfl rfl (by exact (by exact opd_field_ref rfl fo32_0 rfl rfl rfl rfl)) ?_
                      refine al_d rfl rfl rfl (by exact (by exact opd_load1_ref rfl Tryz.isAgg3 rfl rfl rfl rfl rfl)) ?_
                      refine al_d rfl rfl rfl (by exact opd_eql rfl rfl rfl) ?_
                      refine al_nil ?_
                      refine awp_cond rfl (fun hc16 => ?_) (fun hc16 => ?_)
                      -- cond 16
                      · skip
                        exact absurd (of_decide_eq_true hc16) (by rw [hop]; decide)
                      · skip
                        refine awp_skip ?_
                        refine awp_seq ?_
                        refine awp_seq ?_
                        refine awp_region ?_
                        refine al_d rfl rfl rfl (by exact (by exact opd_field_ref rfl fo32_0 rfl rfl rfl rfl)) ?_
                        refine al_d rfl rfl rfl (by exact (by exact opd_load1_ref rfl Tryz.isAgg3 rfl rfl rfl rfl rfl)) ?_
                        refine al_d rfl rfl rfl (by exact opd_eql rfl rfl rfl) ?_
                        refine al_d rfl rfl rfl (by exact opd_move rfl rfl) ?_
                        refine al_ond rfl rfl rfl (by assumption) rfl rfl (by exact (by exact opd_field_ref rfl fo32_0 rfl rfl rfl rfl)) ?_
                        refine al_ond rfl rfl rfl (by assumption) rfl rfl (by exact (by exact opd_load1_ref rfl Tryz.isAgg3 rfl rfl rfl rfl rfl)) ?_
                        refine al_ond rfl rfl rfl (by assumption) rfl rfl (by exact opd_eql rfl rfl rfl) ?_
                        refine al_d rfl rfl rfl (by exact (by exact opd_pickf rfl rfl (by assumption) rfl)) ?_
                        refine al_nil ?_
                        refine awp_cond rfl (fun hc17 => ?_) (fun hc17 => ?_)
                        -- cond 17
                        · skip
                          exact absurd (of_decide_eq_true hc17) (by rw [hop]; decide)
                        · skip
                          refine awp_skip ?_
                          refine awp_seq ?_
                          refine awp_region ?_
                          refine al_d rfl rfl rfl (by exact opd_move rfl rfl) ?_
                          refine al_d rfl rfl rfl (by exact opd_move rfl rfl) ?_
                          refine al_ond rfl rfl rfl (by rfl) rfl rfl (by exact (by exact opd_loadn_ref rfl Tryz.isAgg30 Tryz.sizeOf30 rfl rfl rfl rfl (by simp only [List.drop_succ_cons, List.drop_zero, List.take_succ_cons, List.take_zero, List.take_nil, List.map_cons, List.map_nil, List.set_cons_zero, List.set_cons_succ, List.cons_append, List.nil_append, encTag, encObj, encStr, encEdit, encInt]; rfl) rfl)) ?_
                          refine al_ond rfl rfl rfl (by rfl) rfl rfl (by exact (by exact opd_loadn_ref rfl Tryz.isAgg30 Tryz.sizeOf30 rfl rfl rfl rfl (by simp only [List.drop_succ_cons, List.drop_zero, List.take_succ_cons, List.take_zero, List.take_nil, List.map_cons, List.map_nil, List.set_cons_zero, List.set_cons_succ, List.cons_append, List.nil_append, encTag, encObj, encStr, encEdit, encInt]; rfl) rfl)) ?_
                          refine al_ond rfl rfl rfl (by rfl) rfl rfl (by exact opr_call rfl rfl Tryz.call21 rfl (sameO_t (a := ⟨o.id, o.kind, x.x, x.y, o.refs, o.tags⟩) (b := o') hob.symm _ (hob ▸ hom'))) ?_
                          refine al_d rfl rfl rfl (by exact (by exact opd_pick_t rfl rfl rfl)) ?_
                          refine al_d rfl rfl rfl (by exact opd_assign rfl rfl) ?_
                          refine al_nil ?_
                          refine awp_ret ?_
                          -- return
                          refine aret1 (H' := []) (by exact .inr rfl) rfl (rval_tmp rfl) (Fin.wk (by simp) trivial trivial) ?_
                          exact ⟨rfl, rfl⟩
                  · skip
                    exact absurd hop (of_decide_eq_false hc14)
                · have k6 : decide (x.op = 6) = false := by rw [hop]; rfl
                  have htl : (o'.tags.map encTag).length = o'.tags.length := List.length_map _
                  have htz : o'.tags.length < 4611686018427387904 := hom'.2.1.1
                  refine awp_region ?_
                  refine al_d rfl rfl rfl (by exact (by exact opd_field_ref rfl fo32_0 rfl rfl rfl rfl)) ?_
                  refine al_d rfl rfl rfl (by exact (by exact opd_load1_ref rfl Tryz.isAgg3 rfl rfl rfl rfl rfl)) ?_
                  refine al_d rfl rfl rfl (by exact opd_eql rfl rfl rfl) ?_
                  refine al_nil ?_
                  refine awp_cond rfl (fun hc18 => ?_) (fun hc18 => ?_)
                  -- cond 18
                  · skip
                    exact absurd (of_decide_eq_true hc18) (by rw [hop]; decide)
                  · skip
                    refine awp_skip ?_
                    refine awp_seq ?_
                    refine awp_seq ?_
                    refine awp_region ?_
                    refine al_d rfl rfl rfl (by exact (by exact opd_field_ref rfl fo32_0 rfl rfl rfl rfl)) ?_
                    refine al_d rfl rfl rfl (by exact (by exact opd_load1_ref rfl Tryz.isAgg3 rfl rfl rfl rfl rfl)) ?_
                    refine al_d rfl rfl rfl (by exact opd_eql rfl rfl rfl) ?_
                    refine al_nil ?_
                    refine awp_cond rfl (fun hc19 => ?_) (fun hc19 => ?_)
                    -- cond 19
                    · skip
                      exact absurd (of_decide_eq_true hc19) (by rw [hop]; decide)
                    · skip
                      refine awp_skip ?_
                      refine awp_seq ?_
                      refine awp_seq ?_
                      refine awp_region ?_
                      refine al_d rfl rfl rfl (by exact (by exact opd_field_ref rfl fo32_0 rfl rfl rfl rfl)) ?_
                      refine al_d rfl rfl rfl (by exact (by exact opd_load1_ref rfl Tryz.isAgg3 rfl rfl rfl rfl rfl)) ?_
                      refine al_d rfl rfl rfl (by exact opd_eql rfl rfl rfl) ?_
                      refine al_nil ?_
                      refine awp_cond rfl (fun hc20 => ?_) (fun hc20 => ?_)
                      -- cond 20
                      · skip
                        refine awp_seq ?_
                        refine awp_region ?_
                        refine al_d rfl rfl rfl (by exact opd_assign rfl rfl) ?_
                        refine al_nil ?_
                        refine awp_seq ?_
                        refine awp_seq ?_
                        refine awp_region ?_
                        refine al_d rfl rfl rfl (by exact opd_assign rfl rfl) ?_
                        refine al_nil ?_
                        refine awp_block ?_
                        -- loop
                        refine awp_loop (σ := Nat) (fun q => ([(3, .ref 3 0 0 0), (5, bv true), (11, .ref 11 0 0 0), (12, .ref 12 0 0 0), (13, sv (if (o'.tags.take q).any (fun t => decide (t.key = x.key)) then x.val else sNil)), (14, iv (q : Int))], [(12, bx 6 30 ((encObj o').map .pv)), (11, bx 6 30 ((encObj o).map .pv)), (3, bx 15 32 ((encEdit x).map .pv))])) (fun q => q ≤ o'.tags.length) (fun q => o'.tags.length - q) 0 (by omega) ?_ ?_
                        · exact (Ent.wk ⟨⟨_, rfl, rfl⟩, (by (simp; rfl)), ⟨_, rfl, rfl⟩, (by (simp; done)), ⟨_, rfl, rfl⟩, (by (simp; rfl)), ⟨_, rfl, rfl⟩, (by (simp; rfl)), ⟨_, rfl, rfl⟩, (by (simp; done)), ⟨_, rfl, rfl⟩, (by (simp; done)), trivial⟩ ⟨⟨_, rfl, rfl⟩, (by (simp; done)), ⟨_, rfl, rfl⟩, (by (simp; done)), ⟨_, rfl, rfl⟩, (by (simp; done)), trivial⟩ trivial)
                        · rintro q hq
                          refine awp_seq ?_
                          refine awp_seq ?_
                          refine awp_region ?_
                          refine al_d rfl rfl rfl (by exact opd_move rfl rfl) ?_
                          refine al_d rfl rfl rfl (by exact (by exact opd_field_ref rfl fo30_4 rfl rfl rfl rfl)) ?_
                          refine al_d rfl rfl rfl (by exact (by exact opd_load1_ref rfl Tryz.isAgg28 rfl rfl rfl rfl rfl)) ?_
                          refine al_d rfl rfl rfl (by exact (by exact opd_len_sl rfl Tryz.underlying28 rfl)) ?_
                          refine al_d rfl rfl rfl (by exact opd_lss rfl rfl rfl) ?_
                          refine al_nil ?_
                          refine awp_cond rfl (fun hc21 => ?_) (fun hc21 => ?_)
                          -- cond 21
                          · have hql : q < o'.tags.length := by have := of_decide_eq_true hc21; omega
                            obtain ⟨t, ht⟩ := get_of_lt hql
                            have hi3 := map_get (f := encTag) ht
                            have hta : o'.tags.take (q + 1) = o'.tags.take q ++ [t] := by rw [List.take_add_one, ht]; rfl
                            refine awp_skip ?_
                            refine awp_seq ?_
                            refine awp_block ?_
                            refine awp_seq ?_
                            refine awp_drawc follows ?_
                            refine dc_cons (DStep.q rfl (by exact (by exact opd_field_ref rfl fo30_4 rfl rfl rfl rfl))) rfl ?_
                            refine dc_cons (DStep.q rfl (by exact (by exact opd_load1_ref rfl Tryz.isAgg28 rfl rfl rfl rfl rfl))) rfl ?_
                            refine dc_cons (DStep.q rfl (by exact opd_move rfl rfl)) rfl ?_
                            refine dc_cons (DStep.q rfl (by exact (by exact x_index_pad rfl so28 rfl rfl (by omega) (by exact Int.toNat_natCast _) hi3 rfl))) rfl ?_
                            refine dc_cons (DStep.q rfl (by exact (by exact opd_field_pad rfl fo52_0 rfl rfl))) rfl ?_
                            refine dc_cons (DStep.q rfl (by exact (by exact opd_load1_pad rfl Tryz.isAgg9 rfl hi3 rfl))) rfl ?_
                            refine dc_cons (DStep.q rfl (by exact (by exact opd_field_ref rfl fo32_5 rfl rfl rfl rfl))) rfl ?_
                            refine dc_cons (DStep.q rfl (by exact (by exact opd_load1_ref rfl Tryz.isAgg9 rfl rfl rfl rfl rfl))) rfl ?_
                            refine dc_cons (DStep.q rfl (by exact opd_seql rfl rfl rfl)) rfl ?_
                            refine dc_nil ⟨by kernel_rfl, ?_⟩
                            refine awp_cond rfl (fun hc22 => ?_) (fun hc22 => ?_)
                            -- cond 22
                            · have hkey : t.key = x.key := by
                                have h := hc22
                                simpa using h
                              have hnext : (if (o'.tags.take (q + 1)).any (fun t => decide (t.key = x.key)) then x.val else sNil) = t.val := by rw [hta, List.any_append, t1 t (List.mem_of_getElem? ht) hkey]; simp [hkey]
                              refine awp_region ?_
                              refine al_d rfl rfl rfl (by exact (by exact opd_field_ref rfl fo30_4 rfl rfl rfl rfl)) ?_
                              refine al_d rfl rfl rfl (by exact (by exact opd_load1_ref rfl Tryz.isAgg28 rfl rfl rfl rfl rfl)) ?_
                              refine al_d rfl rfl rfl (by exact opd_move rfl rfl) ?_
                              refine al_d rfl rfl rfl (by exact (by exact x_index_pad rfl so28 rfl rfl (by omega) (by exact Int.toNat_natCast _) hi3 rfl)) ?_
                              refine al_d rfl rfl rfl (by exact (by exact opd_field_pad rfl fo52_1 rfl rfl)) ?_
                              refine al_d rfl rfl rfl (by exact (by exact opd_load1_pad rfl Tryz.isAgg9 rfl hi3 rfl)) ?_
                              refine al_d rfl rfl rfl (by exact opd_assign rfl rfl) ?_
                              refine al_nil ?_
                              refine awp_region ?_
                              refine al_d rfl rfl rfl (by exact opd_move rfl rfl) ?_
                              refine al_d rfl rfl rfl (by exact opd_add rfl rfl rfl (by exact w64 (by omega) (by omega))) ?_
                              refine al_d rfl rfl rfl (by exact opd_assign rfl rfl) ?_
                              refine al_nil ?_
                              -- end of a round
                              refine ⟨q + 1, by omega, by omega, ?_⟩
                              rw [hnext]
                              exact (Ent.wk ⟨⟨_, rfl, rfl⟩, (by (simp; rfl)), ⟨_, rfl, rfl⟩, (by (simp; done)), ⟨_, rfl, rfl⟩, (by (simp; rfl)), ⟨_, rfl, rfl⟩, (by (simp; rfl)), ⟨_, rfl, rfl⟩, (by (simp; done)), ⟨_, rfl, rfl⟩, (by (simp; done)), trivial⟩ ⟨⟨_, rfl, rfl⟩, (by (simp; done)), ⟨_, rfl, rfl⟩, (by (simp; done)), ⟨_, rfl, rfl⟩, (by (simp; done)), trivial⟩ trivial)
                            · have hkey : ¬ t.key = x.key := by
                                have h := hc22
                                simpa using h
                              have hnext : (if (o'.tags.take (q + 1)).any (fun t => decide (t.key = x.key)) then x.val else sNil) = (if (o'.tags.take q).any (fun t => decide (t.key = x.key)) then x.val else sNil) := by rw [hta, List.any_append]; simp [hkey]
                              refine awp_skip ?_
                              refine awp_region ?_
                              refine al_d rfl rfl rfl (by exact opd_move rfl rfl) ?_
                              refine al_d rfl rfl rfl (by exact opd_add rfl rfl rfl (by exact w64 (by omega) (by omega))) ?_
                              refine al_d rfl rfl rfl (by exact opd_assign rfl rfl) ?_
                              refine al_nil ?_
                              -- end of a round
                              refine ⟨q + 1, by omega, by omega, ?_⟩
                              rw [hnext]
                              exact (Ent.wk ⟨⟨_, rfl, rfl⟩, (by (simp; rfl)), ⟨_, rfl, rfl⟩, (by (simp; done)), ⟨_, rfl, rfl⟩, (by (simp; rfl)), ⟨_, rfl, rfl⟩, (by (simp; rfl)), ⟨_, rfl, rfl⟩, (by (simp; done)), ⟨_, rfl, rfl⟩, (by (simp; done)), trivial⟩ ⟨⟨_, rfl, rfl⟩, (by (simp; done)), ⟨_, rfl, rfl⟩, (by (simp; done)), ⟨_, rfl, rfl⟩, (by (simp; done)), trivial⟩ trivial)
                          · have hge : q = o'.tags.length := by have := of_decide_eq_false hc21; omega
                            subst hge
                            have hv : (if (o'.tags.take o'.tags.length).any (fun t => decide (t.key = x.key)) then x.val else sNil) = x.val := by
                              rw [List.take_length]
                              split
                              · rfl
                              · rename_i h
                                by_cases hx : x.val = sNil
                                · exact hx.symm
                                · obtain ⟨t, ht, hk⟩ := t2 hx
                                  exact absurd (List.any_eq_true.2 ⟨t, ht, decide_eq_true hk⟩) h
                            refine awp_exit ?_
                            refine awp_seq ?_
                            refine awp_seq ?_
                            refine awp_region ?_
                            refine al_d rfl rfl rfl (by exact opd_move rfl rfl) ?_
                            refine al_d rfl rfl rfl (by exact (by exact opd_field_ref rfl fo32_6 rfl rfl rfl rfl)) ?_
                            refine al_d rfl rfl rfl (by exact (by exact opd_load1_ref rfl Tryz.isAgg9 rfl rfl rfl rfl rfl)) ?_
                            refine al_d rfl rfl rfl (by exact opd_sneq rfl rfl rfl) ?_
                            refine al_nil ?_
                            refine awp_cond rfl (fun hc23 => ?_) (fun hc23 => ?_)
                            -- cond 23
                            · skip
                              (rw [hv, decide_eq_true rfl] at hc23; cases hc23)
                            · skip
                              refine awp_skip ?_
                              refine awp_region ?_
                              refine al_d rfl rfl rfl (by exact (by exact opd_field_ref rfl fo30_4 rfl rfl rfl rfl)) ?_
                              refine al_d rfl rfl rfl (by exact (by exact opd_load1_ref rfl Tryz.isAgg28 rfl rfl rfl rfl rfl)) ?_
                              refine al_d rfl rfl rfl (by exact (by exact opd_field_ref rfl fo30_4 rfl rfl rfl rfl)) ?_
                              refine al_n rfl rfl (by exact (by exact x_store1 rfl Tryz.sizeOf28 rfl rfl rfl rfl rfl rfl (Nat.le_of_ble_eq_true rfl) rfl rfl)) ?_
                              refine al_nil ?_
                              refine awp_seq ?_
                              refine awp_seq ?_
                              refine awp_region ?_
                              refine al_d rfl rfl rfl (by exact (by exact opd_field_ref rfl fo32_0 rfl rfl rfl rfl)) ?_
                              refine al_d rfl rfl rfl (by exact (by exact opd_load1_ref rfl Tryz.isAgg3 rfl rfl rfl rfl rfl)) ?_
                              refine al_d rfl rfl rfl (by exact opd_eql rfl rfl rfl) ?_
                              refine al_d rfl rfl rfl (by exact opd_move rfl rfl) ?_
                              refine al_ond rfl rfl rfl (by assumption) rfl rfl (by exact (by exact opd_field_ref rfl fo32_0 rfl rfl rfl rfl)) ?_
                              refine al_ond rfl rfl rfl (by assumption) rfl rfl (by exact (by exact opd_load1_ref rfl Tryz.isAgg3 rfl rfl rfl rfl rfl)) ?_
                              refine al_ond rfl rfl rfl (by assumption) rfl rfl (by exact opd_eql rfl rfl rfl) ?_
                              refine al_d rfl rfl rfl (by exact (by exact opd_pickf rfl rfl (by assumption) rfl)) ?_
                              refine al_nil ?_
                              refine awp_cond rfl (fun hc24 => ?_) (fun hc24 => ?_)
                              -- cond 24
                              · skip
                                exact absurd (of_decide_eq_true hc24) (by rw [hop]; decide)
                              · skip
                                refine awp_skip ?_
                                refine awp_seq ?_
                                refine awp_region ?_
                                refine al_d rfl rfl rfl (by exact opd_move rfl rfl) ?_
                                refine al_d rfl rfl rfl (by exact opd_move rfl rfl) ?_
                                refine al_ond rfl rfl rfl (by rfl) rfl rfl (by exact (by exact opd_loadn_ref rfl Tryz.isAgg30 Tryz.sizeOf30 rfl rfl rfl rfl (by simp only [List.drop_succ_cons, List.drop_zero, List.take_succ_cons, List.take_zero, List.take_nil, List.map_cons, List.map_nil, List.set_cons_zero, List.set_cons_succ, List.cons_append, List.nil_append, encTag, encObj, encStr, encEdit, encInt]; rfl) rfl)) ?_
                                refine al_ond rfl rfl rfl (by rfl) rfl rfl (by exact (by exact opd_loadn_ref rfl Tryz.isAgg30 Tryz.sizeOf30 rfl rfl rfl rfl (by simp only [List.drop_succ_cons, List.drop_zero, List.take_succ_cons, List.take_zero, List.take_nil, List.map_cons, List.map_nil, List.set_cons_zero, List.set_cons_succ, List.cons_append, List.nil_append, encTag, encObj, encStr, encEdit, encInt]; rfl) rfl)) ?_
                                refine al_ond rfl rfl rfl (by rfl) rfl rfl (by exact opr_call rfl rfl Tryz.call21 rfl (sameO_t (a := ⟨o.id, o.kind, o.x, o.y, o.refs, o'.tags⟩) (b := o') hob.symm _ (hob ▸ hom'))) ?_
                                refine al_d rfl rfl rfl (by exact (by exact opd_pick_t rfl rfl rfl)) ?_
                                refine al_d rfl rfl rfl (by exact opd_assign rfl rfl) ?_
                                refine al_nil ?_
                                refine awp_ret ?_
                                -- return
                                refine aret1 (H' := []) (by exact .inr rfl) rfl (rval_tmp rfl) (Fin.wk (by simp) trivial trivial) ?_
                                exact ⟨rfl, rfl⟩
                      · skip
                        exact absurd hop (of_decide_eq_false hc20)
                · have k6 : decide (x.op = 6) = false := by rw [hop]; rfl
                  refine awp_region ?_
                  refine al_d rfl rfl rfl (by exact (by exact opd_field_ref rfl fo32_0 rfl rfl rfl rfl)) ?_
                  refine al_d rfl rfl rfl (by exact (by exact opd_load1_ref rfl Tryz.isAgg3 rfl rfl rfl rfl rfl)) ?_
                  refine al_d rfl rfl rfl (by exact opd_eql rfl rfl rfl) ?_
                  refine al_nil ?_
                  refine awp_cond rfl (fun hc25 => ?_) (fun hc25 => ?_)
                  -- cond 25
                  · skip
                    exact absurd (of_decide_eq_true hc25) (by rw [hop]; decide)
                  · skip
                    refine awp_skip ?_
                    refine awp_seq ?_
                    refine awp_seq ?_
                    refine awp_region ?_
                    refine al_d rfl rfl rfl (by exact (by exact opd_field_ref rfl fo32_0 rfl rfl rfl rfl)) ?_
                    refine al_d rfl rfl rfl (by exact (by exact opd_load1_ref rfl Tryz.isAgg3 rfl rfl rfl rfl rfl)) ?_
                    refine al_d rfl rfl rfl (by exact opd_eql rfl rfl rfl) ?_
                    refine al_nil ?_
                    refine awp_cond rfl (fun hc26 => ?_) (fun hc26 => ?_)
                    -- cond 26
                    · skip
                      refine awp_region ?_
                      refine al_d rfl rfl rfl (by exact (by exact opd_field_ref rfl fo32_7 rfl rfl rfl rfl)) ?_
                      refine al_d rfl rfl rfl (by exact (by exact opd_load1_ref rfl Tryz.isAgg27 rfl rfl rfl rfl rfl)) ?_
                      refine al_d rfl rfl rfl (by exact (by exact opd_field_ref rfl fo30_3 rfl rfl rfl rfl)) ?_
                      refine al_n rfl rfl (by exact (by exact x_store1 rfl Tryz.sizeOf27 rfl rfl rfl rfl rfl rfl (by simp only [List.length_cons, List.length_nil]; omega) (by simp only [List.drop_succ_cons, List.drop_zero, List.take_succ_cons, List.take_zero, List.take_nil, List.map_cons, List.map_nil, List.set_cons_zero, List.set_cons_succ, List.cons_append, List.nil_append, encTag, encObj, encStr, encEdit, encInt]; rfl) (by simp only [List.drop_succ_cons, List.drop_zero, List.take_succ_cons, List.take_zero, List.take_nil, List.map_cons, List.map_nil, List.set_cons_zero, List.set_cons_succ, List.cons_append, List.nil_append, encTag, encObj, encStr, encEdit, encInt]; rfl))) ?_
                      refine al_nil ?_
                      refine awp_seq ?_
                      refine awp_seq ?_
                      refine awp_region ?_
                      refine al_d rfl rfl rfl (by exact (by exact opd_field_ref rfl fo32_0 rfl rfl rfl rfl)) ?_
                      refine al_d rfl rfl rfl (by exact (by exact opd_load1_ref rfl Tryz.isAgg3 rfl rfl rfl rfl rfl)) ?_
                      refine al_d rfl rfl rfl (by exact opd_eql rfl rfl rfl) ?_
                      refine al_nil ?_
                      refine awp_cond rfl (fun hc27 => ?_) (fun hc27 => ?_)
                      -- cond 27
                      · skip
                        exact absurd (of_decide_eq_true hc27) (by rw [hop]; decide)
                      · skip
                        refine awp_skip ?_
                        refine awp_seq ?_
                        refine awp_seq ?_
                        refine awp_region ?_
                        refine al_d rfl rfl rfl (by exact (by exact opd_field_ref rfl fo32_0 rfl rfl rfl rfl)) ?_
                        refine al_d rfl rfl rfl (by exact (by exact opd_load1_ref rfl Tryz.isAgg3 rfl rfl rfl rfl rfl)) ?_
                        refine al_d rfl rfl rfl (by exact opd_eql rfl rfl rfl) ?_
                        refine al_d rfl rfl rfl (by exact opd_move rfl rfl) ?_
                        refine al_ond rfl rfl rfl (by assumption) rfl rfl (by exact (by exact opd_field_ref rfl fo32_0 rfl rfl rfl rfl)) ?_
                        refine al_ond rfl rfl rfl (by assumption) rfl rfl (by exact (by exact opd_load1_ref rfl Tryz.isAgg3 rfl rfl rfl rfl rfl)) ?_
                        refine al_ond rfl rfl rfl (by assumption) rfl rfl (by exact opd_eql rfl rfl rfl) ?_
                        refine al_d rfl rfl rfl (by exact (by exact opd_pickf rfl rfl (by assumption) rfl)) ?_
                        refine al_nil ?_
                        refine awp_cond rfl (fun hc28 => ?_) (fun hc28 => ?_)
                        -- cond 28
                        · skip
                          exact absurd (of_decide_eq_true hc28) (by rw [hop]; decide)
                        · skip
                          refine awp_skip ?_
                          refine awp_seq ?_
                          refine awp_region ?_
                          refine al_d rfl rfl rfl (by exact opd_move rfl rfl) ?_
                          refine al_d rfl rfl rfl (by exact opd_move rfl rfl) ?_
                          refine al_ond rfl rfl rfl (by rfl) rfl rfl (by exact (by exact opd_loadn_ref rfl Tryz.isAgg30 Tryz.sizeOf30 rfl rfl rfl rfl (by simp only [List.drop_succ_cons, List.drop_zero, List.take_succ_cons, List.take_zero, List.take_nil, List.map_cons, List.map_nil, List.set_cons_zero, List.set_cons_succ, List.cons_append, List.nil_append, encTag, encObj, encStr, encEdit, encInt]; rfl) rfl)) ?_
                          refine al_ond rfl rfl rfl (by rfl) rfl rfl (by exact (by exact opd_loadn_ref rfl Tryz.isAgg30 Tryz.sizeOf30 rfl rfl rfl rfl (by simp only [List.drop_succ_cons, List.drop_zero, List.take_succ_cons, List.take_zero, List.take_nil, List.map_cons, List.map_nil, List.set_cons_zero, List.set_cons_succ, List.cons_append, List.nil_append, encTag, encObj, encStr, encEdit, encInt]; rfl) rfl)) ?_
                          refine al_ond rfl rfl rfl (by rfl) rfl rfl (by exact opr_call rfl rfl Tryz.call21 rfl (sameO_t (a := ⟨o.id, o.kind, o.x, o.y, x.refs, o.tags⟩) (b := o') hob.symm _ (hob ▸ hom'))) ?_
                          refine al_d rfl rfl rfl (by exact (by exact opd_pick_t rfl rfl rfl)) ?_
                          refine al_d rfl rfl rfl (by exact opd_assign rfl rfl) ?_
                          refine al_nil ?_
                          refine awp_ret ?_
                          -- return
                          refine aret1 (H' := []) (by exact .inr rfl) rfl (rval_tmp rfl) (Fin.wk (by simp) trivial trivial) ?_
                          exact ⟨rfl, rfl⟩
                    · skip
                      exact absurd hop (of_decide_eq_false hc26)
                · have k6 : decide (x.op = 6) = true := by rw [hop]; rfl
                  obtain ⟨q, q1, q2⟩ := look_at hy
                  have k7 : (!(decide ((0 : Int) ≤ (q : Int)) == decide (x.op = 6))) = false := by rw [hop, decide_eq_true (show (0 : Int) ≤ (q : Int) by omega)]; rfl
                  refine awp_region ?_
                  refine al_d rfl rfl rfl (by exact (by exact opd_field_ref rfl fo32_0 rfl rfl rfl rfl)) ?_
                  refine al_d rfl rfl rfl (by exact (by exact opd_load1_ref rfl Tryz.isAgg3 rfl rfl rfl rfl rfl)) ?_
                  refine al_d rfl rfl rfl (by exact opd_eql rfl rfl rfl) ?_
                  refine al_nil ?_
                  refine awp_cond rfl (fun hc29 => ?_) (fun hc29 => ?_)
                  -- cond 29
                  · skip
                    exact absurd (of_decide_eq_true hc29) (by rw [hop]; decide)
                  · skip
                    refine awp_skip ?_
                    refine awp_seq ?_
                    refine awp_seq ?_
                    refine awp_region ?_
                    refine al_d rfl rfl rfl (by exact (by exact opd_field_ref rfl fo32_0 rfl rfl rfl rfl)) ?_
                    refine al_d rfl rfl rfl (by exact (by exact opd_load1_ref rfl Tryz.isAgg3 rfl rfl rfl rfl rfl)) ?_
                    refine al_d rfl rfl rfl (by exact opd_eql rfl rfl rfl) ?_
                    refine al_nil ?_
                    refine awp_cond rfl (fun hc30 => ?_) (fun hc30 => ?_)
                    -- cond 30
                    · skip
                      exact absurd (of_decide_eq_true hc30) (by rw [hop]; decide)
                    · skip
                      refine awp_skip ?_
                      refine awp_seq ?_
                      refine awp_seq ?_
                      refine awp_region ?_
                      refine al_d rfl rfl rfl (by exact (by exact opd_field_ref rfl fo32_0 rfl rfl rfl rfl)) ?_
                      refine al_d rfl rfl rfl (by exact (by exact opd_load1_ref rfl Tryz.isAgg3 rfl rfl rfl rfl rfl)) ?_
                      refine al_d rfl rfl rfl (by exact opd_eql rfl rfl rfl) ?_
                      refine al_nil ?_
                      refine awp_cond rfl (fun hc31 => ?_) (fun hc31 => ?_)
                      -- cond 31
                      · skip
                        exact absurd (of_decide_eq_true hc31) (by rw [hop]; decide)
                      · skip
                        refine awp_skip ?_
                        refine awp_seq ?_
                        refine awp_seq ?_
                        refine awp_region ?_
                        refine al_d rfl rfl rfl (by exact (by exact opd_field_ref rfl fo32_0 rfl rfl rfl rfl)) ?_
                        refine al_d rfl rfl rfl (by exact (by exact opd_load1_ref rfl Tryz.isAgg3 rfl rfl rfl rfl rfl)) ?_
                        refine al_d rfl rfl rfl (by exact opd_eql rfl rfl rfl) ?_
                        refine al_d rfl rfl rfl (by exact opd_move rfl rfl) ?_
                        refine al_off rfl rfl rfl (by assumption) rfl ?_
                        refine al_off rfl rfl rfl (by assumption) rfl ?_
                        refine al_off rfl rfl rfl (by assumption) rfl ?_
                        refine al_d rfl rfl rfl (by exact (by exact opd_pickt rfl rfl (by assumption) rfl)) ?_
                        refine al_nil ?_
                        refine awp_cond rfl (fun hc32 => ?_) (fun hc32 => ?_)
                        -- cond 32
                        · skip
                          refine awp_seq ?_
                          refine awp_region ?_
                          refine al_d rfl rfl rfl (by exact (by exact opd_loadn_ref rfl Tryz.isAgg24 Tryz.sizeOf24 rfl rfl rfl rfl (by simp only [List.drop_succ_cons, List.drop_zero, List.take_succ_cons, List.take_zero, List.take_nil, List.map_cons, List.map_nil, List.set_cons_zero, List.set_cons_succ, List.cons_append, List.nil_append, encTag, encObj, encStr, encEdit, encInt]; rfl) rfl)) ?_
                          refine al_d rfl rfl rfl (by exact (by exact opd_field_ref rfl fo32_2 rfl rfl rfl rfl)) ?_
                          refine al_d rfl rfl rfl (by exact (by exact opd_load1_ref rfl Tryz.isAgg9 rfl rfl rfl rfl rfl)) ?_
                          refine al_d rfl rfl rfl (by exact opr_call rfl rfl Tryz.call16 rfl (find_t q1 _ (by omega))) ?_
                          refine al_d rfl rfl rfl (by exact opd_assign rfl rfl) ?_
                          refine al_nil ?_
                          refine awp_seq ?_
                          refine awp_seq ?_
                          refine awp_region ?_
                          refine al_d rfl rfl rfl (by exact opd_move rfl rfl) ?_
                          refine al_d rfl rfl rfl (by exact opd_geq rfl rfl rfl) ?_
                          refine al_d rfl rfl rfl (by exact (by exact opd_field_ref rfl fo32_0 rfl rfl rfl rfl)) ?_
                          refine al_d rfl rfl rfl (by exact (by exact opd_load1_ref rfl Tryz.isAgg3 rfl rfl rfl rfl rfl)) ?_
                          refine al_d rfl rfl rfl (by exact opd_eql rfl rfl rfl) ?_
                          refine al_d rfl rfl rfl (by exact opd_bneq rfl Tryz.underlying4 rfl rfl) ?_
                          refine al_nil ?_
                          refine awp_cond rfl (fun hc33 => ?_) (fun hc33 => ?_)
                          -- cond 33
                          · skip
                            (rw [k7] at hc33; cases hc33)
                          · skip
                            refine awp_skip ?_
                            refine awp_region ?_
                            refine al_d rfl rfl rfl (by exact (by exact opd_field_ref rfl fo30_3 rfl rfl rfl rfl)) ?_
                            refine al_d rfl rfl rfl (by exact (by exact opd_load1_ref rfl Tryz.isAgg27 rfl rfl rfl rfl rfl)) ?_
                            refine al_d rfl rfl rfl (by exact (by exact opd_field_ref rfl fo30_3 rfl rfl rfl rfl)) ?_
                            refine al_n rfl rfl (by exact (by exact x_store1 rfl Tryz.sizeOf27 rfl rfl rfl rfl rfl rfl (by simp only [List.length_cons, List.length_nil]; omega) (by simp only [List.drop_succ_cons, List.drop_zero, List.take_succ_cons, List.take_zero, List.take_nil, List.map_cons, List.map_nil, List.set_cons_zero, List.set_cons_succ, List.cons_append, List.nil_append, encTag, encObj, encStr, encEdit, encInt]; rfl) (by simp only [List.drop_succ_cons, List.drop_zero, List.take_succ_cons, List.take_zero, List.take_nil, List.map_cons, List.map_nil, List.set_cons_zero, List.set_cons_succ, List.cons_append, List.nil_append, encTag, encObj, encStr, encEdit, encInt]; rfl))) ?_
                            refine al_nil ?_
                            refine awp_seq ?_
                            refine awp_region ?_
                            refine al_d rfl rfl rfl (by exact opd_move rfl rfl) ?_
                            refine al_d rfl rfl rfl (by exact opd_move rfl rfl) ?_
                            refine al_ond rfl rfl rfl (by rfl) rfl rfl (by exact (by exact opd_loadn_ref rfl Tryz.isAgg30 Tryz.sizeOf30 rfl rfl rfl rfl (by simp only [List.drop_succ_cons, List.drop_zero, List.take_succ_cons, List.take_zero, List.take_nil, List.map_cons, List.map_nil, List.set_cons_zero, List.set_cons_succ, List.cons_append, List.nil_append, encTag, encObj, encStr, encEdit, encInt]; rfl) rfl)) ?_
                            refine al_ond rfl rfl rfl (by rfl) rfl rfl (by exact (by exact opd_loadn_ref rfl Tryz.isAgg30 Tryz.sizeOf30 rfl rfl rfl rfl (by simp only [List.drop_succ_cons, List.drop_zero, List.take_succ_cons, List.take_zero, List.take_nil, List.map_cons, List.map_nil, List.set_cons_zero, List.set_cons_succ, List.cons_append, List.nil_append, encTag, encObj, encStr, encEdit, encInt]; rfl) rfl)) ?_
                            refine al_ond rfl rfl rfl (by rfl) rfl rfl (by exact opr_call rfl rfl Tryz.call21 rfl (sameO_t (a := ⟨o.id, o.kind, o.x, o.y, o'.refs, o.tags⟩) (b := o') hob.symm _ (hob ▸ hom'))) ?_
                            refine al_d rfl rfl rfl (by exact (by exact opd_pick_t rfl rfl rfl)) ?_
                            refine al_d rfl rfl rfl (by exact opd_assign rfl rfl) ?_
                            refine al_nil ?_
                            refine awp_ret ?_
                            -- return
                            refine aret1 (H' := []) (by exact .inr rfl) rfl (rval_tmp rfl) (Fin.wk (by simp) trivial trivial) ?_
                            exact ⟨rfl, rfl⟩
                        · skip
                          cases hc32
                · have k6 : decide (x.op = 6) = false := by rw [hop]; rfl
                  have k7 : (!(decide ((0 : Int) ≤ -1) == decide (x.op = 6))) = false := by rw [hop]; rfl
                  refine awp_region ?_
                  refine al_d rfl rfl rfl (by exact (by exact opd_field_ref rfl fo32_0 rfl rfl rfl rfl)) ?_
                  refine al_d rfl rfl rfl (by exact (by exact opd_load1_ref rfl Tryz.isAgg3 rfl rfl rfl rfl rfl)) ?_
                  refine al_d rfl rfl rfl (by exact opd_eql rfl rfl rfl) ?_
                  refine al_nil ?_
                  refine awp_cond rfl (fun hc34 => ?_) (fun hc34 => ?_)
                  -- cond 34
                  · skip
                    exact absurd (of_decide_eq_true hc34) (by rw [hop]; decide)
                  · skip
                    refine awp_skip ?_
                    refine awp_seq ?_
                    refine awp_seq ?_
                    refine awp_region ?_
                    refine al_d rfl rfl rfl (by exact (by exact opd_field_ref rfl fo32_0 rfl rfl rfl rfl)) ?_
                    refine al_d rfl rfl rfl (by exact (by exact opd_load1_ref rfl Tryz.isAgg3 rfl rfl rfl rfl rfl)) ?_
                    refine al_d rfl rfl rfl (by exact opd_eql rfl rfl rfl) ?_
                    refine al_nil ?_
                    refine awp_cond rfl (fun hc35 => ?_) (fun hc35 => ?_)
                    -- cond 35
                    · skip
                      exact absurd (of_decide_eq_true hc35) (by rw [hop]; decide)
                    · skip
                      refine awp_skip ?_
                      refine awp_seq ?_
                      refine awp_seq ?_
                      refine awp_region ?_
                      refine al_d rfl rfl rfl (by exact (by exact opd_field_ref rfl fo32_0 rfl rfl rfl rfl)) ?_
                      refine al_d rfl rfl rfl (by exact (by exact opd_load1_ref rfl Tryz.isAgg3 rfl rfl rfl rfl rfl)) ?_
                      refine al_d rfl rfl rfl (by exact opd_eql rfl rfl rfl) ?_
                      refine al_nil ?_
                      refine awp_cond rfl (fun hc36 => ?_) (fun hc36 => ?_)
                      -- cond 36
                      · skip
                        exact absurd (of_decide_eq_true hc36) (by rw [hop]; decide)
                      · skip
                        refine awp_skip ?_
                        refine awp_seq ?_
                        refine awp_seq ?_
                        refine awp_region ?_
                        refine al_d rfl rfl rfl (by exact (by exact opd_field_ref rfl fo32_0 rfl rfl rfl rfl)) ?_
                        refine al_d rfl rfl rfl (by exact (by exact opd_load1_ref rfl Tryz.isAgg3 rfl rfl rfl rfl rfl)) ?_
                        refine al_d rfl rfl rfl (by exact opd_eql rfl rfl rfl) ?_
                        refine al_d rfl rfl rfl (by exact opd_move rfl rfl) ?_
                        refine al_ond rfl rfl rfl (by assumption) rfl rfl (by exact (by exact opd_field_ref rfl fo32_0 rfl rfl rfl rfl)) ?_
                        refine al_ond rfl rfl rfl (by assumption) rfl rfl (by exact (by exact opd_load1_ref rfl Tryz.isAgg3 rfl rfl rfl rfl rfl)) ?_
                        refine al_ond rfl rfl rfl (by assumption) rfl rfl (by exact opd_eql rfl rfl rfl) ?_
                        refine al_d rfl rfl rfl (by exact (by exact opd_pickf rfl rfl (by assumption) rfl)) ?_
                        refine al_nil ?_
                        refine awp_cond rfl (fun hc37 => ?_) (fun hc37 => ?_)
                        -- cond 37
                        · skip
                          refine awp_seq ?_
                          refine awp_region ?_
                          refine al_d rfl rfl rfl (by exact (by exact opd_loadn_ref rfl Tryz.isAgg24 Tryz.sizeOf24 rfl rfl rfl rfl (by simp only [List.drop_succ_cons, List.drop_zero, List.take_succ_cons, List.take_zero, List.take_nil, List.map_cons, List.map_nil, List.set_cons_zero, List.set_cons_succ, List.cons_append, List.nil_append, encTag, encObj, encStr, encEdit, encInt]; rfl) rfl)) ?_
                          refine al_d rfl rfl rfl (by exact (by exact opd_field_ref rfl fo32_2 rfl rfl rfl rfl)) ?_
                          refine al_d rfl rfl rfl (by exact (by exact opd_load1_ref rfl Tryz.isAgg9 rfl rfl rfl rfl rfl)) ?_
                          refine al_d rfl rfl rfl (by exact opr_call rfl rfl Tryz.call16 rfl (find_neg hy _ (by omega))) ?_
                          refine al_d rfl rfl rfl (by exact opd_assign rfl rfl) ?_
                          refine al_nil ?_
                          refine awp_seq ?_
                          refine awp_seq ?_
                          refine awp_region ?_
                          refine al_d rfl rfl rfl (by exact opd_move rfl rfl) ?_
                          refine al_d rfl rfl rfl (by exact opd_geq rfl rfl rfl) ?_
                          refine al_d rfl rfl rfl (by exact (by exact opd_field_ref rfl fo32_0 rfl rfl rfl rfl)) ?_
                          refine al_d rfl rfl rfl (by exact (by exact opd_load1_ref rfl Tryz.isAgg3 rfl rfl rfl rfl rfl)) ?_
                          refine al_d rfl rfl rfl (by exact opd_eql rfl rfl rfl) ?_
                          refine al_d rfl rfl rfl (by exact opd_bneq rfl Tryz.underlying4 rfl rfl) ?_
                          refine al_nil ?_
                          refine awp_cond rfl (fun hc38 => ?_) (fun hc38 => ?_)
                          -- cond 38
                          · skip
                            (rw [k7] at hc38; cases hc38)
                          · skip
                            refine awp_skip ?_
                            refine awp_region ?_
                            refine al_d rfl rfl rfl (by exact (by exact opd_field_ref rfl fo30_3 rfl rfl rfl rfl)) ?_
                            refine al_d rfl rfl rfl (by exact (by exact opd_load1_ref rfl Tryz.isAgg27 rfl rfl rfl rfl rfl)) ?_
                            refine al_d rfl rfl rfl (by exact (by exact opd_field_ref rfl fo30_3 rfl rfl rfl rfl)) ?_
                            refine al_n rfl rfl (by exact (by exact x_store1 rfl Tryz.sizeOf27 rfl rfl rfl rfl rfl rfl (by simp only [List.length_cons, List.length_nil]; omega) (by simp only [List.drop_succ_cons, List.drop_zero, List.take_succ_cons, List.take_zero, List.take_nil, List.map_cons, List.map_nil, List.set_cons_zero, List.set_cons_succ, List.cons_append, List.nil_append, encTag, encObj, encStr, encEdit, encInt]; rfl) (by simp only [List.drop_succ_cons, List.drop_zero, List.take_succ_cons, List.take_zero, List.take_nil, List.map_cons, List.map_nil, List.set_cons_zero, List.set_cons_succ, List.cons_append, List.nil_append, encTag, encObj, encStr, encEdit, encInt]; rfl))) ?_
                            refine al_nil ?_
                            refine awp_seq ?_
                            refine awp_region ?_
                            refine al_d rfl rfl rfl (by exact opd_move rfl rfl) ?_
                            refine al_d rfl rfl rfl (by exact opd_move rfl rfl) ?_
                            refine al_ond rfl rfl rfl (by rfl) rfl rfl (by exact (by exact opd_loadn_ref rfl Tryz.isAgg30 Tryz.sizeOf30 rfl rfl rfl rfl (by simp only [List.drop_succ_cons, List.drop_zero, List.take_succ_cons, List.take_zero, List.take_nil, List.map_cons, List.map_nil, List.set_cons_zero, List.set_cons_succ, List.cons_append, List.nil_append, encTag, encObj, encStr, encEdit, encInt]; rfl) rfl)) ?_
                            refine al_ond rfl rfl rfl (by rfl) rfl rfl (by exact (by exact opd_loadn_ref rfl Tryz.isAgg30 Tryz.sizeOf30 rfl rfl rfl rfl (by simp only [List.drop_succ_cons, List.drop_zero, List.take_succ_cons, List.take_zero, List.take_nil, List.map_cons, List.map_nil, List.set_cons_zero, List.set_cons_succ, List.cons_append, List.nil_append, encTag, encObj, encStr, encEdit, encInt]; rfl) rfl)) ?_
                            refine al_ond rfl rfl rfl (by rfl) rfl rfl (by exact opr_call rfl rfl Tryz.call21 rfl (sameO_t (a := ⟨o.id, o.kind, o.x, o.y, o'.refs, o.tags⟩) (b := o') hob.symm _ (hob ▸ hom'))) ?_
                            refine al_d rfl rfl rfl (by exact (by exact opd_pick_t rfl rfl rfl)) ?_
                            refine al_d rfl rfl rfl (by exact opd_assign rfl rfl) ?_
                            refine al_nil ?_
                            refine awp_ret ?_
                            -- return
                            refine aret1 (H' := []) (by exact .inr rfl) rfl (rval_tmp rfl) (Fin.wk (by simp) trivial trivial) ?_
                            exact ⟨rfl, rfl⟩
                        · skip
                          exact absurd hop (of_decide_eq_false hc37)
end Go.Proofs.YtdcifaldfmpapaaGreat
end
