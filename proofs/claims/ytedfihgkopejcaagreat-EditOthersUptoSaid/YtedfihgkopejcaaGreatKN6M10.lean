/-
  CONTRACT: planispherelaw21.head answers true. Conditions: none.
  CONTRACTS: the reference: letters, names, points, words, tags. Conditions: lengths below 2^62.
  CONTRACTS: the reference: references, objects. Conditions: lengths below 2^62.
  CONTRACTS: what is moderate (planisphereref13.Few); objects and maps compared (planisphereref11.Same, 12.Same). Conditions: lengths below 2^62.
  CONTRACT: EditCloses answers true. Conditions: the arguments' sizes.
  PLAIN: what an edit puts and drops is named by it; two edits without a common name commute. Conditions: none.
  PLAIN: what differs between two maps; a possible edit changes at most two objects, which it names. Conditions: none.
  THE ABSTRACT LOGIC: an owned slice is frozen while other objects hold it. Conditions: each rule's own premises.
  THE ABSTRACT LOGIC, 31: a range over a function. Conditions: the rule's own premises.
  CONTRACTS: package atlas: pairs, differs, Diff. Conditions: lengths below 2^39.
  THE ABSTRACT LOGIC, 32: a contract, at heaps that hold the same. Conditions: the rules' own premises.
  CONTRACT: atlas.Diff. Conditions: lengths below 2^39.
-/
import Derived.Test.YtedfihgkopejcaaGreatKN6M9
section
set_option linter.unusedVariables false
set_option linter.unusedSimpArgs false
set_option maxRecDepth 100000
namespace Go.Proofs.YtedfihgkopejcaaGreat
open Go.Abs

def ed0 (op : Int) (id other node : ByteArray) : GEdit := ⟨op, id, other, node, 0, 0, sNil, sNil, [], zObj⟩
def eS : GEdit := ed0 6 (st1 119) (st1 118) (st1 98)
def eJ : GEdit := ed0 7 (st1 119) (st1 118) sNil
def eB : GEdit := ed0 5 (st1 98) sNil sNil
def eM : GEdit := ed0 2 (st1 119) sNil sNil
def eW : GEdit := ed0 5 (st1 119) sNil sNil
def x1 : List GObj := cs3.map nodeA ++ [⟨st1 118, 2, 0, 0, [st1 98, st1 99], []⟩, ⟨st1 119, 2, 0, 0, [st1 97, st1 98], []⟩]
theorem hS : gApply s0 eS = (x1, 0) := by kernel_rfl
theorem hJ : gApply x1 eJ = (s0, 0) := by kernel_rfl
theorem hB : gApply s0 eB = ([], 14) := by kernel_rfl
theorem hM : gApply s0 eM = ([], 13) := by kernel_rfl
theorem hA : gAll s0 [eW, eW] = ([], 1, 11) := by kernel_rfl
theorem sortS_ofN {l : List ByteArray} (h : (l.map toU).Pairwise (fun x y => decide (x ≤ y) = true)) : sortS l = l := by
  rw [sortS, List.mergeSort_of_pairwise h, map_toU]
theorem hN : gNames eS = [st1 98, st1 118, st1 119] := by
  have h1 : gEditV eS = true := by kernel_rfl
  have h2 : (idsOf eS).filter nonE = [st1 119, st1 118, st1 98] := by kernel_rfl
  rw [gNames, if_pos h1, h2]
  have hp : [st1 119, st1 118, st1 98].Perm [st1 98, st1 118, st1 119] := (List.reverse_perm [st1 119, st1 118, st1 98]).symm
  rw [sortS_eq hp]
  exact sortS_ofN (by decide)
theorem okE0 (op : Int) {id other node : ByteArray} (h1 : id.size < 10) (h2 : other.size < 10) (h3 : node.size < 10) : okE (ed0 op id other node) :=
  ⟨⟨by show id.size < _; omega, by show other.size < _; omega, by show node.size < _; omega, by show 0 < _; omega⟩, ⟨by show 0 < _; omega, fun s hs => by cases hs⟩, ⟨by show 0 < _; omega, ⟨by show 0 < _; omega, fun t ht => by cases ht⟩, by show 0 < _; omega, fun s hs => by cases hs⟩⟩
theorem okO_node (c : UInt8) : okO (nodeA c) := ⟨by show 1 < _; omega, ⟨by show 0 < _; omega, fun t ht => by cases ht⟩, by show 0 < _; omega, fun s hs => by cases hs⟩
theorem okO_way (id : ByteArray) (l : List UInt8) (h1 : id.size < 10) (h2 : l.length < 10) : okO ⟨id, 2, 0, 0, l.map st1, []⟩ :=
  ⟨by show id.size < _; omega, ⟨by show 0 < _; omega, fun t ht => by cases ht⟩, by show (l.map st1).length < _; rw [List.length_map]; omega, fun s hs => by
    obtain ⟨c, _, rfl⟩ := List.mem_map.1 hs
    show 1 < _; omega⟩
theorem okM_s0 : okM s0 := by
  refine ⟨by show 4 < _; omega, fun o ho => ?_⟩
  rcases List.mem_append.1 ho with h | h
  · obtain ⟨c, _, rfl⟩ := List.mem_map.1 h
    exact okO_node c
  · rw [List.mem_singleton] at h
    subst h
    exact okO_way (st1 119) cs3 (by decide) (by decide)
theorem okM_x1 : okM x1 := by
  refine ⟨by show 5 < _; omega, fun o ho => ?_⟩
  rcases List.mem_append.1 ho with h | h
  · obtain ⟨c, _, rfl⟩ := List.mem_map.1 h
    exact okO_node c
  · simp only [List.mem_cons, List.not_mem_nil, or_false] at h
    rcases h with rfl | rfl
    · exact okO_way (st1 118) [98, 99] (by decide) (by decide)
    · exact okO_way (st1 119) [97, 98] (by decide) (by decide)
theorem apply_t {m x : List GObj} {e : GEdit} {n : Int} (h : gApply m e = (x, n)) (H : Heap) (hm : okM m) (he : okE e) (hl : m.length < 549755813888) :
    ACalls Tryz.prog 8 [.agg [.pv (slObjs m)], av (encEdit e)] H (fun r H' => r = .tup [.agg [.pv (slObjs x)], iv n] ∧ H' = H) := by
  have := apply_c m e H hm he hl
  rwa [h] at this
theorem all_t {m x : List GObj} {l : List GEdit} {i n : Int} (h : gAll m l = (x, i, n)) (H : Heap) (hm : okM m) (hl : l.length < 549755813888) (he : ∀ e, e ∈ l → okE e) :
    ACalls Tryz.prog 20 [.agg [.pv (slObjs m)], .pv (slEdits l)] H (fun r H' => r = .tup [.agg [.pv (slObjs x)], iv i, iv n] ∧ H' = H) := by
  have := all_c m l H hm hl he
  rwa [h] at this
theorem names_t {e : GEdit} {l : List ByteArray} (h : gNames e = l) (H : Heap) (he : okE e) (hsz : e.refs.length + e.obj.refs.length < 1099511627776) : ACalls Tryz.prog 7 [av (encEdit e)] H (fun r H' => r = .pv (slStrs l) ∧ H' = H) := by
  have := names_cE e H he hsz
  rwa [h] at this
theorem same06_t {a b : List ByteArray} (h : a = b) (H : Heap) (ha : a.length < 4611686018427387904) : ACalls Tryz.prog 18 [.pv (slStrs a), .pv (slStrs b)] H (fun r H' => r = bv true ∧ H' = H) := by
  have := same06_c a b H ha
  rwa [decide_eq_true h] at this
theorem atlasSame_t {a b : List GObj} (h : a = b) (H : Heap) (ha : okM a) : ACalls Tryz.prog 23 [.agg [.pv (slObjs a)], .agg [.pv (slObjs b)]] H (fun r H' => r = bv true ∧ H' = H) := by
  have := atlasSame_c a b H ha.1 (fun o ho => okS_of (ha.2 o ho))
  rwa [decide_eq_true h] at this
theorem head21_c (H : Heap) : ACalls Tryz.prog 5 [] H (fun r H' => r = bv true ∧ H' = H) := by
  refine ACalls.pure ?_ (by simp) H
  have w1 : (st1 119).size < 10 := by decide
  have w2 : (st1 118).size < 10 := by decide
  have w3 : (st1 98).size < 10 := by decide
  have w4 : sNil.size < 10 := by decide
  have l0 : s0.length < 549755813888 := by show 4 < _; omega
  have l1 : x1.length < 549755813888 := by show 5 < _; omega
  refine ACalls.body Tryz.func5 rfl Tryz.ntmps5 (Nat.le_of_ble_eq_true rfl) ?_
  refine awp_seq ?_
  refine awp_region ?_
  refine al_d rfl rfl rfl (by exact opd_assign rfl rfl) ?_
  refine al_nil ?_
  refine awp_seq ?_
  refine awp_region ?_
  refine al_d rfl rfl rfl (by exact opr_call rfl rfl Tryz.call22 rfl (sample_c _)) ?_
  refine al_d rfl rfl rfl (by exact x_alloc (id := 1) rfl zo24 rfl rfl) ?_
  refine al_n rfl rfl (by exact (by exact x_store_all rfl Tryz.sizeOf24 rfl rfl rfl rfl rfl rfl rfl rfl)) ?_
  refine al_nil ?_
  refine awp_seq ?_
  refine awp_region ?_
  refine al_d rfl rfl rfl (by exact (by exact opd_loadn_ref rfl Tryz.isAgg24 Tryz.sizeOf24 rfl rfl rfl rfl rfl rfl)) ?_
  refine al_d rfl rfl rfl (by exact x_build rfl bo32 rfl rfl) ?_
  refine al_d rfl rfl rfl (by exact opr_call rfl rfl Tryz.call8 rfl (apply_t hS _ okM_s0 (okE0 6 w1 w2 w3) l0)) ?_
  refine al_d rfl rfl rfl (by exact opd_move rfl rfl) ?_
  refine al_d rfl rfl rfl (by exact opd_extract rfl rfl rfl) ?_
  refine al_d rfl rfl rfl (by exact opd_extract rfl rfl rfl) ?_
  refine al_d rfl rfl rfl (by exact x_alloc (id := 2) rfl zo24 rfl rfl) ?_
  refine al_n rfl rfl (by exact (by exact x_store_all rfl Tryz.sizeOf24 rfl rfl rfl rfl rfl rfl rfl rfl)) ?_
  refine al_d rfl rfl rfl (by exact opd_assign rfl rfl) ?_
  refine al_nil ?_
  refine awp_seq ?_
  refine awp_region ?_
  refine al_d rfl rfl rfl (by exact (by exact opd_loadn_ref rfl Tryz.isAgg24 Tryz.sizeOf24 rfl rfl rfl rfl rfl rfl)) ?_
  refine al_d rfl rfl rfl (by exact x_build rfl bo32 rfl rfl) ?_
  refine al_d rfl rfl rfl (by exact opr_call rfl rfl Tryz.call8 rfl (apply_t hJ _ okM_x1 (okE0 7 w1 w2 w4) l1)) ?_
  refine al_d rfl rfl rfl (by exact opd_move rfl rfl) ?_
  refine al_d rfl rfl rfl (by exact opd_extract rfl rfl rfl) ?_
  refine al_d rfl rfl rfl (by exact opd_extract rfl rfl rfl) ?_
  refine al_d rfl rfl rfl (by exact x_alloc (id := 4) rfl zo24 rfl rfl) ?_
  refine al_n rfl rfl (by exact (by exact x_store_all rfl Tryz.sizeOf24 rfl rfl rfl rfl rfl rfl rfl rfl)) ?_
  refine al_d rfl rfl rfl (by exact opd_assign rfl rfl) ?_
  refine al_nil ?_
  refine awp_seq ?_
  refine awp_region ?_
  refine al_d rfl rfl rfl (by exact (by exact opd_loadn_ref rfl Tryz.isAgg24 Tryz.sizeOf24 rfl rfl rfl rfl rfl rfl)) ?_
  refine al_d rfl rfl rfl (by exact x_build rfl bo32 rfl rfl) ?_
  refine al_d rfl rfl rfl (by exact opr_call rfl rfl Tryz.call8 rfl (apply_t hB _ okM_s0 (okE0 5 w3 w4 w4) l0)) ?_
  refine al_d rfl rfl rfl (by exact opd_move rfl rfl) ?_
  refine al_d rfl rfl rfl (by exact opd_extract rfl rfl rfl) ?_
  refine al_d rfl rfl rfl (by exact opd_extract rfl rfl rfl) ?_
  refine al_d rfl rfl rfl (by exact x_alloc (id := 6) rfl zo24 rfl rfl) ?_
  refine al_n rfl rfl (by exact (by exact x_store_all rfl Tryz.sizeOf24 rfl rfl rfl rfl rfl rfl rfl rfl)) ?_
  refine al_d rfl rfl rfl (by exact opd_assign rfl rfl) ?_
  refine al_nil ?_
  refine awp_seq ?_
  refine awp_region ?_
  refine al_d rfl rfl rfl (by exact (by exact opd_loadn_ref rfl Tryz.isAgg24 Tryz.sizeOf24 rfl rfl rfl rfl rfl rfl)) ?_
  refine al_d rfl rfl rfl (by exact x_build rfl bo32 rfl rfl) ?_
  refine al_d rfl rfl rfl (by exact opr_call rfl rfl Tryz.call8 rfl (apply_t hM _ okM_s0 (okE0 2 w1 w4 w4) l0)) ?_
  refine al_d rfl rfl rfl (by exact opd_move rfl rfl) ?_
  refine al_d rfl rfl rfl (by exact opd_extract rfl rfl rfl) ?_
  refine al_d rfl rfl rfl (by exact opd_extract rfl rfl rfl) ?_
  refine al_d rfl rfl rfl (by exact x_alloc (id := 8) rfl zo24 rfl rfl) ?_
  refine al_n rfl rfl (by exact (by exact x_store_all rfl Tryz.sizeOf24 rfl rfl rfl rfl rfl rfl rfl rfl)) ?_
  refine al_d rfl rfl rfl (by exact opd_assign rfl rfl) ?_
  refine al_nil ?_
  refine awp_seq ?_
  refine awp_region ?_
  refine al_d rfl rfl rfl (by exact (by exact opd_loadn_ref rfl Tryz.isAgg24 Tryz.sizeOf24 rfl rfl rfl rfl rfl rfl)) ?_
  refine al_d rfl rfl rfl (by exact x_build rfl bo32 rfl rfl) ?_
  refine al_d rfl rfl rfl (by exact x_build rfl bo32 rfl rfl) ?_
  refine al_d rfl rfl rfl (by exact (by exact x_buildSlice ([eW, eW].map encEdit) rfl so45 rfl rfl rfl rfl rfl (by intro r hr; simp only [List.map_cons, List.map_nil, List.mem_cons, List.not_mem_nil, or_false] at hr; rcases hr with rfl | rfl <;> rfl))) ?_
  refine al_d rfl rfl rfl (by exact opr_call rfl rfl Tryz.call20 rfl (all_t hA _ okM_s0 (by show 2 < _; omega) (by intro e he; simp only [List.mem_cons, List.not_mem_nil, or_false] at he; rcases he with rfl | rfl <;> exact okE0 5 w1 w4 w4))) ?_
  refine al_d rfl rfl rfl (by exact opd_move rfl rfl) ?_
  refine al_d rfl rfl rfl (by exact opd_extract rfl rfl rfl) ?_
  refine al_d rfl rfl rfl (by exact opd_extract rfl rfl rfl) ?_
  refine al_d rfl rfl rfl (by exact opd_extract rfl rfl rfl) ?_
  refine al_d rfl rfl rfl (by exact x_alloc (id := 10) rfl zo24 rfl rfl) ?_
  refine al_n rfl rfl (by exact (by exact x_store_all rfl Tryz.sizeOf24 rfl rfl rfl rfl rfl rfl rfl rfl)) ?_
  refine al_d rfl rfl rfl (by exact opd_assign rfl rfl) ?_
  refine al_d rfl rfl rfl (by exact opd_assign rfl rfl) ?_
  refine al_nil ?_
  refine awp_seq ?_
  refine awp_seq ?_
  refine awp_region ?_
  refine al_d rfl rfl rfl (by exact opd_move rfl rfl) ?_
  refine al_d rfl rfl rfl (by exact opd_neq rfl rfl rfl) ?_
  refine al_d rfl rfl rfl (by exact opd_move rfl rfl) ?_
  refine al_ond rfl rfl rfl (by rfl) rfl rfl (by exact (by exact opd_field_ref rfl fo24_0 rfl rfl rfl rfl)) ?_
  refine al_ond rfl rfl rfl (by rfl) rfl rfl (by exact (by exact opd_load1_ref rfl Tryz.isAgg22 rfl rfl rfl rfl rfl)) ?_
  refine al_ond rfl rfl rfl (by rfl) rfl rfl (by exact (by exact opd_len_sl rfl Tryz.underlying22 rfl)) ?_
  refine al_ond rfl rfl rfl (by rfl) rfl rfl (by exact opd_neq rfl rfl rfl) ?_
  refine al_d rfl rfl rfl (by exact (by exact opd_pick_f rfl rfl rfl)) ?_
  refine al_nil ?_
  refine awp_cond rfl (fun hc1 => ?_) (fun hc1 => ?_)
  -- cond 1
  · cases hc1
  · skip
    have hi3 : (x1.map encObj)[3]? = some (encObj ⟨st1 118, 2, 0, 0, [st1 98, st1 99], []⟩) := rfl
    have hi4 : (x1.map encObj)[4]? = some (encObj ⟨st1 119, 2, 0, 0, [st1 97, st1 98], []⟩) := rfl
    refine awp_skip ?_
    refine awp_seq ?_
    refine awp_region ?_
    refine al_d rfl rfl rfl (by exact (by exact opd_field_ref rfl fo24_0 rfl rfl rfl rfl)) ?_
    refine al_d rfl rfl rfl (by exact (by exact opd_load1_ref rfl Tryz.isAgg22 rfl rfl rfl rfl rfl)) ?_
    refine al_d rfl rfl rfl (by exact (by exact x_index_pad rfl so22 rfl rfl (by omega) (by exact Int.toNat_natCast _) hi3 rfl)) ?_
    refine al_d rfl rfl rfl (by exact (by exact opd_field_pad rfl fo30_3 rfl rfl)) ?_
    refine al_d rfl rfl rfl (by exact (by exact opd_load1_pad rfl Tryz.isAgg27 rfl (by omega) rfl)) ?_
    refine al_d rfl rfl rfl (by exact (by exact x_buildSlice ([st1 98, st1 99].map encStr) rfl so27 rfl rfl rfl rfl rfl (by simp [encStr]))) ?_
    refine al_d rfl rfl rfl (by exact opr_call rfl rfl Tryz.call18 rfl (same06_t (a := [st1 98, st1 99]) (b := [st1 98, st1 99]) rfl _ (by show 2 < _; omega))) ?_
    refine al_d rfl rfl rfl (by exact opd_move rfl rfl) ?_
    refine al_ond rfl rfl rfl (by rfl) rfl rfl (by exact (by exact opd_field_ref rfl fo24_0 rfl rfl rfl rfl)) ?_
    refine al_ond rfl rfl rfl (by rfl) rfl rfl (by exact (by exact opd_load1_ref rfl Tryz.isAgg22 rfl rfl rfl rfl rfl)) ?_
    refine al_ond rfl rfl rfl (by rfl) rfl rfl (by exact (by exact x_index_pad rfl so22 rfl rfl (by omega) (by exact Int.toNat_natCast _) hi4 rfl)) ?_
    refine al_ond rfl rfl rfl (by rfl) rfl rfl (by exact (by exact opd_field_pad rfl fo30_3 rfl rfl)) ?_
    refine al_ond rfl rfl rfl (by rfl) rfl rfl (by exact (by exact opd_load1_pad rfl Tryz.isAgg27 rfl (by omega) rfl)) ?_
    refine al_ond rfl rfl rfl (by rfl) rfl rfl (by exact (by exact x_buildSlice ([st1 97, st1 98].map encStr) rfl so27 rfl rfl rfl rfl rfl (by simp [encStr]))) ?_
    refine al_ond rfl rfl rfl (by rfl) rfl rfl (by exact opr_call rfl rfl Tryz.call18 rfl (same06_t (a := [st1 97, st1 98]) (b := [st1 97, st1 98]) rfl _ (by show 2 < _; omega))) ?_
    refine al_d rfl rfl rfl (by exact (by exact opd_pick_t rfl rfl rfl)) ?_
    refine al_d rfl rfl rfl (by exact opd_move rfl rfl) ?_
    refine al_ond rfl rfl rfl (by rfl) rfl rfl (by exact opd_move rfl rfl) ?_
    refine al_ond rfl rfl rfl (by rfl) rfl rfl (by exact opd_eql rfl rfl rfl) ?_
    refine al_d rfl rfl rfl (by exact (by exact opd_pick_t rfl rfl rfl)) ?_
    refine al_d rfl rfl rfl (by exact opd_move rfl rfl) ?_
    refine al_ond rfl rfl rfl (by rfl) rfl rfl (by exact (by exact opd_loadn_ref rfl Tryz.isAgg24 Tryz.sizeOf24 rfl rfl rfl rfl rfl rfl)) ?_
    refine al_ond rfl rfl rfl (by rfl) rfl rfl (by exact (by exact opd_loadn_ref rfl Tryz.isAgg24 Tryz.sizeOf24 rfl rfl rfl rfl rfl rfl)) ?_
    refine al_ond rfl rfl rfl (by rfl) rfl rfl (by exact opr_call rfl rfl Tryz.call23 rfl (atlasSame_t (a := s0) (b := s0) rfl _ okM_s0)) ?_
    refine al_d rfl rfl rfl (by exact (by exact opd_pick_t rfl rfl rfl)) ?_
    refine al_d rfl rfl rfl (by exact opd_move rfl rfl) ?_
    refine al_ond rfl rfl rfl (by rfl) rfl rfl (by exact opd_move rfl rfl) ?_
    refine al_ond rfl rfl rfl (by rfl) rfl rfl (by exact opd_eql rfl rfl rfl) ?_
    refine al_d rfl rfl rfl (by exact (by exact opd_pick_t rfl rfl rfl)) ?_
    refine al_d rfl rfl rfl (by exact opd_move rfl rfl) ?_
    refine al_ond rfl rfl rfl (by rfl) rfl rfl (by exact opd_move rfl rfl) ?_
    refine al_ond rfl rfl rfl (by rfl) rfl rfl (by exact opd_eql rfl rfl rfl) ?_
    refine al_d rfl rfl rfl (by exact (by exact opd_pick_t rfl rfl rfl)) ?_
    refine al_d rfl rfl rfl (by exact opd_assign rfl rfl) ?_
    refine al_nil ?_
    refine awp_seq ?_
    refine awp_region ?_
    refine al_d rfl rfl rfl (by exact opd_move rfl rfl) ?_
    refine al_d rfl rfl rfl (by exact opd_move rfl rfl) ?_
    refine al_ond rfl rfl rfl (by rfl) rfl rfl (by exact opd_move rfl rfl) ?_
    refine al_ond rfl rfl rfl (by rfl) rfl rfl (by exact opd_eql rfl rfl rfl) ?_
    refine al_d rfl rfl rfl (by exact (by exact opd_pick_t rfl rfl rfl)) ?_
    refine al_d rfl rfl rfl (by exact opd_move rfl rfl) ?_
    refine al_ond rfl rfl rfl (by rfl) rfl rfl (by exact opd_move rfl rfl) ?_
    refine al_ond rfl rfl rfl (by rfl) rfl rfl (by exact opd_eql rfl rfl rfl) ?_
    refine al_d rfl rfl rfl (by exact (by exact opd_pick_t rfl rfl rfl)) ?_
    refine al_d rfl rfl rfl (by exact opd_move rfl rfl) ?_
    refine al_ond rfl rfl rfl (by rfl) rfl rfl (by exact x_build rfl bo32 rfl rfl) ?_
    refine al_ond rfl rfl rfl (by rfl) rfl rfl (by exact opr_call rfl rfl Tryz.call7 rfl (names_t hN _ (okE0 6 w1 w2 w3) (by show 0 < _; omega))) ?_
    refine al_ond rfl rfl rfl (by rfl) rfl rfl (by exact (by exact x_buildSlice ([st1 98, st1 118, st1 119].map encStr) rfl so27 rfl rfl rfl rfl rfl (by simp [encStr]))) ?_
    refine al_ond rfl rfl rfl (by rfl) rfl rfl (by exact opr_call rfl rfl Tryz.call18 rfl (same06_t (a := [st1 98, st1 118, st1 119]) (b := [st1 98, st1 118, st1 119]) rfl _ (by show 3 < _; omega))) ?_
    refine al_d rfl rfl rfl (by exact (by exact opd_pick_t rfl rfl rfl)) ?_
    refine al_d rfl rfl rfl (by exact opd_assign rfl rfl) ?_
    refine al_nil ?_
    refine awp_ret ?_
    -- return
    refine aret1 (H' := []) (by exact .inr rfl) rfl (rval_tmp rfl) (Fin.wk (by simp) trivial trivial) ?_
    exact ⟨rfl, rfl⟩
end Go.Proofs.YtedfihgkopejcaaGreat
end
section
set_option linter.unusedVariables false
set_option linter.unusedSimpArgs false
set_option maxRecDepth 100000
namespace Go.Proofs.YtedfihgkopejcaaGreat
open Go.Abs
def isW (n : Int) : Bool := (isLet n || isDig n) || decide (n = 95)
def badW (s : ByteArray) (k : Nat) : Bool := !isW (byteAt s k)
def rName (s : ByteArray) : Bool := !((List.range s.size).any (badW s)) && (decide ((0 : Int) < (s.size : Int)) && decide ((s.size : Int) ≤ 24) && isLet (byteAt s 0))
end Go.Proofs.YtedfihgkopejcaaGreat
end
section
set_option linter.unusedVariables false
set_option linter.unusedSimpArgs false
set_option maxRecDepth 100000
namespace Go.Proofs.YtedfihgkopejcaaGreat
open Go.Abs

def gNum (k n : Int) : Bool := if k = 1 then decide (n = 0) else if k = 2 then decide (2 ≤ n) else if k = 3 then decide (3 ≤ n) else if k = 4 then decide (1 ≤ n) else decide (n = 3)
def rRefs (o : GObj) : Bool := (decide ((o.refs.length : Int) ≤ 2000) && !((List.range o.refs.length).any (wrongAt o))) && gNum o.kind (o.refs.length : Int)
def atO (o : GObj) : Bool := if o.kind = 1 then gOn o.x o.y else (decide (o.x = 0) && decide (o.y = 0))
end Go.Proofs.YtedfihgkopejcaaGreat
end
section
set_option linter.unusedVariables false
set_option linter.unusedSimpArgs false
set_option maxRecDepth 100000
namespace Go.Proofs.YtedfihgkopejcaaGreat
open Go.Abs
/-- The k-th elements are equal, for all k below n. -/
def eqTo {α : Type} (e : α → α → Bool) (a b : List α) : Bool := decide (a.length = b.length) && (List.range a.length).all fun k => match a[k]?, b[k]? with | some x, some y => e x y | _, _ => true
def strEq (a b : ByteArray) : Bool := decide (a = b)
def headEq (a b : GObj) : Bool := decide (a.id = b.id) && decide (a.kind = b.kind) && (decide (a.x = b.x) && decide (a.y = b.y)) && decide (a.refs.length = b.refs.length) && decide (a.tags.length = b.tags.length)
def gSameR (a b : GObj) : Bool := headEq a b && (eqTo strEq a.refs b.refs && eqTo tagEq a.tags b.tags)
def headNe (a b : GObj) (n1 n2 n3 n4 : Int) : Bool := !decide (a.id = b.id) || !decide (a.kind = b.kind) || !(decide (a.x = b.x) && decide (a.y = b.y)) || !decide (n1 = n2) || !decide (n3 = n4)
def gSameM (a b : List GObj) : Bool := eqTo gSameR a b
def okL (m : List GObj) : Prop := m.length < 4611686018427387904 ∧ ∀ o ∈ m, o.refs.length < 4611686018427387904 ∧ o.tags.length < 4611686018427387904
end Go.Proofs.YtedfihgkopejcaaGreat
end
section
set_option linter.unusedVariables false
set_option linter.unusedSimpArgs false
set_option maxRecDepth 100000
namespace Go.Proofs.YtedfihgkopejcaaGreat
open Go.Abs

theorem apply_ok {m : List GObj} {e : GEdit} (hm : okM m) (he : okE e) (h : (gApply m e).2 = 0) : closedB m = true ∧ gEditV e = true ∧ closedB (gApply m e).1 = true ∧ okM (gApply m e).1 := by
  unfold gApply at h ⊢
  split at h
  · rename_i h1
    rw [if_pos h1]
    exact ⟨h1, (eff_of (closed_gMap h1) h).1, after_closed h1 h, after_okM hm (closed_gMap h1) he h⟩
  · cases h
end Go.Proofs.YtedfihgkopejcaaGreat
end
section
set_option linter.unusedVariables false
set_option linter.unusedSimpArgs false
set_option maxRecDepth 100000
namespace Go.Proofs.YtedfihgkopejcaaGreat
open Go.Abs
/-- What a possible edit puts and drops, by operations. -/
inductive Perf (m : List GObj) (e : GEdit) : GRes → Prop
  | put (ho : e.op = 1) (hn : kindOf m e.obj.id = none) (hr : refErr m e.obj.kind 0 e.obj.refs = 0) : Perf m e ⟨[e.obj], sNil, 0⟩
  | move (o : GObj) (ho : e.op = 2) (hl : look m e.id = some o) (hf : fitsB 2 o.kind = true) : Perf m e ⟨[⟨o.id, o.kind, e.x, e.y, o.refs, o.tags⟩], sNil, 0⟩
  | tag (o : GObj) (ho : e.op = 3) (hl : look m e.id = some o) (hs : (gSet o.tags e.key e.val).2 = 0) : Perf m e ⟨[⟨o.id, o.kind, o.x, o.y, o.refs, (gSet o.tags e.key e.val).1⟩], sNil, 0⟩
  | refs (o : GObj) (ho : e.op = 4) (hl : look m e.id = some o) (hf : fitsB 4 o.kind = true) (hg : gObj ⟨o.id, o.kind, o.x, o.y, e.refs, o.tags⟩ = true) (hr : refErr m o.kind 0 e.refs = 0) : Perf m e ⟨[⟨o.id, o.kind, o.x, o.y, e.refs, o.tags⟩], sNil, 0⟩
  | drop (o : GObj) (ho : e.op = 5) (hl : look m e.id = some o) (hr : gRefd m false [e.id] = false) : Perf m e ⟨[], e.id, 0⟩
  | split (o : GObj) (ho : e.op = 6) (hl : look m e.id = some o) (hf : fitsB 6 o.kind = true) (hn : kindOf m e.other = none) (hi : ¬ gInner o.refs e.node < 0) (hr : gRefd m true [e.id] = false) :
      Perf m e ⟨[⟨o.id, o.kind, o.x, o.y, o.refs.take ((gInner o.refs e.node).toNat + 1), o.tags⟩, ⟨e.other, 2, 0, 0, o.refs.drop (gInner o.refs e.node).toNat, o.tags⟩], sNil, 0⟩
  | join (o x : GObj) (ho : e.op = 7) (hl : look m e.id = some o) (hf : fitsB 7 o.kind = true) (hx : look m e.other = some x) (hk : x.kind = 2) (hi : (decide (e.id = e.other) || !decide (atS o.refs (o.refs.length - 1) = atS x.refs 0)) = false) (hr : gRefd m true [e.id, e.other] = false) (hlen : ¬ 2000 < o.refs.length + x.refs.length - 1) :
      Perf m e ⟨[⟨o.id, o.kind, o.x, o.y, [o.refs, x.refs.drop 1].flatten, o.tags⟩], e.other, 0⟩
theorem perf_of {m : List GObj} {e : GEdit} (hv : gEditV e = true) (h : (gPerform m e).err = 0) : Perf m e (gPerform m e) := by
  obtain ⟨⟨o1, o2⟩, b2, b3⟩ := gEditV_iff.1 hv
  unfold gPerform at h ⊢
  split at h
  · next ho =>
    rw [if_pos ho]
    split at h
    · exact absurd h (by decide)
    · next hk =>
      rw [if_neg hk]
      have h' : refErr m e.obj.kind 0 e.obj.refs = 0 := h
      rw [h']
      exact .put ho (by simpa using hk) h'
  · next ho =>
    rw [if_neg ho]
    split at h
    · exact absurd h (by decide)
    · next o hl =>
      split at h
      · exact absurd h (by decide)
      · next h7 =>
        rw [if_neg h7]
        split at h
        · exact absurd h (by decide)
        · next hfit =>
          rw [if_neg hfit]
          rw [Bool.not_eq_true, Bool.not_eq_false'] at hfit
          split at h
          · next h2 =>
            rw [if_pos h2]
            rw [h2] at hfit
            exact .move o h2 hl hfit
          · next h2 =>
            rw [if_neg h2]
            split at h
            · next h3 =>
              rw [if_pos h3]
              split at h
              · next hs =>
                have hs' : ¬ (gSet o.tags e.key e.val).2 = 0 := by simpa using hs
                exact absurd h hs'
              · next hs =>
                rw [if_neg hs]
                exact .tag o h3 hl (by simpa using hs)
            · next h3 =>
              rw [if_neg h3]
              split at h
              · next h4 =>
                rw [if_pos h4]
                split at h
                · exact absurd h (by decide)
                · next hgo =>
                  rw [if_neg hgo]
                  rw [h4] at hfit
                  have h' : refErr m o.kind 0 e.refs = 0 := h
                  rw [h']
                  exact .refs o h4 hl hfit (by simpa using hgo) h'
              · next h4 =>
                rw [if_neg h4]
                split at h
                · next h5 =>
                  rw [if_pos h5]
                  split at h
                  · exact absurd h (by decide)
                  · next hr =>
                    rw [if_neg hr]
                    exact .drop o h5 hl (by simpa using hr)
                · next h5 =>
                  rw [if_neg h5]
                  split at h
                  · next h6 =>
                    rw [if_pos h6]
                    rw [h6] at hfit
                    unfold gSplit at h ⊢
                    split at h
                    · exact absurd h (by decide)
                    · next hk =>
                      rw [if_neg hk]
                      split at h
                      · exact absurd h (by decide)
                      · next hi =>
                        rw [if_neg hi]
                        split at h
                        · exact absurd h (by decide)
                        · next hr =>
                          rw [if_neg hr]
                          exact .split o h6 hl hfit (by simpa using hk) (by simpa using hi) (by simpa using hr)
                  · next h6 =>
                    rw [if_neg h6]
                    have h77 : e.op = 7 := by omega
                    rw [h77] at hfit
                    cases hl2 : look m e.other with
                    | none =>
                      have hl2' : m.find? (idIs e.other) = none := hl2
                      rw [h77, hl2'] at h7; exact absurd rfl h7
                    | some x =>
                      have hl2' : m.find? (idIs e.other) = some x := hl2
                      simp only [hl2', Option.getD_some] at h ⊢
                      unfold gJoin at h ⊢
                      split at h
                      · exact absurd h (by decide)
                      · next hk =>
                        rw [if_neg hk]
                        split at h
                        · exact absurd h (by decide)
                        · next hi =>
                          rw [if_neg hi]
                          split at h
                          · exact absurd h (by decide)
                          · next hr =>
                            rw [if_neg hr]
                            split at h
                            · exact absurd h (by decide)
                            · next hlen =>
                              rw [if_neg hlen]
                              exact .join o x h77 hl hfit hl2 (by simpa using hk) (by rwa [Bool.not_eq_true] at hi) (by simpa using hr) (by simpa using hlen)
theorem of_perf {m : List GObj} {e : GEdit} {r : GRes} (h : Perf m e r) : gPerform m e = r := by
  cases h with
  | put ho hn hr => unfold gPerform; rw [if_pos ho, hn, if_neg (by decide), hr]
  | move o ho hl hf =>
    have hl' : m.find? (idIs e.id) = some o := hl
    unfold gPerform
    rw [if_neg (by omega)]
    simp only [hl']
    rw [if_neg (by rw [ho]; simp), ho, hf, if_neg (by decide), if_pos rfl]
  | tag o ho hl hs =>
    have hl' : m.find? (idIs e.id) = some o := hl
    have hf : fitsB 3 o.kind = true := rfl
    unfold gPerform
    rw [if_neg (by omega)]
    simp only [hl']
    rw [if_neg (by rw [ho]; simp), ho, hf, if_neg (by decide), if_neg (by decide), if_pos rfl, if_neg (by simp [hs])]
  | refs o ho hl hf hg hr =>
    have hl' : m.find? (idIs e.id) = some o := hl
    unfold gPerform
    rw [if_neg (by omega)]
    simp only [hl']
    rw [if_neg (by rw [ho]; simp), ho, hf, if_neg (by decide), if_neg (by decide), if_neg (by decide), if_pos rfl, if_neg (by simp [hg]), hr]
  | drop o ho hl hr =>
    have hl' : m.find? (idIs e.id) = some o := hl
    have hf : fitsB 5 o.kind = true := rfl
    unfold gPerform
    rw [if_neg (by omega)]
    simp only [hl']
    rw [if_neg (by rw [ho]; simp), ho, hf, if_neg (by decide), if_neg (by decide), if_neg (by decide), if_neg (by decide), if_pos rfl, if_neg (by simp [hr])]
  | split o ho hl hf hn hi hr =>
    have hl' : m.find? (idIs e.id) = some o := hl
    unfold gPerform
    rw [if_neg (by omega)]
    simp only [hl']
    rw [if_neg (by rw [ho]; simp), ho, hf, if_neg (by decide), if_neg (by decide), if_neg (by decide), if_neg (by decide), if_neg (by decide), if_pos rfl]
    unfold gSplit
    rw [if_neg (by simp [hn]), if_neg (by simpa using hi), if_neg (by simp [hr])]
  | join o x ho hl hf hx hk hi hr hlen =>
    have hl' : m.find? (idIs e.id) = some o := hl
    have hx' : m.find? (idIs e.other) = some x := hx
    unfold gPerform
    rw [if_neg (by omega)]
    simp only [hl', hx', Option.getD_some]
    rw [if_neg (by simp), ho, hf, if_neg (by decide), if_neg (by decide), if_neg (by decide), if_neg (by decide), if_neg (by decide), if_neg (by decide)]
    unfold gJoin
    rw [if_neg (by simp [hk]), if_neg (by rw [hi]; decide), if_neg (by simp [hr]), if_neg (by simpa using hlen)]
/-- A string that an edit mentions, or the empty one. -/
def raw (e : GEdit) (s : ByteArray) : Prop := s = e.id ∨ s = e.other ∨ s = e.node ∨ s = e.obj.id ∨ s ∈ e.refs ∨ s ∈ e.obj.refs
theorem sputQ_mem {l : List ByteArray} {s x : ByteArray} : x ∈ sput l s ↔ x ∈ l ∨ x = s := by
  unfold sput
  split
  · next h =>
    have := inB_iff.1 h
    constructor
    · exact .inl
    · rintro (h | rfl)
      · exact h
      · exact this
  · rw [List.mem_append, List.mem_singleton]
theorem addAll_mem : ∀ {l L : List ByteArray} {x : ByteArray}, x ∈ addAll L l ↔ x ∈ L ∨ x ∈ l
  | [], L, x => by simp [addAll]
  | s :: l, L, x => by
    show x ∈ addAll (sput L s) l ↔ _
    rw [addAll_mem, sputQ_mem, List.mem_cons, or_assoc]
theorem names_mem {e : GEdit} {s : ByteArray} (hv : gEditV e = true) : s ∈ gNames e ↔ raw e s ∧ s ≠ sNil := by
  rw [gNames, if_pos hv, (sortS_perm _).mem_iff, List.mem_filter, idsOf, addAll_mem, addAll_mem, addAll_mem]
  simp only [nonE, Bool.not_eq_true', decide_eq_false_iff_not, List.not_mem_nil, false_or, List.mem_cons, or_false, raw, or_assoc]
theorem gObj_id {o : GObj} (h : gObj o = true) : o.id ≠ sNil := gName_ne (gObj_len h).2.2.2.1
theorem okOf_id {e : GEdit} (h : okOf e = true) (h1 : e.op ≠ 1) : e.id ≠ sNil := by
  rw [okOf, if_neg h1, Bool.and_eq_true] at h
  exact gName_ne h.1
theorem okOf_other {e : GEdit} (h : okOf e = true) (h1 : e.op = 6 ∨ e.op = 7) : e.other ≠ sNil := by
  rw [okOf, if_neg (by omega), Bool.and_eq_true, if_neg (by omega), if_neg (by omega), if_neg (by omega), if_neg (by omega)] at h
  have h2 := h.2
  split at h2
  · rw [Bool.and_eq_true] at h2; exact gName_ne h2.2
  · exact gName_ne h2
theorem okOf_obj {e : GEdit} (h : okOf e = true) (h1 : e.op = 1) : e.obj.id ≠ sNil := by
  rw [okOf, if_pos h1] at h
  exact gObj_id h
/-- What a possible edit puts and drops is among its names. -/
theorem perf_names {m : List GObj} {e : GEdit} {r : GRes} (hv : gEditV e = true) (h : Perf m e r) : (∀ o, o ∈ r.put → o.id ∈ gNames e) ∧ (r.drop = sNil ∨ r.drop ∈ gNames e) ∧ (r.put.length + (if r.drop = sNil then 0 else 1) ≤ 2) := by
  obtain ⟨_, hk, _⟩ := gEditV_iff.1 hv
  have hid : ∀ o, look m e.id = some o → e.op ≠ 1 → o.id ∈ gNames e := fun o hl h1 => by
    rw [look_id hl]
    exact (names_mem hv).2 ⟨.inl rfl, okOf_id hk h1⟩
  have one : ∀ (x y : GObj), x ∈ [y] → x = y := fun x y hx => List.mem_singleton.1 hx
  cases h with
  | put ho hn hr => exact ⟨fun o h => by rw [one _ _ h]; exact (names_mem hv).2 ⟨.inr (.inr (.inr (.inl rfl))), okOf_obj hk ho⟩, .inl rfl, by simp⟩
  | move o ho hl hf => exact ⟨fun x h => by rw [one _ _ h]; exact hid o hl (by omega), .inl rfl, by simp⟩
  | tag o ho hl hs => exact ⟨fun x h => by rw [one _ _ h]; exact hid o hl (by omega), .inl rfl, by simp⟩
  | refs o ho hl hf hg hr => exact ⟨fun x h => by rw [one _ _ h]; exact hid o hl (by omega), .inl rfl, by simp⟩
  | drop o ho hl hr => exact ⟨fun x h => (by cases h), .inr ((names_mem hv).2 ⟨.inl rfl, okOf_id hk (by omega)⟩), by show 0 + _ ≤ 2; split <;> omega⟩
  | split o ho hl hf hn hi hr =>
    refine ⟨fun x h => ?_, .inl rfl, by simp⟩
    rcases List.mem_cons.1 h with h | h
    · rw [h]; exact hid o hl (by omega)
    · rw [one _ _ h]; exact (names_mem hv).2 ⟨.inr (.inl rfl), okOf_other hk (.inl ho)⟩
  | join o x ho hl hf hx hk2 hi hr hlen => exact ⟨fun x h => by rw [one _ _ h]; exact hid o hl (by omega), .inr ((names_mem hv).2 ⟨.inr (.inl rfl), okOf_other hk (.inr ho)⟩), by show 1 + _ ≤ 2; split <;> omega⟩
/-- The lookups behind objects that are put and an Id that is dropped. -/
def putF : List GObj → (ByteArray → Option GObj) → ByteArray → Option GObj
  | [], f, s => f s
  | o :: l, f, s => putF l (fun s => if s = o.id then some o else f s) s
def toF (r : GRes) (f : ByteArray → Option GObj) (s : ByteArray) : Option GObj := if r.drop = sNil then putF r.put f s else if s = r.drop then none else putF r.put f s
theorem putF_congr : ∀ {l : List GObj} {f g : ByteArray → Option GObj} {s : ByteArray}, f s = g s → putF l f s = putF l g s
  | [], f, g, s, h => h
  | o :: l, f, g, s, h => putF_congr (l := l) (by show (if s = o.id then some o else f s) = if s = o.id then some o else g s; rw [h])
theorem putF_out : ∀ {l : List GObj} {f : ByteArray → Option GObj} {s : ByteArray}, (∀ o, o ∈ l → o.id ≠ s) → putF l f s = f s
  | [], f, s, h => rfl
  | o :: l, f, s, h => by
    rw [putF, putF_out fun x hx => h x (List.mem_cons_of_mem _ hx)]
    exact if_neg fun e => h o List.mem_cons_self e.symm
theorem look_fold : ∀ {l m : List GObj} {s : ByteArray}, ups m → look (l.foldl gWith m) s = putF l (look m) s
  | [], m, s, hu => rfl
  | o :: l, m, s, hu => by
    show look (l.foldl gWith (gWith m o)) s = _
    rw [look_fold (gWith_ups hu), putF]
    exact putF_congr (look_with o s hu)
theorem fold_ups : ∀ {l m : List GObj}, ups m → ups (l.foldl gWith m)
  | [], m, h => h
  | o :: l, m, h => fold_ups (l := l) (gWith_ups h)
theorem look_to {m : List GObj} {r : GRes} {s : ByteArray} (hu : ups m) (hd : r.drop = sNil ∨ hasK GObj.id (r.put.foldl gWith m) r.drop = true) : look (gTo m r.put r.drop) s = toF r (look m) s := by
  unfold gTo toF
  split
  · exact look_fold hu
  · next h =>
    rcases hd with hd | hd
    · exact absurd hd h
    · rw [look_wo s (fold_ups hu) hd]
      split
      · rfl
      · exact look_fold hu
def sup (r : GRes) (s : ByteArray) : Prop := (∃ o, o ∈ r.put ∧ o.id = s) ∨ (r.drop ≠ sNil ∧ s = r.drop)
theorem toF_out {r : GRes} {f : ByteArray → Option GObj} {s : ByteArray} (h : ¬ sup r s) : toF r f s = f s := by
  have hp : putF r.put f s = f s := putF_out fun o ho e => h (.inl ⟨o, ho, e⟩)
  unfold toF
  split
  · exact hp
  · next hd => rw [if_neg fun e => h (.inr ⟨hd, e⟩), hp]
end Go.Proofs.YtedfihgkopejcaaGreat
end
section
set_option linter.unusedVariables false
set_option linter.unusedSimpArgs false
set_option maxRecDepth 100000
namespace Go.Proofs.YtedfihgkopejcaaGreat
open Go.Abs
structure GDelta where
  id : ByteArray
  was : Bool
  is : Bool
  old : GObj
  new : GObj
/-- The first pair of two lists of objects. -/
def dTakesL : List GObj → List GObj → Bool
  | [], _ => false
  | _ :: _, [] => true
  | x :: _, y :: _ => !slt y.id x.id
def dTakesR : List GObj → List GObj → Bool
  | _, [] => false
  | [], _ :: _ => true
  | x :: _, y :: _ => !slt x.id y.id
def gPairs : Nat → List GObj → List GObj → List GDelta
  | 0, _, _ => []
  | _ + 1, [], [] => []
  | n + 1, x :: a, [] => ⟨x.id, true, false, x, zObj⟩ :: gPairs n a []
  | n + 1, [], y :: b => ⟨y.id, false, true, zObj, y⟩ :: gPairs n [] b
  | n + 1, x :: a, y :: b => if x.id = y.id then ⟨x.id, true, true, x, y⟩ :: gPairs n a b else if slt x.id y.id then ⟨x.id, true, false, x, zObj⟩ :: gPairs n a (y :: b) else ⟨y.id, false, true, zObj, y⟩ :: gPairs n (x :: a) b
def dDiff (d : GDelta) : Bool := !(d.was == d.is) || !gSameO d.old d.new
def gDiff (a b : List GObj) : List GDelta := if gMap a && gMap b then (gPairs (a.length + b.length) a b).filter dDiff else []
theorem look_cons (x : GObj) (a : List GObj) (s : ByteArray) : look (x :: a) s = if x.id = s then some x else look a s := by
  show List.find? (idIs s) (x :: a) = _
  rw [List.find?_cons]
  by_cases h : x.id = s
  · rw [if_pos h, show idIs s x = true from decide_eq_true h]
  · rw [if_neg h, show idIs s x = false from decide_eq_false h]
theorem ups_tail {x : GObj} {a : List GObj} (h : ups (x :: a)) : ups a := (List.pairwise_cons.1 h).2
theorem ups_head {x y : GObj} {a : List GObj} (h : ups (x :: a)) (hy : y ∈ a) : slt x.id y.id = true := (List.pairwise_cons.1 h).1 y hy
theorem look_low {a : List GObj} {s : ByteArray} (h : ∀ x, x ∈ a → slt s x.id = true) : look a s = none := by
  rw [look_none]
  intro x hx e
  have := h x hx
  rw [e, slt_irr] at this
  cases this
/-- Each pair: its Id is not below a bound, and says what both maps have there. -/
theorem pairs_sound : ∀ (n : Nat) (a b : List GObj), ups a → ups b → ∀ d, d ∈ gPairs n a b →
    (∀ s, (∀ x, x ∈ a → slt s x.id = true) → (∀ x, x ∈ b → slt s x.id = true) → slt s d.id = true) ∧
    look a d.id = (if d.was then some d.old else none) ∧ look b d.id = (if d.is then some d.new else none) ∧ (d.was = false → d.old = zObj) ∧ (d.is = false → d.new = zObj)
  | 0, _, _, _, _, d, h => by cases h
  | n + 1, [], [], _, _, d, h => by cases h
  | n + 1, x :: a, [], ha, hb, d, h => by
    rw [gPairs] at h
    rcases List.mem_cons.1 h with rfl | h
    · exact ⟨fun s h1 _ => h1 x List.mem_cons_self, by rw [look_cons, if_pos rfl]; rfl, rfl, (fun h => by cases h), fun _ => rfl⟩
    · obtain ⟨p1, p2, p3, p4⟩ := pairs_sound n a [] (ups_tail ha) hb d h
      have hlt := p1 x.id (fun y hy => ups_head ha hy) (fun y hy => by cases hy)
      exact ⟨fun s h1 h2 => p1 s (fun y hy => h1 y (List.mem_cons_of_mem _ hy)) h2, by rw [look_cons, if_neg (fun e => by rw [e, slt_irr] at hlt; cases hlt)]; exact p2, p3, p4⟩
  | n + 1, [], y :: b, ha, hb, d, h => by
    rw [gPairs] at h
    rcases List.mem_cons.1 h with rfl | h
    · exact ⟨fun s _ h2 => h2 y List.mem_cons_self, rfl, by rw [look_cons, if_pos rfl]; rfl, (fun _ => rfl), fun h => by cases h⟩
    · obtain ⟨p1, p2, p3, p4⟩ := pairs_sound n [] b ha (ups_tail hb) d h
      have hlt := p1 y.id (fun z hz => by cases hz) (fun z hz => ups_head hb hz)
      exact ⟨fun s h1 h2 => p1 s h1 (fun z hz => h2 z (List.mem_cons_of_mem _ hz)), p2, by rw [look_cons, if_neg (fun e => by rw [e, slt_irr] at hlt; cases hlt)]; exact p3, p4⟩
  | n + 1, x :: a, y :: b, ha, hb, d, h => by
    rw [gPairs] at h
    split at h
    · next e =>
      rcases List.mem_cons.1 h with rfl | h
      · exact ⟨fun s h1 _ => h1 x List.mem_cons_self, by rw [look_cons, if_pos rfl]; rfl, by rw [look_cons, if_pos e.symm]; rfl, (fun h => by cases h), fun h => by cases h⟩
      · obtain ⟨p1, p2, p3, p4⟩ := pairs_sound n a b (ups_tail ha) (ups_tail hb) d h
        have hlt := p1 x.id (fun z hz => ups_head ha hz) (fun z hz => by rw [e]; exact ups_head hb hz)
        exact ⟨fun s h1 h2 => p1 s (fun z hz => h1 z (List.mem_cons_of_mem _ hz)) (fun z hz => h2 z (List.mem_cons_of_mem _ hz)), by rw [look_cons, if_neg (fun e => by rw [e, slt_irr] at hlt; cases hlt)]; exact p2, by rw [look_cons, if_neg (fun e2 => by rw [e, e2, slt_irr] at hlt; cases hlt)]; exact p3, p4⟩
    · next e =>
      split at h
      · next hs =>
        rcases List.mem_cons.1 h with rfl | h
        · refine ⟨fun s h1 _ => h1 x List.mem_cons_self, by rw [look_cons, if_pos rfl]; rfl, ?_, (fun h => by cases h), fun _ => rfl⟩
          exact look_low fun z hz => by
            rcases List.mem_cons.1 hz with rfl | hz
            · exact hs
            · exact slt_trans hs (ups_head hb hz)
        · obtain ⟨p1, p2, p3, p4⟩ := pairs_sound n a (y :: b) (ups_tail ha) hb d h
          have hlt := p1 x.id (fun z hz => ups_head ha hz) (fun z hz => by
            rcases List.mem_cons.1 hz with rfl | hz
            · exact hs
            · exact slt_trans hs (ups_head hb hz))
          exact ⟨fun s h1 h2 => p1 s (fun z hz => h1 z (List.mem_cons_of_mem _ hz)) h2, by rw [look_cons, if_neg (fun e => by rw [e, slt_irr] at hlt; cases hlt)]; exact p2, p3, p4⟩
      · next hs =>
        have hs' : slt y.id x.id = true := by
          cases hc : slt y.id x.id with
          | true => rfl
          | false => exact absurd (slt_tri (Bool.not_eq_true _ ▸ hs) hc) e
        rcases List.mem_cons.1 h with rfl | h
        · refine ⟨fun s _ h2 => h2 y List.mem_cons_self, ?_, by rw [look_cons, if_pos rfl]; rfl, (fun _ => rfl), fun h => by cases h⟩
          exact look_low fun z hz => by
            rcases List.mem_cons.1 hz with rfl | hz
            · exact hs'
            · exact slt_trans hs' (ups_head ha hz)
        · obtain ⟨p1, p2, p3, p4⟩ := pairs_sound n (x :: a) b ha (ups_tail hb) d h
          have hlt := p1 y.id (fun z hz => by
            rcases List.mem_cons.1 hz with rfl | hz
            · exact hs'
            · exact slt_trans hs' (ups_head ha hz)) (fun z hz => ups_head hb hz)
          exact ⟨fun s h1 h2 => p1 s h1 (fun z hz => h2 z (List.mem_cons_of_mem _ hz)), p2, by rw [look_cons, if_neg (fun e => by rw [e, slt_irr] at hlt; cases hlt)]; exact p3, p4⟩
theorem pairs_asc : ∀ (n : Nat) (a b : List GObj), ups a → ups b → (gPairs n a b).Pairwise (fun p q => slt p.id q.id = true)
  | 0, _, _, _, _ => .nil
  | n + 1, [], [], _, _ => .nil
  | n + 1, x :: a, [], ha, hb => by
    rw [gPairs]
    exact List.pairwise_cons.2 ⟨fun d hd => (pairs_sound n a [] (ups_tail ha) hb d hd).1 x.id (fun z hz => ups_head ha hz) (fun z hz => by cases hz), pairs_asc n a [] (ups_tail ha) hb⟩
  | n + 1, [], y :: b, ha, hb => by
    rw [gPairs]
    exact List.pairwise_cons.2 ⟨fun d hd => (pairs_sound n [] b ha (ups_tail hb) d hd).1 y.id (fun z hz => by cases hz) (fun z hz => ups_head hb hz), pairs_asc n [] b ha (ups_tail hb)⟩
  | n + 1, x :: a, y :: b, ha, hb => by
    rw [gPairs]
    split
    · next e => exact List.pairwise_cons.2 ⟨fun d hd => (pairs_sound n a b (ups_tail ha) (ups_tail hb) d hd).1 x.id (fun z hz => ups_head ha hz) (fun z hz => by rw [e]; exact ups_head hb hz), pairs_asc n a b (ups_tail ha) (ups_tail hb)⟩
    · next e =>
      split
      · next hs =>
        exact List.pairwise_cons.2 ⟨fun d hd => (pairs_sound n a (y :: b) (ups_tail ha) hb d hd).1 x.id (fun z hz => ups_head ha hz) (fun z hz => by
            rcases List.mem_cons.1 hz with rfl | hz
            · exact hs
            · exact slt_trans hs (ups_head hb hz)), pairs_asc n a (y :: b) (ups_tail ha) hb⟩
      · next hs =>
        have hs' : slt y.id x.id = true := by
          cases hc : slt y.id x.id with
          | true => rfl
          | false => exact absurd (slt_tri (Bool.not_eq_true _ ▸ hs) hc) e
        exact List.pairwise_cons.2 ⟨fun d hd => (pairs_sound n (x :: a) b ha (ups_tail hb) d hd).1 y.id (fun z hz => by
            rcases List.mem_cons.1 hz with rfl | hz
            · exact hs'
            · exact slt_trans hs' (ups_head ha hz)) (fun z hz => ups_head hb hz), pairs_asc n (x :: a) b ha (ups_tail hb)⟩
theorem nodup_len {α : Type} [DecidableEq α] : ∀ {l s : List α}, l.Pairwise (fun a b => a ≠ b) → (∀ x, x ∈ l → x ∈ s) → l.length ≤ s.length
  | [], s, _, _ => Nat.zero_le _
  | x :: l, s, hp, hs => by
    obtain ⟨h1, h2⟩ := List.pairwise_cons.1 hp
    have hx := hs x List.mem_cons_self
    have h3 := nodup_len (s := s.erase x) h2 (fun y hy => (List.mem_erase_of_ne (fun e => h1 y hy e.symm)).2 (hs y (List.mem_cons_of_mem _ hy)))
    rw [List.length_erase_of_mem hx] at h3
    have := List.length_pos_of_mem hx
    show l.length + 1 ≤ s.length
    omega
/-- The ids of what differs. -/
theorem diff_looks {a b : List GObj} {d : GDelta} (ha : gMap a = true) (hb : gMap b = true) (h : d ∈ gDiff a b) : look a d.id ≠ look b d.id := by
  rw [gDiff, ha, hb, if_pos (by rfl), List.mem_filter] at h
  obtain ⟨h1, h2⟩ := h
  obtain ⟨_, p2, p3, p4, p5⟩ := pairs_sound _ a b (gMap_iff.1 ha).2.1 (gMap_iff.1 hb).2.1 d h1
  rw [p2, p3]
  unfold dDiff at h2
  intro e
  cases hw : d.was <;> cases hi : d.is <;> rw [hw, hi] at h2 e
  · rw [p4 hw, p5 hi, gSameO_iff.2 rfl] at h2; cases h2
  · cases e
  · cases e
  · rw [gSameO_iff.2 (Option.some.inj e)] at h2; cases h2
theorem diff_nodup {a b : List GObj} (ha : gMap a = true) (hb : gMap b = true) : ((gDiff a b).map GDelta.id).Pairwise (fun a b => a ≠ b) := by
  rw [gDiff, ha, hb, if_pos (by rfl), List.pairwise_map]
  refine List.Pairwise.imp (R := fun p q => slt p.id q.id = true) (fun {p q} h e => ?_) ((pairs_asc _ a b (gMap_iff.1 ha).2.1 (gMap_iff.1 hb).2.1).filter _)
  rw [e, slt_irr] at h
  cases h
theorem others {m : List GObj} {e : GEdit} (hc : closedB m = true) (h : (gAfter m e).2 = 0) :
    (∀ d, d ∈ gDiff m (gAfter m e).1 → d.id ∈ gNames e) ∧ (gDiff m (gAfter m e).1).length ≤ 2 := by
  have hg := closed_gMap hc
  have hu := (gMap_iff.1 hg).2.1
  have hg2 : gMap (gAfter m e).1 = true := closed_gMap (after_closed hc h)
  obtain ⟨x1, x2, x3, x4, x5, x6⟩ := after_ok hg h
  obtain ⟨n1, n2, n3⟩ := perf_names x1 (perf_of x1 x2)
  have hsup : ∀ d, d ∈ gDiff m (gAfter m e).1 → sup (gPerform m e) d.id := fun d hd => by
    by_cases hs : sup (gPerform m e) d.id
    · exact hs
    · exact absurd (by rw [x3, look_to hu x6, toF_out hs]) (diff_looks hg hg2 hd)
  refine ⟨fun d hd => ?_, ?_⟩
  · rcases hsup d hd with ⟨o, ho, e⟩ | ⟨h1, e⟩
    · rw [← e]; exact n1 o ho
    · rcases n2 with h | h
      · exact absurd h h1
      · rw [e]; exact h
  · have hl := nodup_len (s := (gPerform m e).put.map GObj.id ++ (if (gPerform m e).drop = sNil then [] else [(gPerform m e).drop])) (diff_nodup hg hg2) (fun x hx => by
      obtain ⟨d, hd, rfl⟩ := List.mem_map.1 hx
      rcases hsup d hd with ⟨o, ho, e⟩ | ⟨h1, e⟩
      · exact List.mem_append_left _ (List.mem_map.2 ⟨o, ho, e⟩)
      · exact List.mem_append_right _ (by rw [if_neg h1, e]; exact List.mem_cons_self))
    rw [List.length_map, List.length_append, List.length_map] at hl
    split at hl <;> split at n3
    · rw [List.length_nil] at hl; omega
    · next h1 h2 => exact absurd h1 h2
    · next h1 h2 => exact absurd h2 h1
    · rw [List.length_singleton] at hl; omega
/-- Names are in strictly increasing order. -/
theorem sortS_asc {l : List ByteArray} (hn : l.Pairwise (fun a b => a ≠ b)) (hle : (sortS l).Pairwise (fun a b => slt b a = false)) : (sortS l).Pairwise (fun a b => slt a b = true) := by
  have hp : (sortS l).Pairwise (fun a b => a ≠ b) := (sortS_perm l).symm.pairwise hn (fun {a b} h => h.symm)
  refine (hp.and hle).imp fun {a b} h => ?_
  obtain ⟨h1, h2⟩ := h
  cases hc : slt a b with
  | true => rfl
  | false => exact absurd (slt_tri hc h2) h1
theorem slt_toU (a b : ByteArray) : slt a b = decide (toU a < toU b) := by
  unfold slt
  rw [bytesLess_eq, ByteArray.toList_eq, ByteArray.toList_eq]
  rfl
theorem toU_ofU (l : List UInt8) : toU (ofU l) = l := by simp [toU, ofU]
theorem sortS_le (l : List ByteArray) : (sortS l).Pairwise (fun a b => slt b a = false) := by
  unfold sortS
  rw [List.pairwise_map]
  refine List.Pairwise.imp (R := fun (x y : List UInt8) => decide (x ≤ y) = true) (fun {x y} h => ?_) (List.pairwise_mergeSort (le := fun (x y : List UInt8) => decide (x ≤ y)) (fun a b c h1 h2 => decide_eq_true (List.le_trans (of_decide_eq_true h1) (of_decide_eq_true h2))) u8_le_total _)
  rw [slt_toU, toU_ofU, toU_ofU]
  exact decide_eq_false (List.not_lt.2 (of_decide_eq_true h))
theorem sput_nodup {l : List ByteArray} {s : ByteArray} (h : l.Pairwise (fun a b => a ≠ b)) : (sput l s).Pairwise (fun a b => a ≠ b) := by
  unfold sput
  split
  · exact h
  · next hn =>
    rw [List.pairwise_append]
    refine ⟨h, List.pairwise_singleton _ _, fun a ha b hb e => ?_⟩
    rw [List.mem_singleton] at hb
    subst hb
    subst e
    exact hn (inB_iff.2 ha)
theorem addAll_nodup : ∀ {l L : List ByteArray}, L.Pairwise (fun a b => a ≠ b) → (addAll L l).Pairwise (fun a b => a ≠ b)
  | [], L, h => h
  | s :: l, L, h => by
    show (addAll (sput L s) l).Pairwise _
    exact addAll_nodup (sput_nodup h)
theorem names_asc (e : GEdit) : (gNames e).Pairwise (fun a b => slt a b = true) := by
  unfold gNames
  split
  · exact sortS_asc ((addAll_nodup (addAll_nodup (addAll_nodup .nil))).filter _) (sortS_le _)
  · exact .nil
end Go.Proofs.YtedfihgkopejcaaGreat
end
section
set_option linter.unusedVariables false
set_option linter.unusedSimpArgs false
namespace Go.Abs
def SubG (H' H : Heap) : Prop := ∀ j o', H'.get j = some o' → ∃ o, H.get j = some o ∧ o'.g = o.g ∧ o'.sz = o.sz ∧ o'.rows.length = o.rows.length
/-- Rows that become other rows, a slice in them frozen. -/
def FzRows (H' : Heap) (id g : Nat) (ps : List (List PV)) (rows rows' : List (List AV)) : Prop :=
  rows'.length = rows.length ∧ ∀ (i : Nat) (r' : List AV), rows'[i]? = some r' → ∃ r, rows[i]? = some r ∧ r.length = r'.length ∧ ∀ (k : Nat) (a a' : AV), r[k]? = some a → r'[k]? = some a' → Fz H' id g ps a a'
def FOk (H H' : Heap) (id g : Nat) (ps : List (List PV)) : Heap → Prop
  | [] => True
  | (j, o') :: r => (∃ o, H.get j = some o ∧ o'.g = o.g ∧ o'.sz = o.sz ∧ o'.ty = o.ty ∧ FzRows H' id g ps o.rows o'.rows) ∧ FOk H H' id g ps r
end Go.Abs
end
section
set_option linter.unusedVariables false
set_option linter.unusedSimpArgs false
namespace Go.Abs
/-- The record of a loop as an object: the record, and what it keeps of the frame. -/
def LR (x : Go.Loop) (E0 : Env) : Ob := ⟨0, 0, 0, [[.raw x (E0.map (·.1))], E0.map (·.2)]⟩
section
variable {I : Nat → Prop} {ι : Plc} {H : Heap} {w : World}
theorem rec_at {id : Nat} {x : Go.Loop} {E0 : Env} (hr : Rel I ι H w) (hH : H.get id = some (LR x E0)) {v : Value} (hv : VRel w I ι H v (.yld id 0)) :
    ∃ b, ι id = some (b, 2) ∧ v = .func (.yield b) #[] #[] ∧ w.heap[b]? = some (.loop x) ∧ ¬ I b ∧ ∀ (i t : Nat) (a : AV), (E0.map (·.1))[i]? = some t → (E0.map (·.2))[i]? = some a → ∃ c, x.tmps[t]? = some c ∧ VRel w I ι H c a := by
  cases hv with
  | yld o h1 h2 h3 h4 =>
    rw [hH] at h1; cases h1
    obtain ⟨_, b, e1, e2⟩ := h4 rfl
    obtain ⟨_, b', y, k1, k2, k3, k4⟩ := (hr.obj id _ hH).rec rfl e1
    rw [e1] at k1; cases k1
    obtain ⟨q1, q2⟩ := k4 x _ _ rfl
    subst q1
    exact ⟨b, e1, e2, k2, k3, q2⟩
/-- The record turns: its state, and what is pending. -/
theorem Rel.setRec {id b : Nat} {x y : Go.Loop} {E0 : Env} {H' : Heap} (hr : Rel I ι H w) (hH : H.get id = some (LR x E0)) (hι : ι id = some (b, 2)) (hy : y.tmps = x.tmps)
    (h1 : H'.get id = some (LR y E0)) (h2 : ∀ j, j ≠ id → H'.get j = H.get j) : Rel I ι H' (w.putObj b (.loop y)) ∧ Step I ι H w I ι H' (w.putObj b (.loop y)) := by
  obtain ⟨_, b', z, k1, k2, k3, k4⟩ := (hr.obj id _ hH).rec rfl hι
  rw [hι] at k1; cases k1
  obtain ⟨q1, q2⟩ := k4 x _ _ rfl
  subst q1
  have hlt := (Array.getElem?_eq_some_iff.1 k2).1
  have hown : ∀ c, Own ι H' c → Own ι H c := fun c ⟨j, o, cap, ho, hc⟩ => by
    by_cases e : j = id
    · subst e; exact ⟨j, _, cap, hH, hc⟩
    · exact ⟨j, o, cap, (h2 j e).symm.trans ho, hc⟩
  have hst : Step I ι H w I ι H' (w.putObj b (.loop y)) := by
    refine ⟨rfl, rfl, rfl, by rw [World.putObj_size]; exact Nat.le_refl _, fun a ha => ?_, fun _ h => h, fun _ h => .inl h, fun c hc => .inl (hown c hc), fun c hc hn => ?_, fun j o hj => ?_⟩
    · unfold World.frozen?
      by_cases e : a.block = b
      · rw [e, World.putObj_heap_same hlt, k2]
      · rw [World.putObj_heap_other e]
    · exact World.putObj_heap_other fun e => hn ⟨id, _, 2, hH, by rw [e]; exact hι⟩
    · by_cases e : j = id
      · subst e
        rw [hH] at hj; cases hj
        exact ⟨_, h1, Nat.le_refl _, fun _ => ⟨rfl, rfl, fun h => by cases h⟩⟩
      · exact ⟨o, (h2 j e).trans hj, Nat.le_refl _, fun _ => ⟨rfl, rfl, fun _ => Nat.le_refl _⟩⟩
  refine ⟨⟨fun c hc => by rw [World.putObj_size]; exact hr.imm c hc, fun j o hj => ?_, fun j j' o o' c d d' hj hj' hc hc' => ?_⟩, hst⟩
  · by_cases e : j = id
    · subst e
      rw [h1] at hj; cases hj
      refine .inr (.inr (.inr ⟨rfl, b, y, hι, World.putObj_heap_same hlt, k3, fun z ts r hz => ?_⟩))
      simp only [LR, List.cons.injEq, AV.raw.injEq, and_true] at hz
      obtain ⟨⟨rfl, rfl⟩, rfl⟩ := hz
      refine ⟨rfl, fun i t a ht ha => ?_⟩
      obtain ⟨c, c1, c2⟩ := q2 i t a ht ha
      exact ⟨c, by rw [hy]; exact c1, c2.mono hr hst⟩
    · rw [h2 j e] at hj
      exact (hr.obj j o hj).keep rfl (fun c d hc _ => ⟨World.putObj_heap_other (fun hb => e (hr.inj j id o _ c d 2 hj hH hc (by rw [hb]; exact hι))), fun h => h⟩) (fun r _ a _ v hv => hv.mono hr hst)
  · have key : ∀ j o, H'.get j = some o → ∃ o, H.get j = some o := fun j o hj => by
      by_cases e : j = id
      · subst e; exact ⟨_, hH⟩
      · exact ⟨o, (h2 j e).symm.trans hj⟩
    obtain ⟨q, hq⟩ := key j o hj
    obtain ⟨q', hq'⟩ := key j' o' hj'
    exact hr.inj j j' q q' c d d' hq hq' hc hc'
/-- A new block that nobody owns. -/
theorem Rel.push (o : Obj) (hr : Rel I ι H w) : Rel I ι H (w.alloc o) ∧ Step I ι H w I ι H (w.alloc o) := by
  have hk : ∀ b, b < w.heap.size → (w.alloc o).heap[b]? = w.heap[b]? := fun b hb => by
    show (w.heap.push o)[b]? = _
    rw [Array.getElem?_push, if_neg (Nat.ne_of_lt hb)]
  have hst : Step I ι H w I ι H (w.alloc o) := by
    refine ⟨rfl, rfl, rfl, by rw [World.size_alloc]; omega, fun a ha => ?_, fun _ h => h, fun _ h => .inl h, fun _ h => .inl h, fun b hb _ => hk b hb, fun _ o h => ⟨o, h, Nat.le_refl _, fun _ => ⟨rfl, rfl, fun _ => Nat.le_refl _⟩⟩⟩
    unfold World.frozen?
    rw [hk _ ha]
  refine ⟨⟨fun b hb => by have := hr.imm b hb; rw [World.size_alloc]; omega, fun j o hj => ?_, hr.inj⟩, hst⟩
  exact (hr.obj j o hj).keep rfl (fun b c _ hb => ⟨hk b hb, fun h => h⟩) (fun r _ a _ v hv => hv.mono hr hst)
end
def busy (x : Go.Loop) : Go.Loop := { x with state := .busy }
def left (x : Go.Loop) (c : Code) : Go.Loop := { x with state := .done, pending := some c }
/-- How a round ends: K is the heap behind it, without the record. -/
def RoundQ (H0 : Heap) (id : Nat) (x : Go.Loop) (E0 : Env) (Q : AV → Heap → Prop) : Exit → Env → Heap → Prop
  | .normal, E, H => ∃ K, Ent H0 E H [] ((id, LR (busy x) E0) :: K) ∧ Q (.pv (.bool true)) ((id, LR x E0) :: K)
  | .ret, E, H => ∃ K, Ent H0 E H [] ((id, LR (busy x) E0) :: K) ∧ Q (.pv (.bool false)) ((id, LR (left x .ret) E0) :: K)
  | .exit j, E, H => ∃ K, Ent H0 E H [] ((id, LR (busy x) E0) :: K) ∧ Q (.pv (.bool false)) ((id, LR (left x (.exit j)) E0) :: K)
  | _, _, _ => False
theorem same_place {G : Entry} {I : Nat → Prop} {ι : Plc} {H : Heap} {w : World} {id b : Nat} {x y : Go.Loop} {E0 : Env} (hst : Step G.I G.ι G.H G.w I ι H w) (hG : G.H.get id = some (LR x E0)) (hι : G.ι id = some (b, 2)) (hH : H.get id = some (LR y E0)) : ι id = some (b, 2) := by
  obtain ⟨o', e1, _, e3⟩ := hst.objs id _ hG
  rw [hH] at e1; cases e1
  exact (e3 rfl).1.trans hι
theorem rec_heap {I : Nat → Prop} {ι : Plc} {H : Heap} {w : World} {id b : Nat} {x : Go.Loop} {E0 : Env} (hr : Rel I ι H w) (hH : H.get id = some (LR x E0)) (hι : ι id = some (b, 2)) : w.heap[b]? = some (.loop x) := by
  obtain ⟨_, b', z, k1, k2, k3, k4⟩ := (hr.obj id _ hH).rec rfl hι
  rw [hι] at k1; cases k1
  obtain ⟨q1, _⟩ := k4 x _ _ rfl
  subst q1
  exact k2
theorem hd_get (id : Nat) (o : Ob) (K : Heap) : Heap.get ((id, o) :: K) id = some o := by simp [Heap.get, beq_self]
theorem hd_other {id j : Nat} (o o' : Ob) (K : Heap) (h : j ≠ id) : Heap.get ((id, o) :: K) j = Heap.get ((id, o') :: K) j := by simp [Heap.get, beq_ne (Ne.symm h)]
/-- A ROUND, out of the walk of its assignment and of its body. -/
theorem ycalls {P : Program} {id p N : Nat} {x : Go.Loop} {assign body : Code} {E0 : Env} {a : AV} {K : Heap} {Q : AV → Heap → Prop} (E2 : Env) (K2 : Heap) (hx1 : x.state = .ready) (hx2 : x.pending = none) (hp : x.params = #[p]) (hN : x.tmps.size = N) (hxa : x.assign = assign) (hxb : x.body = body) (hpN : Nat.blt p N = true)
    (hok : okRound assign = true) (hok2 : okRound body = true)
    (h1 : AWp P ((id, LR x E0) :: K) N assign (AThen (fun E1 H1 => Ent ((id, LR x E0) :: K) E1 H1 E2 ((id, LR x E0) :: K2)) (fun _ _ _ => False)) ((p, a) :: E0) ((id, LR x E0) :: K))
    (h2 : AWp P ((id, LR x E0) :: K) N body (RoundQ ((id, LR x E0) :: K) id x E0 Q) E2 ((id, LR (busy x) E0) :: K2)) : YCalls P id 0 [a] ((id, LR x E0) :: K) Q := by
  subst hxa hxb
  have hpN : p < N := by simpa [Nat.blt_eq] using hpN
  intro I ι w vs v hr hv hl hvs
  obtain ⟨b, e1, e2, e3, e4, e5⟩ := rec_at hr (hd_get _ _ _) hv
  obtain ⟨u, rfl⟩ : ∃ u, vs = #[u] := by
    match vs, hl with
    | ⟨[u]⟩, _ => exact ⟨u, rfl⟩
  have hu := hvs 0 u a rfl rfl
  refine ⟨b, x.fn, _, x.assign, x.body, e2, run_yield e3 (by rw [hp]; rfl), ?_⟩
  refine roundIn_of_wpIn (F := Fence.wide) trivial ?_
  have hG : (⟨I, ι, (id, LR x E0) :: K, w⟩ : Entry).H = (id, LR x E0) :: K := rfl
  have hst : St ⟨I, ι, (id, LR x E0) :: K, w⟩ N ((p, a) :: E0) ((id, LR x E0) :: K) { tmps := (x.params.zip #[u]).foldl (fun tmps (t, a) => tmps.setIfInBounds t a) x.tmps, defers := [] } w := by
    have ht : (x.params.zip #[u]).foldl (fun tmps (t, a) => tmps.setIfInBounds t a) x.tmps = x.tmps.setIfInBounds p u := by rw [hp]; simp
    rw [ht]
    refine ⟨Marks.nil _ _, by simp [hN], I, ι, hr, Step.refl _ _ _ _, fun t y hy => ?_⟩
    by_cases e : p = t
    · subst e
      rw [Env.get_cons_same] at hy; cases hy
      exact ⟨u, by simp [hN, hpN], hu⟩
    · rw [Env.get_cons_other _ _ e] at hy
      obtain ⟨i, hi⟩ := List.mem_iff_getElem?.1 (mem_of_get hy)
      obtain ⟨c, c1, c2⟩ := e5 i t y (by rw [List.getElem?_map, hi]; rfl) (by rw [List.getElem?_map, hi]; rfl)
      exact ⟨c, by show (x.tmps.setIfInBounds p u)[t]? = some c; rw [Array.getElem?_setIfInBounds_ne e]; exact c1, c2⟩
  refine wpIn_mono (h1 _ hG _ w hst (some b) (.inr hok)) ?_
  rintro e a1 w1 ⟨E1, H1, q, hs1⟩
  cases e with
  | normal =>
    have hs2 := q _ hG N a1 w1 hs1
    obtain ⟨I1, ι1, hr1, hst1, he1⟩ := hs2.rel
    have hι1 := same_place hst1 (hd_get _ _ _) e1 (hd_get _ _ _)
    have hb1 := rec_heap hr1 (hd_get _ _ _) hι1
    obtain ⟨k1, k2⟩ := hr1.setRec (y := busy x) (H' := (id, LR (busy x) E0) :: K2) (hd_get _ _ _) hι1 rfl (hd_get _ _ _) (fun j hj => hd_other _ _ _ hj)
    refine ⟨_, run_beginRound hb1 hx1, ?_⟩
    have hs3 : St ⟨I, ι, (id, LR x E0) :: K, w⟩ N E2 ((id, LR (busy x) E0) :: K2) a1 (w1.putObj b (.loop (busy x))) :=
      ⟨hs2.defers.step hr1 k2, hs2.size, I1, ι1, k1, hst1.trans k2, fun t y hy => let ⟨c, c1, c2⟩ := he1 t y hy; ⟨c, c1, c2.mono hr1 k2⟩⟩
    refine wpIn_mono (h2 _ hG a1 _ hs3 (some b) (.inr hok2)) ?_
    rintro e a2 w3 ⟨E3, H3, q3, hs4⟩
    have fin : ∀ (jump : Option Code) (y : Go.Loop) (K3 : Heap), y = { busy x with state := if jump.isNone then .ready else .done, pending := jump } → Ent ((id, LR x E0) :: K) E3 H3 [] ((id, LR (busy x) E0) :: K3) → Q (.pv (.bool jump.isNone)) ((id, LR y E0) :: K3) →
        ∃ v w', (Instr.endRound b jump).run P w3 = .ok v w' ∧ ∃ r H' I' ι' v', Ending.returned v = .returned v' ∧ Q r H' ∧ VRel w' I' ι' H' v' r ∧ Rel I' ι' H' w' ∧ Step I ι ((id, LR x E0) :: K) w I' ι' H' w' := by
      intro jump y K3 hy hent hQ
      have hs5 := hent _ hG N a2 w3 hs4
      obtain ⟨I5, ι5, hr5, hst5, _⟩ := hs5.rel
      have hι5 := same_place hst5 (hd_get _ _ _) e1 (hd_get _ _ _)
      have hb5 := rec_heap hr5 (hd_get _ _ _) hι5
      obtain ⟨z1, z2⟩ := hr5.setRec (y := y) (H' := (id, LR y E0) :: K3) (hd_get _ _ _) hι5 (by rw [hy]) (hd_get _ _ _) (fun j hj => hd_other _ _ _ hj)
      refine ⟨_, _, run_endRound jump hb5, _, _, I5, ι5, _, rfl, hQ, .pv (.bool _), ?_, ?_⟩
      · rw [← hy]; exact z1
      · rw [← hy]; exact hst5.trans z2
    cases e with
    | normal =>
      obtain ⟨K3, hent, hQ⟩ := q3
      refine fin none x K3 ?_ hent hQ
      obtain ⟨st, pe, fn, tm, pa, ax, bo, de⟩ := x
      simp only at hx1 hx2
      subst hx1 hx2
      rfl
    | ret =>
      obtain ⟨K3, hent, hQ⟩ := q3
      exact fin (some .ret) (left x .ret) K3 rfl hent hQ
    | exit j =>
      obtain ⟨K3, hent, hQ⟩ := q3
      exact fin (some (.exit j)) (left x (.exit j)) K3 rfl hent hQ
    | goto l => exact q3.elim
    | panic ch => exact q3.elim
    | outgrown => exact q3.elim
  | exit j => exact q.elim
  | goto l => exact q.elim
  | ret => exact q.elim
  | panic ch => exact q.elim
  | outgrown => exact q.elim
/-- What a loop leads to, by what is pending. -/
def RangeQ (Q : Exit → Env → Heap → Prop) (E : Env) (H : Heap) : Option Code → Prop
  | none => Q .normal E H
  | some .ret => Q .ret E H
  | some (.exit j) => Q (.exit j) E H
  | _ => False
/-- THE STATEMENT, out of the iterator's contract. -/
theorem awp_range {P : Program} {G0 : Heap} {N f id p : Nat} {caps : List AV} {g : Operand} {ps : Array Tmp} {assign body : Code} {Q : Exit → Env → Heap → Prop} {E : Env} {H : Heap} (E0 : Env) (hg : aeval E g = some (.clo f caps)) (hc : ∀ (args : Array Value) (w : World), (callFunc f args).run P w = .ok (.enter f args) w)
    (hps : ps = #[p]) (hid : H.get id = none) (hE0 : ∀ q ∈ E0, E.get q.1 = some q.2)
    (h : ∀ x : Go.Loop, x.state = .ready → x.pending = none → x.params = #[p] → x.tmps.size = N → x.assign = assign → x.body = body →
      ACalls P f (.yld id 0 :: caps) ((id, LR x E0) :: H) (fun r H' => ∃ (y : Go.Loop) (K : Heap), y.tmps = x.tmps ∧ y.state ≠ .busy ∧ H' = (id, LR y E0) :: K ∧ ∀ z : Go.Loop, RangeQ Q E ((id, LR z E0) :: K) y.pending)) :
    AWp P G0 N (.rangeFunc g ps assign body) Q E H := by
  intro G hG a w hs ro hro
  obtain rfl : ro = none := hro.resolve_right (fun h => by cases h)
  obtain ⟨I, ι, hr, hst, he⟩ := hs.rel
  refine wpIn_rangeFunc (F := RF none) ?_
  intro fn _
  have hgv := aeval_rel he hg
  generalize hfc : a.eval g = fc at hgv
  cases hgv with
  | @clo _ us _ hl hh =>
    obtain ⟨x, hx⟩ : ∃ x : Go.Loop, x = { state := .ready, pending := none, fn, tmps := a.tmps, params := ps, assign, body, defers := w.heap.size } := ⟨_, rfl⟩
    obtain ⟨a1, a2⟩ := hr.push (.deferred (some []))
    obtain ⟨wd, hwd⟩ : ∃ wd, wd = w.alloc (.deferred (some [])) := ⟨_, rfl⟩
    rw [← hwd] at a1 a2
    have hwds : wd.heap.size = w.heap.size + 1 := by rw [hwd, World.size_alloc]
    have hDd : wd.heap[w.heap.size]? = some (.deferred (some [])) := by rw [hwd]; exact World.alloc_heap_new w _
    have hidH : Heap.get ((id, LR x E0) :: H) id = some (LR x E0) := hd_get _ _ _
    obtain ⟨b1, b2⟩ := a1.placeX (id := id) (cap := 2) (x := .loop x) (w' := wd.alloc (.loop x)) (H' := (id, LR x E0) :: H) (ob' := LR x E0) rfl rfl rfl rfl (fun o ho => by rw [hid] at ho; cases ho)
      (fun hnew hI hmono => .inr (.inr (.inr ⟨rfl, _, x, by simp, hnew, hI, fun y ts r hy => by
        simp only [LR, List.cons.injEq, AV.raw.injEq, and_true] at hy
        obtain ⟨⟨rfl, rfl⟩, rfl⟩ := hy
        refine ⟨rfl, fun i t v ht hv => ?_⟩
        rw [List.getElem?_map] at ht hv
        obtain ⟨q, hq, rfl⟩ := Option.map_eq_some_iff.1 ht
        rw [hq] at hv
        cases hv
        obtain ⟨c, c1, c2⟩ := he q.1 q.2 (hE0 q (List.mem_of_getElem? hq))
        exact ⟨c, by rw [hx]; exact c1, hmono _ _ (c2.mono hr a2)⟩⟩)))
      hidH (fun j hj => by simp [Heap.get, beq_ne (Ne.symm hj)])
    obtain ⟨w1, hw1⟩ : ∃ w1, w1 = wd.alloc (.loop x) := ⟨_, rfl⟩
    rw [← hw1] at b1 b2
    obtain ⟨ι1, hι1⟩ : ∃ ι1 : Plc, ι1 = fun j => if j = id then some (wd.heap.size, 2) else ι j := ⟨_, rfl⟩
    rw [← hι1] at b1 b2
    have hιid : ι1 id = some (w.heap.size + 1, 2) := by rw [hι1, hwds]; simp
    have hL1 := rec_heap b1 hidH hιid
    have hD1 : w1.heap[w.heap.size]? = some (.deferred (some [])) := by
      rw [b2.keep _ (by rw [hwds]; omega) (own_mark a1 hDd)]
      exact hDd
    have hcall := h x (by rw [hx]) (by rw [hx]) (by rw [hx, hps]) (by rw [hx]; exact hs.size) (by rw [hx]) (by rw [hx]) I ι1 w1 (#[.func (.yield (w.heap.size + 1)) #[] #[]] ++ us) b1 (by simp [hl]; omega) (fun i v c hv hc' => by
      cases i with
      | zero =>
        rw [Array.getElem?_append_left (by simp)] at hv
        simp at hv hc'
        subst hv hc'
        exact .yld (LR x E0) hidH (Nat.le_refl _) rfl (fun _ => ⟨rfl, _, hιid, rfl⟩)
      | succ i =>
        rw [Array.getElem?_append_right (by simp)] at hv
        simp only [List.getElem?_cons_succ] at hc'
        have := hh i v c (by simpa using hv) hc'
        exact (this.mono hr a2).mono a1 b2)
    refine ⟨w.heap.size + 1, [mark w.heap.size], w1, { target := .fn (.func f) us, args := #[.func (.yield (w.heap.size + 1)) #[] #[]] }, w1, f, #[.func (.yield (w.heap.size + 1)) #[] #[]] ++ us, w1, ?_, ?_, fun _ _ => trivial, ?_, (fun q => by cases q), ?_⟩
    · rw [hw1, hwd, hx]; exact run_enterLoop_outer _ _ _ _ _
    · simp only [resolve, hfc]
      simp [go_sem]
    · simp [invoke, go_sem, hc]
    · refine ((callsIn_wide (n := 0)).2 hcall).mono ?_
      rintro e w3 ⟨r, H', I3, ι3, v3, rfl, ⟨y, K, hy1, hy2, rfl, hq⟩, _, hr3, hst3⟩
      have hι3 := same_place (G := ⟨I, ι1, (id, LR x E0) :: H, w1⟩) hst3 hidH hιid (hd_get _ _ _)
      have hb3 := rec_heap hr3 (hd_get _ _ _) hι3
      obtain ⟨z, hz⟩ : ∃ z : Go.Loop, z = { y with state := .exhausted } := ⟨_, rfl⟩
      obtain ⟨z1, z2⟩ := hr3.setRec (y := z) (H' := (id, LR z E0) :: K) (hd_get _ _ _) hι3 (by rw [hz]) (hd_get _ _ _) (fun j hj => hd_other _ _ _ hj)
      obtain ⟨w4, hw4⟩ : ∃ w4, w4 = w3.putObj (w.heap.size + 1) (.loop z) := ⟨_, rfl⟩
      rw [← hw4] at z1 z2
      refine ⟨y.pending, w4, by rw [hw4, hz]; exact run_endLoop hb3 hy2, ?_⟩
      have hall : Step I ι H w I3 ι3 ((id, LR z E0) :: K) w4 := ((a2.trans b2).trans hst3).trans z2
      have hD4 : w4.heap[w.heap.size]? = some (.deferred (some [])) := by
        rw [(hst3.trans z2).keep _ (Array.getElem?_eq_some_iff.1 hD1).1 (own_mark b1 hD1)]
        exact hD1
      have hs4 : St G N E ((id, LR z E0) :: K) { a with defers := [mark w.heap.size] ++ a.defers } w4 := by
        refine ⟨?_, hs.size, I3, ι3, z1, hst.trans hall, fun t v hv => let ⟨c, c1, c2⟩ := he t v hv; ⟨c, c1, c2.mono hr hall⟩⟩
        obtain ⟨Ds, d1, d2, d3⟩ := hs.defers.step hr hall
        refine ⟨w.heap.size :: Ds, by rw [d1]; rfl, List.nodup_cons.2 ⟨fun hmem => ?_, d2⟩, fun D hD => ?_⟩
        · have hold : ∀ D ∈ Ds, D < w.heap.size := by
            obtain ⟨Ds', d1', _, d3'⟩ := hs.defers
            have he : Ds' = Ds := by
              have h0 : Ds'.map mark = Ds.map mark := by rw [← d1', ← d1]
              have hinj : ∀ (l l' : List Nat), l.map mark = l'.map mark → l = l' := by
                intro l
                induction l with
                | nil => intro l' h; cases l' with
                  | nil => rfl
                  | cons _ _ => cases h
                | cons D l ih => intro l' h; cases l' with
                  | nil => cases h
                  | cons D' l' =>
                    simp only [List.map_cons, List.cons.injEq, mark, Deferred.mk.injEq, Target.collected.injEq, and_true] at h
                    rw [h.1, ih l' h.2]
              exact hinj _ _ h0
            subst he
            exact fun D hD => (Array.getElem?_eq_some_iff.1 (d3' D hD).2).1
          exact Nat.lt_irrefl _ (hold _ hmem)
        · rcases List.mem_cons.1 hD with rfl | hD
          · exact ⟨hst.size, hD4⟩
          · exact d3 D hD
      have hq' := hq z
      generalize y.pending = pend at hq' ⊢
      match pend, hq' with
      | none, hq' => exact ⟨E, _, hq', hs4⟩
      | some .ret, hq' => exact wpIn_ret ⟨E, _, hq', hs4⟩
      | some (.exit j), hq' => exact wpIn_exit ⟨E, _, hq', hs4⟩
end Go.Abs
end
section
set_option linter.unusedVariables false
set_option linter.unusedSimpArgs false
set_option maxRecDepth 100000
set_option maxHeartbeats 1000000
namespace Go.Proofs.YtedfihgkopejcaaGreat
open Go.Abs
def encDelta (d : GDelta) : List PV := [.str d.id, .bool d.was, .bool d.is, .str d.old.id, .int .i64 d.old.kind, .int .i64 d.old.x, .int .i64 d.old.y, .sl (d.old.refs.map encStr), .sl (d.old.tags.map encTag), .str d.new.id, .int .i64 d.new.kind, .int .i64 d.new.x, .int .i64 d.new.y, .sl (d.new.refs.map encStr), .sl (d.new.tags.map encTag)]
def slDeltas (l : List GDelta) : PV := .sl (l.map encDelta)
def dlRows (l : List GDelta) : List (List AV) := l.map (fun d => (encDelta d).map AV.pv)

theorem differs_c (d : GDelta) (H : Heap) (h : okS d.old) : ACalls Tryz.prog 32 [av (encDelta d)] H (fun r H' => r = bv (dDiff d) ∧ H' = H) := by
  refine ACalls.pure ?_ (by simp) H
  refine ACalls.body Tryz.func32 rfl Tryz.ntmps32 (Nat.le_of_ble_eq_true rfl) ?_
  refine awp_seq ?_
  refine awp_region ?_
  refine al_d rfl rfl rfl (by exact opd_box (id := 1) rfl rfl rfl rfl rfl) ?_
  refine al_d rfl rfl rfl (by exact opd_assign rfl rfl) ?_
  refine al_nil ?_
  refine awp_seq ?_
  refine awp_bool (t := 2) (n := 15) (X := dDiff d) ?_ ?_
  · all_goals (refine al_d rfl rfl rfl (by exact (by exact opd_field_ref rfl fo43_1 rfl rfl rfl rfl)) ?_)
    all_goals (refine al_d rfl rfl rfl (by exact (by exact opd_load1_ref rfl Tryz.isAgg4 rfl rfl rfl rfl rfl)) ?_)
    all_goals (refine al_d rfl rfl rfl (by exact (by exact opd_field_ref rfl fo43_2 rfl rfl rfl rfl)) ?_)
    all_goals (refine al_d rfl rfl rfl (by exact (by exact opd_load1_ref rfl Tryz.isAgg4 rfl rfl rfl rfl rfl)) ?_)
    all_goals (refine al_d rfl rfl rfl (by exact opd_bneq rfl Tryz.underlying4 rfl rfl) ?_)
    all_goals (refine al_d rfl rfl rfl (by exact opd_move rfl rfl) ?_)
    all_goals (refine al_split (t := 8) rfl (fun h8 => ?_) (fun h8 => ?_))
    all_goals (try contradiction)
    all_goals (first | refine al_off rfl rfl rfl rfl rfl ?_ | refine al_ond rfl rfl rfl rfl rfl rfl (by exact (by exact opd_field_ref rfl fo43_3 rfl rfl rfl rfl)) ?_)
    all_goals (first | refine al_off rfl rfl rfl rfl rfl ?_ | refine al_ond rfl rfl rfl rfl rfl rfl (by exact (by exact opd_loadn_ref rfl Tryz.isAgg30 Tryz.sizeOf30 rfl rfl rfl rfl (by simp only [List.drop_succ_cons, List.drop_zero, List.take_succ_cons, List.take_zero, List.take_nil, List.map_cons, List.map_nil, List.set_cons_zero, List.set_cons_succ, List.cons_append, List.nil_append, encTag, encObj, encStr, encEdit, encInt, encDelta]; rfl) rfl)) ?_)
    all_goals (first | refine al_off rfl rfl rfl rfl rfl ?_ | refine al_ond rfl rfl rfl rfl rfl rfl (by exact (by exact opd_field_ref rfl fo43_4 rfl rfl rfl rfl)) ?_)
    all_goals (first | refine al_off rfl rfl rfl rfl rfl ?_ | refine al_ond rfl rfl rfl rfl rfl rfl (by exact (by exact opd_loadn_ref rfl Tryz.isAgg30 Tryz.sizeOf30 rfl rfl rfl rfl (by simp only [List.drop_succ_cons, List.drop_zero, List.take_succ_cons, List.take_zero, List.take_nil, List.map_cons, List.map_nil, List.set_cons_zero, List.set_cons_succ, List.cons_append, List.nil_append, encTag, encObj, encStr, encEdit, encInt, encDelta]; rfl) rfl)) ?_)
    all_goals (first | refine al_off rfl rfl rfl rfl rfl ?_ | refine al_ond rfl rfl rfl rfl rfl rfl (by exact opr_call rfl rfl Tryz.call54 rfl (sameO_c d.old d.new _ h)) ?_)
    all_goals (first | refine al_off rfl rfl rfl rfl rfl ?_ | refine al_ond rfl rfl rfl rfl rfl rfl (by exact opd_not rfl rfl) ?_)
    all_goals (refine al_d rfl rfl rfl (by exact (by first | exact opd_pick_t rfl rfl rfl | exact opd_pick_f rfl rfl rfl)) ?_)
    all_goals (refine al_d rfl rfl rfl (by exact opd_assign rfl rfl) ?_)
    all_goals (refine al_nil ?_)
    all_goals (exact ⟨⟨_, rfl, by (simp_all [dDiff]; done)⟩, rfl, rfl, rfl⟩)
  refine awp_ret ?_
  -- return
  refine aret1 (H' := []) (by exact .inr rfl) rfl (rval_tmp rfl) (Fin.wk (by simp) trivial trivial) ?_
  exact ⟨rfl, rfl⟩
theorem pairs_c (a b : List GObj) (H : Heap) (h2 : H.get 902 = none) (h3 : H.get 903 = none) (hc : Closed H) : ACalls Tryz.prog 31 [.agg [.pv (slObjs a)], .agg [.pv (slObjs b)]] H (fun r H' => r = .clo 65 [.ref 902 0 0 0, .ref 903 0 0 0] ∧ H' = (903, bx 1 24 [.pv (slObjs b)]) :: (902, bx 1 24 [.pv (slObjs a)]) :: H) := by
  have h3' : Heap.get ((902, bx 1 24 [.pv (slObjs a)]) :: H) 903 = none := h3
  refine ACalls.body Tryz.func31 rfl Tryz.ntmps31 (Nat.le_of_ble_eq_true rfl) ?_
  refine awp_seq ?_
  refine awp_region ?_
  refine al_d rfl rfl rfl (by exact opd_box (id := 902) rfl rfl rfl rfl h2) ?_
  refine al_d rfl rfl rfl (by exact opd_box (id := 903) rfl rfl rfl rfl h3') ?_
  refine al_d rfl rfl rfl (by exact opd_assign rfl rfl) ?_
  refine al_nil ?_
  refine awp_seq ?_
  refine awp_region ?_
  refine al_d rfl rfl rfl (by exact opd_makeFunc rfl rfl) ?_
  refine al_d rfl rfl rfl (by exact opd_assign rfl rfl) ?_
  refine al_nil ?_
  refine awp_ret ?_
  -- return
  refine aret1 (H' := (903, bx 1 24 [.pv (slObjs b)]) :: (902, bx 1 24 [.pv (slObjs a)]) :: H) (.inr rfl) rfl (rval_tmp rfl) Fin.refl ⟨rfl, rfl⟩
theorem slt_asy {a b : ByteArray} (h : slt a b = true) : slt b a = false := by
  cases hb : slt b a with
  | false => rfl
  | true => have := slt_trans h hb; rw [slt_irr] at this; cases this
theorem slt_of {a b : ByteArray} (h : a ≠ b) (h2 : slt a b = false) : slt b a = true := by
  cases hb : slt b a with
  | true => rfl
  | false => exact absurd (slt_tri h2 hb) h
theorem get_dups {i : Nat} {o : Ob} {K : Heap} : ∀ (D : Heap), (∀ p ∈ D, p.1 = i) → ∀ j, Heap.get ((i, o) :: K) j = Heap.get ((i, o) :: (D ++ K)) j := by
  intro D hD j
  by_cases e : i = j
  · subst e
    simp [Heap.get, beq_self]
  · have h : Heap.get D j = none := by
      cases hg : Heap.get D j with
      | none => rfl
      | some x => exact absurd (hD _ (mem_of_hget hg)).symm e
    rw [get_cons_other _ _ (Ne.symm e), get_cons_other _ _ (Ne.symm e), hget_app, h]
theorem pair_l {n : Nat} {p : GObj} {x : List GObj} : gPairs (n + 1) (p :: x) [] = ⟨p.id, true, false, p, zObj⟩ :: gPairs n x [] := rfl
theorem pair_r {n : Nat} {q : GObj} {y : List GObj} : gPairs (n + 1) [] (q :: y) = ⟨q.id, false, true, zObj, q⟩ :: gPairs n [] y := rfl
theorem pair_b {n : Nat} {p q : GObj} {x y : List GObj} (h : p.id = q.id) : gPairs (n + 1) (p :: x) (q :: y) = ⟨q.id, true, true, p, q⟩ :: gPairs n x y := by rw [gPairs, if_pos h, h]
theorem pair_bl {n : Nat} {p q : GObj} {x y : List GObj} (h : p.id ≠ q.id) (h2 : slt p.id q.id = true) : gPairs (n + 1) (p :: x) (q :: y) = ⟨p.id, true, false, p, zObj⟩ :: gPairs n x (q :: y) := by rw [gPairs, if_neg h, if_pos h2]
theorem pair_br {n : Nat} {p q : GObj} {x y : List GObj} (h : p.id ≠ q.id) (h2 : slt p.id q.id = false) : gPairs (n + 1) (p :: x) (q :: y) = ⟨q.id, false, true, zObj, q⟩ :: gPairs n (p :: x) y := by rw [gPairs, if_neg h, if_neg (by rw [h2]; decide)]
theorem head_of {α : Type} {l m : List α} {k : Nat} {d : α} (h : l.drop k = d :: m) : l[k]? = some d ∧ l.drop (k + 1) = m := by
  refine ⟨?_, ?_⟩
  · have := congrArg (·[0]?) h
    simpa using this
  · rw [← List.drop_drop, h]; rfl
theorem pairs1_c (a b : List GObj) (fv : AV) (Hs : Nat → Heap) (hal : a.length + b.length < 549755813888)
    (h2 : ∀ k, (Hs k).get 902 = some (bx 1 24 [.pv (slObjs a)])) (h3 : ∀ k, (Hs k).get 903 = some (bx 1 24 [.pv (slObjs b)])) (h6 : ∀ k, (Hs k).get 906 = none) (hcl : ∀ k, Closed (Hs k)) (hf : ∀ k, Clo (Hs k) fv)
    (hy : ∀ k d, (gPairs (a.length + b.length) a b)[k]? = some d → CallsV Tryz.prog fv [.agg ((encDelta d).map .pv)] ((906, bx 15 43 ((encDelta d).map .pv)) :: Hs k) (fun r H' => r = bv true ∧ H' = (906, bx 15 43 ((encDelta d).map .pv)) :: Hs (k + 1))) :
    ACalls Tryz.prog 65 [fv, .ref 902 0 0 0, .ref 903 0 0 0] (Hs 0) (fun r H' => r = .tup [] ∧ H' = Hs (gPairs (a.length + b.length) a b).length) := by
  have hnil : ∀ n, gPairs n [] [] = [] := fun n => by cases n <;> rfl
  obtain ⟨ds, hds⟩ : ∃ ds, ds = gPairs (a.length + b.length) a b := ⟨_, rfl⟩
  rw [← hds] at hy ⊢
  have hfree : ∀ (G0 : Heap) (k : Nat) (x y : List GObj) (u v : AV) (E : Env) (o : Ob), G0 = Hs 0 → E.get 0 = some fv → E.get 1 = some (.ref 902 0 0 0) → E.get 2 = some (.ref 903 0 0 0) → E.get 4 = some (.pv (slObjs x)) → E.get 5 = some (.pv (slObjs y)) →
      Ent G0 E ((906, o) :: Hs k) [(0, fv), (1, .ref 902 0 0 0), (2, .ref 903 0 0 0), (4, .pv (slObjs x)), (5, .pv (slObjs y))] (Hs k) := fun G0 k x y u v E o hG q0 q1 q2 q4 q5 => by
    subst hG
    exact Ent.front (K := Hs k) [(906, o)] [] ⟨⟨_, q0, rfl⟩, hf k, ⟨_, q1, rfl⟩, (by rw [clo_ref]; show ((Hs k).get 902).isSome = true; rw [h2]; rfl), ⟨_, q2, rfl⟩, (by rw [clo_ref]; show ((Hs k).get 903).isSome = true; rw [h3]; rfl), ⟨_, q4, rfl⟩, (by simp), ⟨_, q5, rfl⟩, (by simp), trivial⟩ (by simp [h6]) (by simp) (by simp) (hcl k) (by simp [h6])
  refine ACalls.body Tryz.func65 rfl Tryz.ntmps65 (Nat.le_of_ble_eq_true rfl) ?_
  refine awp_seq ?_
  refine awp_drawc follows ?_
  refine dc_cons (DStep.q rfl (by exact (by exact opd_field_ref rfl fo24_0 rfl (h2 0) rfl rfl))) rfl ?_
  refine dc_cons (DStep.q rfl (by exact (by exact opd_load1_ref rfl Tryz.isAgg22 rfl (h2 0) rfl rfl rfl))) rfl ?_
  refine dc_cons (DStep.q rfl (by exact (by exact opd_field_ref rfl fo24_0 rfl (h3 0) rfl rfl))) rfl ?_
  refine dc_cons (DStep.q rfl (by exact (by exact opd_load1_ref rfl Tryz.isAgg22 rfl (h3 0) rfl rfl rfl))) rfl ?_
  refine dc_cons (DStep.q rfl (by exact opd_assign rfl rfl)) rfl ?_
  refine dc_cons (DStep.q rfl (by exact opd_assign rfl rfl)) rfl ?_
  refine dc_nil ⟨by kernel_rfl, ?_⟩
  refine awp_block ?_
  -- loop
  refine awp_loop3 (fun (x y : List GObj) (k : Nat) => ([(0, fv), (1, .ref 902 0 0 0), (2, .ref 903 0 0 0), (4, .pv (slObjs x)), (5, .pv (slObjs y))], Hs k)) (fun x y k => ∃ n, x.length + y.length ≤ n ∧ ds.drop k = gPairs n x y ∧ x.length + y.length ≤ a.length + b.length ∧ k ≤ ds.length) (fun x y k => x.length + y.length) a b 0 ⟨a.length + b.length, Nat.le_refl _, by rw [List.drop_zero, hds], Nat.le_refl _, Nat.zero_le _⟩ ?_ ?_
  · exact Ent.e0 ⟨⟨_, rfl, rfl⟩, ⟨_, rfl, rfl⟩, ⟨_, rfl, rfl⟩, ⟨_, rfl, rfl⟩, ⟨_, rfl, rfl⟩, trivial⟩
  · rintro x y k ⟨n, hn, hinv, hle, hkd⟩
    have hxl : (x.map encObj).length = x.length := List.length_map _
    have hyl : (y.map encObj).length = y.length := List.length_map _
    refine awp_seq ?_
    refine awp_seq ?_
    refine awp_region ?_
    refine al_d rfl rfl rfl (by exact opd_move rfl rfl) ?_
    refine al_d rfl rfl rfl (by exact (by exact opd_len_sl rfl Tryz.underlying22 rfl)) ?_
    refine al_d rfl rfl rfl (by exact opd_move rfl rfl) ?_
    refine al_d rfl rfl rfl (by exact (by exact opd_len_sl rfl Tryz.underlying22 rfl)) ?_
    refine al_d rfl rfl rfl (by exact opd_add rfl rfl rfl (by exact w64 (by omega) (by omega))) ?_
    refine al_d rfl rfl rfl (by exact opd_gtr rfl rfl rfl) ?_
    refine al_nil ?_
    refine awp_cond rfl (fun hc1 => ?_) (fun hc1 => ?_)
    -- cond 1
    · have hpos : 0 < x.length + y.length := by
        have h := of_decide_eq_true hc1
        rw [hxl, hyl] at h
        omega
      obtain ⟨n, rfl⟩ : ∃ n', n = n' + 1 := ⟨n - 1, by omega⟩
      rcases x with _ | ⟨p, x⟩
      · rcases y with _ | ⟨q, y⟩
        · exact absurd hpos (by decide)
        · skip
          rw [pair_r] at hinv
          obtain ⟨hk1, hk2⟩ := head_of hinv
          have ky : decide ((((q :: y).map encObj).length : Int) = 0) = false := decide_eq_false (by simp; omega)
          have ky1 : decide ((0 : Int) < (((q :: y).map encObj).length : Int)) = true := decide_eq_true (by simp)
          refine awp_skip ?_
          refine awp_block ?_
          refine awp_seq ?_
          refine awp_region ?_
          refine al_d rfl rfl rfl (by exact x_alloc (id := 906) rfl zo43 rfl (h6 k)) ?_
          refine al_nil ?_
          refine awp_seq ?_
          refine awp_seq ?_
          refine awp_drawc follows ?_
          refine dc_cons (DStep.q rfl (by exact opd_move rfl rfl)) rfl ?_
          refine dc_cons (DStep.q rfl (by exact (by exact opd_len_sl rfl Tryz.underlying22 rfl))) rfl ?_
          refine dc_cons (DStep.q rfl (by exact opd_eql rfl rfl rfl)) rfl ?_
          refine dc_cons (DStep.q rfl (by exact opd_move rfl rfl)) rfl ?_
          refine dc_cons (q_on_f rfl rfl rfl (by rfl) (by exact opd_move rfl rfl)) rfl ?_
          refine dc_cons (q_on_f rfl rfl rfl (by rfl) (by exact (by exact opd_len_sl rfl Tryz.underlying22 rfl))) rfl ?_
          refine dc_cons (q_on_f rfl rfl rfl (by rfl) (by exact opd_gtr rfl rfl rfl)) rfl ?_
          refine dc_cons (q_on_f rfl rfl rfl (by rfl) (by exact opd_move rfl rfl)) rfl ?_
          refine dc_cons (q_off_t rfl rfl rfl (by rfl)) rfl ?_
          refine dc_cons (q_off_t rfl rfl rfl (by rfl)) rfl ?_
          refine dc_cons (q_off_t rfl rfl rfl (by rfl)) rfl ?_
          refine dc_cons (q_off_t rfl rfl rfl (by rfl)) rfl ?_
          refine dc_cons (q_off_t rfl rfl rfl (by rfl)) rfl ?_
          refine dc_cons (q_off_t rfl rfl rfl (by rfl)) rfl ?_
          refine dc_cons (q_off_t rfl rfl rfl (by rfl)) rfl ?_
          refine dc_cons (q_off_t rfl rfl rfl (by rfl)) rfl ?_
          refine dc_cons (q_off_t rfl rfl rfl (by rfl)) rfl ?_
          refine dc_cons (q_on_f rfl rfl rfl (by rfl) (by exact (by exact opd_pick_f rfl rfl rfl))) rfl ?_
          refine dc_cons (DStep.q rfl (by exact (by exact opd_pick_f rfl rfl rfl))) rfl ?_
          refine dc_nil ⟨by kernel_rfl, ?_⟩
          refine awp_cond rfl (fun hc2 => ?_) (fun hc2 => ?_)
          -- cond 2
          · skip
            cases hc2
          · skip
            refine awp_skip ?_
            refine awp_seq ?_
            refine awp_seq ?_
            refine awp_drawc follows ?_
            refine dc_cons (DStep.q rfl (by exact opd_move rfl rfl)) rfl ?_
            refine dc_cons (DStep.q rfl (by exact (by exact opd_len_sl rfl Tryz.underlying22 rfl))) rfl ?_
            refine dc_cons (DStep.q rfl (by exact opd_gtr rfl rfl rfl)) rfl ?_
            refine dc_cons (DStep.q rfl (by exact opd_move rfl rfl)) rfl ?_
            refine dc_cons (q_on_t rfl rfl rfl (by assumption) (by exact (by exact opd_field_ref rfl fo43_1 rfl rfl rfl rfl))) rfl ?_
            refine dc_cons (q_on_t rfl rfl rfl (by assumption) (by exact (by exact opd_load1_ref rfl Tryz.isAgg4 rfl rfl rfl rfl rfl))) rfl ?_
            refine dc_cons (q_on_t rfl rfl rfl (by assumption) (by exact opd_not rfl rfl)) rfl ?_
            refine dc_cons (q_on_t rfl rfl rfl (by assumption) (by exact opd_move rfl rfl)) rfl ?_
            refine dc_cons (q_off_f rfl rfl rfl (by rfl)) rfl ?_
            refine dc_cons (q_off_f rfl rfl rfl (by rfl)) rfl ?_
            refine dc_cons (q_off_f rfl rfl rfl (by rfl)) rfl ?_
            refine dc_cons (q_off_f rfl rfl rfl (by rfl)) rfl ?_
            refine dc_cons (q_off_f rfl rfl rfl (by rfl)) rfl ?_
            refine dc_cons (q_off_f rfl rfl rfl (by rfl)) rfl ?_
            refine dc_cons (q_off_f rfl rfl rfl (by rfl)) rfl ?_
            refine dc_cons (q_on_t rfl rfl rfl (by assumption) (by exact (by exact opd_pick_t rfl rfl rfl))) rfl ?_
            refine dc_cons (DStep.q rfl (by exact (by exact opd_pickt rfl rfl (by assumption) rfl))) rfl ?_
            refine dc_nil ⟨by kernel_rfl, ?_⟩
            refine awp_cond rfl (fun hc3 => ?_) (fun hc3 => ?_)
            -- cond 3
            · skip
              refine awp_drawc follows ?_
              refine dc_cons (r := ⟨_, some [], []⟩) (DStep.plain rfl (fun H1 hH => by exact opd_move rfl rfl)) rfl ?_
              refine dc_cons (r := ⟨_, some [], []⟩) (DStep.plain rfl (fun H1 hH => by exact x_index_pad rfl so22 rfl rfl (by simp) (show (0 : Int).toNat = 0 by rfl) (rfl : (((q :: y)).map encObj)[0]? = some (encObj q)) rfl)) rfl ?_
              refine dc_cons (r := ⟨_, some [], []⟩) (DStep.plain rfl (fun H1 hH => by exact (by exact opd_field_pad rfl fo30_0 rfl rfl))) rfl ?_
              refine dc_cons (r := ⟨_, some [], []⟩) (DStep.plain rfl (fun H1 hH => by exact (by exact opd_load1_pad rfl Tryz.isAgg9 rfl rfl rfl))) rfl ?_
              refine dc_cons (r := ⟨_, some [], []⟩) (DStep.plain rfl (fun H1 hH => by exact opd_move rfl rfl)) rfl ?_
              refine dc_cons (r := ⟨_, some [], []⟩) (DStep.plain rfl (fun H1 hH => by exact x_index_pad rfl so22 rfl rfl (by simp) (show (0 : Int).toNat = 0 by rfl) (rfl : (((q :: y)).map encObj)[0]? = some (encObj q)) rfl)) rfl ?_
              refine dc_cons (r := ⟨_, some [], []⟩) (DStep.plain rfl (fun H1 hH => by exact (by exact opd_loadn_pad rfl Tryz.isAgg30 Tryz.sizeOf30 rfl rfl (by simp only [List.drop_succ_cons, List.drop_zero, List.take_succ_cons, List.take_zero, List.take_nil, List.map_cons, List.map_nil, List.set_cons_zero, List.set_cons_succ, List.cons_append, List.nil_append, encTag, encObj, encStr, encEdit, encInt, encDelta]; rfl) rfl))) rfl ?_
              refine dc_cons (r := ⟨_, some [], []⟩) (DStep.plain rfl (fun H1 hH => by exact opd_move rfl rfl)) rfl ?_
              refine dc_cons (r := ⟨_, some [], []⟩) (DStep.plain rfl (fun H1 hH => by exact x_slice_sl (l := 1) (h := (((q :: y)).map encObj).length) (rows' := y.map encObj) rfl so22 rfl (encObj_rl _) rfl rfl (by simp) (Nat.le_refl _) (by rw [List.take_length]; rfl))) rfl ?_
              refine dc_cons (r := ⟨_, some [906], []⟩) (DStep.plain rfl (fun H1 hH => by exact (by exact opd_field_ref rfl fo43_0 rfl ((hH _ rfl).trans rfl) rfl rfl))) rfl ?_
              refine dc_cons (r := ⟨_, some [906], [_]⟩) (DStep.plain rfl (fun H1 hH => by exact (by exact x_store1 rfl Tryz.sizeOf9 rfl rfl rfl ((hH _ rfl).trans rfl) rfl rfl (by simp only [List.length_cons, List.length_nil]; omega) (by simp only [List.drop_succ_cons, List.drop_zero, List.take_succ_cons, List.take_zero, List.take_nil, List.map_cons, List.map_nil, List.set_cons_zero, List.set_cons_succ, List.cons_append, List.nil_append, encTag, encObj, encStr, encEdit, encInt, encDelta]; rfl) (by simp only [List.drop_succ_cons, List.drop_zero, List.take_succ_cons, List.take_zero, List.take_nil, List.map_cons, List.map_nil, List.set_cons_zero, List.set_cons_succ, List.cons_append, List.nil_append, encTag, encObj, encStr, encEdit, encInt, encDelta]; rfl)))) rfl ?_
              refine dc_cons (r := ⟨_, some [906], []⟩) (DStep.plain rfl (fun H1 hH => by exact (by exact opd_field_ref rfl fo43_2 rfl ((hH _ rfl).trans rfl) rfl rfl))) rfl ?_
              refine dc_cons (r := ⟨_, some [906], [_]⟩) (DStep.plain rfl (fun H1 hH => by exact (by exact x_store1 rfl Tryz.sizeOf4 rfl rfl rfl ((hH _ rfl).trans rfl) rfl rfl (Nat.le_of_ble_eq_true rfl) rfl rfl))) rfl ?_
              refine dc_cons (r := ⟨_, some [906], []⟩) (DStep.plain rfl (fun H1 hH => by exact (by exact opd_field_ref rfl fo43_4 rfl ((hH _ rfl).trans rfl) rfl rfl))) rfl ?_
              refine dc_cons (r := ⟨_, some [906], [_]⟩) (DStep.plain rfl (fun H1 hH => by exact (by exact x_store rfl Tryz.sizeOf30 rfl rfl rfl rfl ((hH _ rfl).trans rfl) rfl rfl (Nat.le_of_ble_eq_true rfl) rfl rfl))) rfl ?_
              refine dc_cons (r := ⟨_, some [], []⟩) (DStep.plain rfl (fun H1 hH => by exact opd_assign rfl rfl)) rfl ?_
              refine dc_nil ⟨by kernel_rfl, ?_⟩
              refine awp_seq ?_
              -- before the slot
              refine AWp.ent (E' := [(0, fv), (1, .ref 902 0 0 0), (2, .ref 903 0 0 0), (4, .pv (slObjs [])), (5, .pv (slObjs y)), (6, .ref 906 0 0 0)]) (H' := (906, bx 15 43 ((encDelta ⟨q.id, false, true, zObj, q⟩).map .pv)) :: Hs k) (Ent.get' ⟨⟨_, rfl, rfl⟩, ⟨_, rfl, rfl⟩, ⟨_, rfl, rfl⟩, ⟨_, rfl, rfl⟩, ⟨_, rfl, rfl⟩, ⟨_, rfl, rfl⟩, trivial⟩ (fun j => get_dups [_, _, _] (by simp) j)) ?_
              refine awp_region ?_
              refine al_d rfl rfl rfl (by exact opd_move rfl rfl) ?_
              refine al_d rfl rfl rfl (by exact (by exact opd_loadn_ref rfl Tryz.isAgg43 Tryz.sizeOf43 rfl rfl rfl rfl rfl rfl)) ?_
              refine al_d rfl rfl rfl (by exact opr_callV rfl rfl rfl (hy k _ hk1)) ?_
              refine al_d rfl rfl rfl (by exact opd_not rfl rfl) ?_
              refine al_nil ?_
              refine awp_cond rfl (fun hc4 => ?_) (fun hc4 => ?_)
              -- cond 4
              · skip
                cases hc4
              · skip
                refine awp_skip ?_
                -- end of a round
                exact ⟨[], y, k + 1, ⟨n, by simp at hn ⊢; omega, hk2, by simp at hle ⊢; omega, (List.getElem?_eq_some_iff.1 hk1).1⟩, by simp, hfree _ _ _ _ .any .any _ _ rfl rfl rfl rfl rfl rfl⟩
            · skip
              cases hc3
      · rcases y with _ | ⟨q, y⟩
        · skip
          rw [pair_l] at hinv
          obtain ⟨hk1, hk2⟩ := head_of hinv
          refine awp_skip ?_
          refine awp_block ?_
          refine awp_seq ?_
          refine awp_region ?_
          refine al_d rfl rfl rfl (by exact x_alloc (id := 906) rfl zo43 rfl (h6 k)) ?_
          refine al_nil ?_
          refine awp_seq ?_
          refine awp_seq ?_
          refine awp_drawc follows ?_
          refine dc_cons (DStep.q rfl (by exact opd_move rfl rfl)) rfl ?_
          refine dc_cons (DStep.q rfl (by exact (by exact opd_len_sl rfl Tryz.underlying22 rfl))) rfl ?_
          refine dc_cons (DStep.q rfl (by exact opd_eql rfl rfl rfl)) rfl ?_
          refine dc_cons (DStep.q rfl (by exact opd_move rfl rfl)) rfl ?_
          refine dc_cons (q_off_f rfl rfl rfl (by rfl)) rfl ?_
          refine dc_cons (q_off_f rfl rfl rfl (by rfl)) rfl ?_
          refine dc_cons (q_off_f rfl rfl rfl (by rfl)) rfl ?_
          refine dc_cons (q_off_f rfl rfl rfl (by rfl)) rfl ?_
          refine dc_cons (q_off_u rfl rfl rfl) rfl ?_
          refine dc_cons (q_off_u rfl rfl rfl) rfl ?_
          refine dc_cons (q_off_u rfl rfl rfl) rfl ?_
          refine dc_cons (q_off_u rfl rfl rfl) rfl ?_
          refine dc_cons (q_off_u rfl rfl rfl) rfl ?_
          refine dc_cons (q_off_u rfl rfl rfl) rfl ?_
          refine dc_cons (q_off_u rfl rfl rfl) rfl ?_
          refine dc_cons (q_off_u rfl rfl rfl) rfl ?_
          refine dc_cons (q_off_u rfl rfl rfl) rfl ?_
          refine dc_cons (q_off_f rfl rfl rfl (by rfl)) rfl ?_
          refine dc_cons (DStep.q rfl (by exact (by exact opd_pick_t rfl rfl rfl))) rfl ?_
          refine dc_nil ⟨by kernel_rfl, ?_⟩
          refine awp_cond rfl (fun hc5 => ?_) (fun hc5 => ?_)
          -- cond 5
          · skip
            refine awp_drawc follows ?_
            refine dc_cons (r := ⟨_, some [], []⟩) (DStep.plain rfl (fun H1 hH => by exact opd_move rfl rfl)) rfl ?_
            refine dc_cons (r := ⟨_, some [], []⟩) (DStep.plain rfl (fun H1 hH => by exact x_index_pad rfl so22 rfl rfl (by simp) (show (0 : Int).toNat = 0 by rfl) (rfl : (((p :: x)).map encObj)[0]? = some (encObj p)) rfl)) rfl ?_
            refine dc_cons (r := ⟨_, some [], []⟩) (DStep.plain rfl (fun H1 hH => by exact (by exact opd_field_pad rfl fo30_0 rfl rfl))) rfl ?_
            refine dc_cons (r := ⟨_, some [], []⟩) (DStep.plain rfl (fun H1 hH => by exact (by exact opd_load1_pad rfl Tryz.isAgg9 rfl rfl rfl))) rfl ?_
            refine dc_cons (r := ⟨_, some [], []⟩) (DStep.plain rfl (fun H1 hH => by exact opd_move rfl rfl)) rfl ?_
            refine dc_cons (r := ⟨_, some [], []⟩) (DStep.plain rfl (fun H1 hH => by exact x_index_pad rfl so22 rfl rfl (by simp) (show (0 : Int).toNat = 0 by rfl) (rfl : (((p :: x)).map encObj)[0]? = some (encObj p)) rfl)) rfl ?_
            refine dc_cons (r := ⟨_, some [], []⟩) (DStep.plain rfl (fun H1 hH => by exact (by exact opd_loadn_pad rfl Tryz.isAgg30 Tryz.sizeOf30 rfl rfl (by simp only [List.drop_succ_cons, List.drop_zero, List.take_succ_cons, List.take_zero, List.take_nil, List.map_cons, List.map_nil, List.set_cons_zero, List.set_cons_succ, List.cons_append, List.nil_append, encTag, encObj, encStr, encEdit, encInt, encDelta]; rfl) rfl))) rfl ?_
            refine dc_cons (r := ⟨_, some [], []⟩) (DStep.plain rfl (fun H1 hH => by exact opd_move rfl rfl)) rfl ?_
            refine dc_cons (r := ⟨_, some [], []⟩) (DStep.plain rfl (fun H1 hH => by exact x_slice_sl (l := 1) (h := (((p :: x)).map encObj).length) (rows' := x.map encObj) rfl so22 rfl (encObj_rl _) rfl rfl (by simp) (Nat.le_refl _) (by rw [List.take_length]; rfl))) rfl ?_
            refine dc_cons (r := ⟨_, some [906], []⟩) (DStep.plain rfl (fun H1 hH => by exact (by exact opd_field_ref rfl fo43_0 rfl ((hH _ rfl).trans rfl) rfl rfl))) rfl ?_
            refine dc_cons (r := ⟨_, some [906], [_]⟩) (DStep.plain rfl (fun H1 hH => by exact (by exact x_store1 rfl Tryz.sizeOf9 rfl rfl rfl ((hH _ rfl).trans rfl) rfl rfl (by simp only [List.length_cons, List.length_nil]; omega) (by simp only [List.drop_succ_cons, List.drop_zero, List.take_succ_cons, List.take_zero, List.take_nil, List.map_cons, List.map_nil, List.set_cons_zero, List.set_cons_succ, List.cons_append, List.nil_append, encTag, encObj, encStr, encEdit, encInt, encDelta]; rfl) (by simp only [List.drop_succ_cons, List.drop_zero, List.take_succ_cons, List.take_zero, List.take_nil, List.map_cons, List.map_nil, List.set_cons_zero, List.set_cons_succ, List.cons_append, List.nil_append, encTag, encObj, encStr, encEdit, encInt, encDelta]; rfl)))) rfl ?_
            refine dc_cons (r := ⟨_, some [906], []⟩) (DStep.plain rfl (fun H1 hH => by exact (by exact opd_field_ref rfl fo43_1 rfl ((hH _ rfl).trans rfl) rfl rfl))) rfl ?_
            refine dc_cons (r := ⟨_, some [906], [_]⟩) (DStep.plain rfl (fun H1 hH => by exact (by exact x_store1 rfl Tryz.sizeOf4 rfl rfl rfl ((hH _ rfl).trans rfl) rfl rfl (Nat.le_of_ble_eq_true rfl) rfl rfl))) rfl ?_
            refine dc_cons (r := ⟨_, some [906], []⟩) (DStep.plain rfl (fun H1 hH => by exact (by exact opd_field_ref rfl fo43_3 rfl ((hH _ rfl).trans rfl) rfl rfl))) rfl ?_
            refine dc_cons (r := ⟨_, some [906], [_]⟩) (DStep.plain rfl (fun H1 hH => by exact (by exact x_store rfl Tryz.sizeOf30 rfl rfl rfl rfl ((hH _ rfl).trans rfl) rfl rfl (Nat.le_of_ble_eq_true rfl) rfl rfl))) rfl ?_
            refine dc_cons (r := ⟨_, some [], []⟩) (DStep.plain rfl (fun H1 hH => by exact opd_assign rfl rfl)) rfl ?_
            refine dc_nil ⟨by kernel_rfl, ?_⟩
            refine awp_seq ?_
            refine awp_seq ?_
            refine awp_drawc follows ?_
            refine dc_cons (DStep.q rfl (by exact opd_move rfl rfl)) rfl ?_
            refine dc_cons (DStep.q rfl (by exact (by exact opd_len_sl rfl Tryz.underlying22 rfl))) rfl ?_
            refine dc_cons (DStep.q rfl (by exact opd_gtr rfl rfl rfl)) rfl ?_
            refine dc_cons (DStep.q rfl (by exact opd_move rfl rfl)) rfl ?_
            refine dc_cons (q_off_t rfl rfl rfl (by rfl)) rfl ?_
            refine dc_cons (q_off_t rfl rfl rfl (by rfl)) rfl ?_
            refine dc_cons (q_off_t rfl rfl rfl (by rfl)) rfl ?_
            refine dc_cons (q_off_t rfl rfl rfl (by rfl)) rfl ?_
            refine dc_cons (q_off_u rfl rfl rfl) rfl ?_
            refine dc_cons (q_off_u rfl rfl rfl) rfl ?_
            refine dc_cons (q_off_u rfl rfl rfl) rfl ?_
            refine dc_cons (q_off_u rfl rfl rfl) rfl ?_
            refine dc_cons (q_off_u rfl rfl rfl) rfl ?_
            refine dc_cons (q_off_u rfl rfl rfl) rfl ?_
            refine dc_cons (q_off_u rfl rfl rfl) rfl ?_
            refine dc_cons (q_off_t rfl rfl rfl (by rfl)) rfl ?_
            refine dc_cons (DStep.q rfl (by exact (by exact opd_pick_f rfl rfl rfl))) rfl ?_
            refine dc_nil ⟨by kernel_rfl, ?_⟩
            refine awp_cond rfl (fun hc6 => ?_) (fun hc6 => ?_)
            -- cond 6
            · skip
              cases hc6
            · skip
              refine awp_skip ?_
              refine awp_seq ?_
              -- before the slot
              refine AWp.ent (E' := [(0, fv), (1, .ref 902 0 0 0), (2, .ref 903 0 0 0), (4, .pv (slObjs x)), (5, .pv (slObjs [])), (6, .ref 906 0 0 0)]) (H' := (906, bx 15 43 ((encDelta ⟨p.id, true, false, p, zObj⟩).map .pv)) :: Hs k) (Ent.get' ⟨⟨_, rfl, rfl⟩, ⟨_, rfl, rfl⟩, ⟨_, rfl, rfl⟩, ⟨_, rfl, rfl⟩, ⟨_, rfl, rfl⟩, ⟨_, rfl, rfl⟩, trivial⟩ (fun j => get_dups [_, _, _] (by simp) j)) ?_
              refine awp_region ?_
              refine al_d rfl rfl rfl (by exact opd_move rfl rfl) ?_
              refine al_d rfl rfl rfl (by exact (by exact opd_loadn_ref rfl Tryz.isAgg43 Tryz.sizeOf43 rfl rfl rfl rfl rfl rfl)) ?_
              refine al_d rfl rfl rfl (by exact opr_callV rfl rfl rfl (hy k _ hk1)) ?_
              refine al_d rfl rfl rfl (by exact opd_not rfl rfl) ?_
              refine al_nil ?_
              refine awp_cond rfl (fun hc7 => ?_) (fun hc7 => ?_)
              -- cond 7
              · skip
                cases hc7
              · skip
                refine awp_skip ?_
                -- end of a round
                exact ⟨x, [], k + 1, ⟨n, by simp at hn ⊢; omega, hk2, by simp at hle ⊢; omega, (List.getElem?_eq_some_iff.1 hk1).1⟩, by simp, hfree _ _ _ _ .any .any _ _ rfl rfl rfl rfl rfl rfl⟩
          · skip
            cases hc5
        · by_cases hpq : p.id = q.id
          · skip
            rw [pair_b hpq] at hinv
            obtain ⟨hk1, hk2⟩ := head_of hinv
            have kx : decide ((0 : Int) < (((p :: x).map encObj).length : Int)) = true := decide_eq_true (by simp)
            have ky : decide ((((q :: y).map encObj).length : Int) = 0) = false := decide_eq_false (by simp; omega)
            have ky1 : decide ((0 : Int) < (((q :: y).map encObj).length : Int)) = true := decide_eq_true (by simp)
            have kl : (!slt q.id p.id) = true := by rw [hpq, slt_irr]; rfl
            have ke : decide (q.id = p.id) = true := decide_eq_true hpq.symm
            refine awp_skip ?_
            refine awp_block ?_
            refine awp_seq ?_
            refine awp_region ?_
            refine al_d rfl rfl rfl (by exact x_alloc (id := 906) rfl zo43 rfl (h6 k)) ?_
            refine al_nil ?_
            refine awp_seq ?_
            refine awp_seq ?_
            refine awp_drawc follows ?_
            refine dc_cons (DStep.q rfl (by exact opd_move rfl rfl)) rfl ?_
            refine dc_cons (DStep.q rfl (by exact (by exact opd_len_sl rfl Tryz.underlying22 rfl))) rfl ?_
            refine dc_cons (DStep.q rfl (by exact opd_eql rfl rfl rfl)) rfl ?_
            refine dc_cons (DStep.q rfl (by exact opd_move rfl rfl)) rfl ?_
            refine dc_cons (q_on_f rfl rfl rfl (by rfl) (by exact opd_move rfl rfl)) rfl ?_
            refine dc_cons (q_on_f rfl rfl rfl (by rfl) (by exact (by exact opd_len_sl rfl Tryz.underlying22 rfl))) rfl ?_
            refine dc_cons (q_on_f rfl rfl rfl (by rfl) (by exact opd_gtr rfl rfl rfl)) rfl ?_
            refine dc_cons (q_on_f rfl rfl rfl (by rfl) (by exact opd_move rfl rfl)) rfl ?_
            refine dc_cons (q_on_t rfl rfl rfl (by assumption) (by exact opd_move rfl rfl)) rfl ?_
            refine dc_cons (q_on_t rfl rfl rfl (by assumption) (by exact x_index_pad rfl so22 rfl rfl (by simp) (show (0 : Int).toNat = 0 by rfl) (rfl : (((p :: x)).map encObj)[0]? = some (encObj p)) rfl)) rfl ?_
            refine dc_cons (q_on_t rfl rfl rfl (by assumption) (by exact (by exact opd_field_pad rfl fo30_0 rfl rfl))) rfl ?_
            refine dc_cons (q_on_t rfl rfl rfl (by assumption) (by exact (by exact opd_load1_pad rfl Tryz.isAgg9 rfl rfl rfl))) rfl ?_
            refine dc_cons (q_on_t rfl rfl rfl (by assumption) (by exact opd_move rfl rfl)) rfl ?_
            refine dc_cons (q_on_t rfl rfl rfl (by assumption) (by exact x_index_pad rfl so22 rfl rfl (by simp) (show (0 : Int).toNat = 0 by rfl) (rfl : (((q :: y)).map encObj)[0]? = some (encObj q)) rfl)) rfl ?_
            refine dc_cons (q_on_t rfl rfl rfl (by assumption) (by exact (by exact opd_field_pad rfl fo30_0 rfl rfl))) rfl ?_
            refine dc_cons (q_on_t rfl rfl rfl (by assumption) (by exact (by exact opd_load1_pad rfl Tryz.isAgg9 rfl rfl rfl))) rfl ?_
            refine dc_cons (q_on_t rfl rfl rfl (by assumption) (by exact opd_sleq rfl rfl rfl)) rfl ?_
            refine dc_cons (q_on_f rfl rfl rfl (by rfl) (by exact (by exact opd_pickt rfl rfl (by assumption) rfl))) rfl ?_
            refine dc_cons (DStep.q rfl (by exact (by exact opd_pick_f rfl rfl rfl))) rfl ?_
            refine dc_nil ⟨by kernel_rfl, ?_⟩
            refine awp_cond rfl (fun hc8 => ?_) (fun hc8 => ?_)
            -- cond 8
            · skip
              refine awp_drawc follows ?_
              refine dc_cons (r := ⟨_, some [], []⟩) (DStep.plain rfl (fun H1 hH => by exact opd_move rfl rfl)) rfl ?_
              refine dc_cons (r := ⟨_, some [], []⟩) (DStep.plain rfl (fun H1 hH => by exact x_index_pad rfl so22 rfl rfl (by simp) (show (0 : Int).toNat = 0 by rfl) (rfl : (((p :: x)).map encObj)[0]? = some (encObj p)) rfl)) rfl ?_
              refine dc_cons (r := ⟨_, some [], []⟩) (DStep.plain rfl (fun H1 hH => by exact (by exact opd_field_pad rfl fo30_0 rfl rfl))) rfl ?_
              refine dc_cons (r := ⟨_, some [], []⟩) (DStep.plain rfl (fun H1 hH => by exact (by exact opd_load1_pad rfl Tryz.isAgg9 rfl rfl rfl))) rfl ?_
              refine dc_cons (r := ⟨_, some [], []⟩) (DStep.plain rfl (fun H1 hH => by exact opd_move rfl rfl)) rfl ?_
              refine dc_cons (r := ⟨_, some [], []⟩) (DStep.plain rfl (fun H1 hH => by exact x_index_pad rfl so22 rfl rfl (by simp) (show (0 : Int).toNat = 0 by rfl) (rfl : (((p :: x)).map encObj)[0]? = some (encObj p)) rfl)) rfl ?_
              refine dc_cons (r := ⟨_, some [], []⟩) (DStep.plain rfl (fun H1 hH => by exact (by exact opd_loadn_pad rfl Tryz.isAgg30 Tryz.sizeOf30 rfl rfl (by simp only [List.drop_succ_cons, List.drop_zero, List.take_succ_cons, List.take_zero, List.take_nil, List.map_cons, List.map_nil, List.set_cons_zero, List.set_cons_succ, List.cons_append, List.nil_append, encTag, encObj, encStr, encEdit, encInt, encDelta]; rfl) rfl))) rfl ?_
              refine dc_cons (r := ⟨_, some [], []⟩) (DStep.plain rfl (fun H1 hH => by exact opd_move rfl rfl)) rfl ?_
              refine dc_cons (r := ⟨_, some [], []⟩) (DStep.plain rfl (fun H1 hH => by exact x_slice_sl (l := 1) (h := (((p :: x)).map encObj).length) (rows' := x.map encObj) rfl so22 rfl (encObj_rl _) rfl rfl (by simp) (Nat.le_refl _) (by rw [List.take_length]; rfl))) rfl ?_
              refine dc_cons (r := ⟨_, some [906], []⟩) (DStep.plain rfl (fun H1 hH => by exact (by exact opd_field_ref rfl fo43_0 rfl ((hH _ rfl).trans rfl) rfl rfl))) rfl ?_
              refine dc_cons (r := ⟨_, some [906], [_]⟩) (DStep.plain rfl (fun H1 hH => by exact (by exact x_store1 rfl Tryz.sizeOf9 rfl rfl rfl ((hH _ rfl).trans rfl) rfl rfl (by simp only [List.length_cons, List.length_nil]; omega) (by simp only [List.drop_succ_cons, List.drop_zero, List.take_succ_cons, List.take_zero, List.take_nil, List.map_cons, List.map_nil, List.set_cons_zero, List.set_cons_succ, List.cons_append, List.nil_append, encTag, encObj, encStr, encEdit, encInt, encDelta]; rfl) (by simp only [List.drop_succ_cons, List.drop_zero, List.take_succ_cons, List.take_zero, List.take_nil, List.map_cons, List.map_nil, List.set_cons_zero, List.set_cons_succ, List.cons_append, List.nil_append, encTag, encObj, encStr, encEdit, encInt, encDelta]; rfl)))) rfl ?_
              refine dc_cons (r := ⟨_, some [906], []⟩) (DStep.plain rfl (fun H1 hH => by exact (by exact opd_field_ref rfl fo43_1 rfl ((hH _ rfl).trans rfl) rfl rfl))) rfl ?_
              refine dc_cons (r := ⟨_, some [906], [_]⟩) (DStep.plain rfl (fun H1 hH => by exact (by exact x_store1 rfl Tryz.sizeOf4 rfl rfl rfl ((hH _ rfl).trans rfl) rfl rfl (Nat.le_of_ble_eq_true rfl) rfl rfl))) rfl ?_
              refine dc_cons (r := ⟨_, some [906], []⟩) (DStep.plain rfl (fun H1 hH => by exact (by exact opd_field_ref rfl fo43_3 rfl ((hH _ rfl).trans rfl) rfl rfl))) rfl ?_
              refine dc_cons (r := ⟨_, some [906], [_]⟩) (DStep.plain rfl (fun H1 hH => by exact (by exact x_store rfl Tryz.sizeOf30 rfl rfl rfl rfl ((hH _ rfl).trans rfl) rfl rfl (Nat.le_of_ble_eq_true rfl) rfl rfl))) rfl ?_
              refine dc_cons (r := ⟨_, some [], []⟩) (DStep.plain rfl (fun H1 hH => by exact opd_assign rfl rfl)) rfl ?_
              refine dc_nil ⟨by kernel_rfl, ?_⟩
              refine awp_seq ?_
              refine awp_seq ?_
              refine awp_drawc follows ?_
              refine dc_cons (DStep.q rfl (by exact opd_move rfl rfl)) rfl ?_
              refine dc_cons (DStep.q rfl (by exact (by exact opd_len_sl rfl Tryz.underlying22 rfl))) rfl ?_
              refine dc_cons (DStep.q rfl (by exact opd_gtr rfl rfl rfl)) rfl ?_
              refine dc_cons (DStep.q rfl (by exact opd_move rfl rfl)) rfl ?_
              refine dc_cons (q_on_t rfl rfl rfl (by assumption) (by exact (by exact opd_field_ref rfl fo43_1 rfl rfl rfl rfl))) rfl ?_
              refine dc_cons (q_on_t rfl rfl rfl (by assumption) (by exact (by exact opd_load1_ref rfl Tryz.isAgg4 rfl rfl rfl rfl rfl))) rfl ?_
              refine dc_cons (q_on_t rfl rfl rfl (by assumption) (by exact opd_not rfl rfl)) rfl ?_
              refine dc_cons (q_on_t rfl rfl rfl (by assumption) (by exact opd_move rfl rfl)) rfl ?_
              refine dc_cons (q_on_f rfl rfl rfl (by rfl) (by exact opd_move rfl rfl)) rfl ?_
              refine dc_cons (q_on_f rfl rfl rfl (by rfl) (by exact x_index_pad rfl so22 rfl rfl (by simp) (show (0 : Int).toNat = 0 by rfl) (rfl : (((q :: y)).map encObj)[0]? = some (encObj q)) rfl)) rfl ?_
              refine dc_cons (q_on_f rfl rfl rfl (by rfl) (by exact (by exact opd_field_pad rfl fo30_0 rfl rfl))) rfl ?_
              refine dc_cons (q_on_f rfl rfl rfl (by rfl) (by exact (by exact opd_load1_pad rfl Tryz.isAgg9 rfl rfl rfl))) rfl ?_
              refine dc_cons (q_on_f rfl rfl rfl (by rfl) (by exact (by exact opd_field_ref rfl fo43_0 rfl rfl rfl rfl))) rfl ?_
              refine dc_cons (q_on_f rfl rfl rfl (by rfl) (by exact (by exact opd_load1_ref rfl Tryz.isAgg9 rfl rfl rfl rfl rfl))) rfl ?_
              refine dc_cons (q_on_f rfl rfl rfl (by rfl) (by exact opd_seql rfl rfl rfl)) rfl ?_
              refine dc_cons (q_on_t rfl rfl rfl (by assumption) (by exact (by exact opd_pick_f rfl rfl rfl))) rfl ?_
              refine dc_cons (DStep.q rfl (by exact (by exact opd_pickt rfl rfl (by assumption) rfl))) rfl ?_
              refine dc_nil ⟨by kernel_rfl, ?_⟩
              refine awp_cond rfl (fun hc9 => ?_) (fun hc9 => ?_)
              -- cond 9
              · skip
                refine awp_drawc follows ?_
                refine dc_cons (r := ⟨_, some [], []⟩) (DStep.plain rfl (fun H1 hH => by exact opd_move rfl rfl)) rfl ?_
                refine dc_cons (r := ⟨_, some [], []⟩) (DStep.plain rfl (fun H1 hH => by exact x_index_pad rfl so22 rfl rfl (by simp) (show (0 : Int).toNat = 0 by rfl) (rfl : (((q :: y)).map encObj)[0]? = some (encObj q)) rfl)) rfl ?_
                refine dc_cons (r := ⟨_, some [], []⟩) (DStep.plain rfl (fun H1 hH => by exact (by exact opd_field_pad rfl fo30_0 rfl rfl))) rfl ?_
                refine dc_cons (r := ⟨_, some [], []⟩) (DStep.plain rfl (fun H1 hH => by exact (by exact opd_load1_pad rfl Tryz.isAgg9 rfl rfl rfl))) rfl ?_
                refine dc_cons (r := ⟨_, some [], []⟩) (DStep.plain rfl (fun H1 hH => by exact opd_move rfl rfl)) rfl ?_
                refine dc_cons (r := ⟨_, some [], []⟩) (DStep.plain rfl (fun H1 hH => by exact x_index_pad rfl so22 rfl rfl (by simp) (show (0 : Int).toNat = 0 by rfl) (rfl : (((q :: y)).map encObj)[0]? = some (encObj q)) rfl)) rfl ?_
                refine dc_cons (r := ⟨_, some [], []⟩) (DStep.plain rfl (fun H1 hH => by exact (by exact opd_loadn_pad rfl Tryz.isAgg30 Tryz.sizeOf30 rfl rfl (by simp only [List.drop_succ_cons, List.drop_zero, List.take_succ_cons, List.take_zero, List.take_nil, List.map_cons, List.map_nil, List.set_cons_zero, List.set_cons_succ, List.cons_append, List.nil_append, encTag, encObj, encStr, encEdit, encInt, encDelta]; rfl) rfl))) rfl ?_
                refine dc_cons (r := ⟨_, some [], []⟩) (DStep.plain rfl (fun H1 hH => by exact opd_move rfl rfl)) rfl ?_
                refine dc_cons (r := ⟨_, some [], []⟩) (DStep.plain rfl (fun H1 hH => by exact x_slice_sl (l := 1) (h := (((q :: y)).map encObj).length) (rows' := y.map encObj) rfl so22 rfl (encObj_rl _) rfl rfl (by simp) (Nat.le_refl _) (by rw [List.take_length]; rfl))) rfl ?_
                refine dc_cons (r := ⟨_, some [906], []⟩) (DStep.plain rfl (fun H1 hH => by exact (by exact opd_field_ref rfl fo43_0 rfl ((hH _ rfl).trans rfl) rfl rfl))) rfl ?_
                refine dc_cons (r := ⟨_, some [906], [_]⟩) (DStep.plain rfl (fun H1 hH => by exact (by exact x_store1 rfl Tryz.sizeOf9 rfl rfl rfl ((hH _ rfl).trans rfl) rfl rfl (Nat.le_of_ble_eq_true rfl) rfl rfl))) rfl ?_
                refine dc_cons (r := ⟨_, some [906], []⟩) (DStep.plain rfl (fun H1 hH => by exact (by exact opd_field_ref rfl fo43_2 rfl ((hH _ rfl).trans rfl) rfl rfl))) rfl ?_
                refine dc_cons (r := ⟨_, some [906], [_]⟩) (DStep.plain rfl (fun H1 hH => by exact (by exact x_store1 rfl Tryz.sizeOf4 rfl rfl rfl ((hH _ rfl).trans rfl) rfl rfl (Nat.le_of_ble_eq_true rfl) rfl rfl))) rfl ?_
                refine dc_cons (r := ⟨_, some [906], []⟩) (DStep.plain rfl (fun H1 hH => by exact (by exact opd_field_ref rfl fo43_4 rfl ((hH _ rfl).trans rfl) rfl rfl))) rfl ?_
                refine dc_cons (r := ⟨_, some [906], [_]⟩) (DStep.plain rfl (fun H1 hH => by exact (by exact x_store rfl Tryz.sizeOf30 rfl rfl rfl rfl ((hH _ rfl).trans rfl) rfl rfl (Nat.le_of_ble_eq_true rfl) rfl rfl))) rfl ?_
                refine dc_cons (r := ⟨_, some [], []⟩) (DStep.plain rfl (fun H1 hH => by exact opd_assign rfl rfl)) rfl ?_
                refine dc_nil ⟨by kernel_rfl, ?_⟩
                refine awp_seq ?_
                -- before the slot
                refine AWp.ent (E' := [(0, fv), (1, .ref 902 0 0 0), (2, .ref 903 0 0 0), (4, .pv (slObjs x)), (5, .pv (slObjs y)), (6, .ref 906 0 0 0)]) (H' := (906, bx 15 43 ((encDelta ⟨q.id, true, true, p, q⟩).map .pv)) :: Hs k) (Ent.get' ⟨⟨_, rfl, rfl⟩, ⟨_, rfl, rfl⟩, ⟨_, rfl, rfl⟩, ⟨_, rfl, rfl⟩, ⟨_, rfl, rfl⟩, ⟨_, rfl, rfl⟩, trivial⟩ (fun j => get_dups [_, _, _, _, _, _] (by simp) j)) ?_
                refine awp_region ?_
                refine al_d rfl rfl rfl (by exact opd_move rfl rfl) ?_
                refine al_d rfl rfl rfl (by exact (by exact opd_loadn_ref rfl Tryz.isAgg43 Tryz.sizeOf43 rfl rfl rfl rfl rfl rfl)) ?_
                refine al_d rfl rfl rfl (by exact opr_callV rfl rfl rfl (hy k _ hk1)) ?_
                refine al_d rfl rfl rfl (by exact opd_not rfl rfl) ?_
                refine al_nil ?_
                refine awp_cond rfl (fun hc10 => ?_) (fun hc10 => ?_)
                -- cond 10
                · skip
                  cases hc10
                · skip
                  refine awp_skip ?_
                  -- end of a round
                  exact ⟨x, y, k + 1, ⟨n, by simp at hn ⊢; omega, hk2, by simp at hle ⊢; omega, (List.getElem?_eq_some_iff.1 hk1).1⟩, by simp; omega, hfree _ _ _ _ .any .any _ _ rfl rfl rfl rfl rfl rfl⟩
              · skip
                exact absurd hc9 (by simp [hpq])
            · skip
              exact absurd hc8 (by simp [hpq])
          · cases hlt : slt p.id q.id with
            | true =>
              rw [pair_bl hpq hlt] at hinv
              obtain ⟨hk1, hk2⟩ := head_of hinv
              have kx : decide ((0 : Int) < (((p :: x).map encObj).length : Int)) = true := decide_eq_true (by simp)
              have ky : decide ((((q :: y).map encObj).length : Int) = 0) = false := decide_eq_false (by simp; omega)
              have ky1 : decide ((0 : Int) < (((q :: y).map encObj).length : Int)) = true := decide_eq_true (by simp)
              have kl : (!slt q.id p.id) = true := by rw [slt_asy hlt]; rfl
              have ke : decide (q.id = p.id) = false := decide_eq_false (fun e => hpq e.symm)
              refine awp_skip ?_
              refine awp_block ?_
              refine awp_seq ?_
              refine awp_region ?_
              refine al_d rfl rfl rfl (by exact x_alloc (id := 906) rfl zo43 rfl (h6 k)) ?_
              refine al_nil ?_
              refine awp_seq ?_
              refine awp_seq ?_
              refine awp_drawc follows ?_
              refine dc_cons (DStep.q rfl (by exact opd_move rfl rfl)) rfl ?_
              refine dc_cons (DStep.q rfl (by exact (by exact opd_len_sl rfl Tryz.underlying22 rfl))) rfl ?_
              refine dc_cons (DStep.q rfl (by exact opd_eql rfl rfl rfl)) rfl ?_
              refine dc_cons (DStep.q rfl (by exact opd_move rfl rfl)) rfl ?_
              refine dc_cons (q_on_f rfl rfl rfl (by rfl) (by exact opd_move rfl rfl)) rfl ?_
              refine dc_cons (q_on_f rfl rfl rfl (by rfl) (by exact (by exact opd_len_sl rfl Tryz.underlying22 rfl))) rfl ?_
              refine dc_cons (q_on_f rfl rfl rfl (by rfl) (by exact opd_gtr rfl rfl rfl)) rfl ?_
              refine dc_cons (q_on_f rfl rfl rfl (by rfl) (by exact opd_move rfl rfl)) rfl ?_
              refine dc_cons (q_on_t rfl rfl rfl (by assumption) (by exact opd_move rfl rfl)) rfl ?_
              refine dc_cons (q_on_t rfl rfl rfl (by assumption) (by exact x_index_pad rfl so22 rfl rfl (by simp) (show (0 : Int).toNat = 0 by rfl) (rfl : (((p :: x)).map encObj)[0]? = some (encObj p)) rfl)) rfl ?_
              refine dc_cons (q_on_t rfl rfl rfl (by assumption) (by exact (by exact opd_field_pad rfl fo30_0 rfl rfl))) rfl ?_
              refine dc_cons (q_on_t rfl rfl rfl (by assumption) (by exact (by exact opd_load1_pad rfl Tryz.isAgg9 rfl rfl rfl))) rfl ?_
              refine dc_cons (q_on_t rfl rfl rfl (by assumption) (by exact opd_move rfl rfl)) rfl ?_
              refine dc_cons (q_on_t rfl rfl rfl (by assumption) (by exact x_index_pad rfl so22 rfl rfl (by simp) (show (0 : Int).toNat = 0 by rfl) (rfl : (((q :: y)).map encObj)[0]? = some (encObj q)) rfl)) rfl ?_
              refine dc_cons (q_on_t rfl rfl rfl (by assumption) (by exact (by exact opd_field_pad rfl fo30_0 rfl rfl))) rfl ?_
              refine dc_cons (q_on_t rfl rfl rfl (by assumption) (by exact (by exact opd_load1_pad rfl Tryz.isAgg9 rfl rfl rfl))) rfl ?_
              refine dc_cons (q_on_t rfl rfl rfl (by assumption) (by exact opd_sleq rfl rfl rfl)) rfl ?_
              refine dc_cons (q_on_f rfl rfl rfl (by rfl) (by exact (by exact opd_pickt rfl rfl (by assumption) rfl))) rfl ?_
              refine dc_cons (DStep.q rfl (by exact (by exact opd_pick_f rfl rfl rfl))) rfl ?_
              refine dc_nil ⟨by kernel_rfl, ?_⟩
              refine awp_cond rfl (fun hc11 => ?_) (fun hc11 => ?_)
              -- cond 11
              · skip
                refine awp_drawc follows ?_
                refine dc_cons (r := ⟨_, some [], []⟩) (DStep.plain rfl (fun H1 hH => by exact opd_move rfl rfl)) rfl ?_
                refine dc_cons (r := ⟨_, some [], []⟩) (DStep.plain rfl (fun H1 hH => by exact x_index_pad rfl so22 rfl rfl (by simp) (show (0 : Int).toNat = 0 by rfl) (rfl : (((p :: x)).map encObj)[0]? = some (encObj p)) rfl)) rfl ?_
                refine dc_cons (r := ⟨_, some [], []⟩) (DStep.plain rfl (fun H1 hH => by exact (by exact opd_field_pad rfl fo30_0 rfl rfl))) rfl ?_
                refine dc_cons (r := ⟨_, some [], []⟩) (DStep.plain rfl (fun H1 hH => by exact (by exact opd_load1_pad rfl Tryz.isAgg9 rfl rfl rfl))) rfl ?_
                refine dc_cons (r := ⟨_, some [], []⟩) (DStep.plain rfl (fun H1 hH => by exact opd_move rfl rfl)) rfl ?_
                refine dc_cons (r := ⟨_, some [], []⟩) (DStep.plain rfl (fun H1 hH => by exact x_index_pad rfl so22 rfl rfl (by simp) (show (0 : Int).toNat = 0 by rfl) (rfl : (((p :: x)).map encObj)[0]? = some (encObj p)) rfl)) rfl ?_
                refine dc_cons (r := ⟨_, some [], []⟩) (DStep.plain rfl (fun H1 hH => by exact (by exact opd_loadn_pad rfl Tryz.isAgg30 Tryz.sizeOf30 rfl rfl (by simp only [List.drop_succ_cons, List.drop_zero, List.take_succ_cons, List.take_zero, List.take_nil, List.map_cons, List.map_nil, List.set_cons_zero, List.set_cons_succ, List.cons_append, List.nil_append, encTag, encObj, encStr, encEdit, encInt, encDelta]; rfl) rfl))) rfl ?_
                refine dc_cons (r := ⟨_, some [], []⟩) (DStep.plain rfl (fun H1 hH => by exact opd_move rfl rfl)) rfl ?_
                refine dc_cons (r := ⟨_, some [], []⟩) (DStep.plain rfl (fun H1 hH => by exact x_slice_sl (l := 1) (h := (((p :: x)).map encObj).length) (rows' := x.map encObj) rfl so22 rfl (encObj_rl _) rfl rfl (by simp) (Nat.le_refl _) (by rw [List.take_length]; rfl))) rfl ?_
                refine dc_cons (r := ⟨_, some [906], []⟩) (DStep.plain rfl (fun H1 hH => by exact (by exact opd_field_ref rfl fo43_0 rfl ((hH _ rfl).trans rfl) rfl rfl))) rfl ?_
                refine dc_cons (r := ⟨_, some [906], [_]⟩) (DStep.plain rfl (fun H1 hH => by exact (by exact x_store1 rfl Tryz.sizeOf9 rfl rfl rfl ((hH _ rfl).trans rfl) rfl rfl (by simp only [List.length_cons, List.length_nil]; omega) (by simp only [List.drop_succ_cons, List.drop_zero, List.take_succ_cons, List.take_zero, List.take_nil, List.map_cons, List.map_nil, List.set_cons_zero, List.set_cons_succ, List.cons_append, List.nil_append, encTag, encObj, encStr, encEdit, encInt, encDelta]; rfl) (by simp only [List.drop_succ_cons, List.drop_zero, List.take_succ_cons, List.take_zero, List.take_nil, List.map_cons, List.map_nil, List.set_cons_zero, List.set_cons_succ, List.cons_append, List.nil_append, encTag, encObj, encStr, encEdit, encInt, encDelta]; rfl)))) rfl ?_
                refine dc_cons (r := ⟨_, some [906], []⟩) (DStep.plain rfl (fun H1 hH => by exact (by exact opd_field_ref rfl fo43_1 rfl ((hH _ rfl).trans rfl) rfl rfl))) rfl ?_
                refine dc_cons (r := ⟨_, some [906], [_]⟩) (DStep.plain rfl (fun H1 hH => by exact (by exact x_store1 rfl Tryz.sizeOf4 rfl rfl rfl ((hH _ rfl).trans rfl) rfl rfl (Nat.le_of_ble_eq_true rfl) rfl rfl))) rfl ?_
                refine dc_cons (r := ⟨_, some [906], []⟩) (DStep.plain rfl (fun H1 hH => by exact (by exact opd_field_ref rfl fo43_3 rfl ((hH _ rfl).trans rfl) rfl rfl))) rfl ?_
                refine dc_cons (r := ⟨_, some [906], [_]⟩) (DStep.plain rfl (fun H1 hH => by exact (by exact x_store rfl Tryz.sizeOf30 rfl rfl rfl rfl ((hH _ rfl).trans rfl) rfl rfl (Nat.le_of_ble_eq_true rfl) rfl rfl))) rfl ?_
                refine dc_cons (r := ⟨_, some [], []⟩) (DStep.plain rfl (fun H1 hH => by exact opd_assign rfl rfl)) rfl ?_
                refine dc_nil ⟨by kernel_rfl, ?_⟩
                refine awp_seq ?_
                refine awp_seq ?_
                refine awp_drawc follows ?_
                refine dc_cons (DStep.q rfl (by exact opd_move rfl rfl)) rfl ?_
                refine dc_cons (DStep.q rfl (by exact (by exact opd_len_sl rfl Tryz.underlying22 rfl))) rfl ?_
                refine dc_cons (DStep.q rfl (by exact opd_gtr rfl rfl rfl)) rfl ?_
                refine dc_cons (DStep.q rfl (by exact opd_move rfl rfl)) rfl ?_
                refine dc_cons (q_on_t rfl rfl rfl (by assumption) (by exact (by exact opd_field_ref rfl fo43_1 rfl rfl rfl rfl))) rfl ?_
                refine dc_cons (q_on_t rfl rfl rfl (by assumption) (by exact (by exact opd_load1_ref rfl Tryz.isAgg4 rfl rfl rfl rfl rfl))) rfl ?_
                refine dc_cons (q_on_t rfl rfl rfl (by assumption) (by exact opd_not rfl rfl)) rfl ?_
                refine dc_cons (q_on_t rfl rfl rfl (by assumption) (by exact opd_move rfl rfl)) rfl ?_
                refine dc_cons (q_on_f rfl rfl rfl (by rfl) (by exact opd_move rfl rfl)) rfl ?_
                refine dc_cons (q_on_f rfl rfl rfl (by rfl) (by exact x_index_pad rfl so22 rfl rfl (by simp) (show (0 : Int).toNat = 0 by rfl) (rfl : (((q :: y)).map encObj)[0]? = some (encObj q)) rfl)) rfl ?_
                refine dc_cons (q_on_f rfl rfl rfl (by rfl) (by exact (by exact opd_field_pad rfl fo30_0 rfl rfl))) rfl ?_
                refine dc_cons (q_on_f rfl rfl rfl (by rfl) (by exact (by exact opd_load1_pad rfl Tryz.isAgg9 rfl rfl rfl))) rfl ?_
                refine dc_cons (q_on_f rfl rfl rfl (by rfl) (by exact (by exact opd_field_ref rfl fo43_0 rfl rfl rfl rfl))) rfl ?_
                refine dc_cons (q_on_f rfl rfl rfl (by rfl) (by exact (by exact opd_load1_ref rfl Tryz.isAgg9 rfl rfl rfl rfl rfl))) rfl ?_
                refine dc_cons (q_on_f rfl rfl rfl (by rfl) (by exact opd_seql rfl rfl rfl)) rfl ?_
                refine dc_cons (q_on_t rfl rfl rfl (by assumption) (by exact (by exact opd_pick_f rfl rfl rfl))) rfl ?_
                refine dc_cons (DStep.q rfl (by exact (by exact opd_pickt rfl rfl (by assumption) rfl))) rfl ?_
                refine dc_nil ⟨by kernel_rfl, ?_⟩
                refine awp_cond rfl (fun hc12 => ?_) (fun hc12 => ?_)
                -- cond 12
                · skip
                  exact absurd hc12 (by simp [hpq, hlt, Ne.symm hpq])
                · skip
                  refine awp_skip ?_
                  refine awp_seq ?_
                  -- before the slot
                  refine AWp.ent (E' := [(0, fv), (1, .ref 902 0 0 0), (2, .ref 903 0 0 0), (4, .pv (slObjs x)), (5, .pv (slObjs (q :: y))), (6, .ref 906 0 0 0)]) (H' := (906, bx 15 43 ((encDelta ⟨p.id, true, false, p, zObj⟩).map .pv)) :: Hs k) (Ent.get' ⟨⟨_, rfl, rfl⟩, ⟨_, rfl, rfl⟩, ⟨_, rfl, rfl⟩, ⟨_, rfl, rfl⟩, ⟨_, rfl, rfl⟩, ⟨_, rfl, rfl⟩, trivial⟩ (fun j => get_dups [_, _, _] (by simp) j)) ?_
                  refine awp_region ?_
                  refine al_d rfl rfl rfl (by exact opd_move rfl rfl) ?_
                  refine al_d rfl rfl rfl (by exact (by exact opd_loadn_ref rfl Tryz.isAgg43 Tryz.sizeOf43 rfl rfl rfl rfl rfl rfl)) ?_
                  refine al_d rfl rfl rfl (by exact opr_callV rfl rfl rfl (hy k _ hk1)) ?_
                  refine al_d rfl rfl rfl (by exact opd_not rfl rfl) ?_
                  refine al_nil ?_
                  refine awp_cond rfl (fun hc13 => ?_) (fun hc13 => ?_)
                  -- cond 13
                  · skip
                    cases hc13
                  · skip
                    refine awp_skip ?_
                    -- end of a round
                    exact ⟨x, (q :: y), k + 1, ⟨n, by simp at hn ⊢; omega, hk2, by simp at hle ⊢; omega, (List.getElem?_eq_some_iff.1 hk1).1⟩, by simp, hfree _ _ _ _ .any .any _ _ rfl rfl rfl rfl rfl rfl⟩
              · skip
                exact absurd hc11 (by simp [hpq, hlt, Ne.symm hpq])
            | false =>
              rw [pair_br hpq hlt] at hinv
              obtain ⟨hk1, hk2⟩ := head_of hinv
              have kx : decide ((0 : Int) < (((p :: x).map encObj).length : Int)) = true := decide_eq_true (by simp)
              have ky : decide ((((q :: y).map encObj).length : Int) = 0) = false := decide_eq_false (by simp; omega)
              have ky1 : decide ((0 : Int) < (((q :: y).map encObj).length : Int)) = true := decide_eq_true (by simp)
              have kl : (!slt q.id p.id) = false := by rw [slt_of hpq hlt]; rfl
              refine awp_skip ?_
              refine awp_block ?_
              refine awp_seq ?_
              refine awp_region ?_
              refine al_d rfl rfl rfl (by exact x_alloc (id := 906) rfl zo43 rfl (h6 k)) ?_
              refine al_nil ?_
              refine awp_seq ?_
              refine awp_seq ?_
              refine awp_drawc follows ?_
              refine dc_cons (DStep.q rfl (by exact opd_move rfl rfl)) rfl ?_
              refine dc_cons (DStep.q rfl (by exact (by exact opd_len_sl rfl Tryz.underlying22 rfl))) rfl ?_
              refine dc_cons (DStep.q rfl (by exact opd_eql rfl rfl rfl)) rfl ?_
              refine dc_cons (DStep.q rfl (by exact opd_move rfl rfl)) rfl ?_
              refine dc_cons (q_on_f rfl rfl rfl (by rfl) (by exact opd_move rfl rfl)) rfl ?_
              refine dc_cons (q_on_f rfl rfl rfl (by rfl) (by exact (by exact opd_len_sl rfl Tryz.underlying22 rfl))) rfl ?_
              refine dc_cons (q_on_f rfl rfl rfl (by rfl) (by exact opd_gtr rfl rfl rfl)) rfl ?_
              refine dc_cons (q_on_f rfl rfl rfl (by rfl) (by exact opd_move rfl rfl)) rfl ?_
              refine dc_cons (q_on_t rfl rfl rfl (by assumption) (by exact opd_move rfl rfl)) rfl ?_
              refine dc_cons (q_on_t rfl rfl rfl (by assumption) (by exact x_index_pad rfl so22 rfl rfl (by simp) (show (0 : Int).toNat = 0 by rfl) (rfl : (((p :: x)).map encObj)[0]? = some (encObj p)) rfl)) rfl ?_
              refine dc_cons (q_on_t rfl rfl rfl (by assumption) (by exact (by exact opd_field_pad rfl fo30_0 rfl rfl))) rfl ?_
              refine dc_cons (q_on_t rfl rfl rfl (by assumption) (by exact (by exact opd_load1_pad rfl Tryz.isAgg9 rfl rfl rfl))) rfl ?_
              refine dc_cons (q_on_t rfl rfl rfl (by assumption) (by exact opd_move rfl rfl)) rfl ?_
              refine dc_cons (q_on_t rfl rfl rfl (by assumption) (by exact x_index_pad rfl so22 rfl rfl (by simp) (show (0 : Int).toNat = 0 by rfl) (rfl : (((q :: y)).map encObj)[0]? = some (encObj q)) rfl)) rfl ?_
              refine dc_cons (q_on_t rfl rfl rfl (by assumption) (by exact (by exact opd_field_pad rfl fo30_0 rfl rfl))) rfl ?_
              refine dc_cons (q_on_t rfl rfl rfl (by assumption) (by exact (by exact opd_load1_pad rfl Tryz.isAgg9 rfl rfl rfl))) rfl ?_
              refine dc_cons (q_on_t rfl rfl rfl (by assumption) (by exact opd_sleq rfl rfl rfl)) rfl ?_
              refine dc_cons (q_on_f rfl rfl rfl (by rfl) (by exact (by exact opd_pickt rfl rfl (by assumption) rfl))) rfl ?_
              refine dc_cons (DStep.q rfl (by exact (by exact opd_pick_f rfl rfl rfl))) rfl ?_
              refine dc_nil ⟨by kernel_rfl, ?_⟩
              refine awp_cond rfl (fun hc14 => ?_) (fun hc14 => ?_)
              -- cond 14
              · skip
                exact absurd hc14 (by simp [hpq, hlt, Ne.symm hpq])
              · skip
                refine awp_skip ?_
                refine awp_seq ?_
                refine awp_seq ?_
                refine awp_drawc follows ?_
                refine dc_cons (DStep.q rfl (by exact opd_move rfl rfl)) rfl ?_
                refine dc_cons (DStep.q rfl (by exact (by exact opd_len_sl rfl Tryz.underlying22 rfl))) rfl ?_
                refine dc_cons (DStep.q rfl (by exact opd_gtr rfl rfl rfl)) rfl ?_
                refine dc_cons (DStep.q rfl (by exact opd_move rfl rfl)) rfl ?_
                refine dc_cons (q_on_t rfl rfl rfl (by assumption) (by exact (by exact opd_field_ref rfl fo43_1 rfl rfl rfl rfl))) rfl ?_
                refine dc_cons (q_on_t rfl rfl rfl (by assumption) (by exact (by exact opd_load1_ref rfl Tryz.isAgg4 rfl rfl rfl rfl rfl))) rfl ?_
                refine dc_cons (q_on_t rfl rfl rfl (by assumption) (by exact opd_not rfl rfl)) rfl ?_
                refine dc_cons (q_on_t rfl rfl rfl (by assumption) (by exact opd_move rfl rfl)) rfl ?_
                refine dc_cons (q_off_f rfl rfl rfl (by rfl)) rfl ?_
                refine dc_cons (q_off_f rfl rfl rfl (by rfl)) rfl ?_
                refine dc_cons (q_off_f rfl rfl rfl (by rfl)) rfl ?_
                refine dc_cons (q_off_f rfl rfl rfl (by rfl)) rfl ?_
                refine dc_cons (q_off_f rfl rfl rfl (by rfl)) rfl ?_
                refine dc_cons (q_off_f rfl rfl rfl (by rfl)) rfl ?_
                refine dc_cons (q_off_f rfl rfl rfl (by rfl)) rfl ?_
                refine dc_cons (q_on_t rfl rfl rfl (by assumption) (by exact (by exact opd_pick_t rfl rfl rfl))) rfl ?_
                refine dc_cons (DStep.q rfl (by exact (by exact opd_pickt rfl rfl (by assumption) rfl))) rfl ?_
                refine dc_nil ⟨by kernel_rfl, ?_⟩
                refine awp_cond rfl (fun hc15 => ?_) (fun hc15 => ?_)
                -- cond 15
                · skip
                  refine awp_drawc follows ?_
                  refine dc_cons (r := ⟨_, some [], []⟩) (DStep.plain rfl (fun H1 hH => by exact opd_move rfl rfl)) rfl ?_
                  refine dc_cons (r := ⟨_, some [], []⟩) (DStep.plain rfl (fun H1 hH => by exact x_index_pad rfl so22 rfl rfl (by simp) (show (0 : Int).toNat = 0 by rfl) (rfl : (((q :: y)).map encObj)[0]? = some (encObj q)) rfl)) rfl ?_
                  refine dc_cons (r := ⟨_, some [], []⟩) (DStep.plain rfl (fun H1 hH => by exact (by exact opd_field_pad rfl fo30_0 rfl rfl))) rfl ?_
                  refine dc_cons (r := ⟨_, some [], []⟩) (DStep.plain rfl (fun H1 hH => by exact (by exact opd_load1_pad rfl Tryz.isAgg9 rfl rfl rfl))) rfl ?_
                  refine dc_cons (r := ⟨_, some [], []⟩) (DStep.plain rfl (fun H1 hH => by exact opd_move rfl rfl)) rfl ?_
                  refine dc_cons (r := ⟨_, some [], []⟩) (DStep.plain rfl (fun H1 hH => by exact x_index_pad rfl so22 rfl rfl (by simp) (show (0 : Int).toNat = 0 by rfl) (rfl : (((q :: y)).map encObj)[0]? = some (encObj q)) rfl)) rfl ?_
                  refine dc_cons (r := ⟨_, some [], []⟩) (DStep.plain rfl (fun H1 hH => by exact (by exact opd_loadn_pad rfl Tryz.isAgg30 Tryz.sizeOf30 rfl rfl (by simp only [List.drop_succ_cons, List.drop_zero, List.take_succ_cons, List.take_zero, List.take_nil, List.map_cons, List.map_nil, List.set_cons_zero, List.set_cons_succ, List.cons_append, List.nil_append, encTag, encObj, encStr, encEdit, encInt, encDelta]; rfl) rfl))) rfl ?_
                  refine dc_cons (r := ⟨_, some [], []⟩) (DStep.plain rfl (fun H1 hH => by exact opd_move rfl rfl)) rfl ?_
                  refine dc_cons (r := ⟨_, some [], []⟩) (DStep.plain rfl (fun H1 hH => by exact x_slice_sl (l := 1) (h := (((q :: y)).map encObj).length) (rows' := y.map encObj) rfl so22 rfl (encObj_rl _) rfl rfl (by simp) (Nat.le_refl _) (by rw [List.take_length]; rfl))) rfl ?_
                  refine dc_cons (r := ⟨_, some [906], []⟩) (DStep.plain rfl (fun H1 hH => by exact (by exact opd_field_ref rfl fo43_0 rfl ((hH _ rfl).trans rfl) rfl rfl))) rfl ?_
                  refine dc_cons (r := ⟨_, some [906], [_]⟩) (DStep.plain rfl (fun H1 hH => by exact (by exact x_store1 rfl Tryz.sizeOf9 rfl rfl rfl ((hH _ rfl).trans rfl) rfl rfl (by simp only [List.length_cons, List.length_nil]; omega) (by simp only [List.drop_succ_cons, List.drop_zero, List.take_succ_cons, List.take_zero, List.take_nil, List.map_cons, List.map_nil, List.set_cons_zero, List.set_cons_succ, List.cons_append, List.nil_append, encTag, encObj, encStr, encEdit, encInt, encDelta]; rfl) (by simp only [List.drop_succ_cons, List.drop_zero, List.take_succ_cons, List.take_zero, List.take_nil, List.map_cons, List.map_nil, List.set_cons_zero, List.set_cons_succ, List.cons_append, List.nil_append, encTag, encObj, encStr, encEdit, encInt, encDelta]; rfl)))) rfl ?_
                  refine dc_cons (r := ⟨_, some [906], []⟩) (DStep.plain rfl (fun H1 hH => by exact (by exact opd_field_ref rfl fo43_2 rfl ((hH _ rfl).trans rfl) rfl rfl))) rfl ?_
                  refine dc_cons (r := ⟨_, some [906], [_]⟩) (DStep.plain rfl (fun H1 hH => by exact (by exact x_store1 rfl Tryz.sizeOf4 rfl rfl rfl ((hH _ rfl).trans rfl) rfl rfl (Nat.le_of_ble_eq_true rfl) rfl rfl))) rfl ?_
                  refine dc_cons (r := ⟨_, some [906], []⟩) (DStep.plain rfl (fun H1 hH => by exact (by exact opd_field_ref rfl fo43_4 rfl ((hH _ rfl).trans rfl) rfl rfl))) rfl ?_
                  refine dc_cons (r := ⟨_, some [906], [_]⟩) (DStep.plain rfl (fun H1 hH => by exact (by exact x_store rfl Tryz.sizeOf30 rfl rfl rfl rfl ((hH _ rfl).trans rfl) rfl rfl (Nat.le_of_ble_eq_true rfl) rfl rfl))) rfl ?_
                  refine dc_cons (r := ⟨_, some [], []⟩) (DStep.plain rfl (fun H1 hH => by exact opd_assign rfl rfl)) rfl ?_
                  refine dc_nil ⟨by kernel_rfl, ?_⟩
                  refine awp_seq ?_
                  -- before the slot
                  refine AWp.ent (E' := [(0, fv), (1, .ref 902 0 0 0), (2, .ref 903 0 0 0), (4, .pv (slObjs (p :: x))), (5, .pv (slObjs y)), (6, .ref 906 0 0 0)]) (H' := (906, bx 15 43 ((encDelta ⟨q.id, false, true, zObj, q⟩).map .pv)) :: Hs k) (Ent.get' ⟨⟨_, rfl, rfl⟩, ⟨_, rfl, rfl⟩, ⟨_, rfl, rfl⟩, ⟨_, rfl, rfl⟩, ⟨_, rfl, rfl⟩, ⟨_, rfl, rfl⟩, trivial⟩ (fun j => get_dups [_, _, _] (by simp) j)) ?_
                  refine awp_region ?_
                  refine al_d rfl rfl rfl (by exact opd_move rfl rfl) ?_
                  refine al_d rfl rfl rfl (by exact (by exact opd_loadn_ref rfl Tryz.isAgg43 Tryz.sizeOf43 rfl rfl rfl rfl rfl rfl)) ?_
                  refine al_d rfl rfl rfl (by exact opr_callV rfl rfl rfl (hy k _ hk1)) ?_
                  refine al_d rfl rfl rfl (by exact opd_not rfl rfl) ?_
                  refine al_nil ?_
                  refine awp_cond rfl (fun hc16 => ?_) (fun hc16 => ?_)
                  -- cond 16
                  · skip
                    cases hc16
                  · skip
                    refine awp_skip ?_
                    -- end of a round
                    exact ⟨(p :: x), y, k + 1, ⟨n, by simp at hn ⊢; omega, hk2, by simp at hle ⊢; omega, (List.getElem?_eq_some_iff.1 hk1).1⟩, by simp, hfree _ _ _ _ .any .any _ _ rfl rfl rfl rfl rfl rfl⟩
                · skip
                  exact absurd hc15 (by simp [hpq, hlt, Ne.symm hpq])
    · have hz : x.length + y.length = 0 := by
        have h := of_decide_eq_false hc1
        rw [hxl, hyl] at h
        omega
      have hx0 : x = [] := List.eq_nil_of_length_eq_zero (by omega)
      have hy0 : y = [] := List.eq_nil_of_length_eq_zero (by omega)
      rw [hx0, hy0, hnil] at hinv
      have hkl : ds.length ≤ k := by simpa using hinv
      refine awp_exit ?_
      -- end of the body
      have hkk : k = ds.length := Nat.le_antisymm hkd hkl
      exact aret0 (.inl rfl) rfl Fin.refl ⟨rfl, by rw [hkk]⟩
end Go.Proofs.YtedfihgkopejcaaGreat
end
section
set_option linter.unusedVariables false
set_option linter.unusedSimpArgs false
namespace Go.Abs
theorem ACalls.congrG {P : Program} {f : FuncId} {args : List AV} {H H1 K K1 : Heap} {r0 : AV} (h : ACalls P f args H1 (fun r X => r = r0 ∧ X = K1)) (he : ∀ j, H1.get j = H.get j) (hk : ∀ j, K.get j = K1.get j) : ACalls P f args H (fun r X => r = r0 ∧ X = K) := by
  intro I ι w vs hr hl hv
  obtain ⟨p1, p2⟩ := hr.congr he
  refine (h I ι w vs p1 hl (fun i v a h1 h2 => (hv i v a h1 h2).mono hr p2)).mono ?_
  rintro e w' ⟨r, H', I', ι', v, rfl, ⟨rfl, rfl⟩, k1, k2, k3⟩
  obtain ⟨q1, q2⟩ := k2.congr hk
  exact ⟨r, K, I', ι', v, rfl, ⟨rfl, rfl⟩, k1.mono k2 q2, q1, (p2.trans k3).trans q2⟩
theorem YCalls.congrG {P : Program} {id g : Nat} {args : List AV} {H H1 K K1 : Heap} {r0 : AV} (h : YCalls P id g args H1 (fun r X => r = r0 ∧ X = K1)) (he : ∀ j, H1.get j = H.get j) (hk : ∀ j, K.get j = K1.get j) : YCalls P id g args H (fun r X => r = r0 ∧ X = K) := by
  intro I ι w vs v hr hvy hl hv
  obtain ⟨p1, p2⟩ := hr.congr he
  obtain ⟨l, f, tmps, assign, body, e1, e2, e3⟩ := h I ι w vs v p1 (hvy.mono hr p2) hl (fun i v a h1 h2 => (hv i v a h1 h2).mono hr p2)
  refine ⟨l, f, tmps, assign, body, e1, e2, e3.mono ?_⟩
  rintro e w' ⟨r, H', I', ι', v, rfl, ⟨rfl, rfl⟩, k1, k2, k3⟩
  obtain ⟨q1, q2⟩ := k2.congr hk
  exact ⟨r, K, I', ι', v, rfl, ⟨rfl, rfl⟩, k1.mono k2 q2, q1, (p2.trans k3).trans q2⟩
theorem CallsV.congrG {P : Program} {fv : AV} {args : List AV} {H H1 K K1 : Heap} {r0 : AV} (h : CallsV P fv args H1 (fun r X => r = r0 ∧ X = K1)) (he : ∀ j, H1.get j = H.get j) (hk : ∀ j, K.get j = K1.get j) : CallsV P fv args H (fun r X => r = r0 ∧ X = K) := by
  rcases h with ⟨id, g, e, h⟩ | ⟨F, caps, e, hc, h⟩
  · exact .inl ⟨id, g, e, h.congrG he hk⟩
  · exact .inr ⟨F, caps, e, hc, h.congrG he hk⟩
/-- Two objects in front change places. -/
theorem get_swap {i j : Nat} {a b : Ob} {K : Heap} (h : i ≠ j) (k : Nat) : Heap.get ((i, a) :: (j, b) :: K) k = Heap.get ((j, b) :: (i, a) :: K) k := by
  simp only [Heap.get]
  cases e1 : Nat.beq i k with
  | true =>
    have := Nat.eq_of_beq_eq_true e1
    subst this
    rw [beq_ne (Ne.symm h)]; rfl
  | false => cases e2 : Nat.beq j k <;> rfl
end Go.Abs
end
section
set_option linter.unusedVariables false
set_option linter.unusedSimpArgs false
set_option maxRecDepth 100000
set_option maxHeartbeats 1000000
namespace Go.Proofs.YtedfihgkopejcaaGreat
open Go.Abs

def dK (a b : List GObj) (L : List GDelta) : Heap := [(905, ⟨L.length, 15, 43, dlRows L⟩), (5, bx 1 39 [.osl 905 L.length 0 L.length]), (903, bx 1 24 [.pv (slObjs b)]), (902, bx 1 24 [.pv (slObjs a)])]
def dB (d : GDelta) : Ob := bx 15 43 ((encDelta d).map .pv)
theorem dB_clo (H : Heap) (d : GDelta) : ∀ r ∈ (dB d).rows, ∀ a ∈ r, Clo H a := by
  intro r hr a ha
  simp only [dB, bx, List.mem_singleton] at hr
  subst hr
  obtain ⟨p, _, rfl⟩ := List.mem_map.1 ha
  simp
theorem filter_take {α : Type} {p : α → Bool} {l : List α} {k : Nat} {d : α} (h : l[k]? = some d) : (l.take (k + 1)).filter p = (l.take k).filter p ++ (if p d then [d] else []) := by
  rw [List.take_add_one, h, List.filter_append]
  cases hp : p d <;> simp [hp]
theorem dlRows_app (L : List GDelta) (d : GDelta) : dlRows L ++ [(encDelta d).map AV.pv] = dlRows (L ++ [d]) := by rw [dlRows, dlRows, List.map_append]; rfl
theorem dK_app (a b : List GObj) (L : List GDelta) (d : GDelta) : dK a b (L ++ [d]) = [(905, ⟨L.length + 1, 15, 43, dlRows (L ++ [d])⟩), (5, bx 1 39 [.osl 905 (L.length + 1) 0 (L.length + 1)]), (903, bx 1 24 [.pv (slObjs b)]), (902, bx 1 24 [.pv (slObjs a)])] := by
  simp [dK]
theorem dl_len (L : List GDelta) : (dlRows L).length = L.length := List.length_map _
theorem pairs_len : ∀ (n : Nat) (a b : List GObj), (gPairs n a b).length ≤ n
  | 0, _, _ => Nat.le_refl _
  | n + 1, [], [] => Nat.zero_le _
  | n + 1, x :: a, [] => Nat.succ_le_succ (pairs_len n a [])
  | n + 1, [], y :: b => Nat.succ_le_succ (pairs_len n [] b)
  | n + 1, x :: a, y :: b => by
    rw [gPairs]
    split
    · exact Nat.succ_le_succ (pairs_len n a b)
    · split
      · exact Nat.succ_le_succ (pairs_len n a (y :: b))
      · exact Nat.succ_le_succ (pairs_len n (x :: a) b)
theorem pairs_old : ∀ (n : Nat) (a b : List GObj) (d : GDelta), d ∈ gPairs n a b → d.old ∈ a ∨ d.old = zObj
  | 0, _, _, d, h => by cases h
  | n + 1, [], [], d, h => by cases h
  | n + 1, x :: a, [], d, h => by
    rcases List.mem_cons.1 h with rfl | h
    · exact .inl List.mem_cons_self
    · exact (pairs_old n a [] d h).imp (List.mem_cons_of_mem _) id
  | n + 1, [], y :: b, d, h => by
    rcases List.mem_cons.1 h with rfl | h
    · exact .inr rfl
    · exact pairs_old n [] b d h
  | n + 1, x :: a, y :: b, d, h => by
    rw [gPairs] at h
    split at h
    · rcases List.mem_cons.1 h with rfl | h
      · exact .inl List.mem_cons_self
      · exact (pairs_old n a b d h).imp (List.mem_cons_of_mem _) id
    · split at h
      · rcases List.mem_cons.1 h with rfl | h
        · exact .inl List.mem_cons_self
        · exact (pairs_old n a (y :: b) d h).imp (List.mem_cons_of_mem _) id
      · rcases List.mem_cons.1 h with rfl | h
        · exact .inr rfl
        · exact pairs_old n (x :: a) b d h
theorem diff_c (a b : List GObj) (H : Heap) (ha : okM a) (hb : okM b) (hal : a.length + b.length < 68719476736) (haS : ∀ o, o ∈ a → okS o) : ACalls Tryz.prog 9 [.agg [.pv (slObjs a)], .agg [.pv (slObjs b)]] H (fun r H' => r = .pv (slDeltas (gDiff a b)) ∧ H' = H) := by
  refine ACalls.pure ?_ (by simp) H
  have hv := valids_c [a, b] [(3, bx 1 24 [.pv (slObjs b)]), (2, bx 1 24 [.pv (slObjs a)])] (by show 2 < _; omega) (fun m hm => by
    rcases List.mem_cons.1 hm with rfl | hm
    · exact ha
    · rw [List.mem_singleton] at hm; subst hm; exact hb)
  have hall : [a, b].all gMap = (gMap a && gMap b) := by simp
  rw [hall] at hv
  refine ACalls.body Tryz.func9 rfl Tryz.ntmps9 (Nat.le_of_ble_eq_true rfl) ?_
  refine awp_seq ?_
  refine awp_region ?_
  refine al_d rfl rfl rfl (by exact opd_box (id := 2) rfl rfl rfl rfl rfl) ?_
  refine al_d rfl rfl rfl (by exact opd_box (id := 3) rfl rfl rfl rfl rfl) ?_
  refine al_d rfl rfl rfl (by exact opd_assign rfl rfl) ?_
  refine al_nil ?_
  refine awp_seq ?_
  refine awp_seq ?_
  refine awp_region ?_
  refine al_d rfl rfl rfl (by exact (by exact opd_loadn_ref rfl Tryz.isAgg24 Tryz.sizeOf24 rfl rfl rfl rfl (by simp only [List.drop_succ_cons, List.drop_zero, List.take_succ_cons, List.take_zero, List.take_nil, List.map_cons, List.map_nil, List.set_cons_zero, List.set_cons_succ, List.cons_append, List.nil_append, encTag, encObj, encStr, encEdit, encInt, encDelta]; rfl) rfl)) ?_
  refine al_d rfl rfl rfl (by exact (by exact opd_loadn_ref rfl Tryz.isAgg24 Tryz.sizeOf24 rfl rfl rfl rfl (by simp only [List.drop_succ_cons, List.drop_zero, List.take_succ_cons, List.take_zero, List.take_nil, List.map_cons, List.map_nil, List.set_cons_zero, List.set_cons_succ, List.cons_append, List.nil_append, encTag, encObj, encStr, encEdit, encInt, encDelta]; rfl) rfl)) ?_
  refine al_d rfl rfl rfl (by exact (by exact x_buildSlice ([a, b].map encMap) rfl so103 rfl rfl rfl rfl rfl (by intro r hr; simp only [List.map_cons, List.map_nil, List.mem_cons, List.not_mem_nil, or_false] at hr; rcases hr with rfl | rfl <;> rfl))) ?_
  refine al_d rfl rfl rfl (by exact opr_call rfl rfl Tryz.call30 rfl (hv)) ?_
  refine al_d rfl rfl rfl (by exact opd_not rfl rfl) ?_
  refine al_nil ?_
  refine awp_cond rfl (fun hc1 => ?_) (fun hc1 => ?_)
  -- cond 1
  · have e : gDiff a b = [] := by rw [gDiff, if_neg (by rw [Bool.not_eq_true, ← Bool.not_eq_true']; exact hc1)]
    rw [e]
    refine awp_seq ?_
    refine awp_region ?_
    refine al_d rfl rfl rfl (by exact opd_assign rfl rfl) ?_
    refine al_nil ?_
    refine awp_ret ?_
    -- return
    refine aret1 (H' := []) (by exact .inr rfl) rfl (rval_tmp rfl) (Fin.wk (by simp) trivial trivial) ?_
    exact ⟨rfl, rfl⟩
  · have hg : (gMap a && gMap b) = true := by rw [← Bool.not_eq_false']; exact hc1
    have e : gDiff a b = (gPairs (a.length + b.length) a b).filter dDiff := by rw [gDiff, if_pos hg]
    rw [e]
    obtain ⟨ds, hds⟩ : ∃ ds, ds = gPairs (a.length + b.length) a b := ⟨_, rfl⟩
    rw [← hds]
    refine awp_skip ?_
    refine awp_seq ?_
    refine awp_region ?_
    refine al_d rfl rfl rfl (by exact x_alloc (id := 5) rfl zoN39 rfl rfl) ?_
    refine al_nil ?_
    refine awp_seq ?_
    refine awp_seq ?_
    refine awp_region ?_
    refine al_d rfl rfl rfl (by exact (by exact opd_loadn_ref rfl Tryz.isAgg24 Tryz.sizeOf24 rfl rfl rfl rfl (by simp only [List.drop_succ_cons, List.drop_zero, List.take_succ_cons, List.take_zero, List.take_nil, List.map_cons, List.map_nil, List.set_cons_zero, List.set_cons_succ, List.cons_append, List.nil_append, encTag, encObj, encStr, encEdit, encInt, encDelta]; rfl) rfl)) ?_
    refine al_d rfl rfl rfl (by exact (by exact opd_loadn_ref rfl Tryz.isAgg24 Tryz.sizeOf24 rfl rfl rfl rfl (by simp only [List.drop_succ_cons, List.drop_zero, List.take_succ_cons, List.take_zero, List.take_nil, List.map_cons, List.map_nil, List.set_cons_zero, List.set_cons_succ, List.cons_append, List.nil_append, encTag, encObj, encStr, encEdit, encInt, encDelta]; rfl) rfl)) ?_
    refine al_d rfl rfl rfl (by exact opr_call rfl rfl Tryz.call31 rfl (pairs_c a b _ rfl rfl (Closed.ofL ⟨(by (simp; done)), (by (simp; done)), (by (simp; done)), trivial⟩))) ?_
    refine al_nil ?_
    refine awp_block ?_
    -- range
    refine AWp.ent (E' := [(5, .ref 5 0 0 0), (14, .clo 65 [.ref 902 0 0 0, .ref 903 0 0 0])]) (H' := [(905, ⟨0, 15, 43, []⟩), (5, bx 1 39 [.osl 905 0 0 0]), (903, bx 1 24 [.pv (slObjs b)]), (902, bx 1 24 [.pv (slObjs a)])]) ?_ ?_
    · exact (Ent.nz 905 15 43 rfl rfl ⟨⟨_, rfl, (by exact Nz.same (by (simp; rfl)))⟩, ⟨_, rfl, (by exact Nz.same (by (simp; exact ⟨rfl, rfl⟩)))⟩, trivial⟩ ⟨⟨_, rfl, rfl, rfl, rfl, (by exact .inr ⟨_, _, rfl, rfl, (by repeat (first | exact trivial | refine ⟨(by exact Nz.own), ?_⟩))⟩)⟩, ⟨_, rfl, rfl, rfl, rfl, (by exact .inl ⟨rfl, (by (simp; done))⟩)⟩, ⟨_, rfl, rfl, rfl, rfl, (by exact .inl ⟨rfl, (by (simp; done))⟩)⟩, trivial⟩ trivial)
    · refine awp_range (id := 904) (p := 15) [(5, .ref 5 0 0 0)] rfl Tryz.call65 rfl rfl (by simp; rfl) ?_
      intro x hx1 hx2 hx3 hx4 hx5 hx6
      refine (pairs1_c a b (.yld 904 0) (fun k => (904, LR x [(5, .ref 5 0 0 0)]) :: dK a b ((ds.take k).filter dDiff)) (by omega) (fun k => rfl) (fun k => rfl) (fun k => rfl) (fun k => (Closed.ofL ⟨(by (simp [LR]; rfl)), (by exact clo_map _ _ _), (by (simp; rfl)), (by (simp; done)), (by (simp; done)), trivial⟩)) (fun k => by simp; rfl) ?_).mono ?_
      · rw [← hds]
        intro k d hd
        refine CallsV.congrG (H1 := (904, LR x [(5, .ref 5 0 0 0)]) :: (906, dB d) :: dK a b ((ds.take k).filter dDiff)) (K1 := (904, LR x [(5, .ref 5 0 0 0)]) :: (906, dB d) :: dK a b ((ds.take (k + 1)).filter dDiff)) (.inl ⟨904, 0, rfl, ?_⟩) (fun j => get_swap (by decide) j) (fun j => get_swap (by decide) j)
        rw [filter_take hd]
        obtain ⟨L, hL⟩ : ∃ L, L = (ds.take k).filter dDiff := ⟨_, rfl⟩
        rw [← hL]
        have hdm : d ∈ ds := List.mem_of_getElem? hd
        have hLl : L.length < 68719476736 := by
          have h1 := List.length_filter_le dDiff (ds.take k)
          have h2 := List.length_take_le k ds
          have h3 := pairs_len (a.length + b.length) a b
          rw [← hds] at h3
          rw [← hL] at h1
          have h4 : (ds.take k).length ≤ ds.length := by rw [List.length_take]; exact Nat.min_le_right _ _
          omega
        have hold : okS d.old := by
          rw [hds] at hdm
          rcases pairs_old _ _ _ _ hdm with h | h
          · exact haS _ h
          · rw [h]; exact ⟨by decide, by decide⟩
        refine ycalls [(5, .ref 5 0 0 0), (6, .ref 907 0 0 0)] ((907, dB d) :: (906, dB d) :: dK a b L) hx1 hx2 hx3 hx4 hx5 hx6 rfl rfl rfl ?_ ?_
        · skip
          refine awp_region ?_
          refine al_d rfl rfl rfl (by exact x_alloc (id := 907) rfl zo43 rfl rfl) ?_
          refine al_n rfl rfl (by exact (by exact x_store_all rfl Tryz.sizeOf43 rfl rfl rfl rfl rfl rfl rfl rfl)) ?_
          refine al_nil ?_
          -- end of the piece
          exact (Ent.wk ⟨⟨_, rfl, rfl⟩, (by (simp; rfl)), ⟨_, rfl, rfl⟩, (by (simp; rfl)), trivial⟩ ⟨⟨_, rfl, rfl⟩, (by (simp [LR]; rfl)), ⟨_, rfl, rfl⟩, (by exact dB_clo _ _), ⟨_, rfl, rfl⟩, (by exact dB_clo _ _), ⟨_, rfl, rfl⟩, (by exact clo_map _ _ _), ⟨_, rfl, rfl⟩, (by (simp; rfl)), ⟨_, rfl, rfl⟩, (by (simp; done)), ⟨_, rfl, rfl⟩, (by (simp; done)), trivial⟩ ⟨rfl, rfl, rfl, rfl, rfl, rfl, trivial⟩)
        · skip
          refine awp_block ?_
          refine awp_seq ?_
          refine awp_region ?_
          refine al_d rfl rfl rfl (by exact (by exact opd_loadn_ref rfl Tryz.isAgg43 Tryz.sizeOf43 rfl rfl rfl rfl rfl rfl)) ?_
          refine al_d rfl rfl rfl (by exact opr_call rfl rfl Tryz.call32 rfl (differs_c d _ hold)) ?_
          refine al_nil ?_
          refine awp_cond rfl (fun hc2 => ?_) (fun hc2 => ?_)
          -- cond 2
          · rw [if_pos hc2, dK_app]
            refine awp_region ?_
            refine al_d rfl rfl rfl (by exact (by exact opd_load1_ref rfl Tryz.isAgg39 rfl rfl rfl rfl rfl)) ?_
            refine al_d rfl rfl rfl (by exact (by exact opd_loadn_ref rfl Tryz.isAgg43 Tryz.sizeOf43 rfl rfl rfl rfl rfl rfl)) ?_
            refine al_d rfl rfl rfl (by exact (by exact x_buildSlice [encDelta d] rfl so39 rfl rfl rfl rfl rfl (by intro r hr; rw [List.mem_singleton] at hr; subst hr; rfl))) ?_
            refine al_d rfl rfl rfl (by exact x_append (ps := [encDelta d]) rfl so39 ei43 rfl rfl rfl rfl rfl (dl_len L) rfl (by intro r hr; rw [List.mem_singleton] at hr; subst hr; rfl) (m := 1) rfl (by omega) rfl (dlRows_app L d)) ?_
            refine al_n rfl rfl (by exact (by exact x_store_all rfl Tryz.sizeOf39 rfl rfl rfl rfl rfl rfl rfl rfl)) ?_
            refine al_nil ?_
            -- end of the piece
            exact ⟨(906, dB d) :: [(905, ⟨L.length + 1, 15, 43, dlRows (L ++ [d])⟩), (5, bx 1 39 [.osl 905 (L.length + 1) 0 (L.length + 1)]), (903, bx 1 24 [.pv (slObjs b)]), (902, bx 1 24 [.pv (slObjs a)])], (Ent.wk trivial ⟨⟨_, rfl, rfl⟩, (by (simp [LR]; rfl)), ⟨_, rfl, rfl⟩, (by exact dB_clo _ _), ⟨_, rfl, rfl⟩, (by exact clo_map _ _ _), ⟨_, rfl, rfl⟩, (by (simp; rfl)), ⟨_, rfl, rfl⟩, (by (simp; done)), ⟨_, rfl, rfl⟩, (by (simp; done)), trivial⟩ ⟨rfl, rfl, rfl, rfl, rfl, rfl, trivial⟩), rfl, rfl⟩
          · rw [if_neg (by rw [hc2]; decide), List.append_nil]
            refine awp_skip ?_
            -- end of the piece
            exact ⟨(906, dB d) :: dK a b L, (Ent.wk trivial ⟨⟨_, rfl, rfl⟩, (by (simp [LR]; rfl)), ⟨_, rfl, rfl⟩, (by exact dB_clo _ _), ⟨_, rfl, rfl⟩, (by exact clo_map _ _ _), ⟨_, rfl, rfl⟩, (by (simp; rfl)), ⟨_, rfl, rfl⟩, (by (simp; done)), ⟨_, rfl, rfl⟩, (by (simp; done)), trivial⟩ ⟨rfl, rfl, rfl, rfl, rfl, rfl, trivial⟩), rfl, rfl⟩
      · rintro r H' ⟨rfl, rfl⟩
        rw [← hds, List.take_length]
        refine ⟨x, dK a b (ds.filter dDiff), rfl, by rw [hx1]; decide, rfl, fun z => ?_⟩
        rw [hx2]
        refine awp_seq ?_
        refine awp_region ?_
        refine al_d rfl rfl rfl (by exact (by exact opd_load1_ref rfl Tryz.isAgg39 rfl rfl rfl rfl rfl)) ?_
        refine al_d rfl rfl rfl (by exact opd_assign rfl rfl) ?_
        refine al_nil ?_
        refine awp_ret ?_
        -- return
        refine aret1 (H' := []) (by exact .inr rfl) rfl (rval_tmp rfl) (Fin.slice (id := 905) ((904, LR z [(5, .ref 5 0 0 0)]) :: dK a b (ds.filter dDiff)) ((ds.filter dDiff).map encDelta) rfl rfl (by rw [List.map_map]; rfl) (List.length_map _) (Closed.of (by simp)) (fun p _ => rfl) (fun p _ => rfl) rfl) ?_
        exact ⟨rfl, rfl⟩
end Go.Proofs.YtedfihgkopejcaaGreat
end
