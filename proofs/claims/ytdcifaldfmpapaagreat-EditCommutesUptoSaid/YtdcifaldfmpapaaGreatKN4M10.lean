/-
  CONTRACTS: planispherelaw21.sample, head. Conditions: none.
  CONTRACT: planispherelaw21.head answers true. Conditions: none.
  CONTRACTS: the reference: letters, names, points, words, tags. Conditions: lengths below 2^62.
  CONTRACTS: the reference: references, objects. Conditions: lengths below 2^62.
  CONTRACTS: what is moderate (planisphereref13.Few); objects and maps compared (planisphereref11.Same, 12.Same). Conditions: lengths below 2^62.
  CONTRACT: EditLists answers true. Conditions: the arguments' sizes.
  CONTRACT: EditCloses answers true. Conditions: the arguments' sizes.
  PLAIN: what an edit does to the object that it names (for EditMeans). Conditions: none.
  PLAIN: what an edit puts and drops is named by it; two edits without a common name commute. Conditions: none.
  CONTRACT: EditCommutes answers true. Conditions: the arguments' sizes.
-/
import Derived.Test.YtdcifaldfmpapaaGreatKN4M9
section
set_option linter.unusedVariables false
set_option linter.unusedSimpArgs false
set_option maxRecDepth 100000
namespace Go.Proofs.YtdcifaldfmpapaaGreat
open Go.Abs

def st1 (c : UInt8) : ByteArray := ⟨#[c]⟩
def nodeA (c : UInt8) : GObj := ⟨st1 c, 1, (c.toNat : Int), 0, [], []⟩
def cs3 : List UInt8 := [97, 98, 99]
def wayA : GObj := ⟨st1 119, 2, 0, 0, cs3.map st1, []⟩
def s0 : List GObj := cs3.map nodeA ++ [wayA]
abbrev obN (l : List GObj) : List (List AV) := l.map (fun e => (encObj e).map .pv)
theorem sample_c (H : Heap) : ACalls Tryz.prog 37 [] H (fun r H' => r = .agg [.pv (slObjs s0)] ∧ H' = H) := by
  refine ACalls.pure ?_ (by simp) H
  have hc3 : cs3.length = 3 := rfl
  have hl3 : ((cs3.take 3).map nodeA).length = 3 := rfl
  refine ACalls.body Tryz.func37 rfl Tryz.ntmps37 (Nat.le_of_ble_eq_true rfl) ?_
  refine awp_seq ?_
  refine awp_region ?_
  refine al_d rfl rfl rfl (by exact x_alloc (id := 0) rfl zo24 rfl rfl) ?_
  refine al_nil ?_
  refine awp_seq ?_
  refine awp_region ?_
  refine al_d rfl rfl rfl (by exact x_build rfl boN24 rfl rfl) ?_
  refine al_d rfl rfl rfl (by exact x_alloc (id := 1) rfl zo24 rfl rfl) ?_
  refine al_n rfl rfl (by exact (by exact x_store_all rfl Tryz.sizeOf24 rfl rfl rfl rfl rfl rfl rfl rfl)) ?_
  refine al_nil ?_
  refine awp_seq ?_
  refine awp_seq ?_
  refine awp_region ?_
  refine al_d rfl rfl rfl (by exact (by exact x_buildSlice (cs3.map (fun c => encStr (st1 c))) rfl so27 rfl rfl rfl rfl rfl (by simp [encStr]))) ?_
  refine al_d rfl rfl rfl (by exact (by exact opd_len_sl rfl Tryz.underlying27 rfl)) ?_
  refine al_d rfl rfl rfl (by exact opd_move rfl rfl) ?_
  refine al_nil ?_
  refine awp_block ?_
  -- loop
  refine awp_loop2 (fun (k : Nat) (g : Nat) => ([(0, .ref 0 0 0 0), (1, .ref 1 0 0 0), (5, .pv (.sl (cs3.map (fun c => encStr (st1 c))))), (6, iv 3), (7, iv (k : Int))], [(40, ⟨g, 6, 30, obN ((cs3.take k).map nodeA)⟩), (1, bx 1 24 [.osl 40 g 0 ((cs3.take k).map nodeA).length]), (0, bx 1 24 [lv []])])) (fun k g => k ≤ 3) (fun k g => 3 - k) 0 0 (by omega) ?_ ?_
  · exact (Ent.nz 40 6 30 rfl rfl ⟨⟨_, rfl, (by exact Nz.same (by (simp; rfl)))⟩, ⟨_, rfl, (by exact Nz.same (by (simp; rfl)))⟩, ⟨_, rfl, (by exact Nz.same (by (simp; done)))⟩, ⟨_, rfl, (by exact Nz.same (by (simp; done)))⟩, ⟨_, rfl, (by exact Nz.same (by (simp; done)))⟩, trivial⟩ ⟨⟨_, rfl, rfl, rfl, rfl, (by exact .inr ⟨_, _, rfl, rfl, (by repeat (first | exact trivial | refine ⟨(by exact Nz.own), ?_⟩))⟩)⟩, ⟨_, rfl, rfl, rfl, rfl, (by exact .inl ⟨rfl, (by (simp; done))⟩)⟩, trivial⟩ trivial)
  · intro k g hk
    refine awp_seq ?_
    refine awp_region ?_
    refine al_d rfl rfl rfl (by exact opd_lss rfl rfl rfl) ?_
    refine al_nil ?_
    refine awp_seq ?_
    refine awp_cond rfl (fun hc1 => ?_) (fun hc1 => ?_)
    -- cond 1
    · have hlt : k < cs3.length := by have := of_decide_eq_true hc1; show k < 3; omega
      obtain ⟨c, hcs⟩ := get_of_lt hlt
      have hi := map_get (f := fun c => encStr (st1 c)) hcs
      have htk : (cs3.take (k + 1)).map nodeA = (cs3.take k).map nodeA ++ [nodeA c] := by rw [List.take_add_one, hcs, List.map_append]; rfl
      have hln : ((cs3.take k).map nodeA).length ≤ 3 := by rw [List.length_map, List.length_take]; exact Nat.min_le_right _ _
      have hwb : IntKind.i64.wrap (byteAt (st1 c) 0) = (c.toNat : Int) := by
        show IntKind.i64.wrap (c.toNat : Int) = _
        rw [IntKind.wrap_i64]
        have := c.toNat_lt
        omega
      refine awp_skip ?_
      refine awp_seq ?_
      refine awp_block ?_
      refine awp_seq ?_
      refine awp_region ?_
      refine al_d rfl rfl rfl (by exact (by exact x_index_pad rfl so27 rfl rfl (by omega) (by exact Int.toNat_natCast _) (by assumption) rfl)) ?_
      refine al_d rfl rfl rfl (by exact (by exact opd_load1_pad rfl Tryz.isAgg9 rfl (by omega) rfl)) ?_
      refine al_d rfl rfl rfl (by exact opd_assign rfl rfl) ?_
      refine al_nil ?_
      refine awp_drawc follows ?_
      refine dc_cons (r := ⟨_, some [1], []⟩) (DStep.plain rfl (fun H1 hH => by exact (by exact opd_field_ref rfl fo24_0 rfl ((hH _ rfl).trans rfl) rfl rfl))) rfl ?_
      refine dc_cons (r := ⟨_, some [1], []⟩) (DStep.plain rfl (fun H1 hH => by exact (by exact opd_load1_ref rfl Tryz.isAgg22 rfl ((hH _ rfl).trans rfl) rfl rfl rfl))) rfl ?_
      refine dc_cons (r := ⟨_, some [], []⟩) (DStep.plain rfl (fun H1 hH => by exact opd_move rfl rfl)) rfl ?_
      refine dc_cons (r := ⟨_, some [], []⟩) (DStep.plain rfl (fun H1 hH => by exact opd_move rfl rfl)) rfl ?_
      refine dc_cons (r := ⟨_, some [], []⟩) (DStep.plain rfl (fun H1 hH => by exact opd_index_str rfl Tryz.underlying9 rfl rfl (by omega) (by exact Int.toNat_natCast _) (show 0 < (st1 c).size from Nat.zero_lt_one) rfl)) rfl ?_
      refine dc_cons (r := ⟨_, some [], []⟩) (DStep.plain rfl (fun H1 hH => by exact opd_conv_int rfl Tryz.underlying5 Tryz.underlying3 rfl hwb)) rfl ?_
      refine dc_cons (r := ⟨_, some [], []⟩) (DStep.plain rfl (fun H1 hH => by exact x_build rfl bo26 rfl rfl)) rfl ?_
      refine dc_cons (r := ⟨_, some [], []⟩) (DStep.plain rfl (fun H1 hH => by exact x_build rfl bo30 rfl rfl)) rfl ?_
      refine dc_cons (r := ⟨_, some [], []⟩) (DStep.plain rfl (fun H1 hH => by exact (by exact x_buildSlice ([nodeA c].map encObj) rfl so22 rfl rfl rfl rfl rfl (encObj_rl [nodeA c])))) rfl ?_
      refine dc_cons (r := ⟨_, some [1, 40], [_]⟩) (DStep.plain rfl (fun H1 hH => by exact (by exact x_append rfl so22 ei30 rfl ((hH _ rfl).trans rfl) rfl rfl rfl (List.length_map _) rfl (encObj_rl [nodeA c]) (rfl : _ = 1) (by omega) (lenN_snoc _ (nodeA c)) ((List.map_append (l₂ := [nodeA c])).symm)))) rfl ?_
      refine dc_cons (r := ⟨_, some [1], []⟩) (DStep.plain rfl (fun H1 hH => by exact (by exact opd_field_ref rfl fo24_0 rfl ((hH _ rfl).trans rfl) rfl rfl))) rfl ?_
      refine dc_cons (r := ⟨_, some [1], [_]⟩) (DStep.plain rfl (fun H1 hH => by exact (by exact x_store_all rfl Tryz.sizeOf22 rfl rfl rfl rfl ((hH _ rfl).trans rfl) rfl rfl rfl))) rfl ?_
      refine dc_nil ⟨by kernel_rfl, ?_⟩
      refine awp_region ?_
      refine al_d rfl rfl rfl (by exact opd_add rfl rfl rfl (by exact w64 (by omega) (by omega))) ?_
      refine al_d rfl rfl rfl (by exact opd_move rfl rfl) ?_
      refine al_nil ?_
      -- end of a round
      refine ⟨k + 1, g + 1, by omega, by omega, ?_⟩
      rw [htk]
      exact (Ent.wk ⟨⟨_, rfl, rfl⟩, (by (simp; rfl)), ⟨_, rfl, rfl⟩, (by (simp; rfl)), ⟨_, rfl, rfl⟩, (by (simp; done)), ⟨_, rfl, rfl⟩, (by (simp; done)), ⟨_, rfl, rfl⟩, (by (simp; done)), trivial⟩ ⟨⟨_, rfl, rfl⟩, (by exact clo_map _ _ _), ⟨_, rfl, rfl⟩, (by (simp; rfl)), ⟨_, rfl, rfl⟩, (by (simp; done)), trivial⟩ trivial)
    · have hge : k = 3 := by have := of_decide_eq_false hc1; omega
      subst hge
      refine awp_exit ?_
      refine awp_seq ?_
      refine awp_region ?_
      refine al_d rfl rfl rfl (by exact (by exact opd_field_ref rfl fo24_0 rfl rfl rfl rfl)) ?_
      refine al_d rfl rfl rfl (by exact (by exact opd_load1_ref rfl Tryz.isAgg22 rfl rfl rfl rfl rfl)) ?_
      refine al_d rfl rfl rfl (by exact (by exact x_buildSlice (cs3.map (fun c => encStr (st1 c))) rfl so27 rfl rfl rfl rfl rfl (by simp [encStr]))) ?_
      refine al_d rfl rfl rfl (by exact x_build rfl bo30 rfl rfl) ?_
      refine al_d rfl rfl rfl (by exact (by exact x_buildSlice ([wayA].map encObj) rfl so22 rfl rfl rfl rfl rfl (encObj_rl [wayA]))) ?_
      refine al_d rfl rfl rfl (by exact (by exact x_append rfl so22 ei30 rfl rfl rfl rfl rfl (List.length_map _) rfl (encObj_rl [wayA]) (rfl : _ = 1) (by omega) (lenN_snoc _ wayA) ((List.map_append (l₂ := [wayA])).symm))) ?_
      refine al_d rfl rfl rfl (by exact (by exact opd_field_ref rfl fo24_0 rfl rfl rfl rfl)) ?_
      refine al_n rfl rfl (by exact (by exact x_store_all rfl Tryz.sizeOf22 rfl rfl rfl rfl rfl rfl rfl rfl)) ?_
      refine al_nil ?_
      refine awp_seq ?_
      refine awp_region ?_
      refine al_d rfl rfl rfl (by exact (by exact opd_loadn_ref rfl Tryz.isAgg24 Tryz.sizeOf24 rfl rfl rfl rfl rfl rfl)) ?_
      refine al_n rfl rfl (by exact (by exact x_store_all rfl Tryz.sizeOf24 rfl rfl rfl rfl rfl rfl rfl rfl)) ?_
      refine al_nil ?_
      refine awp_ret ?_
      -- return
      refine aret1 (H' := []) (by exact .inr rfl) rfl (rval_cell rfl Tryz.isAgg24 Tryz.sizeOf24 rfl rfl rfl rfl rfl) (Fin.fz (id := 40) (s0.map encObj) rfl (rowsN_of encObj _) (.agg (by rfl) (fz_cons (.osl (by rfl)) fz_nil)) rfl trivial trivial) ?_
      exact ⟨rfl, rfl⟩
end Go.Proofs.YtdcifaldfmpapaaGreat
end
section
set_option linter.unusedVariables false
set_option linter.unusedSimpArgs false
set_option maxRecDepth 100000
namespace Go.Proofs.YtdcifaldfmpapaaGreat
open Go.Abs

def ed0 (op : Int) (id other node : ByteArray) : GEdit := ⟨op, id, other, node, 0, 0, sNil, sNil, [], zObj⟩
def eS : GEdit := ed0 6 (st1 119) (st1 118) (st1 98)
def eJ : GEdit := ed0 7 (st1 119) (st1 118) sNil
def eB : GEdit := ed0 5 (st1 98) sNil sNil
def eM : GEdit := ed0 2 (st1 119) sNil sNil
def eW : GEdit := ed0 5 (st1 119) sNil sNil
def x1 : List GObj := cs3.map nodeA ++ [⟨st1 118, 2, 0, 0, [st1 98, st1 99], []⟩, ⟨st1 119, 2, 0, 0, [st1 97, st1 98], []⟩]
theorem hS : gApply s0 eS = (x1, 0) := by kernel_rfl
theorem hJ : gApply x1 eJ = (s0, 0) := by kernel_rfl
theorem hB : gApply s0 eB = ([], 14) := by kernel_rfl
theorem hM : gApply s0 eM = ([], 13) := by kernel_rfl
theorem hA : gAll s0 [eW, eW] = ([], 1, 11) := by kernel_rfl
theorem sortS_ofN {l : List ByteArray} (h : (l.map toU).Pairwise (fun x y => decide (x ≤ y) = true)) : sortS l = l := by
  rw [sortS, List.mergeSort_of_pairwise h, map_toU]
theorem hN : gNames eS = [st1 98, st1 118, st1 119] := by
  have h1 : gEditV eS = true := by kernel_rfl
  have h2 : (idsOf eS).filter nonE = [st1 119, st1 118, st1 98] := by kernel_rfl
  rw [gNames, if_pos h1, h2]
  have hp : [st1 119, st1 118, st1 98].Perm [st1 98, st1 118, st1 119] := (List.reverse_perm [st1 119, st1 118, st1 98]).symm
  rw [sortS_eq hp]
  exact sortS_ofN (by decide)
theorem okE0 (op : Int) {id other node : ByteArray} (h1 : id.size < 10) (h2 : other.size < 10) (h3 : node.size < 10) : okE (ed0 op id other node) :=
  ⟨⟨by show id.size < _; omega, by show other.size < _; omega, by show node.size < _; omega, by show 0 < _; omega⟩, ⟨by show 0 < _; omega, fun s hs => by cases hs⟩, ⟨by show 0 < _; omega, ⟨by show 0 < _; omega, fun t ht => by cases ht⟩, by show 0 < _; omega, fun s hs => by cases hs⟩⟩
theorem okO_node (c : UInt8) : okO (nodeA c) := ⟨by show 1 < _; omega, ⟨by show 0 < _; omega, fun t ht => by cases ht⟩, by show 0 < _; omega, fun s hs => by cases hs⟩
theorem okO_way (id : ByteArray) (l : List UInt8) (h1 : id.size < 10) (h2 : l.length < 10) : okO ⟨id, 2, 0, 0, l.map st1, []⟩ :=
  ⟨by show id.size < _; omega, ⟨by show 0 < _; omega, fun t ht => by cases ht⟩, by show (l.map st1).length < _; rw [List.length_map]; omega, fun s hs => by
    obtain ⟨c, _, rfl⟩ := List.mem_map.1 hs
    show 1 < _; omega⟩
theorem okM_s0 : okM s0 := by
  refine ⟨by show 4 < _; omega, fun o ho => ?_⟩
  rcases List.mem_append.1 ho with h | h
  · obtain ⟨c, _, rfl⟩ := List.mem_map.1 h
    exact okO_node c
  · rw [List.mem_singleton] at h
    subst h
    exact okO_way (st1 119) cs3 (by decide) (by decide)
theorem okM_x1 : okM x1 := by
  refine ⟨by show 5 < _; omega, fun o ho => ?_⟩
  rcases List.mem_append.1 ho with h | h
  · obtain ⟨c, _, rfl⟩ := List.mem_map.1 h
    exact okO_node c
  · simp only [List.mem_cons, List.not_mem_nil, or_false] at h
    rcases h with rfl | rfl
    · exact okO_way (st1 118) [98, 99] (by decide) (by decide)
    · exact okO_way (st1 119) [97, 98] (by decide) (by decide)
theorem apply_t {m x : List GObj} {e : GEdit} {n : Int} (h : gApply m e = (x, n)) (H : Heap) (hm : okM m) (he : okE e) (hl : m.length < 549755813888) :
    ACalls Tryz.prog 12 [.agg [.pv (slObjs m)], av (encEdit e)] H (fun r H' => r = .tup [.agg [.pv (slObjs x)], iv n] ∧ H' = H) := by
  have := apply_c m e H hm he hl
  rwa [h] at this
theorem all_t {m x : List GObj} {l : List GEdit} {i n : Int} (h : gAll m l = (x, i, n)) (H : Heap) (hm : okM m) (hl : l.length < 549755813888) (he : ∀ e, e ∈ l → okE e) :
    ACalls Tryz.prog 20 [.agg [.pv (slObjs m)], .pv (slEdits l)] H (fun r H' => r = .tup [.agg [.pv (slObjs x)], iv i, iv n] ∧ H' = H) := by
  have := all_c m l H hm hl he
  rwa [h] at this
theorem names_t {e : GEdit} {l : List ByteArray} (h : gNames e = l) (H : Heap) (he : okE e) (hsz : e.refs.length + e.obj.refs.length < 1099511627776) : ACalls Tryz.prog 17 [av (encEdit e)] H (fun r H' => r = .pv (slStrs l) ∧ H' = H) := by
  have := names_cE e H he hsz
  rwa [h] at this
theorem same06_t {a b : List ByteArray} (h : a = b) (H : Heap) (ha : a.length < 4611686018427387904) : ACalls Tryz.prog 34 [.pv (slStrs a), .pv (slStrs b)] H (fun r H' => r = bv true ∧ H' = H) := by
  have := same06_c a b H ha
  rwa [decide_eq_true h] at this
theorem atlasSame_t {a b : List GObj} (h : a = b) (H : Heap) (ha : okM a) : ACalls Tryz.prog 38 [.agg [.pv (slObjs a)], .agg [.pv (slObjs b)]] H (fun r H' => r = bv true ∧ H' = H) := by
  have := atlasSame_c a b H ha.1 (fun o ho => okS_of (ha.2 o ho))
  rwa [decide_eq_true h] at this
theorem head21_c (H : Heap) : ACalls Tryz.prog 10 [] H (fun r H' => r = bv true ∧ H' = H) := by
  refine ACalls.pure ?_ (by simp) H
  have w1 : (st1 119).size < 10 := by decide
  have w2 : (st1 118).size < 10 := by decide
  have w3 : (st1 98).size < 10 := by decide
  have w4 : sNil.size < 10 := by decide
  have l0 : s0.length < 549755813888 := by show 4 < _; omega
  have l1 : x1.length < 549755813888 := by show 5 < _; omega
  refine ACalls.body Tryz.func10 rfl Tryz.ntmps10 (Nat.le_of_ble_eq_true rfl) ?_
  refine awp_seq ?_
  refine awp_region ?_
  refine al_d rfl rfl rfl (by exact opd_assign rfl rfl) ?_
  refine al_nil ?_
  refine awp_seq ?_
  refine awp_region ?_
  refine al_d rfl rfl rfl (by exact opr_call rfl rfl Tryz.call37 rfl (sample_c _)) ?_
  refine al_d rfl rfl rfl (by exact x_alloc (id := 1) rfl zo24 rfl rfl) ?_
  refine al_n rfl rfl (by exact (by exact x_store_all rfl Tryz.sizeOf24 rfl rfl rfl rfl rfl rfl rfl rfl)) ?_
  refine al_nil ?_
  refine awp_seq ?_
  refine awp_region ?_
  refine al_d rfl rfl rfl (by exact (by exact opd_loadn_ref rfl Tryz.isAgg24 Tryz.sizeOf24 rfl rfl rfl rfl rfl rfl)) ?_
  refine al_d rfl rfl rfl (by exact x_build rfl bo32 rfl rfl) ?_
  refine al_d rfl rfl rfl (by exact opr_call rfl rfl Tryz.call12 rfl (apply_t hS _ okM_s0 (okE0 6 w1 w2 w3) l0)) ?_
  refine al_d rfl rfl rfl (by exact opd_move rfl rfl) ?_
  refine al_d rfl rfl rfl (by exact opd_extract rfl rfl rfl) ?_
  refine al_d rfl rfl rfl (by exact opd_extract rfl rfl rfl) ?_
  refine al_d rfl rfl rfl (by exact x_alloc (id := 2) rfl zo24 rfl rfl) ?_
  refine al_n rfl rfl (by exact (by exact x_store_all rfl Tryz.sizeOf24 rfl rfl rfl rfl rfl rfl rfl rfl)) ?_
  refine al_d rfl rfl rfl (by exact opd_assign rfl rfl) ?_
  refine al_nil ?_
  refine awp_seq ?_
  refine awp_region ?_
  refine al_d rfl rfl rfl (by exact (by exact opd_loadn_ref rfl Tryz.isAgg24 Tryz.sizeOf24 rfl rfl rfl rfl rfl rfl)) ?_
  refine al_d rfl rfl rfl (by exact x_build rfl bo32 rfl rfl) ?_
  refine al_d rfl rfl rfl (by exact opr_call rfl rfl Tryz.call12 rfl (apply_t hJ _ okM_x1 (okE0 7 w1 w2 w4) l1)) ?_
  refine al_d rfl rfl rfl (by exact opd_move rfl rfl) ?_
  refine al_d rfl rfl rfl (by exact opd_extract rfl rfl rfl) ?_
  refine al_d rfl rfl rfl (by exact opd_extract rfl rfl rfl) ?_
  refine al_d rfl rfl rfl (by exact x_alloc (id := 4) rfl zo24 rfl rfl) ?_
  refine al_n rfl rfl (by exact (by exact x_store_all rfl Tryz.sizeOf24 rfl rfl rfl rfl rfl rfl rfl rfl)) ?_
  refine al_d rfl rfl rfl (by exact opd_assign rfl rfl) ?_
  refine al_nil ?_
  refine awp_seq ?_
  refine awp_region ?_
  refine al_d rfl rfl rfl (by exact (by exact opd_loadn_ref rfl Tryz.isAgg24 Tryz.sizeOf24 rfl rfl rfl rfl rfl rfl)) ?_
  refine al_d rfl rfl rfl (by exact x_build rfl bo32 rfl rfl) ?_
  refine al_d rfl rfl rfl (by exact opr_call rfl rfl Tryz.call12 rfl (apply_t hB _ okM_s0 (okE0 5 w3 w4 w4) l0)) ?_
  refine al_d rfl rfl rfl (by exact opd_move rfl rfl) ?_
  refine al_d rfl rfl rfl (by exact opd_extract rfl rfl rfl) ?_
  refine al_d rfl rfl rfl (by exact opd_extract rfl rfl rfl) ?_
  refine al_d rfl rfl rfl (by exact x_alloc (id := 6) rfl zo24 rfl rfl) ?_
  refine al_n rfl rfl (by exact (by exact x_store_all rfl Tryz.sizeOf24 rfl rfl rfl rfl rfl rfl rfl rfl)) ?_
  refine al_d rfl rfl rfl (by exact opd_assign rfl rfl) ?_
  refine al_nil ?_
  refine awp_seq ?_
  refine awp_region ?_
  refine al_d rfl rfl rfl (by exact (by exact opd_loadn_ref rfl Tryz.isAgg24 Tryz.sizeOf24 rfl rfl rfl rfl rfl rfl)) ?_
  refine al_d rfl rfl rfl (by exact x_build rfl bo32 rfl rfl) ?_
  refine al_d rfl rfl rfl (by exact opr_call rfl rfl Tryz.call12 rfl (apply_t hM _ okM_s0 (okE0 2 w1 w4 w4) l0)) ?_
  refine al_d rfl rfl rfl (by exact opd_move rfl rfl) ?_
  refine al_d rfl rfl rfl (by exact opd_extract rfl rfl rfl) ?_
  refine al_d rfl rfl rfl (by exact opd_extract rfl rfl rfl) ?_
  refine al_d rfl rfl rfl (by exact x_alloc (id := 8) rfl zo24 rfl rfl) ?_
  refine al_n rfl rfl (by exact (by exact x_store_all rfl Tryz.sizeOf24 rfl rfl rfl rfl rfl rfl rfl rfl)) ?_
  refine al_d rfl rfl rfl (by exact opd_assign rfl rfl) ?_
  refine al_nil ?_
  refine awp_seq ?_
  refine awp_region ?_
  refine al_d rfl rfl rfl (by exact (by exact opd_loadn_ref rfl Tryz.isAgg24 Tryz.sizeOf24 rfl rfl rfl rfl rfl rfl)) ?_
  refine al_d rfl rfl rfl (by exact x_build rfl bo32 rfl rfl) ?_
  refine al_d rfl rfl rfl (by exact x_build rfl bo32 rfl rfl) ?_
  refine al_d rfl rfl rfl (by exact (by exact x_buildSlice ([eW, eW].map encEdit) rfl so46 rfl rfl rfl rfl rfl (by intro r hr; simp only [List.map_cons, List.map_nil, List.mem_cons, List.not_mem_nil, or_false] at hr; rcases hr with rfl | rfl <;> rfl))) ?_
  refine al_d rfl rfl rfl (by exact opr_call rfl rfl Tryz.call20 rfl (all_t hA _ okM_s0 (by show 2 < _; omega) (by intro e he; simp only [List.mem_cons, List.not_mem_nil, or_false] at he; rcases he with rfl | rfl <;> exact okE0 5 w1 w4 w4))) ?_
  refine al_d rfl rfl rfl (by exact opd_move rfl rfl) ?_
  refine al_d rfl rfl rfl (by exact opd_extract rfl rfl rfl) ?_
  refine al_d rfl rfl rfl (by exact opd_extract rfl rfl rfl) ?_
  refine al_d rfl rfl rfl (by exact opd_extract rfl rfl rfl) ?_
  refine al_d rfl rfl rfl (by exact x_alloc (id := 10) rfl zo24 rfl rfl) ?_
  refine al_n rfl rfl (by exact (by exact x_store_all rfl Tryz.sizeOf24 rfl rfl rfl rfl rfl rfl rfl rfl)) ?_
  refine al_d rfl rfl rfl (by exact opd_assign rfl rfl) ?_
  refine al_d rfl rfl rfl (by exact opd_assign rfl rfl) ?_
  refine al_nil ?_
  refine awp_seq ?_
  refine awp_seq ?_
  refine awp_region ?_
  refine al_d rfl rfl rfl (by exact opd_move rfl rfl) ?_
  refine al_d rfl rfl rfl (by exact opd_neq rfl rfl rfl) ?_
  refine al_d rfl rfl rfl (by exact opd_move rfl rfl) ?_
  refine al_ond rfl rfl rfl (by rfl) rfl rfl (by exact (by exact opd_field_ref rfl fo24_0 rfl rfl rfl rfl)) ?_
  refine al_ond rfl rfl rfl (by rfl) rfl rfl (by exact (by exact opd_load1_ref rfl Tryz.isAgg22 rfl rfl rfl rfl rfl)) ?_
  refine al_ond rfl rfl rfl (by rfl) rfl rfl (by exact (by exact opd_len_sl rfl Tryz.underlying22 rfl)) ?_
  refine al_ond rfl rfl rfl (by rfl) rfl rfl (by exact opd_neq rfl rfl rfl) ?_
  refine al_d rfl rfl rfl (by exact (by exact opd_pick_f rfl rfl rfl)) ?_
  refine al_nil ?_
  refine awp_cond rfl (fun hc1 => ?_) (fun hc1 => ?_)
  -- cond 1
  · cases hc1
  · skip
    have hi3 : (x1.map encObj)[3]? = some (encObj ⟨st1 118, 2, 0, 0, [st1 98, st1 99], []⟩) := rfl
    have hi4 : (x1.map encObj)[4]? = some (encObj ⟨st1 119, 2, 0, 0, [st1 97, st1 98], []⟩) := rfl
    refine awp_skip ?_
    refine awp_seq ?_
    refine awp_region ?_
    refine al_d rfl rfl rfl (by exact (by exact opd_field_ref rfl fo24_0 rfl rfl rfl rfl)) ?_
    refine al_d rfl rfl rfl (by exact (by exact opd_load1_ref rfl Tryz.isAgg22 rfl rfl rfl rfl rfl)) ?_
    refine al_d rfl rfl rfl (by exact (by exact x_index_pad rfl so22 rfl rfl (by omega) (by exact Int.toNat_natCast _) hi3 rfl)) ?_
    refine al_d rfl rfl rfl (by exact (by exact opd_field_pad rfl fo30_3 rfl rfl)) ?_
    refine al_d rfl rfl rfl (by exact (by exact opd_load1_pad rfl Tryz.isAgg27 rfl (by omega) rfl)) ?_
    refine al_d rfl rfl rfl (by exact (by exact x_buildSlice ([st1 98, st1 99].map encStr) rfl so27 rfl rfl rfl rfl rfl (by simp [encStr]))) ?_
    refine al_d rfl rfl rfl (by exact opr_call rfl rfl Tryz.call34 rfl (same06_t (a := [st1 98, st1 99]) (b := [st1 98, st1 99]) rfl _ (by show 2 < _; omega))) ?_
    refine al_d rfl rfl rfl (by exact opd_move rfl rfl) ?_
    refine al_ond rfl rfl rfl (by rfl) rfl rfl (by exact (by exact opd_field_ref rfl fo24_0 rfl rfl rfl rfl)) ?_
    refine al_ond rfl rfl rfl (by rfl) rfl rfl (by exact (by exact opd_load1_ref rfl Tryz.isAgg22 rfl rfl rfl rfl rfl)) ?_
    refine al_ond rfl rfl rfl (by rfl) rfl rfl (by exact (by exact x_index_pad rfl so22 rfl rfl (by omega) (by exact Int.toNat_natCast _) hi4 rfl)) ?_
    refine al_ond rfl rfl rfl (by rfl) rfl rfl (by exact (by exact opd_field_pad rfl fo30_3 rfl rfl)) ?_
    refine al_ond rfl rfl rfl (by rfl) rfl rfl (by exact (by exact opd_load1_pad rfl Tryz.isAgg27 rfl (by omega) rfl)) ?_
    refine al_ond rfl rfl rfl (by rfl) rfl rfl (by exact (by exact x_buildSlice ([st1 97, st1 98].map encStr) rfl so27 rfl rfl rfl rfl rfl (by simp [encStr]))) ?_
    refine al_ond rfl rfl rfl (by rfl) rfl rfl (by exact opr_call rfl rfl Tryz.call34 rfl (same06_t (a := [st1 97, st1 98]) (b := [st1 97, st1 98]) rfl _ (by show 2 < _; omega))) ?_
    refine al_d rfl rfl rfl (by exact (by exact opd_pick_t rfl rfl rfl)) ?_
    refine al_d rfl rfl rfl (by exact opd_move rfl rfl) ?_
    refine al_ond rfl rfl rfl (by rfl) rfl rfl (by exact opd_move rfl rfl) ?_
    refine al_ond rfl rfl rfl (by rfl) rfl rfl (by exact opd_eql rfl rfl rfl) ?_
    refine al_d rfl rfl rfl (by exact (by exact opd_pick_t rfl rfl rfl)) ?_
    refine al_d rfl rfl rfl (by exact opd_move rfl rfl) ?_
    refine al_ond rfl rfl rfl (by rfl) rfl rfl (by exact (by exact opd_loadn_ref rfl Tryz.isAgg24 Tryz.sizeOf24 rfl rfl rfl rfl rfl rfl)) ?_
    refine al_ond rfl rfl rfl (by rfl) rfl rfl (by exact (by exact opd_loadn_ref rfl Tryz.isAgg24 Tryz.sizeOf24 rfl rfl rfl rfl rfl rfl)) ?_
    refine al_ond rfl rfl rfl (by rfl) rfl rfl (by exact opr_call rfl rfl Tryz.call38 rfl (atlasSame_t (a := s0) (b := s0) rfl _ okM_s0)) ?_
    refine al_d rfl rfl rfl (by exact (by exact opd_pick_t rfl rfl rfl)) ?_
    refine al_d rfl rfl rfl (by exact opd_move rfl rfl) ?_
    refine al_ond rfl rfl rfl (by rfl) rfl rfl (by exact opd_move rfl rfl) ?_
    refine al_ond rfl rfl rfl (by rfl) rfl rfl (by exact opd_eql rfl rfl rfl) ?_
    refine al_d rfl rfl rfl (by exact (by exact opd_pick_t rfl rfl rfl)) ?_
    refine al_d rfl rfl rfl (by exact opd_move rfl rfl) ?_
    refine al_ond rfl rfl rfl (by rfl) rfl rfl (by exact opd_move rfl rfl) ?_
    refine al_ond rfl rfl rfl (by rfl) rfl rfl (by exact opd_eql rfl rfl rfl) ?_
    refine al_d rfl rfl rfl (by exact (by exact opd_pick_t rfl rfl rfl)) ?_
    refine al_d rfl rfl rfl (by exact opd_assign rfl rfl) ?_
    refine al_nil ?_
    refine awp_seq ?_
    refine awp_region ?_
    refine al_d rfl rfl rfl (by exact opd_move rfl rfl) ?_
    refine al_d rfl rfl rfl (by exact opd_move rfl rfl) ?_
    refine al_ond rfl rfl rfl (by rfl) rfl rfl (by exact opd_move rfl rfl) ?_
    refine al_ond rfl rfl rfl (by rfl) rfl rfl (by exact opd_eql rfl rfl rfl) ?_
    refine al_d rfl rfl rfl (by exact (by exact opd_pick_t rfl rfl rfl)) ?_
    refine al_d rfl rfl rfl (by exact opd_move rfl rfl) ?_
    refine al_ond rfl rfl rfl (by rfl) rfl rfl (by exact opd_move rfl rfl) ?_
    refine al_ond rfl rfl rfl (by rfl) rfl rfl (by exact opd_eql rfl rfl rfl) ?_
    refine al_d rfl rfl rfl (by exact (by exact opd_pick_t rfl rfl rfl)) ?_
    refine al_d rfl rfl rfl (by exact opd_move rfl rfl) ?_
    refine al_ond rfl rfl rfl (by rfl) rfl rfl (by exact x_build rfl bo32 rfl rfl) ?_
    refine al_ond rfl rfl rfl (by rfl) rfl rfl (by exact opr_call rfl rfl Tryz.call17 rfl (names_t hN _ (okE0 6 w1 w2 w3) (by show 0 < _; omega))) ?_
    refine al_ond rfl rfl rfl (by rfl) rfl rfl (by exact (by exact x_buildSlice ([st1 98, st1 118, st1 119].map encStr) rfl so27 rfl rfl rfl rfl rfl (by simp [encStr]))) ?_
    refine al_ond rfl rfl rfl (by rfl) rfl rfl (by exact opr_call rfl rfl Tryz.call34 rfl (same06_t (a := [st1 98, st1 118, st1 119]) (b := [st1 98, st1 118, st1 119]) rfl _ (by show 3 < _; omega))) ?_
    refine al_d rfl rfl rfl (by exact (by exact opd_pick_t rfl rfl rfl)) ?_
    refine al_d rfl rfl rfl (by exact opd_assign rfl rfl) ?_
    refine al_nil ?_
    refine awp_ret ?_
    -- return
    refine aret1 (H' := []) (by exact .inr rfl) rfl (rval_tmp rfl) (Fin.wk (by simp) trivial trivial) ?_
    exact ⟨rfl, rfl⟩
end Go.Proofs.YtdcifaldfmpapaaGreat
end
section
set_option linter.unusedVariables false
set_option linter.unusedSimpArgs false
set_option maxRecDepth 100000
namespace Go.Proofs.YtdcifaldfmpapaaGreat
open Go.Abs
def isW (n : Int) : Bool := (isLet n || isDig n) || decide (n = 95)
def badW (s : ByteArray) (k : Nat) : Bool := !isW (byteAt s k)
def rName (s : ByteArray) : Bool := !((List.range s.size).any (badW s)) && (decide ((0 : Int) < (s.size : Int)) && decide ((s.size : Int) ≤ 24) && isLet (byteAt s 0))
end Go.Proofs.YtdcifaldfmpapaaGreat
end
section
set_option linter.unusedVariables false
set_option linter.unusedSimpArgs false
set_option maxRecDepth 100000
namespace Go.Proofs.YtdcifaldfmpapaaGreat
open Go.Abs

def gNum (k n : Int) : Bool := if k = 1 then decide (n = 0) else if k = 2 then decide (2 ≤ n) else if k = 3 then decide (3 ≤ n) else if k = 4 then decide (1 ≤ n) else decide (n = 3)
def rRefs (o : GObj) : Bool := (decide ((o.refs.length : Int) ≤ 2000) && !((List.range o.refs.length).any (wrongAt o))) && gNum o.kind (o.refs.length : Int)
def atO (o : GObj) : Bool := if o.kind = 1 then gOn o.x o.y else (decide (o.x = 0) && decide (o.y = 0))
end Go.Proofs.YtdcifaldfmpapaaGreat
end
section
set_option linter.unusedVariables false
set_option linter.unusedSimpArgs false
set_option maxRecDepth 100000
namespace Go.Proofs.YtdcifaldfmpapaaGreat
open Go.Abs
/-- The k-th elements are equal, for all k below n. -/
def eqTo {α : Type} (e : α → α → Bool) (a b : List α) : Bool := decide (a.length = b.length) && (List.range a.length).all fun k => match a[k]?, b[k]? with | some x, some y => e x y | _, _ => true
theorem eqTo_iff {α : Type} {e : α → α → Bool} (he : ∀ x y, e x y = true ↔ x = y) {a b : List α} : eqTo e a b = true ↔ a = b := by
  constructor
  · intro h
    simp only [eqTo, Bool.and_eq_true, decide_eq_true_eq, List.all_eq_true, List.mem_range] at h
    apply List.ext_getElem h.1
    intro k h1 h2
    have := h.2 k h1
    rw [List.getElem?_eq_getElem h1, List.getElem?_eq_getElem h2] at this
    exact (he _ _).1 this
  · rintro rfl
    simp only [eqTo, Bool.and_eq_true, decide_eq_true_eq, List.all_eq_true, List.mem_range, true_and]
    intro k hk
    rw [List.getElem?_eq_getElem hk]
    exact (he _ _).2 rfl
theorem eqTo_bad {α : Type} {e : α → α → Bool} {a b : List α} {k : Nat} {x y : α} (hx : a[k]? = some x) (hy : b[k]? = some y) (h : e x y = false) : eqTo e a b = false := by
  have hk := (List.getElem?_eq_some_iff.1 hx).1
  rw [eqTo, Bool.and_eq_false_iff]
  right
  rw [List.all_eq_false]
  exact ⟨k, List.mem_range.2 hk, by rw [hx, hy]; simp [h]⟩
theorem eqTo_len {α : Type} {e : α → α → Bool} {a b : List α} (h : ¬ a.length = b.length) : eqTo e a b = false := by simp [eqTo, h]
theorem eqTo_good {α : Type} {e : α → α → Bool} {a b : List α} (hl : a.length = b.length) (h : ∀ k, k < a.length → ∀ x y, a[k]? = some x → b[k]? = some y → e x y = true) : eqTo e a b = true := by
  simp only [eqTo, Bool.and_eq_true, decide_eq_true_eq, List.all_eq_true, List.mem_range]
  refine ⟨hl, fun k hk => ?_⟩
  rw [List.getElem?_eq_getElem hk, List.getElem?_eq_getElem (by omega)]
  exact h k hk _ _ (List.getElem?_eq_getElem hk) (List.getElem?_eq_getElem (by omega))
def strEq (a b : ByteArray) : Bool := decide (a = b)
theorem strEq_iff (a b : ByteArray) : strEq a b = true ↔ a = b := by simp [strEq]
def headEq (a b : GObj) : Bool := decide (a.id = b.id) && decide (a.kind = b.kind) && (decide (a.x = b.x) && decide (a.y = b.y)) && decide (a.refs.length = b.refs.length) && decide (a.tags.length = b.tags.length)
def gSameR (a b : GObj) : Bool := headEq a b && (eqTo strEq a.refs b.refs && eqTo tagEq a.tags b.tags)
theorem gSameR_iff {a b : GObj} : gSameR a b = true ↔ a = b := by
  rw [gSameR, Bool.and_eq_true, Bool.and_eq_true, eqTo_iff strEq_iff, eqTo_iff tagEq_iff]
  cases a; cases b
  simp only [headEq, Bool.and_eq_true, decide_eq_true_eq, GObj.mk.injEq]
  constructor
  · rintro ⟨⟨⟨⟨⟨a1, a2⟩, a3, a4⟩, a5⟩, a6⟩, a7, a8⟩
    exact ⟨a1, a2, a3, a4, a7, a8⟩
  · rintro ⟨a1, a2, a3, a4, a7, a8⟩
    exact ⟨⟨⟨⟨⟨a1, a2⟩, a3, a4⟩, by rw [a7]⟩, by rw [a8]⟩, a7, a8⟩
def headNe (a b : GObj) (n1 n2 n3 n4 : Int) : Bool := !decide (a.id = b.id) || !decide (a.kind = b.kind) || !(decide (a.x = b.x) && decide (a.y = b.y)) || !decide (n1 = n2) || !decide (n3 = n4)
theorem headNe_eq (a b : GObj) : headNe a b ((a.refs.map encStr).length : Int) ((b.refs.map encStr).length : Int) ((a.tags.map encTag).length : Int) ((b.tags.map encTag).length : Int) = !headEq a b := by
  simp only [headNe, headEq, List.length_map, Bool.not_and, Int.natCast_inj]
theorem same11_c (a b : GObj) (H : Heap) (ha : a.refs.length < 4611686018427387904) (ha2 : a.tags.length < 4611686018427387904) : ACalls Tryz.prog 50 [av (encObj a), av (encObj b)] H (fun r H' => r = bv (gSameR a b) ∧ H' = H) := by
  refine ACalls.pure ?_ (by simp) H
  have hra : (a.refs.map encStr).length = a.refs.length := List.length_map _
  have hta : (a.tags.map encTag).length = a.tags.length := List.length_map _
  refine ACalls.body Tryz.func50 rfl Tryz.ntmps50 (Nat.le_of_ble_eq_true rfl) ?_
  refine awp_seq ?_
  refine awp_region ?_
  refine al_d rfl rfl rfl (by exact opd_box (id := 2) rfl rfl rfl rfl rfl) ?_
  refine al_d rfl rfl rfl (by exact opd_box (id := 3) rfl rfl rfl rfl rfl) ?_
  refine al_d rfl rfl rfl (by exact opd_assign rfl rfl) ?_
  refine al_nil ?_
  refine awp_seq ?_
  refine awp_seq ?_
  refine awp_bool (t := 43) (n := 41) (X := headNe a b ((a.refs.map encStr).length : Int) ((b.refs.map encStr).length : Int) ((a.tags.map encTag).length : Int) ((b.tags.map encTag).length : Int)) ?_ ?_
  · all_goals (refine al_d rfl rfl rfl (by exact (by exact opd_field_ref rfl fo30_0 rfl rfl rfl rfl)) ?_)
    all_goals (refine al_d rfl rfl rfl (by exact (by exact opd_load1_ref rfl Tryz.isAgg9 rfl rfl rfl rfl rfl)) ?_)
    all_goals (refine al_d rfl rfl rfl (by exact (by exact opd_field_ref rfl fo30_0 rfl rfl rfl rfl)) ?_)
    all_goals (refine al_d rfl rfl rfl (by exact (by exact opd_load1_ref rfl Tryz.isAgg9 rfl rfl rfl rfl rfl)) ?_)
    all_goals (refine al_d rfl rfl rfl (by exact opd_sneq rfl rfl rfl) ?_)
    all_goals (refine al_d rfl rfl rfl (by exact opd_move rfl rfl) ?_)
    all_goals (refine al_split (t := 12) rfl (fun h12 => ?_) (fun h12 => ?_))
    all_goals (try contradiction)
    all_goals (first | refine al_off rfl rfl rfl rfl rfl ?_ | refine al_ond rfl rfl rfl rfl rfl rfl (by exact (by exact opd_field_ref rfl fo30_1 rfl rfl rfl rfl)) ?_)
    all_goals (first | refine al_off rfl rfl rfl rfl rfl ?_ | refine al_ond rfl rfl rfl rfl rfl rfl (by exact (by exact opd_load1_ref rfl Tryz.isAgg3 rfl rfl rfl rfl rfl)) ?_)
    all_goals (first | refine al_off rfl rfl rfl rfl rfl ?_ | refine al_ond rfl rfl rfl rfl rfl rfl (by exact (by exact opd_field_ref rfl fo30_1 rfl rfl rfl rfl)) ?_)
    all_goals (first | refine al_off rfl rfl rfl rfl rfl ?_ | refine al_ond rfl rfl rfl rfl rfl rfl (by exact (by exact opd_load1_ref rfl Tryz.isAgg3 rfl rfl rfl rfl rfl)) ?_)
    all_goals (first | refine al_off rfl rfl rfl rfl rfl ?_ | refine al_ond rfl rfl rfl rfl rfl rfl (by exact opd_neq rfl rfl rfl) ?_)
    all_goals (refine al_d rfl rfl rfl (by exact (by first | exact opd_pick_t rfl rfl rfl | exact opd_pick_f rfl rfl rfl)) ?_)
    all_goals (refine al_d rfl rfl rfl (by exact opd_move rfl rfl) ?_)
    all_goals (refine al_split (t := 19) rfl (fun h19 => ?_) (fun h19 => ?_))
    all_goals (try contradiction)
    all_goals (first | refine al_off rfl rfl rfl rfl rfl ?_ | refine al_ond rfl rfl rfl rfl rfl rfl (by exact (by exact opd_field_ref rfl fo30_2 rfl rfl rfl rfl)) ?_)
    all_goals (first | refine al_off rfl rfl rfl rfl rfl ?_ | refine al_ond rfl rfl rfl rfl rfl rfl (by exact (by exact opd_loadn_ref rfl Tryz.isAgg26 Tryz.sizeOf26 rfl rfl rfl rfl (by simp only [List.drop_succ_cons, List.drop_zero, List.take_succ_cons, List.take_zero, List.take_nil, List.map_cons, List.map_nil, List.set_cons_zero, List.set_cons_succ, List.cons_append, List.nil_append, encTag, encObj, encStr]; rfl) rfl)) ?_)
    all_goals (first | refine al_off rfl rfl rfl rfl rfl ?_ | refine al_ond rfl rfl rfl rfl rfl rfl (by exact (by exact opd_field_ref rfl fo30_2 rfl rfl rfl rfl)) ?_)
    all_goals (first | refine al_off rfl rfl rfl rfl rfl ?_ | refine al_ond rfl rfl rfl rfl rfl rfl (by exact (by exact opd_loadn_ref rfl Tryz.isAgg26 Tryz.sizeOf26 rfl rfl rfl rfl (by simp only [List.drop_succ_cons, List.drop_zero, List.take_succ_cons, List.take_zero, List.take_nil, List.map_cons, List.map_nil, List.set_cons_zero, List.set_cons_succ, List.cons_append, List.nil_append, encTag, encObj, encStr]; rfl) rfl)) ?_)
    all_goals (first | refine al_off rfl rfl rfl rfl rfl ?_ | refine al_ond rfl rfl rfl rfl rfl rfl (by exact opd_aneq rfl rfl rfl rfl rfl Tryz.eqGuardType26 (se26 _ _ _ _)) ?_)
    all_goals (refine al_d rfl rfl rfl (by exact (by first | exact opd_pick_t rfl rfl rfl | exact opd_pick_f rfl rfl rfl)) ?_)
    all_goals (refine al_d rfl rfl rfl (by exact opd_move rfl rfl) ?_)
    all_goals (refine al_split (t := 26) rfl (fun h26 => ?_) (fun h26 => ?_))
    all_goals (try contradiction)
    all_goals (first | refine al_off rfl rfl rfl rfl rfl ?_ | refine al_ond rfl rfl rfl rfl rfl rfl (by exact (by exact opd_field_ref rfl fo30_3 rfl rfl rfl rfl)) ?_)
    all_goals (first | refine al_off rfl rfl rfl rfl rfl ?_ | refine al_ond rfl rfl rfl rfl rfl rfl (by exact (by exact opd_load1_ref rfl Tryz.isAgg27 rfl rfl rfl rfl rfl)) ?_)
    all_goals (first | refine al_off rfl rfl rfl rfl rfl ?_ | refine al_ond rfl rfl rfl rfl rfl rfl (by exact (by exact opd_len_sl rfl Tryz.underlying27 rfl)) ?_)
    all_goals (first | refine al_off rfl rfl rfl rfl rfl ?_ | refine al_ond rfl rfl rfl rfl rfl rfl (by exact (by exact opd_field_ref rfl fo30_3 rfl rfl rfl rfl)) ?_)
    all_goals (first | refine al_off rfl rfl rfl rfl rfl ?_ | refine al_ond rfl rfl rfl rfl rfl rfl (by exact (by exact opd_load1_ref rfl Tryz.isAgg27 rfl rfl rfl rfl rfl)) ?_)
    all_goals (first | refine al_off rfl rfl rfl rfl rfl ?_ | refine al_ond rfl rfl rfl rfl rfl rfl (by exact (by exact opd_len_sl rfl Tryz.underlying27 rfl)) ?_)
    all_goals (first | refine al_off rfl rfl rfl rfl rfl ?_ | refine al_ond rfl rfl rfl rfl rfl rfl (by exact opd_neq rfl rfl rfl) ?_)
    all_goals (refine al_d rfl rfl rfl (by exact (by first | exact opd_pick_t rfl rfl rfl | exact opd_pick_f rfl rfl rfl)) ?_)
    all_goals (refine al_d rfl rfl rfl (by exact opd_move rfl rfl) ?_)
    all_goals (refine al_split (t := 35) rfl (fun h35 => ?_) (fun h35 => ?_))
    all_goals (try contradiction)
    all_goals (first | refine al_off rfl rfl rfl rfl rfl ?_ | refine al_ond rfl rfl rfl rfl rfl rfl (by exact (by exact opd_field_ref rfl fo30_4 rfl rfl rfl rfl)) ?_)
    all_goals (first | refine al_off rfl rfl rfl rfl rfl ?_ | refine al_ond rfl rfl rfl rfl rfl rfl (by exact (by exact opd_load1_ref rfl Tryz.isAgg28 rfl rfl rfl rfl rfl)) ?_)
    all_goals (first | refine al_off rfl rfl rfl rfl rfl ?_ | refine al_ond rfl rfl rfl rfl rfl rfl (by exact (by exact opd_len_sl rfl Tryz.underlying28 rfl)) ?_)
    all_goals (first | refine al_off rfl rfl rfl rfl rfl ?_ | refine al_ond rfl rfl rfl rfl rfl rfl (by exact (by exact opd_field_ref rfl fo30_4 rfl rfl rfl rfl)) ?_)
    all_goals (first | refine al_off rfl rfl rfl rfl rfl ?_ | refine al_ond rfl rfl rfl rfl rfl rfl (by exact (by exact opd_load1_ref rfl Tryz.isAgg28 rfl rfl rfl rfl rfl)) ?_)
    all_goals (first | refine al_off rfl rfl rfl rfl rfl ?_ | refine al_ond rfl rfl rfl rfl rfl rfl (by exact (by exact opd_len_sl rfl Tryz.underlying28 rfl)) ?_)
    all_goals (first | refine al_off rfl rfl rfl rfl rfl ?_ | refine al_ond rfl rfl rfl rfl rfl rfl (by exact opd_neq rfl rfl rfl) ?_)
    all_goals (refine al_d rfl rfl rfl (by exact (by first | exact opd_pick_t rfl rfl rfl | exact opd_pick_f rfl rfl rfl)) ?_)
    all_goals (refine al_nil ?_)
    all_goals (exact ⟨⟨_, rfl, by first | (simp only [headNe, *]; rfl) | (simp_all [headNe]; done)⟩, rfl, rfl, rfl⟩)
  refine awp_cond rfl (fun hc1 => ?_) (fun hc1 => ?_)
  -- cond 1
  · rw [headNe_eq] at hc1
    refine awp_seq ?_
    refine awp_region ?_
    refine al_d rfl rfl rfl (by exact opd_assign rfl rfl) ?_
    refine al_nil ?_
    refine awp_ret ?_
    -- return
    refine aret1 (H' := []) (by exact .inr rfl) rfl (rval_tmp rfl) (Fin.wk (by simp) trivial trivial) ?_
    refine ⟨?_, rfl⟩
    have : headEq a b = false := by simpa using hc1
    rw [gSameR, this]; rfl
  · rw [headNe_eq] at hc1
    have hh : headEq a b = true := by simpa using hc1
    have hlens : a.refs.length = b.refs.length ∧ a.tags.length = b.tags.length := by
      simp only [headEq, Bool.and_eq_true, decide_eq_true_eq] at hh
      exact ⟨hh.1.2, hh.2⟩
    obtain ⟨hl1, hl2⟩ := hlens
    rw [gSameR, hh, Bool.true_and]
    refine awp_skip ?_
    refine awp_seq ?_
    refine awp_seq ?_
    refine awp_region ?_
    refine al_d rfl rfl rfl (by exact opd_assign rfl rfl) ?_
    refine al_nil ?_
    refine awp_block ?_
    -- loop
    refine awp_loop (σ := Nat) (fun k => ([(2, .ref 2 0 0 0), (3, .ref 3 0 0 0), (5, iv (k : Int))], [(3, bx 6 30 ((encObj b).map .pv)), (2, bx 6 30 ((encObj a).map .pv))])) (fun k => k ≤ a.refs.length ∧ ∀ j, j < k → ∀ x y, a.refs[j]? = some x → b.refs[j]? = some y → strEq x y = true) (fun k => a.refs.length - k) 0 ⟨by omega, by omega⟩ ?_ ?_
    · exact (Ent.wk ⟨⟨_, rfl, rfl⟩, (by (simp; rfl)), ⟨_, rfl, rfl⟩, (by (simp; rfl)), ⟨_, rfl, rfl⟩, (by (simp; done)), trivial⟩ ⟨⟨_, rfl, rfl⟩, (by (simp; done)), ⟨_, rfl, rfl⟩, (by (simp; done)), trivial⟩ trivial)
    · rintro k ⟨hk, hall⟩
      refine awp_seq ?_
      refine awp_seq ?_
      refine awp_region ?_
      refine al_d rfl rfl rfl (by exact opd_move rfl rfl) ?_
      refine al_d rfl rfl rfl (by exact (by exact opd_field_ref rfl fo30_3 rfl rfl rfl rfl)) ?_
      refine al_d rfl rfl rfl (by exact (by exact opd_load1_ref rfl Tryz.isAgg27 rfl rfl rfl rfl rfl)) ?_
      refine al_d rfl rfl rfl (by exact (by exact opd_len_sl rfl Tryz.underlying27 rfl)) ?_
      refine al_d rfl rfl rfl (by exact opd_lss rfl rfl rfl) ?_
      refine al_nil ?_
      refine awp_cond rfl (fun hc2 => ?_) (fun hc2 => ?_)
      -- cond 2
      · have hlt : k < a.refs.length := by have := of_decide_eq_true hc2; omega
        obtain ⟨x, hx⟩ := get_of_lt hlt
        obtain ⟨y, hy⟩ := get_of_lt (l := b.refs) (k := k) (by omega)
        have hi := map_get (f := encStr) hx
        have hi2 := map_get (f := encStr) hy
        refine awp_skip ?_
        refine awp_seq ?_
        refine awp_block ?_
        refine awp_seq ?_
        refine awp_drawc follows ?_
        refine dc_cons (DStep.q rfl (by exact (by exact opd_field_ref rfl fo30_3 rfl rfl rfl rfl))) rfl ?_
        refine dc_cons (DStep.q rfl (by exact (by exact opd_load1_ref rfl Tryz.isAgg27 rfl rfl rfl rfl rfl))) rfl ?_
        refine dc_cons (DStep.q rfl (by exact opd_move rfl rfl)) rfl ?_
        refine dc_cons (DStep.q rfl (by exact (by exact x_index_pad rfl so27 rfl rfl (by omega) (by exact Int.toNat_natCast _) (by assumption) rfl))) rfl ?_
        refine dc_cons (DStep.q rfl (by exact (by exact opd_load1_pad rfl Tryz.isAgg9 rfl (by omega) rfl))) rfl ?_
        refine dc_cons (DStep.q rfl (by exact (by exact opd_field_ref rfl fo30_3 rfl rfl rfl rfl))) rfl ?_
        refine dc_cons (DStep.q rfl (by exact (by exact opd_load1_ref rfl Tryz.isAgg27 rfl rfl rfl rfl rfl))) rfl ?_
        refine dc_cons (DStep.q rfl (by exact opd_move rfl rfl)) rfl ?_
        refine dc_cons (DStep.q rfl (by exact (by exact x_index_pad rfl so27 rfl rfl (by omega) (by exact Int.toNat_natCast _) (by assumption) rfl))) rfl ?_
        refine dc_cons (DStep.q rfl (by exact (by exact opd_load1_pad rfl Tryz.isAgg9 rfl (by omega) rfl))) rfl ?_
        refine dc_cons (DStep.q rfl (by exact opd_sneq rfl rfl rfl)) rfl ?_
        refine dc_nil ⟨by kernel_rfl, ?_⟩
        refine awp_cond rfl (fun hc3 => ?_) (fun hc3 => ?_)
        -- cond 3
        · have ht : strEq x y = false := by
            have h : (!strEq x y) = true := hc3
            simpa using h
          refine awp_seq ?_
          refine awp_region ?_
          refine al_d rfl rfl rfl (by exact opd_assign rfl rfl) ?_
          refine al_nil ?_
          refine awp_ret ?_
          -- return
          refine aret1 (H' := []) (by exact .inr rfl) rfl (rval_tmp rfl) (Fin.wk (by simp) trivial trivial) ?_
          exact ⟨by rw [eqTo_bad hx hy ht]; rfl, rfl⟩
        · have ht : strEq x y = true := by
            have h : (!strEq x y) = false := hc3
            simpa using h
          refine awp_skip ?_
          refine awp_region ?_
          refine al_d rfl rfl rfl (by exact opd_move rfl rfl) ?_
          refine al_d rfl rfl rfl (by exact opd_add rfl rfl rfl (by exact w64 (by omega) (by omega))) ?_
          refine al_d rfl rfl rfl (by exact opd_assign rfl rfl) ?_
          refine al_nil ?_
          -- end of a round
          refine ⟨k + 1, ⟨by omega, fun j hj x' y' h1 h2 => ?_⟩, by omega, (Ent.wk ⟨⟨_, rfl, rfl⟩, (by (simp; rfl)), ⟨_, rfl, rfl⟩, (by (simp; rfl)), ⟨_, rfl, rfl⟩, (by (simp; done)), trivial⟩ ⟨⟨_, rfl, rfl⟩, (by (simp; done)), ⟨_, rfl, rfl⟩, (by (simp; done)), trivial⟩ trivial)⟩
          by_cases e : j = k
          · subst e; rw [hx] at h1; rw [hy] at h2; cases h1; cases h2; exact ht
          · exact hall j (by omega) x' y' h1 h2
      · have hge : k = a.refs.length := by have := of_decide_eq_false hc2; omega
        subst hge
        rw [eqTo_good hl1 hall, Bool.true_and]
        refine awp_exit ?_
        refine awp_seq ?_
        refine awp_seq ?_
        refine awp_region ?_
        refine al_d rfl rfl rfl (by exact opd_assign rfl rfl) ?_
        refine al_nil ?_
        refine awp_block ?_
        -- loop
        refine awp_loop (σ := Nat) (fun k => ([(2, .ref 2 0 0 0), (3, .ref 3 0 0 0), (6, iv (k : Int))], [(3, bx 6 30 ((encObj b).map .pv)), (2, bx 6 30 ((encObj a).map .pv))])) (fun k => k ≤ a.tags.length ∧ ∀ j, j < k → ∀ x y, a.tags[j]? = some x → b.tags[j]? = some y → tagEq x y = true) (fun k => a.tags.length - k) 0 ⟨by omega, by omega⟩ ?_ ?_
        · exact (Ent.wk ⟨⟨_, rfl, rfl⟩, (by (simp; rfl)), ⟨_, rfl, rfl⟩, (by (simp; rfl)), ⟨_, rfl, rfl⟩, (by (simp; done)), trivial⟩ ⟨⟨_, rfl, rfl⟩, (by (simp; done)), ⟨_, rfl, rfl⟩, (by (simp; done)), trivial⟩ trivial)
        · rintro k ⟨hk, hall2⟩
          refine awp_seq ?_
          refine awp_seq ?_
          refine awp_region ?_
          refine al_d rfl rfl rfl (by exact opd_move rfl rfl) ?_
          refine al_d rfl rfl rfl (by exact (by exact opd_field_ref rfl fo30_4 rfl rfl rfl rfl)) ?_
          refine al_d rfl rfl rfl (by exact (by exact opd_load1_ref rfl Tryz.isAgg28 rfl rfl rfl rfl rfl)) ?_
          refine al_d rfl rfl rfl (by exact (by exact opd_len_sl rfl Tryz.underlying28 rfl)) ?_
          refine al_d rfl rfl rfl (by exact opd_lss rfl rfl rfl) ?_
          refine al_nil ?_
          refine awp_cond rfl (fun hc4 => ?_) (fun hc4 => ?_)
          -- cond 4
          · have hlt : k < a.tags.length := by have := of_decide_eq_true hc4; omega
            obtain ⟨x, hx⟩ := get_of_lt hlt
            obtain ⟨y, hy⟩ := get_of_lt (l := b.tags) (k := k) (by omega)
            have hi := map_get (f := encTag) hx
            have hi2 := map_get (f := encTag) hy
            refine awp_skip ?_
            refine awp_seq ?_
            refine awp_block ?_
            refine awp_seq ?_
            refine awp_drawc follows ?_
            refine dc_cons (DStep.q rfl (by exact (by exact opd_field_ref rfl fo30_4 rfl rfl rfl rfl))) rfl ?_
            refine dc_cons (DStep.q rfl (by exact (by exact opd_load1_ref rfl Tryz.isAgg28 rfl rfl rfl rfl rfl))) rfl ?_
            refine dc_cons (DStep.q rfl (by exact opd_move rfl rfl)) rfl ?_
            refine dc_cons (DStep.q rfl (by exact (by exact x_index_pad rfl so28 rfl rfl (by omega) (by exact Int.toNat_natCast _) (by assumption) rfl))) rfl ?_
            refine dc_cons (DStep.q rfl (by exact (by exact opd_loadn_pad rfl Tryz.isAgg52 Tryz.sizeOf52 rfl (by omega) (by simp only [List.drop_succ_cons, List.drop_zero, List.take_succ_cons, List.take_zero, List.take_nil, List.map_cons, List.map_nil, List.set_cons_zero, List.set_cons_succ, List.cons_append, List.nil_append, encTag, encObj, encStr]; rfl) rfl))) rfl ?_
            refine dc_cons (DStep.q rfl (by exact (by exact opd_field_ref rfl fo30_4 rfl rfl rfl rfl))) rfl ?_
            refine dc_cons (DStep.q rfl (by exact (by exact opd_load1_ref rfl Tryz.isAgg28 rfl rfl rfl rfl rfl))) rfl ?_
            refine dc_cons (DStep.q rfl (by exact opd_move rfl rfl)) rfl ?_
            refine dc_cons (DStep.q rfl (by exact (by exact x_index_pad rfl so28 rfl rfl (by omega) (by exact Int.toNat_natCast _) (by assumption) rfl))) rfl ?_
            refine dc_cons (DStep.q rfl (by exact (by exact opd_loadn_pad rfl Tryz.isAgg52 Tryz.sizeOf52 rfl (by omega) (by simp only [List.drop_succ_cons, List.drop_zero, List.take_succ_cons, List.take_zero, List.take_nil, List.map_cons, List.map_nil, List.set_cons_zero, List.set_cons_succ, List.cons_append, List.nil_append, encTag, encObj, encStr]; rfl) rfl))) rfl ?_
            refine dc_cons (DStep.q rfl (by exact opd_aneq rfl rfl rfl rfl rfl Tryz.eqGuardType52 (se52 _ _ _ _))) rfl ?_
            refine dc_nil ⟨by kernel_rfl, ?_⟩
            refine awp_cond rfl (fun hc5 => ?_) (fun hc5 => ?_)
            -- cond 5
            · have ht : tagEq x y = false := by
                have h : (!tagEq x y) = true := hc5
                simpa using h
              refine awp_seq ?_
              refine awp_region ?_
              refine al_d rfl rfl rfl (by exact opd_assign rfl rfl) ?_
              refine al_nil ?_
              refine awp_ret ?_
              -- return
              refine aret1 (H' := []) (by exact .inr rfl) rfl (rval_tmp rfl) (Fin.wk (by simp) trivial trivial) ?_
              exact ⟨by rw [eqTo_bad hx hy ht], rfl⟩
            · have ht : tagEq x y = true := by
                have h : (!tagEq x y) = false := hc5
                simpa using h
              refine awp_skip ?_
              refine awp_region ?_
              refine al_d rfl rfl rfl (by exact opd_move rfl rfl) ?_
              refine al_d rfl rfl rfl (by exact opd_add rfl rfl rfl (by exact w64 (by omega) (by omega))) ?_
              refine al_d rfl rfl rfl (by exact opd_assign rfl rfl) ?_
              refine al_nil ?_
              -- end of a round
              refine ⟨k + 1, ⟨by omega, fun j hj x' y' h1 h2 => ?_⟩, by omega, (Ent.wk ⟨⟨_, rfl, rfl⟩, (by (simp; rfl)), ⟨_, rfl, rfl⟩, (by (simp; rfl)), ⟨_, rfl, rfl⟩, (by (simp; done)), trivial⟩ ⟨⟨_, rfl, rfl⟩, (by (simp; done)), ⟨_, rfl, rfl⟩, (by (simp; done)), trivial⟩ trivial)⟩
              by_cases e : j = k
              · subst e; rw [hx] at h1; rw [hy] at h2; cases h1; cases h2; exact ht
              · exact hall2 j (by omega) x' y' h1 h2
          · have hge : k = a.tags.length := by have := of_decide_eq_false hc4; omega
            subst hge
            refine awp_exit ?_
            refine awp_seq ?_
            refine awp_region ?_
            refine al_d rfl rfl rfl (by exact opd_assign rfl rfl) ?_
            refine al_nil ?_
            refine awp_ret ?_
            -- return
            refine aret1 (H' := []) (by exact .inr rfl) rfl (rval_tmp rfl) (Fin.wk (by simp) trivial trivial) ?_
            exact ⟨by rw [eqTo_good hl2 hall2], rfl⟩
def gSameM (a b : List GObj) : Bool := eqTo gSameR a b
theorem gSameM_iff {a b : List GObj} : gSameM a b = true ↔ a = b := eqTo_iff (fun _ _ => gSameR_iff)
def okL (m : List GObj) : Prop := m.length < 4611686018427387904 ∧ ∀ o ∈ m, o.refs.length < 4611686018427387904 ∧ o.tags.length < 4611686018427387904
theorem same12_c (a b : List GObj) (H : Heap) (ha : okL a) : ACalls Tryz.prog 19 [.agg [.pv (slObjs a)], .agg [.pv (slObjs b)]] H (fun r H' => r = bv (gSameM a b) ∧ H' = H) := by
  refine ACalls.pure ?_ (by simp) H
  have hma : (a.map encObj).length = a.length := List.length_map _
  have hmb : (b.map encObj).length = b.length := List.length_map _
  have hl := ha.1
  rw [gSameM]
  refine ACalls.body Tryz.func19 rfl Tryz.ntmps19 (Nat.le_of_ble_eq_true rfl) ?_
  refine awp_seq ?_
  refine awp_region ?_
  refine al_d rfl rfl rfl (by exact opd_box (id := 2) rfl rfl rfl rfl rfl) ?_
  refine al_d rfl rfl rfl (by exact opd_box (id := 3) rfl rfl rfl rfl rfl) ?_
  refine al_d rfl rfl rfl (by exact opd_assign rfl rfl) ?_
  refine al_nil ?_
  refine awp_seq ?_
  refine awp_seq ?_
  refine awp_region ?_
  refine al_d rfl rfl rfl (by exact (by exact opd_field_ref rfl fo24_0 rfl rfl rfl rfl)) ?_
  refine al_d rfl rfl rfl (by exact (by exact opd_load1_ref rfl Tryz.isAgg22 rfl rfl rfl rfl rfl)) ?_
  refine al_d rfl rfl rfl (by exact (by exact opd_len_sl rfl Tryz.underlying22 rfl)) ?_
  refine al_d rfl rfl rfl (by exact (by exact opd_field_ref rfl fo24_0 rfl rfl rfl rfl)) ?_
  refine al_d rfl rfl rfl (by exact (by exact opd_load1_ref rfl Tryz.isAgg22 rfl rfl rfl rfl rfl)) ?_
  refine al_d rfl rfl rfl (by exact (by exact opd_len_sl rfl Tryz.underlying22 rfl)) ?_
  refine al_d rfl rfl rfl (by exact opd_neq rfl rfl rfl) ?_
  refine al_nil ?_
  refine awp_cond rfl (fun hc1 => ?_) (fun hc1 => ?_)
  -- cond 1
  · have hne : ¬ a.length = b.length := by
      simp only [hma, hmb, Bool.not_eq_true', decide_eq_false_iff_not] at hc1
      omega
    refine awp_seq ?_
    refine awp_region ?_
    refine al_d rfl rfl rfl (by exact opd_assign rfl rfl) ?_
    refine al_nil ?_
    refine awp_ret ?_
    -- return
    refine aret1 (H' := []) (by exact .inr rfl) rfl (rval_tmp rfl) (Fin.wk (by simp) trivial trivial) ?_
    exact ⟨by rw [eqTo_len hne], rfl⟩
  · have heq : a.length = b.length := by
      simp only [hma, hmb, Bool.not_eq_false', decide_eq_true_eq] at hc1
      omega
    refine awp_skip ?_
    refine awp_seq ?_
    refine awp_seq ?_
    refine awp_region ?_
    refine al_d rfl rfl rfl (by exact opd_assign rfl rfl) ?_
    refine al_nil ?_
    refine awp_block ?_
    -- loop
    refine awp_loop (σ := Nat) (fun k => ([(2, .ref 2 0 0 0), (3, .ref 3 0 0 0), (5, iv (k : Int))], [(3, bx 1 24 [.pv (slObjs b)]), (2, bx 1 24 [.pv (slObjs a)])])) (fun k => k ≤ a.length ∧ ∀ j, j < k → ∀ x y, a[j]? = some x → b[j]? = some y → gSameR x y = true) (fun k => a.length - k) 0 ⟨by omega, by omega⟩ ?_ ?_
    · exact (Ent.wk ⟨⟨_, rfl, rfl⟩, (by (simp; rfl)), ⟨_, rfl, rfl⟩, (by (simp; rfl)), ⟨_, rfl, rfl⟩, (by (simp; done)), trivial⟩ ⟨⟨_, rfl, rfl⟩, (by (simp; done)), ⟨_, rfl, rfl⟩, (by (simp; done)), trivial⟩ trivial)
    · rintro k ⟨hk, hall⟩
      refine awp_seq ?_
      refine awp_seq ?_
      refine awp_region ?_
      refine al_d rfl rfl rfl (by exact opd_move rfl rfl) ?_
      refine al_d rfl rfl rfl (by exact (by exact opd_field_ref rfl fo24_0 rfl rfl rfl rfl)) ?_
      refine al_d rfl rfl rfl (by exact (by exact opd_load1_ref rfl Tryz.isAgg22 rfl rfl rfl rfl rfl)) ?_
      refine al_d rfl rfl rfl (by exact (by exact opd_len_sl rfl Tryz.underlying22 rfl)) ?_
      refine al_d rfl rfl rfl (by exact opd_lss rfl rfl rfl) ?_
      refine al_nil ?_
      refine awp_cond rfl (fun hc2 => ?_) (fun hc2 => ?_)
      -- cond 2
      · have hlt : k < a.length := by have := of_decide_eq_true hc2; omega
        obtain ⟨x, hx⟩ := get_of_lt hlt
        obtain ⟨y, hy⟩ := get_of_lt (l := b) (k := k) (by omega)
        have hi := map_get (f := encObj) hx
        have hi2 := map_get (f := encObj) hy
        have hox := ha.2 x (List.mem_of_getElem? hx)
        refine awp_skip ?_
        refine awp_seq ?_
        refine awp_block ?_
        refine awp_seq ?_
        refine awp_drawc follows ?_
        refine dc_cons (DStep.q rfl (by exact (by exact opd_field_ref rfl fo24_0 rfl rfl rfl rfl))) rfl ?_
        refine dc_cons (DStep.q rfl (by exact (by exact opd_load1_ref rfl Tryz.isAgg22 rfl rfl rfl rfl rfl))) rfl ?_
        refine dc_cons (DStep.q rfl (by exact opd_move rfl rfl)) rfl ?_
        refine dc_cons (DStep.q rfl (by exact (by exact x_index_pad rfl so22 rfl rfl (by omega) (by exact Int.toNat_natCast _) (by assumption) rfl))) rfl ?_
        refine dc_cons (DStep.q rfl (by exact (by exact opd_loadn_pad rfl Tryz.isAgg30 Tryz.sizeOf30 rfl (by omega) (by simp only [List.drop_succ_cons, List.drop_zero, List.take_succ_cons, List.take_zero, List.take_nil, List.map_cons, List.map_nil, List.set_cons_zero, List.set_cons_succ, List.cons_append, List.nil_append, encTag, encObj, encStr]; rfl) rfl))) rfl ?_
        refine dc_cons (DStep.q rfl (by exact (by exact opd_field_ref rfl fo24_0 rfl rfl rfl rfl))) rfl ?_
        refine dc_cons (DStep.q rfl (by exact (by exact opd_load1_ref rfl Tryz.isAgg22 rfl rfl rfl rfl rfl))) rfl ?_
        refine dc_cons (DStep.q rfl (by exact opd_move rfl rfl)) rfl ?_
        refine dc_cons (DStep.q rfl (by exact (by exact x_index_pad rfl so22 rfl rfl (by omega) (by exact Int.toNat_natCast _) (by assumption) rfl))) rfl ?_
        refine dc_cons (DStep.q rfl (by exact (by exact opd_loadn_pad rfl Tryz.isAgg30 Tryz.sizeOf30 rfl (by omega) (by simp only [List.drop_succ_cons, List.drop_zero, List.take_succ_cons, List.take_zero, List.take_nil, List.map_cons, List.map_nil, List.set_cons_zero, List.set_cons_succ, List.cons_append, List.nil_append, encTag, encObj, encStr]; rfl) rfl))) rfl ?_
        refine dc_cons (DStep.q rfl (by exact opr_call rfl rfl Tryz.call50 rfl (same11_c x y _ hox.1 hox.2))) rfl ?_
        refine dc_cons (DStep.q rfl (by exact opd_not rfl rfl)) rfl ?_
        refine dc_nil ⟨by kernel_rfl, ?_⟩
        refine awp_cond rfl (fun hc3 => ?_) (fun hc3 => ?_)
        -- cond 3
        · have ht : gSameR x y = false := by
            have h : (!gSameR x y) = true := hc3
            simpa using h
          refine awp_seq ?_
          refine awp_region ?_
          refine al_d rfl rfl rfl (by exact opd_assign rfl rfl) ?_
          refine al_nil ?_
          refine awp_ret ?_
          -- return
          refine aret1 (H' := []) (by exact .inr rfl) rfl (rval_tmp rfl) (Fin.wk (by simp) trivial trivial) ?_
          exact ⟨by rw [eqTo_bad hx hy ht], rfl⟩
        · have ht : gSameR x y = true := by
            have h : (!gSameR x y) = false := hc3
            simpa using h
          refine awp_skip ?_
          refine awp_region ?_
          refine al_d rfl rfl rfl (by exact opd_move rfl rfl) ?_
          refine al_d rfl rfl rfl (by exact opd_add rfl rfl rfl (by exact w64 (by omega) (by omega))) ?_
          refine al_d rfl rfl rfl (by exact opd_assign rfl rfl) ?_
          refine al_nil ?_
          -- end of a round
          refine ⟨k + 1, ⟨by omega, fun j hj x' y' h1 h2 => ?_⟩, by omega, (Ent.wk ⟨⟨_, rfl, rfl⟩, (by (simp; rfl)), ⟨_, rfl, rfl⟩, (by (simp; rfl)), ⟨_, rfl, rfl⟩, (by (simp; done)), trivial⟩ ⟨⟨_, rfl, rfl⟩, (by (simp; done)), ⟨_, rfl, rfl⟩, (by (simp; done)), trivial⟩ trivial)⟩
          by_cases e : j = k
          · subst e; rw [hx] at h1; rw [hy] at h2; cases h1; cases h2; exact ht
          · exact hall j (by omega) x' y' h1 h2
      · have hge : k = a.length := by have := of_decide_eq_false hc2; omega
        subst hge
        refine awp_exit ?_
        refine awp_seq ?_
        refine awp_region ?_
        refine al_d rfl rfl rfl (by exact opd_assign rfl rfl) ?_
        refine al_nil ?_
        refine awp_ret ?_
        -- return
        refine aret1 (H' := []) (by exact .inr rfl) rfl (rval_tmp rfl) (Fin.wk (by simp) trivial trivial) ?_
        exact ⟨by rw [eqTo_good heq hall], rfl⟩
end Go.Proofs.YtdcifaldfmpapaaGreat
end
section
set_option linter.unusedVariables false
set_option linter.unusedSimpArgs false
set_option maxRecDepth 100000
namespace Go.Proofs.YtdcifaldfmpapaaGreat
open Go.Abs

theorem same12_t {a b : List GObj} (h : a = b) (H : Heap) (ha : okL a) : ACalls Tryz.prog 19 [.agg [.pv (slObjs a)], .agg [.pv (slObjs b)]] H (fun r H' => r = bv true ∧ H' = H) := by
  have := same12_c a b H ha
  rwa [gSameM_iff.2 h] at this
end Go.Proofs.YtdcifaldfmpapaaGreat
end
section
set_option linter.unusedVariables false
set_option linter.unusedSimpArgs false
set_option maxRecDepth 100000
namespace Go.Proofs.YtdcifaldfmpapaaGreat
open Go.Abs

theorem apply_ok {m : List GObj} {e : GEdit} (hm : okM m) (he : okE e) (h : (gApply m e).2 = 0) : closedB m = true ∧ gEditV e = true ∧ closedB (gApply m e).1 = true ∧ okM (gApply m e).1 := by
  unfold gApply at h ⊢
  split at h
  · rename_i h1
    rw [if_pos h1]
    exact ⟨h1, (eff_of (closed_gMap h1) h).1, after_closed h1 h, after_okM hm (closed_gMap h1) he h⟩
  · cases h
end Go.Proofs.YtdcifaldfmpapaaGreat
end
section
set_option linter.unusedVariables false
set_option linter.unusedSimpArgs false
set_option maxRecDepth 100000
namespace Go.Proofs.YtdcifaldfmpapaaGreat
open Go.Abs
/-- The old object with what an edit of its kind changes. -/
def Means (nx : List GObj) (e : GEdit) (o o' : GObj) : Prop :=
  (e.op = 2 ∧ o' = ⟨o.id, o.kind, e.x, e.y, o.refs, o.tags⟩) ∨
  (e.op = 3 ∧ o' = ⟨o.id, o.kind, o.x, o.y, o.refs, o'.tags⟩ ∧ (∀ t, t ∈ o'.tags → t.key = e.key → t.val = e.val) ∧ (e.val ≠ sNil → ∃ t, t ∈ o'.tags ∧ t.key = e.key)) ∨
  (e.op = 4 ∧ o' = ⟨o.id, o.kind, o.x, o.y, e.refs, o.tags⟩) ∨
  (e.op = 6 ∧ (∃ y, look nx e.other = some y) ∧ o' = ⟨o.id, o.kind, o.x, o.y, o'.refs, o.tags⟩) ∨
  (e.op = 7 ∧ look nx e.other = none ∧ o' = ⟨o.id, o.kind, o.x, o.y, o'.refs, o.tags⟩)
end Go.Proofs.YtdcifaldfmpapaaGreat
end
section
set_option linter.unusedVariables false
set_option linter.unusedSimpArgs false
set_option maxRecDepth 100000
namespace Go.Proofs.YtdcifaldfmpapaaGreat
open Go.Abs
/-- What a possible edit puts and drops, by operations. -/
inductive Perf (m : List GObj) (e : GEdit) : GRes → Prop
  | put (ho : e.op = 1) (hn : kindOf m e.obj.id = none) (hr : refErr m e.obj.kind 0 e.obj.refs = 0) : Perf m e ⟨[e.obj], sNil, 0⟩
  | move (o : GObj) (ho : e.op = 2) (hl : look m e.id = some o) (hf : fitsB 2 o.kind = true) : Perf m e ⟨[⟨o.id, o.kind, e.x, e.y, o.refs, o.tags⟩], sNil, 0⟩
  | tag (o : GObj) (ho : e.op = 3) (hl : look m e.id = some o) (hs : (gSet o.tags e.key e.val).2 = 0) : Perf m e ⟨[⟨o.id, o.kind, o.x, o.y, o.refs, (gSet o.tags e.key e.val).1⟩], sNil, 0⟩
  | refs (o : GObj) (ho : e.op = 4) (hl : look m e.id = some o) (hf : fitsB 4 o.kind = true) (hg : gObj ⟨o.id, o.kind, o.x, o.y, e.refs, o.tags⟩ = true) (hr : refErr m o.kind 0 e.refs = 0) : Perf m e ⟨[⟨o.id, o.kind, o.x, o.y, e.refs, o.tags⟩], sNil, 0⟩
  | drop (o : GObj) (ho : e.op = 5) (hl : look m e.id = some o) (hr : gRefd m false [e.id] = false) : Perf m e ⟨[], e.id, 0⟩
  | split (o : GObj) (ho : e.op = 6) (hl : look m e.id = some o) (hf : fitsB 6 o.kind = true) (hn : kindOf m e.other = none) (hi : ¬ gInner o.refs e.node < 0) (hr : gRefd m true [e.id] = false) :
      Perf m e ⟨[⟨o.id, o.kind, o.x, o.y, o.refs.take ((gInner o.refs e.node).toNat + 1), o.tags⟩, ⟨e.other, 2, 0, 0, o.refs.drop (gInner o.refs e.node).toNat, o.tags⟩], sNil, 0⟩
  | join (o x : GObj) (ho : e.op = 7) (hl : look m e.id = some o) (hf : fitsB 7 o.kind = true) (hx : look m e.other = some x) (hk : x.kind = 2) (hi : (decide (e.id = e.other) || !decide (atS o.refs (o.refs.length - 1) = atS x.refs 0)) = false) (hr : gRefd m true [e.id, e.other] = false) (hlen : ¬ 2000 < o.refs.length + x.refs.length - 1) :
      Perf m e ⟨[⟨o.id, o.kind, o.x, o.y, [o.refs, x.refs.drop 1].flatten, o.tags⟩], e.other, 0⟩
theorem perf_of {m : List GObj} {e : GEdit} (hv : gEditV e = true) (h : (gPerform m e).err = 0) : Perf m e (gPerform m e) := by
  obtain ⟨⟨o1, o2⟩, b2, b3⟩ := gEditV_iff.1 hv
  unfold gPerform at h ⊢
  split at h
  · next ho =>
    rw [if_pos ho]
    split at h
    · exact absurd h (by decide)
    · next hk =>
      rw [if_neg hk]
      have h' : refErr m e.obj.kind 0 e.obj.refs = 0 := h
      rw [h']
      exact .put ho (by simpa using hk) h'
  · next ho =>
    rw [if_neg ho]
    split at h
    · exact absurd h (by decide)
    · next o hl =>
      split at h
      · exact absurd h (by decide)
      · next h7 =>
        rw [if_neg h7]
        split at h
        · exact absurd h (by decide)
        · next hfit =>
          rw [if_neg hfit]
          rw [Bool.not_eq_true, Bool.not_eq_false'] at hfit
          split at h
          · next h2 =>
            rw [if_pos h2]
            rw [h2] at hfit
            exact .move o h2 hl hfit
          · next h2 =>
            rw [if_neg h2]
            split at h
            · next h3 =>
              rw [if_pos h3]
              split at h
              · next hs =>
                have hs' : ¬ (gSet o.tags e.key e.val).2 = 0 := by simpa using hs
                exact absurd h hs'
              · next hs =>
                rw [if_neg hs]
                exact .tag o h3 hl (by simpa using hs)
            · next h3 =>
              rw [if_neg h3]
              split at h
              · next h4 =>
                rw [if_pos h4]
                split at h
                · exact absurd h (by decide)
                · next hgo =>
                  rw [if_neg hgo]
                  rw [h4] at hfit
                  have h' : refErr m o.kind 0 e.refs = 0 := h
                  rw [h']
                  exact .refs o h4 hl hfit (by simpa using hgo) h'
              · next h4 =>
                rw [if_neg h4]
                split at h
                · next h5 =>
                  rw [if_pos h5]
                  split at h
                  · exact absurd h (by decide)
                  · next hr =>
                    rw [if_neg hr]
                    exact .drop o h5 hl (by simpa using hr)
                · next h5 =>
                  rw [if_neg h5]
                  split at h
                  · next h6 =>
                    rw [if_pos h6]
                    rw [h6] at hfit
                    unfold gSplit at h ⊢
                    split at h
                    · exact absurd h (by decide)
                    · next hk =>
                      rw [if_neg hk]
                      split at h
                      · exact absurd h (by decide)
                      · next hi =>
                        rw [if_neg hi]
                        split at h
                        · exact absurd h (by decide)
                        · next hr =>
                          rw [if_neg hr]
                          exact .split o h6 hl hfit (by simpa using hk) (by simpa using hi) (by simpa using hr)
                  · next h6 =>
                    rw [if_neg h6]
                    have h77 : e.op = 7 := by omega
                    rw [h77] at hfit
                    cases hl2 : look m e.other with
                    | none =>
                      have hl2' : m.find? (idIs e.other) = none := hl2
                      rw [h77, hl2'] at h7; exact absurd rfl h7
                    | some x =>
                      have hl2' : m.find? (idIs e.other) = some x := hl2
                      simp only [hl2', Option.getD_some] at h ⊢
                      unfold gJoin at h ⊢
                      split at h
                      · exact absurd h (by decide)
                      · next hk =>
                        rw [if_neg hk]
                        split at h
                        · exact absurd h (by decide)
                        · next hi =>
                          rw [if_neg hi]
                          split at h
                          · exact absurd h (by decide)
                          · next hr =>
                            rw [if_neg hr]
                            split at h
                            · exact absurd h (by decide)
                            · next hlen =>
                              rw [if_neg hlen]
                              exact .join o x h77 hl hfit hl2 (by simpa using hk) (by rwa [Bool.not_eq_true] at hi) (by simpa using hr) (by simpa using hlen)
theorem of_perf {m : List GObj} {e : GEdit} {r : GRes} (h : Perf m e r) : gPerform m e = r := by
  cases h with
  | put ho hn hr => unfold gPerform; rw [if_pos ho, hn, if_neg (by decide), hr]
  | move o ho hl hf =>
    have hl' : m.find? (idIs e.id) = some o := hl
    unfold gPerform
    rw [if_neg (by omega)]
    simp only [hl']
    rw [if_neg (by rw [ho]; simp), ho, hf, if_neg (by decide), if_pos rfl]
  | tag o ho hl hs =>
    have hl' : m.find? (idIs e.id) = some o := hl
    have hf : fitsB 3 o.kind = true := rfl
    unfold gPerform
    rw [if_neg (by omega)]
    simp only [hl']
    rw [if_neg (by rw [ho]; simp), ho, hf, if_neg (by decide), if_neg (by decide), if_pos rfl, if_neg (by simp [hs])]
  | refs o ho hl hf hg hr =>
    have hl' : m.find? (idIs e.id) = some o := hl
    unfold gPerform
    rw [if_neg (by omega)]
    simp only [hl']
    rw [if_neg (by rw [ho]; simp), ho, hf, if_neg (by decide), if_neg (by decide), if_neg (by decide), if_pos rfl, if_neg (by simp [hg]), hr]
  | drop o ho hl hr =>
    have hl' : m.find? (idIs e.id) = some o := hl
    have hf : fitsB 5 o.kind = true := rfl
    unfold gPerform
    rw [if_neg (by omega)]
    simp only [hl']
    rw [if_neg (by rw [ho]; simp), ho, hf, if_neg (by decide), if_neg (by decide), if_neg (by decide), if_neg (by decide), if_pos rfl, if_neg (by simp [hr])]
  | split o ho hl hf hn hi hr =>
    have hl' : m.find? (idIs e.id) = some o := hl
    unfold gPerform
    rw [if_neg (by omega)]
    simp only [hl']
    rw [if_neg (by rw [ho]; simp), ho, hf, if_neg (by decide), if_neg (by decide), if_neg (by decide), if_neg (by decide), if_neg (by decide), if_pos rfl]
    unfold gSplit
    rw [if_neg (by simp [hn]), if_neg (by simpa using hi), if_neg (by simp [hr])]
  | join o x ho hl hf hx hk hi hr hlen =>
    have hl' : m.find? (idIs e.id) = some o := hl
    have hx' : m.find? (idIs e.other) = some x := hx
    unfold gPerform
    rw [if_neg (by omega)]
    simp only [hl', hx', Option.getD_some]
    rw [if_neg (by simp), ho, hf, if_neg (by decide), if_neg (by decide), if_neg (by decide), if_neg (by decide), if_neg (by decide), if_neg (by decide)]
    unfold gJoin
    rw [if_neg (by simp [hk]), if_neg (by rw [hi]; decide), if_neg (by simp [hr]), if_neg (by simpa using hlen)]
/-- A string that an edit mentions, or the empty one. -/
def raw (e : GEdit) (s : ByteArray) : Prop := s = e.id ∨ s = e.other ∨ s = e.node ∨ s = e.obj.id ∨ s ∈ e.refs ∨ s ∈ e.obj.refs
theorem sputQ_mem {l : List ByteArray} {s x : ByteArray} : x ∈ sput l s ↔ x ∈ l ∨ x = s := by
  unfold sput
  split
  · next h =>
    have := inB_iff.1 h
    constructor
    · exact .inl
    · rintro (h | rfl)
      · exact h
      · exact this
  · rw [List.mem_append, List.mem_singleton]
theorem addAll_mem : ∀ {l L : List ByteArray} {x : ByteArray}, x ∈ addAll L l ↔ x ∈ L ∨ x ∈ l
  | [], L, x => by simp [addAll]
  | s :: l, L, x => by
    show x ∈ addAll (sput L s) l ↔ _
    rw [addAll_mem, sputQ_mem, List.mem_cons, or_assoc]
theorem names_mem {e : GEdit} {s : ByteArray} (hv : gEditV e = true) : s ∈ gNames e ↔ raw e s ∧ s ≠ sNil := by
  rw [gNames, if_pos hv, (sortS_perm _).mem_iff, List.mem_filter, idsOf, addAll_mem, addAll_mem, addAll_mem]
  simp only [nonE, Bool.not_eq_true', decide_eq_false_iff_not, List.not_mem_nil, false_or, List.mem_cons, or_false, raw, or_assoc]
theorem gObj_id {o : GObj} (h : gObj o = true) : o.id ≠ sNil := gName_ne (gObj_len h).2.2.2.1
theorem okOf_id {e : GEdit} (h : okOf e = true) (h1 : e.op ≠ 1) : e.id ≠ sNil := by
  rw [okOf, if_neg h1, Bool.and_eq_true] at h
  exact gName_ne h.1
theorem okOf_other {e : GEdit} (h : okOf e = true) (h1 : e.op = 6 ∨ e.op = 7) : e.other ≠ sNil := by
  rw [okOf, if_neg (by omega), Bool.and_eq_true, if_neg (by omega), if_neg (by omega), if_neg (by omega), if_neg (by omega)] at h
  have h2 := h.2
  split at h2
  · rw [Bool.and_eq_true] at h2; exact gName_ne h2.2
  · exact gName_ne h2
theorem okOf_obj {e : GEdit} (h : okOf e = true) (h1 : e.op = 1) : e.obj.id ≠ sNil := by
  rw [okOf, if_pos h1] at h
  exact gObj_id h
/-- What a possible edit puts and drops is among its names. -/
theorem perf_names {m : List GObj} {e : GEdit} {r : GRes} (hv : gEditV e = true) (h : Perf m e r) : (∀ o, o ∈ r.put → o.id ∈ gNames e) ∧ (r.drop = sNil ∨ r.drop ∈ gNames e) ∧ (r.put.length + (if r.drop = sNil then 0 else 1) ≤ 2) := by
  obtain ⟨_, hk, _⟩ := gEditV_iff.1 hv
  have hid : ∀ o, look m e.id = some o → e.op ≠ 1 → o.id ∈ gNames e := fun o hl h1 => by
    rw [look_id hl]
    exact (names_mem hv).2 ⟨.inl rfl, okOf_id hk h1⟩
  have one : ∀ (x y : GObj), x ∈ [y] → x = y := fun x y hx => List.mem_singleton.1 hx
  cases h with
  | put ho hn hr => exact ⟨fun o h => by rw [one _ _ h]; exact (names_mem hv).2 ⟨.inr (.inr (.inr (.inl rfl))), okOf_obj hk ho⟩, .inl rfl, by simp⟩
  | move o ho hl hf => exact ⟨fun x h => by rw [one _ _ h]; exact hid o hl (by omega), .inl rfl, by simp⟩
  | tag o ho hl hs => exact ⟨fun x h => by rw [one _ _ h]; exact hid o hl (by omega), .inl rfl, by simp⟩
  | refs o ho hl hf hg hr => exact ⟨fun x h => by rw [one _ _ h]; exact hid o hl (by omega), .inl rfl, by simp⟩
  | drop o ho hl hr => exact ⟨fun x h => (by cases h), .inr ((names_mem hv).2 ⟨.inl rfl, okOf_id hk (by omega)⟩), by show 0 + _ ≤ 2; split <;> omega⟩
  | split o ho hl hf hn hi hr =>
    refine ⟨fun x h => ?_, .inl rfl, by simp⟩
    rcases List.mem_cons.1 h with h | h
    · rw [h]; exact hid o hl (by omega)
    · rw [one _ _ h]; exact (names_mem hv).2 ⟨.inr (.inl rfl), okOf_other hk (.inl ho)⟩
  | join o x ho hl hf hx hk2 hi hr hlen => exact ⟨fun x h => by rw [one _ _ h]; exact hid o hl (by omega), .inr ((names_mem hv).2 ⟨.inr (.inl rfl), okOf_other hk (.inr ho)⟩), by show 1 + _ ≤ 2; split <;> omega⟩
theorem gRefd_iff {m : List GObj} {r : Bool} {ids : List ByteArray} : gRefd m r ids = false ↔ ∀ x, x ∈ m → refsTo r ids x = false := by
  rw [gRefd, List.any_eq_false]
  exact ⟨fun h x hx => by have := h x hx; rwa [Bool.not_eq_true] at this, fun h x hx => by rw [h x hx]; decide⟩
theorem refsTo_sub {r : Bool} {ids : List ByteArray} {o x : GObj} (hk : x.kind = o.kind) (hs : ∀ s, s ∈ x.refs → s ∈ o.refs) (h : refsTo r ids o = false) : refsTo r ids x = false := by
  unfold refsTo at h ⊢
  rw [Bool.and_eq_false_iff] at h ⊢
  rcases h with h | h
  · left; rw [hk]; exact h
  · right
    rw [List.any_eq_false] at h ⊢
    exact fun s hx => h s (hs s hx)
theorem refsTo_no {r : Bool} {ids : List ByteArray} {o : GObj} (h : ∀ s, s ∈ o.refs → s ∉ ids) : refsTo r ids o = false := by
  unfold refsTo
  rw [Bool.and_eq_false_iff]
  right
  rw [List.any_eq_false]
  exact fun s hx hi => h s hx (inB_iff.1 hi)
/-- What an edit puts refers to none of some names if no object of the map does, and the edit names none of them. -/
theorem perf_refd {m : List GObj} {e : GEdit} {r : GRes} (hc : closedB m = true) (hv : gEditV e = true) (h : Perf m e r) {b : Bool} {ids : List ByteArray} (hn : ∀ s, s ∈ ids → s ∉ gNames e ∧ s ≠ sNil) (hr : gRefd m b ids = false) : ∀ o, o ∈ r.put → refsTo b ids o = false := by
  have hraw : ∀ s, raw e s → s ∉ ids := fun s hs hi => (hn s hi).1 ((names_mem hv).2 ⟨hs, (hn s hi).2⟩)
  have hin : ∀ o, look m e.id = some o → refsTo b ids o = false := fun o hl => gRefd_iff.1 hr o (look_mem hl)
  have one : ∀ (x y : GObj), x ∈ [y] → x = y := fun x y hx => List.mem_singleton.1 hx
  intro x hx
  cases h with
  | put ho _ _ => rw [one _ _ hx]; exact refsTo_no fun s hs => hraw s (.inr (.inr (.inr (.inr (.inr hs)))))
  | move o ho hl hf => rw [one _ _ hx]; exact refsTo_sub (o := o) rfl (fun s hs => hs) (hin o hl)
  | tag o ho hl hs => rw [one _ _ hx]; exact refsTo_sub (o := o) rfl (fun s hs => hs) (hin o hl)
  | refs o ho hl hf hg _ => rw [one _ _ hx]; exact refsTo_no fun s hs => hraw s (.inr (.inr (.inr (.inr (.inl hs)))))
  | drop o ho hl _ => cases hx
  | split o ho hl hf _ hi _ =>
    have hk : o.kind = 2 := by simpa [fitsB] using hf
    rcases List.mem_cons.1 hx with h | h
    · rw [h]; exact refsTo_sub (o := o) rfl (fun s hs => List.mem_of_mem_take hs) (hin o hl)
    · rw [one _ _ h]; exact refsTo_sub (o := o) hk.symm (fun s hs => List.mem_of_mem_drop hs) (hin o hl)
  | join o y ho hl hf hy hk2 hi _ hlen =>
    have hk : o.kind = 2 := by simpa [fitsB] using hf
    rw [one _ _ hx]
    have h1 := hin o hl
    have h2 : refsTo b ids y = false := gRefd_iff.1 hr y (look_mem hy)
    unfold refsTo at h1 h2 ⊢
    rw [Bool.and_eq_false_iff] at h1 h2 ⊢
    rcases h1 with h1 | h1
    · exact .inl h1
    · rcases h2 with h2 | h2
      · left; rw [hk2] at h2; show (!b || decide (4 ≤ o.kind)) = false; rw [hk]; exact h2
      · right
        rw [List.any_eq_false] at h1 h2 ⊢
        intro s hs
        have hs : s ∈ [o.refs, y.refs.drop 1].flatten := hs
        simp only [List.flatten_cons, List.flatten_nil, List.append_nil, List.mem_append] at hs
        rcases hs with h | h
        · exact h1 s h
        · exact h2 s (List.mem_of_mem_drop h)
/-- What a possible edit leads to stays possible, and the same, where nothing that it names is changed. -/
theorem perf_stays {m a : List GObj} {y : GEdit} {r : GRes} (hv : gEditV y = true) (h : Perf m y r) (hl : ∀ s, raw y s → look a s = look m s) (hr : ∀ b ids, (∀ s, s ∈ ids → s ∈ gNames y) → gRefd m b ids = false → gRefd a b ids = false) : Perf a y r := by
  obtain ⟨_, hk, _⟩ := gEditV_iff.1 hv
  have hK : ∀ s, raw y s → kindOf a s = kindOf m s := fun s hs => by rw [kindOf_look, kindOf_look, hl s hs]
  have hE : ∀ (kind : Int) (refs : List ByteArray), (∀ s, s ∈ refs → raw y s) → refErr m kind 0 refs = 0 → refErr a kind 0 refs = 0 := fun kind refs hs h0 => by
    rw [refErr_ok] at h0 ⊢
    intro i s hi
    rw [hK s (hs s (List.mem_of_getElem? hi))]
    exact h0 i s hi
  have hi1 : raw y y.id := .inl rfl
  have hid : y.op ≠ 1 → y.id ∈ gNames y := fun h1 => (names_mem hv).2 ⟨.inl rfl, okOf_id hk h1⟩
  have hoth : y.op = 6 ∨ y.op = 7 → y.other ∈ gNames y := fun h1 => (names_mem hv).2 ⟨.inr (.inl rfl), okOf_other hk h1⟩
  cases h with
  | put ho hn h1 => exact .put ho (by rw [hK _ (.inr (.inr (.inr (.inl rfl))))]; exact hn) (hE _ _ (fun s hs => .inr (.inr (.inr (.inr (.inr hs))))) h1)
  | move o ho h1 hf => exact .move o ho (by rw [hl _ hi1]; exact h1) hf
  | tag o ho h1 hs => exact .tag o ho (by rw [hl _ hi1]; exact h1) hs
  | refs o ho h1 hf hg h2 => exact .refs o ho (by rw [hl _ hi1]; exact h1) hf hg (hE _ _ (fun s hs => .inr (.inr (.inr (.inr (.inl hs))))) h2)
  | drop o ho h1 h2 => exact .drop o ho (by rw [hl _ hi1]; exact h1) (hr _ _ (fun s hs => by rw [List.mem_singleton.1 hs]; exact hid (by omega)) h2)
  | split o ho h1 hf hn hi h2 => exact .split o ho (by rw [hl _ hi1]; exact h1) hf (by rw [hK _ (.inr (.inl rfl))]; exact hn) hi (hr _ _ (fun s hs => by rw [List.mem_singleton.1 hs]; exact hid (by omega)) h2)
  | join o x ho h1 hf hx hk2 hi h2 hlen => exact .join o x ho (by rw [hl _ hi1]; exact h1) hf (by rw [hl _ (.inr (.inl rfl))]; exact hx) hk2 hi (hr _ _ (fun s hs => by
      rcases List.mem_cons.1 hs with e | e
      · rw [e]; exact hid (by omega)
      · rw [List.mem_singleton.1 e]; exact hoth (.inr ho)) h2) hlen
/-- The lookups behind objects that are put and an Id that is dropped. -/
def putF : List GObj → (ByteArray → Option GObj) → ByteArray → Option GObj
  | [], f, s => f s
  | o :: l, f, s => putF l (fun s => if s = o.id then some o else f s) s
def toF (r : GRes) (f : ByteArray → Option GObj) (s : ByteArray) : Option GObj := if r.drop = sNil then putF r.put f s else if s = r.drop then none else putF r.put f s
theorem putF_congr : ∀ {l : List GObj} {f g : ByteArray → Option GObj} {s : ByteArray}, f s = g s → putF l f s = putF l g s
  | [], f, g, s, h => h
  | o :: l, f, g, s, h => putF_congr (l := l) (by show (if s = o.id then some o else f s) = if s = o.id then some o else g s; rw [h])
theorem putF_out : ∀ {l : List GObj} {f : ByteArray → Option GObj} {s : ByteArray}, (∀ o, o ∈ l → o.id ≠ s) → putF l f s = f s
  | [], f, s, h => rfl
  | o :: l, f, s, h => by
    rw [putF, putF_out fun x hx => h x (List.mem_cons_of_mem _ hx)]
    exact if_neg fun e => h o List.mem_cons_self e.symm
theorem putF_in : ∀ {l : List GObj} {f g : ByteArray → Option GObj} {s : ByteArray}, (∃ o, o ∈ l ∧ o.id = s) → putF l f s = putF l g s
  | [], f, g, s, h => by obtain ⟨o, h, _⟩ := h; cases h
  | o :: l, f, g, s, h => by
    by_cases e : s = o.id
    · exact putF_congr (l := l) (by show (if s = o.id then some o else f s) = if s = o.id then some o else g s; rw [if_pos e, if_pos e])
    · obtain ⟨x, hx, hs⟩ := h
      rcases List.mem_cons.1 hx with h | h
      · exact absurd (by rw [← hs, h]) e
      · exact putF_in (l := l) ⟨x, h, hs⟩
theorem look_fold : ∀ {l m : List GObj} {s : ByteArray}, ups m → look (l.foldl gWith m) s = putF l (look m) s
  | [], m, s, hu => rfl
  | o :: l, m, s, hu => by
    show look (l.foldl gWith (gWith m o)) s = _
    rw [look_fold (gWith_ups hu), putF]
    exact putF_congr (look_with o s hu)
theorem fold_ups : ∀ {l m : List GObj}, ups m → ups (l.foldl gWith m)
  | [], m, h => h
  | o :: l, m, h => fold_ups (l := l) (gWith_ups h)
theorem fold_len : ∀ {l m : List GObj}, (l.foldl gWith m).length ≤ m.length + l.length
  | [], m => by simp
  | o :: l, m => by
    have h1 := fold_len (l := l) (m := gWith m o)
    have h2 := gWith_len m o
    show (l.foldl gWith (gWith m o)).length ≤ m.length + (l.length + 1)
    split at h2 <;> omega
theorem fold_gMap : ∀ {l m : List GObj}, gMap m = true → (∀ o, o ∈ l → gObj o = true) → m.length + l.length ≤ 1000000 → gMap (l.foldl gWith m) = true
  | [], m, h, _, _ => h
  | o :: l, m, h, ho, hl => by
    have h2 := gWith_len m o
    have h3 : (gWith m o).length ≤ m.length + 1 := by split at h2 <;> omega
    have hlen : (o :: l).length = l.length + 1 := rfl
    exact fold_gMap (l := l) (gMap_with h (ho o List.mem_cons_self) (by omega)) (fun x hx => ho x (List.mem_cons_of_mem _ hx)) (by omega)
theorem fold_mem : ∀ {l m : List GObj} {x : GObj}, x ∈ l.foldl gWith m → x ∈ l ∨ x ∈ m
  | [], m, x, h => .inr h
  | o :: l, m, x, h => by
    rcases fold_mem (l := l) h with h | h
    · exact .inl (List.mem_cons_of_mem _ h)
    · rcases gWith_mem h with h | h
      · exact .inl (by rw [h]; exact List.mem_cons_self)
      · exact .inr h
theorem to_ups {m : List GObj} {r : GRes} (hu : ups m) : ups (gTo m r.put r.drop) := by
  unfold gTo
  split
  · exact fold_ups hu
  · exact ups_sub (fold_ups hu) (gWo_sub _ _)
theorem to_mem {m : List GObj} {r : GRes} {x : GObj} (h : x ∈ gTo m r.put r.drop) : x ∈ r.put ∨ x ∈ m := by
  unfold gTo at h
  split at h
  · exact fold_mem h
  · exact fold_mem ((gWo_sub _ _).subset h)
theorem to_len {m : List GObj} {r : GRes} : (gTo m r.put r.drop).length ≤ m.length + r.put.length := by
  unfold gTo
  split
  · exact fold_len
  · exact Nat.le_trans (gWo_sub _ _).length_le fold_len
theorem look_to {m : List GObj} {r : GRes} {s : ByteArray} (hu : ups m) (hd : r.drop = sNil ∨ hasK GObj.id (r.put.foldl gWith m) r.drop = true) : look (gTo m r.put r.drop) s = toF r (look m) s := by
  unfold gTo toF
  split
  · exact look_fold hu
  · next h =>
    rcases hd with hd | hd
    · exact absurd hd h
    · rw [look_wo s (fold_ups hu) hd]
      split
      · rfl
      · exact look_fold hu
def sup (r : GRes) (s : ByteArray) : Prop := (∃ o, o ∈ r.put ∧ o.id = s) ∨ (r.drop ≠ sNil ∧ s = r.drop)
theorem toF_out {r : GRes} {f : ByteArray → Option GObj} {s : ByteArray} (h : ¬ sup r s) : toF r f s = f s := by
  have hp : putF r.put f s = f s := putF_out fun o ho e => h (.inl ⟨o, ho, e⟩)
  unfold toF
  split
  · exact hp
  · next hd => rw [if_neg fun e => h (.inr ⟨hd, e⟩), hp]
theorem toF_in {r : GRes} {f g : ByteArray → Option GObj} {s : ByteArray} (h : sup r s) : toF r f s = toF r g s := by
  unfold toF
  rcases h with h | ⟨h, e⟩
  · rw [putF_in (f := f) (g := g) h]
  · rw [if_neg h, if_neg h, if_pos e, if_pos e]
theorem toF_comm {r q : GRes} {f : ByteArray → Option GObj} (h : ∀ s, sup r s → ¬ sup q s) (s : ByteArray) : toF q (toF r f) s = toF r (toF q f) s := by
  by_cases h1 : sup r s
  · rw [toF_out (h s h1), toF_in (f := toF q f) (g := f) h1]
  · rw [toF_out (r := r) (f := toF q f) h1]
    by_cases h2 : sup q s
    · exact toF_in h2
    · rw [toF_out h2, toF_out h2, toF_out h1]
theorem gPutM_suc {m : List GObj} {o : GObj} (hg : gMap m = true) (ho : gObj o = true) (hl : m.length < 1000000) : gPutM m o = (gWith m o, 0) := by
  unfold gPutM
  rw [if_neg (by simp [hg, ho]), if_neg (by simp; omega)]
theorem putAll_suc : ∀ {l m : List GObj}, gMap m = true → (∀ o, o ∈ l → gObj o = true) → m.length + l.length ≤ 1000000 → putAll m l = (l.foldl gWith m, 0)
  | [], m, _, _, _ => rfl
  | o :: l, m, hg, ho, hl => by
    have hlen : (o :: l).length = l.length + 1 := rfl
    have h2 := gWith_len m o
    have h3 : (gWith m o).length ≤ m.length + 1 := by split at h2 <;> omega
    rw [putAll, gPutM_suc hg (ho o List.mem_cons_self) (by omega), if_neg (by simp)]
    show putAll (gWith m o) l = _
    exact putAll_suc (gMap_with hg (ho o List.mem_cons_self) (by omega)) (fun x hx => ho x (List.mem_cons_of_mem _ hx)) (by omega)
theorem after_of {m : List GObj} {e : GEdit} (hg : gMap m = true) (hv : gEditV e = true) {r : GRes} (hr : gPerform m e = r) (h0 : r.err = 0) (ho : ∀ o, o ∈ r.put → gObj o = true) (hl : m.length + 2 ≤ 1000000) (hp : r.put.length ≤ 2) (hd : r.drop = sNil ∨ hasK GObj.id (r.put.foldl gWith m) r.drop = true) :
    gAfter m e = (gTo m r.put r.drop, 0) := by
  have hs := putAll_suc hg ho (by omega)
  have hg2 := fold_gMap hg ho (by omega)
  unfold gAfter
  rw [hr, if_neg (by simp [hv]), if_neg (by simp [h0]), hs, if_neg (by simp)]
  unfold gTo
  by_cases h : r.drop = sNil
  · rw [if_neg (by simp [h]), if_pos h]
  · rcases hd with hd | hd
    · exact absurd hd h
    · rw [if_pos (by simp [h]), if_neg h]
      unfold gDropM
      rw [if_neg (by simp [hg2]), if_neg (by simp [hd])]
      rfl
/-- An edit behind another one that has no name in common with it. -/
theorem after_step {m : List GObj} {x y : GEdit} (hc : closedB m = true) (hx : (gAfter m x).2 = 0) (hy : (gAfter m y).2 = 0) (hd : ∀ s, s ∈ gNames x → s ∉ gNames y) (hl : m.length + 4 ≤ 1000000) :
    (gAfter (gAfter m x).1 y).2 = 0 ∧ ups (gAfter (gAfter m x).1 y).1 ∧ ∀ s, look (gAfter (gAfter m x).1 y).1 s = toF (gPerform m y) (toF (gPerform m x) (look m)) s := by
  have hg := closed_gMap hc
  have hu := (gMap_iff.1 hg).2.1
  obtain ⟨x1, x2, x3, x4, x5, x6⟩ := after_ok hg hx
  obtain ⟨y1, y2, y3, y4, y5, y6⟩ := after_ok hg hy
  have px := perf_of x1 x2
  have py := perf_of y1 y2
  obtain ⟨nx1, nx2, nx3⟩ := perf_names x1 px
  obtain ⟨ny1, ny2, ny3⟩ := perf_names y1 py
  have hga : gMap (gAfter m x).1 = true := closed_gMap (after_closed hc hx)
  have hua := (gMap_iff.1 hga).2.1
  have hla : ∀ s, look (gAfter m x).1 s = toF (gPerform m x) (look m) s := fun s => by rw [x3]; exact look_to hu x6
  have hsx : ∀ s, sup (gPerform m x) s → s ∈ gNames x := fun s hs => by
    rcases hs with ⟨o, ho, e⟩ | ⟨h1, e⟩
    · rw [← e]; exact nx1 o ho
    · rcases nx2 with h | h
      · exact absurd h h1
      · rw [e]; exact h
  have hsame : ∀ s, s ∉ gNames x → look (gAfter m x).1 s = look m s := fun s hs => by rw [hla s]; exact toF_out fun h => hs (hsx s h)
  have hrawn : ∀ s, raw y s → s ∉ gNames x := fun s hs hn => by
    have h1 := ((names_mem x1).1 hn).2
    exact hd s hn ((names_mem y1).2 ⟨hs, h1⟩)
  have hpy : Perf (gAfter m x).1 y (gPerform m y) := by
    refine perf_stays y1 py (fun s hs => hsame s (hrawn s hs)) (fun b ids hids h0 => ?_)
    rw [gRefd_iff]
    intro z hz
    rw [x3] at hz
    rcases to_mem hz with h | h
    · exact perf_refd hc x1 px (fun s hs => ⟨fun hn => hd s hn (hids s hs), ((names_mem y1).1 (hids s hs)).2⟩) h0 z h
    · exact gRefd_iff.1 h0 z h
  have hlen : (gAfter m x).1.length ≤ m.length + 2 := by rw [x3]; have := to_len (m := m) (r := gPerform m x); omega
  have hdr : (gPerform m y).drop = sNil ∨ hasK GObj.id ((gPerform m y).put.foldl gWith (gAfter m x).1) (gPerform m y).drop = true := by
    rcases y6 with h | h
    · exact .inl h
    · rcases ny2 with h2 | h2
      · exact .inl h2
      · right
        rw [hasK_look, look_fold hu] at h
        rw [hasK_look, look_fold hua, putF_congr (g := look m) (hsame _ fun hn => hd _ hn h2)]
        exact h
  have hfin := after_of hga y1 (of_perf hpy) y2 y5 (by omega) (by omega) hdr
  rw [hfin]
  refine ⟨rfl, to_ups hua, fun s => ?_⟩
  show look (gTo _ _ _) s = _
  rw [look_to hua hdr]
  show toF (gPerform m y) (look (gAfter m x).1) s = _
  rw [show look (gAfter m x).1 = toF (gPerform m x) (look m) from funext hla]
theorem commute {m : List GObj} {x y : GEdit} (hc : closedB m = true) (hx : (gAfter m x).2 = 0) (hy : (gAfter m y).2 = 0) (hd : ∀ s, s ∈ gNames x → s ∉ gNames y) (hl : m.length + 4 ≤ 1000000) :
    (gAfter (gAfter m x).1 y).2 = 0 ∧ (gAfter (gAfter m y).1 x).2 = 0 ∧ (gAfter (gAfter m x).1 y).1 = (gAfter (gAfter m y).1 x).1 := by
  have hg := closed_gMap hc
  obtain ⟨a1, a2, a3⟩ := after_step hc hx hy hd hl
  obtain ⟨b1, b2, b3⟩ := after_step hc hy hx (fun s h1 h2 => hd s h2 h1) hl
  obtain ⟨x1, x2, _, _, _, _⟩ := after_ok hg hx
  obtain ⟨y1, y2, _, _, _, _⟩ := after_ok hg hy
  have hn : ∀ {e : GEdit}, gEditV e = true → (gPerform m e).err = 0 → ∀ s, sup (gPerform m e) s → s ∈ gNames e := fun {e} h1 h2 s hs => by
    obtain ⟨n1, n2, _⟩ := perf_names h1 (perf_of h1 h2)
    rcases hs with ⟨o, ho, e⟩ | ⟨h1, e⟩
    · rw [← e]; exact n1 o ho
    · rcases n2 with h | h
      · exact absurd h h1
      · rw [e]; exact h
  refine ⟨a1, b1, map_ext a2 b2 fun s => ?_⟩
  rw [a3, b3]
  exact toF_comm (fun s h1 h2 => hd s (hn x1 x2 s h1) (hn y1 y2 s h2)) s
end Go.Proofs.YtdcifaldfmpapaaGreat
end
section
set_option linter.unusedVariables false
set_option linter.unusedSimpArgs false
set_option maxRecDepth 100000
namespace Go.Proofs.YtdcifaldfmpapaaGreat
open Go.Abs

theorem few_len {m : List GObj} {l : List GEdit} (h : few21L m l = true) : m.length ≤ 25 := by
  rw [few21L, few12B, Bool.and_eq_true, Bool.and_eq_true, decide_eq_true_eq] at h
  have := h.1.1
  omega
theorem names_len {e : GEdit} (h : e.refs.length + e.obj.refs.length < 1099511627776) : (gNames e).length < 4611686018427387904 := by
  unfold gNames
  split
  · rw [sortS_length]
    have h1 := List.length_filter_le nonE (idsOf e)
    have h2 := addAll_len e.obj.refs (addAll (addAll [] [e.id, e.other, e.node, e.obj.id]) e.refs)
    have h3 := addAll_len e.refs (addAll [] [e.id, e.other, e.node, e.obj.id])
    have h4 := addAll_len [e.id, e.other, e.node, e.obj.id] []
    have h5 : ([e.id, e.other, e.node, e.obj.id] : List ByteArray).length = 4 := rfl
    have h6 : ([] : List ByteArray).length = 0 := rfl
    have h7 : (idsOf e).length = (addAll (addAll (addAll [] [e.id, e.other, e.node, e.obj.id]) e.refs) e.obj.refs).length := rfl
    omega
  · show 0 < _; omega
theorem apply_commute {m : List GObj} {x y : GEdit} (hm : okM m) (hx : okE x) (hy : okE y) (hml : m.length ≤ 25) (h1 : (gApply m x).2 = 0) (h2 : (gApply m y).2 = 0) (hd : ∀ s, s ∈ gNames x → s ∉ gNames y) :
    ∃ c, gApply (gApply m x).1 y = (c, 0) ∧ gApply (gApply m y).1 x = (c, 0) ∧ okM (gApply m x).1 ∧ okM (gApply m y).1 ∧ (gApply m x).1.length < 549755813888 ∧ (gApply m y).1.length < 549755813888 ∧ okL c := by
  obtain ⟨a1, a2, a3, a4⟩ := apply_ok hm hx h1
  obtain ⟨b1, b2, b3, b4⟩ := apply_ok hm hy h2
  have hA : ∀ e, gApply m e = gAfter m e := fun e => by rw [gApply, if_pos a1]
  rw [hA] at h1 h2 a3 a4 b3 b4 ⊢
  rw [hA]
  obtain ⟨c1, c2, c3⟩ := commute a1 h1 h2 hd (by omega)
  have hX : gApply (gAfter m x).1 y = gAfter (gAfter m x).1 y := by rw [gApply, if_pos a3]
  have hY : gApply (gAfter m y).1 x = gAfter (gAfter m y).1 x := by rw [gApply, if_pos b3]
  have hM : okM (gAfter (gAfter m x).1 y).1 := after_okM a4 (closed_gMap a3) hy c1
  refine ⟨(gAfter (gAfter m x).1 y).1, ?_, ?_, a4, b4, gMap_small (closed_gMap a3), gMap_small (closed_gMap b3), ⟨hM.1, fun o ho => ⟨(hM.2 o ho).2.2.1, (hM.2 o ho).2.1.1⟩⟩⟩
  · rw [hX]; exact Prod.ext rfl c1
  · rw [hY]; exact Prod.ext c3.symm c2
theorem editCommutes_c (m : List GObj) (x y : GEdit) (H : Heap) (hm : okM m) (hml : m.length < 549755813888) (hx : okE x) (hy : okE y) (hxs : x.refs.length + x.obj.refs.length < 1099511627776) (hys : y.refs.length + y.obj.refs.length < 1099511627776) :
    ACalls Tryz.prog 4 [.agg [.pv (slObjs m)], av (encEdit x), av (encEdit y)] H (fun r H' => r = bv true ∧ H' = H) := by
  refine ACalls.pure ?_ (by simp) H
  have hL : okL m := ⟨hm.1, fun o ho => ⟨(hm.2 o ho).2.2.1, (hm.2 o ho).2.1.1⟩⟩
  have heo : ∀ e, e ∈ [x, y] → okObj e.obj ∧ e.refs.length < 4611686018427387904 := fun e h => by
    rcases List.mem_cons.1 h with rfl | h
    · exact ⟨⟨hx.2.2.2.2.1, hx.2.2.2.1.1⟩, by have := hx.2.1.1; omega⟩
    · rw [List.mem_singleton] at h
      subst h
      exact ⟨⟨hy.2.2.2.2.1, hy.2.2.2.1.1⟩, by have := hy.2.1.1; omega⟩
  have hnx := names_len hxs
  have hny := names_len hys
  have hap := fun H => apply_c m x H hm hx hml
  have haq := fun H => apply_c m y H hm hy hml
  have hcom := fun h => apply_commute (m := m) (x := x) (y := y) hm hx hy h
  obtain ⟨a, ha⟩ : ∃ a, a = gApply m x := ⟨_, rfl⟩
  obtain ⟨b, hb⟩ : ∃ b, b = gApply m y := ⟨_, rfl⟩
  rw [← ha, ← hb] at hcom
  rw [← ha] at hap
  rw [← hb] at haq
  obtain ⟨am, ae⟩ := a
  obtain ⟨bm, be⟩ := b
  simp only at hap haq hcom
  clear ha hb
  have hn1 := fun H => names_cE x H hx hxs
  have hn2 := fun H => names_cE y H hy hys
  obtain ⟨nx, hnxe⟩ : ∃ n, n = gNames x := ⟨_, rfl⟩
  obtain ⟨ny, hnye⟩ : ∃ n, n = gNames y := ⟨_, rfl⟩
  rw [← hnxe, ← hnye] at hcom
  rw [← hnxe] at hn1 hnx
  rw [← hnye] at hn2 hny
  clear hnxe hnye
  have hnl : (nx.map encStr).length = nx.length := List.length_map _
  refine ACalls.body Tryz.func4 rfl Tryz.ntmps4 (Nat.le_of_ble_eq_true rfl) ?_
  refine awp_seq ?_
  refine awp_region ?_
  refine al_d rfl rfl rfl (by exact opd_box (id := 3) rfl rfl rfl rfl rfl) ?_
  refine al_d rfl rfl rfl (by exact opd_box (id := 4) rfl rfl rfl rfl rfl) ?_
  refine al_d rfl rfl rfl (by exact opd_box (id := 5) rfl rfl rfl rfl rfl) ?_
  refine al_d rfl rfl rfl (by exact opd_assign rfl rfl) ?_
  refine al_nil ?_
  refine awp_seq ?_
  refine awp_region ?_
  refine al_d rfl rfl rfl (by exact opr_call rfl rfl Tryz.call10 rfl (head21_c _)) ?_
  refine al_d rfl rfl rfl (by exact opd_assign rfl rfl) ?_
  refine al_nil ?_
  refine awp_seq ?_
  refine awp_seq ?_
  refine awp_region ?_
  refine al_d rfl rfl rfl (by exact (by exact opd_loadn_ref rfl Tryz.isAgg24 Tryz.sizeOf24 rfl rfl rfl rfl (by simp only [List.drop_succ_cons, List.drop_zero, List.take_succ_cons, List.take_zero, List.take_nil, List.map_cons, List.map_nil, List.set_cons_zero, List.set_cons_succ, List.cons_append, List.nil_append, encTag, encObj, encStr, encEdit, encInt]; rfl) rfl)) ?_
  refine al_d rfl rfl rfl (by exact (by exact opd_loadn_ref rfl Tryz.isAgg32 Tryz.sizeOf32 rfl rfl rfl rfl (by simp only [List.drop_succ_cons, List.drop_zero, List.take_succ_cons, List.take_zero, List.take_nil, List.map_cons, List.map_nil, List.set_cons_zero, List.set_cons_succ, List.cons_append, List.nil_append, encTag, encObj, encStr, encEdit, encInt]; rfl) rfl)) ?_
  refine al_d rfl rfl rfl (by exact (by exact opd_loadn_ref rfl Tryz.isAgg32 Tryz.sizeOf32 rfl rfl rfl rfl (by simp only [List.drop_succ_cons, List.drop_zero, List.take_succ_cons, List.take_zero, List.take_nil, List.map_cons, List.map_nil, List.set_cons_zero, List.set_cons_succ, List.cons_append, List.nil_append, encTag, encObj, encStr, encEdit, encInt]; rfl) rfl)) ?_
  refine al_d rfl rfl rfl (by exact (by exact x_buildSlice ([x, y].map encEdit) rfl so46 rfl rfl rfl rfl rfl (by intro r hr; simp only [List.map_cons, List.map_nil, List.mem_cons, List.not_mem_nil, or_false] at hr; rcases hr with rfl | rfl <;> rfl))) ?_
  refine al_d rfl rfl rfl (by exact opr_call rfl rfl Tryz.call11 rfl (lawFew21_c m [x, y] _ hL.1 hL.2 (by show 2 < _; omega) heo)) ?_
  refine al_d rfl rfl rfl (by exact opd_not rfl rfl) ?_
  refine al_nil ?_
  refine awp_cond rfl (fun hc1 => ?_) (fun hc1 => ?_)
  -- cond 1
  · skip
    refine awp_seq ?_
    refine awp_region ?_
    refine al_d rfl rfl rfl (by exact opd_move rfl rfl) ?_
    refine al_d rfl rfl rfl (by exact opd_assign rfl rfl) ?_
    refine al_nil ?_
    refine awp_ret ?_
    -- return
    refine aret1 (H' := []) (by exact .inr rfl) rfl (rval_tmp rfl) (Fin.wk (by simp) trivial trivial) ?_
    exact ⟨rfl, rfl⟩
  · have h25 : m.length ≤ 25 := few_len (by simpa using hc1)
    refine awp_skip ?_
    refine awp_seq ?_
    refine awp_region ?_
    refine al_d rfl rfl rfl (by exact (by exact opd_loadn_ref rfl Tryz.isAgg24 Tryz.sizeOf24 rfl rfl rfl rfl (by simp only [List.drop_succ_cons, List.drop_zero, List.take_succ_cons, List.take_zero, List.take_nil, List.map_cons, List.map_nil, List.set_cons_zero, List.set_cons_succ, List.cons_append, List.nil_append, encTag, encObj, encStr, encEdit, encInt]; rfl) rfl)) ?_
    refine al_d rfl rfl rfl (by exact (by exact opd_loadn_ref rfl Tryz.isAgg32 Tryz.sizeOf32 rfl rfl rfl rfl (by simp only [List.drop_succ_cons, List.drop_zero, List.take_succ_cons, List.take_zero, List.take_nil, List.map_cons, List.map_nil, List.set_cons_zero, List.set_cons_succ, List.cons_append, List.nil_append, encTag, encObj, encStr, encEdit, encInt]; rfl) rfl)) ?_
    refine al_d rfl rfl rfl (by exact opr_call rfl rfl Tryz.call12 rfl (hap _)) ?_
    refine al_d rfl rfl rfl (by exact opd_move rfl rfl) ?_
    refine al_d rfl rfl rfl (by exact opd_extract rfl rfl rfl) ?_
    refine al_d rfl rfl rfl (by exact opd_extract rfl rfl rfl) ?_
    refine al_d rfl rfl rfl (by exact x_alloc (id := 8) rfl zo24 rfl rfl) ?_
    refine al_n rfl rfl (by exact (by exact x_store_all rfl Tryz.sizeOf24 rfl rfl rfl rfl rfl rfl rfl rfl)) ?_
    refine al_d rfl rfl rfl (by exact opd_assign rfl rfl) ?_
    refine al_nil ?_
    refine awp_seq ?_
    refine awp_region ?_
    refine al_d rfl rfl rfl (by exact (by exact opd_loadn_ref rfl Tryz.isAgg24 Tryz.sizeOf24 rfl rfl rfl rfl (by simp only [List.drop_succ_cons, List.drop_zero, List.take_succ_cons, List.take_zero, List.take_nil, List.map_cons, List.map_nil, List.set_cons_zero, List.set_cons_succ, List.cons_append, List.nil_append, encTag, encObj, encStr, encEdit, encInt]; rfl) rfl)) ?_
    refine al_d rfl rfl rfl (by exact (by exact opd_loadn_ref rfl Tryz.isAgg32 Tryz.sizeOf32 rfl rfl rfl rfl (by simp only [List.drop_succ_cons, List.drop_zero, List.take_succ_cons, List.take_zero, List.take_nil, List.map_cons, List.map_nil, List.set_cons_zero, List.set_cons_succ, List.cons_append, List.nil_append, encTag, encObj, encStr, encEdit, encInt]; rfl) rfl)) ?_
    refine al_d rfl rfl rfl (by exact opr_call rfl rfl Tryz.call12 rfl (haq _)) ?_
    refine al_d rfl rfl rfl (by exact opd_move rfl rfl) ?_
    refine al_d rfl rfl rfl (by exact opd_extract rfl rfl rfl) ?_
    refine al_d rfl rfl rfl (by exact opd_extract rfl rfl rfl) ?_
    refine al_d rfl rfl rfl (by exact x_alloc (id := 10) rfl zo24 rfl rfl) ?_
    refine al_n rfl rfl (by exact (by exact x_store_all rfl Tryz.sizeOf24 rfl rfl rfl rfl rfl rfl rfl rfl)) ?_
    refine al_d rfl rfl rfl (by exact opd_assign rfl rfl) ?_
    refine al_nil ?_
    refine awp_seq ?_
    refine awp_drawc follows ?_
    refine dc_cons (DStep.q rfl (by exact (by exact opd_loadn_ref rfl Tryz.isAgg32 Tryz.sizeOf32 rfl rfl rfl rfl (by simp only [List.drop_succ_cons, List.drop_zero, List.take_succ_cons, List.take_zero, List.take_nil, List.map_cons, List.map_nil, List.set_cons_zero, List.set_cons_succ, List.cons_append, List.nil_append, encTag, encObj, encStr, encEdit, encInt]; rfl) rfl))) rfl ?_
    refine dc_cons (DStep.q rfl (by exact opr_call rfl rfl Tryz.call17 rfl (hn1 _))) rfl ?_
    refine dc_cons (DStep.q rfl (by exact (by exact opd_loadn_ref rfl Tryz.isAgg32 Tryz.sizeOf32 rfl rfl rfl rfl (by simp only [List.drop_succ_cons, List.drop_zero, List.take_succ_cons, List.take_zero, List.take_nil, List.map_cons, List.map_nil, List.set_cons_zero, List.set_cons_succ, List.cons_append, List.nil_append, encTag, encObj, encStr, encEdit, encInt]; rfl) rfl))) rfl ?_
    refine dc_cons (DStep.q rfl (by exact opr_call rfl rfl Tryz.call17 rfl (hn2 _))) rfl ?_
    refine dc_cons (DStep.q rfl (by exact opd_assign rfl rfl)) rfl ?_
    refine dc_cons (DStep.q rfl (by exact opd_assign rfl rfl)) rfl ?_
    refine dc_nil ⟨by kernel_rfl, ?_⟩
    refine awp_seq ?_
    refine awp_seq ?_
    refine awp_region ?_
    refine al_d rfl rfl rfl (by exact opd_assign rfl rfl) ?_
    refine al_nil ?_
    refine awp_block ?_
    -- loop
    refine awp_loop (σ := Nat) (fun q => ([(7, bv true), (3, .ref 3 0 0 0), (4, .ref 4 0 0 0), (5, .ref 5 0 0 0), (8, .ref 8 0 0 0), (9, iv ae), (10, .ref 10 0 0 0), (11, iv be), (12, .pv (slStrs nx)), (13, .pv (slStrs ny)), (14, iv (q : Int))], [(10, bx 1 24 [.pv (slObjs bm)]), (8, bx 1 24 [.pv (slObjs am)]), (5, bx 15 32 ((encEdit y).map .pv)), (4, bx 15 32 ((encEdit x).map .pv)), (3, bx 1 24 [.pv (slObjs m)])])) (fun q => q ≤ nx.length ∧ ∀ s, s ∈ nx.take q → s ∉ ny) (fun q => nx.length - q) 0 ⟨by omega, fun s hs => by simp at hs⟩ ?_ ?_
    · exact (Ent.wk ⟨⟨_, rfl, rfl⟩, (by (simp; done)), ⟨_, rfl, rfl⟩, (by (simp; rfl)), ⟨_, rfl, rfl⟩, (by (simp; rfl)), ⟨_, rfl, rfl⟩, (by (simp; rfl)), ⟨_, rfl, rfl⟩, (by (simp; rfl)), ⟨_, rfl, rfl⟩, (by (simp; done)), ⟨_, rfl, rfl⟩, (by (simp; rfl)), ⟨_, rfl, rfl⟩, (by (simp; done)), ⟨_, rfl, rfl⟩, (by (simp; done)), ⟨_, rfl, rfl⟩, (by (simp; done)), ⟨_, rfl, rfl⟩, (by (simp; done)), trivial⟩ ⟨⟨_, rfl, rfl⟩, (by (simp; done)), ⟨_, rfl, rfl⟩, (by (simp; done)), ⟨_, rfl, rfl⟩, (by (simp; done)), ⟨_, rfl, rfl⟩, (by (simp; done)), ⟨_, rfl, rfl⟩, (by (simp; done)), trivial⟩ trivial)
    · rintro q ⟨hq, hno⟩
      refine awp_seq ?_
      refine awp_seq ?_
      refine awp_region ?_
      refine al_d rfl rfl rfl (by exact opd_move rfl rfl) ?_
      refine al_d rfl rfl rfl (by exact opd_move rfl rfl) ?_
      refine al_d rfl rfl rfl (by exact (by exact opd_len_sl rfl Tryz.underlying27 rfl)) ?_
      refine al_d rfl rfl rfl (by exact opd_lss rfl rfl rfl) ?_
      refine al_nil ?_
      refine awp_cond rfl (fun hc2 => ?_) (fun hc2 => ?_)
      -- cond 2
      · have hql : q < nx.length := by have := of_decide_eq_true hc2; omega
        obtain ⟨s, hs⟩ := get_of_lt hql
        have hi := map_get (f := encStr) hs
        refine awp_skip ?_
        refine awp_seq ?_
        refine awp_block ?_
        refine awp_seq ?_
        refine awp_region ?_
        refine al_d rfl rfl rfl (by exact opd_move rfl rfl) ?_
        refine al_d rfl rfl rfl (by exact opd_move rfl rfl) ?_
        refine al_d rfl rfl rfl (by exact opd_move rfl rfl) ?_
        refine al_d rfl rfl rfl (by exact (by exact x_index_pad rfl so27 rfl rfl (by omega) (by exact Int.toNat_natCast _) hi rfl)) ?_
        refine al_d rfl rfl rfl (by exact (by exact opd_load1_pad rfl Tryz.isAgg9 rfl hi rfl)) ?_
        refine al_d rfl rfl rfl (by exact opr_call rfl rfl Tryz.call18 rfl (has06_c ny s _ hny)) ?_
        refine al_nil ?_
        refine awp_cond rfl (fun hc3 => ?_) (fun hc3 => ?_)
        -- cond 3
        · skip
          refine awp_seq ?_
          refine awp_region ?_
          refine al_d rfl rfl rfl (by exact opd_move rfl rfl) ?_
          refine al_d rfl rfl rfl (by exact opd_assign rfl rfl) ?_
          refine al_nil ?_
          refine awp_ret ?_
          -- return
          refine aret1 (H' := []) (by exact .inr rfl) rfl (rval_tmp rfl) (Fin.wk (by simp) trivial trivial) ?_
          exact ⟨rfl, rfl⟩
        · skip
          refine awp_skip ?_
          refine awp_region ?_
          refine al_d rfl rfl rfl (by exact opd_move rfl rfl) ?_
          refine al_d rfl rfl rfl (by exact opd_add rfl rfl rfl (by exact w64 (by omega) (by omega))) ?_
          refine al_d rfl rfl rfl (by exact opd_assign rfl rfl) ?_
          refine al_nil ?_
          -- end of a round
          refine ⟨q + 1, ⟨by omega, fun z hz => ?_⟩, by omega, (Ent.wk ⟨⟨_, rfl, rfl⟩, (by (simp; done)), ⟨_, rfl, rfl⟩, (by (simp; rfl)), ⟨_, rfl, rfl⟩, (by (simp; rfl)), ⟨_, rfl, rfl⟩, (by (simp; rfl)), ⟨_, rfl, rfl⟩, (by (simp; rfl)), ⟨_, rfl, rfl⟩, (by (simp; done)), ⟨_, rfl, rfl⟩, (by (simp; rfl)), ⟨_, rfl, rfl⟩, (by (simp; done)), ⟨_, rfl, rfl⟩, (by (simp; done)), ⟨_, rfl, rfl⟩, (by (simp; done)), ⟨_, rfl, rfl⟩, (by (simp; done)), trivial⟩ ⟨⟨_, rfl, rfl⟩, (by (simp; done)), ⟨_, rfl, rfl⟩, (by (simp; done)), ⟨_, rfl, rfl⟩, (by (simp; done)), ⟨_, rfl, rfl⟩, (by (simp; done)), ⟨_, rfl, rfl⟩, (by (simp; done)), trivial⟩ trivial)⟩
          rw [List.take_add_one, hs] at hz
          rcases List.mem_append.1 hz with h | h
          · exact hno z h
          · have hz2 : z = s := by simpa using h
            subst hz2
            intro hin
            have h := hc3
            rw [inB_iff.2 hin] at h
            cases h
      · have hge : q = nx.length := by have := of_decide_eq_false hc2; omega
        subst hge
        rw [List.take_length] at hno
        refine awp_exit ?_
        refine awp_seq ?_
        refine awp_seq ?_
        refine awp_bool (t := 61) (n := 7) (X := (!decide (ae = 0)) || (!decide (be = 0))) ?_ ?_
        · all_goals (refine al_d rfl rfl rfl (by exact opd_move rfl rfl) ?_)
          all_goals (refine al_d rfl rfl rfl (by exact opd_neq rfl rfl rfl) ?_)
          all_goals (refine al_d rfl rfl rfl (by exact opd_move rfl rfl) ?_)
          all_goals (refine al_split (t := 58) rfl (fun h58 => ?_) (fun h58 => ?_))
          all_goals (try contradiction)
          all_goals (first | refine al_off rfl rfl rfl rfl rfl ?_ | refine al_ond rfl rfl rfl rfl rfl rfl (by exact opd_move rfl rfl) ?_)
          all_goals (first | refine al_off rfl rfl rfl rfl rfl ?_ | refine al_ond rfl rfl rfl rfl rfl rfl (by exact opd_neq rfl rfl rfl) ?_)
          all_goals (refine al_d rfl rfl rfl (by exact (by first | exact opd_pick_t rfl rfl rfl | exact opd_pick_f rfl rfl rfl)) ?_)
          all_goals (refine al_nil ?_)
          all_goals (exact ⟨⟨_, rfl, by (simp only [*, Bool.false_and, Bool.true_and, Bool.and_false, Bool.and_true, Bool.true_or, Bool.false_or, Bool.or_true, Bool.or_false, Bool.not_true, Bool.not_false]; done)⟩, rfl, rfl, rfl⟩)
        refine awp_cond rfl (fun hc4 => ?_) (fun hc4 => ?_)
        -- cond 4
        · skip
          refine awp_seq ?_
          refine awp_region ?_
          refine al_d rfl rfl rfl (by exact opd_move rfl rfl) ?_
          refine al_d rfl rfl rfl (by exact opd_assign rfl rfl) ?_
          refine al_nil ?_
          refine awp_ret ?_
          -- return
          refine aret1 (H' := []) (by exact .inr rfl) rfl (rval_tmp rfl) (Fin.wk (by simp) trivial trivial) ?_
          exact ⟨rfl, rfl⟩
        · have h00 : ae = 0 ∧ be = 0 := by
            have h := hc4
            rw [Bool.or_eq_false_iff, Bool.not_eq_false', Bool.not_eq_false', decide_eq_true_iff, decide_eq_true_iff] at h
            exact h
          obtain ⟨c, k1, k2, k3, k4, k5, k6, k7⟩ := hcom h25 h00.1 h00.2 hno
          refine awp_skip ?_
          refine awp_seq ?_
          refine awp_region ?_
          refine al_d rfl rfl rfl (by exact (by exact opd_loadn_ref rfl Tryz.isAgg24 Tryz.sizeOf24 rfl rfl rfl rfl (by simp only [List.drop_succ_cons, List.drop_zero, List.take_succ_cons, List.take_zero, List.take_nil, List.map_cons, List.map_nil, List.set_cons_zero, List.set_cons_succ, List.cons_append, List.nil_append, encTag, encObj, encStr, encEdit, encInt]; rfl) rfl)) ?_
          refine al_d rfl rfl rfl (by exact (by exact opd_loadn_ref rfl Tryz.isAgg32 Tryz.sizeOf32 rfl rfl rfl rfl (by simp only [List.drop_succ_cons, List.drop_zero, List.take_succ_cons, List.take_zero, List.take_nil, List.map_cons, List.map_nil, List.set_cons_zero, List.set_cons_succ, List.cons_append, List.nil_append, encTag, encObj, encStr, encEdit, encInt]; rfl) rfl)) ?_
          refine al_d rfl rfl rfl (by exact opr_call rfl rfl Tryz.call12 rfl (apply_t k1 _ k3 hy k5)) ?_
          refine al_d rfl rfl rfl (by exact opd_move rfl rfl) ?_
          refine al_d rfl rfl rfl (by exact opd_extract rfl rfl rfl) ?_
          refine al_d rfl rfl rfl (by exact opd_extract rfl rfl rfl) ?_
          refine al_d rfl rfl rfl (by exact x_alloc (id := 15) rfl zo24 rfl rfl) ?_
          refine al_n rfl rfl (by exact (by exact x_store_all rfl Tryz.sizeOf24 rfl rfl rfl rfl rfl rfl rfl rfl)) ?_
          refine al_d rfl rfl rfl (by exact opd_assign rfl rfl) ?_
          refine al_nil ?_
          refine awp_seq ?_
          refine awp_region ?_
          refine al_d rfl rfl rfl (by exact (by exact opd_loadn_ref rfl Tryz.isAgg24 Tryz.sizeOf24 rfl rfl rfl rfl (by simp only [List.drop_succ_cons, List.drop_zero, List.take_succ_cons, List.take_zero, List.take_nil, List.map_cons, List.map_nil, List.set_cons_zero, List.set_cons_succ, List.cons_append, List.nil_append, encTag, encObj, encStr, encEdit, encInt]; rfl) rfl)) ?_
          refine al_d rfl rfl rfl (by exact (by exact opd_loadn_ref rfl Tryz.isAgg32 Tryz.sizeOf32 rfl rfl rfl rfl (by simp only [List.drop_succ_cons, List.drop_zero, List.take_succ_cons, List.take_zero, List.take_nil, List.map_cons, List.map_nil, List.set_cons_zero, List.set_cons_succ, List.cons_append, List.nil_append, encTag, encObj, encStr, encEdit, encInt]; rfl) rfl)) ?_
          refine al_d rfl rfl rfl (by exact opr_call rfl rfl Tryz.call12 rfl (apply_t k2 _ k4 hx k6)) ?_
          refine al_d rfl rfl rfl (by exact opd_move rfl rfl) ?_
          refine al_d rfl rfl rfl (by exact opd_extract rfl rfl rfl) ?_
          refine al_d rfl rfl rfl (by exact opd_extract rfl rfl rfl) ?_
          refine al_d rfl rfl rfl (by exact x_alloc (id := 17) rfl zo24 rfl rfl) ?_
          refine al_n rfl rfl (by exact (by exact x_store_all rfl Tryz.sizeOf24 rfl rfl rfl rfl rfl rfl rfl rfl)) ?_
          refine al_d rfl rfl rfl (by exact opd_assign rfl rfl) ?_
          refine al_nil ?_
          refine awp_seq ?_
          refine awp_region ?_
          refine al_d rfl rfl rfl (by exact opd_move rfl rfl) ?_
          refine al_d rfl rfl rfl (by exact opd_move rfl rfl) ?_
          refine al_ond rfl rfl rfl (by rfl) rfl rfl (by exact opd_move rfl rfl) ?_
          refine al_ond rfl rfl rfl (by rfl) rfl rfl (by exact opd_eql rfl rfl rfl) ?_
          refine al_d rfl rfl rfl (by exact (by exact opd_pick_t rfl rfl rfl)) ?_
          refine al_d rfl rfl rfl (by exact opd_move rfl rfl) ?_
          refine al_ond rfl rfl rfl (by rfl) rfl rfl (by exact opd_move rfl rfl) ?_
          refine al_ond rfl rfl rfl (by rfl) rfl rfl (by exact opd_eql rfl rfl rfl) ?_
          refine al_d rfl rfl rfl (by exact (by exact opd_pick_t rfl rfl rfl)) ?_
          refine al_d rfl rfl rfl (by exact opd_move rfl rfl) ?_
          refine al_ond rfl rfl rfl (by rfl) rfl rfl (by exact (by exact opd_loadn_ref rfl Tryz.isAgg24 Tryz.sizeOf24 rfl rfl rfl rfl (by simp only [List.drop_succ_cons, List.drop_zero, List.take_succ_cons, List.take_zero, List.take_nil, List.map_cons, List.map_nil, List.set_cons_zero, List.set_cons_succ, List.cons_append, List.nil_append, encTag, encObj, encStr, encEdit, encInt]; rfl) rfl)) ?_
          refine al_ond rfl rfl rfl (by rfl) rfl rfl (by exact (by exact opd_loadn_ref rfl Tryz.isAgg24 Tryz.sizeOf24 rfl rfl rfl rfl (by simp only [List.drop_succ_cons, List.drop_zero, List.take_succ_cons, List.take_zero, List.take_nil, List.map_cons, List.map_nil, List.set_cons_zero, List.set_cons_succ, List.cons_append, List.nil_append, encTag, encObj, encStr, encEdit, encInt]; rfl) rfl)) ?_
          refine al_ond rfl rfl rfl (by rfl) rfl rfl (by exact opr_call rfl rfl Tryz.call19 rfl (same12_t rfl _ k7)) ?_
          refine al_d rfl rfl rfl (by exact (by exact opd_pick_t rfl rfl rfl)) ?_
          refine al_d rfl rfl rfl (by exact opd_assign rfl rfl) ?_
          refine al_nil ?_
          refine awp_ret ?_
          -- return
          refine aret1 (H' := []) (by exact .inr rfl) rfl (rval_tmp rfl) (Fin.wk (by simp) trivial trivial) ?_
          exact ⟨rfl, rfl⟩
end Go.Proofs.YtdcifaldfmpapaaGreat
end
