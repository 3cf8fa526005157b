/-
  CONTRACT: planispherelaw32.head: the chapter's examples hold. Conditions: none.
-/
import Derived.Test.YtljocbkebhgkoaaV9
set_option linter.unusedVariables false
set_option linter.unusedSimpArgs false
set_option maxRecDepth 100000
namespace Go.Proofs.Ytljocbkebhgkoaa
open Go.Abs
def dropE (i : Nat) : GEdit := ⟨5, nm i, sNil, sNil, 0, 0, sNil, sNil, [], zObj⟩
def moveE (i : Nat) : GEdit := ⟨2, nm i, sNil, sNil, 3000, 0, sNil, sNil, [], zObj⟩
def putE (i : Nat) : GEdit := ⟨1, sNil, sNil, sNil, 0, 0, sNil, sNil, [], ⟨⟨#[120]⟩ ++ nm i, 1, 0, 0, [], []⟩⟩
abbrev drops5 : List GEdit := (List.range 5).map dropE
abbrev moves5 : List GEdit := (List.range 5).map moveE
abbrev puts5 : List GEdit := (List.range 5).map putE
theorem okNodes : okMap nodes5 := ⟨by decide, fun o ho => by
  obtain ⟨i, _, rfl⟩ := List.mem_map.1 ho
  exact (by decide : 0 < 4611686018427387904)⟩
theorem okPlain {l : List GEdit} (h : l.length < 1099511627776) (ht : ∀ e, e ∈ l → e.obj.tags = []) : okEdits l := ⟨h, fun e he => by
  rw [okTags, ht e he]; decide⟩
theorem plain5 (f : Nat → GEdit) (h : ∀ i, (f i).obj.tags = []) : ∀ e, e ∈ (List.range 5).map f → e.obj.tags = [] := fun e he => by
  obtain ⟨i, _, rfl⟩ := List.mem_map.1 he
  exact h i
theorem ev1 : gAccept nodes5 (drops5 ++ [moveE 0]) 1 [0, 1, 2, 3, 4] = true := by kernel_rfl
theorem ev2 : gAccept nodes5 (drops5 ++ moves5) 1 [0, 1, 2, 3, 4] = false := by kernel_rfl
theorem ev3 : gAccept nodes5 puts5 4 [0, 1, 2, 3] = true := by kernel_rfl
theorem ev4 : gAccept nodes5 puts5 0 [] = false := by kernel_rfl
theorem ev5 : gAccept nodes5 moves5 3 [0, 2, 4] = true := by kernel_rfl
theorem ev6 : gAccept nodes5 moves5 3 [0, 2] = false := by kernel_rfl
/-- Accept is lent an owned slice. -/
theorem lent_c (l : List GEdit) (kind : Int) (idx : List Int) (b : Bool) (H : Heap) (id n : Nat) (ob : Ob) (hH : H.get id = some ob) (hrows : ob.rows = (l.map encEdit).map (·.map .pv)) (hn : n = l.length) (hl : okEdits l) (hx : idx.length < 4611686018427387904) (hb : gAccept nodes5 l kind idx = b) :
    ACalls Try.prog 16 [.agg [.pv (slObjs nodes5)], .osl id ob.g 0 n, .agg [iv kind, .pv (slInts idx)]] H (fun r H' => r = bv b ∧ H' = H) := by
  subst hb hn
  exact RO.calls (RO.lend (id := id) (l.map encEdit) (RO.of (accept_c nodes5 l kind idx [] okNodes hl hx) rfl) hH hrows rfl
    (fz_cons (.same (by simp)) (fz_cons (.osl (by rw [Nat.zero_add, List.drop_zero, ← List.length_map (f := encEdit), List.take_length])) (fz_cons (.same (by simp)) fz_nil))) (fun _ _ h => by cases h) (fun _ _ h => by cases h) rfl)
theorem head_c (H : Heap) : ACalls Try.prog 14 [] H (fun r H' => r = bv true ∧ H' = H) := by
  refine ACalls.pure ?_ (by simp) H
  have p1 := plain5 dropE (fun _ => rfl)
  have p2 := plain5 moveE (fun _ => rfl)
  have p3 := plain5 putE (fun _ => rfl)
  have o1 : okEdits (drops5 ++ [moveE 0]) := okPlain (by decide) (fun e he => by
    rcases List.mem_append.1 he with h | h
    · exact p1 e h
    · rw [List.mem_singleton.1 h]; rfl)
  have o2 : okEdits (drops5 ++ moves5) := okPlain (by decide) (fun e he => by
    rcases List.mem_append.1 he with h | h
    · exact p1 e h
    · exact p2 e h)
  have o3 : okEdits puts5 := okPlain (by decide) p3
  have o4 : okEdits moves5 := okPlain (by decide) p2
  refine ACalls.body Try.func14 rfl Try.ntmps14 (Nat.le_of_ble_eq_true rfl) ?_
  refine awp_seq ?_
  refine awp_region ?_
  refine al_d rfl rfl rfl (by exact opd_assign rfl rfl) ?_
  refine al_nil ?_
  refine awp_seq ?_
  refine awp_region ?_
  refine al_d rfl rfl rfl (by exact opr_call rfl rfl Try.call42 rfl (nodes_c _)) ?_
  refine al_d rfl rfl rfl (by exact opd_move rfl rfl) ?_
  refine al_d rfl rfl rfl (by exact opd_extract rfl rfl rfl) ?_
  refine al_d rfl rfl rfl (by exact opd_extract rfl rfl rfl) ?_
  refine al_d rfl rfl rfl (by exact x_alloc (id := 2) rfl zo24 rfl rfl) ?_
  refine al_d rfl rfl rfl (by exact opd_assign rfl rfl) ?_
  refine al_n rfl rfl (by exact (by first | exact x_store_all rfl Try.sizeOf24 rfl rfl rfl rfl rfl rfl rfl rfl | exact x_store1 rfl Try.sizeOf24 rfl rfl rfl rfl rfl rfl (by simp only [List.length_cons, List.length_nil]; omega) (by simp only [List.drop_succ_cons, List.drop_zero, List.take_succ_cons, List.take_zero, List.take_nil, List.map_cons, List.map_nil, List.set_cons_zero, List.set_cons_succ, List.cons_append, List.nil_append, encTag, encObj, encEdit]; rfl) (by simp only [List.drop_succ_cons, List.drop_zero, List.take_succ_cons, List.take_zero, List.take_nil, List.map_cons, List.map_nil, List.set_cons_zero, List.set_cons_succ, List.cons_append, List.nil_append, encTag, encObj, encEdit]; rfl))) ?_
  refine al_nil ?_
  refine awp_seq ?_
  refine awp_region ?_
  refine al_d rfl rfl rfl (by exact opd_assign_own (id := 3) (sz := 15) (ty := 39) rfl rfl rfl) ?_
  refine al_d rfl rfl rfl (by exact opd_assign_own (id := 4) (sz := 15) (ty := 39) rfl rfl rfl) ?_
  refine al_d rfl rfl rfl (by exact opd_assign_own (id := 5) (sz := 15) (ty := 39) rfl rfl rfl) ?_
  refine al_nil ?_
  refine awp_seq ?_
  refine awp_seq ?_
  refine awp_region ?_
  refine al_d rfl rfl rfl (by exact opd_assign rfl rfl) ?_
  refine al_nil ?_
  refine awp_block ?_
  -- loop
  refine awp_loop (σ := Nat) (fun i => ([(1, lv (names5.map encStr)), (2, .ref 2 0 0 0), (3, .osl 3 i 0 i), (4, .osl 4 i 0 i), (5, .osl 5 i 0 i), (6, iv (i : Int))],
    [(3, ⟨i, 15, 39, edRows ((List.range i).map dropE)⟩), (4, ⟨i, 15, 39, edRows ((List.range i).map putE)⟩), (5, ⟨i, 15, 39, edRows ((List.range i).map moveE)⟩), (2, bx 1 24 [.pv (slObjs nodes5)])])) (fun i => i ≤ 5) (fun i => 5 - i) 0 (by omega) ?_ ?_
  · exact (Ent.wk ⟨⟨_, rfl, rfl⟩, (by first | (simp; done) | (simp; rfl) | exact clo_map _ _ _), ⟨_, rfl, rfl⟩, (by first | (simp; done) | (simp; rfl) | exact clo_map _ _ _), ⟨_, rfl, rfl⟩, (by first | (simp; done) | (simp; rfl) | exact clo_map _ _ _), ⟨_, rfl, rfl⟩, (by first | (simp; done) | (simp; rfl) | exact clo_map _ _ _), ⟨_, rfl, rfl⟩, (by first | (simp; done) | (simp; rfl) | exact clo_map _ _ _), ⟨_, rfl, rfl⟩, (by first | (simp; done) | (simp; rfl) | exact clo_map _ _ _), trivial⟩ ⟨⟨_, rfl, rfl⟩, (by first | (simp; done) | (simp; rfl) | exact clo_map _ _ _), ⟨_, rfl, rfl⟩, (by first | (simp; done) | (simp; rfl) | exact clo_map _ _ _), ⟨_, rfl, rfl⟩, (by first | (simp; done) | (simp; rfl) | exact clo_map _ _ _), ⟨_, rfl, rfl⟩, (by first | (simp; done) | (simp; rfl) | exact clo_map _ _ _), trivial⟩ trivial)
  · intro i hi
    refine awp_seq ?_
    refine awp_seq ?_
    refine awp_region ?_
    refine al_d rfl rfl rfl (by exact opd_move rfl rfl) ?_
    refine al_d rfl rfl rfl (by exact opd_move rfl rfl) ?_
    refine al_d rfl rfl rfl (by exact (by first | exact opd_len_sl rfl Try.underlying34 rfl | exact opd_len_osl rfl Try.underlying34 rfl rfl rfl)) ?_
    refine al_d rfl rfl rfl (by exact opd_lss rfl rfl rfl) ?_
    refine al_nil ?_
    refine awp_cond rfl (fun hc1 => ?_) (fun hc1 => ?_)
    -- cond 1
    · have hlt : i < 5 := by
        have h : decide ((i : Int) < 5) = true := hc1
        simp at h; omega
      have hni := names5_at hlt
      have hsz : (nm i).size = 2 := rfl
      refine awp_skip ?_
      refine awp_seq ?_
      refine awp_block ?_
      refine awp_seq ?_
      refine awp_region ?_
      refine al_d rfl rfl rfl (by exact opd_move rfl rfl) ?_
      refine al_d rfl rfl rfl (by exact opd_move rfl rfl) ?_
      refine al_d rfl rfl rfl (by exact opd_move rfl rfl) ?_
      refine al_d rfl rfl rfl (by exact (by first | exact x_index_pad rfl so34 rfl rfl (by omega) (by first | exact Int.toNat_natCast _ | rfl) (by assumption) rfl | exact x_index_osl rfl so34 rfl rfl rfl rfl rfl (by omega) (by first | exact Int.toNat_natCast _ | rfl) (by first | omega | assumption) rfl)) ?_
      refine al_d rfl rfl rfl (by exact (by first | exact opd_load1_ref rfl Try.isAgg9 rfl rfl rfl rfl rfl | exact opd_load1_pad rfl Try.isAgg9 rfl (by first | omega | assumption) rfl)) ?_
      refine al_d rfl rfl rfl (by exact x_build rfl bo39 rfl rfl) ?_
      refine al_d rfl rfl rfl (by exact x_buildSlice [encEdit (dropE i)] rfl so25 rfl rfl rfl rfl rfl (by simp [encEdit])) ?_
      refine al_d rfl rfl rfl (by exact (by first | exact x_append rfl so25 ei39 rfl rfl rfl rfl rfl (by simp : _ = i) rfl (by simp [encEdit]) (rfl : _ = 1) (by omega) (rfl : _ = i + 1) (List.map_append (l₂ := [dropE i])).symm | exact x_append_osl rfl so25 ei39 rfl rfl rfl rfl rfl (by simp : _ = i) rfl rfl rfl rfl (by simp [encEdit]) (rfl : _ = 1) (by omega) (rfl : _ = i + 1) (List.map_append (l₂ := [dropE i])).symm)) ?_
      refine al_d rfl rfl rfl (by exact opd_assign rfl rfl) ?_
      refine al_nil ?_
      refine awp_seq ?_
      refine awp_region ?_
      refine al_d rfl rfl rfl (by exact opd_move rfl rfl) ?_
      refine al_d rfl rfl rfl (by exact opd_move rfl rfl) ?_
      refine al_d rfl rfl rfl (by exact opd_move rfl rfl) ?_
      refine al_d rfl rfl rfl (by exact (by first | exact x_index_pad rfl so34 rfl rfl (by omega) (by first | exact Int.toNat_natCast _ | rfl) (by assumption) rfl | exact x_index_osl rfl so34 rfl rfl rfl rfl rfl (by omega) (by first | exact Int.toNat_natCast _ | rfl) (by first | omega | assumption) rfl)) ?_
      refine al_d rfl rfl rfl (by exact (by first | exact opd_load1_ref rfl Try.isAgg9 rfl rfl rfl rfl rfl | exact opd_load1_pad rfl Try.isAgg9 rfl (by first | omega | assumption) rfl)) ?_
      refine al_d rfl rfl rfl (by exact x_build rfl bo33 rfl rfl) ?_
      refine al_d rfl rfl rfl (by exact x_build rfl bo39 rfl rfl) ?_
      refine al_d rfl rfl rfl (by exact x_buildSlice [encEdit (moveE i)] rfl so25 rfl rfl rfl rfl rfl (by simp [encEdit])) ?_
      refine al_d rfl rfl rfl (by exact (by first | exact x_append rfl so25 ei39 rfl rfl rfl rfl rfl (by simp : _ = i) rfl (by simp [encEdit]) (rfl : _ = 1) (by omega) (rfl : _ = i + 1) (List.map_append (l₂ := [moveE i])).symm | exact x_append_osl rfl so25 ei39 rfl rfl rfl rfl rfl (by simp : _ = i) rfl rfl rfl rfl (by simp [encEdit]) (rfl : _ = 1) (by omega) (rfl : _ = i + 1) (List.map_append (l₂ := [moveE i])).symm)) ?_
      refine al_d rfl rfl rfl (by exact opd_assign rfl rfl) ?_
      refine al_nil ?_
      refine awp_region ?_
      refine al_d rfl rfl rfl (by exact opd_move rfl rfl) ?_
      refine al_d rfl rfl rfl (by exact opd_move rfl rfl) ?_
      refine al_d rfl rfl rfl (by exact opd_move rfl rfl) ?_
      refine al_d rfl rfl rfl (by exact (by first | exact x_index_pad rfl so34 rfl rfl (by omega) (by first | exact Int.toNat_natCast _ | rfl) (by assumption) rfl | exact x_index_osl rfl so34 rfl rfl rfl rfl rfl (by omega) (by first | exact Int.toNat_natCast _ | rfl) (by first | omega | assumption) rfl)) ?_
      refine al_d rfl rfl rfl (by exact (by first | exact opd_load1_ref rfl Try.isAgg9 rfl rfl rfl rfl rfl | exact opd_load1_pad rfl Try.isAgg9 rfl (by first | omega | assumption) rfl)) ?_
      refine al_d rfl rfl rfl (by exact opd_sadd rfl rfl rfl (show (1 : Nat) + 2 ≤ 9223372036854775807 by decide) rfl) ?_
      refine al_d rfl rfl rfl (by exact x_build rfl bo37 rfl rfl) ?_
      refine al_d rfl rfl rfl (by exact x_build rfl bo39 rfl rfl) ?_
      refine al_d rfl rfl rfl (by exact x_buildSlice [encEdit (putE i)] rfl so25 rfl rfl rfl rfl rfl (by simp [encEdit])) ?_
      refine al_d rfl rfl rfl (by exact (by first | exact x_append rfl so25 ei39 rfl rfl rfl rfl rfl (by simp : _ = i) rfl (by simp [encEdit]) (rfl : _ = 1) (by omega) (rfl : _ = i + 1) (List.map_append (l₂ := [putE i])).symm | exact x_append_osl rfl so25 ei39 rfl rfl rfl rfl rfl (by simp : _ = i) rfl rfl rfl rfl (by simp [encEdit]) (rfl : _ = 1) (by omega) (rfl : _ = i + 1) (List.map_append (l₂ := [putE i])).symm)) ?_
      refine al_d rfl rfl rfl (by exact opd_assign rfl rfl) ?_
      refine al_nil ?_
      refine awp_region ?_
      refine al_d rfl rfl rfl (by exact opd_move rfl rfl) ?_
      refine al_d rfl rfl rfl (by exact opd_add rfl rfl rfl (by first | exact w64 (by omega) (by omega) | exact wu8 (by omega) (by omega) | rfl)) ?_
      refine al_d rfl rfl rfl (by exact opd_assign rfl rfl) ?_
      refine al_nil ?_
      -- end of a round
      refine ⟨i + 1, by omega, by omega, ?_⟩
      rw [range_snoc, range_snoc, range_snoc]
      exact (Ent.wk ⟨⟨_, rfl, rfl⟩, (by first | (simp; done) | (simp; rfl) | exact clo_map _ _ _), ⟨_, rfl, rfl⟩, (by first | (simp; done) | (simp; rfl) | exact clo_map _ _ _), ⟨_, rfl, rfl⟩, (by first | (simp; done) | (simp; rfl) | exact clo_map _ _ _), ⟨_, rfl, rfl⟩, (by first | (simp; done) | (simp; rfl) | exact clo_map _ _ _), ⟨_, rfl, rfl⟩, (by first | (simp; done) | (simp; rfl) | exact clo_map _ _ _), ⟨_, rfl, rfl⟩, (by first | (simp; done) | (simp; rfl) | exact clo_map _ _ _), trivial⟩ ⟨⟨_, rfl, rfl⟩, (by first | (simp; done) | (simp; rfl) | exact clo_map _ _ _), ⟨_, rfl, rfl⟩, (by first | (simp; done) | (simp; rfl) | exact clo_map _ _ _), ⟨_, rfl, rfl⟩, (by first | (simp; done) | (simp; rfl) | exact clo_map _ _ _), ⟨_, rfl, rfl⟩, (by first | (simp; done) | (simp; rfl) | exact clo_map _ _ _), trivial⟩ trivial)
    · have hge : i = 5 := by
        have h : decide ((i : Int) < 5) = false := hc1
        simp at h; omega
      subst hge
      refine awp_exit ?_
      refine awp_seq ?_
      refine awp_region ?_
      refine al_d rfl rfl rfl (by exact x_buildSlice ([0, 1, 2, 3, 4].map encInt) rfl so26 rfl rfl rfl rfl rfl (by simp [encInt])) ?_
      refine al_d rfl rfl rfl (by exact x_build rfl bo28 rfl rfl) ?_
      refine al_d rfl rfl rfl (by exact x_alloc (id := 7) rfl zo28 rfl rfl) ?_
      refine al_n rfl rfl (by exact (by first | exact x_store_all rfl Try.sizeOf28 rfl rfl rfl rfl rfl rfl rfl rfl | exact x_store rfl Try.sizeOf28 rfl rfl rfl rfl rfl rfl rfl (by simp only [List.length_cons, List.length_nil]; omega) (by simp only [List.drop_succ_cons, List.drop_zero, List.take_succ_cons, List.take_zero, List.take_nil, List.map_cons, List.map_nil, List.set_cons_zero, List.set_cons_succ, List.cons_append, List.nil_append, encTag, encObj, encEdit]; rfl) (by simp only [List.drop_succ_cons, List.drop_zero, List.take_succ_cons, List.take_zero, List.take_nil, List.map_cons, List.map_nil, List.set_cons_zero, List.set_cons_succ, List.cons_append, List.nil_append, encTag, encObj, encEdit]; rfl))) ?_
      refine al_nil ?_
      refine awp_seq ?_
      refine awp_drawc follows ?_
      refine dc_cons (r := ⟨_, some [2], []⟩) (DStep.plain rfl (fun H1 hH => by exact (by first | exact opd_loadn_ref rfl Try.isAgg24 Try.sizeOf24 rfl ((hH _ rfl).trans rfl) rfl rfl (by simp only [List.drop_succ_cons, List.drop_zero, List.take_succ_cons, List.take_zero, List.take_nil, List.map_cons, List.map_nil, List.set_cons_zero, List.set_cons_succ, List.cons_append, List.nil_append, encTag, encObj, encEdit]; rfl) rfl | exact opd_loadn_pad rfl Try.isAgg24 Try.sizeOf24 rfl (by first | omega | assumption) (by simp only [List.drop_succ_cons, List.drop_zero, List.take_succ_cons, List.take_zero, List.take_nil, List.map_cons, List.map_nil, List.set_cons_zero, List.set_cons_succ, List.cons_append, List.nil_append, encTag, encObj, encEdit]; rfl) rfl))) rfl ?_
      refine dc_cons (r := ⟨_, some [50], [_]⟩) (DStep.plain rfl (fun H1 hH => by exact x_buildSlice_own (id := 50) rfl so25 rfl rfl rfl rfl (by simp) ((hH _ rfl).trans rfl))) rfl ?_
      refine dc_cons (r := ⟨_, some [3], []⟩) (DStep.plain rfl (fun H1 hH => by exact opd_move rfl rfl)) rfl ?_
      refine dc_cons (r := ⟨_, some [3, 50], [_]⟩) (DStep.plain rfl (fun H1 hH => by exact (by first | exact x_append rfl so25 ei39 rfl ((hH _ rfl).trans rfl) rfl rfl rfl rfl rfl (by simp [encEdit]) (by simp) (by omega) rfl rfl | exact x_append_osl rfl so25 ei39 rfl ((hH _ rfl).trans rfl) rfl rfl rfl rfl rfl ((hH _ rfl).trans rfl) rfl rfl (by simp [encEdit]) (by simp) (by omega) rfl rfl))) rfl ?_
      refine dc_cons (r := ⟨_, some [5], []⟩) (DStep.plain rfl (fun H1 hH => by exact opd_move rfl rfl)) rfl ?_
      refine dc_cons (r := ⟨_, some [5], []⟩) (DStep.plain rfl (fun H1 hH => by exact x_index_osl rfl so25 rfl ((hH 5 rfl).trans rfl) rfl rfl rfl (by decide) (rfl : _ = 0) (by decide) rfl)) rfl ?_
      refine dc_cons (r := ⟨_, some [5], []⟩) (DStep.plain rfl (fun H1 hH => by exact opd_loadn_ref (r := (encEdit (moveE 0)).map AV.pv) (cs := (encEdit (moveE 0)).map AV.pv) rfl Try.isAgg39 Try.sizeOf39 rfl ((hH 5 rfl).trans rfl) rfl rfl rfl rfl)) rfl ?_
      refine dc_cons (r := ⟨_, some [], []⟩) (DStep.plain rfl (fun H1 hH => by exact x_buildSlice [encEdit (moveE 0)] rfl so25 rfl rfl rfl rfl rfl (by simp [encEdit]))) rfl ?_
      refine dc_cons (r := ⟨_, some [50], [_]⟩) (DStep.plain rfl (fun H1 hH => by exact (by first | exact x_append rfl so25 ei39 rfl ((hH _ rfl).trans rfl) rfl rfl rfl rfl rfl (by simp [encEdit]) (rfl : _ = 1) (by omega) rfl rfl | exact x_append_osl rfl so25 ei39 rfl ((hH _ rfl).trans rfl) rfl rfl rfl rfl rfl ((hH _ rfl).trans rfl) rfl rfl (by simp [encEdit]) (rfl : _ = 1) (by omega) rfl rfl))) rfl ?_
      refine dc_cons (r := ⟨_, some [7], []⟩) (DStep.plain rfl (fun H1 hH => by exact (by first | exact opd_loadn_ref rfl Try.isAgg28 Try.sizeOf28 rfl ((hH _ rfl).trans rfl) rfl rfl (by simp only [List.drop_succ_cons, List.drop_zero, List.take_succ_cons, List.take_zero, List.take_nil, List.map_cons, List.map_nil, List.set_cons_zero, List.set_cons_succ, List.cons_append, List.nil_append, encTag, encObj, encEdit]; rfl) rfl | exact opd_loadn_pad rfl Try.isAgg28 Try.sizeOf28 rfl (by first | omega | assumption) (by simp only [List.drop_succ_cons, List.drop_zero, List.take_succ_cons, List.take_zero, List.take_nil, List.map_cons, List.map_nil, List.set_cons_zero, List.set_cons_succ, List.cons_append, List.nil_append, encTag, encObj, encEdit]; rfl) rfl))) rfl ?_
      refine dc_cons (r := ⟨_, some [50], []⟩) (DStep.plain rfl (fun H1 hH => by exact opr_call rfl rfl Try.call16 rfl (lent_c (drops5 ++ [moveE 0]) 1 [0, 1, 2, 3, 4] true _ 50 _ _ ((hH 50 rfl).trans rfl) (by rfl) (by rfl) o1 (by decide) ev1))) rfl ?_
      refine dc_cons (r := ⟨_, some [], []⟩) (DStep.plain rfl (fun H1 hH => by exact opd_move rfl rfl)) rfl ?_
      refine dc_cons (r := ⟨_, some [2], []⟩) (l_on_t rfl rfl rfl (by first | rfl | assumption) (fun H1 hH => by exact (by first | exact opd_loadn_ref rfl Try.isAgg24 Try.sizeOf24 rfl ((hH _ rfl).trans rfl) rfl rfl (by simp only [List.drop_succ_cons, List.drop_zero, List.take_succ_cons, List.take_zero, List.take_nil, List.map_cons, List.map_nil, List.set_cons_zero, List.set_cons_succ, List.cons_append, List.nil_append, encTag, encObj, encEdit]; rfl) rfl | exact opd_loadn_pad rfl Try.isAgg24 Try.sizeOf24 rfl (by first | omega | assumption) (by simp only [List.drop_succ_cons, List.drop_zero, List.take_succ_cons, List.take_zero, List.take_nil, List.map_cons, List.map_nil, List.set_cons_zero, List.set_cons_succ, List.cons_append, List.nil_append, encTag, encObj, encEdit]; rfl) rfl))) rfl ?_
      refine dc_cons (r := ⟨_, some [62], [_]⟩) (l_on_t rfl rfl rfl (by first | rfl | assumption) (fun H1 hH => by exact x_buildSlice_own (id := 62) rfl so25 rfl rfl rfl rfl (by simp) ((hH _ rfl).trans rfl))) rfl ?_
      refine dc_cons (r := ⟨_, some [3], []⟩) (l_on_t rfl rfl rfl (by first | rfl | assumption) (fun H1 hH => by exact opd_move rfl rfl)) rfl ?_
      refine dc_cons (r := ⟨_, some [3, 62], [_]⟩) (l_on_t rfl rfl rfl (by first | rfl | assumption) (fun H1 hH => by exact (by first | exact x_append rfl so25 ei39 rfl ((hH _ rfl).trans rfl) rfl rfl rfl rfl rfl (by simp [encEdit]) (by simp) (by omega) rfl rfl | exact x_append_osl rfl so25 ei39 rfl ((hH _ rfl).trans rfl) rfl rfl rfl rfl rfl ((hH _ rfl).trans rfl) rfl rfl (by simp [encEdit]) (by simp) (by omega) rfl rfl))) rfl ?_
      refine dc_cons (r := ⟨_, some [5], []⟩) (l_on_t rfl rfl rfl (by first | rfl | assumption) (fun H1 hH => by exact opd_move rfl rfl)) rfl ?_
      refine dc_cons (r := ⟨_, some [5, 62], [_]⟩) (l_on_t rfl rfl rfl (by first | rfl | assumption) (fun H1 hH => by exact (by first | exact x_append rfl so25 ei39 rfl ((hH _ rfl).trans rfl) rfl rfl rfl rfl rfl (by simp [encEdit]) (by simp) (by omega) rfl rfl | exact x_append_osl rfl so25 ei39 rfl ((hH _ rfl).trans rfl) rfl rfl rfl rfl rfl ((hH _ rfl).trans rfl) rfl rfl (by simp [encEdit]) (by simp) (by omega) rfl rfl))) rfl ?_
      refine dc_cons (r := ⟨_, some [7], []⟩) (l_on_t rfl rfl rfl (by first | rfl | assumption) (fun H1 hH => by exact (by first | exact opd_loadn_ref rfl Try.isAgg28 Try.sizeOf28 rfl ((hH _ rfl).trans rfl) rfl rfl (by simp only [List.drop_succ_cons, List.drop_zero, List.take_succ_cons, List.take_zero, List.take_nil, List.map_cons, List.map_nil, List.set_cons_zero, List.set_cons_succ, List.cons_append, List.nil_append, encTag, encObj, encEdit]; rfl) rfl | exact opd_loadn_pad rfl Try.isAgg28 Try.sizeOf28 rfl (by first | omega | assumption) (by simp only [List.drop_succ_cons, List.drop_zero, List.take_succ_cons, List.take_zero, List.take_nil, List.map_cons, List.map_nil, List.set_cons_zero, List.set_cons_succ, List.cons_append, List.nil_append, encTag, encObj, encEdit]; rfl) rfl))) rfl ?_
      refine dc_cons (r := ⟨_, some [62], []⟩) (l_on_t rfl rfl rfl (by first | rfl | assumption) (fun H1 hH => by exact opr_call rfl rfl Try.call16 rfl (lent_c (drops5 ++ moves5) 1 [0, 1, 2, 3, 4] false _ 62 _ _ ((hH 62 rfl).trans rfl) (by rfl) (by rfl) o2 (by decide) ev2))) rfl ?_
      refine dc_cons (r := ⟨_, some [], []⟩) (l_on_t rfl rfl rfl (by first | rfl | assumption) (fun H1 hH => by exact opd_not rfl rfl)) rfl ?_
      refine dc_cons (r := ⟨_, some [], []⟩) (DStep.plain rfl (fun H1 hH => by exact (by first | exact opd_pick_t rfl rfl rfl | exact opd_pick_f rfl rfl rfl | exact opd_pickt rfl rfl (by assumption) rfl | exact opd_pickf rfl rfl (by assumption) rfl | exact opd_pick rfl rfl rfl))) rfl ?_
      refine dc_cons (r := ⟨_, some [], []⟩) (DStep.plain rfl (fun H1 hH => by exact opd_assign rfl rfl)) rfl ?_
      refine dc_nil ⟨by kernel_rfl, ?_⟩
      refine awp_seq ?_
      refine awp_bool (t := 9) (n := 14) (X := true) ?_ ?_
      · all_goals (refine al_d rfl rfl rfl (by exact (by first | exact opd_loadn_ref rfl Try.isAgg24 Try.sizeOf24 rfl rfl rfl rfl (by simp only [List.drop_succ_cons, List.drop_zero, List.take_succ_cons, List.take_zero, List.take_nil, List.map_cons, List.map_nil, List.set_cons_zero, List.set_cons_succ, List.cons_append, List.nil_append, encTag, encObj, encEdit]; rfl) rfl | exact opd_loadn_pad rfl Try.isAgg24 Try.sizeOf24 rfl (by first | omega | assumption) (by simp only [List.drop_succ_cons, List.drop_zero, List.take_succ_cons, List.take_zero, List.take_nil, List.map_cons, List.map_nil, List.set_cons_zero, List.set_cons_succ, List.cons_append, List.nil_append, encTag, encObj, encEdit]; rfl) rfl)) ?_)
        all_goals (refine al_d rfl rfl rfl (by exact opd_move rfl rfl) ?_)
        all_goals (refine al_d rfl rfl rfl (by exact x_buildSlice ([0, 1, 2, 3].map encInt) rfl so26 rfl rfl rfl rfl rfl (by simp [encInt])) ?_)
        all_goals (refine al_d rfl rfl rfl (by exact x_build rfl bo28 rfl rfl) ?_)
        all_goals (refine al_d rfl rfl rfl (by exact opr_call rfl rfl Try.call16 rfl (lent_c puts5 4 [0, 1, 2, 3] true _ 4 _ ⟨5, 15, 39, edRows puts5⟩ rfl (rows_of encEdit puts5) (by rfl) o3 (by decide) ev3)) ?_)
        all_goals (refine al_d rfl rfl rfl (by exact opd_move rfl rfl) ?_)
        all_goals (first | refine al_split (t := 76) rfl (fun h76 => ?_) (fun h76 => ?_) | skip)
        all_goals (try contradiction)
        all_goals (first | refine al_off rfl rfl rfl rfl rfl ?_ | refine al_offu rfl rfl rfl rfl ?_ | refine al_ond rfl rfl rfl rfl rfl rfl (by exact (by first | exact opd_loadn_ref rfl Try.isAgg24 Try.sizeOf24 rfl rfl rfl rfl (by simp only [List.drop_succ_cons, List.drop_zero, List.take_succ_cons, List.take_zero, List.take_nil, List.map_cons, List.map_nil, List.set_cons_zero, List.set_cons_succ, List.cons_append, List.nil_append, encTag, encObj, encEdit]; rfl) rfl | exact opd_loadn_pad rfl Try.isAgg24 Try.sizeOf24 rfl (by first | omega | assumption) (by simp only [List.drop_succ_cons, List.drop_zero, List.take_succ_cons, List.take_zero, List.take_nil, List.map_cons, List.map_nil, List.set_cons_zero, List.set_cons_succ, List.cons_append, List.nil_append, encTag, encObj, encEdit]; rfl) rfl)) ?_)
        all_goals (first | refine al_off rfl rfl rfl rfl rfl ?_ | refine al_offu rfl rfl rfl rfl ?_ | refine al_ond rfl rfl rfl rfl rfl rfl (by exact opd_move rfl rfl) ?_)
        all_goals (first | refine al_off rfl rfl rfl rfl rfl ?_ | refine al_offu rfl rfl rfl rfl ?_ | refine al_ond rfl rfl rfl rfl rfl rfl (by exact x_build rfl bo28 rfl rfl) ?_)
        all_goals (first | refine al_off rfl rfl rfl rfl rfl ?_ | refine al_offu rfl rfl rfl rfl ?_ | refine al_ond rfl rfl rfl rfl rfl rfl (by exact opr_call rfl rfl Try.call16 rfl (lent_c puts5 0 [] false _ 4 _ ⟨5, 15, 39, edRows puts5⟩ rfl (rows_of encEdit puts5) (by rfl) o3 (by decide) ev4)) ?_)
        all_goals (first | refine al_off rfl rfl rfl rfl rfl ?_ | refine al_offu rfl rfl rfl rfl ?_ | refine al_ond rfl rfl rfl rfl rfl rfl (by exact opd_not rfl rfl) ?_)
        all_goals (refine al_d rfl rfl rfl (by exact (by first | exact opd_pick_t rfl rfl rfl | exact opd_pick_f rfl rfl rfl | exact opd_pickt rfl rfl (by assumption) rfl | exact opd_pickf rfl rfl (by assumption) rfl | exact opd_pick rfl rfl rfl)) ?_)
        all_goals (refine al_d rfl rfl rfl (by exact opd_assign rfl rfl) ?_)
        all_goals (refine al_nil ?_)
        all_goals (exact ⟨⟨_, rfl, by first | rfl | (simp only [*, Bool.false_and, Bool.true_and, Bool.and_false, Bool.and_true, Bool.true_or, Bool.false_or, Bool.or_true, Bool.or_false, Bool.not_true, Bool.not_false]; done) | (simp_all; done) | (simp_all; omega)⟩, rfl, rfl, rfl⟩)
      refine awp_seq ?_
      refine awp_bool (t := 0) (n := 23) (X := true) ?_ ?_
      · all_goals (refine al_d rfl rfl rfl (by exact opd_move rfl rfl) ?_)
        all_goals (refine al_d rfl rfl rfl (by exact opd_move rfl rfl) ?_)
        all_goals (first | refine al_split (t := 84) rfl (fun h84 => ?_) (fun h84 => ?_) | skip)
        all_goals (try contradiction)
        all_goals (first | refine al_off rfl rfl rfl rfl rfl ?_ | refine al_offu rfl rfl rfl rfl ?_ | refine al_ond rfl rfl rfl rfl rfl rfl (by exact opd_move rfl rfl) ?_)
        all_goals (refine al_d rfl rfl rfl (by exact (by first | exact opd_pick_t rfl rfl rfl | exact opd_pick_f rfl rfl rfl | exact opd_pickt rfl rfl (by assumption) rfl | exact opd_pickf rfl rfl (by assumption) rfl | exact opd_pick rfl rfl rfl)) ?_)
        all_goals (refine al_d rfl rfl rfl (by exact opd_move rfl rfl) ?_)
        all_goals (first | refine al_split (t := 87) rfl (fun h87 => ?_) (fun h87 => ?_) | skip)
        all_goals (try contradiction)
        all_goals (first | refine al_off rfl rfl rfl rfl rfl ?_ | refine al_offu rfl rfl rfl rfl ?_ | refine al_ond rfl rfl rfl rfl rfl rfl (by exact (by first | exact opd_loadn_ref rfl Try.isAgg24 Try.sizeOf24 rfl rfl rfl rfl (by simp only [List.drop_succ_cons, List.drop_zero, List.take_succ_cons, List.take_zero, List.take_nil, List.map_cons, List.map_nil, List.set_cons_zero, List.set_cons_succ, List.cons_append, List.nil_append, encTag, encObj, encEdit]; rfl) rfl | exact opd_loadn_pad rfl Try.isAgg24 Try.sizeOf24 rfl (by first | omega | assumption) (by simp only [List.drop_succ_cons, List.drop_zero, List.take_succ_cons, List.take_zero, List.take_nil, List.map_cons, List.map_nil, List.set_cons_zero, List.set_cons_succ, List.cons_append, List.nil_append, encTag, encObj, encEdit]; rfl) rfl)) ?_)
        all_goals (first | refine al_off rfl rfl rfl rfl rfl ?_ | refine al_offu rfl rfl rfl rfl ?_ | refine al_ond rfl rfl rfl rfl rfl rfl (by exact opd_move rfl rfl) ?_)
        all_goals (first | refine al_off rfl rfl rfl rfl rfl ?_ | refine al_offu rfl rfl rfl rfl ?_ | refine al_ond rfl rfl rfl rfl rfl rfl (by exact x_buildSlice ([0, 2, 4].map encInt) rfl so26 rfl rfl rfl rfl rfl (by simp [encInt])) ?_)
        all_goals (first | refine al_off rfl rfl rfl rfl rfl ?_ | refine al_offu rfl rfl rfl rfl ?_ | refine al_ond rfl rfl rfl rfl rfl rfl (by exact x_build rfl bo28 rfl rfl) ?_)
        all_goals (first | refine al_off rfl rfl rfl rfl rfl ?_ | refine al_offu rfl rfl rfl rfl ?_ | refine al_ond rfl rfl rfl rfl rfl rfl (by exact opr_call rfl rfl Try.call16 rfl (lent_c moves5 3 [0, 2, 4] true _ 5 _ ⟨5, 15, 39, edRows moves5⟩ rfl (rows_of encEdit moves5) (by rfl) o4 (by decide) ev5)) ?_)
        all_goals (refine al_d rfl rfl rfl (by exact (by first | exact opd_pick_t rfl rfl rfl | exact opd_pick_f rfl rfl rfl | exact opd_pickt rfl rfl (by assumption) rfl | exact opd_pickf rfl rfl (by assumption) rfl | exact opd_pick rfl rfl rfl)) ?_)
        all_goals (refine al_d rfl rfl rfl (by exact opd_move rfl rfl) ?_)
        all_goals (first | refine al_split (t := 94) rfl (fun h94 => ?_) (fun h94 => ?_) | skip)
        all_goals (try contradiction)
        all_goals (first | refine al_off rfl rfl rfl rfl rfl ?_ | refine al_offu rfl rfl rfl rfl ?_ | refine al_ond rfl rfl rfl rfl rfl rfl (by exact (by first | exact opd_loadn_ref rfl Try.isAgg24 Try.sizeOf24 rfl rfl rfl rfl (by simp only [List.drop_succ_cons, List.drop_zero, List.take_succ_cons, List.take_zero, List.take_nil, List.map_cons, List.map_nil, List.set_cons_zero, List.set_cons_succ, List.cons_append, List.nil_append, encTag, encObj, encEdit]; rfl) rfl | exact opd_loadn_pad rfl Try.isAgg24 Try.sizeOf24 rfl (by first | omega | assumption) (by simp only [List.drop_succ_cons, List.drop_zero, List.take_succ_cons, List.take_zero, List.take_nil, List.map_cons, List.map_nil, List.set_cons_zero, List.set_cons_succ, List.cons_append, List.nil_append, encTag, encObj, encEdit]; rfl) rfl)) ?_)
        all_goals (first | refine al_off rfl rfl rfl rfl rfl ?_ | refine al_offu rfl rfl rfl rfl ?_ | refine al_ond rfl rfl rfl rfl rfl rfl (by exact opd_move rfl rfl) ?_)
        all_goals (first | refine al_off rfl rfl rfl rfl rfl ?_ | refine al_offu rfl rfl rfl rfl ?_ | refine al_ond rfl rfl rfl rfl rfl rfl (by exact x_buildSlice ([0, 2].map encInt) rfl so26 rfl rfl rfl rfl rfl (by simp [encInt])) ?_)
        all_goals (first | refine al_off rfl rfl rfl rfl rfl ?_ | refine al_offu rfl rfl rfl rfl ?_ | refine al_ond rfl rfl rfl rfl rfl rfl (by exact x_build rfl bo28 rfl rfl) ?_)
        all_goals (first | refine al_off rfl rfl rfl rfl rfl ?_ | refine al_offu rfl rfl rfl rfl ?_ | refine al_ond rfl rfl rfl rfl rfl rfl (by exact opr_call rfl rfl Try.call16 rfl (lent_c moves5 3 [0, 2] false _ 5 _ ⟨5, 15, 39, edRows moves5⟩ rfl (rows_of encEdit moves5) (by rfl) o4 (by decide) ev6)) ?_)
        all_goals (first | refine al_off rfl rfl rfl rfl rfl ?_ | refine al_offu rfl rfl rfl rfl ?_ | refine al_ond rfl rfl rfl rfl rfl rfl (by exact opd_not rfl rfl) ?_)
        all_goals (refine al_d rfl rfl rfl (by exact (by first | exact opd_pick_t rfl rfl rfl | exact opd_pick_f rfl rfl rfl | exact opd_pickt rfl rfl (by assumption) rfl | exact opd_pickf rfl rfl (by assumption) rfl | exact opd_pick rfl rfl rfl)) ?_)
        all_goals (refine al_d rfl rfl rfl (by exact opd_assign rfl rfl) ?_)
        all_goals (refine al_nil ?_)
        all_goals (exact ⟨⟨_, rfl, by first | rfl | (simp only [*, Bool.false_and, Bool.true_and, Bool.and_false, Bool.and_true, Bool.true_or, Bool.false_or, Bool.or_true, Bool.or_false, Bool.not_true, Bool.not_false]; done) | (simp_all; done) | (simp_all; omega)⟩, rfl, rfl, rfl⟩)
      refine awp_ret ?_
      -- return
      -- end of the body
      refine aret1 (H' := []) (by first | exact .inr rfl | exact .inl rfl) rfl (rval_tmp rfl) (Fin.wk (by simp) trivial trivial) ?_
      exact ⟨rfl, rfl⟩
end Go.Proofs.Ytljocbkebhgkoaa
