/-
  CONTRACTS: atlas.valid, at, Put, Drop. Conditions: lengths below 2^40.
  PLAIN: a map with an object put in: valid, in order, and the same views. Conditions: none.
  A nil SLICE THAT IS HANDED ON AS nil; slices that are made shorter; a call's contract at a small heap, used in a greater one.
  Conditions: each rule's own premises.
  CONTRACTS: slices.Index, Contains at strings and ints, Clone and Concat at strings; package edit: inner, referred, get. Conditions: lengths below 2^40.
  CONTRACTS: package edit: referred, get. Conditions: lengths below 2^40.
  CONTRACTS: slices.Clone, Grow, Concat at strings: what is returned never changes. Conditions: lengths below 2^40.
  CONTRACTS: atlas.Drop; package edit: split, join. Conditions: lengths below 2^40.
  CONTRACTS: package edit: join. Conditions: lengths below 2^40.
-/
import Derived.Test.YtedfihgkopejcaaGreatKN6M6
section
set_option linter.unusedVariables false
set_option linter.unusedSimpArgs false
set_option maxRecDepth 100000
namespace Go.Proofs.YtedfihgkopejcaaGreat
open Go.Abs

def encMap (m : List GObj) : List PV := [slObjs m]
/-- slices.IndexFunc at planisphere/api.Map. -/
theorem indexFunc_Map (fv : AV) (l : List (List GObj)) (p : (List GObj) → Bool) (H : Heap) (hl : l.length < 4611686018427387904) (hf : ∀ o, o ∈ l → CallsV Tryz.prog fv [.agg ((encMap o).map .pv)] H (fun r H' => r = .pv (.bool (p o)) ∧ H' = H)) :
    ACalls Tryz.prog 114 [.pv (.sl (l.map encMap)), fv] H (fun r H' => r = .pv (.int .i64 (gidx p l)) ∧ H' = H) := by
  refine ACalls.body Tryz.func114 rfl Tryz.ntmps114 (Nat.le_of_ble_eq_true rfl) ?_
  refine awp_seq ?_
  refine awp_region ?_
  refine al_d rfl rfl rfl (by exact opd_assign rfl rfl) ?_
  refine al_nil ?_
  refine awp_seq ?_
  refine awp_seq ?_
  refine awp_region ?_
  refine al_d rfl rfl rfl (by exact opd_move rfl rfl) ?_
  refine al_d rfl rfl rfl (by exact (by exact opd_len_sl rfl Tryz.underlying103 rfl)) ?_
  refine al_d rfl rfl rfl (by exact opd_move rfl rfl) ?_
  refine al_nil ?_
  refine awp_block ?_
  -- loop
  refine awp_loop (σ := Nat) (fun k => ([(0, .pv (.sl (l.map encMap))), (1, fv), (7, .pv (.int .i64 (l.map encMap).length)), (8, .pv (.int .i64 (k : Int)))], H)) (fun k => k ≤ l.length ∧ ∀ j, j < k → ∀ b, l[j]? = some b → p b = false) (fun k => l.length - k) 0 ⟨by omega, by omega⟩ ?_ ?_
  · exact Ent.e0 ⟨⟨_, rfl, rfl⟩, ⟨_, rfl, rfl⟩, ⟨_, rfl, rfl⟩, ⟨_, rfl, rfl⟩, trivial⟩
  · rintro k ⟨hk, hno⟩
    refine awp_seq ?_
    refine awp_region ?_
    refine al_d rfl rfl rfl (by exact opd_lss rfl rfl rfl) ?_
    refine al_nil ?_
    refine awp_seq ?_
    refine awp_cond rfl (fun hc1 => ?_) (fun hc1 => ?_)
    -- cond 1
    · have hlt : k < l.length := by simpa using hc1
      obtain ⟨o, ho⟩ := get_of_lt hlt
      have hi := map_get (f := encMap) ho
      have hfo := hf o (List.mem_of_getElem? ho)
      refine awp_skip ?_
      refine awp_seq ?_
      refine awp_block ?_
      refine awp_seq ?_
      refine awp_region ?_
      refine al_d rfl rfl rfl (by exact opd_move rfl rfl) ?_
      refine al_d rfl rfl rfl (by exact opd_assign rfl rfl) ?_
      refine al_nil ?_
      refine awp_seq ?_
      refine awp_region ?_
      refine al_d rfl rfl rfl (by exact opd_move rfl rfl) ?_
      refine al_d rfl rfl rfl (by exact opd_move rfl rfl) ?_
      refine al_d rfl rfl rfl (by exact opd_move rfl rfl) ?_
      refine al_d rfl rfl rfl (by exact (by exact x_index_pad rfl so103 rfl rfl (by omega) (by exact Int.toNat_natCast _) (by assumption) rfl)) ?_
      refine al_d rfl rfl rfl (by exact (by exact opd_loadn_pad rfl Tryz.isAgg24 Tryz.sizeOf24 rfl (by omega) (by simp only [List.drop_succ_cons, List.drop_zero, List.take_succ_cons, List.take_zero, List.take_nil, List.map_cons, List.map_nil, List.set_cons_zero, List.set_cons_succ, List.cons_append, List.nil_append, encMap]; rfl) rfl)) ?_
      refine al_d rfl rfl rfl (by exact opr_callV rfl rfl rfl (hfo)) ?_
      refine al_nil ?_
      refine awp_cond rfl (fun hc2 => ?_) (fun hc2 => ?_)
      -- cond 2
      · skip
        refine awp_seq ?_
        refine awp_region ?_
        refine al_d rfl rfl rfl (by exact opd_move rfl rfl) ?_
        refine al_d rfl rfl rfl (by exact opd_assign rfl rfl) ?_
        refine al_nil ?_
        refine awp_ret ?_
        -- return
        exact aret1 (H' := H) (.inr rfl) rfl (rval_tmp rfl) Fin.refl ⟨by rw [gidx, fidx_some hno ho hc2], rfl⟩
      · skip
        refine awp_skip ?_
        refine awp_region ?_
        refine al_d rfl rfl rfl (by exact opd_add rfl rfl rfl (by exact w64 (by omega) (by omega))) ?_
        refine al_d rfl rfl rfl (by exact opd_move rfl rfl) ?_
        refine al_nil ?_
        -- end of a round
        refine ⟨k + 1, ⟨by omega, fun j hj b hb => ?_⟩, by omega, Ent.e0 ⟨⟨_, rfl, rfl⟩, ⟨_, rfl, rfl⟩, ⟨_, rfl, rfl⟩, ⟨_, rfl, rfl⟩, trivial⟩⟩
        by_cases e : j = k
        · subst e; rw [ho] at hb; cases hb; exact hc2
        · exact hno j (by omega) b hb
    · have hge : k = l.length := by have : l.length ≤ k := by simpa using hc1
                                    omega
      subst hge
      refine awp_exit ?_
      refine awp_seq ?_
      refine awp_region ?_
      refine al_d rfl rfl rfl (by exact opd_assign rfl rfl) ?_
      refine al_nil ?_
      refine awp_ret ?_
      -- return
      exact aret1 (H' := H) (.inr rfl) rfl (rval_tmp rfl) Fin.refl ⟨by rw [gidx, fidx_none hno], rfl⟩
/-- slices.ContainsFunc at planisphere/api.Map. -/
theorem containsFunc_Map (fv : AV) (l : List (List GObj)) (p : (List GObj) → Bool) (H : Heap) (hl : l.length < 4611686018427387904) (hf : ∀ H, ∀ o, o ∈ l → CallsV Tryz.prog fv [.agg ((encMap o).map .pv)] H (fun r H' => r = .pv (.bool (p o)) ∧ H' = H)) :
    ACalls Tryz.prog 63 [.pv (.sl (l.map encMap)), fv] H (fun r H' => r = bv (l.any p) ∧ H' = H) := by
  refine ACalls.body Tryz.func63 rfl Tryz.ntmps63 (Nat.le_of_ble_eq_true rfl) ?_
  refine awp_seq ?_
  refine awp_region ?_
  refine al_d rfl rfl rfl (by exact opd_assign rfl rfl) ?_
  refine al_nil ?_
  refine awp_seq ?_
  refine awp_region ?_
  refine al_d rfl rfl rfl (by exact opd_move rfl rfl) ?_
  refine al_d rfl rfl rfl (by exact opd_move rfl rfl) ?_
  refine al_d rfl rfl rfl (by exact opr_call rfl rfl Tryz.call114 rfl (indexFunc_Map fv l p _ hl (hf _))) ?_
  refine al_d rfl rfl rfl (by exact opd_geq rfl rfl rfl) ?_
  refine al_d rfl rfl rfl (by exact opd_assign rfl rfl) ?_
  refine al_nil ?_
  refine awp_ret ?_
  -- return
  refine aret1 (H' := H) (by exact .inr rfl) rfl (rval_tmp rfl) Fin.refl ?_
  exact ⟨by rw [← gidx_any], rfl⟩
theorem valids1_c (m : List GObj) (H : Heap) (hm : okM m) : ACalls Tryz.prog 64 [.agg ((encMap m).map .pv)] H (fun r H' => r = bv (!gMap m) ∧ H' = H) := by
  refine ACalls.pure ?_ (by simp [encMap]) H
  refine ACalls.body Tryz.func64 rfl Tryz.ntmps64 (Nat.le_of_ble_eq_true rfl) ?_
  refine awp_seq ?_
  refine awp_region ?_
  refine al_d rfl rfl rfl (by exact opd_box (id := 1) rfl rfl rfl rfl rfl) ?_
  refine al_d rfl rfl rfl (by exact opd_assign rfl rfl) ?_
  refine al_nil ?_
  refine awp_seq ?_
  refine awp_region ?_
  refine al_d rfl rfl rfl (by exact (by exact opd_loadn_ref rfl Tryz.isAgg24 Tryz.sizeOf24 rfl rfl rfl rfl (by simp only [List.drop_succ_cons, List.drop_zero, List.take_succ_cons, List.take_zero, List.take_nil, List.map_cons, List.map_nil, List.set_cons_zero, List.set_cons_succ, List.cons_append, List.nil_append, encObj]; rfl) rfl)) ?_
  refine al_d rfl rfl rfl (by exact opr_call rfl rfl Tryz.call58 rfl (atlasValid_c m _ hm)) ?_
  refine al_d rfl rfl rfl (by exact opd_not rfl rfl) ?_
  refine al_d rfl rfl rfl (by exact opd_assign rfl rfl) ?_
  refine al_nil ?_
  refine awp_ret ?_
  -- return
  refine aret1 (H' := []) (by exact .inr rfl) rfl (rval_tmp rfl) (Fin.wk (by simp) trivial trivial) ?_
  exact ⟨rfl, rfl⟩
theorem valids_c (l : List (List GObj)) (H : Heap) (hl : l.length < 4611686018427387904) (hm : ∀ m, m ∈ l → okM m) : ACalls Tryz.prog 30 [.pv (.sl (l.map encMap))] H (fun r H' => r = bv (l.all gMap) ∧ H' = H) := by
  refine ACalls.pure ?_ (by simp) H
  refine ACalls.body Tryz.func30 rfl Tryz.ntmps30 (Nat.le_of_ble_eq_true rfl) ?_
  refine awp_seq ?_
  refine awp_region ?_
  refine al_d rfl rfl rfl (by exact opd_assign rfl rfl) ?_
  refine al_nil ?_
  refine awp_seq ?_
  refine awp_region ?_
  refine al_d rfl rfl rfl (by exact opd_move rfl rfl) ?_
  refine al_d rfl rfl rfl (by exact opr_call rfl rfl Tryz.call63 rfl (containsFunc_Map (.pv (.fn 64)) l (fun m => !gMap m) _ hl (fun H o ho => CallsV.fn Tryz.call64 (valids1_c o H (hm o ho))))) ?_
  refine al_d rfl rfl rfl (by exact opd_not rfl rfl) ?_
  refine al_d rfl rfl rfl (by exact opd_assign rfl rfl) ?_
  refine al_nil ?_
  refine awp_ret ?_
  -- return
  refine aret1 (H' := []) (by exact .inr rfl) rfl (rval_tmp rfl) (Fin.wk (by simp) trivial trivial) ?_
  exact ⟨by rw [List.any_eq_not_all_not]; simp, rfl⟩
theorem at1_c (o : GObj) (s : ByteArray) (H : Heap) : ACalls Tryz.prog 145 [av (encObj o), sv s] H (fun r H' => r = iv (gCmp o.id s) ∧ H' = H) := by
  refine ACalls.pure ?_ (by simp) H
  refine ACalls.body Tryz.func145 rfl Tryz.ntmps145 (Nat.le_of_ble_eq_true rfl) ?_
  refine awp_seq ?_
  refine awp_region ?_
  refine al_d rfl rfl rfl (by exact opd_box (id := 2) rfl rfl rfl rfl rfl) ?_
  refine al_d rfl rfl rfl (by exact opd_assign rfl rfl) ?_
  refine al_nil ?_
  refine awp_seq ?_
  refine awp_region ?_
  refine al_d rfl rfl rfl (by exact (by exact opd_field_ref rfl fo30_0 rfl rfl rfl rfl)) ?_
  refine al_d rfl rfl rfl (by exact (by exact opd_load1_ref rfl Tryz.isAgg9 rfl rfl rfl rfl rfl)) ?_
  refine al_d rfl rfl rfl (by exact opd_move rfl rfl) ?_
  refine al_d rfl rfl rfl (by exact opr_call rfl rfl Tryz.call136 rfl (compare_c o.id s _)) ?_
  refine al_d rfl rfl rfl (by exact opd_assign rfl rfl) ?_
  refine al_nil ?_
  refine awp_ret ?_
  -- return
  refine aret1 (H' := []) (by exact .inr rfl) rfl (rval_tmp rfl) (Fin.wk (by simp) trivial trivial) ?_
  exact ⟨rfl, rfl⟩
theorem at_c (m : List GObj) (s : ByteArray) (H : Heap) (hl : m.length < 1099511627776) (hu : ups m) : ACalls Tryz.prog 110 [.agg [.pv (slObjs m)], sv s] H (fun r H' => r = .tup [iv (lbI GObj.id m s : Nat), bv (hasK GObj.id m s)] ∧ H' = H) := by
  refine ACalls.pure ?_ (by simp) H
  refine ACalls.body Tryz.func110 rfl Tryz.ntmps110 (Nat.le_of_ble_eq_true rfl) ?_
  refine awp_seq ?_
  refine awp_region ?_
  refine al_d rfl rfl rfl (by exact opd_box (id := 2) rfl rfl rfl rfl rfl) ?_
  refine al_d rfl rfl rfl (by exact opd_assign rfl rfl) ?_
  refine al_d rfl rfl rfl (by exact opd_assign rfl rfl) ?_
  refine al_nil ?_
  refine awp_seq ?_
  refine awp_region ?_
  refine al_d rfl rfl rfl (by exact (by exact opd_field_ref rfl fo24_0 rfl rfl rfl rfl)) ?_
  refine al_d rfl rfl rfl (by exact (by exact opd_load1_ref rfl Tryz.isAgg22 rfl rfl rfl rfl rfl)) ?_
  refine al_d rfl rfl rfl (by exact opd_move rfl rfl) ?_
  refine al_d rfl rfl rfl (by exact opr_call rfl rfl Tryz.call144 rfl (bsf_GObj (.pv (.fn 145)) m s _ hl hu (fun o ho => CallsV.fn Tryz.call145 (at1_c o s _)))) ?_
  refine al_d rfl rfl rfl (by exact opd_extract rfl rfl rfl) ?_
  refine al_d rfl rfl rfl (by exact opd_extract rfl rfl rfl) ?_
  refine al_d rfl rfl rfl (by exact opd_assign rfl rfl) ?_
  refine al_d rfl rfl rfl (by exact opd_assign rfl rfl) ?_
  refine al_nil ?_
  refine awp_ret ?_
  -- return
  refine aret2 (H' := []) (by exact .inr rfl) rfl (rval_tmp rfl) (rval_tmp rfl) (Fin.wk (by simp) trivial trivial) ?_
  exact ⟨rfl, rfl⟩
theorem encObj_rl (l : List GObj) : ∀ r ∈ l.map encObj, r.length = 6 := fun r hr => by
  obtain ⟨t, _, rfl⟩ := List.mem_map.1 hr
  rfl
/-- A map with an object in it. -/
def gWith (m : List GObj) (o : GObj) : List GObj := if hasK GObj.id m o.id then m.set (lbI GObj.id m o.id) o else m.take (lbI GObj.id m o.id) ++ o :: m.drop (lbI GObj.id m o.id)
def gPutM (m : List GObj) (o : GObj) : List GObj × Int :=
  if !gMap m || !gObj o then ([], 1) else if !hasK GObj.id m o.id && decide (m.length = 1000000) then ([], 2) else (gWith m o, 0)
/-- A map out of an owned slice and another value are returned. -/
theorem Fin.map1 {H1 : Heap} {id g n : Nat} {x : AV} {ob : Ob} (ps : List (List PV)) (hH : H1.get id = some ob) (hg : ob.g = g) (hps : ob.rows = ps.map (·.map .pv)) (hn : ps.length = n) (hx : Clo [] x) :
    Fin [] H1 (.tup [.agg [.osl id g 0 n], x]) [] (.tup [.agg [.pv (.sl ps)], x]) := by
  subst hg hn
  exact Fin.fz (id := id) (ob := ob) ps hH hps (.tup rfl (fz_cons (.agg rfl (fz_cons (.osl (by rw [Nat.zero_add, List.drop_zero, List.take_length])) fz_nil)) (fz_cons (.same hx) fz_nil))) rfl trivial trivial
theorem putM_c (m : List GObj) (o : GObj) (H : Heap) (hm : okM m) (ho : okO o) (hl : m.length < 1099511627776) : ACalls Tryz.prog 61 [.agg [.pv (slObjs m)], av (encObj o)] H (fun r H' => r = .tup [.agg [.pv (slObjs (gPutM m o).1)], iv (gPutM m o).2] ∧ H' = H) := by
  refine ACalls.pure ?_ (by simp) H
  have hml : (m.map encObj).length = m.length := List.length_map _
  have hrl := encObj_rl m
  have hv := fun H => valids_c [m] H (by show 1 < _; omega) (by intro x hx; rw [List.mem_singleton] at hx; subst hx; exact hm)
  rw [show ([m].all gMap) = gMap m by simp] at hv
  refine ACalls.body Tryz.func61 rfl Tryz.ntmps61 (Nat.le_of_ble_eq_true rfl) ?_
  refine awp_seq ?_
  refine awp_region ?_
  refine al_d rfl rfl rfl (by exact opd_box (id := 2) rfl rfl rfl rfl rfl) ?_
  refine al_d rfl rfl rfl (by exact opd_box (id := 3) rfl rfl rfl rfl rfl) ?_
  refine al_d rfl rfl rfl (by exact x_alloc (id := 4) rfl zoN24 rfl rfl) ?_
  refine al_d rfl rfl rfl (by exact opd_assign rfl rfl) ?_
  refine al_nil ?_
  refine awp_seq ?_
  refine awp_seq ?_
  refine awp_bool (t := 17) (n := 10) (X := !gMap m || !gObj o) ?_ ?_
  · all_goals (refine al_d rfl rfl rfl (by exact (by exact opd_loadn_ref rfl Tryz.isAgg24 Tryz.sizeOf24 rfl rfl rfl rfl (by simp only [List.drop_succ_cons, List.drop_zero, List.take_succ_cons, List.take_zero, List.take_nil, List.map_cons, List.map_nil, List.set_cons_zero, List.set_cons_succ, List.cons_append, List.nil_append, encObj]; rfl) rfl)) ?_)
    all_goals (refine al_d rfl rfl rfl (by exact (by exact x_buildSlice ([m].map encMap) rfl so103 rfl rfl rfl rfl rfl (by simp [encMap]))) ?_)
    all_goals (refine al_d rfl rfl rfl (by exact opr_call rfl rfl Tryz.call30 rfl (hv _)) ?_)
    all_goals (refine al_d rfl rfl rfl (by exact opd_not rfl rfl) ?_)
    all_goals (refine al_d rfl rfl rfl (by exact opd_move rfl rfl) ?_)
    all_goals (refine al_split (t := 13) rfl (fun h13 => ?_) (fun h13 => ?_))
    all_goals (try contradiction)
    all_goals (first | refine al_off rfl rfl rfl rfl rfl ?_ | refine al_ond rfl rfl rfl rfl rfl rfl (by exact (by exact opd_loadn_ref rfl Tryz.isAgg30 Tryz.sizeOf30 rfl rfl rfl rfl (by simp only [List.drop_succ_cons, List.drop_zero, List.take_succ_cons, List.take_zero, List.take_nil, List.map_cons, List.map_nil, List.set_cons_zero, List.set_cons_succ, List.cons_append, List.nil_append, encObj]; rfl) rfl)) ?_)
    all_goals (first | refine al_off rfl rfl rfl rfl rfl ?_ | refine al_ond rfl rfl rfl rfl rfl rfl (by exact opr_call rfl rfl Tryz.call47 rfl (objValid_c o _ ho)) ?_)
    all_goals (first | refine al_off rfl rfl rfl rfl rfl ?_ | refine al_ond rfl rfl rfl rfl rfl rfl (by exact opd_not rfl rfl) ?_)
    all_goals (refine al_d rfl rfl rfl (by exact (by first | exact opd_pick_t rfl rfl rfl | exact opd_pick_f rfl rfl rfl)) ?_)
    all_goals (refine al_nil ?_)
    all_goals (exact ⟨⟨_, rfl, by (simp only [*, Bool.false_and, Bool.true_and, Bool.and_false, Bool.and_true, Bool.true_or, Bool.false_or, Bool.or_true, Bool.or_false, Bool.not_true, Bool.not_false]; done)⟩, rfl, rfl, rfl⟩)
  refine awp_cond rfl (fun hc1 => ?_) (fun hc1 => ?_)
  -- cond 1
  · have e : gPutM m o = ([], 1) := by rw [gPutM, if_pos hc1]
    rw [e]
    refine awp_seq ?_
    refine awp_region ?_
    refine al_d rfl rfl rfl (by exact x_build rfl bo24 rfl rfl) ?_
    refine al_n rfl rfl (by exact (by exact x_store_all rfl Tryz.sizeOf24 rfl rfl rfl rfl rfl rfl rfl rfl)) ?_
    refine al_d rfl rfl rfl (by exact opd_assign rfl rfl) ?_
    refine al_nil ?_
    refine awp_ret ?_
    -- return
    refine aret2 (H' := []) (by exact .inr rfl) rfl (rval_cell rfl Tryz.isAgg24 Tryz.sizeOf24 rfl rfl rfl (by simp only [List.drop_succ_cons, List.drop_zero, List.take_succ_cons, List.take_zero, List.take_nil, List.map_cons, List.map_nil, List.set_cons_zero, List.set_cons_succ, List.cons_append, List.nil_append, encObj]; rfl) rfl) (rval_tmp rfl) (Fin.wk (by simp) trivial trivial) ?_
    exact ⟨rfl, rfl⟩
  · have hg : gMap m = true := by
      have h := hc1
      revert h
      cases gMap m <;> simp
    have hu := (gMap_iff.1 hg).2.1
    have hle := lbI_le GObj.id m o.id
    have hgp : gPutM m o = if !hasK GObj.id m o.id && decide (m.length = 1000000) then ([], 2) else (gWith m o, 0) := by rw [gPutM, if_neg (by rw [hc1]; simp)]
    obtain ⟨i, hi0⟩ : ∃ i, i = lbI GObj.id m o.id := ⟨_, rfl⟩
    rw [gWith, ← hi0] at hgp
    rw [← hi0] at hle
    have hat := fun H => at_c m o.id H hl hu
    rw [← hi0] at hat
    refine awp_skip ?_
    refine awp_seq ?_
    refine awp_region ?_
    refine al_d rfl rfl rfl (by exact (by exact opd_loadn_ref rfl Tryz.isAgg24 Tryz.sizeOf24 rfl rfl rfl rfl (by simp only [List.drop_succ_cons, List.drop_zero, List.take_succ_cons, List.take_zero, List.take_nil, List.map_cons, List.map_nil, List.set_cons_zero, List.set_cons_succ, List.cons_append, List.nil_append, encObj]; rfl) rfl)) ?_
    refine al_d rfl rfl rfl (by exact (by exact opd_field_ref rfl fo30_0 rfl rfl rfl rfl)) ?_
    refine al_d rfl rfl rfl (by exact (by exact opd_load1_ref rfl Tryz.isAgg9 rfl rfl rfl rfl rfl)) ?_
    refine al_d rfl rfl rfl (by exact opr_call rfl rfl Tryz.call110 rfl (hat _)) ?_
    refine al_d rfl rfl rfl (by exact opd_move rfl rfl) ?_
    refine al_d rfl rfl rfl (by exact opd_extract rfl rfl rfl) ?_
    refine al_d rfl rfl rfl (by exact opd_extract rfl rfl rfl) ?_
    refine al_d rfl rfl rfl (by exact opd_assign rfl rfl) ?_
    refine al_d rfl rfl rfl (by exact opd_assign rfl rfl) ?_
    refine al_nil ?_
    refine awp_seq ?_
    refine awp_region ?_
    refine al_d rfl rfl rfl (by exact (by exact opd_field_ref rfl fo24_0 rfl rfl rfl rfl)) ?_
    refine al_d rfl rfl rfl (by exact (by exact opd_load1_ref rfl Tryz.isAgg22 rfl rfl rfl rfl rfl)) ?_
    refine al_d rfl rfl rfl (by exact opr_call rfl rfl Tryz.call111 rfl (clone_Obj (m.map encObj) _ (Closed.ofL ⟨(by (simp; done)), (by (simp; done)), (by (simp; done)), trivial⟩) rfl rfl (by omega) hrl)) ?_
    refine al_d rfl rfl rfl (by exact x_build rfl bo24 rfl rfl) ?_
    refine al_d rfl rfl rfl (by exact x_alloc (id := 8) rfl zoN24 rfl rfl) ?_
    refine al_n rfl rfl (by exact (by exact x_store_all rfl Tryz.sizeOf24 rfl rfl rfl rfl rfl rfl rfl rfl)) ?_
    refine al_nil ?_
    refine awp_seq ?_
    refine awp_block ?_
    refine awp_seq ?_
    refine awp_region ?_
    refine al_d rfl rfl rfl (by exact opd_move rfl rfl) ?_
    refine al_d rfl rfl rfl (by exact opd_assign rfl rfl) ?_
    refine al_nil ?_
    refine awp_cond rfl (fun hc2 => ?_) (fun hc2 => ?_)
    -- cond 2
    · have hf : hasK GObj.id m o.id = true := hc2
      obtain ⟨x, hx, hxk⟩ := hasK_get hu hf
      rw [← hi0] at hx
      have hlt := (List.getElem?_eq_some_iff.1 hx).1
      rw [hf] at hgp
      simp only [Bool.not_true, Bool.false_and, Bool.false_eq_true, if_false, if_true] at hgp
      rw [hgp]
      have hir : (pvR (m.map encObj))[i]? = some ((encObj x).map .pv) := by rw [pvR, List.map_map, List.getElem?_map, hx]; rfl
      refine awp_region ?_
      refine al_d rfl rfl rfl (by exact (by exact opd_field_ref rfl fo24_0 rfl rfl rfl rfl)) ?_
      refine al_d rfl rfl rfl (by exact (by exact opd_load1_ref rfl Tryz.isAgg22 rfl rfl rfl rfl rfl)) ?_
      refine al_d rfl rfl rfl (by exact opd_move rfl rfl) ?_
      refine al_d rfl rfl rfl (by exact (by exact opd_loadn_ref rfl Tryz.isAgg30 Tryz.sizeOf30 rfl rfl rfl rfl (by simp only [List.drop_succ_cons, List.drop_zero, List.take_succ_cons, List.take_zero, List.take_nil, List.map_cons, List.map_nil, List.set_cons_zero, List.set_cons_succ, List.cons_append, List.nil_append, encObj]; rfl) rfl)) ?_
      refine al_d rfl rfl rfl (by exact (by exact x_index_osl rfl so22 rfl rfl rfl rfl rfl (by omega) (by exact Int.toNat_natCast _) (by rw [hml]; exact hlt) (Nat.zero_add _))) ?_
      refine al_n rfl rfl (by exact x_store rfl Tryz.sizeOf30 rfl rfl rfl rfl rfl rfl hir (Nat.le_of_ble_eq_true rfl) rfl rfl) ?_
      refine al_nil ?_
      refine awp_seq ?_
      refine awp_region ?_
      refine al_d rfl rfl rfl (by exact (by exact opd_loadn_ref rfl Tryz.isAgg24 Tryz.sizeOf24 rfl rfl rfl rfl rfl rfl)) ?_
      refine al_n rfl rfl (by exact (by exact x_store_all rfl Tryz.sizeOf24 rfl rfl rfl rfl rfl rfl rfl rfl)) ?_
      refine al_d rfl rfl rfl (by exact opd_assign rfl rfl) ?_
      refine al_nil ?_
      refine awp_ret ?_
      -- return
      refine aret2 (H' := []) (by exact .inr rfl) rfl (rval_cell rfl Tryz.isAgg24 Tryz.sizeOf24 rfl rfl rfl rfl rfl) (rval_tmp rfl) (Fin.map1 (id := 901) ((m.set i o).map encObj) rfl rfl (by rw [List.map_set, List.map_set]; rfl) (by rw [List.length_map, List.length_set, List.length_map]) (by simp)) ?_
      exact ⟨rfl, rfl⟩
    · have hf : hasK GObj.id m o.id = false := hc2
      rw [hf] at hgp
      simp only [Bool.not_false, Bool.true_and, Bool.false_eq_true, if_false] at hgp
      refine awp_seq ?_
      refine awp_region ?_
      refine al_d rfl rfl rfl (by exact (by exact opd_field_ref rfl fo24_0 rfl rfl rfl rfl)) ?_
      refine al_d rfl rfl rfl (by exact (by exact opd_load1_ref rfl Tryz.isAgg22 rfl rfl rfl rfl rfl)) ?_
      refine al_d rfl rfl rfl (by exact (by exact opd_len_sl rfl Tryz.underlying22 rfl)) ?_
      refine al_d rfl rfl rfl (by exact opd_eql rfl rfl rfl) ?_
      refine al_d rfl rfl rfl (by exact opd_assign rfl rfl) ?_
      refine al_nil ?_
      refine awp_cond rfl (fun hc3 => ?_) (fun hc3 => ?_)
      -- cond 3
      · have h : m.length = 1000000 := by
          have h := of_decide_eq_true hc3
          omega
        rw [hgp, if_pos (by simp [h])]
        refine awp_seq ?_
        refine awp_region ?_
        refine al_d rfl rfl rfl (by exact x_build rfl bo24 rfl rfl) ?_
        refine al_n rfl rfl (by exact (by exact x_store_all rfl Tryz.sizeOf24 rfl rfl rfl rfl rfl rfl rfl rfl)) ?_
        refine al_d rfl rfl rfl (by exact opd_assign rfl rfl) ?_
        refine al_nil ?_
        refine awp_ret ?_
        -- return
        refine aret2 (H' := []) (by exact .inr rfl) rfl (rval_cell rfl Tryz.isAgg24 Tryz.sizeOf24 rfl rfl rfl rfl rfl) (rval_tmp rfl) (Fin.wk (by simp) trivial trivial) ?_
        exact ⟨rfl, rfl⟩
      · have h : ¬ m.length = 1000000 := by
          have h := of_decide_eq_false hc3
          omega
        rw [hgp, if_neg (by simp [h])]
        refine awp_region ?_
        refine al_d rfl rfl rfl (by exact (by exact opd_field_ref rfl fo24_0 rfl rfl rfl rfl)) ?_
        refine al_d rfl rfl rfl (by exact (by exact opd_load1_ref rfl Tryz.isAgg22 rfl rfl rfl rfl rfl)) ?_
        refine al_d rfl rfl rfl (by exact opd_move rfl rfl) ?_
        refine al_d rfl rfl rfl (by exact (by exact opd_loadn_ref rfl Tryz.isAgg30 Tryz.sizeOf30 rfl rfl rfl rfl (by simp only [List.drop_succ_cons, List.drop_zero, List.take_succ_cons, List.take_zero, List.take_nil, List.map_cons, List.map_nil, List.set_cons_zero, List.set_cons_succ, List.cons_append, List.nil_append, encObj]; rfl) rfl)) ?_
        refine al_d rfl rfl rfl (by exact x_buildSlice_own (id := 902) rfl so22 rfl rfl rfl rfl (by intro r hr; rw [List.mem_singleton] at hr; subst hr; rfl) rfl) ?_
        refine al_d rfl rfl rfl (by exact opr_call rfl rfl Tryz.call112 rfl (insert_Obj (m.map encObj) (encObj o) i 1 _ (Closed.ofL ⟨(by (simp; done)), (by exact clo_osl1 rfl), (by (simp; done)), (by (simp; done)), (by (simp; done)), (by (simp; done)), (by (simp; done)), trivial⟩) rfl rfl rfl (by omega) (by omega) hrl rfl)) ?_
        refine al_d rfl rfl rfl (by exact (by exact opd_field_ref rfl fo24_0 rfl rfl rfl rfl)) ?_
        refine al_n rfl rfl (by exact (by exact x_store_all rfl Tryz.sizeOf22 rfl rfl rfl rfl rfl rfl rfl rfl)) ?_
        refine al_nil ?_
        refine awp_seq ?_
        refine awp_region ?_
        refine al_d rfl rfl rfl (by exact (by exact opd_loadn_ref rfl Tryz.isAgg24 Tryz.sizeOf24 rfl rfl rfl rfl rfl rfl)) ?_
        refine al_n rfl rfl (by exact (by exact x_store_all rfl Tryz.sizeOf24 rfl rfl rfl rfl rfl rfl rfl rfl)) ?_
        refine al_d rfl rfl rfl (by exact opd_assign rfl rfl) ?_
        refine al_nil ?_
        refine awp_ret ?_
        -- return
        refine aret2 (H' := []) (by exact .inr rfl) rfl (rval_cell rfl Tryz.isAgg24 Tryz.sizeOf24 rfl rfl rfl rfl rfl) (rval_tmp rfl) (Fin.wk (by simp) trivial trivial) ?_
        have hs : slObjs (m.take i ++ o :: m.drop i) = .sl ((m.map encObj).take i ++ encObj o :: (m.map encObj).drop i) := by rw [slObjs, List.map_append, List.map_take, List.map_cons, List.map_drop]
        exact ⟨by rw [hs]; rfl, rfl⟩
end Go.Proofs.YtedfihgkopejcaaGreat
end
section
set_option linter.unusedVariables false
set_option linter.unusedSimpArgs false
set_option maxRecDepth 100000
namespace Go.Proofs.YtedfihgkopejcaaGreat
open Go.Abs
theorem lbI_lt {α : Type} {f : α → ByteArray} {l : List α} {s : ByteArray} {k : Nat} {o : α} (hk : k < lbI f l s) (ho : l[k]? = some o) : slt (f o) s = true := by
  unfold lbI at hk
  have := List.not_of_lt_findIdx hk
  obtain ⟨h1, h2⟩ := List.getElem?_eq_some_iff.1 ho
  rw [h2] at this
  simpa using this
theorem lbI_ge {α : Type} {f : α → ByteArray} {l : List α} {s : ByteArray} {k : Nat} {o : α} (ha : asc f l) (hk : lbI f l s ≤ k) (ho : l[k]? = some o) : slt (f o) s = false := by
  obtain ⟨h1, h2⟩ := List.getElem?_eq_some_iff.1 ho
  have hlt : lbI f l s < l.length := by omega
  obtain ⟨x, hx⟩ := get_of_lt hlt
  have h0 : slt (f x) s = false := by
    have hp : (fun o => !slt (f o) s) l[lbI f l s] = true := List.findIdx_getElem (p := fun o => !slt (f o) s) (xs := l) (w := hlt)
    rw [(List.getElem?_eq_some_iff.1 hx).2] at hp
    simpa using hp
  by_cases e : lbI f l s = k
  · subst e
    rw [hx] at ho; cases ho
    exact h0
  · cases h : slt (f o) s with
    | false => rfl
    | true =>
      have := slt_trans (asc_get ha (by omega) hx ho) h
      rw [h0] at this; cases this
theorem asc_map {α : Type} {f : α → ByteArray} {l : List α} : asc f l ↔ (l.map f).Pairwise (fun a b => slt a b = true) := by rw [asc, List.pairwise_map]
theorem cut_at {α : Type} {l : List α} {i : Nat} {x : α} (h : l[i]? = some x) : l = l.take i ++ x :: l.drop (i + 1) := by
  obtain ⟨h1, h2⟩ := List.getElem?_eq_some_iff.1 h
  conv => lhs; rw [← List.take_append_drop i l]
  rw [List.drop_eq_getElem_cons h1, h2]
theorem set_cut {α : Type} {l : List α} {i : Nat} {x y : α} (h : l[i]? = some x) : l.set i y = l.take i ++ y :: l.drop (i + 1) := by
  have h1 := (List.getElem?_eq_some_iff.1 h).1
  rw [List.set_eq_take_append_cons_drop, if_pos h1]
theorem asc_ins {α : Type} {f : α → ByteArray} {l : List α} {o : α} (ha : asc f l) (hn : hasK f l (f o) = false) : asc f (l.take (lbI f l (f o)) ++ o :: l.drop (lbI f l (f o))) := by
  have hle := lbI_le f l (f o)
  have hno : ∀ x, x ∈ l → f x ≠ f o := fun x hx e => by
    have : hasK f l (f o) = true := List.any_eq_true.2 ⟨x, hx, decide_eq_true e⟩
    rw [hn] at this; cases this
  have h1 : ∀ x, x ∈ l.take (lbI f l (f o)) → slt (f x) (f o) = true := fun x hx => by
    obtain ⟨k, hk⟩ := List.mem_iff_getElem?.1 hx
    rw [List.getElem?_take] at hk
    split at hk
    · next hlt => exact lbI_lt hlt hk
    · cases hk
  have h2 : ∀ x, x ∈ l.drop (lbI f l (f o)) → slt (f o) (f x) = true := fun x hx => by
    obtain ⟨k, hk⟩ := List.mem_iff_getElem?.1 hx
    rw [List.getElem?_drop] at hk
    have h3 := lbI_ge ha (Nat.le_add_right _ k) hk
    cases h4 : slt (f o) (f x) with
    | true => rfl
    | false => exact absurd (slt_tri h3 h4) (hno x (List.mem_of_getElem? hk))
  rw [asc, List.pairwise_append]
  refine ⟨(List.Pairwise.sublist (List.take_sublist _ _) ha), List.pairwise_cons.2 ⟨h2, List.Pairwise.sublist (List.drop_sublist _ _) ha⟩, fun a hA b hB => ?_⟩
  rcases List.mem_cons.1 hB with rfl | hB
  · exact h1 a hA
  · exact slt_trans (h1 a hA) (h2 b hB)
theorem asc_set {α : Type} {f : α → ByteArray} {l : List α} {i : Nat} {x y : α} (ha : asc f l) (hx : l[i]? = some x) (he : f x = f y) : asc f (l.set i y) := by
  rw [asc_map] at ha ⊢
  have : (l.set i y).map f = l.map f := by
    rw [set_cut (y := y) hx]
    conv => rhs; rw [cut_at hx]
    simp [he]
  rwa [this]
theorem gWith_len (m : List GObj) (o : GObj) : (gWith m o).length = if hasK GObj.id m o.id then m.length else m.length + 1 := by
  have := lbI_le GObj.id m o.id
  unfold gWith
  split
  · rw [List.length_set]
  · rw [List.length_append, List.length_cons, List.length_take, List.length_drop]; omega
theorem gWith_mem {m : List GObj} {o x : GObj} (h : x ∈ gWith m o) : x = o ∨ x ∈ m := by
  unfold gWith at h
  split at h
  · rcases List.mem_or_eq_of_mem_set h with h | h
    · exact .inr h
    · exact .inl h
  · rcases List.mem_append.1 h with h | h
    · exact .inr (List.mem_of_mem_take h)
    · rcases List.mem_cons.1 h with h | h
      · exact .inl h
      · exact .inr (List.mem_of_mem_drop h)
theorem gWith_ups {m : List GObj} {o : GObj} (h : ups m) : ups (gWith m o) := by
  unfold gWith
  split
  · next hf =>
    obtain ⟨x, hx, he⟩ := hasK_get (f := GObj.id) h hf
    exact asc_set (f := GObj.id) h hx he
  · next hf => exact asc_ins (f := GObj.id) h (by simpa using hf)
theorem gMap_with {m : List GObj} {o : GObj} (hm : gMap m = true) (ho : gObj o = true) (hl : (gWith m o).length ≤ 1000000) : gMap (gWith m o) = true := by
  obtain ⟨h1, h2, h3⟩ := gMap_iff.1 hm
  refine gMap_iff.2 ⟨fun x hx => ?_, gWith_ups h2, by omega⟩
  rcases gWith_mem hx with rfl | hx
  · exact ho
  · exact h1 x hx
theorem okM_with {m : List GObj} {o : GObj} (hm : okM m) (ho : okO o) (hl : m.length < 1099511627776) : okM (gWith m o) := by
  refine ⟨by rw [gWith_len]; split <;> omega, fun x hx => ?_⟩
  rcases gWith_mem hx with rfl | hx
  · exact ho
  · exact hm.2 x hx
theorem gPutM_len {m : List GObj} {o : GObj} (h : (gPutM m o).2 = 0) : gMap m = true ∧ gObj o = true ∧ (gPutM m o).1 = gWith m o ∧ (gWith m o).length ≤ 1000000 := by
  unfold gPutM at h ⊢
  by_cases h1 : (!gMap m || !gObj o) = true
  · rw [if_pos h1] at h; cases h
  · rw [if_neg h1] at h ⊢
    by_cases h2 : (!hasK GObj.id m o.id && decide (m.length = 1000000)) = true
    · rw [if_pos h2] at h; cases h
    · rw [if_neg h2]
      rw [Bool.not_eq_true] at h1 h2
      rw [Bool.or_eq_false_iff] at h1
      have hg : gMap m = true := by simpa using h1.1
      have hl : m.length ≤ 1000000 := by have := (gMap_iff.1 hg).2.2; omega
      refine ⟨hg, by simpa using h1.2, rfl, ?_⟩
      rw [gWith_len]
      split
      · exact hl
      · next hf =>
        rw [Bool.and_eq_false_iff] at h2
        rcases h2 with h2 | h2
        · simp at h2; rw [h2] at hf; simp at hf
        · have := of_decide_eq_false h2; omega
end Go.Proofs.YtedfihgkopejcaaGreat
end
section
set_option linter.unusedVariables false
set_option linter.unusedSimpArgs false
namespace Go.Abs
section
variable {P : Program} {G0 : Heap} {N : Nat} {Q : Exit → Env → Heap → Prop} {E : Env} {H : Heap} {code : Code}
/-- A nil slice as an object of its own, whose capacity is 0. -/
theorem awp_nilc {t id sz : Nat} {ty : TypeId} (hx : E.get t = some (.pv .nils)) (hid : H.get id = none) (hsz : Nat.blt 0 sz = true) (h : AWp P G0 N code Q ((t, .osc id 0 0 0 0) :: E) ((id, ⟨0, sz, ty, []⟩) :: H)) : AWp P G0 N code Q E H := by
  intro G hG a w hs
  obtain ⟨I, ι, hr, hst, he⟩ := hs.rel
  obtain ⟨v, hv, hvr⟩ := he t _ hx
  have hz : 0 < sz := by simpa [Nat.blt_eq] using hsz
  obtain ⟨k1, k2⟩ := Rel.adopt (sz := sz) (ty := ty) hr hid hz
  have hvn : v = .slice none 0 0 := by
    have := hvr.pv_inv
    cases this; rfl
  subst hvn
  refine h G hG a w ⟨hs.defers, hs.size, I, _, k1, hst.trans k2, fun u x hu => ?_⟩
  by_cases e : t = u
  · subst e
    rw [Env.get_cons_same] at hu; cases hu
    exact ⟨_, hv, .osc ⟨0, sz, ty, []⟩ (get_cons_same _ _ _) (Nat.le_refl _) rfl fun _ => ⟨hz, Nat.le_refl _, .inr ⟨by simp, rfl, rfl, rfl, rfl⟩⟩⟩
  · rw [Env.get_cons_other _ _ e] at hu
    obtain ⟨c, h1, h2⟩ := he u x hu
    exact ⟨c, h1, h2.mono hr k2⟩
end
section
variable {P : Program} {N : Nat} {o : Oper} {E : Env} {H : Heap} {T : TypeId} {x y : Operand} {Q : AV → Heap → Prop}
/-- A call whose first argument is nil. -/
theorem opr_call_nil {F : FuncId} {f y : Operand} {at_ : Array TypeId} {v : AV} (ho : o.op = .call { callee := .value f, args := #[.const (.slice none 0 0), y], argTypes := at_ }) (hf : aeval E f = some (.pv (.fn F)))
    (hc : ∀ (args : Array Value) (w : World), (callFunc F args).run P w = .ok (.enter F args) w) (hv : aeval E y = some v) (h : ACalls P F [.pv .nils, v] H Q) : OpR P N o E H Q := by
  intro a w I ι _ _ hr he K QQ hk
  have hfv := (aeval_rel he hf).fn_inv
  unfold Oper.wpW execOp
  simp only [ho, resolve, hfv, Deferred.ofValue, Sem.run_bind, Sem.run_pure, Result.andThen_ok, invoke, hc, Oper.uponW_enter]
  refine (h I ι w _ hr (by simp) (fun i u b hu hb => ?_)).mono ?_
  · match i with
    | 0 => simp [Act.eval] at hu hb; subst hu hb; exact .pv .nils
    | 1 => simp at hu hb; subst hu hb; exact aeval_rel he hv
    | i + 2 => simp at hb
  · rintro e w' ⟨r, H', I', ι', v, rfl, hq, k1, k2, k3⟩
    exact hk v w' I' ι' r H' hq k1 k2 k3
end
/-- An object loses its last rows; what led to it leads nowhere. -/
theorem Rel.cut {I : Nat → Prop} {ι : Plc} {H H' : Heap} {w : World} {id k n : Nat} {ob : Ob} (hr : Rel I ι H w) (hH : H.get id = some ob) (hg : ob.g < k) (hz : 0 < ob.sz)
    (h1 : H'.get id = some ⟨k, ob.sz, ob.ty, ob.rows.take n⟩) (h2 : ∀ j, j ≠ id → H'.get j = H.get j) : Rel I ι H' w ∧ Step I ι H w I ι H' w := by
  have hst : Step I ι H w I ι H' w := by
    refine ⟨rfl, rfl, rfl, Nat.le_refl _, fun a _ => rfl, fun _ h => h, fun _ h => .inl h, ?_, fun _ _ _ => rfl, ?_⟩
    · rintro x ⟨j, o, c, hj, hc⟩
      by_cases e : j = id
      · subst e; exact .inl ⟨j, ob, c, hH, hc⟩
      · exact .inl ⟨j, o, c, (h2 j e).symm.trans hj, hc⟩
    · intro j o hj
      by_cases e : j = id
      · subst e
        rw [hH] at hj; cases hj
        exact ⟨_, h1, Nat.le_of_lt hg, fun e => absurd e (by simp only; omega)⟩
      · exact ⟨o, (h2 j e).trans hj, Nat.le_refl _, fun _ => ⟨rfl, rfl, fun _ => Nat.le_refl _⟩⟩
  refine ⟨⟨hr.imm, ?_, ?_⟩, hst⟩
  · intro j o hj
    by_cases e : j = id
    · subst e
      rw [h1] at hj; cases hj
      obtain ⟨p1, p2, ⟨b, cap, cs, e1, e2, e3, e4, e5, e5', e6⟩ | ⟨e1, e2⟩⟩ := (hr.obj j ob hH).cells hz
      · refine .inl ⟨p1, fun r hr' => p2 r (List.mem_of_mem_take hr'), .inl ⟨b, cap, cs, e1, e2, e3, e4, ?_, e5', fun i r hi q a hq => ?_⟩⟩
        · simp only [List.length_take]; omega
        · simp only [List.getElem?_take] at hi
          split at hi
          · obtain ⟨v, q1, q2, q3⟩ := e6 i r hi q a hq
            exact ⟨v, q1, q2, q3.mono hr hst⟩
          · cases hi
      · exact .inl ⟨p1, fun r hr' => p2 r (List.mem_of_mem_take hr'), .inr ⟨e1, by simp only [e2, List.take_nil]⟩⟩
    · rw [h2 j e] at hj
      exact (hr.obj j o hj).keep rfl (fun x c _ _ => ⟨rfl, fun h => h⟩) (fun r _ a _ v hv => hv.mono hr hst)
  · intro j j' o o' x c c' hj hj' hc hc'
    have key : ∀ j o, H'.get j = some o → ∃ o, H.get j = some o := by
      intro j o hj
      by_cases e : j = id
      · exact ⟨ob, e ▸ hH⟩
      · exact ⟨o, (h2 j e).symm.trans hj⟩
    obtain ⟨q, hq⟩ := key j o hj
    obtain ⟨q', hq'⟩ := key j' o' hj'
    exact hr.inj j j' q q' x c c' hq hq' hc hc'
/-- The result's slice is made as short as it is. -/
theorem Fin.trunc {G0 H : Heap} {id k g n sz ty : Nat} {ob : Ob} {rows : List (List AV)} (hH : H.get id = some ob) (hg : ob.g = g) (hk : g < k) (hs : ob.sz = sz) (ht : ob.ty = ty) (hr : ob.rows.take n = rows) : Fin G0 H (.osl id g 0 n) ((id, ⟨k, sz, ty, rows⟩) :: H) (.osl id k 0 n) := by
  intro G hG I ι w v h1 h2 h3
  subst hg hs ht hr
  have hz := osl_sz h3 hH rfl
  obtain ⟨q1, q2⟩ := osl_slice h3 hH rfl
  obtain ⟨k2, k3⟩ := Rel.cut (H' := (id, ⟨k, ob.sz, ob.ty, ob.rows.take n⟩) :: H) h1 hH hk hz (get_cons_same _ _ _) (fun j hj => get_cons_other _ _ hj)
  refine ⟨I, ι, k2, h2.trans k3, ?_⟩
  have hone : v.oneCell' = true := by
    rcases q2 with ⟨b, cap, oo, _, e, _⟩ | ⟨_, e, _⟩ <;> subst e <;> rfl
  exact .osl _ (get_cons_same _ _ _) (Nat.le_refl _) hone fun _ => ⟨hz, by simp only [List.length_take]; omega, q2⟩

/-- A contract at a heap that stays as it is, in a greater heap. -/
theorem ACalls.congrH {P : Program} {f : FuncId} {args : List AV} {H H1 H2 : Heap} {r0 : AV} (h : ACalls P f args H (fun r H' => r = r0 ∧ H' = H1)) (he : ∀ j, H2.get j = H1.get j) : ACalls P f args H (fun r H' => r = r0 ∧ H' = H2) := by
  intro I ι w vs hr hl hv
  refine (h I ι w vs hr hl hv).mono ?_
  rintro e w' ⟨r, H', I', ι', v, rfl, ⟨rfl, rfl⟩, k1, k2, k3⟩
  obtain ⟨q1, q2⟩ := k2.congr he
  exact ⟨r, H2, I', ι', v, rfl, ⟨rfl, rfl⟩, k1.mono k2 q2, q1, k3.trans q2⟩
theorem ACalls.frameS {P : Program} {f : FuncId} {args : List AV} {H0 H : Heap} {r0 : AV} (h : ACalls P f args H0 (fun r H' => r = r0 ∧ H' = H0)) (hs : Sub H0 H) (hc : Closed H0) (ha : ∀ a ∈ args, Clo H0 a) : ACalls P f args H (fun r H' => r = r0 ∧ H' = H) := by
  refine (ACalls.frame h hs hc ha (fun id hi => .inl hi)).congrH fun j => ?_
  rw [hget_app]
  cases e : H0.get j with
  | some o => exact hs j o e
  | none => rfl
theorem Sub.of2 {i j : Nat} {a b : Ob} {H : Heap} (h1 : H.get i = some a) (h2 : H.get j = some b) : Sub [(i, a), (j, b)] H := by
  intro id o ho
  simp only [Heap.get] at ho
  cases e1 : Nat.beq i id with
  | true =>
    rw [e1] at ho
    have := Nat.eq_of_beq_eq_true e1
    subst this
    cases ho; exact h1
  | false =>
    rw [e1] at ho
    cases e2 : Nat.beq j id with
    | true =>
      rw [e2] at ho
      have := Nat.eq_of_beq_eq_true e2
      subst this
      cases ho; exact h2
    | false => rw [e2] at ho; cases ho
end Go.Abs
end
section
set_option linter.unusedVariables false
set_option linter.unusedSimpArgs false
set_option maxRecDepth 100000
namespace Go.Proofs.YtedfihgkopejcaaGreat
open Go.Abs
theorem indexS_c (l : List ByteArray) (s : ByteArray) (H : Heap) (hl : l.length < 4611686018427387904) : ACalls Tryz.prog 120 [.pv (slStrs l), sv s] H (fun r H' => r = iv (gidx (fun x => decide (s = x)) l) ∧ H' = H) := by
  refine ACalls.pure ?_ (by simp) H
  have hml : (l.map encStr).length = l.length := List.length_map _
  refine ACalls.body Tryz.func120 rfl Tryz.ntmps120 (Nat.le_of_ble_eq_true rfl) ?_
  refine awp_seq ?_
  refine awp_region ?_
  refine al_d rfl rfl rfl (by exact opd_assign rfl rfl) ?_
  refine al_nil ?_
  refine awp_seq ?_
  refine awp_seq ?_
  refine awp_region ?_
  refine al_d rfl rfl rfl (by exact opd_move rfl rfl) ?_
  refine al_d rfl rfl rfl (by exact (by exact opd_len_sl rfl Tryz.underlying27 rfl)) ?_
  refine al_d rfl rfl rfl (by exact opd_move rfl rfl) ?_
  refine al_nil ?_
  refine awp_block ?_
  -- loop
  refine awp_loop (σ := Nat) (fun k => ([(0, .pv (slStrs l)), (1, sv s), (7, iv ((l.map encStr).length : Int)), (8, iv (k : Int))], [])) (fun k => k ≤ l.length ∧ ∀ j, j < k → ∀ b, l[j]? = some b → decide (s = b) = false) (fun k => l.length - k) 0 ⟨by omega, by omega⟩ ?_ ?_
  · exact Ent.e0 ⟨⟨_, rfl, rfl⟩, ⟨_, rfl, rfl⟩, ⟨_, rfl, rfl⟩, ⟨_, rfl, rfl⟩, trivial⟩
  · rintro k ⟨hk, hno⟩
    refine awp_seq ?_
    refine awp_region ?_
    refine al_d rfl rfl rfl (by exact opd_lss rfl rfl rfl) ?_
    refine al_nil ?_
    refine awp_seq ?_
    refine awp_cond rfl (fun hc1 => ?_) (fun hc1 => ?_)
    -- cond 1
    · have hlt : k < l.length := by have := of_decide_eq_true hc1; omega
      obtain ⟨o, ho⟩ := get_of_lt hlt
      have hi := map_get (f := encStr) ho
      refine awp_skip ?_
      refine awp_seq ?_
      refine awp_block ?_
      refine awp_seq ?_
      refine awp_region ?_
      refine al_d rfl rfl rfl (by exact opd_move rfl rfl) ?_
      refine al_d rfl rfl rfl (by exact opd_assign rfl rfl) ?_
      refine al_nil ?_
      refine awp_seq ?_
      refine awp_region ?_
      refine al_d rfl rfl rfl (by exact opd_move rfl rfl) ?_
      refine al_d rfl rfl rfl (by exact opd_move rfl rfl) ?_
      refine al_d rfl rfl rfl (by exact opd_move rfl rfl) ?_
      refine al_d rfl rfl rfl (by exact (by exact x_index_pad rfl so27 rfl rfl (by omega) (by exact Int.toNat_natCast _) (by assumption) rfl)) ?_
      refine al_d rfl rfl rfl (by exact (by exact opd_load1_pad rfl Tryz.isAgg9 rfl (by omega) rfl)) ?_
      refine al_d rfl rfl rfl (by exact opd_seql rfl rfl rfl) ?_
      refine al_nil ?_
      refine awp_cond rfl (fun hc2 => ?_) (fun hc2 => ?_)
      -- cond 2
      · skip
        refine awp_seq ?_
        refine awp_region ?_
        refine al_d rfl rfl rfl (by exact opd_move rfl rfl) ?_
        refine al_d rfl rfl rfl (by exact opd_assign rfl rfl) ?_
        refine al_nil ?_
        refine awp_ret ?_
        -- return
        refine aret1 (H' := []) (by exact .inr rfl) rfl (rval_tmp rfl) (Fin.wk (by simp) trivial trivial) ?_
        exact ⟨by rw [gidx, fidx_some hno ho hc2], rfl⟩
      · skip
        refine awp_skip ?_
        refine awp_region ?_
        refine al_d rfl rfl rfl (by exact opd_add rfl rfl rfl (by exact w64 (by omega) (by omega))) ?_
        refine al_d rfl rfl rfl (by exact opd_move rfl rfl) ?_
        refine al_nil ?_
        -- end of a round
        exact ⟨k + 1, ⟨by omega, pre_succ hno ho hc2⟩, by omega, Ent.e0 ⟨⟨_, rfl, rfl⟩, ⟨_, rfl, rfl⟩, ⟨_, rfl, rfl⟩, ⟨_, rfl, rfl⟩, trivial⟩⟩
    · have hge : k = l.length := by have := of_decide_eq_false hc1; omega
      subst hge
      refine awp_exit ?_
      refine awp_seq ?_
      refine awp_region ?_
      refine al_d rfl rfl rfl (by exact opd_assign rfl rfl) ?_
      refine al_nil ?_
      refine awp_ret ?_
      -- return
      refine aret1 (H' := []) (by exact .inr rfl) rfl (rval_tmp rfl) (Fin.wk (by simp) trivial trivial) ?_
      exact ⟨by rw [gidx, fidx_none hno], rfl⟩
theorem inB_eq (l : List ByteArray) (s : ByteArray) : l.any (fun x => decide (s = x)) = inB l s := by
  rw [inB]
  congr 1
  funext x
  rw [Bool.eq_iff_iff, decide_eq_true_eq, decide_eq_true_eq]
  exact eq_comm
theorem containsS_c (l : List ByteArray) (s : ByteArray) (H : Heap) (hl : l.length < 4611686018427387904) : ACalls Tryz.prog 121 [.pv (slStrs l), sv s] H (fun r H' => r = bv (inB l s) ∧ H' = H) := by
  refine ACalls.pure ?_ (by simp) H
  refine ACalls.body Tryz.func121 rfl Tryz.ntmps121 (Nat.le_of_ble_eq_true rfl) ?_
  refine awp_seq ?_
  refine awp_region ?_
  refine al_d rfl rfl rfl (by exact opd_assign rfl rfl) ?_
  refine al_nil ?_
  refine awp_seq ?_
  refine awp_region ?_
  refine al_d rfl rfl rfl (by exact opd_move rfl rfl) ?_
  refine al_d rfl rfl rfl (by exact opd_move rfl rfl) ?_
  refine al_d rfl rfl rfl (by exact opr_call rfl rfl Tryz.call120 rfl (indexS_c l s _ hl)) ?_
  refine al_d rfl rfl rfl (by exact opd_geq rfl rfl rfl) ?_
  refine al_d rfl rfl rfl (by exact opd_assign rfl rfl) ?_
  refine al_nil ?_
  refine awp_ret ?_
  -- return
  refine aret1 (H' := []) (by exact .inr rfl) rfl (rval_tmp rfl) (Fin.wk (by simp) trivial trivial) ?_
  exact ⟨by rw [gidx_any, inB_eq], rfl⟩
theorem indexI_c (l : List Int) (s : Int) (H : Heap) (hl : l.length < 4611686018427387904) : ACalls Tryz.prog 133 [.pv (slInts l), iv s] H (fun r H' => r = iv (gidx (fun x => decide (s = x)) l) ∧ H' = H) := by
  refine ACalls.pure ?_ (by simp) H
  have hml : (l.map encInt).length = l.length := List.length_map _
  refine ACalls.body Tryz.func133 rfl Tryz.ntmps133 (Nat.le_of_ble_eq_true rfl) ?_
  refine awp_seq ?_
  refine awp_region ?_
  refine al_d rfl rfl rfl (by exact opd_assign rfl rfl) ?_
  refine al_nil ?_
  refine awp_seq ?_
  refine awp_seq ?_
  refine awp_region ?_
  refine al_d rfl rfl rfl (by exact opd_move rfl rfl) ?_
  refine al_d rfl rfl rfl (by exact (by exact opd_len_sl rfl Tryz.underlying134 rfl)) ?_
  refine al_d rfl rfl rfl (by exact opd_move rfl rfl) ?_
  refine al_nil ?_
  refine awp_block ?_
  -- loop
  refine awp_loop (σ := Nat) (fun k => ([(0, .pv (slInts l)), (1, iv s), (7, iv ((l.map encInt).length : Int)), (8, iv (k : Int))], [])) (fun k => k ≤ l.length ∧ ∀ j, j < k → ∀ b, l[j]? = some b → decide (s = b) = false) (fun k => l.length - k) 0 ⟨by omega, by omega⟩ ?_ ?_
  · exact Ent.e0 ⟨⟨_, rfl, rfl⟩, ⟨_, rfl, rfl⟩, ⟨_, rfl, rfl⟩, ⟨_, rfl, rfl⟩, trivial⟩
  · rintro k ⟨hk, hno⟩
    refine awp_seq ?_
    refine awp_region ?_
    refine al_d rfl rfl rfl (by exact opd_lss rfl rfl rfl) ?_
    refine al_nil ?_
    refine awp_seq ?_
    refine awp_cond rfl (fun hc1 => ?_) (fun hc1 => ?_)
    -- cond 1
    · have hlt : k < l.length := by have := of_decide_eq_true hc1; omega
      obtain ⟨o, ho⟩ := get_of_lt hlt
      have hi := map_get (f := encInt) ho
      refine awp_skip ?_
      refine awp_seq ?_
      refine awp_block ?_
      refine awp_seq ?_
      refine awp_region ?_
      refine al_d rfl rfl rfl (by exact opd_move rfl rfl) ?_
      refine al_d rfl rfl rfl (by exact opd_assign rfl rfl) ?_
      refine al_nil ?_
      refine awp_seq ?_
      refine awp_region ?_
      refine al_d rfl rfl rfl (by exact opd_move rfl rfl) ?_
      refine al_d rfl rfl rfl (by exact opd_move rfl rfl) ?_
      refine al_d rfl rfl rfl (by exact opd_move rfl rfl) ?_
      refine al_d rfl rfl rfl (by exact (by exact x_index_pad rfl so134 rfl rfl (by omega) (by exact Int.toNat_natCast _) (by assumption) rfl)) ?_
      refine al_d rfl rfl rfl (by exact (by exact opd_load1_pad rfl Tryz.isAgg3 rfl (by omega) rfl)) ?_
      refine al_d rfl rfl rfl (by exact opd_eql rfl rfl rfl) ?_
      refine al_nil ?_
      refine awp_cond rfl (fun hc2 => ?_) (fun hc2 => ?_)
      -- cond 2
      · skip
        refine awp_seq ?_
        refine awp_region ?_
        refine al_d rfl rfl rfl (by exact opd_move rfl rfl) ?_
        refine al_d rfl rfl rfl (by exact opd_assign rfl rfl) ?_
        refine al_nil ?_
        refine awp_ret ?_
        -- return
        refine aret1 (H' := []) (by exact .inr rfl) rfl (rval_tmp rfl) (Fin.wk (by simp) trivial trivial) ?_
        exact ⟨by rw [gidx, fidx_some hno ho hc2], rfl⟩
      · skip
        refine awp_skip ?_
        refine awp_region ?_
        refine al_d rfl rfl rfl (by exact opd_add rfl rfl rfl (by exact w64 (by omega) (by omega))) ?_
        refine al_d rfl rfl rfl (by exact opd_move rfl rfl) ?_
        refine al_nil ?_
        -- end of a round
        exact ⟨k + 1, ⟨by omega, pre_succ hno ho hc2⟩, by omega, Ent.e0 ⟨⟨_, rfl, rfl⟩, ⟨_, rfl, rfl⟩, ⟨_, rfl, rfl⟩, ⟨_, rfl, rfl⟩, trivial⟩⟩
    · have hge : k = l.length := by have := of_decide_eq_false hc1; omega
      subst hge
      refine awp_exit ?_
      refine awp_seq ?_
      refine awp_region ?_
      refine al_d rfl rfl rfl (by exact opd_assign rfl rfl) ?_
      refine al_nil ?_
      refine awp_ret ?_
      -- return
      refine aret1 (H' := []) (by exact .inr rfl) rfl (rval_tmp rfl) (Fin.wk (by simp) trivial trivial) ?_
      exact ⟨by rw [gidx, fidx_none hno], rfl⟩
theorem containsI_c (l : List Int) (s : Int) (H : Heap) (hl : l.length < 4611686018427387904) : ACalls Tryz.prog 105 [.pv (slInts l), iv s] H (fun r H' => r = bv (l.any (fun x => decide (s = x))) ∧ H' = H) := by
  refine ACalls.pure ?_ (by simp) H
  refine ACalls.body Tryz.func105 rfl Tryz.ntmps105 (Nat.le_of_ble_eq_true rfl) ?_
  refine awp_seq ?_
  refine awp_region ?_
  refine al_d rfl rfl rfl (by exact opd_assign rfl rfl) ?_
  refine al_nil ?_
  refine awp_seq ?_
  refine awp_region ?_
  refine al_d rfl rfl rfl (by exact opd_move rfl rfl) ?_
  refine al_d rfl rfl rfl (by exact opd_move rfl rfl) ?_
  refine al_d rfl rfl rfl (by exact opr_call rfl rfl Tryz.call133 rfl (indexI_c l s _ hl)) ?_
  refine al_d rfl rfl rfl (by exact opd_geq rfl rfl rfl) ?_
  refine al_d rfl rfl rfl (by exact opd_assign rfl rfl) ?_
  refine al_nil ?_
  refine awp_ret ?_
  -- return
  refine aret1 (H' := []) (by exact .inr rfl) rfl (rval_tmp rfl) (Fin.wk (by simp) trivial trivial) ?_
  exact ⟨by rw [gidx_any], rfl⟩
/-- The index of a node inside of a list, once. -/
def gInner (l : List ByteArray) (node : ByteArray) : Int := if decide (gidx (fun x => decide (node = x)) l ≤ 0) || decide (gidx (fun x => decide (node = x)) l = (l.length : Int) - 1) || inB (l.drop ((gidx (fun x => decide (node = x)) l).toNat + 1)) node then -1 else gidx (fun x => decide (node = x)) l
theorem inner_c (l : List ByteArray) (node : ByteArray) (H : Heap) (hl : l.length < 1099511627776) : ACalls Tryz.prog 74 [.pv (slStrs l), sv node] H (fun r H' => r = iv (gInner l node) ∧ H' = H) := by
  refine ACalls.pure ?_ (by simp) H
  have hml : (l.map encStr).length = l.length := List.length_map _
  have hrl : ∀ r ∈ l.map encStr, r.length = 1 := fun r hr => by
    obtain ⟨t, _, rfl⟩ := List.mem_map.1 hr
    rfl
  obtain ⟨g, hg⟩ : ∃ g, g = gidx (fun x => decide (node = x)) l := ⟨_, rfl⟩
  rw [gInner, ← hg]
  have hix := fun H => indexS_c l node H (by omega)
  rw [← hg] at hix
  refine ACalls.body Tryz.func74 rfl Tryz.ntmps74 (Nat.le_of_ble_eq_true rfl) ?_
  rcases gidx_cases (fun x => decide (node = x)) l with ⟨e1, _⟩ | ⟨k, o, e1, e2, _⟩
  · have hg0 : decide (g ≤ 0) = true := decide_eq_true (by omega)
    refine awp_seq ?_
    refine awp_region ?_
    refine al_d rfl rfl rfl (by exact opd_assign rfl rfl) ?_
    refine al_nil ?_
    refine awp_seq ?_
    refine awp_region ?_
    refine al_d rfl rfl rfl (by exact opd_move rfl rfl) ?_
    refine al_d rfl rfl rfl (by exact opd_move rfl rfl) ?_
    refine al_d rfl rfl rfl (by exact opr_call rfl rfl Tryz.call120 rfl (hix _)) ?_
    refine al_d rfl rfl rfl (by exact opd_assign rfl rfl) ?_
    refine al_nil ?_
    refine awp_seq ?_
    refine awp_seq ?_
    refine awp_region ?_
    refine al_d rfl rfl rfl (by exact opd_move rfl rfl) ?_
    refine al_d rfl rfl rfl (by exact opd_leq rfl rfl rfl) ?_
    refine al_d rfl rfl rfl (by exact opd_move rfl rfl) ?_
    refine al_off rfl rfl rfl (by assumption) rfl ?_
    refine al_off rfl rfl rfl (by assumption) rfl ?_
    refine al_off rfl rfl rfl (by assumption) rfl ?_
    refine al_off rfl rfl rfl (by assumption) rfl ?_
    refine al_off rfl rfl rfl (by assumption) rfl ?_
    refine al_d rfl rfl rfl (by exact (by exact opd_pickt rfl rfl (by assumption) rfl)) ?_
    refine al_d rfl rfl rfl (by exact opd_move rfl rfl) ?_
    refine al_off rfl rfl rfl (by rfl) rfl ?_
    refine al_off rfl rfl rfl (by rfl) rfl ?_
    refine al_off rfl rfl rfl (by rfl) rfl ?_
    refine al_off rfl rfl rfl (by rfl) rfl ?_
    refine al_off rfl rfl rfl (by rfl) rfl ?_
    refine al_off rfl rfl rfl (by rfl) rfl ?_
    refine al_d rfl rfl rfl (by exact (by exact opd_pick_t rfl rfl rfl)) ?_
    refine al_nil ?_
    refine awp_cond rfl (fun hc1 => ?_) (fun hc1 => ?_)
    -- cond 1
    · rw [hg0, Bool.true_or, Bool.true_or, if_pos rfl]
      refine awp_seq ?_
      refine awp_region ?_
      refine al_d rfl rfl rfl (by exact opd_assign rfl rfl) ?_
      refine al_nil ?_
      refine awp_ret ?_
      -- return
      refine aret1 (H' := []) (by exact .inr rfl) rfl (rval_tmp rfl) (Fin.wk (by simp) trivial trivial) ?_
      exact ⟨rfl, rfl⟩
    · cases hc1
  · have hk := (List.getElem?_eq_some_iff.1 e2).1
    have hgk : g = (k : Int) := by omega
    have hsl := List.length_drop (i := k + 1) (l := l)
    subst hgk
    have hcn := fun H => containsS_c (l.drop (k + 1)) node H (by omega)
    have hdr : (l.map encStr).drop (k + 1) = (l.drop (k + 1)).map encStr := List.map_drop.symm
    have e5 : ((k : Int).toNat + 1) = k + 1 := by omega
    rw [e5]
    rw [show (l.length : Int) = ((l.map encStr).length : Int) by rw [hml]]
    refine awp_seq ?_
    refine awp_region ?_
    refine al_d rfl rfl rfl (by exact opd_assign rfl rfl) ?_
    refine al_nil ?_
    refine awp_seq ?_
    refine awp_region ?_
    refine al_d rfl rfl rfl (by exact opd_move rfl rfl) ?_
    refine al_d rfl rfl rfl (by exact opd_move rfl rfl) ?_
    refine al_d rfl rfl rfl (by exact opr_call rfl rfl Tryz.call120 rfl (hix _)) ?_
    refine al_d rfl rfl rfl (by exact opd_assign rfl rfl) ?_
    refine al_nil ?_
    refine awp_seq ?_
    refine awp_seq ?_
    refine awp_bool (t := 25) (n := 19) (X := decide ((k : Int) ≤ 0) || decide ((k : Int) = ((l.map encStr).length : Int) - 1) || inB (l.drop (k + 1)) node) ?_ ?_
    · all_goals (refine al_d rfl rfl rfl (by exact opd_move rfl rfl) ?_)
      all_goals (refine al_d rfl rfl rfl (by exact opd_leq rfl rfl rfl) ?_)
      all_goals (refine al_d rfl rfl rfl (by exact opd_move rfl rfl) ?_)
      all_goals (refine al_split (t := 11) rfl (fun h11 => ?_) (fun h11 => ?_))
      all_goals (try contradiction)
      all_goals (first | refine al_off rfl rfl rfl rfl rfl ?_ | refine al_ond rfl rfl rfl rfl rfl rfl (by exact opd_move rfl rfl) ?_)
      all_goals (first | refine al_off rfl rfl rfl rfl rfl ?_ | refine al_ond rfl rfl rfl rfl rfl rfl (by exact opd_move rfl rfl) ?_)
      all_goals (first | refine al_off rfl rfl rfl rfl rfl ?_ | refine al_ond rfl rfl rfl rfl rfl rfl (by exact (by exact opd_len_sl rfl Tryz.underlying27 rfl)) ?_)
      all_goals (first | refine al_off rfl rfl rfl rfl rfl ?_ | refine al_ond rfl rfl rfl rfl rfl rfl (by exact opd_sub rfl rfl rfl (by exact w64 (by omega) (by omega))) ?_)
      all_goals (first | refine al_off rfl rfl rfl rfl rfl ?_ | refine al_ond rfl rfl rfl rfl rfl rfl (by exact opd_eql rfl rfl rfl) ?_)
      all_goals (refine al_d rfl rfl rfl (by exact (by first | exact opd_pick_t rfl rfl rfl | exact opd_pick_f rfl rfl rfl)) ?_)
      all_goals (refine al_d rfl rfl rfl (by exact opd_move rfl rfl) ?_)
      all_goals (refine al_split (t := 18) rfl (fun h18 => ?_) (fun h18 => ?_))
      all_goals (try contradiction)
      all_goals (first | refine al_off rfl rfl rfl rfl rfl ?_ | refine al_ond rfl rfl rfl rfl rfl rfl (by exact opd_move rfl rfl) ?_)
      all_goals (first | refine al_off rfl rfl rfl rfl rfl ?_ | refine al_ond rfl rfl rfl rfl rfl rfl (by exact opd_move rfl rfl) ?_)
      all_goals (first | refine al_off rfl rfl rfl rfl rfl ?_ | refine al_ond rfl rfl rfl rfl rfl rfl (by exact opd_add rfl rfl rfl (by exact w64 (by omega) (by omega))) ?_)
      all_goals (first | refine al_off rfl rfl rfl rfl rfl ?_ | refine al_ond rfl rfl rfl rfl rfl rfl (by exact x_slice_sl (l := k + 1) (h := (l.map encStr).length) (rows' := (l.drop (k + 1)).map encStr) rfl so27 rfl hrl rfl rfl (by omega) (Nat.le_refl _) (by rw [List.take_length]; exact hdr)) ?_)
      all_goals (first | refine al_off rfl rfl rfl rfl rfl ?_ | refine al_ond rfl rfl rfl rfl rfl rfl (by exact opd_move rfl rfl) ?_)
      all_goals (first | refine al_off rfl rfl rfl rfl rfl ?_ | refine al_ond rfl rfl rfl rfl rfl rfl (by exact opr_call rfl rfl Tryz.call121 rfl (hcn _)) ?_)
      all_goals (refine al_d rfl rfl rfl (by exact (by first | exact opd_pick_t rfl rfl rfl | exact opd_pick_f rfl rfl rfl)) ?_)
      all_goals (refine al_nil ?_)
      all_goals (exact ⟨⟨_, rfl, by first | (rw [h11]; rfl) | (rw [h11, h18]; rfl)⟩, rfl, rfl, rfl⟩)
    refine awp_cond rfl (fun hc2 => ?_) (fun hc2 => ?_)
    -- cond 2
    · rw [if_pos hc2]
      refine awp_seq ?_
      refine awp_region ?_
      refine al_d rfl rfl rfl (by exact opd_assign rfl rfl) ?_
      refine al_nil ?_
      refine awp_ret ?_
      -- return
      refine aret1 (H' := []) (by exact .inr rfl) rfl (rval_tmp rfl) (Fin.wk (by simp) trivial trivial) ?_
      exact ⟨rfl, rfl⟩
    · rw [if_neg (by rw [hc2]; simp)]
      refine awp_skip ?_
      refine awp_seq ?_
      refine awp_region ?_
      refine al_d rfl rfl rfl (by exact opd_move rfl rfl) ?_
      refine al_d rfl rfl rfl (by exact opd_assign rfl rfl) ?_
      refine al_nil ?_
      refine awp_ret ?_
      -- return
      refine aret1 (H' := []) (by exact .inr rfl) rfl (rval_tmp rfl) (Fin.wk (by simp) trivial trivial) ?_
      exact ⟨rfl, rfl⟩
end Go.Proofs.YtedfihgkopejcaaGreat
end
section
set_option linter.unusedVariables false
set_option linter.unusedSimpArgs false
set_option maxRecDepth 100000
namespace Go.Proofs.YtedfihgkopejcaaGreat
open Go.Abs

theorem containsFunc_GObj (fv : AV) (l : List GObj) (p : GObj → Bool) (H : Heap) (hl : l.length < 4611686018427387904) (hf : ∀ o, o ∈ l → CallsV Tryz.prog fv [.agg ((encObj o).map .pv)] H (fun r H' => r = .pv (.bool (p o)) ∧ H' = H)) :
    ACalls Tryz.prog 140 [.pv (.sl (l.map encObj)), fv] H (fun r H' => r = bv (l.any p) ∧ H' = H) := by
  refine ACalls.body Tryz.func140 rfl Tryz.ntmps140 (Nat.le_of_ble_eq_true rfl) ?_
  refine awp_seq ?_
  refine awp_region ?_
  refine al_d rfl rfl rfl (by exact opd_assign rfl rfl) ?_
  refine al_nil ?_
  refine awp_seq ?_
  refine awp_region ?_
  refine al_d rfl rfl rfl (by exact opd_move rfl rfl) ?_
  refine al_d rfl rfl rfl (by exact opd_move rfl rfl) ?_
  refine al_d rfl rfl rfl (by exact opr_call rfl rfl Tryz.call118 rfl (indexFunc_GObj fv l p _ hl hf)) ?_
  refine al_d rfl rfl rfl (by exact opd_geq rfl rfl rfl) ?_
  refine al_d rfl rfl rfl (by exact opd_assign rfl rfl) ?_
  refine al_nil ?_
  refine awp_ret ?_
  -- return
  refine aret1 (H' := H) (by exact .inr rfl) rfl (rval_tmp rfl) Fin.refl ?_
  exact ⟨by rw [← gidx_any], rfl⟩
/-- Whether an object refers to one of some. -/
def refsTo (routes : Bool) (ids : List ByteArray) (o : GObj) : Bool := (!routes || decide (4 ≤ o.kind)) && o.refs.any (fun r => inB ids r)
def gRefd (m : List GObj) (routes : Bool) (ids : List ByteArray) : Bool := m.any (refsTo routes ids)
theorem refd11_c (s : ByteArray) (ids : List ByteArray) (T : Nat) (H : Heap) (h5 : H.get 5 = some (bx 1 T [.pv (slStrs ids)])) (hl : ids.length < 4611686018427387904) : ACalls Tryz.prog 142 [sv s, .ref 5 0 0 0] H (fun r H' => r = bv (inB ids s) ∧ H' = H) := by
  refine ACalls.body Tryz.func142 rfl Tryz.ntmps142 (Nat.le_of_ble_eq_true rfl) ?_
  refine awp_seq ?_
  refine awp_region ?_
  refine al_d rfl rfl rfl (by exact opd_assign rfl rfl) ?_
  refine al_nil ?_
  refine awp_seq ?_
  refine awp_region ?_
  refine al_d rfl rfl rfl (by exact opd_load1_ref rfl Tryz.isAgg27 rfl h5 rfl rfl rfl) ?_
  refine al_d rfl rfl rfl (by exact opd_move rfl rfl) ?_
  refine al_d rfl rfl rfl (by exact opr_call rfl rfl Tryz.call121 rfl (containsS_c ids s _ hl)) ?_
  refine al_d rfl rfl rfl (by exact opd_assign rfl rfl) ?_
  refine al_nil ?_
  refine awp_ret ?_
  -- return
  refine aret1 (H' := H) (by exact .inr rfl) rfl (rval_tmp rfl) Fin.refl ?_
  exact ⟨rfl, rfl⟩
theorem refd1_c (o : GObj) (routes : Bool) (ids : List ByteArray) (T T2 : Nat) (H : Heap) (h4 : H.get 4 = some (bx 1 T [bv routes])) (h5 : H.get 5 = some (bx 1 T2 [.pv (slStrs ids)])) (h9 : H.get 983 = none) (hc : Closed H) (hl : ids.length < 4611686018427387904) (ho : o.refs.length < 4611686018427387904) :
    ACalls Tryz.prog 141 [av (encObj o), .ref 4 0 0 0, .ref 5 0 0 0] H (fun r H' => r = bv (refsTo routes ids o) ∧ H' = H) := by
  have h4' : Heap.get ((983, bx 6 30 ((encObj o).map .pv)) :: H) 4 = some (bx 1 T [bv routes]) := h4
  have h5' : Heap.get ((983, bx 6 30 ((encObj o).map .pv)) :: H) 5 = some (bx 1 T2 [.pv (slStrs ids)]) := h5
  have hcf := containsFuncS (.clo 142 [.ref 5 0 0 0]) o.refs (atP o.refs (fun r => inB ids r)) (fun _ => (983, bx 6 30 ((encObj o).map .pv)) :: H) ho (fun k s hk => CallsV.clo Tryz.call142 (by rw [atP_some hk]; exact refd11_c s ids T2 _ h5' hl))
  rw [range_any_get] at hcf
  refine ACalls.body Tryz.func141 rfl Tryz.ntmps141 (Nat.le_of_ble_eq_true rfl) ?_
  refine awp_seq ?_
  refine awp_region ?_
  refine al_d rfl rfl rfl (by exact opd_box (id := 983) rfl rfl rfl rfl h9) ?_
  refine al_d rfl rfl rfl (by exact opd_assign rfl rfl) ?_
  refine al_nil ?_
  refine awp_seq ?_
  refine awp_bool (t := 4) (n := 16) (X := refsTo routes ids o) ?_ ?_
  · all_goals (refine al_d rfl rfl rfl (by exact opd_load1_ref rfl Tryz.isAgg4 rfl h4' rfl rfl rfl) ?_)
    all_goals (refine al_d rfl rfl rfl (by exact opd_not rfl rfl) ?_)
    all_goals (refine al_d rfl rfl rfl (by exact opd_move rfl rfl) ?_)
    all_goals (refine al_split (t := 7) rfl (fun h7 => ?_) (fun h7 => ?_))
    all_goals (try contradiction)
    all_goals (first | refine al_off rfl rfl rfl rfl rfl ?_ | refine al_ond rfl rfl rfl rfl rfl rfl (by exact (by exact opd_field_ref rfl fo30_1 rfl rfl rfl rfl)) ?_)
    all_goals (first | refine al_off rfl rfl rfl rfl rfl ?_ | refine al_ond rfl rfl rfl rfl rfl rfl (by exact (by exact opd_load1_ref rfl Tryz.isAgg3 rfl rfl rfl rfl rfl)) ?_)
    all_goals (first | refine al_off rfl rfl rfl rfl rfl ?_ | refine al_ond rfl rfl rfl rfl rfl rfl (by exact opd_geq rfl rfl rfl) ?_)
    all_goals (refine al_d rfl rfl rfl (by exact (by first | exact opd_pick_t rfl rfl rfl | exact opd_pick_f rfl rfl rfl)) ?_)
    all_goals (refine al_d rfl rfl rfl (by exact opd_move rfl rfl) ?_)
    all_goals (refine al_split (t := 12) rfl (fun h12 => ?_) (fun h12 => ?_))
    all_goals (try contradiction)
    all_goals (first | refine al_off rfl rfl rfl rfl rfl ?_ | refine al_ond rfl rfl rfl rfl rfl rfl (by exact (by exact opd_field_ref rfl fo30_3 rfl rfl rfl rfl)) ?_)
    all_goals (first | refine al_off rfl rfl rfl rfl rfl ?_ | refine al_ond rfl rfl rfl rfl rfl rfl (by exact (by exact opd_load1_ref rfl Tryz.isAgg27 rfl rfl rfl rfl rfl)) ?_)
    all_goals (first | refine al_off rfl rfl rfl rfl rfl ?_ | refine al_ond rfl rfl rfl rfl rfl rfl (by exact opd_makeFunc rfl rfl) ?_)
    all_goals (first | refine al_off rfl rfl rfl rfl rfl ?_ | refine al_ond rfl rfl rfl rfl rfl rfl (by exact opr_call rfl rfl Tryz.call78 rfl (hcf)) ?_)
    all_goals (refine al_d rfl rfl rfl (by exact (by first | exact opd_pick_t rfl rfl rfl | exact opd_pick_f rfl rfl rfl)) ?_)
    all_goals (refine al_d rfl rfl rfl (by exact opd_assign rfl rfl) ?_)
    all_goals (refine al_nil ?_)
    all_goals (exact ⟨⟨_, rfl, by (cases routes <;> first | rfl | (exact absurd h7 (by decide)) | (simp only [refsTo, h12, Bool.not_true, Bool.not_false, Bool.true_or, Bool.false_or, Bool.true_and, Bool.false_and]; done))⟩, rfl, rfl, rfl⟩)
  refine awp_ret ?_
  -- return
  refine aret1 (H' := H) (.inr rfl) rfl (rval_tmp rfl) (Fin.pops [(983, bx 6 30 ((encObj o).map .pv))] (by simp) hc (by simp [h9])) ⟨rfl, rfl⟩
theorem cl_c {f : FuncId} {args : List AV} {m : List GObj} {H : Heap} {r0 : AV} (h : ACalls Tryz.prog f args (cH m) (fun r H' => r = r0 ∧ H' = cH m)) (h14 : H.get 14 = some (cRow m)) (h12 : H.get 12 = some (kob m)) (ha : ∀ a ∈ args, Clo (cH m) a) : ACalls Tryz.prog f args H (fun r H' => r = r0 ∧ H' = H) :=
  h.frameS (Sub.of2 h14 h12) (Closed.ofL ⟨(by (simp; rfl)), (by exact kob_clo _ _), trivial⟩) ha
theorem okM_refs {m : List GObj} (hm : okM m) : ∀ o, o ∈ m → o.refs.length < 4611686018427387904 := fun o ho => (hm.2 o ho).2.2.1
theorem refd0_c (m : List GObj) (routes : Bool) (ids : List ByteArray) (hm : okM m) (hl : ids.length < 4611686018427387904) :
    ACalls Tryz.prog 107 [.ref 14 0 0 0, bv routes, .pv (slStrs ids)] (cH m) (fun r H' => r = bv (gRefd m routes ids) ∧ H' = cH m) := by
  have hf : ∀ o, o ∈ m → CallsV Tryz.prog (.clo 141 [.ref 4 0 0 0, .ref 5 0 0 0]) [.agg ((encObj o).map .pv)] ((5, bx 1 27 [.pv (slStrs ids)]) :: (4, bx 1 4 [bv routes]) :: cH m) (fun r H' => r = bv (refsTo routes ids o) ∧ H' = (5, bx 1 27 [.pv (slStrs ids)]) :: (4, bx 1 4 [bv routes]) :: cH m) :=
    fun o ho => CallsV.clo Tryz.call141 (refd1_c o routes ids 4 27 _ rfl rfl rfl (Closed.ofL ⟨(by (simp; done)), (by (simp; done)), (by (simp; rfl)), (by exact kob_clo _ _), trivial⟩) hl (okM_refs hm o ho))
  refine ACalls.body Tryz.func107 rfl Tryz.ntmps107 (Nat.le_of_ble_eq_true rfl) ?_
  refine awp_seq ?_
  refine awp_region ?_
  refine al_d rfl rfl rfl (by exact opd_box (id := 4) rfl rfl rfl rfl rfl) ?_
  refine al_d rfl rfl rfl (by exact opd_box (id := 5) rfl rfl rfl rfl rfl) ?_
  refine al_d rfl rfl rfl (by exact opd_assign rfl rfl) ?_
  refine al_nil ?_
  refine awp_seq ?_
  refine awp_region ?_
  refine al_d rfl rfl rfl (by exact opd_move rfl rfl) ?_
  refine al_d rfl rfl rfl (by exact (by exact opd_nilCheck_ref rfl rfl rfl rfl)) ?_
  refine al_d rfl rfl rfl (by exact (by exact opd_field_ref rfl fo91_0 rfl rfl rfl rfl)) ?_
  refine al_d rfl rfl rfl (by exact (by exact opd_field_ref rfl fo24_0 rfl rfl rfl rfl)) ?_
  refine al_d rfl rfl rfl (by exact (by exact opd_load1_ref rfl Tryz.isAgg22 rfl rfl rfl rfl rfl)) ?_
  refine al_d rfl rfl rfl (by exact opd_makeFunc rfl rfl) ?_
  refine al_d rfl rfl rfl (by exact opr_call rfl rfl Tryz.call140 rfl (containsFunc_GObj _ m (refsTo routes ids) _ hm.1 hf)) ?_
  refine al_d rfl rfl rfl (by exact opd_assign rfl rfl) ?_
  refine al_nil ?_
  refine awp_ret ?_
  -- return
  refine aret1 (H' := (cH m)) (by exact .inr rfl) rfl (rval_tmp rfl) (Fin.wk (by (simp; done)) ⟨⟨_, rfl, rfl⟩, (by (simp; rfl)), ⟨_, rfl, rfl⟩, (by exact kob_clo _ _), trivial⟩ ⟨rfl, rfl, trivial⟩) ?_
  exact ⟨rfl, rfl⟩
theorem refd_c (m : List GObj) (routes : Bool) (ids : List ByteArray) (H : Heap) (h14 : H.get 14 = some (cRow m)) (h12 : H.get 12 = some (kob m)) (hm : okM m) (hl : ids.length < 4611686018427387904) :
    ACalls Tryz.prog 107 [.ref 14 0 0 0, bv routes, .pv (slStrs ids)] H (fun r H' => r = bv (gRefd m routes ids) ∧ H' = H) :=
  cl_c (refd0_c m routes ids hm hl) h14 h12 (by simp; rfl)
theorem get0_c (m : List GObj) (id : ByteArray) (o : GObj) (hm : okM m) (ho : m.find? (idIs id) = some o) :
    ACalls Tryz.prog 38 [.ref 14 0 0 0, sv id] (cH m) (fun r H' => r = av (encObj o) ∧ H' = cH m) := by
  rcases gidx_cases (idIs id) m with ⟨e1, e2⟩ | ⟨k, x, e1, e2, e3⟩
  · rw [ho] at e2; cases e2
  · rw [ho] at e3; cases e3
    have hi := map_get (f := encObj) e2
    have hF := fun H => find_c m id H hm.1
    rw [e1] at hF
    refine ACalls.body Tryz.func38 rfl Tryz.ntmps38 (Nat.le_of_ble_eq_true rfl) ?_
    refine awp_seq ?_
    refine awp_region ?_
    refine al_d rfl rfl rfl (by exact x_alloc (id := 4) rfl zo30 rfl rfl) ?_
    refine al_nil ?_
    refine awp_seq ?_
    refine awp_drawc follows ?_
    refine dc_cons (r := ⟨_, some [14], []⟩) (DStep.plain rfl (fun H1 hH => by exact opd_move rfl rfl)) rfl ?_
    refine dc_cons (r := ⟨_, some [14], []⟩) (DStep.plain rfl (fun H1 hH => by exact (by exact opd_nilCheck_ref rfl rfl ((hH _ rfl).trans rfl) rfl))) rfl ?_
    refine dc_cons (r := ⟨_, some [14], []⟩) (DStep.plain rfl (fun H1 hH => by exact (by exact opd_field_ref rfl fo91_0 rfl ((hH _ rfl).trans rfl) rfl rfl))) rfl ?_
    refine dc_cons (r := ⟨_, some [14], []⟩) (DStep.plain rfl (fun H1 hH => by exact (by exact opd_field_ref rfl fo24_0 rfl ((hH _ rfl).trans rfl) rfl rfl))) rfl ?_
    refine dc_cons (r := ⟨_, some [14], []⟩) (DStep.plain rfl (fun H1 hH => by exact (by exact opd_load1_ref rfl Tryz.isAgg22 rfl ((hH _ rfl).trans rfl) rfl rfl rfl))) rfl ?_
    refine dc_cons (r := ⟨_, some [14], []⟩) (DStep.plain rfl (fun H1 hH => by exact opd_move rfl rfl)) rfl ?_
    refine dc_cons (r := ⟨_, some [14], []⟩) (DStep.plain rfl (fun H1 hH => by exact (by exact opd_nilCheck_ref rfl rfl ((hH _ rfl).trans rfl) rfl))) rfl ?_
    refine dc_cons (r := ⟨_, some [14], []⟩) (DStep.plain rfl (fun H1 hH => by exact (by exact opd_field_ref rfl fo91_0 rfl ((hH _ rfl).trans rfl) rfl rfl))) rfl ?_
    refine dc_cons (r := ⟨_, some [14], []⟩) (DStep.plain rfl (fun H1 hH => by exact (by exact opd_loadn_ref rfl Tryz.isAgg24 Tryz.sizeOf24 rfl ((hH _ rfl).trans rfl) rfl rfl rfl rfl))) rfl ?_
    refine dc_cons (r := ⟨_, some [], []⟩) (DStep.plain rfl (fun H1 hH => by exact opd_move rfl rfl)) rfl ?_
    refine dc_cons (r := ⟨_, some [], []⟩) (DStep.plain rfl (fun H1 hH => by exact opr_call rfl rfl Tryz.call73 rfl (hF _))) rfl ?_
    refine dc_cons (r := ⟨_, some [], []⟩) (DStep.plain rfl (fun H1 hH => by exact (by exact x_index_pad rfl so22 rfl rfl (by omega) (by exact Int.toNat_natCast _) (by assumption) rfl))) rfl ?_
    refine dc_cons (r := ⟨_, some [], []⟩) (DStep.plain rfl (fun H1 hH => by exact (by exact opd_loadn_pad rfl Tryz.isAgg30 Tryz.sizeOf30 rfl (by omega) (by simp only [List.drop_succ_cons, List.drop_zero, List.take_succ_cons, List.take_zero, List.take_nil, List.map_cons, List.map_nil, List.set_cons_zero, List.set_cons_succ, List.cons_append, List.nil_append, encTag, encObj, encStr, encEdit, encInt]; rfl) rfl))) rfl ?_
    refine dc_cons (r := ⟨_, some [4], [_]⟩) (DStep.plain rfl (fun H1 hH => by exact (by exact x_store_all rfl Tryz.sizeOf30 rfl rfl rfl rfl ((hH _ rfl).trans rfl) rfl rfl rfl))) rfl ?_
    refine dc_nil ⟨by kernel_rfl, ?_⟩
    refine awp_ret ?_
    -- return
    refine aret1 (H' := (cH m)) (by exact .inr rfl) rfl (rval_cell rfl Tryz.isAgg30 Tryz.sizeOf30 rfl rfl rfl (by simp only [List.drop_succ_cons, List.drop_zero, List.take_succ_cons, List.take_zero, List.take_nil, List.map_cons, List.map_nil, List.set_cons_zero, List.set_cons_succ, List.cons_append, List.nil_append, encTag, encObj, encStr, encEdit, encInt]; rfl) rfl) (Fin.wk (by (simp; done)) ⟨⟨_, rfl, rfl⟩, (by (simp; rfl)), ⟨_, rfl, rfl⟩, (by exact kob_clo _ _), trivial⟩ ⟨rfl, rfl, trivial⟩) ?_
    exact ⟨rfl, rfl⟩
theorem get_c (m : List GObj) (id : ByteArray) (o : GObj) (H : Heap) (h14 : H.get 14 = some (cRow m)) (h12 : H.get 12 = some (kob m)) (hm : okM m) (ho : m.find? (idIs id) = some o) :
    ACalls Tryz.prog 38 [.ref 14 0 0 0, sv id] H (fun r H' => r = av (encObj o) ∧ H' = H) :=
  cl_c (get0_c m id o hm ho) h14 h12 (by simp; rfl)
end Go.Proofs.YtedfihgkopejcaaGreat
end
section
set_option linter.unusedVariables false
set_option linter.unusedSimpArgs false
set_option maxRecDepth 100000
namespace Go.Proofs.YtedfihgkopejcaaGreat
open Go.Abs

/-- The one object in front is what is returned, for good; nothing else is left. -/
theorem Fin.slice0 {H1 : Heap} {id g n : Nat} {ob : Ob} (ps : List (List PV)) (hH : H1.get id = some ob) (hg : ob.g = g) (hps : ob.rows = ps.map (·.map .pv)) (hn : ps.length = n) :
    Fin [] H1 (.osl id g 0 n) [] (.pv (.sl ps)) := by
  subst hg hn
  exact Fin.fz (id := id) (ob := ob) ps hH hps (.osl (by rw [Nat.zero_add, List.drop_zero, List.take_length])) rfl trivial trivial
theorem rl_ByteArray (l : List ByteArray) : ∀ r ∈ l.map encStr, r.length = 1 := fun r hr => by
  obtain ⟨t, _, rfl⟩ := List.mem_map.1 hr
  rfl
theorem cloneF_ByteArray (l : List ByteArray) (H : Heap) (hl : l.length < 1099511627776) : ACalls Tryz.prog 143 [.pv (.sl (l.map encStr))] H (fun r H' => r = .pv (.sl (l.map encStr)) ∧ H' = H) := by
  refine ACalls.pure ?_ (by simp) H
  have hml : (l.map encStr).length = l.length := List.length_map _
  refine ACalls.body Tryz.func143 rfl Tryz.ntmps143 (Nat.le_of_ble_eq_true rfl) ?_
  refine awp_seq ?_
  refine awp_region ?_
  refine al_d rfl rfl rfl (by exact opd_assign rfl rfl) ?_
  refine al_nil ?_
  refine awp_seq ?_
  refine awp_seq ?_
  refine awp_region ?_
  refine al_d rfl rfl rfl (by exact opd_move rfl rfl) ?_
  -- op at slices.go:357 slot 4 binOp [["id", "BinOp.eql"], ["num", 27], ["app", "Operand.tmp", [["num", 3]]], ["app", "Operand.const", [["app", "Value.slice", [["id", "none"], ["num", 0], ["num", 0
  refine al_r rfl rfl (opr_sl_nil rfl Tryz.underlying27 rfl) ?_
  rintro _ H2 ⟨e2, b, rfl, hb⟩
  rw [e2]
  clear e2 H2
  refine al_nil ?_
  refine awp_cond rfl (fun hc1 => ?_) (fun hc1 => ?_)
  -- cond 1
  · have h0 := hb hc1
    rw [h0]
    refine awp_seq ?_
    refine awp_region ?_
    refine al_d rfl rfl rfl (by exact opd_assign rfl rfl) ?_
    refine al_nil ?_
    refine awp_ret ?_
    -- return
    refine aret1 (H' := []) (by exact .inr rfl) rfl (rval_tmp rfl) (Fin.wk (by simp) trivial trivial) ?_
    exact ⟨rfl, rfl⟩
  · skip
    refine awp_skip ?_
    refine awp_seq ?_
    refine awp_region ?_
    refine al_d rfl rfl rfl (by exact x_buildSlice_own (id := 901) rfl so27 rfl rfl rfl rfl (by simp) rfl) ?_
    refine al_d rfl rfl rfl (by exact opd_move rfl rfl) ?_
    refine al_d rfl rfl rfl (by exact (by exact x_append rfl so27 ei9 rfl rfl rfl rfl rfl rfl rfl (rl_ByteArray l) rfl (by omega) (Nat.zero_add _) (List.nil_append _))) ?_
    refine al_d rfl rfl rfl (by exact opd_assign rfl rfl) ?_
    refine al_nil ?_
    refine awp_ret ?_
    -- return
    refine aret1 (H' := []) (by exact .inr rfl) rfl (rval_tmp rfl) (Fin.slice0 (id := 901) (l.map encStr) rfl rfl rfl rfl) ?_
    exact ⟨rfl, rfl⟩
theorem grow_ByteArray (n : Nat) (H : Heap) (h4 : H.get 904 = none) (h5 : H.get 905 = none) (hc : Closed H) (hn : n < 1099511627776) :
    ACalls Tryz.prog 122 [.pv .nils, iv (n : Int)] H (fun r H' => r = .osl 905 1 0 0 ∧ H' = (905, ⟨1, 1, 9, []⟩) :: H) := by
  refine ACalls.body Tryz.func122 rfl Tryz.ntmps122 (Nat.le_of_ble_eq_true rfl) ?_
  by_cases h0 : n = 0
  · subst h0
    refine awp_nilc (t := 0) (id := 905) (sz := 1) (ty := 9) rfl h5 rfl ?_
    refine awp_seq ?_
    refine awp_region ?_
    refine al_d rfl rfl rfl (by exact opd_assign rfl rfl) ?_
    refine al_nil ?_
    refine awp_seq ?_
    refine awp_seq ?_
    refine awp_region ?_
    refine al_d rfl rfl rfl (by exact opd_move rfl rfl) ?_
    refine al_d rfl rfl rfl (by exact opd_lss rfl rfl rfl) ?_
    refine al_nil ?_
    refine awp_cond rfl (fun hc1 => ?_) (fun hc1 => ?_)
    -- cond 1
    · have h := of_decide_eq_true hc1; omega
    · skip
      refine awp_skip ?_
      refine awp_seq ?_
      refine awp_seq ?_
      refine awp_region ?_
      refine al_d rfl rfl rfl (by exact opd_move rfl rfl) ?_
      refine al_d rfl rfl rfl (by exact opd_move rfl rfl) ?_
      refine al_d rfl rfl rfl (by exact opd_cap_osc rfl Tryz.underlying27 rfl rfl rfl) ?_
      refine al_d rfl rfl rfl (by exact opd_move rfl rfl) ?_
      refine al_d rfl rfl rfl (by exact opd_len_osc rfl Tryz.underlying27 rfl rfl rfl) ?_
      refine al_d rfl rfl rfl (by exact opd_sub rfl rfl rfl (by exact w64 (by omega) (by omega))) ?_
      refine al_d rfl rfl rfl (by exact opd_sub rfl rfl rfl (by exact w64 (by omega) (by omega))) ?_
      refine al_d rfl rfl rfl (by exact opd_assign rfl rfl) ?_
      refine al_nil ?_
      refine awp_seq ?_
      refine awp_region ?_
      refine al_d rfl rfl rfl (by exact opd_move rfl rfl) ?_
      refine al_d rfl rfl rfl (by exact opd_gtr rfl rfl rfl) ?_
      refine al_nil ?_
      refine awp_cond rfl (fun hc2 => ?_) (fun hc2 => ?_)
      -- cond 2
      · have h := of_decide_eq_true hc2; omega
      · skip
        refine awp_skip ?_
        refine awp_seq ?_
        -- before the slot
        refine awp_uncap (t := 0) rfl rfl rfl (by decide) ?_
        refine awp_region ?_
        refine al_d rfl rfl rfl (by exact opd_move rfl rfl) ?_
        refine al_d rfl rfl rfl (by exact opd_assign rfl rfl) ?_
        refine al_nil ?_
        refine awp_ret ?_
        -- return
        refine aret1 (H' := ((905, ⟨1, 1, 9, []⟩) :: H)) (by exact .inr rfl) rfl (rval_tmp rfl) ((Fin.bump (g := 0) (k := 1) rfl rfl (by decide) rfl rfl rfl).trans (Fin.get' (fun j => get_dup _ _ _ _ j))) ?_
        exact ⟨rfl, rfl⟩
  · refine awp_nilc (t := 0) (id := 904) (sz := 1) (ty := 9) rfl h4 rfl ?_
    have h5' : Heap.get ((904, (⟨0, 1, 9, []⟩ : Ob)) :: H) 905 = none := h5
    refine awp_seq ?_
    refine awp_region ?_
    refine al_d rfl rfl rfl (by exact opd_assign rfl rfl) ?_
    refine al_nil ?_
    refine awp_seq ?_
    refine awp_seq ?_
    refine awp_region ?_
    refine al_d rfl rfl rfl (by exact opd_move rfl rfl) ?_
    refine al_d rfl rfl rfl (by exact opd_lss rfl rfl rfl) ?_
    refine al_nil ?_
    refine awp_cond rfl (fun hc3 => ?_) (fun hc3 => ?_)
    -- cond 3
    · have h := of_decide_eq_true hc3; omega
    · skip
      refine awp_skip ?_
      refine awp_seq ?_
      refine awp_seq ?_
      refine awp_region ?_
      refine al_d rfl rfl rfl (by exact opd_move rfl rfl) ?_
      refine al_d rfl rfl rfl (by exact opd_move rfl rfl) ?_
      refine al_d rfl rfl rfl (by exact opd_cap_osc rfl Tryz.underlying27 rfl rfl rfl) ?_
      refine al_d rfl rfl rfl (by exact opd_move rfl rfl) ?_
      refine al_d rfl rfl rfl (by exact opd_len_osc rfl Tryz.underlying27 rfl rfl rfl) ?_
      refine al_d rfl rfl rfl (by exact opd_sub rfl rfl rfl (by exact w64 (by omega) (by omega))) ?_
      refine al_d rfl rfl rfl (by exact opd_sub rfl rfl rfl (by exact w64 (by omega) (by omega))) ?_
      refine al_d rfl rfl rfl (by exact opd_assign rfl rfl) ?_
      refine al_nil ?_
      refine awp_seq ?_
      refine awp_region ?_
      refine al_d rfl rfl rfl (by exact opd_move rfl rfl) ?_
      refine al_d rfl rfl rfl (by exact opd_gtr rfl rfl rfl) ?_
      refine al_nil ?_
      refine awp_cond rfl (fun hc4 => ?_) (fun hc4 => ?_)
      -- cond 4
      · skip
        refine awp_region ?_
        refine al_d rfl rfl rfl (by exact opd_move rfl rfl) ?_
        refine al_d rfl rfl rfl (by exact opd_move rfl rfl) ?_
        refine al_d rfl rfl rfl (by exact opd_cap_osc rfl Tryz.underlying27 rfl rfl rfl) ?_
        refine al_d rfl rfl rfl (by exact x_slice_osc (l := 0) (h := 0) rfl so27 rfl rfl rfl rfl rfl rfl (Nat.le_refl _) (Nat.le_refl _) rfl rfl rfl) ?_
        refine al_d rfl rfl rfl (by exact opd_move rfl rfl) ?_
        refine al_d rfl rfl rfl (by exact x_append_zeros (id2 := 905) (m := n) rfl so27 Tryz.underlying3 ei9 zo9 rfl rfl rfl rfl rfl (Nat.le_refl _) rfl (by omega) (by omega) (by omega) (Nat.zero_add _) (by omega) h5' rfl) ?_
        refine al_d rfl rfl rfl (by exact opd_move rfl rfl) ?_
        refine al_d rfl rfl rfl (by exact opd_len_osc rfl Tryz.underlying27 rfl rfl rfl) ?_
        refine al_d rfl rfl rfl (by exact x_slice_osl (l := 0) (h := 0) rfl so27 rfl rfl rfl rfl rfl rfl (Nat.le_refl _) (by omega) rfl rfl) ?_
        refine al_d rfl rfl rfl (by exact opd_assign rfl rfl) ?_
        refine al_nil ?_
        refine awp_seq ?_
        refine awp_region ?_
        refine al_d rfl rfl rfl (by exact opd_move rfl rfl) ?_
        refine al_d rfl rfl rfl (by exact opd_assign rfl rfl) ?_
        refine al_nil ?_
        refine awp_ret ?_
        -- return
        refine aret1 (H' := ((905, ⟨1, 1, 9, []⟩) :: H)) (by exact .inr rfl) rfl (rval_tmp rfl) ((Fin.trunc (g := 0) (k := 1) (sz := 1) (ty := 9) (rows := []) rfl rfl (by decide) rfl rfl (List.take_zero)).trans (Fin.front' [_, _, _] [(905, ⟨1, 1, 9, []⟩)] (by simp; rfl) (by simp [h4, h5]) (by simp [Heap.get]) (by simp) hc (by simp [h4, h5]))) ?_
        exact ⟨rfl, rfl⟩
      · have h := of_decide_eq_false hc4; omega
theorem concat_ByteArray (ls : List (List ByteArray)) (H : Heap) (hls : ls.length < 1099511627776) (hb : ls.flatten.length < 1099511627776) :
    ACalls Tryz.prog 75 [.pv (.sl (ls.map (fun l => [.sl (l.map encStr)])))] H (fun r H' => r = .pv (.sl (ls.flatten.map encStr)) ∧ H' = H) := by
  refine ACalls.pure ?_ (by simp) H
  have hml : (ls.map (fun l => [PV.sl (l.map encStr)])).length = ls.length := List.length_map _
  have hpre : ∀ k, ((ls.take k).flatten).length ≤ ls.flatten.length := fun k => by
    conv => rhs; rw [← List.take_append_drop k ls, List.flatten_append, List.length_append]
    omega
  have hst : ∀ k l, ls[k]? = some l → (ls.take (k + 1)).flatten = (ls.take k).flatten ++ l := fun k l h => by
    rw [List.take_add_one, h, List.flatten_append]; simp
  refine ACalls.body Tryz.func75 rfl Tryz.ntmps75 (Nat.le_of_ble_eq_true rfl) ?_
  refine awp_seq ?_
  refine awp_region ?_
  refine al_d rfl rfl rfl (by exact opd_assign rfl rfl) ?_
  refine al_nil ?_
  refine awp_seq ?_
  refine awp_region ?_
  refine al_d rfl rfl rfl (by exact opd_assign rfl rfl) ?_
  refine al_nil ?_
  refine awp_seq ?_
  refine awp_seq ?_
  refine awp_region ?_
  refine al_d rfl rfl rfl (by exact opd_move rfl rfl) ?_
  refine al_d rfl rfl rfl (by exact (by exact opd_len_sl rfl Tryz.underlying147 rfl)) ?_
  refine al_d rfl rfl rfl (by exact opd_move rfl rfl) ?_
  refine al_nil ?_
  refine awp_block ?_
  -- loop
  refine awp_loop (σ := Nat) (fun k => ([(0, .pv (.sl (ls.map (fun l => [.sl (l.map encStr)])))), (3, iv (((ls.take k).flatten).length : Int)), (9, .pv (.sl (ls.map (fun l => [.sl (l.map encStr)])))), (10, iv ((ls.map (fun l => [PV.sl (l.map encStr)])).length : Int)), (11, iv (k : Int))], [])) (fun k => k ≤ ls.length) (fun k => ls.length - k) 0 (by omega) ?_ ?_
  · exact Ent.e0 ⟨⟨_, rfl, rfl⟩, ⟨_, rfl, rfl⟩, ⟨_, rfl, rfl⟩, ⟨_, rfl, rfl⟩, ⟨_, rfl, rfl⟩, trivial⟩
  · intro k hk
    refine awp_seq ?_
    refine awp_region ?_
    refine al_d rfl rfl rfl (by exact opd_lss rfl rfl rfl) ?_
    refine al_nil ?_
    refine awp_seq ?_
    refine awp_cond rfl (fun hc1 => ?_) (fun hc1 => ?_)
    -- cond 1
    · have hlt : k < ls.length := by have := of_decide_eq_true hc1; omega
      obtain ⟨l, hl⟩ := get_of_lt hlt
      have hi := map_get (f := fun l => [PV.sl (l.map encStr)]) hl
      have hml2 : (l.map encStr).length = l.length := List.length_map _
      have h1 := hst k l hl
      have h2 := hpre (k + 1)
      have h3 : ((ls.take (k + 1)).flatten).length = ((ls.take k).flatten).length + l.length := by rw [h1, List.length_append]
      have hw : IntKind.i64.wrap ((((ls.take k).flatten).length : Int) + ((l.map encStr).length : Int)) = (((ls.take (k + 1)).flatten).length : Int) := by rw [IntKind.wrap_i64, hml2, h3]; omega
      refine awp_skip ?_
      refine awp_seq ?_
      refine awp_block ?_
      refine awp_seq ?_
      refine awp_region ?_
      refine al_d rfl rfl rfl (by exact (by exact x_index_pad rfl so147 rfl rfl (by omega) (by exact Int.toNat_natCast _) (by assumption) rfl)) ?_
      refine al_d rfl rfl rfl (by exact (by exact opd_load1_pad rfl Tryz.isAgg27 rfl (by omega) rfl)) ?_
      refine al_d rfl rfl rfl (by exact opd_assign rfl rfl) ?_
      refine al_nil ?_
      refine awp_seq ?_
      refine awp_region ?_
      refine al_d rfl rfl rfl (by exact opd_move rfl rfl) ?_
      refine al_d rfl rfl rfl (by exact opd_move rfl rfl) ?_
      refine al_d rfl rfl rfl (by exact (by exact opd_len_sl rfl Tryz.underlying27 rfl)) ?_
      refine al_d rfl rfl rfl (by exact opd_add rfl rfl rfl hw) ?_
      refine al_d rfl rfl rfl (by exact opd_assign rfl rfl) ?_
      refine al_nil ?_
      refine awp_seq ?_
      refine awp_region ?_
      refine al_d rfl rfl rfl (by exact opd_move rfl rfl) ?_
      refine al_d rfl rfl rfl (by exact opd_lss rfl rfl rfl) ?_
      refine al_nil ?_
      refine awp_cond rfl (fun hc2 => ?_) (fun hc2 => ?_)
      -- cond 2
      · have h := of_decide_eq_true hc2; omega
      · skip
        refine awp_skip ?_
        refine awp_region ?_
        refine al_d rfl rfl rfl (by exact opd_add rfl rfl rfl (by exact w64 (by omega) (by omega))) ?_
        refine al_d rfl rfl rfl (by exact opd_move rfl rfl) ?_
        refine al_nil ?_
        -- end of a round
        exact ⟨k + 1, by omega, by omega, Ent.e0 ⟨⟨_, rfl, rfl⟩, ⟨_, rfl, rfl⟩, ⟨_, rfl, rfl⟩, ⟨_, rfl, rfl⟩, ⟨_, rfl, rfl⟩, trivial⟩⟩
    · have hge : k = ls.length := by have := of_decide_eq_false hc1; omega
      subst hge
      rw [List.take_length]
      refine awp_exit ?_
      refine awp_seq ?_
      refine awp_region ?_
      refine al_d rfl rfl rfl (by exact opd_move rfl rfl) ?_
      refine al_d rfl rfl rfl (by exact opr_call_nil rfl rfl Tryz.call122 rfl (grow_ByteArray ls.flatten.length [] rfl rfl (Closed.of (by simp)) hb)) ?_
      refine al_d rfl rfl rfl (by exact opd_assign rfl rfl) ?_
      refine al_nil ?_
      refine awp_seq ?_
      refine awp_seq ?_
      refine awp_region ?_
      refine al_d rfl rfl rfl (by exact opd_move rfl rfl) ?_
      refine al_d rfl rfl rfl (by exact (by exact opd_len_sl rfl Tryz.underlying147 rfl)) ?_
      refine al_d rfl rfl rfl (by exact opd_move rfl rfl) ?_
      refine al_nil ?_
      refine awp_block ?_
      -- loop
      refine awp_loop2 (fun (k : Nat) (g : Nat) => ([(6, .osl 905 g 0 ((ls.take k).flatten.map encStr).length), (25, .pv (.sl (ls.map (fun l => [.sl (l.map encStr)])))), (26, iv ((ls.map (fun l => [PV.sl (l.map encStr)])).length : Int)), (27, iv (k : Int))], [(905, ⟨g, 1, 9, pvR ((ls.take k).flatten.map encStr)⟩)])) (fun k g => k ≤ ls.length) (fun k g => ls.length - k) 0 1 (by omega) ?_ ?_
      · exact Ent.e0 ⟨⟨_, rfl, rfl⟩, ⟨_, rfl, rfl⟩, ⟨_, rfl, rfl⟩, ⟨_, rfl, rfl⟩, trivial⟩
      · intro k g hk
        refine awp_seq ?_
        refine awp_region ?_
        refine al_d rfl rfl rfl (by exact opd_lss rfl rfl rfl) ?_
        refine al_nil ?_
        refine awp_seq ?_
        refine awp_cond rfl (fun hc3 => ?_) (fun hc3 => ?_)
        -- cond 3
        · have hlt : k < ls.length := by have := of_decide_eq_true hc3; omega
          obtain ⟨l, hl⟩ := get_of_lt hlt
          have hi := map_get (f := fun l => [PV.sl (l.map encStr)]) hl
          have hml2 : (l.map encStr).length = l.length := List.length_map _
          have hml3 : ((ls.take k).flatten.map encStr).length = ((ls.take k).flatten).length := List.length_map _
          have h1 := hst k l hl
          have h2 := hpre (k + 1)
          have h3 : ((ls.take (k + 1)).flatten).length = ((ls.take k).flatten).length + l.length := by rw [h1, List.length_append]
          refine awp_skip ?_
          refine awp_seq ?_
          refine awp_block ?_
          refine awp_seq ?_
          refine awp_region ?_
          refine al_d rfl rfl rfl (by exact (by exact x_index_pad rfl so147 rfl rfl (by omega) (by exact Int.toNat_natCast _) (by assumption) rfl)) ?_
          refine al_d rfl rfl rfl (by exact (by exact opd_load1_pad rfl Tryz.isAgg27 rfl (by omega) rfl)) ?_
          refine al_d rfl rfl rfl (by exact opd_assign rfl rfl) ?_
          refine al_nil ?_
          refine awp_region ?_
          refine al_d rfl rfl rfl (by exact opd_move rfl rfl) ?_
          refine al_d rfl rfl rfl (by exact opd_move rfl rfl) ?_
          refine al_d rfl rfl rfl (by exact (by exact x_append rfl so27 ei9 rfl rfl rfl rfl rfl (pvR_len _) rfl (rl_ByteArray l) rfl (by omega) (by rw [h1, List.map_append, List.length_append] : ((ls.take k).flatten.map encStr).length + (l.map encStr).length = ((ls.take (k + 1)).flatten.map encStr).length) (by rw [h1, List.map_append, pvR, pvR, List.map_append] : pvR ((ls.take k).flatten.map encStr) ++ (l.map encStr).map (·.map .pv) = pvR ((ls.take (k + 1)).flatten.map encStr)))) ?_
          refine al_d rfl rfl rfl (by exact opd_assign rfl rfl) ?_
          refine al_nil ?_
          refine awp_region ?_
          refine al_d rfl rfl rfl (by exact opd_add rfl rfl rfl (by exact w64 (by omega) (by omega))) ?_
          refine al_d rfl rfl rfl (by exact opd_move rfl rfl) ?_
          refine al_nil ?_
          -- end of a round
          exact ⟨k + 1, g + 1, by omega, by omega, Ent.dup ⟨⟨_, rfl, rfl⟩, ⟨_, rfl, rfl⟩, ⟨_, rfl, rfl⟩, ⟨_, rfl, rfl⟩, trivial⟩⟩
        · have hge : k = ls.length := by have := of_decide_eq_false hc3; omega
          subst hge
          rw [List.take_length]
          refine awp_exit ?_
          refine awp_seq ?_
          refine awp_region ?_
          refine al_d rfl rfl rfl (by exact opd_move rfl rfl) ?_
          refine al_d rfl rfl rfl (by exact opd_assign rfl rfl) ?_
          refine al_nil ?_
          refine awp_ret ?_
          -- return
          refine aret1 (H' := []) (by exact .inr rfl) rfl (rval_tmp rfl) (Fin.slice0 (id := 905) (ls.flatten.map encStr) rfl rfl rfl rfl) ?_
          exact ⟨rfl, rfl⟩
end Go.Proofs.YtedfihgkopejcaaGreat
end
section
set_option linter.unusedVariables false
set_option linter.unusedSimpArgs false
set_option maxRecDepth 100000
namespace Go.Proofs.YtedfihgkopejcaaGreat
open Go.Abs

def gDropM (m : List GObj) (id : ByteArray) : List GObj × Int :=
  if !gMap m then ([], 1) else if !hasK GObj.id m id then ([], 11) else (m.take (lbI GObj.id m id) ++ m.drop (lbI GObj.id m id + 1), 0)
theorem drop_c (m : List GObj) (id : ByteArray) (H : Heap) (hm : okM m) (hl : m.length < 1099511627776) : ACalls Tryz.prog 62 [.agg [.pv (slObjs m)], sv id] H (fun r H' => r = .tup [.agg [.pv (slObjs (gDropM m id).1)], iv (gDropM m id).2] ∧ H' = H) := by
  refine ACalls.pure ?_ (by simp) H
  have hml : (m.map encObj).length = m.length := List.length_map _
  have hrl := encObj_rl m
  have hv := fun H => valids_c [m] H (by show 1 < _; omega) (by intro x hx; rw [List.mem_singleton] at hx; subst hx; exact hm)
  rw [show ([m].all gMap) = gMap m by simp] at hv
  refine ACalls.body Tryz.func62 rfl Tryz.ntmps62 (Nat.le_of_ble_eq_true rfl) ?_
  refine awp_seq ?_
  refine awp_region ?_
  refine al_d rfl rfl rfl (by exact opd_box (id := 2) rfl rfl rfl rfl rfl) ?_
  refine al_d rfl rfl rfl (by exact x_alloc (id := 4) rfl zoN24 rfl rfl) ?_
  refine al_d rfl rfl rfl (by exact opd_assign rfl rfl) ?_
  refine al_nil ?_
  refine awp_seq ?_
  refine awp_seq ?_
  refine awp_region ?_
  refine al_d rfl rfl rfl (by exact (by exact opd_loadn_ref rfl Tryz.isAgg24 Tryz.sizeOf24 rfl rfl rfl rfl (by simp only [List.drop_succ_cons, List.drop_zero, List.take_succ_cons, List.take_zero, List.take_nil, List.map_cons, List.map_nil, List.set_cons_zero, List.set_cons_succ, List.cons_append, List.nil_append, encTag, encObj, encStr, encEdit, encInt]; rfl) rfl)) ?_
  refine al_d rfl rfl rfl (by exact (by exact x_buildSlice ([m].map encMap) rfl so103 rfl rfl rfl rfl rfl (by simp [encMap]))) ?_
  refine al_d rfl rfl rfl (by exact opr_call rfl rfl Tryz.call30 rfl (hv _)) ?_
  refine al_d rfl rfl rfl (by exact opd_not rfl rfl) ?_
  refine al_nil ?_
  refine awp_cond rfl (fun hc1 => ?_) (fun hc1 => ?_)
  -- cond 1
  · have e : gDropM m id = ([], 1) := by rw [gDropM, if_pos hc1]
    rw [e]
    refine awp_seq ?_
    refine awp_region ?_
    refine al_d rfl rfl rfl (by exact x_build rfl bo24 rfl rfl) ?_
    refine al_n rfl rfl (by exact (by exact x_store_all rfl Tryz.sizeOf24 rfl rfl rfl rfl rfl rfl rfl rfl)) ?_
    refine al_d rfl rfl rfl (by exact opd_assign rfl rfl) ?_
    refine al_nil ?_
    refine awp_ret ?_
    -- return
    refine aret2 (H' := []) (by exact .inr rfl) rfl (rval_cell rfl Tryz.isAgg24 Tryz.sizeOf24 rfl rfl rfl (by simp only [List.drop_succ_cons, List.drop_zero, List.take_succ_cons, List.take_zero, List.take_nil, List.map_cons, List.map_nil, List.set_cons_zero, List.set_cons_succ, List.cons_append, List.nil_append, encTag, encObj, encStr, encEdit, encInt]; rfl) rfl) (rval_tmp rfl) (Fin.wk (by simp) trivial trivial) ?_
    exact ⟨rfl, rfl⟩
  · have hg : gMap m = true := by
      have h := hc1
      revert h
      cases gMap m <;> simp
    have hu := (gMap_iff.1 hg).2.1
    have hle := lbI_le GObj.id m id
    have hgp : gDropM m id = if !hasK GObj.id m id then ([], 11) else (m.take (lbI GObj.id m id) ++ m.drop (lbI GObj.id m id + 1), 0) := by rw [gDropM, if_neg (by rw [hc1]; simp)]
    obtain ⟨i, hi0⟩ : ∃ i, i = lbI GObj.id m id := ⟨_, rfl⟩
    rw [← hi0] at hgp hle
    have hat := fun H => at_c m id H hl hu
    rw [← hi0] at hat
    refine awp_skip ?_
    refine awp_seq ?_
    refine awp_region ?_
    refine al_d rfl rfl rfl (by exact (by exact opd_loadn_ref rfl Tryz.isAgg24 Tryz.sizeOf24 rfl rfl rfl rfl (by simp only [List.drop_succ_cons, List.drop_zero, List.take_succ_cons, List.take_zero, List.take_nil, List.map_cons, List.map_nil, List.set_cons_zero, List.set_cons_succ, List.cons_append, List.nil_append, encTag, encObj, encStr, encEdit, encInt]; rfl) rfl)) ?_
    refine al_d rfl rfl rfl (by exact opd_move rfl rfl) ?_
    refine al_d rfl rfl rfl (by exact opr_call rfl rfl Tryz.call110 rfl (hat _)) ?_
    refine al_d rfl rfl rfl (by exact opd_move rfl rfl) ?_
    refine al_d rfl rfl rfl (by exact opd_extract rfl rfl rfl) ?_
    refine al_d rfl rfl rfl (by exact opd_extract rfl rfl rfl) ?_
    refine al_d rfl rfl rfl (by exact opd_assign rfl rfl) ?_
    refine al_d rfl rfl rfl (by exact opd_assign rfl rfl) ?_
    refine al_nil ?_
    refine awp_seq ?_
    refine awp_seq ?_
    refine awp_region ?_
    refine al_d rfl rfl rfl (by exact opd_move rfl rfl) ?_
    refine al_d rfl rfl rfl (by exact opd_not rfl rfl) ?_
    refine al_nil ?_
    refine awp_cond rfl (fun hc2 => ?_) (fun hc2 => ?_)
    -- cond 2
    · rw [hgp, if_pos hc2]
      refine awp_seq ?_
      refine awp_region ?_
      refine al_d rfl rfl rfl (by exact x_build rfl bo24 rfl rfl) ?_
      refine al_n rfl rfl (by exact (by exact x_store_all rfl Tryz.sizeOf24 rfl rfl rfl rfl rfl rfl rfl rfl)) ?_
      refine al_d rfl rfl rfl (by exact opd_assign rfl rfl) ?_
      refine al_nil ?_
      refine awp_ret ?_
      -- return
      refine aret2 (H' := []) (by exact .inr rfl) rfl (rval_cell rfl Tryz.isAgg24 Tryz.sizeOf24 rfl rfl rfl (by simp only [List.drop_succ_cons, List.drop_zero, List.take_succ_cons, List.take_zero, List.take_nil, List.map_cons, List.map_nil, List.set_cons_zero, List.set_cons_succ, List.cons_append, List.nil_append, encTag, encObj, encStr, encEdit, encInt]; rfl) rfl) (rval_tmp rfl) (Fin.wk (by simp) trivial trivial) ?_
      exact ⟨rfl, rfl⟩
    · have hf : hasK GObj.id m id = true := by
        have h := hc2
        revert h
        cases hasK GObj.id m id <;> simp
      obtain ⟨x, hx, hxk⟩ := hasK_get hu hf
      rw [← hi0] at hx
      have hlt := (List.getElem?_eq_some_iff.1 hx).1
      rw [hgp, if_neg (by rw [hc2]; simp)]
      have hw : IntKind.i64.wrap ((i : Int) + 1) = ((i + 1 : Nat) : Int) := by rw [IntKind.wrap_i64]; omega
      have hs : slObjs (m.take i ++ m.drop (i + 1)) = .sl ((m.map encObj).take i ++ (m.map encObj).drop (i + 1)) := by rw [slObjs, List.map_append, List.map_take, List.map_drop]
      rw [hs]
      refine awp_skip ?_
      refine awp_seq ?_
      refine awp_region ?_
      refine al_d rfl rfl rfl (by exact (by exact opd_field_ref rfl fo24_0 rfl rfl rfl rfl)) ?_
      refine al_d rfl rfl rfl (by exact (by exact opd_load1_ref rfl Tryz.isAgg22 rfl rfl rfl rfl rfl)) ?_
      refine al_d rfl rfl rfl (by exact opr_call rfl rfl Tryz.call111 rfl (clone_Obj (m.map encObj) _ (Closed.ofL ⟨(by (simp; done)), (by (simp; done)), trivial⟩) rfl rfl (by omega) hrl)) ?_
      refine al_d rfl rfl rfl (by exact opd_move rfl rfl) ?_
      refine al_d rfl rfl rfl (by exact opd_move rfl rfl) ?_
      refine al_d rfl rfl rfl (by exact opd_add rfl rfl rfl hw) ?_
      refine al_d rfl rfl rfl (by exact opr_call rfl rfl Tryz.call113 rfl (delete_Obj (m.map encObj) i (i + 1) 1 _ (Closed.ofL ⟨(by (simp; done)), (by (simp; done)), (by (simp; done)), trivial⟩) rfl (by omega) (by omega) (by omega) hrl)) ?_
      refine al_d rfl rfl rfl (by exact x_build rfl bo24 rfl rfl) ?_
      refine al_n rfl rfl (by exact (by exact x_store_all rfl Tryz.sizeOf24 rfl rfl rfl rfl rfl rfl rfl rfl)) ?_
      refine al_d rfl rfl rfl (by exact opd_assign rfl rfl) ?_
      refine al_nil ?_
      refine awp_ret ?_
      -- return
      refine aret2 (H' := []) (by exact .inr rfl) rfl (rval_cell rfl Tryz.isAgg24 Tryz.sizeOf24 rfl rfl rfl rfl rfl) (rval_tmp rfl) (Fin.wk (r := .tup [.agg [.pv (.sl ((m.map encObj).take i ++ (m.map encObj).drop (i + 1)))], iv 0]) (by simp) trivial trivial) ?_
      exact ⟨rfl, rfl⟩
/-- What an edit leads to: objects to put, an Id to drop, an error. -/
structure GRes where
  put : List GObj
  drop : ByteArray
  err : Int
def encRes (r : GRes) : List PV := [slObjs r.put, .str r.drop, .int .i64 r.err]
def errR (n : Int) : GRes := ⟨[], sNil, n⟩
def gSplit (m : List GObj) (e : GEdit) (o : GObj) : GRes :=
  if (kindOf m e.other).isSome then errR 9
  else if decide (gInner o.refs e.node < 0) then errR 12
  else if gRefd m true [e.id] then errR 14
  else ⟨[⟨o.id, o.kind, o.x, o.y, o.refs.take ((gInner o.refs e.node).toNat + 1), o.tags⟩, ⟨e.other, 2, 0, 0, o.refs.drop (gInner o.refs e.node).toNat, o.tags⟩], sNil, 0⟩
theorem gInner_lt {l : List ByteArray} {node : ByteArray} : gInner l node = -1 ∨ ∃ k : Nat, gInner l node = (k : Int) ∧ 0 < k ∧ k + 1 < l.length ∧ l[k]? = some node := by
  unfold gInner
  split
  · exact .inl rfl
  · next h =>
    rw [Bool.not_eq_true] at h
    rw [Bool.or_eq_false_iff, Bool.or_eq_false_iff, decide_eq_false_iff_not, decide_eq_false_iff_not] at h
    rcases gidx_cases (fun x => decide (node = x)) l with ⟨e1, _⟩ | ⟨k, o, e1, e2, e3⟩
    · omega
    · right
      have hlt := (List.getElem?_eq_some_iff.1 e2).1
      have hon : node = o := of_decide_eq_true (show decide (node = o) = true from List.find?_some (p := fun x => decide (node = x)) e3)
      exact ⟨k, e1, by omega, by omega, by rw [hon]; exact e2⟩
/-- A plain result, of a function on a closed map. -/
theorem Fin.cl {m : List GObj} {H1 : Heap} (ps : List PV) (h14 : H1.get 14 = some (cRow m)) (h12 : H1.get 12 = some (kob m)) : Fin (cH m) H1 (av ps) (cH m) (av ps) :=
  Fin.wk (by simp [av]) ⟨⟨_, h14, rfl⟩, by simp; rfl, ⟨_, h12, rfl⟩, kob_clo _ _, trivial⟩ ⟨h14.symm, h12.symm, trivial⟩
theorem split0_c (m : List GObj) (e : GEdit) (o : GObj) (hm : okM m) (hr : o.refs.length < 1099511627776) :
    ACalls Tryz.prog 108 [.ref 14 0 0 0, av (encEdit e), av (encObj o)] (cH m) (fun r H' => r = av (encRes (gSplit m e o)) ∧ H' = cH m) := by
  have hml : (o.refs.map encStr).length = o.refs.length := List.length_map _
  refine ACalls.body Tryz.func108 rfl Tryz.ntmps108 (Nat.le_of_ble_eq_true rfl) ?_
  refine awp_seq ?_
  refine awp_region ?_
  refine al_d rfl rfl rfl (by exact opd_box (id := 4) rfl rfl rfl rfl rfl) ?_
  refine al_d rfl rfl rfl (by exact opd_box (id := 5) rfl rfl rfl rfl rfl) ?_
  refine al_d rfl rfl rfl (by exact x_alloc (id := 6) rfl zo99 rfl rfl) ?_
  refine al_nil ?_
  refine awp_seq ?_
  refine awp_seq ?_
  refine awp_drawc follows ?_
  refine dc_cons (DStep.q rfl (by exact opd_move rfl rfl)) rfl ?_
  refine dc_cons (DStep.q rfl (by exact (by exact opd_nilCheck_ref rfl rfl rfl rfl))) rfl ?_
  refine dc_cons (DStep.q rfl (by exact (by exact opd_field_ref rfl fo91_1 rfl rfl rfl rfl))) rfl ?_
  refine dc_cons (DStep.q rfl (by exact (by exact opd_load1_ref rfl Tryz.isAgg89 rfl rfl rfl rfl rfl))) rfl ?_
  refine dc_cons (DStep.q rfl (by exact (by exact opd_field_ref rfl fo32_2 rfl rfl rfl rfl))) rfl ?_
  refine dc_cons (DStep.q rfl (by exact (by exact opd_load1_ref rfl Tryz.isAgg9 rfl rfl rfl rfl rfl))) rfl ?_
  refine dc_cons (DStep.q rfl (by exact opd_lookup_ok (κ := strK) rfl Tryz.underlying89 Tryz.underlying9 rfl rfl rfl rfl rfl Tryz.zeroValue3 (.inl rfl))) rfl ?_
  refine dc_cons (DStep.q rfl (by exact opd_move rfl rfl)) rfl ?_
  refine dc_cons (DStep.q rfl (by exact opd_extract rfl rfl rfl)) rfl ?_
  refine dc_cons (DStep.q rfl (by exact opd_extract rfl rfl rfl)) rfl ?_
  refine dc_cons (DStep.q rfl (by exact opd_assign rfl rfl)) rfl ?_
  refine dc_cons (DStep.q rfl (by exact opd_assign rfl rfl)) rfl ?_
  refine dc_nil ⟨by kernel_rfl, ?_⟩
  refine awp_seq ?_
  refine awp_region ?_
  refine al_d rfl rfl rfl (by exact opd_move rfl rfl) ?_
  refine al_nil ?_
  refine awp_cond rfl (fun hc1 => ?_) (fun hc1 => ?_)
  -- cond 1
  · have hk : (kindOf m e.other).isSome = true := by
      rw [kM_kind] at hc1
      cases h : kindOf m e.other with
      | none => rw [h] at hc1; cases hc1
      | some x => rfl
    have hg : gSplit m e o = errR 9 := by rw [gSplit, if_pos hk]
    rw [hg]
    refine awp_seq ?_
    refine awp_region ?_
    refine al_d rfl rfl rfl (by exact x_build rfl bo99 rfl rfl) ?_
    refine al_n rfl rfl (by exact (by exact x_store_all rfl Tryz.sizeOf99 rfl rfl rfl rfl rfl rfl rfl rfl)) ?_
    refine al_nil ?_
    refine awp_ret ?_
    -- return
    refine aret1 (H' := (cH m)) (by exact .inr rfl) rfl (rval_cell rfl Tryz.isAgg99 Tryz.sizeOf99 rfl rfl rfl rfl rfl) (Fin.cl (m := m) (encRes (errR 9)) rfl rfl) ?_
    exact ⟨rfl, rfl⟩
  · have hk : kindOf m e.other = none := by
      rw [kM_kind] at hc1
      cases h : kindOf m e.other with
      | none => rfl
      | some x => rw [h] at hc1; cases hc1
    have hg : gSplit m e o = (if decide (gInner o.refs e.node < 0) then errR 12 else if gRefd m true [e.id] then errR 14 else ⟨[⟨o.id, o.kind, o.x, o.y, o.refs.take ((gInner o.refs e.node).toNat + 1), o.tags⟩, ⟨e.other, 2, 0, 0, o.refs.drop (gInner o.refs e.node).toNat, o.tags⟩], sNil, 0⟩) := by
      rw [gSplit, if_neg (by rw [hk]; simp)]
    have hin := fun H => inner_c o.refs e.node H hr
    refine awp_skip ?_
    refine awp_seq ?_
    refine awp_region ?_
    refine al_d rfl rfl rfl (by exact (by exact opd_field_ref rfl fo30_3 rfl rfl rfl rfl)) ?_
    refine al_d rfl rfl rfl (by exact (by exact opd_load1_ref rfl Tryz.isAgg27 rfl rfl rfl rfl rfl)) ?_
    refine al_d rfl rfl rfl (by exact (by exact opd_field_ref rfl fo32_3 rfl rfl rfl rfl)) ?_
    refine al_d rfl rfl rfl (by exact (by exact opd_load1_ref rfl Tryz.isAgg9 rfl rfl rfl rfl rfl)) ?_
    refine al_d rfl rfl rfl (by exact opr_call rfl rfl Tryz.call74 rfl (hin _)) ?_
    refine al_d rfl rfl rfl (by exact opd_assign rfl rfl) ?_
    refine al_nil ?_
    refine awp_seq ?_
    refine awp_block ?_
    refine awp_seq ?_
    refine awp_region ?_
    refine al_d rfl rfl rfl (by exact opd_move rfl rfl) ?_
    refine al_d rfl rfl rfl (by exact opd_lss rfl rfl rfl) ?_
    refine al_d rfl rfl rfl (by exact opd_assign rfl rfl) ?_
    refine al_nil ?_
    refine awp_cond rfl (fun hc2 => ?_) (fun hc2 => ?_)
    -- cond 2
    · rw [hg, if_pos hc2]
      refine awp_seq ?_
      refine awp_region ?_
      refine al_d rfl rfl rfl (by exact x_build rfl bo99 rfl rfl) ?_
      refine al_n rfl rfl (by exact (by exact x_store_all rfl Tryz.sizeOf99 rfl rfl rfl rfl rfl rfl rfl rfl)) ?_
      refine al_nil ?_
      refine awp_ret ?_
      -- return
      refine aret1 (H' := (cH m)) (by exact .inr rfl) rfl (rval_cell rfl Tryz.isAgg99 Tryz.sizeOf99 rfl rfl rfl rfl rfl) (Fin.cl (m := m) (encRes (errR 12)) rfl rfl) ?_
      exact ⟨rfl, rfl⟩
    · rw [hg, if_neg (by rw [hc2]; simp)]
      refine awp_seq ?_
      refine awp_region ?_
      refine al_d rfl rfl rfl (by exact opd_move rfl rfl) ?_
      refine al_d rfl rfl rfl (by exact (by exact opd_field_ref rfl fo32_1 rfl rfl rfl rfl)) ?_
      refine al_d rfl rfl rfl (by exact (by exact opd_load1_ref rfl Tryz.isAgg9 rfl rfl rfl rfl rfl)) ?_
      refine al_d rfl rfl rfl (by exact (by exact x_buildSlice ([e.id].map encStr) rfl so27 rfl rfl rfl rfl rfl (by simp [encStr]))) ?_
      refine al_d rfl rfl rfl (by exact opr_call rfl rfl Tryz.call107 rfl (refd_c m true [e.id] _ rfl rfl hm (by show 1 < _; omega))) ?_
      refine al_d rfl rfl rfl (by exact opd_assign rfl rfl) ?_
      refine al_nil ?_
      refine awp_cond rfl (fun hc3 => ?_) (fun hc3 => ?_)
      -- cond 3
      · rw [if_pos hc3]
        refine awp_seq ?_
        refine awp_region ?_
        refine al_d rfl rfl rfl (by exact x_build rfl bo99 rfl rfl) ?_
        refine al_n rfl rfl (by exact (by exact x_store_all rfl Tryz.sizeOf99 rfl rfl rfl rfl rfl rfl rfl rfl)) ?_
        refine al_nil ?_
        refine awp_ret ?_
        -- return
        refine aret1 (H' := (cH m)) (by exact .inr rfl) rfl (rval_cell rfl Tryz.isAgg99 Tryz.sizeOf99 rfl rfl rfl rfl rfl) (Fin.cl (m := m) (encRes (errR 14)) rfl rfl) ?_
        exact ⟨rfl, rfl⟩
      · rw [if_neg (by rw [hc3]; simp)]
        rcases gInner_lt (l := o.refs) (node := e.node) with h | ⟨k, h, k0, k1, k2⟩
        · rw [h] at hc2; cases hc2
        · rw [h]
          have hw : IntKind.i64.wrap ((k : Int) + 1) = ((k + 1 : Nat) : Int) := by rw [IntKind.wrap_i64]; omega
          have e5 : ((k : Int)).toNat = k := by omega
          rw [e5]
          refine awp_skip ?_
          refine awp_seq ?_
          refine awp_drawc follows ?_
          refine dc_cons (r := ⟨_, some [4], []⟩) (DStep.plain rfl (fun H1 hH => by exact (by exact opd_field_ref rfl fo32_2 rfl ((hH _ rfl).trans rfl) rfl rfl))) rfl ?_
          refine dc_cons (r := ⟨_, some [4], []⟩) (DStep.plain rfl (fun H1 hH => by exact (by exact opd_load1_ref rfl Tryz.isAgg9 rfl ((hH _ rfl).trans rfl) rfl rfl rfl))) rfl ?_
          refine dc_cons (r := ⟨_, some [5], []⟩) (DStep.plain rfl (fun H1 hH => by exact (by exact opd_field_ref rfl fo30_3 rfl ((hH _ rfl).trans rfl) rfl rfl))) rfl ?_
          refine dc_cons (r := ⟨_, some [5], []⟩) (DStep.plain rfl (fun H1 hH => by exact (by exact opd_load1_ref rfl Tryz.isAgg27 rfl ((hH _ rfl).trans rfl) rfl rfl rfl))) rfl ?_
          refine dc_cons (r := ⟨_, some [], []⟩) (DStep.plain rfl (fun H1 hH => by exact opd_move rfl rfl)) rfl ?_
          refine dc_cons (r := ⟨_, some [], []⟩) (DStep.plain rfl (fun H1 hH => by exact x_slice_sl (l := k) (h := (o.refs.map encStr).length) (rows' := (o.refs.drop k).map encStr) rfl so27 rfl (rl_ByteArray o.refs) rfl rfl (by omega) (Nat.le_refl _) (by rw [List.take_length]; exact List.map_drop.symm))) rfl ?_
          refine dc_cons (r := ⟨_, some [], []⟩) (DStep.plain rfl (fun H1 hH => by exact opr_call rfl rfl Tryz.call143 rfl (cloneF_ByteArray (o.refs.drop k) _ (by rw [List.length_drop]; omega)))) rfl ?_
          refine dc_cons (r := ⟨_, some [5], []⟩) (DStep.plain rfl (fun H1 hH => by exact (by exact opd_field_ref rfl fo30_4 rfl ((hH _ rfl).trans rfl) rfl rfl))) rfl ?_
          refine dc_cons (r := ⟨_, some [5], []⟩) (DStep.plain rfl (fun H1 hH => by exact (by exact opd_load1_ref rfl Tryz.isAgg28 rfl ((hH _ rfl).trans rfl) rfl rfl rfl))) rfl ?_
          refine dc_cons (r := ⟨_, some [], []⟩) (DStep.plain rfl (fun H1 hH => by exact x_build rfl bo30 rfl rfl)) rfl ?_
          refine dc_cons (r := ⟨_, some [10], [_]⟩) (DStep.plain rfl (fun H1 hH => by exact x_alloc (id := 10) rfl zo30 rfl ((hH _ rfl).trans rfl))) rfl ?_
          refine dc_cons (r := ⟨_, some [10], [_]⟩) (DStep.plain rfl (fun H1 hH => by exact (by exact x_store_all rfl Tryz.sizeOf30 rfl rfl rfl rfl ((hH _ rfl).trans rfl) rfl rfl rfl))) rfl ?_
          refine dc_nil ⟨by kernel_rfl, ?_⟩
          refine awp_seq ?_
          refine awp_region ?_
          refine al_d rfl rfl rfl (by exact (by exact opd_field_ref rfl fo30_3 rfl rfl rfl rfl)) ?_
          refine al_d rfl rfl rfl (by exact (by exact opd_load1_ref rfl Tryz.isAgg27 rfl rfl rfl rfl rfl)) ?_
          refine al_d rfl rfl rfl (by exact opd_move rfl rfl) ?_
          refine al_d rfl rfl rfl (by exact opd_add rfl rfl rfl hw) ?_
          refine al_d rfl rfl rfl (by exact x_slice_sl (l := 0) (h := k + 1) (rows' := (o.refs.take (k + 1)).map encStr) rfl so27 rfl (rl_ByteArray o.refs) rfl rfl (by omega) (by omega) (by rw [List.drop_zero]; exact List.map_take.symm)) ?_
          refine al_d rfl rfl rfl (by exact opr_call rfl rfl Tryz.call143 rfl (cloneF_ByteArray (o.refs.take (k + 1)) _ (by rw [List.length_take]; omega))) ?_
          refine al_d rfl rfl rfl (by exact (by exact opd_field_ref rfl fo30_3 rfl rfl rfl rfl)) ?_
          refine al_n rfl rfl (by exact (by exact x_store1 rfl Tryz.sizeOf27 rfl rfl rfl rfl rfl rfl (Nat.le_of_ble_eq_true rfl) rfl rfl)) ?_
          refine al_nil ?_
          refine awp_seq ?_
          refine awp_region ?_
          refine al_d rfl rfl rfl (by exact (by exact opd_loadn_ref rfl Tryz.isAgg30 Tryz.sizeOf30 rfl rfl rfl rfl rfl rfl)) ?_
          refine al_d rfl rfl rfl (by exact (by exact opd_loadn_ref rfl Tryz.isAgg30 Tryz.sizeOf30 rfl rfl rfl rfl rfl rfl)) ?_
          refine al_d rfl rfl rfl (by exact (by exact x_buildSlice ([(⟨o.id, o.kind, o.x, o.y, o.refs.take (k + 1), o.tags⟩ : GObj), ⟨e.other, 2, 0, 0, o.refs.drop k, o.tags⟩].map encObj) rfl so22 rfl rfl rfl rfl rfl (by simp [encObj]))) ?_
          refine al_d rfl rfl rfl (by exact x_build rfl bo99 rfl rfl) ?_
          refine al_n rfl rfl (by exact (by exact x_store_all rfl Tryz.sizeOf99 rfl rfl rfl rfl rfl rfl rfl rfl)) ?_
          refine al_nil ?_
          refine awp_ret ?_
          -- return
          refine aret1 (H' := (cH m)) (by exact .inr rfl) rfl (rval_cell rfl Tryz.isAgg99 Tryz.sizeOf99 rfl rfl rfl rfl rfl) (Fin.cl (m := m) (encRes ⟨[⟨o.id, o.kind, o.x, o.y, o.refs.take (k + 1), o.tags⟩, ⟨e.other, 2, 0, 0, o.refs.drop k, o.tags⟩], sNil, 0⟩) rfl rfl) ?_
          exact ⟨rfl, rfl⟩
end Go.Proofs.YtedfihgkopejcaaGreat
end
section
set_option linter.unusedVariables false
set_option linter.unusedSimpArgs false
set_option maxRecDepth 100000
namespace Go.Proofs.YtedfihgkopejcaaGreat
open Go.Abs

def atS (l : List ByteArray) (k : Nat) : ByteArray := (l[k]?).getD sNil
theorem atS_some {l : List ByteArray} {k : Nat} {s : ByteArray} (h : l[k]? = some s) : atS l k = s := by rw [atS, h]; rfl
def gJoin (m : List GObj) (e : GEdit) (o x : GObj) : GRes :=
  if !decide (x.kind = 2) then errR 13
  else if decide (e.id = e.other) || !decide (atS o.refs (o.refs.length - 1) = atS x.refs 0) then errR 12
  else if gRefd m true [e.id, e.other] then errR 14
  else if decide (2000 < o.refs.length + x.refs.length - 1) then errR 2
  else ⟨[⟨o.id, o.kind, o.x, o.y, [o.refs, x.refs.drop 1].flatten, o.tags⟩], e.other, 0⟩
theorem join0_c (m : List GObj) (e : GEdit) (o x : GObj) (hm : okM m) (hr : o.refs.length < 549755813888) (hr2 : x.refs.length < 549755813888) (hx : m.find? (idIs e.other) = some x) (ho : 0 < o.refs.length) (hx2 : x.kind = 2 → 0 < x.refs.length) :
    ACalls Tryz.prog 109 [.ref 14 0 0 0, av (encEdit e), av (encObj o)] (cH m) (fun r H' => r = av (encRes (gJoin m e o x)) ∧ H' = cH m) := by
  have hml : (o.refs.map encStr).length = o.refs.length := List.length_map _
  have hml2 : (x.refs.map encStr).length = x.refs.length := List.length_map _
  refine ACalls.body Tryz.func109 rfl Tryz.ntmps109 (Nat.le_of_ble_eq_true rfl) ?_
  refine awp_seq ?_
  refine awp_region ?_
  refine al_d rfl rfl rfl (by exact opd_box (id := 4) rfl rfl rfl rfl rfl) ?_
  refine al_d rfl rfl rfl (by exact opd_box (id := 5) rfl rfl rfl rfl rfl) ?_
  refine al_d rfl rfl rfl (by exact x_alloc (id := 6) rfl zo99 rfl rfl) ?_
  refine al_nil ?_
  refine awp_seq ?_
  refine awp_region ?_
  refine al_d rfl rfl rfl (by exact opd_move rfl rfl) ?_
  refine al_d rfl rfl rfl (by exact (by exact opd_field_ref rfl fo32_2 rfl rfl rfl rfl)) ?_
  refine al_d rfl rfl rfl (by exact (by exact opd_load1_ref rfl Tryz.isAgg9 rfl rfl rfl rfl rfl)) ?_
  refine al_d rfl rfl rfl (by exact opr_call rfl rfl Tryz.call38 rfl (get_c m e.other x _ rfl rfl hm hx)) ?_
  refine al_d rfl rfl rfl (by exact x_alloc (id := 7) rfl zo30 rfl rfl) ?_
  refine al_n rfl rfl (by exact (by exact x_store_all rfl Tryz.sizeOf30 rfl rfl rfl rfl rfl rfl rfl rfl)) ?_
  refine al_nil ?_
  refine awp_seq ?_
  refine awp_block ?_
  refine awp_seq ?_
  refine awp_region ?_
  refine al_d rfl rfl rfl (by exact (by exact opd_field_ref rfl fo30_1 rfl rfl rfl rfl)) ?_
  refine al_d rfl rfl rfl (by exact (by exact opd_load1_ref rfl Tryz.isAgg3 rfl rfl rfl rfl rfl)) ?_
  refine al_d rfl rfl rfl (by exact opd_neq rfl rfl rfl) ?_
  refine al_d rfl rfl rfl (by exact opd_assign rfl rfl) ?_
  refine al_nil ?_
  refine awp_cond rfl (fun hc1 => ?_) (fun hc1 => ?_)
  -- cond 1
  · rw [gJoin, if_pos hc1]
    refine awp_seq ?_
    refine awp_region ?_
    refine al_d rfl rfl rfl (by exact x_build rfl bo99 rfl rfl) ?_
    refine al_n rfl rfl (by exact (by exact x_store_all rfl Tryz.sizeOf99 rfl rfl rfl rfl rfl rfl rfl rfl)) ?_
    refine al_nil ?_
    refine awp_ret ?_
    -- return
    refine aret1 (H' := (cH m)) (by exact .inr rfl) rfl (rval_cell rfl Tryz.isAgg99 Tryz.sizeOf99 rfl rfl rfl rfl rfl) (Fin.cl (m := m) (encRes (errR 13)) rfl rfl) ?_
    exact ⟨rfl, rfl⟩
  · have hk2 : x.kind = 2 := by
      have h := hc1
      simpa using h
    rw [gJoin, if_neg (by rw [hc1]; simp)]
    obtain ⟨la, hla⟩ := get_of_lt (l := o.refs) (k := o.refs.length - 1) (by omega)
    obtain ⟨fi, hfi⟩ := get_of_lt (l := x.refs) (k := 0) (hx2 hk2)
    have hi := map_get (f := encStr) hla
    have hi0 := map_get (f := encStr) hfi
    have hw : IntKind.i64.wrap (((o.refs.map encStr).length : Int) - 1) = ((o.refs.length - 1 : Nat) : Int) := by rw [IntKind.wrap_i64, hml]; omega
    rw [atS_some hla, atS_some hfi]
    refine awp_seq ?_
    refine awp_mergeR (t := 17) (n := 21) (X := decide (e.id = e.other) || !decide (la = fi)) ?_ ?_
    · cases hg23 : (decide (e.id = e.other) : Bool)
      · refine awp_drawc follows ?_
        refine dc_cons (DStep.q rfl (by exact (by exact opd_field_ref rfl fo32_1 rfl rfl rfl rfl))) rfl ?_
        refine dc_cons (DStep.q rfl (by exact (by exact opd_load1_ref rfl Tryz.isAgg9 rfl rfl rfl rfl rfl))) rfl ?_
        refine dc_cons (DStep.q rfl (by exact (by exact opd_field_ref rfl fo32_2 rfl rfl rfl rfl))) rfl ?_
        refine dc_cons (DStep.q rfl (by exact (by exact opd_load1_ref rfl Tryz.isAgg9 rfl rfl rfl rfl rfl))) rfl ?_
        refine dc_cons (DStep.q rfl (by exact opd_seql rfl rfl rfl)) rfl ?_
        refine dc_cons (DStep.q rfl (by exact opd_move rfl rfl)) rfl ?_
        refine dc_cons (q_on_f rfl rfl rfl (by assumption) (by exact (by exact opd_field_ref rfl fo30_3 rfl rfl rfl rfl))) rfl ?_
        refine dc_cons (q_on_f rfl rfl rfl (by assumption) (by exact (by exact opd_load1_ref rfl Tryz.isAgg27 rfl rfl rfl rfl rfl))) rfl ?_
        refine dc_cons (q_on_f rfl rfl rfl (by assumption) (by exact (by exact opd_field_ref rfl fo30_3 rfl rfl rfl rfl))) rfl ?_
        refine dc_cons (q_on_f rfl rfl rfl (by assumption) (by exact (by exact opd_load1_ref rfl Tryz.isAgg27 rfl rfl rfl rfl rfl))) rfl ?_
        refine dc_cons (q_on_f rfl rfl rfl (by assumption) (by exact (by exact opd_len_sl rfl Tryz.underlying27 rfl))) rfl ?_
        refine dc_cons (q_on_f rfl rfl rfl (by assumption) (by exact opd_sub rfl rfl rfl hw)) rfl ?_
        refine dc_cons (q_on_f rfl rfl rfl (by assumption) (by exact (by exact x_index_pad rfl so27 rfl rfl (by omega) (by exact Int.toNat_natCast _) hi rfl))) rfl ?_
        refine dc_cons (q_on_f rfl rfl rfl (by assumption) (by exact (by exact opd_load1_pad rfl Tryz.isAgg9 rfl (by omega) rfl))) rfl ?_
        refine dc_cons (q_on_f rfl rfl rfl (by assumption) (by exact (by exact opd_field_ref rfl fo30_3 rfl rfl rfl rfl))) rfl ?_
        refine dc_cons (q_on_f rfl rfl rfl (by assumption) (by exact (by exact opd_load1_ref rfl Tryz.isAgg27 rfl rfl rfl rfl rfl))) rfl ?_
        refine dc_cons (q_on_f rfl rfl rfl (by assumption) (by exact (by exact x_index_pad rfl so27 rfl rfl (by omega) (by exact Int.toNat_natCast _) hi0 rfl))) rfl ?_
        refine dc_cons (q_on_f rfl rfl rfl (by assumption) (by exact (by exact opd_load1_pad rfl Tryz.isAgg9 rfl (by omega) rfl))) rfl ?_
        refine dc_cons (q_on_f rfl rfl rfl (by assumption) (by exact opd_sneq rfl rfl rfl)) rfl ?_
        refine dc_cons (DStep.q rfl (by exact (by exact opd_pickf rfl rfl (by assumption) rfl))) rfl ?_
        refine dc_cons (DStep.q rfl (by exact opd_assign rfl rfl)) rfl ?_
        refine dc_nil ⟨by kernel_rfl, ?_⟩
        exact ⟨rfl, ⟨_, rfl, by rfl⟩, rfl, rfl, rfl⟩
      · refine awp_drawc follows ?_
        refine dc_cons (DStep.q rfl (by exact (by exact opd_field_ref rfl fo32_1 rfl rfl rfl rfl))) rfl ?_
        refine dc_cons (DStep.q rfl (by exact (by exact opd_load1_ref rfl Tryz.isAgg9 rfl rfl rfl rfl rfl))) rfl ?_
        refine dc_cons (DStep.q rfl (by exact (by exact opd_field_ref rfl fo32_2 rfl rfl rfl rfl))) rfl ?_
        refine dc_cons (DStep.q rfl (by exact (by exact opd_load1_ref rfl Tryz.isAgg9 rfl rfl rfl rfl rfl))) rfl ?_
        refine dc_cons (DStep.q rfl (by exact opd_seql rfl rfl rfl)) rfl ?_
        refine dc_cons (DStep.q rfl (by exact opd_move rfl rfl)) rfl ?_
        refine dc_cons (q_off_f rfl rfl rfl (by assumption)) rfl ?_
        refine dc_cons (q_off_f rfl rfl rfl (by assumption)) rfl ?_
        refine dc_cons (q_off_f rfl rfl rfl (by assumption)) rfl ?_
        refine dc_cons (q_off_f rfl rfl rfl (by assumption)) rfl ?_
        refine dc_cons (q_off_f rfl rfl rfl (by assumption)) rfl ?_
        refine dc_cons (q_off_f rfl rfl rfl (by assumption)) rfl ?_
        refine dc_cons (q_off_f rfl rfl rfl (by assumption)) rfl ?_
        refine dc_cons (q_off_f rfl rfl rfl (by assumption)) rfl ?_
        refine dc_cons (q_off_f rfl rfl rfl (by assumption)) rfl ?_
        refine dc_cons (q_off_f rfl rfl rfl (by assumption)) rfl ?_
        refine dc_cons (q_off_f rfl rfl rfl (by assumption)) rfl ?_
        refine dc_cons (q_off_f rfl rfl rfl (by assumption)) rfl ?_
        refine dc_cons (q_off_f rfl rfl rfl (by assumption)) rfl ?_
        refine dc_cons (DStep.q rfl (by exact (by exact opd_pickt rfl rfl (by assumption) rfl))) rfl ?_
        refine dc_cons (DStep.q rfl (by exact opd_assign rfl rfl)) rfl ?_
        refine dc_nil ⟨by kernel_rfl, ?_⟩
        exact ⟨rfl, ⟨_, rfl, by rfl⟩, rfl, rfl, rfl⟩
    refine awp_cond rfl (fun hc2 => ?_) (fun hc2 => ?_)
    -- cond 2
    · rw [if_pos hc2]
      refine awp_seq ?_
      refine awp_region ?_
      refine al_d rfl rfl rfl (by exact x_build rfl bo99 rfl rfl) ?_
      refine al_n rfl rfl (by exact (by exact x_store_all rfl Tryz.sizeOf99 rfl rfl rfl rfl rfl rfl rfl rfl)) ?_
      refine al_nil ?_
      refine awp_ret ?_
      -- return
      refine aret1 (H' := (cH m)) (by exact .inr rfl) rfl (rval_cell rfl Tryz.isAgg99 Tryz.sizeOf99 rfl rfl rfl rfl rfl) (Fin.cl (m := m) (encRes (errR 12)) rfl rfl) ?_
      exact ⟨rfl, rfl⟩
    · rw [if_neg (by rw [hc2]; simp)]
      refine awp_seq ?_
      refine awp_region ?_
      refine al_d rfl rfl rfl (by exact opd_move rfl rfl) ?_
      refine al_d rfl rfl rfl (by exact (by exact opd_field_ref rfl fo32_1 rfl rfl rfl rfl)) ?_
      refine al_d rfl rfl rfl (by exact (by exact opd_load1_ref rfl Tryz.isAgg9 rfl rfl rfl rfl rfl)) ?_
      refine al_d rfl rfl rfl (by exact (by exact opd_field_ref rfl fo32_2 rfl rfl rfl rfl)) ?_
      refine al_d rfl rfl rfl (by exact (by exact opd_load1_ref rfl Tryz.isAgg9 rfl rfl rfl rfl rfl)) ?_
      refine al_d rfl rfl rfl (by exact (by exact x_buildSlice ([e.id, e.other].map encStr) rfl so27 rfl rfl rfl rfl rfl (by simp [encStr]))) ?_
      refine al_d rfl rfl rfl (by exact opr_call rfl rfl Tryz.call107 rfl (refd_c m true [e.id, e.other] _ rfl rfl hm (by show 2 < _; omega))) ?_
      refine al_d rfl rfl rfl (by exact opd_assign rfl rfl) ?_
      refine al_nil ?_
      refine awp_cond rfl (fun hc3 => ?_) (fun hc3 => ?_)
      -- cond 3
      · rw [if_pos hc3]
        refine awp_seq ?_
        refine awp_region ?_
        refine al_d rfl rfl rfl (by exact x_build rfl bo99 rfl rfl) ?_
        refine al_n rfl rfl (by exact (by exact x_store_all rfl Tryz.sizeOf99 rfl rfl rfl rfl rfl rfl rfl rfl)) ?_
        refine al_nil ?_
        refine awp_ret ?_
        -- return
        refine aret1 (H' := (cH m)) (by exact .inr rfl) rfl (rval_cell rfl Tryz.isAgg99 Tryz.sizeOf99 rfl rfl rfl rfl rfl) (Fin.cl (m := m) (encRes (errR 14)) rfl rfl) ?_
        exact ⟨rfl, rfl⟩
      · rw [if_neg (by rw [hc3]; simp)]
        have hx0 := hx2 hk2
        have hw2 : IntKind.i64.wrap (((o.refs.map encStr).length : Int) + ((x.refs.map encStr).length : Int)) = ((o.refs.length + x.refs.length : Nat) : Int) := by rw [IntKind.wrap_i64, hml, hml2]; omega
        have hw3 : IntKind.i64.wrap (((o.refs.length + x.refs.length : Nat) : Int) - 1) = ((o.refs.length + x.refs.length - 1 : Nat) : Int) := by rw [IntKind.wrap_i64]; omega
        refine awp_seq ?_
        refine awp_region ?_
        refine al_d rfl rfl rfl (by exact (by exact opd_field_ref rfl fo30_3 rfl rfl rfl rfl)) ?_
        refine al_d rfl rfl rfl (by exact (by exact opd_load1_ref rfl Tryz.isAgg27 rfl rfl rfl rfl rfl)) ?_
        refine al_d rfl rfl rfl (by exact (by exact opd_len_sl rfl Tryz.underlying27 rfl)) ?_
        refine al_d rfl rfl rfl (by exact (by exact opd_field_ref rfl fo30_3 rfl rfl rfl rfl)) ?_
        refine al_d rfl rfl rfl (by exact (by exact opd_load1_ref rfl Tryz.isAgg27 rfl rfl rfl rfl rfl)) ?_
        refine al_d rfl rfl rfl (by exact (by exact opd_len_sl rfl Tryz.underlying27 rfl)) ?_
        refine al_d rfl rfl rfl (by exact opd_add rfl rfl rfl hw2) ?_
        refine al_d rfl rfl rfl (by exact opd_sub rfl rfl rfl hw3) ?_
        refine al_d rfl rfl rfl (by exact opd_gtr rfl rfl rfl) ?_
        refine al_d rfl rfl rfl (by exact opd_assign rfl rfl) ?_
        refine al_nil ?_
        refine awp_cond rfl (fun hc4 => ?_) (fun hc4 => ?_)
        -- cond 4
        · have h : 2000 < o.refs.length + x.refs.length - 1 := by have h := of_decide_eq_true hc4; omega
          rw [if_pos (decide_eq_true h)]
          refine awp_seq ?_
          refine awp_region ?_
          refine al_d rfl rfl rfl (by exact x_build rfl bo99 rfl rfl) ?_
          refine al_n rfl rfl (by exact (by exact x_store_all rfl Tryz.sizeOf99 rfl rfl rfl rfl rfl rfl rfl rfl)) ?_
          refine al_nil ?_
          refine awp_ret ?_
          -- return
          refine aret1 (H' := (cH m)) (by exact .inr rfl) rfl (rval_cell rfl Tryz.isAgg99 Tryz.sizeOf99 rfl rfl rfl rfl rfl) (Fin.cl (m := m) (encRes (errR 2)) rfl rfl) ?_
          exact ⟨rfl, rfl⟩
        · have h : ¬ 2000 < o.refs.length + x.refs.length - 1 := by have h := of_decide_eq_false hc4; omega
          rw [if_neg (by rw [decide_eq_false h]; simp)]
          have hfl : [o.refs, x.refs.drop 1].flatten.length < 1099511627776 := by simp; omega
          refine awp_skip ?_
          refine awp_seq ?_
          refine awp_drawc follows ?_
          refine dc_cons (r := ⟨_, some [5], []⟩) (DStep.plain rfl (fun H1 hH => by exact (by exact opd_field_ref rfl fo30_3 rfl ((hH _ rfl).trans rfl) rfl rfl))) rfl ?_
          refine dc_cons (r := ⟨_, some [5], []⟩) (DStep.plain rfl (fun H1 hH => by exact (by exact opd_load1_ref rfl Tryz.isAgg27 rfl ((hH _ rfl).trans rfl) rfl rfl rfl))) rfl ?_
          refine dc_cons (r := ⟨_, some [7], []⟩) (DStep.plain rfl (fun H1 hH => by exact (by exact opd_field_ref rfl fo30_3 rfl ((hH _ rfl).trans rfl) rfl rfl))) rfl ?_
          refine dc_cons (r := ⟨_, some [7], []⟩) (DStep.plain rfl (fun H1 hH => by exact (by exact opd_load1_ref rfl Tryz.isAgg27 rfl ((hH _ rfl).trans rfl) rfl rfl rfl))) rfl ?_
          refine dc_cons (r := ⟨_, some [], []⟩) (DStep.plain rfl (fun H1 hH => by exact x_slice_sl (l := 1) (h := (x.refs.map encStr).length) (rows' := (x.refs.drop 1).map encStr) rfl so27 rfl (rl_ByteArray x.refs) rfl rfl (by omega) (Nat.le_refl _) (by rw [List.take_length]; exact List.map_drop.symm))) rfl ?_
          refine dc_cons (r := ⟨_, some [], []⟩) (DStep.plain rfl (fun H1 hH => by exact by apply x_buildSlice (ps := [o.refs, x.refs.drop 1].map (fun l => [PV.sl (l.map encStr)])) (hS := so147) <;> first | rfl | simp)) rfl ?_
          refine dc_cons (r := ⟨_, some [], []⟩) (DStep.plain rfl (fun H1 hH => by exact opr_call rfl rfl Tryz.call75 rfl (concat_ByteArray [o.refs, x.refs.drop 1] _ (by show 2 < _; omega) hfl))) rfl ?_
          refine dc_cons (r := ⟨_, some [5], []⟩) (DStep.plain rfl (fun H1 hH => by exact (by exact opd_field_ref rfl fo30_3 rfl ((hH _ rfl).trans rfl) rfl rfl))) rfl ?_
          refine dc_cons (r := ⟨_, some [5], [_]⟩) (DStep.plain rfl (fun H1 hH => by exact (by exact x_store1 rfl Tryz.sizeOf27 rfl rfl rfl ((hH _ rfl).trans rfl) rfl rfl (Nat.le_of_ble_eq_true rfl) rfl rfl))) rfl ?_
          refine dc_nil ⟨by kernel_rfl, ?_⟩
          refine awp_seq ?_
          refine awp_region ?_
          refine al_d rfl rfl rfl (by exact (by exact opd_loadn_ref rfl Tryz.isAgg30 Tryz.sizeOf30 rfl rfl rfl rfl rfl rfl)) ?_
          refine al_d rfl rfl rfl (by exact (by exact x_buildSlice ([(⟨o.id, o.kind, o.x, o.y, [o.refs, x.refs.drop 1].flatten, o.tags⟩ : GObj)].map encObj) rfl so22 rfl rfl rfl rfl rfl (by simp [encObj]))) ?_
          refine al_d rfl rfl rfl (by exact (by exact opd_field_ref rfl fo32_2 rfl rfl rfl rfl)) ?_
          refine al_d rfl rfl rfl (by exact (by exact opd_load1_ref rfl Tryz.isAgg9 rfl rfl rfl rfl rfl)) ?_
          refine al_d rfl rfl rfl (by exact x_build rfl bo99 rfl rfl) ?_
          refine al_n rfl rfl (by exact (by exact x_store_all rfl Tryz.sizeOf99 rfl rfl rfl rfl rfl rfl rfl rfl)) ?_
          refine al_nil ?_
          refine awp_ret ?_
          -- return
          refine aret1 (H' := (cH m)) (by exact .inr rfl) rfl (rval_cell rfl Tryz.isAgg99 Tryz.sizeOf99 rfl rfl rfl rfl rfl) (Fin.cl (m := m) (encRes ⟨[⟨o.id, o.kind, o.x, o.y, [o.refs, x.refs.drop 1].flatten, o.tags⟩], e.other, 0⟩) rfl rfl) ?_
          exact ⟨rfl, rfl⟩
end Go.Proofs.YtedfihgkopejcaaGreat
end
