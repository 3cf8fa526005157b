/-
  CONTRACTS: package edit: kinds, references, closed maps. Conditions: lengths below 2^62.
  PLAIN LAWS of a greedy choice: the places that it takes fit together, and no others come before them. Conditions: none.
  PLAIN LAWS of evidence: what it is, what is found. Conditions: none.
  CONTRACTS: package edit: edits compared, valid edits; valid change sets. Conditions: lengths below 2^62.
-/
import Derived.Test.YtdcifaldfmpapaaGreatKN5M4
import Derived.ChangeKeysEq
section
set_option linter.unusedVariables false
set_option linter.unusedSimpArgs false
set_option maxRecDepth 100000
namespace Go.Proofs.YtdcifaldfmpapaaGreat
open Go.Abs

/-- The kinds of a map's objects, by Ids. -/
def kM (l : List GObj) : List (ByteArray × AV) := l.map fun o => (o.id, iv o.kind)
abbrev kob (l : List GObj) : Ob := ⟨0, 0, (kM l).length, mrows strK (kM l)⟩
theorem kob_clo (l : List GObj) (H : Heap) : ∀ r ∈ (kob l).rows, ∀ a ∈ r, Clo H a := by
  intro r hr a ha
  obtain ⟨i, hi⟩ := List.mem_iff_getElem?.1 hr
  obtain ⟨p, hp, rfl⟩ := mrows_get.1 hi
  simp only [kM, List.getElem?_map] at hp
  obtain ⟨q, _, rfl⟩ := Option.map_eq_some_iff.1 hp
  simp only [List.mem_cons, List.not_mem_nil, or_false] at ha
  rcases ha with rfl | rfl | rfl <;> simp
theorem kM_get : ∀ (l : List GObj) (s : ByteArray), mget (kM l) s = (l.find? (idIs s)).map (fun o => iv o.kind)
  | [], s => rfl
  | o :: l, s => by
    have ih := kM_get l s
    rw [kM, List.map_cons, mget, List.find?_cons]
    by_cases e : o.id = s
    · rw [if_pos e, show idIs s o = true from decide_eq_true e]; rfl
    · rw [if_neg e, show idIs s o = false from decide_eq_false e]; exact ih
theorem mput_new : ∀ {l : List (ByteArray × AV)} {k : ByteArray} (v : AV), mget l k = none → mput l k v = l ++ [(k, v)]
  | [], k, v, _ => rfl
  | (k', a) :: l, k, v, h => by
    rw [mget] at h
    split at h
    · cases h
    · next e => rw [mput, if_neg e, mput_new v h]; rfl
theorem kM_put {m : List GObj} {k : Nat} {o : GObj} (hu : ups m) (ho : m[k]? = some o) : mput (kM (m.take k)) o.id (iv o.kind) = kM (m.take (k + 1)) := by
  have hn : mget (kM (m.take k)) o.id = none := by
    rw [kM_get, Option.map_eq_none_iff, List.find?_eq_none]
    intro a ha he
    have he := of_decide_eq_true he
    obtain ⟨j, hj⟩ := List.mem_iff_getElem?.1 ha
    have hjk : j < k := by
      have := (List.getElem?_eq_some_iff.1 hj).1
      rw [List.length_take] at this
      omega
    rw [List.getElem?_take_of_lt hjk] at hj
    obtain ⟨jl, je⟩ := List.getElem?_eq_some_iff.1 hj
    obtain ⟨kl, ke⟩ := List.getElem?_eq_some_iff.1 ho
    rw [ups, List.pairwise_iff_getElem] at hu
    have := hu j k jl kl hjk
    rw [je, ke, he, slt_irr] at this
    cases this
  rw [mput_new _ hn, kM, kM, List.take_add_one, ho, List.map_append]
  rfl
def gWanted (kind i : Int) : Int := if (decide (kind = 4) || (decide (kind = 5) && !decide (i = 1))) then 2 else 1
theorem wanted_c (kind i : Int) (H : Heap) : ACalls Tryz.prog 126 [iv kind, iv i] H (fun r H' => r = iv (gWanted kind i) ∧ H' = H) := by
  refine ACalls.pure ?_ (by simp) H
  refine ACalls.body Tryz.func126 rfl Tryz.ntmps126 (Nat.le_of_ble_eq_true rfl) ?_
  refine awp_seq ?_
  refine awp_region ?_
  refine al_d rfl rfl rfl (by exact opd_assign rfl rfl) ?_
  refine al_nil ?_
  refine awp_seq ?_
  refine awp_seq ?_
  refine awp_bool (t := 14) (n := 12) (X := decide (kind = 4) || (decide (kind = 5) && !decide (i = 1))) ?_ ?_
  · all_goals (refine al_d rfl rfl rfl (by exact opd_move rfl rfl) ?_)
    all_goals (refine al_d rfl rfl rfl (by exact opd_eql rfl rfl rfl) ?_)
    all_goals (refine al_d rfl rfl rfl (by exact opd_move rfl rfl) ?_)
    all_goals (refine al_split (t := 7) rfl (fun h7 => ?_) (fun h7 => ?_))
    all_goals (try contradiction)
    all_goals (first | refine al_off rfl rfl rfl rfl rfl ?_ | refine al_ond rfl rfl rfl rfl rfl rfl (by exact opd_move rfl rfl) ?_)
    all_goals (first | refine al_off rfl rfl rfl rfl rfl ?_ | refine al_ond rfl rfl rfl rfl rfl rfl (by exact opd_eql rfl rfl rfl) ?_)
    all_goals (first | refine al_off rfl rfl rfl rfl rfl ?_ | refine al_ond rfl rfl rfl rfl rfl rfl (by exact opd_move rfl rfl) ?_)
    all_goals (first | refine al_split (t := 10) rfl (fun h10 => ?_) (fun h10 => ?_) | refine al_dup (t := 10) rfl ?_)
    all_goals (try contradiction)
    all_goals (first | refine al_off rfl rfl rfl rfl rfl ?_ | refine al_offu rfl rfl rfl rfl ?_ | refine al_ond rfl rfl rfl rfl rfl rfl (by exact opd_move rfl rfl) ?_)
    all_goals (first | refine al_off rfl rfl rfl rfl rfl ?_ | refine al_offu rfl rfl rfl rfl ?_ | refine al_ond rfl rfl rfl rfl rfl rfl (by exact opd_neq rfl rfl rfl) ?_)
    all_goals (first | refine al_off rfl rfl rfl rfl rfl ?_ | refine al_ond rfl rfl rfl rfl rfl rfl (by exact (by first | exact opd_pick_t rfl rfl rfl | exact opd_pick_f rfl rfl rfl)) ?_)
    all_goals (refine al_d rfl rfl rfl (by exact (by first | exact opd_pick_t rfl rfl rfl | exact opd_pick_f rfl rfl rfl)) ?_)
    all_goals (refine al_nil ?_)
    all_goals (exact ⟨⟨_, rfl, by (simp only [*, Bool.false_and, Bool.true_and, Bool.and_false, Bool.and_true, Bool.true_or, Bool.false_or, Bool.or_true, Bool.or_false, Bool.not_true, Bool.not_false]; done)⟩, rfl, rfl, rfl⟩)
  refine awp_cond rfl (fun hc1 => ?_) (fun hc1 => ?_)
  -- cond 1
  · skip
    refine awp_seq ?_
    refine awp_region ?_
    refine al_d rfl rfl rfl (by exact opd_assign rfl rfl) ?_
    refine al_nil ?_
    refine awp_ret ?_
    -- return
    refine aret1 (H' := []) (by exact .inr rfl) rfl (rval_tmp rfl) (Fin.wk (by simp) trivial trivial) ?_
    exact ⟨by rw [gWanted, if_pos hc1], rfl⟩
  · skip
    refine awp_skip ?_
    refine awp_seq ?_
    refine awp_region ?_
    refine al_d rfl rfl rfl (by exact opd_assign rfl rfl) ?_
    refine al_nil ?_
    refine awp_ret ?_
    -- return
    refine aret1 (H' := []) (by exact .inr rfl) rfl (rval_tmp rfl) (Fin.wk (by simp) trivial trivial) ?_
    exact ⟨by rw [gWanted, hc1]; rfl, rfl⟩
def kindOf (m : List GObj) (s : ByteArray) : Option Int := (m.find? (idIs s)).map (·.kind)
def refBad (m : List GObj) (kind : Int) (i : Nat) (s : ByteArray) : Int := match kindOf m s with
  | none => 14
  | some k => if k = gWanted kind (i : Int) then 0 else 13
def refErr (m : List GObj) (kind : Int) : Nat → List ByteArray → Int
  | _, [] => 0
  | i, s :: r => if refBad m kind i s = 0 then refErr m kind (i + 1) r else refBad m kind i s
theorem kM_kind (m : List GObj) (s : ByteArray) : mget (kM m) s = (kindOf m s).map iv := by
  rw [kM_get, kindOf, Option.map_map]; rfl
abbrev cRow (m : List GObj) : Ob := bx 2 83 [.pv (slObjs m), .mp 12 0]
theorem refs_c (m : List GObj) (o : GObj) (H : Heap) (h14 : H.get 14 = some (cRow m)) (h12 : H.get 12 = some (kob m)) (h63 : H.get 963 = none) (hc : Closed H) (hl : o.refs.length < 4611686018427387904) :
    ACalls Tryz.prog 84 [.ref 14 0 0 0, av (encObj o)] H (fun r H' => r = iv (refErr m o.kind 0 o.refs) ∧ H' = H) := by
  have hrl : (o.refs.map encStr).length = o.refs.length := List.length_map _
  have h14' : Heap.get ((963, bx 6 30 ((encObj o).map .pv)) :: H) 14 = some (cRow m) := h14
  have h12' : Heap.get ((963, bx 6 30 ((encObj o).map .pv)) :: H) 12 = some (kob m) := h12
  refine ACalls.body Tryz.func84 rfl Tryz.ntmps84 (Nat.le_of_ble_eq_true rfl) ?_
  refine awp_seq ?_
  refine awp_region ?_
  refine al_d rfl rfl rfl (by exact opd_box (id := 963) rfl rfl rfl rfl h63) ?_
  refine al_d rfl rfl rfl (by exact opd_assign rfl rfl) ?_
  refine al_nil ?_
  refine awp_seq ?_
  refine awp_seq ?_
  refine awp_region ?_
  refine al_d rfl rfl rfl (by exact (by exact opd_field_ref rfl fo30_3 rfl rfl rfl rfl)) ?_
  refine al_d rfl rfl rfl (by exact (by exact opd_load1_ref rfl Tryz.isAgg27 rfl rfl rfl rfl rfl)) ?_
  refine al_d rfl rfl rfl (by exact (by exact opd_len_sl rfl Tryz.underlying27 rfl)) ?_
  refine al_d rfl rfl rfl (by exact opd_move rfl rfl) ?_
  refine al_nil ?_
  refine awp_block ?_
  -- loop
  refine awp_loop (σ := Nat) (fun k => ([(0, .ref 14 0 0 0), (3, .ref 963 0 0 0), (10, .pv (slStrs o.refs)), (11, iv ((o.refs.map encStr).length : Int)), (12, iv (k : Int))], (963, bx 6 30 ((encObj o).map .pv)) :: H)) (fun k => k ≤ o.refs.length ∧ refErr m o.kind 0 o.refs = refErr m o.kind k (o.refs.drop k)) (fun k => o.refs.length - k) 0 ⟨by omega, rfl⟩ ?_ ?_
  · exact Ent.e0 ⟨⟨_, rfl, rfl⟩, ⟨_, rfl, rfl⟩, ⟨_, rfl, rfl⟩, ⟨_, rfl, rfl⟩, ⟨_, rfl, rfl⟩, trivial⟩
  · rintro k ⟨hk, hinv⟩
    refine awp_seq ?_
    refine awp_region ?_
    refine al_d rfl rfl rfl (by exact opd_lss rfl rfl rfl) ?_
    refine al_nil ?_
    refine awp_seq ?_
    refine awp_cond rfl (fun hc1 => ?_) (fun hc1 => ?_)
    -- cond 1
    · have hlt : k < o.refs.length := by have := of_decide_eq_true hc1; omega
      obtain ⟨s, hs⟩ := get_of_lt hlt
      have hi := map_get (f := encStr) hs
      have hdr : o.refs.drop k = s :: o.refs.drop (k + 1) := by
        obtain ⟨hl1, he1⟩ := List.getElem?_eq_some_iff.1 hs
        rw [List.drop_eq_getElem_cons hl1, he1]
      rw [hdr, refErr] at hinv
      refine awp_skip ?_
      refine awp_seq ?_
      refine awp_block ?_
      refine awp_seq ?_
      refine awp_region ?_
      refine al_d rfl rfl rfl (by exact opd_move rfl rfl) ?_
      refine al_d rfl rfl rfl (by exact (by exact x_index_pad rfl so27 rfl rfl (by omega) (by exact Int.toNat_natCast _) (by assumption) rfl)) ?_
      refine al_d rfl rfl rfl (by exact (by exact opd_load1_pad rfl Tryz.isAgg9 rfl (by omega) rfl)) ?_
      refine al_d rfl rfl rfl (by exact opd_assign rfl rfl) ?_
      refine al_d rfl rfl rfl (by exact opd_assign rfl rfl) ?_
      refine al_nil ?_
      refine awp_seq ?_
      refine awp_region ?_
      refine al_d rfl rfl rfl (by exact opd_move rfl rfl) ?_
      refine al_d rfl rfl rfl (by exact (by exact opd_nilCheck_ref rfl rfl h14' rfl)) ?_
      refine al_d rfl rfl rfl (by exact (by exact opd_field_ref rfl fo83_1 rfl h14' rfl rfl)) ?_
      refine al_d rfl rfl rfl (by exact (by exact opd_load1_ref rfl Tryz.isAgg81 rfl h14' rfl rfl rfl)) ?_
      refine al_d rfl rfl rfl (by exact opd_move rfl rfl) ?_
      refine al_d rfl rfl rfl (by exact opd_lookup_ok (κ := strK) rfl Tryz.underlying81 Tryz.underlying9 rfl h12' rfl rfl rfl Tryz.zeroValue3 (.inl rfl)) ?_
      refine al_d rfl rfl rfl (by exact opd_move rfl rfl) ?_
      refine al_d rfl rfl rfl (by exact opd_extract rfl rfl rfl) ?_
      refine al_d rfl rfl rfl (by exact opd_extract rfl rfl rfl) ?_
      refine al_d rfl rfl rfl (by exact opd_assign rfl rfl) ?_
      refine al_d rfl rfl rfl (by exact opd_assign rfl rfl) ?_
      refine al_nil ?_
      refine awp_block ?_
      refine awp_seq ?_
      refine awp_region ?_
      refine al_d rfl rfl rfl (by exact opd_move rfl rfl) ?_
      refine al_d rfl rfl rfl (by exact opd_not rfl rfl) ?_
      refine al_d rfl rfl rfl (by exact opd_assign rfl rfl) ?_
      refine al_nil ?_
      refine awp_cond rfl (fun hc2 => ?_) (fun hc2 => ?_)
      -- cond 2
      · have hko : kindOf m s = none := by
          rw [kM_kind] at hc2
          cases h : kindOf m s with
          | none => rfl
          | some x => rw [h] at hc2; cases hc2
        have hb : refBad m o.kind k s = 14 := by rw [refBad, hko]
        rw [hb, if_neg (by decide)] at hinv
        refine awp_seq ?_
        refine awp_region ?_
        refine al_d rfl rfl rfl (by exact opd_assign rfl rfl) ?_
        refine al_nil ?_
        refine awp_ret ?_
        -- return
        refine aret1 (H' := H) (.inr rfl) rfl (rval_tmp rfl) (Fin.pops [(963, bx 6 30 ((encObj o).map .pv))] (by simp) hc (by simp [h63])) ⟨by rw [hinv], rfl⟩
      · obtain ⟨kd, hko⟩ : ∃ kd, kindOf m s = some kd := by
          rw [kM_kind] at hc2
          cases h : kindOf m s with
          | none => rw [h] at hc2; cases hc2
          | some x => exact ⟨x, rfl⟩
        have hg : mget (kM m) s = some (iv kd) := by rw [kM_kind, hko]; rfl
        rw [hg]
        refine awp_seq ?_
        refine awp_region ?_
        refine al_d rfl rfl rfl (by exact opd_move rfl rfl) ?_
        refine al_d rfl rfl rfl (by exact (by exact opd_field_ref rfl fo30_1 rfl rfl rfl rfl)) ?_
        refine al_d rfl rfl rfl (by exact (by exact opd_load1_ref rfl Tryz.isAgg3 rfl rfl rfl rfl rfl)) ?_
        refine al_d rfl rfl rfl (by exact opd_move rfl rfl) ?_
        refine al_d rfl rfl rfl (by exact opr_call rfl rfl Tryz.call126 rfl (wanted_c o.kind (k : Int) _)) ?_
        refine al_d rfl rfl rfl (by exact opd_neq rfl rfl rfl) ?_
        refine al_d rfl rfl rfl (by exact opd_assign rfl rfl) ?_
        refine al_nil ?_
        refine awp_cond rfl (fun hc3 => ?_) (fun hc3 => ?_)
        -- cond 3
        · have hb : refBad m o.kind k s = 13 := by
            have h : (!decide (kd = gWanted o.kind (k : Int))) = true := hc3
            have h : ¬ kd = gWanted o.kind (k : Int) := by simpa using h
            rw [refBad, hko]
            exact if_neg h
          rw [hb, if_neg (by decide)] at hinv
          refine awp_seq ?_
          refine awp_region ?_
          refine al_d rfl rfl rfl (by exact opd_assign rfl rfl) ?_
          refine al_nil ?_
          refine awp_ret ?_
          -- return
          refine aret1 (H' := H) (.inr rfl) rfl (rval_tmp rfl) (Fin.pops [(963, bx 6 30 ((encObj o).map .pv))] (by simp) hc (by simp [h63])) ⟨by rw [hinv], rfl⟩
        · have hb : refBad m o.kind k s = 0 := by
            have h : (!decide (kd = gWanted o.kind (k : Int))) = false := hc3
            have h : kd = gWanted o.kind (k : Int) := by simpa using h
            rw [refBad, hko]
            exact if_pos h
          rw [if_pos hb] at hinv
          refine awp_skip ?_
          refine awp_region ?_
          refine al_d rfl rfl rfl (by exact opd_add rfl rfl rfl (by exact w64 (by omega) (by omega))) ?_
          refine al_d rfl rfl rfl (by exact opd_move rfl rfl) ?_
          refine al_nil ?_
          -- end of a round
          exact ⟨k + 1, ⟨by omega, hinv⟩, by omega, Ent.e0 ⟨⟨_, rfl, rfl⟩, ⟨_, rfl, rfl⟩, ⟨_, rfl, rfl⟩, ⟨_, rfl, rfl⟩, ⟨_, rfl, rfl⟩, trivial⟩⟩
    · have hge : k = o.refs.length := by have := of_decide_eq_false hc1; omega
      subst hge
      rw [List.drop_length, refErr] at hinv
      refine awp_exit ?_
      refine awp_seq ?_
      refine awp_region ?_
      refine al_d rfl rfl rfl (by exact opd_assign rfl rfl) ?_
      refine al_nil ?_
      refine awp_ret ?_
      -- return
      refine aret1 (H' := H) (.inr rfl) rfl (rval_tmp rfl) (Fin.pops [(963, bx 6 30 ((encObj o).map .pv))] (by simp) hc (by simp [h63])) ⟨by rw [hinv], rfl⟩
def closedB (m : List GObj) : Bool := gMap m && m.all (fun o => decide (refErr m o.kind 0 o.refs = 0))
abbrev cH (m : List GObj) : Heap := [(14, cRow m), (12, kob m)]
theorem of_c (m : List GObj) (hm : okM m) (hcl : closedB m = true) : ACalls Tryz.prog 41 [.agg [.pv (slObjs m)]] [] (fun r H' => r = .ref 14 0 0 0 ∧ H' = cH m) := by
  have hml : (m.map encObj).length = m.length := List.length_map _
  rw [closedB, Bool.and_eq_true, List.all_eq_true] at hcl
  obtain ⟨hg, hall⟩ := hcl
  have hu := (gMap_iff.1 hg).2.1
  have hl := hm.1
  refine ACalls.body Tryz.func41 rfl Tryz.ntmps41 (Nat.le_of_ble_eq_true rfl) ?_
  refine awp_seq ?_
  refine awp_region ?_
  refine al_d rfl rfl rfl (by exact opd_box (id := 1) rfl rfl rfl rfl rfl) ?_
  refine al_d rfl rfl rfl (by exact opd_assign rfl rfl) ?_
  refine al_nil ?_
  refine awp_seq ?_
  refine awp_seq ?_
  refine awp_region ?_
  refine al_d rfl rfl rfl (by exact (by exact opd_loadn_ref rfl Tryz.isAgg24 Tryz.sizeOf24 rfl rfl rfl rfl (by simp only [List.drop_succ_cons, List.drop_zero, List.take_succ_cons, List.take_zero, List.take_nil, List.map_cons, List.map_nil, List.set_cons_zero, List.set_cons_succ, List.cons_append, List.nil_append, encTag, encObj, encStr]; rfl) rfl)) ?_
  refine al_d rfl rfl rfl (by exact opr_call rfl rfl Tryz.call15 rfl (atlasValid_c m _ hm)) ?_
  refine al_d rfl rfl rfl (by exact opd_not rfl rfl) ?_
  refine al_nil ?_
  refine awp_cond rfl (fun hc1 => ?_) (fun hc1 => ?_)
  -- cond 1
  · have h : (!gMap m) = true := hc1
    rw [hg] at h; cases h
  · skip
    refine awp_skip ?_
    refine awp_seq ?_
    refine awp_region ?_
    refine al_d rfl rfl rfl (by exact (by exact opd_loadn_ref rfl Tryz.isAgg24 Tryz.sizeOf24 rfl rfl rfl rfl (by simp only [List.drop_succ_cons, List.drop_zero, List.take_succ_cons, List.take_zero, List.take_nil, List.map_cons, List.map_nil, List.set_cons_zero, List.set_cons_succ, List.cons_append, List.nil_append, encTag, encObj, encStr]; rfl) rfl)) ?_
    refine al_d rfl rfl rfl (by exact opd_makeMap (id := 12) strK rfl rfl) ?_
    refine al_d rfl rfl rfl (by exact x_build rfl bo83 rfl rfl) ?_
    refine al_d rfl rfl rfl (by exact opd_box (id := 14) rfl rfl rfl rfl rfl) ?_
    refine al_d rfl rfl rfl (by exact opd_assign rfl rfl) ?_
    refine al_nil ?_
    refine awp_seq ?_
    refine awp_seq ?_
    refine awp_region ?_
    refine al_d rfl rfl rfl (by exact (by exact opd_field_ref rfl fo24_0 rfl rfl rfl rfl)) ?_
    refine al_d rfl rfl rfl (by exact (by exact opd_load1_ref rfl Tryz.isAgg22 rfl rfl rfl rfl rfl)) ?_
    refine al_d rfl rfl rfl (by exact (by exact opd_len_sl rfl Tryz.underlying22 rfl)) ?_
    refine al_d rfl rfl rfl (by exact opd_move rfl rfl) ?_
    refine al_nil ?_
    refine awp_block ?_
    -- loop
    refine awp_loop (σ := Nat) (fun k => ([(1, .ref 1 0 0 0), (3, .ref 14 0 0 0), (16, .pv (slObjs m)), (17, iv ((m.map encObj).length : Int)), (18, iv (k : Int))], [(14, cRow m), (12, kob (m.take k)), (1, bx 1 24 [.pv (slObjs m)])])) (fun k => k ≤ m.length) (fun k => m.length - k) 0 (by omega) ?_ ?_
    · exact (Ent.wk ⟨⟨_, rfl, rfl⟩, (by (simp; rfl)), ⟨_, rfl, rfl⟩, (by (simp; rfl)), ⟨_, rfl, rfl⟩, (by (simp; done)), ⟨_, rfl, rfl⟩, (by (simp; done)), ⟨_, rfl, rfl⟩, (by (simp; done)), trivial⟩ ⟨⟨_, rfl, rfl⟩, (by (simp; rfl)), ⟨_, rfl, rfl⟩, (by exact kob_clo _ _), ⟨_, rfl, rfl⟩, (by (simp; done)), trivial⟩ trivial)
    · intro k hk
      refine awp_seq ?_
      refine awp_region ?_
      refine al_d rfl rfl rfl (by exact opd_lss rfl rfl rfl) ?_
      refine al_nil ?_
      refine awp_seq ?_
      refine awp_cond rfl (fun hc2 => ?_) (fun hc2 => ?_)
      -- cond 2
      · have hlt : k < m.length := by have := of_decide_eq_true hc2; omega
        obtain ⟨o, ho⟩ := get_of_lt hlt
        have hi := map_get (f := encObj) ho
        refine awp_skip ?_
        refine awp_seq ?_
        refine awp_block ?_
        refine awp_seq ?_
        refine awp_region ?_
        refine al_d rfl rfl rfl (by exact (by exact x_index_pad rfl so22 rfl rfl (by omega) (by exact Int.toNat_natCast _) (by assumption) rfl)) ?_
        refine al_d rfl rfl rfl (by exact (by exact opd_loadn_pad rfl Tryz.isAgg30 Tryz.sizeOf30 rfl (by omega) (by simp only [List.drop_succ_cons, List.drop_zero, List.take_succ_cons, List.take_zero, List.take_nil, List.map_cons, List.map_nil, List.set_cons_zero, List.set_cons_succ, List.cons_append, List.nil_append, encTag, encObj, encStr]; rfl) rfl)) ?_
        refine al_d rfl rfl rfl (by exact x_alloc (id := 5) rfl zo30 rfl rfl) ?_
        refine al_n rfl rfl (by exact (by exact x_store_all rfl Tryz.sizeOf30 rfl rfl rfl rfl rfl rfl rfl rfl)) ?_
        refine al_nil ?_
        refine awp_drawc follows ?_
        refine dc_cons (r := ⟨_, some [14], []⟩) (DStep.plain rfl (fun H1 hH => by exact opd_move rfl rfl)) rfl ?_
        refine dc_cons (r := ⟨_, some [14], []⟩) (DStep.plain rfl (fun H1 hH => by exact (by exact opd_nilCheck_ref rfl rfl ((hH _ rfl).trans rfl) rfl))) rfl ?_
        refine dc_cons (r := ⟨_, some [14], []⟩) (DStep.plain rfl (fun H1 hH => by exact (by exact opd_field_ref rfl fo83_1 rfl ((hH _ rfl).trans rfl) rfl rfl))) rfl ?_
        refine dc_cons (r := ⟨_, some [14], []⟩) (DStep.plain rfl (fun H1 hH => by exact (by exact opd_load1_ref rfl Tryz.isAgg81 rfl ((hH _ rfl).trans rfl) rfl rfl rfl))) rfl ?_
        refine dc_cons (r := ⟨_, some [5], []⟩) (DStep.plain rfl (fun H1 hH => by exact (by exact opd_field_ref rfl fo30_0 rfl ((hH _ rfl).trans rfl) rfl rfl))) rfl ?_
        refine dc_cons (r := ⟨_, some [5], []⟩) (DStep.plain rfl (fun H1 hH => by exact (by exact opd_load1_ref rfl Tryz.isAgg9 rfl ((hH _ rfl).trans rfl) rfl rfl rfl))) rfl ?_
        refine dc_cons (r := ⟨_, some [5], []⟩) (DStep.plain rfl (fun H1 hH => by exact (by exact opd_field_ref rfl fo30_1 rfl ((hH _ rfl).trans rfl) rfl rfl))) rfl ?_
        refine dc_cons (r := ⟨_, some [5], []⟩) (DStep.plain rfl (fun H1 hH => by exact (by exact opd_load1_ref rfl Tryz.isAgg3 rfl ((hH _ rfl).trans rfl) rfl rfl rfl))) rfl ?_
        refine dc_cons (r := ⟨_, some [12], [_]⟩) (DStep.plain rfl (fun H1 hH => by exact x_mapUpdate (κ := strK) (.inl rfl) Tryz.underlying81 Tryz.underlying9 rfl ((hH 12 rfl).trans rfl) rfl rfl rfl rfl rfl (kM_put hu ho))) rfl ?_
        refine dc_nil ⟨by kernel_rfl, ?_⟩
        refine awp_region ?_
        refine al_d rfl rfl rfl (by exact opd_add rfl rfl rfl (by exact w64 (by omega) (by omega))) ?_
        refine al_d rfl rfl rfl (by exact opd_move rfl rfl) ?_
        refine al_nil ?_
        -- end of a round
        exact ⟨k + 1, by omega, by omega, (Ent.wk ⟨⟨_, rfl, rfl⟩, (by (simp; rfl)), ⟨_, rfl, rfl⟩, (by (simp; rfl)), ⟨_, rfl, rfl⟩, (by (simp; done)), ⟨_, rfl, rfl⟩, (by (simp; done)), ⟨_, rfl, rfl⟩, (by (simp; done)), trivial⟩ ⟨⟨_, rfl, rfl⟩, (by (simp; rfl)), ⟨_, rfl, rfl⟩, (by exact kob_clo _ _), ⟨_, rfl, rfl⟩, (by (simp; done)), trivial⟩ trivial)⟩
      · have hge : k = m.length := by have := of_decide_eq_false hc2; omega
        subst hge
        rw [List.take_length]
        refine awp_exit ?_
        refine awp_seq ?_
        refine awp_seq ?_
        refine awp_region ?_
        refine al_d rfl rfl rfl (by exact (by exact opd_field_ref rfl fo24_0 rfl rfl rfl rfl)) ?_
        refine al_d rfl rfl rfl (by exact (by exact opd_load1_ref rfl Tryz.isAgg22 rfl rfl rfl rfl rfl)) ?_
        refine al_d rfl rfl rfl (by exact (by exact opd_len_sl rfl Tryz.underlying22 rfl)) ?_
        refine al_d rfl rfl rfl (by exact opd_move rfl rfl) ?_
        refine al_nil ?_
        refine awp_block ?_
        -- loop
        refine awp_loop (σ := Nat) (fun k => ([(3, .ref 14 0 0 0), (32, .pv (slObjs m)), (33, iv ((m.map encObj).length : Int)), (34, iv (k : Int))], [(14, cRow m), (12, kob m)])) (fun k => k ≤ m.length) (fun k => m.length - k) 0 (by omega) ?_ ?_
        · exact (Ent.wk ⟨⟨_, rfl, rfl⟩, (by (simp; rfl)), ⟨_, rfl, rfl⟩, (by (simp; done)), ⟨_, rfl, rfl⟩, (by (simp; done)), ⟨_, rfl, rfl⟩, (by (simp; done)), trivial⟩ ⟨⟨_, rfl, rfl⟩, (by (simp; rfl)), ⟨_, rfl, rfl⟩, (by exact kob_clo _ _), trivial⟩ trivial)
        · intro k hk
          refine awp_seq ?_
          refine awp_region ?_
          refine al_d rfl rfl rfl (by exact opd_lss rfl rfl rfl) ?_
          refine al_nil ?_
          refine awp_seq ?_
          refine awp_cond rfl (fun hc3 => ?_) (fun hc3 => ?_)
          -- cond 3
          · have hlt : k < m.length := by have := of_decide_eq_true hc3; omega
            obtain ⟨o, ho⟩ := get_of_lt hlt
            have hi := map_get (f := encObj) ho
            have hoo := hm.2 o (List.mem_of_getElem? ho)
            have hr0 : refErr m o.kind 0 o.refs = 0 := of_decide_eq_true (hall o (List.mem_of_getElem? ho))
            refine awp_skip ?_
            refine awp_seq ?_
            refine awp_block ?_
            refine awp_seq ?_
            refine awp_region ?_
            refine al_d rfl rfl rfl (by exact (by exact x_index_pad rfl so22 rfl rfl (by omega) (by exact Int.toNat_natCast _) (by assumption) rfl)) ?_
            refine al_d rfl rfl rfl (by exact (by exact opd_loadn_pad rfl Tryz.isAgg30 Tryz.sizeOf30 rfl (by omega) (by simp only [List.drop_succ_cons, List.drop_zero, List.take_succ_cons, List.take_zero, List.take_nil, List.map_cons, List.map_nil, List.set_cons_zero, List.set_cons_succ, List.cons_append, List.nil_append, encTag, encObj, encStr]; rfl) rfl)) ?_
            refine al_d rfl rfl rfl (by exact x_alloc (id := 7) rfl zo30 rfl rfl) ?_
            refine al_n rfl rfl (by exact (by exact x_store_all rfl Tryz.sizeOf30 rfl rfl rfl rfl rfl rfl rfl rfl)) ?_
            refine al_nil ?_
            refine awp_seq ?_
            refine awp_region ?_
            refine al_d rfl rfl rfl (by exact opd_move rfl rfl) ?_
            refine al_d rfl rfl rfl (by exact (by exact opd_loadn_ref rfl Tryz.isAgg30 Tryz.sizeOf30 rfl rfl rfl rfl (by simp only [List.drop_succ_cons, List.drop_zero, List.take_succ_cons, List.take_zero, List.take_nil, List.map_cons, List.map_nil, List.set_cons_zero, List.set_cons_succ, List.cons_append, List.nil_append, encTag, encObj, encStr]; rfl) rfl)) ?_
            refine al_d rfl rfl rfl (by exact opr_call rfl rfl Tryz.call84 rfl (refs_c m o _ rfl rfl rfl (Closed.ofL ⟨(by (simp; done)), (by (simp; done)), (by (simp; rfl)), (by exact kob_clo _ _), trivial⟩) hoo.2.2.1)) ?_
            refine al_d rfl rfl rfl (by exact opd_neq rfl rfl rfl) ?_
            refine al_nil ?_
            refine awp_cond rfl (fun hc4 => ?_) (fun hc4 => ?_)
            -- cond 4
            · rw [hr0] at hc4; cases hc4
            · skip
              refine awp_skip ?_
              refine awp_region ?_
              refine al_d rfl rfl rfl (by exact opd_add rfl rfl rfl (by exact w64 (by omega) (by omega))) ?_
              refine al_d rfl rfl rfl (by exact opd_move rfl rfl) ?_
              refine al_nil ?_
              -- end of a round
              exact ⟨k + 1, by omega, by omega, (Ent.wk ⟨⟨_, rfl, rfl⟩, (by (simp; rfl)), ⟨_, rfl, rfl⟩, (by (simp; done)), ⟨_, rfl, rfl⟩, (by (simp; done)), ⟨_, rfl, rfl⟩, (by (simp; done)), trivial⟩ ⟨⟨_, rfl, rfl⟩, (by (simp; rfl)), ⟨_, rfl, rfl⟩, (by exact kob_clo _ _), trivial⟩ trivial)⟩
          · skip
            refine awp_exit ?_
            refine awp_seq ?_
            refine awp_region ?_
            refine al_d rfl rfl rfl (by exact opd_move rfl rfl) ?_
            refine al_d rfl rfl rfl (by exact opd_assign rfl rfl) ?_
            refine al_nil ?_
            refine awp_ret ?_
            -- return
            refine aret1 (H' := cH m) (.inr rfl) rfl (rval_tmp rfl) (Fin.wk (by (simp; rfl)) ⟨⟨_, rfl, rfl⟩, (by (simp; rfl)), ⟨_, rfl, rfl⟩, (by exact kob_clo _ _), trivial⟩ trivial) ⟨rfl, rfl⟩
theorem ofN_c (m : List GObj) (hm : okM m) (hcl : closedB m = false) : ACalls Tryz.prog 41 [.agg [.pv (slObjs m)]] [] (fun r H' => r = .pv .nilp ∧ H' = []) := by
  have hml : (m.map encObj).length = m.length := List.length_map _
  have hl := hm.1
  refine ACalls.body Tryz.func41 rfl Tryz.ntmps41 (Nat.le_of_ble_eq_true rfl) ?_
  refine awp_seq ?_
  refine awp_region ?_
  refine al_d rfl rfl rfl (by exact opd_box (id := 1) rfl rfl rfl rfl rfl) ?_
  refine al_d rfl rfl rfl (by exact opd_assign rfl rfl) ?_
  refine al_nil ?_
  refine awp_seq ?_
  refine awp_seq ?_
  refine awp_region ?_
  refine al_d rfl rfl rfl (by exact (by exact opd_loadn_ref rfl Tryz.isAgg24 Tryz.sizeOf24 rfl rfl rfl rfl (by simp only [List.drop_succ_cons, List.drop_zero, List.take_succ_cons, List.take_zero, List.take_nil, List.map_cons, List.map_nil, List.set_cons_zero, List.set_cons_succ, List.cons_append, List.nil_append, encTag, encObj, encStr]; rfl) rfl)) ?_
  refine al_d rfl rfl rfl (by exact opr_call rfl rfl Tryz.call15 rfl (atlasValid_c m _ hm)) ?_
  refine al_d rfl rfl rfl (by exact opd_not rfl rfl) ?_
  refine al_nil ?_
  refine awp_cond rfl (fun hc1 => ?_) (fun hc1 => ?_)
  -- cond 1
  · skip
    refine awp_seq ?_
    refine awp_region ?_
    refine al_d rfl rfl rfl (by exact opd_assign rfl rfl) ?_
    refine al_nil ?_
    refine awp_ret ?_
    -- return
    refine aret1 (H' := []) (.inr rfl) rfl (rval_tmp rfl) (Fin.wk (by (simp; done)) trivial trivial) ⟨rfl, rfl⟩
  · have hg : gMap m = true := by
      have h : (!gMap m) = false := hc1
      simpa using h
    have hu := (gMap_iff.1 hg).2.1
    refine awp_skip ?_
    refine awp_seq ?_
    refine awp_region ?_
    refine al_d rfl rfl rfl (by exact (by exact opd_loadn_ref rfl Tryz.isAgg24 Tryz.sizeOf24 rfl rfl rfl rfl (by simp only [List.drop_succ_cons, List.drop_zero, List.take_succ_cons, List.take_zero, List.take_nil, List.map_cons, List.map_nil, List.set_cons_zero, List.set_cons_succ, List.cons_append, List.nil_append, encTag, encObj, encStr]; rfl) rfl)) ?_
    refine al_d rfl rfl rfl (by exact opd_makeMap (id := 12) strK rfl rfl) ?_
    refine al_d rfl rfl rfl (by exact x_build rfl bo83 rfl rfl) ?_
    refine al_d rfl rfl rfl (by exact opd_box (id := 14) rfl rfl rfl rfl rfl) ?_
    refine al_d rfl rfl rfl (by exact opd_assign rfl rfl) ?_
    refine al_nil ?_
    refine awp_seq ?_
    refine awp_seq ?_
    refine awp_region ?_
    refine al_d rfl rfl rfl (by exact (by exact opd_field_ref rfl fo24_0 rfl rfl rfl rfl)) ?_
    refine al_d rfl rfl rfl (by exact (by exact opd_load1_ref rfl Tryz.isAgg22 rfl rfl rfl rfl rfl)) ?_
    refine al_d rfl rfl rfl (by exact (by exact opd_len_sl rfl Tryz.underlying22 rfl)) ?_
    refine al_d rfl rfl rfl (by exact opd_move rfl rfl) ?_
    refine al_nil ?_
    refine awp_block ?_
    -- loop
    refine awp_loop (σ := Nat) (fun k => ([(1, .ref 1 0 0 0), (3, .ref 14 0 0 0), (16, .pv (slObjs m)), (17, iv ((m.map encObj).length : Int)), (18, iv (k : Int))], [(14, cRow m), (12, kob (m.take k)), (1, bx 1 24 [.pv (slObjs m)])])) (fun k => k ≤ m.length) (fun k => m.length - k) 0 (by omega) ?_ ?_
    · exact (Ent.wk ⟨⟨_, rfl, rfl⟩, (by (simp; rfl)), ⟨_, rfl, rfl⟩, (by (simp; rfl)), ⟨_, rfl, rfl⟩, (by (simp; done)), ⟨_, rfl, rfl⟩, (by (simp; done)), ⟨_, rfl, rfl⟩, (by (simp; done)), trivial⟩ ⟨⟨_, rfl, rfl⟩, (by (simp; rfl)), ⟨_, rfl, rfl⟩, (by exact kob_clo _ _), ⟨_, rfl, rfl⟩, (by (simp; done)), trivial⟩ trivial)
    · intro k hk
      refine awp_seq ?_
      refine awp_region ?_
      refine al_d rfl rfl rfl (by exact opd_lss rfl rfl rfl) ?_
      refine al_nil ?_
      refine awp_seq ?_
      refine awp_cond rfl (fun hc2 => ?_) (fun hc2 => ?_)
      -- cond 2
      · have hlt : k < m.length := by have := of_decide_eq_true hc2; omega
        obtain ⟨o, ho⟩ := get_of_lt hlt
        have hi := map_get (f := encObj) ho
        refine awp_skip ?_
        refine awp_seq ?_
        refine awp_block ?_
        refine awp_seq ?_
        refine awp_region ?_
        refine al_d rfl rfl rfl (by exact (by exact x_index_pad rfl so22 rfl rfl (by omega) (by exact Int.toNat_natCast _) (by assumption) rfl)) ?_
        refine al_d rfl rfl rfl (by exact (by exact opd_loadn_pad rfl Tryz.isAgg30 Tryz.sizeOf30 rfl (by omega) (by simp only [List.drop_succ_cons, List.drop_zero, List.take_succ_cons, List.take_zero, List.take_nil, List.map_cons, List.map_nil, List.set_cons_zero, List.set_cons_succ, List.cons_append, List.nil_append, encTag, encObj, encStr]; rfl) rfl)) ?_
        refine al_d rfl rfl rfl (by exact x_alloc (id := 5) rfl zo30 rfl rfl) ?_
        refine al_n rfl rfl (by exact (by exact x_store_all rfl Tryz.sizeOf30 rfl rfl rfl rfl rfl rfl rfl rfl)) ?_
        refine al_nil ?_
        refine awp_drawc follows ?_
        refine dc_cons (r := ⟨_, some [14], []⟩) (DStep.plain rfl (fun H1 hH => by exact opd_move rfl rfl)) rfl ?_
        refine dc_cons (r := ⟨_, some [14], []⟩) (DStep.plain rfl (fun H1 hH => by exact (by exact opd_nilCheck_ref rfl rfl ((hH _ rfl).trans rfl) rfl))) rfl ?_
        refine dc_cons (r := ⟨_, some [14], []⟩) (DStep.plain rfl (fun H1 hH => by exact (by exact opd_field_ref rfl fo83_1 rfl ((hH _ rfl).trans rfl) rfl rfl))) rfl ?_
        refine dc_cons (r := ⟨_, some [14], []⟩) (DStep.plain rfl (fun H1 hH => by exact (by exact opd_load1_ref rfl Tryz.isAgg81 rfl ((hH _ rfl).trans rfl) rfl rfl rfl))) rfl ?_
        refine dc_cons (r := ⟨_, some [5], []⟩) (DStep.plain rfl (fun H1 hH => by exact (by exact opd_field_ref rfl fo30_0 rfl ((hH _ rfl).trans rfl) rfl rfl))) rfl ?_
        refine dc_cons (r := ⟨_, some [5], []⟩) (DStep.plain rfl (fun H1 hH => by exact (by exact opd_load1_ref rfl Tryz.isAgg9 rfl ((hH _ rfl).trans rfl) rfl rfl rfl))) rfl ?_
        refine dc_cons (r := ⟨_, some [5], []⟩) (DStep.plain rfl (fun H1 hH => by exact (by exact opd_field_ref rfl fo30_1 rfl ((hH _ rfl).trans rfl) rfl rfl))) rfl ?_
        refine dc_cons (r := ⟨_, some [5], []⟩) (DStep.plain rfl (fun H1 hH => by exact (by exact opd_load1_ref rfl Tryz.isAgg3 rfl ((hH _ rfl).trans rfl) rfl rfl rfl))) rfl ?_
        refine dc_cons (r := ⟨_, some [12], [_]⟩) (DStep.plain rfl (fun H1 hH => by exact x_mapUpdate (κ := strK) (.inl rfl) Tryz.underlying81 Tryz.underlying9 rfl ((hH 12 rfl).trans rfl) rfl rfl rfl rfl rfl (kM_put hu ho))) rfl ?_
        refine dc_nil ⟨by kernel_rfl, ?_⟩
        refine awp_region ?_
        refine al_d rfl rfl rfl (by exact opd_add rfl rfl rfl (by exact w64 (by omega) (by omega))) ?_
        refine al_d rfl rfl rfl (by exact opd_move rfl rfl) ?_
        refine al_nil ?_
        -- end of a round
        exact ⟨k + 1, by omega, by omega, (Ent.wk ⟨⟨_, rfl, rfl⟩, (by (simp; rfl)), ⟨_, rfl, rfl⟩, (by (simp; rfl)), ⟨_, rfl, rfl⟩, (by (simp; done)), ⟨_, rfl, rfl⟩, (by (simp; done)), ⟨_, rfl, rfl⟩, (by (simp; done)), trivial⟩ ⟨⟨_, rfl, rfl⟩, (by (simp; rfl)), ⟨_, rfl, rfl⟩, (by exact kob_clo _ _), ⟨_, rfl, rfl⟩, (by (simp; done)), trivial⟩ trivial)⟩
      · have hge : k = m.length := by have := of_decide_eq_false hc2; omega
        subst hge
        rw [List.take_length]
        refine awp_exit ?_
        refine awp_seq ?_
        refine awp_seq ?_
        refine awp_region ?_
        refine al_d rfl rfl rfl (by exact (by exact opd_field_ref rfl fo24_0 rfl rfl rfl rfl)) ?_
        refine al_d rfl rfl rfl (by exact (by exact opd_load1_ref rfl Tryz.isAgg22 rfl rfl rfl rfl rfl)) ?_
        refine al_d rfl rfl rfl (by exact (by exact opd_len_sl rfl Tryz.underlying22 rfl)) ?_
        refine al_d rfl rfl rfl (by exact opd_move rfl rfl) ?_
        refine al_nil ?_
        refine awp_block ?_
        -- loop
        refine awp_loop (σ := Nat) (fun k => ([(3, .ref 14 0 0 0), (32, .pv (slObjs m)), (33, iv ((m.map encObj).length : Int)), (34, iv (k : Int))], [(14, cRow m), (12, kob m)])) (fun k => k ≤ m.length ∧ ∀ j, j < k → ∀ b, m[j]? = some b → (!decide (refErr m b.kind 0 b.refs = 0)) = false) (fun k => m.length - k) 0 ⟨by omega, by omega⟩ ?_ ?_
        · exact (Ent.wk ⟨⟨_, rfl, rfl⟩, (by (simp; rfl)), ⟨_, rfl, rfl⟩, (by (simp; done)), ⟨_, rfl, rfl⟩, (by (simp; done)), ⟨_, rfl, rfl⟩, (by (simp; done)), trivial⟩ ⟨⟨_, rfl, rfl⟩, (by (simp; rfl)), ⟨_, rfl, rfl⟩, (by exact kob_clo _ _), trivial⟩ trivial)
        · rintro k ⟨hk, hno⟩
          refine awp_seq ?_
          refine awp_region ?_
          refine al_d rfl rfl rfl (by exact opd_lss rfl rfl rfl) ?_
          refine al_nil ?_
          refine awp_seq ?_
          refine awp_cond rfl (fun hc3 => ?_) (fun hc3 => ?_)
          -- cond 3
          · have hlt : k < m.length := by have := of_decide_eq_true hc3; omega
            obtain ⟨o, ho⟩ := get_of_lt hlt
            have hi := map_get (f := encObj) ho
            have hoo := hm.2 o (List.mem_of_getElem? ho)
            refine awp_skip ?_
            refine awp_seq ?_
            refine awp_block ?_
            refine awp_seq ?_
            refine awp_region ?_
            refine al_d rfl rfl rfl (by exact (by exact x_index_pad rfl so22 rfl rfl (by omega) (by exact Int.toNat_natCast _) (by assumption) rfl)) ?_
            refine al_d rfl rfl rfl (by exact (by exact opd_loadn_pad rfl Tryz.isAgg30 Tryz.sizeOf30 rfl (by omega) (by simp only [List.drop_succ_cons, List.drop_zero, List.take_succ_cons, List.take_zero, List.take_nil, List.map_cons, List.map_nil, List.set_cons_zero, List.set_cons_succ, List.cons_append, List.nil_append, encTag, encObj, encStr]; rfl) rfl)) ?_
            refine al_d rfl rfl rfl (by exact x_alloc (id := 7) rfl zo30 rfl rfl) ?_
            refine al_n rfl rfl (by exact (by exact x_store_all rfl Tryz.sizeOf30 rfl rfl rfl rfl rfl rfl rfl rfl)) ?_
            refine al_nil ?_
            refine awp_seq ?_
            refine awp_region ?_
            refine al_d rfl rfl rfl (by exact opd_move rfl rfl) ?_
            refine al_d rfl rfl rfl (by exact (by exact opd_loadn_ref rfl Tryz.isAgg30 Tryz.sizeOf30 rfl rfl rfl rfl (by simp only [List.drop_succ_cons, List.drop_zero, List.take_succ_cons, List.take_zero, List.take_nil, List.map_cons, List.map_nil, List.set_cons_zero, List.set_cons_succ, List.cons_append, List.nil_append, encTag, encObj, encStr]; rfl) rfl)) ?_
            refine al_d rfl rfl rfl (by exact opr_call rfl rfl Tryz.call84 rfl (refs_c m o _ rfl rfl rfl (Closed.ofL ⟨(by (simp; done)), (by (simp; done)), (by (simp; rfl)), (by exact kob_clo _ _), trivial⟩) hoo.2.2.1)) ?_
            refine al_d rfl rfl rfl (by exact opd_neq rfl rfl rfl) ?_
            refine al_nil ?_
            refine awp_cond rfl (fun hc4 => ?_) (fun hc4 => ?_)
            -- cond 4
            · skip
              refine awp_seq ?_
              refine awp_region ?_
              refine al_d rfl rfl rfl (by exact opd_assign rfl rfl) ?_
              refine al_nil ?_
              refine awp_ret ?_
              -- return
              refine aret1 (H' := []) (.inr rfl) rfl (rval_tmp rfl) (Fin.wk (by (simp; done)) trivial trivial) ⟨rfl, rfl⟩
            · skip
              refine awp_skip ?_
              refine awp_region ?_
              refine al_d rfl rfl rfl (by exact opd_add rfl rfl rfl (by exact w64 (by omega) (by omega))) ?_
              refine al_d rfl rfl rfl (by exact opd_move rfl rfl) ?_
              refine al_nil ?_
              -- end of a round
              exact ⟨k + 1, ⟨by omega, pre_succ hno ho hc4⟩, by omega, (Ent.wk ⟨⟨_, rfl, rfl⟩, (by (simp; rfl)), ⟨_, rfl, rfl⟩, (by (simp; done)), ⟨_, rfl, rfl⟩, (by (simp; done)), ⟨_, rfl, rfl⟩, (by (simp; done)), trivial⟩ ⟨⟨_, rfl, rfl⟩, (by (simp; rfl)), ⟨_, rfl, rfl⟩, (by exact kob_clo _ _), trivial⟩ trivial)⟩
          · have hge : k = m.length := by have := of_decide_eq_false hc3; omega
            subst hge
            exfalso
            have : closedB m = true := by
              rw [closedB, hg, Bool.true_and, List.all_eq_true]
              intro o ho
              obtain ⟨j, hj⟩ := List.mem_iff_getElem?.1 ho
              have := hno j (List.getElem?_eq_some_iff.1 hj).1 o hj
              simpa using this
            rw [this] at hcl
            cases hcl
theorem ofF_c (m : List GObj) (H : Heap) (hm : okM m) (hcl : closedB m = true) (h14 : H.get 14 = none) (h12 : H.get 12 = none) : ACalls Tryz.prog 41 [.agg [.pv (slObjs m)]] H (fun r H' => r = .ref 14 0 0 0 ∧ H' = cH m ++ H) :=
  ACalls.frame (of_c m hm hcl) (fun _ _ h => by cases h) (fun _ _ h => by cases h) (by simp) (fun id hi => by
    right
    have : id = 14 ∨ id = 12 := by
      simp only [Heap.get] at hi
      cases e1 : Nat.beq 14 id with
      | true => exact .inl (Nat.eq_of_beq_eq_true e1).symm
      | false =>
        cases e2 : Nat.beq 12 id with
        | true => exact .inr (Nat.eq_of_beq_eq_true e2).symm
        | false => rw [e1, e2] at hi; cases hi
    rcases this with rfl | rfl
    · exact h14
    · exact h12)
theorem allNil_c (m : List GObj) (H : Heap) (hm : okM m) : ACalls Tryz.prog 20 [.agg [.pv (slObjs m)], lv []] H (fun r H' => r = .tup [.agg [.pv (slObjs (if closedB m then m else []))], iv (-1), iv (if closedB m then 0 else 1)] ∧ H' = H) := by
  refine ACalls.pure ?_ (by simp) H
  cases hcl : closedB m with
  | true =>
    simp only [if_true]
    refine ACalls.body Tryz.func20 rfl Tryz.ntmps20 (Nat.le_of_ble_eq_true rfl) ?_
    refine awp_seq ?_
    refine awp_region ?_
    refine al_d rfl rfl rfl (by exact opd_box (id := 2) rfl rfl rfl rfl rfl) ?_
    refine al_d rfl rfl rfl (by exact x_alloc (id := 4) rfl zo24 rfl rfl) ?_
    refine al_d rfl rfl rfl (by exact opd_assign rfl rfl) ?_
    refine al_d rfl rfl rfl (by exact opd_assign rfl rfl) ?_
    refine al_nil ?_
    refine awp_seq ?_
    refine awp_region ?_
    refine al_d rfl rfl rfl (by exact (by exact opd_loadn_ref rfl Tryz.isAgg24 Tryz.sizeOf24 rfl rfl rfl rfl (by simp only [List.drop_succ_cons, List.drop_zero, List.take_succ_cons, List.take_zero, List.take_nil, List.map_cons, List.map_nil, List.set_cons_zero, List.set_cons_succ, List.cons_append, List.nil_append, encTag, encObj, encStr]; rfl) rfl)) ?_
    refine al_d rfl rfl rfl (by exact opr_call rfl rfl Tryz.call41 rfl (ofF_c m _ hm hcl rfl rfl)) ?_
    refine al_d rfl rfl rfl (by exact opd_assign rfl rfl) ?_
    refine al_nil ?_
    refine awp_seq ?_
    refine awp_seq ?_
    refine awp_region ?_
    refine al_d rfl rfl rfl (by exact opd_move rfl rfl) ?_
    refine al_d rfl rfl rfl (by exact (by exact opd_peq_ref rfl Tryz.underlying72 rfl rfl rfl rfl)) ?_
    refine al_nil ?_
    refine awp_cond rfl (fun hc1 => ?_) (fun hc1 => ?_)
    -- cond 1
    · cases hc1
    · skip
      refine awp_skip ?_
      refine awp_seq ?_
      refine awp_seq ?_
      refine awp_region ?_
      refine al_d rfl rfl rfl (by exact opd_move rfl rfl) ?_
      refine al_d rfl rfl rfl (by exact (by exact opd_len_sl rfl Tryz.underlying46 rfl)) ?_
      refine al_d rfl rfl rfl (by exact opd_move rfl rfl) ?_
      refine al_nil ?_
      refine awp_block ?_
      -- loop
      refine awp_loop (σ := Unit) (fun _ => ([(4, .ref 4 0 0 0), (7, .ref 14 0 0 0), (18, iv 0), (19, iv 0)], [(14, cRow m), (12, kob m), (4, bx 1 24 [lv []])])) (fun _ => True) (fun _ => 0) () trivial ?_ ?_
      · exact (Ent.wk ⟨⟨_, rfl, rfl⟩, (by (simp; rfl)), ⟨_, rfl, rfl⟩, (by (simp; rfl)), ⟨_, rfl, rfl⟩, (by (simp; done)), ⟨_, rfl, rfl⟩, (by (simp; done)), trivial⟩ ⟨⟨_, rfl, rfl⟩, (by (simp; rfl)), ⟨_, rfl, rfl⟩, (by exact kob_clo _ _), ⟨_, rfl, rfl⟩, (by (simp; done)), trivial⟩ trivial)
      · intro _ _
        refine awp_seq ?_
        refine awp_region ?_
        refine al_d rfl rfl rfl (by exact opd_lss rfl rfl rfl) ?_
        refine al_nil ?_
        refine awp_seq ?_
        refine awp_cond rfl (fun hc2 => ?_) (fun hc2 => ?_)
        -- cond 2
        · cases hc2
        · skip
          refine awp_exit ?_
          refine awp_seq ?_
          refine awp_region ?_
          refine al_d rfl rfl rfl (by exact opd_move rfl rfl) ?_
          refine al_d rfl rfl rfl (by exact (by exact opd_nilCheck_ref rfl rfl rfl rfl)) ?_
          refine al_d rfl rfl rfl (by exact (by exact opd_field_ref rfl fo83_0 rfl rfl rfl rfl)) ?_
          refine al_d rfl rfl rfl (by exact (by exact opd_loadn_ref rfl Tryz.isAgg24 Tryz.sizeOf24 rfl rfl rfl rfl rfl rfl)) ?_
          refine al_n rfl rfl (by exact (by exact x_store_all rfl Tryz.sizeOf24 rfl rfl rfl rfl rfl rfl rfl rfl)) ?_
          refine al_d rfl rfl rfl (by exact opd_assign rfl rfl) ?_
          refine al_d rfl rfl rfl (by exact opd_assign rfl rfl) ?_
          refine al_nil ?_
          refine awp_ret ?_
          -- return
          refine aret3 (H' := []) (by exact .inr rfl) rfl (rval_cell rfl Tryz.isAgg24 Tryz.sizeOf24 rfl rfl rfl rfl rfl) (rval_tmp rfl) (rval_tmp rfl) (Fin.wk (r := .tup [.agg [.pv (slObjs m)], iv (-1), iv 0]) (by simp) trivial trivial) ?_
          exact ⟨rfl, rfl⟩
  | false =>
    simp only [Bool.false_eq_true, if_false]
    have hof := fun H => ACalls.pure (ofN_c m hm hcl) (by simp) H
    refine ACalls.body Tryz.func20 rfl Tryz.ntmps20 (Nat.le_of_ble_eq_true rfl) ?_
    refine awp_seq ?_
    refine awp_region ?_
    refine al_d rfl rfl rfl (by exact opd_box (id := 2) rfl rfl rfl rfl rfl) ?_
    refine al_d rfl rfl rfl (by exact x_alloc (id := 4) rfl zo24 rfl rfl) ?_
    refine al_d rfl rfl rfl (by exact opd_assign rfl rfl) ?_
    refine al_d rfl rfl rfl (by exact opd_assign rfl rfl) ?_
    refine al_nil ?_
    refine awp_seq ?_
    refine awp_region ?_
    refine al_d rfl rfl rfl (by exact (by exact opd_loadn_ref rfl Tryz.isAgg24 Tryz.sizeOf24 rfl rfl rfl rfl (by simp only [List.drop_succ_cons, List.drop_zero, List.take_succ_cons, List.take_zero, List.take_nil, List.map_cons, List.map_nil, List.set_cons_zero, List.set_cons_succ, List.cons_append, List.nil_append, encTag, encObj, encStr]; rfl) rfl)) ?_
    refine al_d rfl rfl rfl (by exact opr_call rfl rfl Tryz.call41 rfl (hof _)) ?_
    refine al_d rfl rfl rfl (by exact opd_assign rfl rfl) ?_
    refine al_nil ?_
    refine awp_seq ?_
    refine awp_seq ?_
    refine awp_region ?_
    refine al_d rfl rfl rfl (by exact opd_move rfl rfl) ?_
    refine al_d rfl rfl rfl (by exact (by exact opd_peq_nil rfl Tryz.underlying72 rfl rfl)) ?_
    refine al_nil ?_
    refine awp_cond rfl (fun hc1 => ?_) (fun hc1 => ?_)
    -- cond 1
    · skip
      refine awp_seq ?_
      refine awp_region ?_
      refine al_d rfl rfl rfl (by exact x_build rfl bo24 rfl rfl) ?_
      refine al_n rfl rfl (by exact (by exact x_store_all rfl Tryz.sizeOf24 rfl rfl rfl rfl rfl rfl rfl rfl)) ?_
      refine al_d rfl rfl rfl (by exact opd_assign rfl rfl) ?_
      refine al_d rfl rfl rfl (by exact opd_assign rfl rfl) ?_
      refine al_nil ?_
      refine awp_ret ?_
      -- return
      refine aret3 (H' := []) (by exact .inr rfl) rfl (rval_cell rfl Tryz.isAgg24 Tryz.sizeOf24 rfl rfl rfl rfl rfl) (rval_tmp rfl) (rval_tmp rfl) (Fin.wk (r := .tup [.agg [lv []], iv (-1), iv 1]) (by simp) trivial trivial) ?_
      exact ⟨rfl, rfl⟩
    · cases hc1
theorem closed31_c (m : List GObj) (H : Heap) (hm : okM m) : ACalls Tryz.prog 25 [.agg [.pv (slObjs m)]] H (fun r H' => r = bv (closedB m) ∧ H' = H) := by
  refine ACalls.pure ?_ (by simp) H
  refine ACalls.body Tryz.func25 rfl Tryz.ntmps25 (Nat.le_of_ble_eq_true rfl) ?_
  refine awp_seq ?_
  refine awp_region ?_
  refine al_d rfl rfl rfl (by exact opd_box (id := 1) rfl rfl rfl rfl rfl) ?_
  refine al_d rfl rfl rfl (by exact opd_assign rfl rfl) ?_
  refine al_nil ?_
  refine awp_seq ?_
  refine awp_region ?_
  refine al_d rfl rfl rfl (by exact (by exact opd_loadn_ref rfl Tryz.isAgg24 Tryz.sizeOf24 rfl rfl rfl rfl (by simp only [List.drop_succ_cons, List.drop_zero, List.take_succ_cons, List.take_zero, List.take_nil, List.map_cons, List.map_nil, List.set_cons_zero, List.set_cons_succ, List.cons_append, List.nil_append, encTag, encObj, encStr]; rfl) rfl)) ?_
  refine al_d rfl rfl rfl (by exact opr_call rfl rfl Tryz.call20 rfl (allNil_c m _ hm)) ?_
  refine al_d rfl rfl rfl (by exact opd_move rfl rfl) ?_
  refine al_d rfl rfl rfl (by exact opd_extract rfl rfl rfl) ?_
  refine al_d rfl rfl rfl (by exact opd_extract rfl rfl rfl) ?_
  refine al_d rfl rfl rfl (by exact opd_extract rfl rfl rfl) ?_
  refine al_d rfl rfl rfl (by exact x_alloc (id := 3) rfl zo24 rfl rfl) ?_
  refine al_n rfl rfl (by exact (by exact x_store_all rfl Tryz.sizeOf24 rfl rfl rfl rfl rfl rfl rfl rfl)) ?_
  refine al_d rfl rfl rfl (by exact opd_assign rfl rfl) ?_
  refine al_d rfl rfl rfl (by exact opd_assign rfl rfl) ?_
  refine al_nil ?_
  refine awp_seq ?_
  refine awp_region ?_
  refine al_d rfl rfl rfl (by exact opd_move rfl rfl) ?_
  refine al_d rfl rfl rfl (by exact opd_eql rfl rfl rfl) ?_
  refine al_d rfl rfl rfl (by exact opd_assign rfl rfl) ?_
  refine al_nil ?_
  refine awp_ret ?_
  -- return
  refine aret1 (H' := []) (by exact .inr rfl) rfl (rval_tmp rfl) (Fin.wk (by simp) trivial trivial) ?_
  refine ⟨?_, rfl⟩
  cases closedB m <;> rfl
end Go.Proofs.YtdcifaldfmpapaaGreat
end
section
set_option linter.unusedVariables false
set_option linter.unusedSimpArgs false
namespace Go.Proofs.YtdcifaldfmpapaaGreat
open Go.Abs
section
variable {α κ : Type}
/-- The places of at most n elements that are shown, each of which fits with all that were taken. -/
def gr (S : α → Bool) (T : α → α → Bool) : List α → Nat → Nat → List α → List Nat
  | [], _, _, _ => []
  | _ :: _, _, 0, _ => []
  | x :: r, i, n + 1, tk => if S x && !(tk.any fun y => !T y x) then i :: gr S T r (i + 1) n (tk ++ [x]) else gr S T r (i + 1) (n + 1) tk
theorem fits_iff {T : α → α → Bool} {tk : List α} {x : α} : (!(tk.any fun y => !T y x)) = true ↔ ∀ y ∈ tk, T y x = true := by
  rw [Bool.not_eq_true', List.any_eq_false]
  simp
theorem drop_cons {l r : List α} {i : Nat} {x : α} (h : l.drop i = x :: r) : l[i]? = some x ∧ l.drop (i + 1) = r := by
  have hlt : i < l.length := by
    have := congrArg List.length h
    simp only [List.length_drop, List.length_cons] at this
    omega
  rw [List.drop_eq_getElem_cons hlt] at h
  injection h with h1 h2
  exact ⟨by rw [List.getElem?_eq_getElem hlt, h1], h2⟩
theorem gr_sound {S : α → Bool} {T : α → α → Bool} (l : List α) : ∀ (rest : List α) (i n : Nat) (tk : List α), l.drop i = rest →
    (∀ p ∈ gr S T rest i n tk, i ≤ p ∧ ∃ x, l[p]? = some x ∧ S x = true ∧ ∀ y ∈ tk, T y x = true) ∧
    (gr S T rest i n tk).Pairwise (fun p q => p < q ∧ ∀ x y, l[p]? = some x → l[q]? = some y → T x y = true) ∧ (gr S T rest i n tk).length ≤ n
  | [], i, n, tk, h => by simp [gr]
  | x :: r, i, 0, tk, h => by simp [gr]
  | x :: r, i, n + 1, tk, h => by
    obtain ⟨hx, hr⟩ := drop_cons h
    rw [gr]
    split
    · next hc =>
      rw [Bool.and_eq_true, fits_iff] at hc
      obtain ⟨h1, h2, h3⟩ := gr_sound (S := S) (T := T) l r (i + 1) n (tk ++ [x]) hr
      refine ⟨?_, ?_, by simp only [List.length_cons]; omega⟩
      · intro p hp
        rcases List.mem_cons.1 hp with rfl | hp
        · exact ⟨Nat.le_refl _, x, hx, hc.1, hc.2⟩
        · obtain ⟨a, y, b, c, d⟩ := h1 p hp
          exact ⟨by omega, y, b, c, fun z hz => d z (by simp [hz])⟩
      · refine List.pairwise_cons.2 ⟨fun q hq => ?_, h2⟩
        obtain ⟨a, y, b, c, d⟩ := h1 q hq
        refine ⟨by omega, fun u v hu hv => ?_⟩
        rw [hx] at hu; rw [b] at hv
        cases hu; cases hv
        exact d x (by simp)
    · obtain ⟨h1, h2, h3⟩ := gr_sound (S := S) (T := T) l r (i + 1) (n + 1) tk hr
      refine ⟨fun p hp => ?_, h2, h3⟩
      obtain ⟨a, b⟩ := h1 p hp
      exact ⟨by omega, b⟩
/-- The first place from which there is a choice of n; 'one': only the first place that is shown is tried. -/
def kLoop (one : Bool) (S : α → Bool) (T : α → α → Bool) (n : Nat) : List α → Nat → Option (List Nat)
  | [], _ => none
  | x :: r, i => if S x then (if (gr S T (x :: r) i n []).length = n then some (gr S T (x :: r) i n []) else if one then none else kLoop one S T n r (i + 1)) else kLoop one S T n r (i + 1)
theorem kLoop_sound {one : Bool} {S : α → Bool} {T : α → α → Bool} {n : Nat} (l : List α) : ∀ (rest : List α) (i : Nat) (p : List Nat), l.drop i = rest → kLoop one S T n rest i = some p → p.length = n ∧ ∃ j, p = gr S T (l.drop j) j n []
  | [], i, p, h, hk => by simp [kLoop] at hk
  | x :: r, i, p, h, hk => by
    obtain ⟨hx, hr⟩ := drop_cons h
    rw [kLoop] at hk
    split at hk
    · split at hk
      · next hn => cases hk; exact ⟨hn, i, by rw [h]⟩
      · split at hk
        · cases hk
        · exact kLoop_sound l r (i + 1) p hr hk
    · exact kLoop_sound l r (i + 1) p hr hk
/-- Choices: n places in order, shown, that fit. -/
structure Choice (S : α → Bool) (T : α → α → Bool) (l : List α) (n : Nat) (e : List Nat) : Prop where
  len : e.length = n
  up : e.Pairwise (· < ·)
  sh : ∀ p ∈ e, ∃ x, l[p]? = some x ∧ S x = true
  fit : e.Pairwise (fun p q => ∀ x y, l[p]? = some x → l[q]? = some y → T x y = true)
theorem kLoop_choice {one : Bool} {S : α → Bool} {T : α → α → Bool} {n : Nat} {l : List α} {p : List Nat} (h : kLoop one S T n l 0 = some p) : Choice S T l n p := by
  obtain ⟨h1, j, h2⟩ := kLoop_sound l l 0 p rfl h
  obtain ⟨a, b, _⟩ := gr_sound (S := S) (T := T) l (l.drop j) j n [] rfl
  rw [← h2] at a b
  exact ⟨h1, b.imp (fun h => h.1), fun q hq => by obtain ⟨_, x, h3, h4, _⟩ := a q hq; exact ⟨x, h3, h4⟩, b.imp (fun h => h.2)⟩
/-- A list of places does not come behind another one. -/
def gBehind : List Int → List Int → Bool
  | [], _ => false
  | _ :: _, [] => true
  | a :: r, b :: s => if a = b then gBehind r s else decide (b < a)
end
end Go.Proofs.YtdcifaldfmpapaaGreat
end
section
set_option linter.unusedVariables false
set_option linter.unusedSimpArgs false
namespace Go.Proofs.YtdcifaldfmpapaaGreat
open Go.Abs
theorem tagsEq_iff : ∀ {a b : List GTag}, tagsEq a b = true ↔ a = b
  | [], [] => by simp [tagsEq]
  | [], _ :: _ => by simp [tagsEq]
  | _ :: _, [] => by simp [tagsEq]
  | x :: a, y :: b => by rw [tagsEq, Bool.and_eq_true, tagEq_iff, tagsEq_iff]; simp
/-- Near points: the squared distance; else 0. -/
def nearP (x y : Int) : Bool := !(decide (2097152 < max x y) || decide (min x y < -2097152))
def gDist (x y u v : Int) : Int := if nearP x y && nearP u v then (u - x) * (u - x) + (v - y) * (v - y) else 0
def eShows (k : Nat) (m : List GObj) (e : GEdit) : Bool := match k with
  | 1 => decide (e.op = 5) && isOb m e.id
  | 2 => decide (e.op = 3) && decide (e.key = sName) && decide (e.val = sNil) && (gGet (obOf m e.id).tags sName).isSome
  | 3 => decide (e.op = 2) && isOb m e.id && decide ((obOf m e.id).kind = 1) && decide (1000000 ≤ gDist (obOf m e.id).x (obOf m e.id).y e.x e.y)
  | _ => decide (e.op = 1) && decide (e.obj.kind = 1)
def eApart (a b : GEdit) : Bool := !decide (a.id = b.id)
def eAlike (a b : GEdit) : Bool := !decide (a.obj.id = b.obj.id) && (decide (a.obj.x = b.obj.x) && decide (a.obj.y = b.obj.y)) && tagsEq a.obj.tags b.obj.tags
def eTog (k : Nat) (a b : GEdit) : Bool := match k with | 4 => eAlike a b | _ => eApart a b
def nMany (k : Nat) : Nat := match k with | 1 => 5 | 2 => 3 | 3 => 3 | _ => 4
def isDrop (e : GEdit) : Bool := decide (e.op = 5)
def nDrops (l : List GEdit) : Nat := l.countP isDrop
def kAns (m : List GObj) (l : List GEdit) (k : Nat) : Option (List Nat) := if k = 1 ∧ 2 * nDrops l ≤ l.length then none else kLoop (decide (k ≠ 4)) (eShows k m) (eTog k) (nMany k) l 0
def kFirst (m : List GObj) (l : List GEdit) : Nat → Nat → Nat × List Nat
  | 0, _ => (0, [])
  | n + 1, k => match kAns m l k with | some p => (k, p) | none => kFirst m l n (k + 1)
/-- What is found, of a closed map and a valid change set. -/
def gFind0 (m : List GObj) (l : List GEdit) : Nat × List Nat := kFirst m l 4 1
/-- Evidence. -/
structure Ev (m : List GObj) (l : List GEdit) (k : Nat) (e : List Nat) : Prop where
  lo : 1 ≤ k
  hi : k ≤ 4
  ch : Choice (eShows k m) (eTog k) l (nMany k) e
  dr : k = 1 → l.length < 2 * nDrops l
theorem nMany_pos (k : Nat) : 3 ≤ nMany k ∧ nMany k ≤ 5 := by
  unfold nMany; split <;> decide
theorem kAns_sound {m : List GObj} {l : List GEdit} {k : Nat} {p : List Nat} (h1 : 1 ≤ k) (h4 : k ≤ 4) (h : kAns m l k = some p) : Ev m l k p := by
  unfold kAns at h
  split at h
  · cases h
  · next hno => exact ⟨h1, h4, kLoop_choice h, fun e => by omega⟩
theorem kFirst_sound {m : List GObj} {l : List GEdit} : ∀ (n k : Nat), 1 ≤ k → k + n = 5 → kFirst m l n k = (0, []) ∨ Ev m l (kFirst m l n k).1 (kFirst m l n k).2
  | 0, k, _, _ => .inl rfl
  | n + 1, k, h1, h2 => by
    rw [kFirst]
    cases h : kAns m l k with
    | some p =>
      have h4 : k ≤ 4 := by omega
      exact .inr (kAns_sound h1 h4 h)
    | none => exact kFirst_sound n (k + 1) (by omega) (by omega)
theorem find_sound (m : List GObj) (l : List GEdit) : gFind0 m l = (0, []) ∨ Ev m l (gFind0 m l).1 (gFind0 m l).2 := kFirst_sound 4 1 (by omega) (by omega)
abbrev toI (l : List Nat) : List Int := l.map (fun (n : Nat) => (n : Int))
end Go.Proofs.YtdcifaldfmpapaaGreat
end
section
set_option linter.unusedVariables false
set_option linter.unusedSimpArgs false
set_option maxRecDepth 100000
namespace Go.Proofs.YtdcifaldfmpapaaGreat
open Go.Abs
theorem seS4 (a0 b0 a1 b1 a2 b2 a3 b3 : ByteArray) (w : World) : (Op.equalIn 10000 123 (.agg [.string a0, .string a1, .string a2, .string a3].toArray) (.agg [.string b0, .string b1, .string b2, .string b3].toArray)).run Tryz.prog w =
    .ok (decide (a0 = b0) && decide (a1 = b1) && decide (a2 = b2) && decide (a3 = b3)) w := by
  obtain ⟨i, hi⟩ := info_of_underlying Tryz.underlying9
  refine (run_equalIn_array (P := Tryz.prog) w 9999 _ _ Tryz.underlying123 hi).trans ?_
  have hs : ∀ (d : Nat) (a b : ByteArray) (w : World), (Op.equalIn (d + 1) 9 (.string a) (.string b)).run Tryz.prog w = .ok (decide (a = b)) w := fun d a b w => by rw [run_equalIn_string w d 9 a b Tryz.underlying9, list_beq]
  have hc : Tryz.prog.cellsOf 9 = 1 := by kernel_rfl
  by_cases e0 : a0 = b0 <;> by_cases e1 : a1 = b1 <;> by_cases e2 : a2 = b2 <;> by_cases e3 : a3 = b3 <;> simp [List.range_succ, Op.eqItems, part, hc, hs, Tryz.isAgg9, e0, e1, e2, e3]
theorem eqStrs_c (a b : List ByteArray) (H : Heap) (ha : a.length < 4611686018427387904) : ACalls Tryz.prog 51 [.pv (slStrs a), .pv (slStrs b)] H (fun r H' => r = bv (decide (a = b)) ∧ H' = H) := by
  refine ACalls.pure ?_ (by simp) H
  have hma : (a.map encStr).length = a.length := List.length_map _
  have hmb : (b.map encStr).length = b.length := List.length_map _
  refine ACalls.body Tryz.func51 rfl Tryz.ntmps51 (Nat.le_of_ble_eq_true rfl) ?_
  refine awp_seq ?_
  refine awp_region ?_
  refine al_d rfl rfl rfl (by exact opd_assign rfl rfl) ?_
  refine al_nil ?_
  refine awp_seq ?_
  refine awp_seq ?_
  refine awp_region ?_
  refine al_d rfl rfl rfl (by exact opd_move rfl rfl) ?_
  refine al_d rfl rfl rfl (by exact (by exact opd_len_sl rfl Tryz.underlying27 rfl)) ?_
  refine al_d rfl rfl rfl (by exact opd_move rfl rfl) ?_
  refine al_d rfl rfl rfl (by exact (by exact opd_len_sl rfl Tryz.underlying27 rfl)) ?_
  refine al_d rfl rfl rfl (by exact opd_neq rfl rfl rfl) ?_
  refine al_nil ?_
  refine awp_cond rfl (fun hc1 => ?_) (fun hc1 => ?_)
  -- cond 1
  · have hne : ¬ a = b := by
      intro e
      subst e
      simp at hc1
    refine awp_seq ?_
    refine awp_region ?_
    refine al_d rfl rfl rfl (by exact opd_assign rfl rfl) ?_
    refine al_nil ?_
    refine awp_ret ?_
    -- return
    refine aret1 (H' := []) (by exact .inr rfl) rfl (rval_tmp rfl) (Fin.wk (by simp) trivial trivial) ?_
    exact ⟨by rw [decide_eq_false hne], rfl⟩
  · have heq : a.length = b.length := by
      simp only [hma, hmb, Bool.not_eq_false', decide_eq_true_eq] at hc1
      omega
    refine awp_skip ?_
    refine awp_seq ?_
    refine awp_seq ?_
    refine awp_region ?_
    refine al_d rfl rfl rfl (by exact opd_move rfl rfl) ?_
    refine al_d rfl rfl rfl (by exact (by exact opd_len_sl rfl Tryz.underlying27 rfl)) ?_
    refine al_d rfl rfl rfl (by exact opd_move rfl rfl) ?_
    refine al_nil ?_
    refine awp_block ?_
    -- loop
    refine awp_loop (σ := Nat) (fun k => ([(0, .pv (slStrs a)), (1, .pv (slStrs b)), (12, iv ((a.map encStr).length : Int)), (13, iv (k : Int))], [])) (fun k => k ≤ a.length ∧ a.take k = b.take k) (fun k => a.length - k) 0 ⟨by omega, by simp⟩ ?_ ?_
    · exact Ent.e0 ⟨⟨_, rfl, rfl⟩, ⟨_, rfl, rfl⟩, ⟨_, rfl, rfl⟩, ⟨_, rfl, rfl⟩, trivial⟩
    · rintro k ⟨hk, hall⟩
      refine awp_seq ?_
      refine awp_region ?_
      refine al_d rfl rfl rfl (by exact opd_lss rfl rfl rfl) ?_
      refine al_nil ?_
      refine awp_seq ?_
      refine awp_cond rfl (fun hc2 => ?_) (fun hc2 => ?_)
      -- cond 2
      · have hlt : k < a.length := by have := of_decide_eq_true hc2; omega
        obtain ⟨x, hx⟩ := get_of_lt hlt
        obtain ⟨y, hy⟩ := get_of_lt (l := b) (k := k) (by omega)
        have hi := map_get (f := encStr) hx
        have hi2 := map_get (f := encStr) hy
        refine awp_skip ?_
        refine awp_seq ?_
        refine awp_block ?_
        refine awp_seq ?_
        refine awp_region ?_
        refine al_d rfl rfl rfl (by exact opd_move rfl rfl) ?_
        refine al_d rfl rfl rfl (by exact opd_assign rfl rfl) ?_
        refine al_nil ?_
        refine awp_seq ?_
        refine awp_drawc follows ?_
        refine dc_cons (DStep.q rfl (by exact opd_move rfl rfl)) rfl ?_
        refine dc_cons (DStep.q rfl (by exact opd_move rfl rfl)) rfl ?_
        refine dc_cons (DStep.q rfl (by exact (by exact x_index_pad rfl so27 rfl rfl (by omega) (by exact Int.toNat_natCast _) (by assumption) rfl))) rfl ?_
        refine dc_cons (DStep.q rfl (by exact (by exact opd_load1_pad rfl Tryz.isAgg9 rfl (by omega) rfl))) rfl ?_
        refine dc_cons (DStep.q rfl (by exact opd_move rfl rfl)) rfl ?_
        refine dc_cons (DStep.q rfl (by exact opd_move rfl rfl)) rfl ?_
        refine dc_cons (DStep.q rfl (by exact (by exact x_index_pad rfl so27 rfl rfl (by omega) (by exact Int.toNat_natCast _) (by assumption) rfl))) rfl ?_
        refine dc_cons (DStep.q rfl (by exact (by exact opd_load1_pad rfl Tryz.isAgg9 rfl (by omega) rfl))) rfl ?_
        refine dc_cons (DStep.q rfl (by exact opd_sneq rfl rfl rfl)) rfl ?_
        refine dc_nil ⟨by kernel_rfl, ?_⟩
        refine awp_cond rfl (fun hc3 => ?_) (fun hc3 => ?_)
        -- cond 3
        · have ht : ¬ x = y := by
            have h : (!decide (x = y)) = true := hc3
            simpa using h
          have hne : ¬ a = b := by
            intro e
            subst e
            rw [hx] at hy
            exact ht (Option.some.inj hy)
          refine awp_seq ?_
          refine awp_region ?_
          refine al_d rfl rfl rfl (by exact opd_assign rfl rfl) ?_
          refine al_nil ?_
          refine awp_ret ?_
          -- return
          refine aret1 (H' := []) (by exact .inr rfl) rfl (rval_tmp rfl) (Fin.wk (by simp) trivial trivial) ?_
          exact ⟨by rw [decide_eq_false hne], rfl⟩
        · have ht : x = y := by
            have h : (!decide (x = y)) = false := hc3
            simpa using h
          refine awp_skip ?_
          refine awp_region ?_
          refine al_d rfl rfl rfl (by exact opd_add rfl rfl rfl (by exact w64 (by omega) (by omega))) ?_
          refine al_d rfl rfl rfl (by exact opd_move rfl rfl) ?_
          refine al_nil ?_
          -- end of a round
          refine ⟨k + 1, ⟨by omega, ?_⟩, by omega, Ent.e0 ⟨⟨_, rfl, rfl⟩, ⟨_, rfl, rfl⟩, ⟨_, rfl, rfl⟩, ⟨_, rfl, rfl⟩, trivial⟩⟩
          rw [List.take_add_one, List.take_add_one, hx, hy, hall, ht]
      · have hge : k = a.length := by have := of_decide_eq_false hc2; omega
        have he : a = b := by
          have h := hall
          rw [hge, List.take_length, heq, List.take_length] at h
          exact h
        refine awp_exit ?_
        refine awp_seq ?_
        refine awp_region ?_
        refine al_d rfl rfl rfl (by exact opd_assign rfl rfl) ?_
        refine al_nil ?_
        refine awp_ret ?_
        -- return
        refine aret1 (H' := []) (by exact .inr rfl) rfl (rval_tmp rfl) (Fin.wk (by simp) trivial trivial) ?_
        exact ⟨by rw [decide_eq_true he], rfl⟩
def gSameO (a b : GObj) : Bool := ((decide (a.id = b.id) && decide (a.kind = b.kind) && (decide (a.x = b.x) && decide (a.y = b.y))) && decide (a.refs = b.refs)) && tagsEq a.tags b.tags
theorem gSameO_iff {a b : GObj} : gSameO a b = true ↔ a = b := by
  cases a; cases b
  simp only [gSameO, Bool.and_eq_true, decide_eq_true_eq, tagsEq_iff, GObj.mk.injEq]
  constructor
  · rintro ⟨⟨⟨⟨a1, a2⟩, a3, a4⟩, a5⟩, a6⟩
    exact ⟨a1, a2, a3, a4, a5, a6⟩
  · rintro ⟨a1, a2, a3, a4, a5, a6⟩
    exact ⟨⟨⟨⟨a1, a2⟩, a3, a4⟩, a5⟩, a6⟩
def okS (o : GObj) : Prop := o.refs.length < 4611686018427387904 ∧ o.tags.length < 4611686018427387904
theorem sameO_c (a b : GObj) (H : Heap) (ha : okS a) : ACalls Tryz.prog 21 [av (encObj a), av (encObj b)] H (fun r H' => r = bv (gSameO a b) ∧ H' = H) := by
  refine ACalls.pure ?_ (by simp) H
  refine ACalls.body Tryz.func21 rfl Tryz.ntmps21 (Nat.le_of_ble_eq_true rfl) ?_
  refine awp_seq ?_
  refine awp_region ?_
  refine al_d rfl rfl rfl (by exact opd_box (id := 2) rfl rfl rfl rfl rfl) ?_
  refine al_d rfl rfl rfl (by exact opd_box (id := 3) rfl rfl rfl rfl rfl) ?_
  refine al_d rfl rfl rfl (by exact opd_assign rfl rfl) ?_
  refine al_nil ?_
  refine awp_seq ?_
  refine awp_bool (t := 4) (n := 38) (X := gSameO a b) ?_ ?_
  · all_goals (refine al_d rfl rfl rfl (by exact (by exact opd_field_ref rfl fo30_0 rfl rfl rfl rfl)) ?_)
    all_goals (refine al_d rfl rfl rfl (by exact (by exact opd_load1_ref rfl Tryz.isAgg9 rfl rfl rfl rfl rfl)) ?_)
    all_goals (refine al_d rfl rfl rfl (by exact (by exact opd_field_ref rfl fo30_0 rfl rfl rfl rfl)) ?_)
    all_goals (refine al_d rfl rfl rfl (by exact (by exact opd_load1_ref rfl Tryz.isAgg9 rfl rfl rfl rfl rfl)) ?_)
    all_goals (refine al_d rfl rfl rfl (by exact opd_seql rfl rfl rfl) ?_)
    all_goals (refine al_d rfl rfl rfl (by exact opd_move rfl rfl) ?_)
    all_goals (refine al_split (t := 10) rfl (fun h10 => ?_) (fun h10 => ?_))
    all_goals (try contradiction)
    all_goals (first | refine al_off rfl rfl rfl rfl rfl ?_ | refine al_ond rfl rfl rfl rfl rfl rfl (by exact (by exact opd_field_ref rfl fo30_1 rfl rfl rfl rfl)) ?_)
    all_goals (first | refine al_off rfl rfl rfl rfl rfl ?_ | refine al_ond rfl rfl rfl rfl rfl rfl (by exact (by exact opd_load1_ref rfl Tryz.isAgg3 rfl rfl rfl rfl rfl)) ?_)
    all_goals (first | refine al_off rfl rfl rfl rfl rfl ?_ | refine al_ond rfl rfl rfl rfl rfl rfl (by exact (by exact opd_field_ref rfl fo30_1 rfl rfl rfl rfl)) ?_)
    all_goals (first | refine al_off rfl rfl rfl rfl rfl ?_ | refine al_ond rfl rfl rfl rfl rfl rfl (by exact (by exact opd_load1_ref rfl Tryz.isAgg3 rfl rfl rfl rfl rfl)) ?_)
    all_goals (first | refine al_off rfl rfl rfl rfl rfl ?_ | refine al_ond rfl rfl rfl rfl rfl rfl (by exact opd_eql rfl rfl rfl) ?_)
    all_goals (refine al_d rfl rfl rfl (by exact (by first | exact opd_pick_t rfl rfl rfl | exact opd_pick_f rfl rfl rfl)) ?_)
    all_goals (refine al_d rfl rfl rfl (by exact opd_move rfl rfl) ?_)
    all_goals (refine al_split (t := 17) rfl (fun h17 => ?_) (fun h17 => ?_))
    all_goals (try contradiction)
    all_goals (first | refine al_off rfl rfl rfl rfl rfl ?_ | refine al_ond rfl rfl rfl rfl rfl rfl (by exact (by exact opd_field_ref rfl fo30_2 rfl rfl rfl rfl)) ?_)
    all_goals (first | refine al_off rfl rfl rfl rfl rfl ?_ | refine al_ond rfl rfl rfl rfl rfl rfl (by exact (by exact opd_loadn_ref rfl Tryz.isAgg26 Tryz.sizeOf26 rfl rfl rfl rfl (by simp only [List.drop_succ_cons, List.drop_zero, List.take_succ_cons, List.take_zero, List.take_nil, List.map_cons, List.map_nil, List.set_cons_zero, List.set_cons_succ, List.cons_append, List.nil_append, encTag, encObj, encStr, encEdit]; rfl) rfl)) ?_)
    all_goals (first | refine al_off rfl rfl rfl rfl rfl ?_ | refine al_ond rfl rfl rfl rfl rfl rfl (by exact (by exact opd_field_ref rfl fo30_2 rfl rfl rfl rfl)) ?_)
    all_goals (first | refine al_off rfl rfl rfl rfl rfl ?_ | refine al_ond rfl rfl rfl rfl rfl rfl (by exact (by exact opd_loadn_ref rfl Tryz.isAgg26 Tryz.sizeOf26 rfl rfl rfl rfl (by simp only [List.drop_succ_cons, List.drop_zero, List.take_succ_cons, List.take_zero, List.take_nil, List.map_cons, List.map_nil, List.set_cons_zero, List.set_cons_succ, List.cons_append, List.nil_append, encTag, encObj, encStr, encEdit]; rfl) rfl)) ?_)
    all_goals (first | refine al_off rfl rfl rfl rfl rfl ?_ | refine al_ond rfl rfl rfl rfl rfl rfl (by exact opd_aeql rfl rfl rfl rfl rfl Tryz.eqGuardType26 (se26 _ _ _ _)) ?_)
    all_goals (refine al_d rfl rfl rfl (by exact (by first | exact opd_pick_t rfl rfl rfl | exact opd_pick_f rfl rfl rfl)) ?_)
    all_goals (refine al_d rfl rfl rfl (by exact opd_move rfl rfl) ?_)
    all_goals (refine al_split (t := 24) rfl (fun h24 => ?_) (fun h24 => ?_))
    all_goals (try contradiction)
    all_goals (first | refine al_off rfl rfl rfl rfl rfl ?_ | refine al_ond rfl rfl rfl rfl rfl rfl (by exact (by exact opd_field_ref rfl fo30_3 rfl rfl rfl rfl)) ?_)
    all_goals (first | refine al_off rfl rfl rfl rfl rfl ?_ | refine al_ond rfl rfl rfl rfl rfl rfl (by exact (by exact opd_load1_ref rfl Tryz.isAgg27 rfl rfl rfl rfl rfl)) ?_)
    all_goals (first | refine al_off rfl rfl rfl rfl rfl ?_ | refine al_ond rfl rfl rfl rfl rfl rfl (by exact (by exact opd_field_ref rfl fo30_3 rfl rfl rfl rfl)) ?_)
    all_goals (first | refine al_off rfl rfl rfl rfl rfl ?_ | refine al_ond rfl rfl rfl rfl rfl rfl (by exact (by exact opd_load1_ref rfl Tryz.isAgg27 rfl rfl rfl rfl rfl)) ?_)
    all_goals (first | refine al_off rfl rfl rfl rfl rfl ?_ | refine al_ond rfl rfl rfl rfl rfl rfl (by exact opr_call rfl rfl Tryz.call51 rfl (eqStrs_c a.refs b.refs _ ha.1)) ?_)
    all_goals (refine al_d rfl rfl rfl (by exact (by first | exact opd_pick_t rfl rfl rfl | exact opd_pick_f rfl rfl rfl)) ?_)
    all_goals (refine al_d rfl rfl rfl (by exact opd_move rfl rfl) ?_)
    all_goals (refine al_split (t := 31) rfl (fun h31 => ?_) (fun h31 => ?_))
    all_goals (try contradiction)
    all_goals (first | refine al_off rfl rfl rfl rfl rfl ?_ | refine al_ond rfl rfl rfl rfl rfl rfl (by exact (by exact opd_field_ref rfl fo30_4 rfl rfl rfl rfl)) ?_)
    all_goals (first | refine al_off rfl rfl rfl rfl rfl ?_ | refine al_ond rfl rfl rfl rfl rfl rfl (by exact (by exact opd_load1_ref rfl Tryz.isAgg28 rfl rfl rfl rfl rfl)) ?_)
    all_goals (first | refine al_off rfl rfl rfl rfl rfl ?_ | refine al_ond rfl rfl rfl rfl rfl rfl (by exact (by exact opd_field_ref rfl fo30_4 rfl rfl rfl rfl)) ?_)
    all_goals (first | refine al_off rfl rfl rfl rfl rfl ?_ | refine al_ond rfl rfl rfl rfl rfl rfl (by exact (by exact opd_load1_ref rfl Tryz.isAgg28 rfl rfl rfl rfl rfl)) ?_)
    all_goals (first | refine al_off rfl rfl rfl rfl rfl ?_ | refine al_ond rfl rfl rfl rfl rfl rfl (by exact opr_call rfl rfl Tryz.call52 rfl (equalTags_c a.tags b.tags _ ha.2)) ?_)
    all_goals (refine al_d rfl rfl rfl (by exact (by first | exact opd_pick_t rfl rfl rfl | exact opd_pick_f rfl rfl rfl)) ?_)
    all_goals (refine al_d rfl rfl rfl (by exact opd_assign rfl rfl) ?_)
    all_goals (refine al_nil ?_)
    all_goals (exact ⟨⟨_, rfl, by (simp only [gSameO, *]; rfl)⟩, rfl, rfl, rfl⟩)
  refine awp_ret ?_
  -- return
  refine aret1 (H' := []) (by exact .inr rfl) rfl (rval_tmp rfl) (Fin.wk (by simp) trivial trivial) ?_
  exact ⟨rfl, rfl⟩
def gSameE (a b : GEdit) : Bool := ((((decide (a.refs = b.refs) && gSameO a.obj b.obj) && decide (a.op = b.op)) && (decide (a.id = b.id) && decide (a.other = b.other) && decide (a.node = b.node) && decide (a.key = b.key))) && decide (a.val = b.val)) && (decide (a.x = b.x) && decide (a.y = b.y))
theorem gSameE_iff {a b : GEdit} : gSameE a b = true ↔ a = b := by
  cases a; cases b
  simp only [gSameE, Bool.and_eq_true, decide_eq_true_eq, gSameO_iff, GEdit.mk.injEq]
  constructor
  · rintro ⟨⟨⟨⟨⟨a1, a2⟩, a3⟩, ⟨⟨a4, a5⟩, a6⟩, a7⟩, a8⟩, a9, a10⟩
    exact ⟨a3, a4, a5, a6, a9, a10, a7, a8, a1, a2⟩
  · rintro ⟨a3, a4, a5, a6, a9, a10, a7, a8, a1, a2⟩
    exact ⟨⟨⟨⟨⟨a1, a2⟩, a3⟩, ⟨⟨a4, a5⟩, a6⟩, a7⟩, a8⟩, a9, a10⟩
theorem sameE_c (a b : GEdit) (H : Heap) (h1 : a.refs.length < 4611686018427387904) (h2 : okS a.obj) : ACalls Tryz.prog 45 [av (encEdit a), av (encEdit b)] H (fun r H' => r = bv (gSameE a b) ∧ H' = H) := by
  refine ACalls.pure ?_ (by simp) H
  refine ACalls.body Tryz.func45 rfl Tryz.ntmps45 (Nat.le_of_ble_eq_true rfl) ?_
  refine awp_seq ?_
  refine awp_region ?_
  refine al_d rfl rfl rfl (by exact opd_box (id := 2) rfl rfl rfl rfl rfl) ?_
  refine al_d rfl rfl rfl (by exact opd_box (id := 3) rfl rfl rfl rfl rfl) ?_
  refine al_d rfl rfl rfl (by exact opd_assign rfl rfl) ?_
  refine al_nil ?_
  refine awp_seq ?_
  refine awp_bool (t := 5) (n := 14) (X := decide (a.refs = b.refs) && gSameO a.obj b.obj) ?_ ?_
  · all_goals (refine al_d rfl rfl rfl (by exact (by exact opd_field_ref rfl fo32_7 rfl rfl rfl rfl)) ?_)
    all_goals (refine al_d rfl rfl rfl (by exact (by exact opd_load1_ref rfl Tryz.isAgg27 rfl rfl rfl rfl rfl)) ?_)
    all_goals (refine al_d rfl rfl rfl (by exact (by exact opd_field_ref rfl fo32_7 rfl rfl rfl rfl)) ?_)
    all_goals (refine al_d rfl rfl rfl (by exact (by exact opd_load1_ref rfl Tryz.isAgg27 rfl rfl rfl rfl rfl)) ?_)
    all_goals (refine al_d rfl rfl rfl (by exact opr_call rfl rfl Tryz.call51 rfl (eqStrs_c a.refs b.refs _ h1)) ?_)
    all_goals (refine al_d rfl rfl rfl (by exact opd_move rfl rfl) ?_)
    all_goals (refine al_split (t := 11) rfl (fun h11 => ?_) (fun h11 => ?_))
    all_goals (try contradiction)
    all_goals (first | refine al_off rfl rfl rfl rfl rfl ?_ | refine al_ond rfl rfl rfl rfl rfl rfl (by exact (by exact opd_field_ref rfl fo32_8 rfl rfl rfl rfl)) ?_)
    all_goals (first | refine al_off rfl rfl rfl rfl rfl ?_ | refine al_ond rfl rfl rfl rfl rfl rfl (by exact (by exact opd_loadn_ref rfl Tryz.isAgg30 Tryz.sizeOf30 rfl rfl rfl rfl (by simp only [List.drop_succ_cons, List.drop_zero, List.take_succ_cons, List.take_zero, List.take_nil, List.map_cons, List.map_nil, List.set_cons_zero, List.set_cons_succ, List.cons_append, List.nil_append, encTag, encObj, encStr, encEdit]; rfl) rfl)) ?_)
    all_goals (first | refine al_off rfl rfl rfl rfl rfl ?_ | refine al_ond rfl rfl rfl rfl rfl rfl (by exact (by exact opd_field_ref rfl fo32_8 rfl rfl rfl rfl)) ?_)
    all_goals (first | refine al_off rfl rfl rfl rfl rfl ?_ | refine al_ond rfl rfl rfl rfl rfl rfl (by exact (by exact opd_loadn_ref rfl Tryz.isAgg30 Tryz.sizeOf30 rfl rfl rfl rfl (by simp only [List.drop_succ_cons, List.drop_zero, List.take_succ_cons, List.take_zero, List.take_nil, List.map_cons, List.map_nil, List.set_cons_zero, List.set_cons_succ, List.cons_append, List.nil_append, encTag, encObj, encStr, encEdit]; rfl) rfl)) ?_)
    all_goals (first | refine al_off rfl rfl rfl rfl rfl ?_ | refine al_ond rfl rfl rfl rfl rfl rfl (by exact opr_call rfl rfl Tryz.call21 rfl (sameO_c a.obj b.obj _ h2)) ?_)
    all_goals (refine al_d rfl rfl rfl (by exact (by first | exact opd_pick_t rfl rfl rfl | exact opd_pick_f rfl rfl rfl)) ?_)
    all_goals (refine al_d rfl rfl rfl (by exact opd_assign rfl rfl) ?_)
    all_goals (refine al_nil ?_)
    all_goals (exact ⟨⟨_, rfl, by (simp only [*]; rfl)⟩, rfl, rfl, rfl⟩)
  refine awp_seq ?_
  refine awp_bool (t := 4) (n := 48) (X := gSameE a b) ?_ ?_
  · all_goals (refine al_d rfl rfl rfl (by exact opd_move rfl rfl) ?_)
    all_goals (refine al_d rfl rfl rfl (by exact opd_move rfl rfl) ?_)
    all_goals (refine al_split (t := 19) rfl (fun h19 => ?_) (fun h19 => ?_))
    all_goals (try contradiction)
    all_goals (first | refine al_off rfl rfl rfl rfl rfl ?_ | refine al_ond rfl rfl rfl rfl rfl rfl (by exact (by exact opd_field_ref rfl fo32_0 rfl rfl rfl rfl)) ?_)
    all_goals (first | refine al_off rfl rfl rfl rfl rfl ?_ | refine al_ond rfl rfl rfl rfl rfl rfl (by exact (by exact opd_load1_ref rfl Tryz.isAgg3 rfl rfl rfl rfl rfl)) ?_)
    all_goals (first | refine al_off rfl rfl rfl rfl rfl ?_ | refine al_ond rfl rfl rfl rfl rfl rfl (by exact (by exact opd_field_ref rfl fo32_0 rfl rfl rfl rfl)) ?_)
    all_goals (first | refine al_off rfl rfl rfl rfl rfl ?_ | refine al_ond rfl rfl rfl rfl rfl rfl (by exact (by exact opd_load1_ref rfl Tryz.isAgg3 rfl rfl rfl rfl rfl)) ?_)
    all_goals (first | refine al_off rfl rfl rfl rfl rfl ?_ | refine al_ond rfl rfl rfl rfl rfl rfl (by exact opd_eql rfl rfl rfl) ?_)
    all_goals (refine al_d rfl rfl rfl (by exact (by first | exact opd_pick_t rfl rfl rfl | exact opd_pick_f rfl rfl rfl)) ?_)
    all_goals (refine al_d rfl rfl rfl (by exact opd_move rfl rfl) ?_)
    all_goals (refine al_split (t := 26) rfl (fun h26 => ?_) (fun h26 => ?_))
    all_goals (try contradiction)
    all_goals (first | refine al_off rfl rfl rfl rfl rfl ?_ | refine al_ond rfl rfl rfl rfl rfl rfl (by exact (by exact opd_field_ref rfl fo32_1 rfl rfl rfl rfl)) ?_)
    all_goals (first | refine al_off rfl rfl rfl rfl rfl ?_ | refine al_ond rfl rfl rfl rfl rfl rfl (by exact (by exact opd_load1_ref rfl Tryz.isAgg9 rfl rfl rfl rfl rfl)) ?_)
    all_goals (first | refine al_off rfl rfl rfl rfl rfl ?_ | refine al_ond rfl rfl rfl rfl rfl rfl (by exact (by exact opd_field_ref rfl fo32_2 rfl rfl rfl rfl)) ?_)
    all_goals (first | refine al_off rfl rfl rfl rfl rfl ?_ | refine al_ond rfl rfl rfl rfl rfl rfl (by exact (by exact opd_load1_ref rfl Tryz.isAgg9 rfl rfl rfl rfl rfl)) ?_)
    all_goals (first | refine al_off rfl rfl rfl rfl rfl ?_ | refine al_ond rfl rfl rfl rfl rfl rfl (by exact (by exact opd_field_ref rfl fo32_3 rfl rfl rfl rfl)) ?_)
    all_goals (first | refine al_off rfl rfl rfl rfl rfl ?_ | refine al_ond rfl rfl rfl rfl rfl rfl (by exact (by exact opd_load1_ref rfl Tryz.isAgg9 rfl rfl rfl rfl rfl)) ?_)
    all_goals (first | refine al_off rfl rfl rfl rfl rfl ?_ | refine al_ond rfl rfl rfl rfl rfl rfl (by exact (by exact opd_field_ref rfl fo32_5 rfl rfl rfl rfl)) ?_)
    all_goals (first | refine al_off rfl rfl rfl rfl rfl ?_ | refine al_ond rfl rfl rfl rfl rfl rfl (by exact (by exact opd_load1_ref rfl Tryz.isAgg9 rfl rfl rfl rfl rfl)) ?_)
    all_goals (first | refine al_off rfl rfl rfl rfl rfl ?_ | refine al_ond rfl rfl rfl rfl rfl rfl (by exact x_build_arr rfl ao123 rfl rfl) ?_)
    all_goals (first | refine al_off rfl rfl rfl rfl rfl ?_ | refine al_ond rfl rfl rfl rfl rfl rfl (by exact (by exact opd_field_ref rfl fo32_1 rfl rfl rfl rfl)) ?_)
    all_goals (first | refine al_off rfl rfl rfl rfl rfl ?_ | refine al_ond rfl rfl rfl rfl rfl rfl (by exact (by exact opd_load1_ref rfl Tryz.isAgg9 rfl rfl rfl rfl rfl)) ?_)
    all_goals (first | refine al_off rfl rfl rfl rfl rfl ?_ | refine al_ond rfl rfl rfl rfl rfl rfl (by exact (by exact opd_field_ref rfl fo32_2 rfl rfl rfl rfl)) ?_)
    all_goals (first | refine al_off rfl rfl rfl rfl rfl ?_ | refine al_ond rfl rfl rfl rfl rfl rfl (by exact (by exact opd_load1_ref rfl Tryz.isAgg9 rfl rfl rfl rfl rfl)) ?_)
    all_goals (first | refine al_off rfl rfl rfl rfl rfl ?_ | refine al_ond rfl rfl rfl rfl rfl rfl (by exact (by exact opd_field_ref rfl fo32_3 rfl rfl rfl rfl)) ?_)
    all_goals (first | refine al_off rfl rfl rfl rfl rfl ?_ | refine al_ond rfl rfl rfl rfl rfl rfl (by exact (by exact opd_load1_ref rfl Tryz.isAgg9 rfl rfl rfl rfl rfl)) ?_)
    all_goals (first | refine al_off rfl rfl rfl rfl rfl ?_ | refine al_ond rfl rfl rfl rfl rfl rfl (by exact (by exact opd_field_ref rfl fo32_5 rfl rfl rfl rfl)) ?_)
    all_goals (first | refine al_off rfl rfl rfl rfl rfl ?_ | refine al_ond rfl rfl rfl rfl rfl rfl (by exact (by exact opd_load1_ref rfl Tryz.isAgg9 rfl rfl rfl rfl rfl)) ?_)
    all_goals (first | refine al_off rfl rfl rfl rfl rfl ?_ | refine al_ond rfl rfl rfl rfl rfl rfl (by exact x_build_arr rfl ao123 rfl rfl) ?_)
    all_goals (first | refine al_off rfl rfl rfl rfl rfl ?_ | refine al_ond rfl rfl rfl rfl rfl rfl (by exact opd_aeql rfl rfl rfl rfl rfl Tryz.eqGuardType123 (seS4 a.id b.id a.other b.other a.node b.node a.key b.key)) ?_)
    all_goals (refine al_d rfl rfl rfl (by exact (by first | exact opd_pick_t rfl rfl rfl | exact opd_pick_f rfl rfl rfl)) ?_)
    all_goals (refine al_d rfl rfl rfl (by exact opd_move rfl rfl) ?_)
    all_goals (refine al_split (t := 47) rfl (fun h47 => ?_) (fun h47 => ?_))
    all_goals (try contradiction)
    all_goals (first | refine al_off rfl rfl rfl rfl rfl ?_ | refine al_ond rfl rfl rfl rfl rfl rfl (by exact (by exact opd_field_ref rfl fo32_6 rfl rfl rfl rfl)) ?_)
    all_goals (first | refine al_off rfl rfl rfl rfl rfl ?_ | refine al_ond rfl rfl rfl rfl rfl rfl (by exact (by exact opd_load1_ref rfl Tryz.isAgg9 rfl rfl rfl rfl rfl)) ?_)
    all_goals (first | refine al_off rfl rfl rfl rfl rfl ?_ | refine al_ond rfl rfl rfl rfl rfl rfl (by exact (by exact opd_field_ref rfl fo32_6 rfl rfl rfl rfl)) ?_)
    all_goals (first | refine al_off rfl rfl rfl rfl rfl ?_ | refine al_ond rfl rfl rfl rfl rfl rfl (by exact (by exact opd_load1_ref rfl Tryz.isAgg9 rfl rfl rfl rfl rfl)) ?_)
    all_goals (first | refine al_off rfl rfl rfl rfl rfl ?_ | refine al_ond rfl rfl rfl rfl rfl rfl (by exact opd_seql rfl rfl rfl) ?_)
    all_goals (refine al_d rfl rfl rfl (by exact (by first | exact opd_pick_t rfl rfl rfl | exact opd_pick_f rfl rfl rfl)) ?_)
    all_goals (refine al_d rfl rfl rfl (by exact opd_move rfl rfl) ?_)
    all_goals (refine al_split (t := 54) rfl (fun h54 => ?_) (fun h54 => ?_))
    all_goals (try contradiction)
    all_goals (first | refine al_off rfl rfl rfl rfl rfl ?_ | refine al_ond rfl rfl rfl rfl rfl rfl (by exact (by exact opd_field_ref rfl fo32_4 rfl rfl rfl rfl)) ?_)
    all_goals (first | refine al_off rfl rfl rfl rfl rfl ?_ | refine al_ond rfl rfl rfl rfl rfl rfl (by exact (by exact opd_loadn_ref rfl Tryz.isAgg26 Tryz.sizeOf26 rfl rfl rfl rfl (by simp only [List.drop_succ_cons, List.drop_zero, List.take_succ_cons, List.take_zero, List.take_nil, List.map_cons, List.map_nil, List.set_cons_zero, List.set_cons_succ, List.cons_append, List.nil_append, encTag, encObj, encStr, encEdit]; rfl) rfl)) ?_)
    all_goals (first | refine al_off rfl rfl rfl rfl rfl ?_ | refine al_ond rfl rfl rfl rfl rfl rfl (by exact (by exact opd_field_ref rfl fo32_4 rfl rfl rfl rfl)) ?_)
    all_goals (first | refine al_off rfl rfl rfl rfl rfl ?_ | refine al_ond rfl rfl rfl rfl rfl rfl (by exact (by exact opd_loadn_ref rfl Tryz.isAgg26 Tryz.sizeOf26 rfl rfl rfl rfl (by simp only [List.drop_succ_cons, List.drop_zero, List.take_succ_cons, List.take_zero, List.take_nil, List.map_cons, List.map_nil, List.set_cons_zero, List.set_cons_succ, List.cons_append, List.nil_append, encTag, encObj, encStr, encEdit]; rfl) rfl)) ?_)
    all_goals (first | refine al_off rfl rfl rfl rfl rfl ?_ | refine al_ond rfl rfl rfl rfl rfl rfl (by exact opd_aeql rfl rfl rfl rfl rfl Tryz.eqGuardType26 (se26 _ _ _ _)) ?_)
    all_goals (refine al_d rfl rfl rfl (by exact (by first | exact opd_pick_t rfl rfl rfl | exact opd_pick_f rfl rfl rfl)) ?_)
    all_goals (refine al_d rfl rfl rfl (by exact opd_assign rfl rfl) ?_)
    all_goals (refine al_nil ?_)
    all_goals (exact ⟨⟨_, rfl, by (simp only [gSameE, *]; rfl)⟩, rfl, rfl, rfl⟩)
  refine awp_ret ?_
  -- return
  refine aret1 (H' := []) (by exact .inr rfl) rfl (rval_tmp rfl) (Fin.wk (by simp) trivial trivial) ?_
  exact ⟨rfl, rfl⟩
def atP {α : Type} (l : List α) (p : α → Bool) (k : Nat) : Bool := match l[k]? with
  | some s => p s
  | none => false
theorem atP_some {α : Type} {l : List α} {p : α → Bool} {k : Nat} {s : α} (h : l[k]? = some s) : atP l p k = p s := by rw [atP, h]
theorem range_any_get {α : Type} (l : List α) (p : α → Bool) : (List.range l.length).any (atP l p) = l.any p := by
  rw [Bool.eq_iff_iff, List.any_eq_true, List.any_eq_true]
  constructor
  · rintro ⟨k, hk, h⟩
    have hlt := List.mem_range.1 hk
    rw [atP_some (List.getElem?_eq_getElem hlt)] at h
    exact ⟨_, List.getElem_mem hlt, h⟩
  · rintro ⟨x, hx, h⟩
    obtain ⟨k, hk⟩ := List.mem_iff_getElem?.1 hx
    exact ⟨k, List.mem_range.2 (List.getElem?_eq_some_iff.1 hk).1, by rw [atP_some hk]; exact h⟩
theorem names1_c (s : ByteArray) (H : Heap) (hs : s.size < 4611686018427387904) : ACalls Tryz.prog 89 [sv s] H (fun r H' => r = bv (!gName s) ∧ H' = H) := by
  refine ACalls.pure ?_ (by simp) H
  refine ACalls.body Tryz.func89 rfl Tryz.ntmps89 (Nat.le_of_ble_eq_true rfl) ?_
  refine awp_seq ?_
  refine awp_region ?_
  refine al_d rfl rfl rfl (by exact opd_assign rfl rfl) ?_
  refine al_nil ?_
  refine awp_seq ?_
  refine awp_region ?_
  refine al_d rfl rfl rfl (by exact opd_move rfl rfl) ?_
  refine al_d rfl rfl rfl (by exact opr_call rfl rfl Tryz.call90 rfl (name_c s _ hs)) ?_
  refine al_d rfl rfl rfl (by exact opd_not rfl rfl) ?_
  refine al_d rfl rfl rfl (by exact opd_assign rfl rfl) ?_
  refine al_nil ?_
  refine awp_ret ?_
  -- return
  refine aret1 (H' := []) (by exact .inr rfl) rfl (rval_tmp rfl) (Fin.wk (by simp) trivial trivial) ?_
  exact ⟨rfl, rfl⟩
theorem names_c (l : List ByteArray) (H : Heap) (hl : l.length < 4611686018427387904) (hs : ∀ s ∈ l, s.size < 4611686018427387904) : ACalls Tryz.prog 43 [.pv (slStrs l)] H (fun r H' => r = bv (l.all gName) ∧ H' = H) := by
  refine ACalls.pure ?_ (by simp) H
  have e : l.all gName = !(List.range l.length).any (atP l (fun s => !gName s)) := by
    rw [range_any_get l (fun s => !gName s), List.any_eq_not_all_not]
    simp
  rw [e]
  refine ACalls.body Tryz.func43 rfl Tryz.ntmps43 (Nat.le_of_ble_eq_true rfl) ?_
  refine awp_seq ?_
  refine awp_region ?_
  refine al_d rfl rfl rfl (by exact opd_assign rfl rfl) ?_
  refine al_nil ?_
  refine awp_seq ?_
  refine awp_region ?_
  refine al_d rfl rfl rfl (by exact opd_move rfl rfl) ?_
  refine al_d rfl rfl rfl (by exact opr_call rfl rfl Tryz.call88 rfl (containsFuncS (.pv (.fn 89)) l (atP l (fun s => !gName s)) (fun _ => []) hl (fun k s hk => CallsV.fn Tryz.call89 (by rw [atP_some hk]; exact names1_c s _ (hs s (List.mem_of_getElem? hk)))))) ?_
  refine al_d rfl rfl rfl (by exact opd_not rfl rfl) ?_
  refine al_d rfl rfl rfl (by exact opd_assign rfl rfl) ?_
  refine al_nil ?_
  refine awp_ret ?_
  -- return
  refine aret1 (H' := []) (by exact .inr rfl) rfl (rval_tmp rfl) (Fin.wk (by simp) trivial trivial) ?_
  exact ⟨rfl, rfl⟩
end Go.Proofs.YtdcifaldfmpapaaGreat
end
