/-
  CONTRACTS: view.Names, of a map of which each closure's call is known. Conditions: lengths below 2^40.
-/
import Derived.Test.YtdgoodjhndeojaaE17
set_option linter.unusedVariables false
set_option linter.unusedSimpArgs false
set_option maxRecDepth 100000
namespace Go.Proofs.Ytdgoodjhndeojaa
open Go.Abs

theorem names1_c (s : ByteArray) (b : Bool) (L : List ByteArray) (H : Heap) (h3 : H.get 3 = some (bx 1 110 [.mp 6 0])) (h6 : H.get 6 = some (sob L)) :
    ACalls Try.prog 78 [sv s, bv b, .ref 3 0 0 0] H (fun r H' => r = bv false ∧ H' = (6, sob (if b then sput L s else L)) :: H) := by
  refine ACalls.body Try.func78 rfl Try.ntmps78 (Nat.le_of_ble_eq_true rfl) ?_
  refine awp_seq ?_
  refine awp_region ?_
  refine al_d rfl rfl rfl (by exact opd_assign rfl rfl) ?_
  refine al_nil ?_
  refine awp_seq ?_
  refine awp_seq ?_
  refine awp_region ?_
  refine al_d rfl rfl rfl (by exact opd_move rfl rfl) ?_
  refine al_nil ?_
  refine awp_cond rfl (fun hc1 => ?_) (fun hc1 => ?_)
  -- cond 1
  · subst hc1
    refine awp_region ?_
    refine al_d rfl rfl rfl (by exact opd_load1_ref rfl Try.isAgg110 rfl h3 rfl rfl rfl) ?_
    refine al_d rfl rfl rfl (by exact opd_move rfl rfl) ?_
    refine al_n rfl rfl (by exact x_put_set (.inl rfl) Try.underlying110 Try.underlying9 rfl h6 rfl rfl rfl rfl rfl) ?_
    refine al_nil ?_
    refine awp_seq ?_
    refine awp_region ?_
    refine al_d rfl rfl rfl (by exact opd_assign rfl rfl) ?_
    refine al_nil ?_
    refine awp_ret ?_
    -- return
    exact aret1 (H' := (6, sob (sput L s)) :: H) (.inr rfl) rfl (rval_tmp rfl) Fin.refl ⟨rfl, rfl⟩
  · subst hc1
    refine awp_skip ?_
    refine awp_seq ?_
    refine awp_region ?_
    refine al_d rfl rfl rfl (by exact opd_assign rfl rfl) ?_
    refine al_nil ?_
    refine awp_ret ?_
    -- return
    refine aret1 (H' := (6, sob L) :: H) (.inr rfl) rfl (rval_tmp rfl) (Fin.get' (fun j => ?_)) ⟨rfl, rfl⟩
    cases e : Nat.beq 6 j with
    | true =>
      obtain rfl := Nat.eq_of_beq_eq_true e
      rw [h6]; rfl
    | false => simp [Heap.get, e]
theorem objects1W_c (o : GObj) (L : List ByteArray) (H : Heap) (T : Nat) (ho : okO o) (h23 : H.get 923 = some (bx 1 T [.clo 78 [.ref 3 0 0 0]])) (h12 : H.get 912 = none) (hc : Closed H) (h3 : H.get 3 = some (bx 1 110 [.mp 6 0])) (h6 : H.get 6 = some (sob L)) :
    ACalls Try.prog 86 [av (encObj o), .ref 923 0 0 0] H (fun r H' => r = bv false ∧ H' = (6, sob (if ownB o then sput L (ownS o) else L)) :: H) := by
  have h23' : Heap.get ((912, bx 6 38 ((encObj o).map .pv)) :: H) 923 = some (bx 1 T [.clo 78 [.ref 3 0 0 0]]) := h23
  refine ACalls.body Try.func86 rfl Try.ntmps86 (Nat.le_of_ble_eq_true rfl) ?_
  refine awp_seq ?_
  refine awp_region ?_
  refine al_d rfl rfl rfl (by exact opd_box (id := 912) rfl rfl rfl rfl h12) ?_
  refine al_d rfl rfl rfl (by exact opd_assign rfl rfl) ?_
  refine al_nil ?_
  refine awp_seq ?_
  refine awp_drawc follows ?_
  refine dc_cons (r := ⟨_, some [923], []⟩) (DStep.plain rfl (fun H1 hH => by exact opd_load1_ref rfl Try.isAgg68 rfl ((hH 923 rfl).trans h23') rfl rfl rfl)) rfl ?_
  refine dc_cons (r := ⟨_, some [912], []⟩) (DStep.plain rfl (fun H1 hH => by exact (by first | exact opd_loadn_ref rfl Try.isAgg38 Try.sizeOf38 rfl ((hH _ rfl).trans rfl) rfl rfl (by simp only [List.drop_succ_cons, List.drop_zero, List.take_succ_cons, List.take_zero, List.take_nil, List.map_cons, List.map_nil, List.set_cons_zero, List.set_cons_succ, List.cons_append, List.nil_append, encTag, encObj]; rfl) rfl | exact opd_loadn_pad rfl Try.isAgg38 Try.sizeOf38 rfl (by first | omega | assumption) (by simp only [List.drop_succ_cons, List.drop_zero, List.take_succ_cons, List.take_zero, List.take_nil, List.map_cons, List.map_nil, List.set_cons_zero, List.set_cons_succ, List.cons_append, List.nil_append, encTag, encObj]; rfl) rfl))) rfl ?_
  refine dc_cons (r := ⟨_, some [], []⟩) (DStep.plain rfl (fun H1 hH => by exact opr_call rfl rfl Try.call87 rfl (own_c o _ ho))) rfl ?_
  refine dc_cons (r := ⟨_, some [], []⟩) (DStep.plain rfl (fun H1 hH => by exact opd_extract rfl rfl rfl)) rfl ?_
  refine dc_cons (r := ⟨_, some [], []⟩) (DStep.plain rfl (fun H1 hH => by exact opd_extract rfl rfl rfl)) rfl ?_
  refine dc_cons (r := ⟨_, some [3, 6], [(6, sob (if ownB o then sput L (ownS o) else L))]⟩) (DStep.plain rfl (fun H1 hH => by exact opr_callV rfl rfl rfl (CallsV.clo Try.call78 (names1_c (ownS o) (ownB o) L _ ((hH 3 rfl).trans h3) ((hH 6 rfl).trans h6))))) rfl ?_
  refine dc_cons (r := ⟨_, some [], []⟩) (DStep.plain rfl (fun H1 hH => by exact opd_assign rfl rfl)) rfl ?_
  refine dc_nil ⟨by kernel_rfl, ?_⟩
  refine awp_ret ?_
  -- return
  refine aret1 (H' := (6, sob (if ownB o then sput L (ownS o) else L)) :: H) (.inr rfl) rfl (rval_tmp rfl) (Fin.front' [(6, sob (if ownB o then sput L (ownS o) else L)), (912, bx 6 38 ((encObj o).map .pv))] [(6, sob (if ownB o then sput L (ownS o) else L))] (by simp) (by simp [Heap.get, h12]) (by simp [Heap.get]) ?_ hc (by simp [Heap.get, h12])) ⟨rfl, rfl⟩
  intro p hp
  rw [List.mem_singleton] at hp
  subst hp
  exact sob_clo _ _
/-- The views that have come. -/
def seenV (l : List GObj) : Nat → List ByteArray
  | 0 => []
  | k + 1 => match l[k]? with
    | some o => if ownB o then sput (seenV l k) (ownS o) else seenV l k
    | none => seenV l k
abbrev nmH (l : List GObj) (L : List ByteArray) : Heap := [(923, bx 1 68 [.clo 78 [.ref 3 0 0 0]]), (922, bx 1 24 [.pv (slObjs l)]), (3, bx 1 110 [.mp 6 0]), (6, sob L), (1, bx 1 24 [.pv (slObjs l)])]
theorem filterN_c (l : List GObj) (hl : l.length < 1099511627776) (ho : ∀ o ∈ l, okO o) :
    ACalls Try.prog 85 [.pv (slObjs l), .clo 86 [.ref 923 0 0 0]] (nmH l []) (fun r H' => r = lv [] ∧ H' = nmH l (seenV l l.length)) := by
  have hml : (l.map encObj).length = l.length := List.length_map _
  refine ACalls.body Try.func85 rfl Try.ntmps85 (Nat.le_of_ble_eq_true rfl) ?_
  refine awp_seq ?_
  refine awp_region ?_
  refine al_d rfl rfl rfl (by exact opd_assign rfl rfl) ?_
  refine al_nil ?_
  refine awp_seq ?_
  refine awp_region ?_
  refine al_d rfl rfl rfl (by exact opd_assign_own (id := 905) (sz := 6) (ty := 38) rfl rfl rfl) ?_
  refine al_nil ?_
  refine awp_seq ?_
  refine awp_seq ?_
  refine awp_region ?_
  refine al_d rfl rfl rfl (by exact opd_move rfl rfl) ?_
  refine al_d rfl rfl rfl (by exact (by first | exact opd_len_sl rfl Try.underlying22 rfl | exact opd_len_osl rfl Try.underlying22 rfl rfl rfl)) ?_
  refine al_d rfl rfl rfl (by exact opd_move rfl rfl) ?_
  refine al_nil ?_
  refine awp_block ?_
  -- loop
  refine awp_loop (σ := Nat) (fun k => ([(1, .clo 86 [.ref 923 0 0 0]), (5, .osl 905 0 0 0), (8, .pv (slObjs l)), (9, iv ((l.map encObj).length : Int)), (10, iv (k : Int))], (905, ⟨0, 6, 38, []⟩) :: nmH l (seenV l k))) (fun k => k ≤ l.length) (fun k => l.length - k) 0 (by omega) ?_ ?_
  · exact Ent.e0 ⟨⟨_, rfl, rfl⟩, ⟨_, rfl, rfl⟩, ⟨_, rfl, rfl⟩, ⟨_, rfl, rfl⟩, ⟨_, rfl, rfl⟩, trivial⟩
  · intro k hk
    refine awp_seq ?_
    refine awp_region ?_
    refine al_d rfl rfl rfl (by exact opd_lss rfl rfl rfl) ?_
    refine al_nil ?_
    refine awp_seq ?_
    refine awp_cond rfl (fun hc1 => ?_) (fun hc1 => ?_)
    -- cond 1
    · have hlt : k < l.length := by have := of_decide_eq_true hc1; omega
      obtain ⟨o, hok⟩ := get_of_lt hlt
      have hi := map_get (f := encObj) hok
      have hoo := ho o (List.mem_of_getElem? hok)
      have hse : seenV l (k + 1) = if ownB o then sput (seenV l k) (ownS o) else seenV l k := by rw [seenV, hok]
      refine awp_skip ?_
      refine awp_seq ?_
      refine awp_block ?_
      refine awp_seq ?_
      refine awp_region ?_
      refine al_d rfl rfl rfl (by exact (by first | exact x_index_pad rfl so22 rfl rfl (by omega) (by first | exact Int.toNat_natCast _ | rfl) (by assumption) rfl | exact x_index_osl rfl so22 rfl rfl rfl rfl rfl (by omega) (by first | exact Int.toNat_natCast _ | rfl) (by first | omega | assumption) rfl)) ?_
      refine al_d rfl rfl rfl (by exact (by first | exact opd_loadn_ref rfl Try.isAgg38 Try.sizeOf38 rfl rfl rfl rfl (by simp only [List.drop_succ_cons, List.drop_zero, List.take_succ_cons, List.take_zero, List.take_nil, List.map_cons, List.map_nil, List.set_cons_zero, List.set_cons_succ, List.cons_append, List.nil_append, encTag, encObj]; rfl) rfl | exact opd_loadn_pad rfl Try.isAgg38 Try.sizeOf38 rfl (by first | omega | assumption) (by simp only [List.drop_succ_cons, List.drop_zero, List.take_succ_cons, List.take_zero, List.take_nil, List.map_cons, List.map_nil, List.set_cons_zero, List.set_cons_succ, List.cons_append, List.nil_append, encTag, encObj]; rfl) rfl)) ?_
      refine al_d rfl rfl rfl (by exact x_alloc (id := 907) rfl zo38 rfl rfl) ?_
      refine al_n rfl rfl (by exact (by first | exact x_store_all rfl Try.sizeOf38 rfl rfl rfl rfl rfl rfl rfl rfl | exact x_store rfl Try.sizeOf38 rfl rfl rfl rfl rfl rfl rfl (by simp only [List.length_cons, List.length_nil]; omega) (by simp only [List.drop_succ_cons, List.drop_zero, List.take_succ_cons, List.take_zero, List.take_nil, List.map_cons, List.map_nil, List.set_cons_zero, List.set_cons_succ, List.cons_append, List.nil_append, encTag, encObj]; rfl) (by simp only [List.drop_succ_cons, List.drop_zero, List.take_succ_cons, List.take_zero, List.take_nil, List.map_cons, List.map_nil, List.set_cons_zero, List.set_cons_succ, List.cons_append, List.nil_append, encTag, encObj]; rfl))) ?_
      refine al_nil ?_
      refine awp_seq ?_
      refine awp_region ?_
      refine al_d rfl rfl rfl (by exact opd_move rfl rfl) ?_
      refine al_d rfl rfl rfl (by exact (by first | exact opd_loadn_ref rfl Try.isAgg38 Try.sizeOf38 rfl rfl rfl rfl (by simp only [List.drop_succ_cons, List.drop_zero, List.take_succ_cons, List.take_zero, List.take_nil, List.map_cons, List.map_nil, List.set_cons_zero, List.set_cons_succ, List.cons_append, List.nil_append, encTag, encObj]; rfl) rfl | exact opd_loadn_pad rfl Try.isAgg38 Try.sizeOf38 rfl (by first | omega | assumption) (by simp only [List.drop_succ_cons, List.drop_zero, List.take_succ_cons, List.take_zero, List.take_nil, List.map_cons, List.map_nil, List.set_cons_zero, List.set_cons_succ, List.cons_append, List.nil_append, encTag, encObj]; rfl) rfl)) ?_
      refine al_d rfl rfl rfl (by exact opr_callV rfl rfl rfl (CallsV.clo Try.call86 (objects1W_c o (seenV l k) _ 68 hoo rfl rfl (Closed.of (by intro p hp r hr a ha; simp only [List.mem_cons, List.not_mem_nil, or_false] at hp; rcases hp with rfl | rfl | rfl | rfl | rfl | rfl | rfl | rfl <;> first | exact sob_clo _ _ r hr a ha | (simp at hr; done) | (simp at hr; subst hr; revert a ha; first | (simp [encObj]; done) | (simp [encObj]; rfl)))) rfl rfl))) ?_
      refine al_nil ?_
      refine awp_cond rfl (fun hc2 => ?_) (fun hc2 => ?_)
      -- cond 2
      · cases hc2
      · skip
        refine awp_skip ?_
        refine awp_region ?_
        refine al_d rfl rfl rfl (by exact opd_add rfl rfl rfl (by first | exact w64 (by omega) (by omega) | exact wu8 (by omega) (by omega) | rfl)) ?_
        refine al_d rfl rfl rfl (by exact opd_move rfl rfl) ?_
        refine al_nil ?_
        -- end of a round
        refine ⟨k + 1, by omega, by omega, ?_⟩
        rw [hse]
        exact (Ent.wk ⟨⟨_, rfl, rfl⟩, (by first | (simp; done) | (simp; rfl) | exact clo_map _ _ _ | exact sob_clo _ _), ⟨_, rfl, rfl⟩, (by first | (simp; done) | (simp; rfl) | exact clo_map _ _ _ | exact sob_clo _ _), ⟨_, rfl, rfl⟩, (by first | (simp; done) | (simp; rfl) | exact clo_map _ _ _ | exact sob_clo _ _), ⟨_, rfl, rfl⟩, (by first | (simp; done) | (simp; rfl) | exact clo_map _ _ _ | exact sob_clo _ _), ⟨_, rfl, rfl⟩, (by first | (simp; done) | (simp; rfl) | exact clo_map _ _ _ | exact sob_clo _ _), trivial⟩ ⟨⟨_, rfl, rfl⟩, (by first | (simp; done) | (simp; rfl) | exact clo_map _ _ _ | exact sob_clo _ _), ⟨_, rfl, rfl⟩, (by first | (simp; done) | (simp; rfl) | exact clo_map _ _ _ | exact sob_clo _ _), ⟨_, rfl, rfl⟩, (by first | (simp; done) | (simp; rfl) | exact clo_map _ _ _ | exact sob_clo _ _), ⟨_, rfl, rfl⟩, (by first | (simp; done) | (simp; rfl) | exact clo_map _ _ _ | exact sob_clo _ _), ⟨_, rfl, rfl⟩, (by first | (simp; done) | (simp; rfl) | exact clo_map _ _ _ | exact sob_clo _ _), ⟨_, rfl, rfl⟩, (by first | (simp; done) | (simp; rfl) | exact clo_map _ _ _ | exact sob_clo _ _), trivial⟩ ⟨rfl, rfl, rfl, rfl, rfl, trivial⟩)
    · have hge : k = l.length := by have := of_decide_eq_false hc1; omega
      subst hge
      refine awp_exit ?_
      refine awp_seq ?_
      refine awp_region ?_
      refine al_d rfl rfl rfl (by exact opd_move rfl rfl) ?_
      refine al_d rfl rfl rfl (by exact opd_assign rfl rfl) ?_
      refine al_nil ?_
      refine awp_ret ?_
      -- return
      refine aret1 (H' := nmH l (seenV l l.length)) (.inr rfl) rfl (rval_tmp rfl) (Fin.fz (id := 905) [] rfl rfl (.osl rfl) rfl ⟨⟨_, rfl, rfl⟩, by (simp; rfl), ⟨_, rfl, rfl⟩, by simp, ⟨_, rfl, rfl⟩, by (simp; rfl), ⟨_, rfl, rfl⟩, sob_clo _ _, ⟨_, rfl, rfl⟩, by simp, trivial⟩ ⟨rfl, rfl, rfl, rfl, rfl, trivial⟩) ⟨rfl, rfl⟩
theorem objectsN_c (l : List GObj) (hm : okM l) (hl : l.length < 1099511627776) (hg : gMap l = true) :
    ACalls Try.prog 44 [.agg [.pv (slObjs l)], .clo 78 [.ref 3 0 0 0]] [(3, bx 1 110 [.mp 6 0]), (6, sob []), (1, bx 1 24 [.pv (slObjs l)])]
      (fun r H' => r = lv [] ∧ H' = [(3, bx 1 110 [.mp 6 0]), (6, sob (seenV l l.length)), (1, bx 1 24 [.pv (slObjs l)])]) := by
  refine ACalls.body Try.func44 rfl Try.ntmps44 (Nat.le_of_ble_eq_true rfl) ?_
  refine awp_seq ?_
  refine awp_region ?_
  refine al_d rfl rfl rfl (by exact opd_box (id := 922) rfl rfl rfl rfl rfl) ?_
  refine al_d rfl rfl rfl (by exact opd_box (id := 923) rfl rfl rfl rfl rfl) ?_
  refine al_d rfl rfl rfl (by exact opd_assign rfl rfl) ?_
  refine al_nil ?_
  refine awp_seq ?_
  refine awp_seq ?_
  refine awp_region ?_
  refine al_d rfl rfl rfl (by exact (by first | exact opd_loadn_ref rfl Try.isAgg24 Try.sizeOf24 rfl rfl rfl rfl (by simp only [List.drop_succ_cons, List.drop_zero, List.take_succ_cons, List.take_zero, List.take_nil, List.map_cons, List.map_nil, List.set_cons_zero, List.set_cons_succ, List.cons_append, List.nil_append, encTag, encObj]; rfl) rfl | exact opd_loadn_pad rfl Try.isAgg24 Try.sizeOf24 rfl (by first | omega | assumption) (by simp only [List.drop_succ_cons, List.drop_zero, List.take_succ_cons, List.take_zero, List.take_nil, List.map_cons, List.map_nil, List.set_cons_zero, List.set_cons_succ, List.cons_append, List.nil_append, encTag, encObj]; rfl) rfl)) ?_
  refine al_d rfl rfl rfl (by exact opr_call rfl rfl Try.call13 rfl (atlasValid_c l _ hm)) ?_
  refine al_d rfl rfl rfl (by exact opd_not rfl rfl) ?_
  refine al_nil ?_
  refine awp_cond rfl (fun hc1 => ?_) (fun hc1 => ?_)
  -- cond 1
  · have h : (!gMap l) = true := hc1
    rw [hg] at h; cases h
  · skip
    refine awp_skip ?_
    refine awp_seq ?_
    refine awp_region ?_
    refine al_d rfl rfl rfl (by exact (by first | exact opd_field_ref rfl fo24_0 rfl rfl rfl rfl | exact opd_field_pad rfl fo24_0 rfl rfl)) ?_
    refine al_d rfl rfl rfl (by exact (by first | exact opd_load1_ref rfl Try.isAgg22 rfl rfl rfl rfl rfl | exact opd_load1_pad rfl Try.isAgg22 rfl (by first | omega | assumption) rfl)) ?_
    refine al_d rfl rfl rfl (by exact opd_makeFunc rfl rfl) ?_
    refine al_d rfl rfl rfl (by exact opr_call rfl rfl Try.call85 rfl (filterN_c l hl hm.2)) ?_
    refine al_d rfl rfl rfl (by exact opd_assign rfl rfl) ?_
    refine al_nil ?_
    refine awp_ret ?_
    -- return
    refine aret1 (H' := [(3, bx 1 110 [.mp 6 0]), (6, sob (seenV l l.length)), (1, bx 1 24 [.pv (slObjs l)])]) (.inr rfl) rfl (rval_tmp rfl) (Fin.wk (by first | (simp; done) | (simp; rfl)) ⟨⟨_, rfl, rfl⟩, (by first | (simp; done) | (simp; rfl) | exact clo_map _ _ _ | exact sob_clo _ _), ⟨_, rfl, rfl⟩, (by first | (simp; done) | (simp; rfl) | exact clo_map _ _ _ | exact sob_clo _ _), ⟨_, rfl, rfl⟩, (by first | (simp; done) | (simp; rfl) | exact clo_map _ _ _ | exact sob_clo _ _), trivial⟩ ⟨rfl, rfl, rfl, trivial⟩) ⟨rfl, rfl⟩
end Go.Proofs.Ytdgoodjhndeojaa
