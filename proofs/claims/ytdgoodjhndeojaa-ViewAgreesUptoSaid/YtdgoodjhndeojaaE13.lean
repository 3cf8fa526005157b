/-
  CONTRACTS: view.filter, objects, Of, Common. Conditions: lengths below 2^62.
-/
import Derived.Test.YtdgoodjhndeojaaE12
import Derived.Test.YtdgoodjhndeojaaAbs23
set_option linter.unusedVariables false
set_option linter.unusedSimpArgs false
set_option maxRecDepth 100000
namespace Go.Proofs.Ytdgoodjhndeojaa
open Go.Abs
abbrev obRows (l : List GObj) : List (List AV) := l.map (fun e => (encObj e).map .pv)
theorem rows_of {α : Type} (f : α → List PV) (l : List α) : l.map (fun e => (f e).map AV.pv) = (l.map f).map (·.map .pv) := by rw [List.map_map]; rfl
theorem filter_take {α : Type} (p : α → Bool) {l : List α} {k : Nat} {a : α} (h : l[k]? = some a) : (l.take (k + 1)).filter p = (l.take k).filter p ++ (if p a then [a] else []) := by
  rw [List.take_add_one, h, List.filter_append]
  simp only [Option.toList_some]
  congr 1
  cases e : p a <;> simp [e]
theorem len_snoc {α : Type} (l : List α) (a : α) : l.length + 1 = (l ++ [a]).length := by simp
theorem filter_c (fv : AV) (l : List GObj) (p : GObj → Bool) (K : Heap) (hl : l.length < 1099511627776) (hf5 : K.get 905 = none) (hf7 : K.get 907 = none) (hc : Closed K) (hfc : Clo K fv)
    (hf : ∀ o, o ∈ l → ∀ D, lo D 910 → Closed (D ++ K) → CallsV Try.prog fv [av (encObj o)] (D ++ K) (fun r H' => r = bv (p o) ∧ H' = D ++ K)) :
    ACalls Try.prog 85 [.pv (slObjs l), fv] K (fun r H' => r = .pv (slObjs (l.filter p)) ∧ H' = K) := by
  have hml : (l.map encObj).length = l.length := List.length_map _
  refine ACalls.body Try.func85 rfl Try.ntmps85 (Nat.le_of_ble_eq_true rfl) ?_
  refine awp_seq ?_
  refine awp_region ?_
  refine al_d rfl rfl rfl (by exact opd_assign rfl rfl) ?_
  refine al_nil ?_
  refine awp_seq ?_
  refine awp_region ?_
  refine al_d rfl rfl rfl (by exact opd_assign_own (id := 905) (sz := 6) (ty := 38) rfl hf5 rfl) ?_
  refine al_nil ?_
  refine awp_seq ?_
  refine awp_seq ?_
  refine awp_region ?_
  refine al_d rfl rfl rfl (by exact opd_move rfl rfl) ?_
  refine al_d rfl rfl rfl (by exact (by first | exact opd_len_sl rfl Try.underlying22 rfl | exact opd_len_osl rfl Try.underlying22 rfl rfl rfl)) ?_
  refine al_d rfl rfl rfl (by exact opd_move rfl rfl) ?_
  refine al_nil ?_
  refine awp_block ?_
  -- loop
  refine awp_loop2 (fun (k : Nat) (g : Nat) => ([(1, fv), (5, .osl 905 g 0 ((l.take k).filter p).length), (8, .pv (slObjs l)), (9, iv ((l.map encObj).length : Int)), (10, iv (k : Int))], (905, ⟨g, 6, 38, obRows ((l.take k).filter p)⟩) :: K)) (fun k g => k ≤ l.length) (fun k g => l.length - k) 0 0 (by omega) ?_ ?_
  · exact Ent.e0 ⟨⟨_, rfl, rfl⟩, ⟨_, rfl, rfl⟩, ⟨_, rfl, rfl⟩, ⟨_, rfl, rfl⟩, ⟨_, rfl, rfl⟩, trivial⟩
  · intro k g hk
    refine awp_seq ?_
    refine awp_region ?_
    refine al_d rfl rfl rfl (by exact opd_lss rfl rfl rfl) ?_
    refine al_nil ?_
    refine awp_seq ?_
    refine awp_cond rfl (fun hc1 => ?_) (fun hc1 => ?_)
    -- cond 1
    · have hlt : k < l.length := by have := of_decide_eq_true hc1; omega
      obtain ⟨o, ho⟩ := get_of_lt hlt
      have hi := map_get (f := encObj) ho
      have hfo := hf o (List.mem_of_getElem? ho) [(907, bx 6 38 ((encObj o).map .pv)), (907, bx 6 38 [sv sNil, iv 0, iv 0, iv 0, lv [], lv []]), (905, ⟨g, 6, 38, obRows ((l.take k).filter p)⟩)] (lo_cons (lo_cons (lo_cons (lo_nil _) (by omega) (by omega)) (by omega) (by omega)) (by omega) (by omega)) (Closed.cons (by simp [encObj]) (Closed.cons (by simp) (Closed.cons (clo_map _ _ _) hc)))
-- (lo_cons (lo_nil _) (by omega) (by omega)) (by omega) (by omega))
      have hft := filter_take p ho
      have hfl : ((l.take k).filter p).length ≤ k := by have := List.length_filter_le p (l.take k); rw [List.length_take] at this; omega
      refine awp_skip ?_
      refine awp_seq ?_
      refine awp_block ?_
      refine awp_seq ?_
      refine awp_region ?_
      refine al_d rfl rfl rfl (by exact (by first | exact x_index_pad rfl so22 rfl rfl (by omega) (by first | exact Int.toNat_natCast _ | rfl) (by assumption) rfl | exact x_index_osl rfl so22 rfl rfl rfl rfl rfl (by omega) (by first | exact Int.toNat_natCast _ | rfl) (by first | omega | assumption) rfl)) ?_
      refine al_d rfl rfl rfl (by exact (by first | exact opd_loadn_ref rfl Try.isAgg38 Try.sizeOf38 rfl rfl rfl rfl (by simp only [List.drop_succ_cons, List.drop_zero, List.take_succ_cons, List.take_zero, List.take_nil, List.map_cons, List.map_nil, List.set_cons_zero, List.set_cons_succ, List.cons_append, List.nil_append, encTag, encObj]; rfl) rfl | exact opd_loadn_pad rfl Try.isAgg38 Try.sizeOf38 rfl (by first | omega | assumption) (by simp only [List.drop_succ_cons, List.drop_zero, List.take_succ_cons, List.take_zero, List.take_nil, List.map_cons, List.map_nil, List.set_cons_zero, List.set_cons_succ, List.cons_append, List.nil_append, encTag, encObj]; rfl) rfl)) ?_
      refine al_d rfl rfl rfl (by exact x_alloc (id := 907) rfl zo38 rfl hf7) ?_
      refine al_n rfl rfl (by exact (by first | exact x_store_all rfl Try.sizeOf38 rfl rfl rfl rfl rfl rfl rfl rfl | exact x_store rfl Try.sizeOf38 rfl rfl rfl rfl rfl rfl rfl (by simp only [List.length_cons, List.length_nil]; omega) (by simp only [List.drop_succ_cons, List.drop_zero, List.take_succ_cons, List.take_zero, List.take_nil, List.map_cons, List.map_nil, List.set_cons_zero, List.set_cons_succ, List.cons_append, List.nil_append, encTag, encObj]; rfl) (by simp only [List.drop_succ_cons, List.drop_zero, List.take_succ_cons, List.take_zero, List.take_nil, List.map_cons, List.map_nil, List.set_cons_zero, List.set_cons_succ, List.cons_append, List.nil_append, encTag, encObj]; rfl))) ?_
      refine al_nil ?_
      refine awp_seq ?_
      refine awp_region ?_
      refine al_d rfl rfl rfl (by exact opd_move rfl rfl) ?_
      refine al_d rfl rfl rfl (by exact (by first | exact opd_loadn_ref rfl Try.isAgg38 Try.sizeOf38 rfl rfl rfl rfl (by simp only [List.drop_succ_cons, List.drop_zero, List.take_succ_cons, List.take_zero, List.take_nil, List.map_cons, List.map_nil, List.set_cons_zero, List.set_cons_succ, List.cons_append, List.nil_append, encTag, encObj]; rfl) rfl | exact opd_loadn_pad rfl Try.isAgg38 Try.sizeOf38 rfl (by first | omega | assumption) (by simp only [List.drop_succ_cons, List.drop_zero, List.take_succ_cons, List.take_zero, List.take_nil, List.map_cons, List.map_nil, List.set_cons_zero, List.set_cons_succ, List.cons_append, List.nil_append, encTag, encObj]; rfl) rfl)) ?_
      refine al_d rfl rfl rfl (by exact opr_callV rfl rfl rfl (hfo)) ?_
      refine al_nil ?_
      refine awp_cond rfl (fun hc2 => ?_) (fun hc2 => ?_)
      -- cond 2
      · rw [hc2, if_pos rfl] at hft
        refine awp_region ?_
        refine al_d rfl rfl rfl (by exact opd_move rfl rfl) ?_
        refine al_d rfl rfl rfl (by exact (by first | exact opd_loadn_ref rfl Try.isAgg38 Try.sizeOf38 rfl rfl rfl rfl (by simp only [List.drop_succ_cons, List.drop_zero, List.take_succ_cons, List.take_zero, List.take_nil, List.map_cons, List.map_nil, List.set_cons_zero, List.set_cons_succ, List.cons_append, List.nil_append, encTag, encObj]; rfl) rfl | exact opd_loadn_pad rfl Try.isAgg38 Try.sizeOf38 rfl (by first | omega | assumption) (by simp only [List.drop_succ_cons, List.drop_zero, List.take_succ_cons, List.take_zero, List.take_nil, List.map_cons, List.map_nil, List.set_cons_zero, List.set_cons_succ, List.cons_append, List.nil_append, encTag, encObj]; rfl) rfl)) ?_
        refine al_d rfl rfl rfl (by exact x_buildSlice [encObj o] rfl so22 rfl rfl rfl rfl rfl (by simp [encObj])) ?_
        refine al_d rfl rfl rfl (by exact (by first | exact x_append rfl so22 ei38 rfl rfl rfl rfl rfl (List.length_map _) rfl (by simp [encObj]) (rfl : _ = 1) (by omega) (len_snoc _ o) ((List.map_append (l₂ := [o])).symm) | exact x_append_osl rfl so22 ei38 rfl rfl rfl rfl rfl (List.length_map _) rfl rfl rfl rfl (by simp [encObj]) (rfl : _ = 1) (by omega) (len_snoc _ o) ((List.map_append (l₂ := [o])).symm))) ?_
        refine al_d rfl rfl rfl (by exact opd_assign rfl rfl) ?_
        refine al_nil ?_
        refine awp_region ?_
        refine al_d rfl rfl rfl (by exact opd_add rfl rfl rfl (by first | exact w64 (by omega) (by omega) | exact wu8 (by omega) (by omega) | rfl)) ?_
        refine al_d rfl rfl rfl (by exact opd_move rfl rfl) ?_
        refine al_nil ?_
        -- end of a round
        refine ⟨k + 1, g + 1, by omega, by omega, ?_⟩
        rw [hft]
        exact Ent.front [(905, ⟨g + 1, 6, 38, obRows ((l.take k).filter p ++ [o])⟩), (907, bx 6 38 ((encObj o).map .pv)), (907, bx 6 38 [sv sNil, iv 0, iv 0, iv 0, lv [], lv []]), (905, ⟨g, 6, 38, obRows ((l.take k).filter p)⟩)] [(905, ⟨g + 1, 6, 38, obRows ((l.take k).filter p ++ [o])⟩)] ⟨⟨_, rfl, rfl⟩, (by first | (simp; done) | (simp [Heap.get]; done) | exact hfc.cons), ⟨_, rfl, rfl⟩, (by first | (simp; done) | (simp [Heap.get]; done) | exact hfc.cons), ⟨_, rfl, rfl⟩, (by first | (simp; done) | (simp [Heap.get]; done) | exact hfc.cons), ⟨_, rfl, rfl⟩, (by first | (simp; done) | (simp [Heap.get]; done) | exact hfc.cons), ⟨_, rfl, rfl⟩, (by first | (simp; done) | (simp [Heap.get]; done) | exact hfc.cons), trivial⟩ (by simp [hf5, hf7]) (by rintro p (_ | ⟨_, ⟨⟩⟩); rfl) (by rintro p (_ | ⟨_, ⟨⟩⟩); exact clo_map _ _ _) hc (by simp [hf5, hf7])
      · rw [hc2, if_neg (by simp), List.append_nil] at hft
        refine awp_skip ?_
        refine awp_region ?_
        refine al_d rfl rfl rfl (by exact opd_add rfl rfl rfl (by first | exact w64 (by omega) (by omega) | exact wu8 (by omega) (by omega) | rfl)) ?_
        refine al_d rfl rfl rfl (by exact opd_move rfl rfl) ?_
        refine al_nil ?_
        -- end of a round
        refine ⟨k + 1, g, by omega, by omega, ?_⟩
        rw [hft]
        exact Ent.front [(907, bx 6 38 ((encObj o).map .pv)), (907, bx 6 38 [sv sNil, iv 0, iv 0, iv 0, lv [], lv []]), (905, ⟨g, 6, 38, obRows ((l.take k).filter p)⟩)] [(905, ⟨g, 6, 38, obRows ((l.take k).filter p)⟩)] ⟨⟨_, rfl, rfl⟩, (by first | (simp; done) | (simp [Heap.get]; done) | exact hfc.cons), ⟨_, rfl, rfl⟩, (by first | (simp; done) | (simp [Heap.get]; done) | exact hfc.cons), ⟨_, rfl, rfl⟩, (by first | (simp; done) | (simp [Heap.get]; done) | exact hfc.cons), ⟨_, rfl, rfl⟩, (by first | (simp; done) | (simp [Heap.get]; done) | exact hfc.cons), ⟨_, rfl, rfl⟩, (by first | (simp; done) | (simp [Heap.get]; done) | exact hfc.cons), trivial⟩ (by simp [hf5, hf7]) (by rintro p (_ | ⟨_, ⟨⟩⟩); rfl) (by rintro p (_ | ⟨_, ⟨⟩⟩); exact clo_map _ _ _) hc (by simp [hf5, hf7])
    · have hge : k = l.length := by have := of_decide_eq_false hc1; omega
      subst hge
      rw [List.take_length]
      refine awp_exit ?_
      refine awp_seq ?_
      refine awp_region ?_
      refine al_d rfl rfl rfl (by exact opd_move rfl rfl) ?_
      refine al_d rfl rfl rfl (by exact opd_assign rfl rfl) ?_
      refine al_nil ?_
      refine awp_ret ?_
      -- return
      refine aret1 (H' := K) (.inr rfl) rfl (rval_tmp rfl) (Fin.slice [(905, ⟨g, 6, 38, obRows (l.filter p)⟩)] ((l.filter p).map encObj) rfl rfl (rows_of encObj _) (List.length_map _) hc (by simp [hf5]) (by simp [hf5]) hf5) ⟨rfl, rfl⟩
end Go.Proofs.Ytdgoodjhndeojaa
