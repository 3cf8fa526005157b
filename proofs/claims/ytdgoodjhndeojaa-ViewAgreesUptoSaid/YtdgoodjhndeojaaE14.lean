/-
  CONTRACTS: view.objects, Of, Common, Disputed. Conditions: lengths below 2^40.
-/
import Derived.Test.YtdgoodjhndeojaaE13
set_option linter.unusedVariables false
set_option linter.unusedSimpArgs false
set_option maxRecDepth 100000
namespace Go.Proofs.Ytdgoodjhndeojaa
open Go.Abs
theorem objects1_c (fv : AV) (o : GObj) (b : Bool) (H : Heap) (T : Nat) (ho : okO o) (h23 : H.get 923 = some (bx 1 T [fv])) (h12 : H.get 912 = none) (hc : Closed H)
    (hf : CallsV Try.prog fv [sv (ownS o), bv (ownB o)] ((912, bx 6 38 ((encObj o).map .pv)) :: H) (fun r H' => r = bv b ∧ H' = (912, bx 6 38 ((encObj o).map .pv)) :: H)) :
    ACalls Try.prog 86 [av (encObj o), .ref 923 0 0 0] H (fun r H' => r = bv b ∧ H' = H) := by
  have h23' : Heap.get ((912, bx 6 38 ((encObj o).map .pv)) :: H) 923 = some (bx 1 T [fv]) := h23
  refine ACalls.body Try.func86 rfl Try.ntmps86 (Nat.le_of_ble_eq_true rfl) ?_
  refine awp_seq ?_
  refine awp_region ?_
  refine al_d rfl rfl rfl (by exact opd_box (id := 912) rfl rfl rfl rfl h12) ?_
  refine al_d rfl rfl rfl (by exact opd_assign rfl rfl) ?_
  refine al_nil ?_
  refine awp_seq ?_
  refine awp_drawc follows ?_
  refine dc_cons (DStep.q rfl (by exact opd_load1_ref rfl Try.isAgg68 rfl h23' rfl rfl rfl)) rfl ?_
  refine dc_cons (DStep.q rfl (by exact (by first | exact opd_loadn_ref rfl Try.isAgg38 Try.sizeOf38 rfl rfl rfl rfl (by simp only [List.drop_succ_cons, List.drop_zero, List.take_succ_cons, List.take_zero, List.take_nil, List.map_cons, List.map_nil, List.set_cons_zero, List.set_cons_succ, List.cons_append, List.nil_append, encTag, encObj]; rfl) rfl | exact opd_loadn_pad rfl Try.isAgg38 Try.sizeOf38 rfl (by first | omega | assumption) (by simp only [List.drop_succ_cons, List.drop_zero, List.take_succ_cons, List.take_zero, List.take_nil, List.map_cons, List.map_nil, List.set_cons_zero, List.set_cons_succ, List.cons_append, List.nil_append, encTag, encObj]; rfl) rfl))) rfl ?_
  refine dc_cons (DStep.q rfl (by exact opr_call rfl rfl Try.call87 rfl (own_c o _ ho))) rfl ?_
  refine dc_cons (DStep.q rfl (by exact opd_extract rfl rfl rfl)) rfl ?_
  refine dc_cons (DStep.q rfl (by exact opd_extract rfl rfl rfl)) rfl ?_
  refine dc_cons (DStep.q rfl (by exact opr_callV rfl rfl rfl (hf))) rfl ?_
  refine dc_cons (DStep.q rfl (by exact opd_assign rfl rfl)) rfl ?_
  refine dc_nil ⟨by kernel_rfl, ?_⟩
  refine awp_ret ?_
  -- return
  refine aret1 (H' := H) (.inr rfl) rfl (rval_tmp rfl) (Fin.pops [(912, bx 6 38 ((encObj o).map .pv))] (by simp) hc (by simp [h12])) ⟨rfl, rfl⟩
theorem objects_c (fv : AV) (m : List GObj) (q : GObj → Bool) (K : Heap) (hm : okM m) (hl : m.length < 1099511627776) (hK : clear K) (hc : Closed K) (hfc : Clo K fv) (hfa : acl fv = some [fv])
    (hw : ∀ o, o ∈ m → ∀ D, lo D 930 → Closed (D ++ K) → CallsV Try.prog fv [sv (ownS o), bv (ownB o)] (D ++ K) (fun r H' => r = bv (q o) ∧ H' = D ++ K)) :
    ACalls Try.prog 44 [.agg [.pv (slObjs m)], fv] K (fun r H' => r = .pv (slObjs (gObjects m q)) ∧ H' = K) := by
  have hf2 := hK 922 (by omega) (by omega)
  have hf3 := hK 923 (by omega) (by omega)
  have hf5 := hK 905 (by omega) (by omega)
  have hf7 := hK 907 (by omega) (by omega)
  have hf12 := hK 912 (by omega) (by omega)
  refine ACalls.body Try.func44 rfl Try.ntmps44 (Nat.le_of_ble_eq_true rfl) ?_
  refine awp_seq ?_
  refine awp_region ?_
  refine al_d rfl rfl rfl (by exact opd_box (id := 922) rfl rfl rfl rfl hf2) ?_
  refine al_d rfl rfl rfl (by exact opd_box (id := 923) rfl rfl hfa rfl hf3) ?_
  refine al_d rfl rfl rfl (by exact opd_assign rfl rfl) ?_
  refine al_nil ?_
  refine awp_seq ?_
  refine awp_seq ?_
  refine awp_region ?_
  refine al_d rfl rfl rfl (by exact (by first | exact opd_loadn_ref rfl Try.isAgg24 Try.sizeOf24 rfl rfl rfl rfl (by simp only [List.drop_succ_cons, List.drop_zero, List.take_succ_cons, List.take_zero, List.take_nil, List.map_cons, List.map_nil, List.set_cons_zero, List.set_cons_succ, List.cons_append, List.nil_append, encTag, encObj]; rfl) rfl | exact opd_loadn_pad rfl Try.isAgg24 Try.sizeOf24 rfl (by first | omega | assumption) (by simp only [List.drop_succ_cons, List.drop_zero, List.take_succ_cons, List.take_zero, List.take_nil, List.map_cons, List.map_nil, List.set_cons_zero, List.set_cons_succ, List.cons_append, List.nil_append, encTag, encObj]; rfl) rfl)) ?_
  refine al_d rfl rfl rfl (by exact opr_call rfl rfl Try.call13 rfl (atlasValid_c m _ hm)) ?_
  refine al_d rfl rfl rfl (by exact opd_not rfl rfl) ?_
  refine al_nil ?_
  refine awp_cond rfl (fun hc1 => ?_) (fun hc1 => ?_)
  -- cond 1
  · have hg : gObjects m q = [] := by
      have : gMap m = false := by
        have h : (!gMap m) = true := hc1
        simpa using h
      rw [gObjects, this]; rfl
    refine awp_seq ?_
    refine awp_region ?_
    refine al_d rfl rfl rfl (by exact opd_assign rfl rfl) ?_
    refine al_nil ?_
    refine awp_ret ?_
    -- return
    refine aret1 (H' := K) (.inr rfl) rfl (rval_tmp rfl) (Fin.pops [(923, bx 1 68 [fv]), (922, bx 1 24 [.pv (slObjs m)])] (by simp) hc (by simp [hf2, hf3])) ⟨by rw [hg]; rfl, rfl⟩
  · have hg : gObjects m q = m.filter q := by
      have : gMap m = true := by
        have h : (!gMap m) = false := hc1
        simpa using h
      rw [gObjects, this]; rfl
    have hcK : Closed ((923, bx 1 68 [fv]) :: (922, bx 1 24 [.pv (slObjs m)]) :: K) := by
      refine Closed.app (D := [(923, bx 1 68 [fv]), (922, bx 1 24 [.pv (slObjs m)])]) ?_ hc
      intro p hp r hr a ha
      simp only [List.mem_cons, List.not_mem_nil, or_false] at hp
      rcases hp with rfl | rfl
      · simp only [List.mem_cons, List.not_mem_nil, or_false] at hr
        subst hr
        simp only [List.mem_cons, List.not_mem_nil, or_false] at ha
        subst ha
        exact hfc.app
      · simp only [List.mem_cons, List.not_mem_nil, or_false] at hr
        subst hr
        simp only [List.mem_cons, List.not_mem_nil, or_false] at ha
        subst ha
        exact .pv _
    have hcl : ∀ o, o ∈ m → ∀ D, lo D 910 → Closed (D ++ ((923, bx 1 68 [fv]) :: (922, bx 1 24 [.pv (slObjs m)]) :: K)) → CallsV Try.prog (.clo 86 [.ref 923 0 0 0]) [av (encObj o)] (D ++ ((923, bx 1 68 [fv]) :: (922, bx 1 24 [.pv (slObjs m)]) :: K)) (fun r H' => r = bv (q o) ∧ H' = D ++ ((923, bx 1 68 [fv]) :: (922, bx 1 24 [.pv (slObjs m)]) :: K)) := by
      intro o ho D hD hcD
      have e : (912, bx 6 38 ((encObj o).map .pv)) :: (D ++ ((923, bx 1 68 [fv]) :: (922, bx 1 24 [.pv (slObjs m)]) :: K)) = ((912, bx 6 38 ((encObj o).map .pv)) :: D ++ [(923, bx 1 68 [fv]), (922, bx 1 24 [.pv (slObjs m)])]) ++ K := by simp
      have hcD' := Closed.cons (i := 912) (o := bx 6 38 ((encObj o).map .pv)) (by simp [encObj]) hcD
      refine CallsV.clo Try.call86 (objects1_c fv o (q o) _ 68 (hm.2 o ho) (by rw [lo_app hD (.inr (by omega))]; rfl) (by rw [lo_app hD (.inr (by omega))]; exact hf12) hcD ?_)
      rw [e] at hcD' ⊢
      exact hw o ho _ (lo_append (lo_cons (lo_mono hD (by omega)) (by omega) (by omega)) (lo_cons (lo_cons (lo_nil _) (by omega) (by omega)) (by omega) (by omega))) hcD'
    refine awp_skip ?_
    refine awp_seq ?_
    refine awp_region ?_
    refine al_d rfl rfl rfl (by exact (by first | exact opd_field_ref rfl fo24_0 rfl rfl rfl rfl | exact opd_field_pad rfl fo24_0 rfl rfl)) ?_
    refine al_d rfl rfl rfl (by exact (by first | exact opd_load1_ref rfl Try.isAgg22 rfl rfl rfl rfl rfl | exact opd_load1_pad rfl Try.isAgg22 rfl (by first | omega | assumption) rfl)) ?_
    refine al_d rfl rfl rfl (by exact opd_makeFunc rfl rfl) ?_
    refine al_d rfl rfl rfl (by exact opr_call rfl rfl Try.call85 rfl (filter_c (.clo 86 [.ref 923 0 0 0]) m q ((923, bx 1 68 [fv]) :: (922, bx 1 24 [.pv (slObjs m)]) :: K) hl hf5 hf7 hcK (.clo (by simp [Heap.get])) hcl)) ?_
    refine al_d rfl rfl rfl (by exact opd_assign rfl rfl) ?_
    refine al_nil ?_
    refine awp_ret ?_
    -- return
    refine aret1 (H' := K) (.inr rfl) rfl (rval_tmp rfl) (Fin.pops [(923, bx 1 68 [fv]), (922, bx 1 24 [.pv (slObjs m)])] (by simp) hc (by simp [hf2, hf3])) ⟨by rw [hg], rfl⟩
end Go.Proofs.Ytdgoodjhndeojaa
