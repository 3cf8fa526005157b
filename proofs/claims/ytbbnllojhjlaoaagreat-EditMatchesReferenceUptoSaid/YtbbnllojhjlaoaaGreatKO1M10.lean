/-
  CONTRACTS: the reference's Apply, All. Conditions: few objects.
  PLAIN: what differs between two maps; a possible edit changes at most two objects, which it names. Conditions: none.
  CONTRACTS: the reference's insert, Names, Same, SameAll. Conditions: lengths below 2^38.
  CONTRACT: slices.Compact at an owned slice of strings. Conditions: lengths below 2^40.
  CONTRACTS: edit.apart. Conditions: lengths below 2^36.
  PLAIN: what an edit does to the object that it names (for EditMeans). Conditions: none.
  CONTRACT: edit.Invert. Conditions: lengths below 2^39.
  CONTRACT: the reference's Invert. Conditions: few objects.
-/
import Derived.Test.YtbbnllojhjlaoaaGreatKO1M9
section
set_option linter.unusedVariables false
set_option linter.unusedSimpArgs false
set_option maxRecDepth 100000
namespace Go.Proofs.YtbbnllojhjlaoaaGreat
open Go.Abs
theorem rFind_no {m : List GObj} {s : ByteArray} (h : gidx (idIs s) m = -1) (H : Heap) (hm : m.length < 4611686018427387904) : ACalls Tryz.prog 26 [.agg [.pv (slObjs m)], sv s] H (fun r H' => r = iv (-1) ∧ H' = H) := by
 have := rFind_c m s H hm
 rwa [h] at this
theorem apply21_c (m : List GObj) (e : GEdit) (H : Heap) (hm : okM m) (hml : m.length ≤ 999998) (he : okE e) (hes : e.refs.length < 274877906944) :
  ACalls Tryz.prog 7 [.agg [.pv (slObjs m)], av (encEdit e)] H (fun r H' => r = .tup [.agg [.pv (slObjs (gApply m e).1)], iv (gApply m e).2] ∧ H' = H) := by
 rw [← apply_eq hml]
 refine ACalls.pure ?_ (by simp) H
 have hmm : (m.map encObj).length = m.length := List.length_map _
 unfold rApply
 refine Bd Tryz.func7 rfl Tryz.ntmps7<|Sq<|Rg<|Dd (by exact opd_box (id := 2) rfl rfl rfl rfl rfl)<|Dd (by exact opd_box (id := 3) rfl rfl rfl rfl rfl)<|Dd (by exact x_alloc (id := 4) rfl zo24 rfl rfl)<|Dd as'<|Zz<|Sq<|Sq ?_
 refine awp_bool (t := 15) (n := 9) (X := !closedB m || !gEditV e) ?_ ?_
 ·all_goals refine Dd (by exact opd_loadn_ref rfl Tryz.isAgg24 Tryz.sizeOf24 rfl rfl rfl rfl (by simp only [Zl, encTag, encObj, encStr, encEdit, encInt]; rfl) rfl) ?_
  all_goals refine Dd (by exact opr_call rfl rfl Tryz.call25 rfl (rClosed_c m _ hm)) ?_
  all_goals refine Dd no' ?_
  all_goals refine Dd mv' ?_
  all_goals refine Sp 11 (fun h11 => ?_) fun h11 => ?_
  all_goals try contradiction
  all_goals first | refine Fo ?_ | refine On (by exact opd_loadn_ref rfl Tryz.isAgg38 Tryz.sizeOf38 rfl rfl rfl rfl (by simp only [Zl, encTag, encObj, encStr, encEdit, encInt]; rfl) rfl) ?_
  all_goals first | refine Fo ?_ | refine On (by exact opr_call rfl rfl Tryz.call13 rfl (rValidE_c e _ he (by omega))) ?_
  all_goals first | refine Fo ?_ | refine On no' ?_
  all_goals refine Dd pk' ?_
  all_goals refine al_nil ?_
  all_goals (exact ⟨⟨_, rfl, by (simp only [*, Zo]; done)⟩, rfl, rfl, rfl⟩)
 refine Cn (fun hc1 => ?_) fun hc1 => ?_
 ·rw [if_pos hc1]
  refine Sq<|Rg<|Dd (bu' bo24)<|Uu (sa' Tryz.sizeOf24)<|Dd as'<|Zz<|awp_ret ?_
  refine aret2 (H' := []) (.inr rfl) rfl (rl' Tryz.isAgg24 Tryz.sizeOf24) (rval_tmp rfl) (Fin.wk (by simp) trivial trivial) ?_
  exact ⟨rfl, rfl⟩
 rw [if_neg (by rw [hc1]; decide)]
 have hcv : closedB m = true ∧ gEditV e = true := by
  have h := hc1
  rw [Bool.or_eq_false_iff, Bool.not_eq_false', Bool.not_eq_false'] at h
  exact h
 obtain ⟨hc, hv⟩ := hcv
 obtain ⟨⟨op1, op2⟩, _, _⟩ := gEditV_iff.1 hv
 refine awp_skip<|Sq<|Sq<|Rg<|Dd (fr' fo38_0)<|Dd (l1' Tryz.isAgg3)<|Dd eql'<|Zz ?_
 refine Cn (fun hc2 => ?_) fun hc2 => ?_
 ·rw [if_pos (of_decide_eq_true hc2)]
  unfold rPut
  refine Sq<|Sq<|Rg<|Dd (by exact opd_loadn_ref rfl Tryz.isAgg24 Tryz.sizeOf24 rfl rfl rfl rfl (by simp only [Zl, encTag, encObj, encStr, encEdit, encInt]; rfl) rfl)<|Dd (fr' fo38_8)<|Dd (fr' fo36_0)<|Dd (l1' Tryz.isAgg9)<|Dd (by exact opr_call rfl rfl Tryz.call26 rfl (rFind_c m e.obj.id _ hm.1))<|Dd ge'<|Zz ?_
  refine Cn (fun hc3 => ?_) fun hc3 => ?_
  ·rw [if_pos hc3]
   refine Sq<|Rg<|Dd (bu' bo24)<|Uu (sa' Tryz.sizeOf24)<|Dd as'<|Zz<|awp_ret ?_
   refine aret2 (H' := []) (.inr rfl) rfl (rl' Tryz.isAgg24 Tryz.sizeOf24) (rval_tmp rfl) (Fin.wk (by simp) trivial trivial) ?_
   exact ⟨rfl, rfl⟩
  rw [if_neg (by rw [hc3]; decide)]
  refine awp_skip<|Sq<|Rg<|Dd (by exact opd_loadn_ref rfl Tryz.isAgg24 Tryz.sizeOf24 rfl rfl rfl rfl (by simp only [Zl, encTag, encObj, encStr, encEdit, encInt]; rfl) rfl)<|Dd (fr' fo38_8)<|Dd (by exact opd_loadn_ref rfl Tryz.isAgg36 Tryz.sizeOf36 rfl rfl rfl rfl (by simp only [Zl, encTag, encObj, encStr, encEdit, encInt]; rfl) rfl)<|Dd (by exact opr_call rfl rfl Tryz.call27 rfl (rErr_c m e.obj _ hm.1 he.2.2.2.2.1))<|Dd as'<|Zz<|Sq<|Sq<|Rg<|Dd mv'<|Dd ne'<|Zz ?_
  refine Cn (fun hc4 => ?_) fun hc4 => ?_
  ·rw [if_pos hc4]
   refine Sq<|Rg<|Dd (bu' bo24)<|Dd mv'<|Uu (sa' Tryz.sizeOf24)<|Dd as'<|Zz<|awp_ret ?_
   refine aret2 (H' := []) (.inr rfl) rfl (rl' Tryz.isAgg24 Tryz.sizeOf24) (rval_tmp rfl) (Fin.wk (by simp) trivial trivial) ?_
   exact ⟨rfl, rfl⟩
  rw [if_neg (by rw [hc4]; decide)]
  have h1m : ¬ decide ((m.length : Int) = 1000000) = true := by rw [decide_eq_true_eq]; omega
  rw [if_neg h1m]
  refine awp_skip<|Sq<|Sq<|Rg<|Dd (fr' fo24_0)<|Dd (l1' Tryz.isAgg22)<|Dd (ll' Tryz.underlying22)<|Dd eql'<|Zz ?_
  refine Cn (fun hc5 => ?_) fun hc5 => ?_
  ·have := of_decide_eq_true hc5
   omega
  skip
  refine awp_skip<|Sq<|Rg<|Dd (by exact opd_loadn_ref rfl Tryz.isAgg24 Tryz.sizeOf24 rfl rfl rfl rfl (by simp only [Zl, encTag, encObj, encStr, encEdit, encInt]; rfl) rfl)<|Dd (fr' fo38_8)<|Dd (by exact opd_loadn_ref rfl Tryz.isAgg36 Tryz.sizeOf36 rfl rfl rfl rfl (by simp only [Zl, encTag, encObj, encStr, encEdit, encInt]; rfl) rfl)<|Dd (by exact opr_call rfl rfl Tryz.call28 rfl (put21_c m e.obj _ (by omega)))<|Uu (sa' Tryz.sizeOf24)<|Dd as'<|Zz<|awp_ret ?_
  refine aret2 (H' := []) (.inr rfl) rfl (rl' Tryz.isAgg24 Tryz.sizeOf24) (rval_tmp rfl) (Fin.wk (by simp) trivial trivial) ?_
  exact ⟨rfl, rfl⟩
 have h1 := of_decide_eq_false hc2
 rw [if_neg h1]
 rcases gidx_cases (idIs e.id) m with ⟨e1, e2⟩ | ⟨j, o, e1, e2, e3⟩
 ·rw [e2]
  refine awp_skip<|Sq<|Rg<|Dd (by exact opd_loadn_ref rfl Tryz.isAgg24 Tryz.sizeOf24 rfl rfl rfl rfl (by simp only [Zl, encTag, encObj, encStr, encEdit, encInt]; rfl) rfl)<|Dd (fr' fo38_1)<|Dd (l1' Tryz.isAgg9)<|Dd (by exact opr_call rfl rfl Tryz.call26 rfl (rFind_no e1 _ hm.1))<|Dd as'<|Zz<|Sq<|Sq<|Rg<|Dd mv'<|Dd lss'<|Dd mv' ?_
  refine al_off rfl rfl rfl (by rfl) rfl ?_
  refine al_off rfl rfl rfl (by rfl) rfl ?_
  refine al_off rfl rfl rfl (by rfl) rfl ?_
  refine al_off rfl rfl rfl (by rfl) rfl ?_
  refine al_offu rfl rfl rfl rfl ?_
  refine al_offu rfl rfl rfl rfl ?_
  refine al_offu rfl rfl rfl rfl ?_
  refine al_offu rfl rfl rfl rfl ?_
  refine al_offu rfl rfl rfl rfl ?_
  refine al_off rfl rfl rfl (by rfl) rfl ?_
  refine Dd pk'<|Zz ?_
  refine Cn (fun hc6 => ?_) fun hc6 => ?_
  ·skip
   refine Sq<|Rg<|Dd (bu' bo24)<|Uu (sa' Tryz.sizeOf24)<|Dd as'<|Zz<|awp_ret ?_
   refine aret2 (H' := []) (.inr rfl) rfl (rl' Tryz.isAgg24 Tryz.sizeOf24) (rval_tmp rfl) (Fin.wk (by simp) trivial trivial) ?_
   exact ⟨rfl, rfl⟩
  cases hc6
 rw [e3]
 have hlk : look m e.id = some o := e3
 have hi1 := map_get (f := encObj) e2
 have hjl := (List.getElem?_eq_some_iff.1 e2).1
 have hj0 : decide ((j : Int) < 0) = false := decide_eq_false (by omega)
 have hX : (decide (e.op = 7) && decide (gidx (idIs e.other) m < 0)) = (decide (e.op = 7) && (m.find? (idIs e.other)).isNone) := by
  congr 1
  rcases gidx_cases (idIs e.other) m with ⟨q1, q2⟩ | ⟨k, y, q1, q2, q3⟩
  ·rw [q1, q2]; rfl
  rw [q1, q3, decide_eq_false (by omega)]; rfl
 have ht7 : (decide (e.op = 7) && (m.find? (idIs e.other)).isNone) = false → e.op = 7 → ∃ x, look m e.other = some x := fun h h7 => by
  rw [decide_eq_true h7, Bool.true_and] at h
  cases hx : m.find? (idIs e.other) with
  | none => rw [hx] at h; cases h
  | some x => exact ⟨x, hx⟩
 dsimp only
 rw [← hX] at ht7 ⊢
 refine awp_skip<|Sq<|Rg<|Dd (by exact opd_loadn_ref rfl Tryz.isAgg24 Tryz.sizeOf24 rfl rfl rfl rfl (by simp only [Zl, encTag, encObj, encStr, encEdit, encInt]; rfl) rfl)<|Dd (fr' fo38_1)<|Dd (l1' Tryz.isAgg9)<|Dd (by exact opr_call rfl rfl Tryz.call26 rfl (rFind_t e1 _ hm.1))<|Dd as'<|Zz<|Sq<|Sq ?_
 refine awp_bool (t := 61) (n := 16) (X := decide (e.op = 7) && decide (gidx (idIs e.other) m < 0)) ?_ ?_
 ·all_goals refine Dd mv' ?_
  all_goals refine Dd lss' ?_
  all_goals refine Dd mv' ?_
  all_goals refine Sp 50 (fun h50 => ?_) fun h50 => ?_
  all_goals try contradiction
  all_goals (refine al_ond rfl rfl rfl rfl rfl rfl (by exact opd_field_ref rfl fo38_0 rfl rfl rfl rfl) ?_)
  all_goals (refine al_ond rfl rfl rfl rfl rfl rfl (by exact opd_load1_ref rfl Tryz.isAgg3 rfl rfl rfl rfl rfl) ?_)
  all_goals (refine al_ond rfl rfl rfl rfl rfl rfl (by exact opd_eql rfl rfl rfl) ?_)
  all_goals (refine al_ond rfl rfl rfl rfl rfl rfl (by exact opd_move rfl rfl) ?_)
  all_goals refine Sp 54 (fun h54 => ?_) fun h54 => ?_
  all_goals try contradiction
  all_goals first | refine Fo ?_ | refine On (by exact opd_loadn_ref rfl Tryz.isAgg24 Tryz.sizeOf24 rfl rfl rfl rfl (by simp only [Zl, encTag, encObj, encStr, encEdit, encInt]; rfl) rfl) ?_
  all_goals first | refine Fo ?_ | refine On (fr' fo38_2) ?_
  all_goals first | refine Fo ?_ | refine On (l1' Tryz.isAgg9) ?_
  all_goals first | refine Fo ?_ | refine On (by exact opr_call rfl rfl Tryz.call26 rfl (rFind_c m e.other _ hm.1)) ?_
  all_goals first | refine Fo ?_ | refine On lss' ?_
  all_goals (refine al_ond rfl rfl rfl rfl rfl rfl (by exact (by first | exact opd_pick_t rfl rfl rfl | exact opd_pick_f rfl rfl rfl)) ?_)
  all_goals refine Dd pk' ?_
  all_goals refine al_nil ?_
  all_goals (exact ⟨⟨_, rfl, by (rw [h54]; rfl)⟩, rfl, rfl, rfl⟩)
 refine Cn (fun hc7 => ?_) fun hc7 => ?_
 ·rw [if_pos hc7]
  refine Sq<|Rg<|Dd (bu' bo24)<|Uu (sa' Tryz.sizeOf24)<|Dd as'<|Zz<|awp_ret ?_
  refine aret2 (H' := []) (.inr rfl) rfl (rl' Tryz.isAgg24 Tryz.sizeOf24) (rval_tmp rfl) (Fin.wk (by simp) trivial trivial) ?_
  exact ⟨rfl, rfl⟩
 rw [if_neg (by rw [hc7]; decide)]
 refine awp_skip<|Sq ?_
 refine awp_drawc follows ?_
 refine Cr [2] (fun H1 hH => by exact opd_loadn_ref rfl Tryz.isAgg24 Tryz.sizeOf24 rfl ((hH _ rfl).trans rfl) rfl rfl (by simp only [Zl, encTag, encObj, encStr, encEdit, encInt]; rfl) rfl)<|Cr [3] (fun H1 hH => by exact opd_loadn_ref rfl Tryz.isAgg38 Tryz.sizeOf38 rfl ((hH _ rfl).trans rfl) rfl rfl (by simp only [Zl, encTag, encObj, encStr, encEdit, encInt]; rfl) rfl)<|Cr [2] (fun _ h => fh fo24_0 h)<|Cr [2] (fun _ h => lh Tryz.isAgg22 h)<|Cr [] (fun _ _ => mv')<|Cr [] (fun H1 hH => by exact x_index_pad rfl so22 rfl rfl (by omega) (by exact Int.toNat_natCast _) hi1 rfl)<|Cr [] (fun H1 hH => by exact opd_loadn_pad rfl Tryz.isAgg36 Tryz.sizeOf36 rfl hi1 (by simp only [Zl, encObj]; rfl) rfl)<|Cr [] (fun H1 hH => by exact opr_call rfl rfl Tryz.call29 rfl (change21_c m e o _ hm hml he hes hc hlk ⟨by omega, op2⟩ (ht7 hc7)))<|Cr [] (fun _ _ => ex')<|Cr [] (fun _ _ => ex')<|Cp [4] (fun H1 hH => by exact x_store_all rfl Tryz.sizeOf24 rfl rfl rfl rfl ((hH _ rfl).trans rfl) rfl rfl rfl) ?_
 refine Cr [] (fun _ _ => as') ?_
 refine dc_nil ⟨by kernel_rfl, ?_⟩
 refine awp_ret ?_
 refine aret2 (H' := []) (.inr rfl) rfl (rl' Tryz.isAgg24 Tryz.sizeOf24) (rval_tmp rfl) (Fin.wk (by simp) trivial trivial) ?_
 exact ⟨rfl, rfl⟩
theorem all21_c (m : List GObj) (l : List GEdit) (H : Heap) (hm : okM m) (hml : m.length + 2 * l.length ≤ 999998) (he : ∀ e, e ∈ l → okE e) (hes : ∀ e, e ∈ l → e.refs.length < 274877906944) :
  ACalls Tryz.prog 18 [.agg [.pv (slObjs m)], .pv (slEdits l)] H (fun r H' => r = .tup [.agg [.pv (slObjs (gAll m l).1)], iv (gAll m l).2.1, iv (gAll m l).2.2] ∧ H' = H) := by
 refine ACalls.pure ?_ (by simp) H
 have hll : (l.map encEdit).length = l.length := List.length_map _
 unfold gAll
 refine Bd Tryz.func18 rfl Tryz.ntmps18<|Sq<|Rg<|Dd (by exact opd_box (id := 2) rfl rfl rfl rfl rfl)<|Dd (by exact x_alloc (id := 4) rfl zo24 rfl rfl)<|Dd as'<|Dd as'<|Zz<|Sq<|Sq<|Rg<|Dd (by exact opd_loadn_ref rfl Tryz.isAgg24 Tryz.sizeOf24 rfl rfl rfl rfl (by simp only [Zl, encTag, encObj, encStr, encEdit, encInt]; rfl) rfl)<|Dd (by exact opr_call rfl rfl Tryz.call25 rfl (rClosed_c m _ hm))<|Dd no'<|Zz ?_
 refine Cn (fun hc1 => ?_) fun hc1 => ?_
 ·rw [if_neg (by simpa using hc1)]
  refine Sq<|Rg<|Dd (bu' bo24)<|Uu (sa' Tryz.sizeOf24)<|Dd as'<|Dd as'<|Zz<|awp_ret ?_
  refine aret3 (H' := []) (.inr rfl) rfl (rl' Tryz.isAgg24 Tryz.sizeOf24) (rval_tmp rfl) (rval_tmp rfl) (Fin.wk (by simp) trivial trivial) ?_
  exact ⟨rfl, rfl⟩
 have hc : closedB m = true := by
  have h := hc1
  simpa using h
 rw [if_pos hc]
 refine awp_skip<|Sq<|Sq<|Rg<|Dd as'<|Zz<|awp_block ?_
 refine awp_loop2 (fun (i : Nat) (a : List GObj) => ([(1, .pv (slEdits l)), (2, .ref 2 0 0 0), (4, .ref 4 0 0 0), (7, iv (i : Int))], [(4, bx 1 24 [.pv (.sl [])]), (2, bx 1 24 [.pv (slObjs a)])])) (fun i a => i ≤ l.length ∧ okM a ∧ closedB a = true ∧ a.length ≤ m.length + 2 * i ∧ gAllFrom m 0 l = gAllFrom a i (l.drop i)) (fun i a => l.length - i) 0 m ⟨by omega, hm, hc, by omega, by rw [List.drop_zero]⟩ ?_ ?_
 ·exact Wk
 rintro i a ⟨hi, ha1, ha2, ha3, ha4⟩
 refine Sq<|Sq<|Rg<|Dd mv'<|Dd mv'<|Dd (ll' Tryz.underlying25)<|Dd lss'<|Zz ?_
 refine Cn (fun hc2 => ?_) fun hc2 => ?_
 ·have hil : i < l.length := by have := of_decide_eq_true hc2; omega
  obtain ⟨e, hel⟩ := get_of_lt hil
  have hi1 := map_get (f := encEdit) hel
  have hem := List.mem_of_getElem? hel
  have hdr : l.drop i = e :: l.drop (i + 1) := by
   obtain ⟨hl1, he1⟩ := List.getElem?_eq_some_iff.1 hel
   rw [List.drop_eq_getElem_cons hl1, he1]
  rw [hdr, gAllFrom] at ha4
  have hap : gApply a e = gAfter a e := by rw [gApply, if_pos ha2]
  have hA := fun H => apply21_c a e H ha1 (by omega) (he e hem) (hes e hem)
  rw [hap] at hA
  refine awp_skip<|Sq<|awp_block<|Sq ?_
  refine awp_drawc follows ?_
  refine Cr [2] (fun H1 hH => by exact opd_loadn_ref rfl Tryz.isAgg24 Tryz.sizeOf24 rfl ((hH _ rfl).trans rfl) rfl rfl (by simp only [Zl, encTag, encObj, encStr, encEdit, encInt]; rfl) rfl)<|Cr [] (fun _ _ => mv')<|Cr [] (fun _ _ => mv')<|Cr [] (fun H1 hH => by exact x_index_pad rfl so25 rfl rfl (by omega) (by exact Int.toNat_natCast _) hi1 rfl)<|Cr [] (fun H1 hH => by exact opd_loadn_pad rfl Tryz.isAgg38 Tryz.sizeOf38 rfl hi1 (by simp only [Zl, encTag, encObj, encStr, encEdit, encInt]; rfl) rfl)<|Cr [] (fun H1 hH => by exact opr_call rfl rfl Tryz.call7 rfl (hA _))<|Cr [] (fun _ _ => mv')<|Cr [] (fun _ _ => ex')<|Cr [] (fun _ _ => ex')<|Cp [8] (fun H1 hH => by exact x_alloc (id := 8) rfl zo24 rfl ((hH _ rfl).trans rfl))<|Cp [8] (fun H1 hH => by exact x_store_all rfl Tryz.sizeOf24 rfl rfl rfl rfl ((hH _ rfl).trans rfl) rfl rfl rfl)<|Cr [] (fun _ _ => as') ?_
  refine dc_nil ⟨by kernel_rfl, ?_⟩
  refine Sq<|Sq<|Rg<|Dd mv'<|Dd ne'<|Zz ?_
  refine Cn (fun hc3 => ?_) fun hc3 => ?_
  ·rw [if_pos hc3] at ha4
   rw [ha4]
   refine Sq<|Rg<|Dd (bu' bo24)<|Dd mv'<|Dd mv'<|Uu (sa' Tryz.sizeOf24)<|Dd as'<|Dd as'<|Zz<|awp_ret ?_
   refine aret3 (H' := []) (.inr rfl) rfl (rl' Tryz.isAgg24 Tryz.sizeOf24) (rval_tmp rfl) (rval_tmp rfl) (Fin.wk (by simp) trivial trivial) ?_
   exact ⟨rfl, rfl⟩
  rw [if_neg (by rw [hc3]; simp)] at ha4
  have h0 : (gAfter a e).2 = 0 := by
   have h := hc3
   simpa using h
  have hlen : (gAfter a e).1.length ≤ a.length + 2 := by
   obtain ⟨x1, x2, x3, _, _, _⟩ := after_ok (closed_gMap ha2) h0
   have h1 := to_len (m := a) (r := gPerform a e)
   have h2 := (perf_names x1 (perf_of x1 x2)).2.2
   rw [x3]
   omega
  refine awp_skip<|Rg<|Dd (by exact opd_loadn_ref rfl Tryz.isAgg24 Tryz.sizeOf24 rfl rfl rfl rfl (by simp only [Zl, encTag, encObj, encStr, encEdit, encInt]; rfl) rfl)<|Uu (sa' Tryz.sizeOf24)<|Zz<|Rg<|Dd mv'<|Dd ad'<|Dd as'<|Zz ?_
  exact ⟨i + 1, (gAfter a e).1, ⟨by omega, after_okM ha1 (closed_gMap ha2) (he e hem) h0, after_closed ha2 h0, by omega, ha4⟩, by omega, Wk⟩
 have hge : i = l.length := by have := of_decide_eq_false hc2; omega
 subst hge
 rw [List.drop_length, gAllFrom] at ha4
 rw [ha4]
 refine awp_exit<|Sq<|Rg<|Dd (by exact opd_loadn_ref rfl Tryz.isAgg24 Tryz.sizeOf24 rfl rfl rfl rfl (by simp only [Zl, encTag, encObj, encStr, encEdit, encInt]; rfl) rfl)<|Uu (sa' Tryz.sizeOf24)<|Dd as'<|Dd as'<|Zz<|awp_ret ?_
 refine aret3 (H' := []) (.inr rfl) rfl (rl' Tryz.isAgg24 Tryz.sizeOf24) (rval_tmp rfl) (rval_tmp rfl) (Fin.wk (by simp) trivial trivial) ?_
 exact ⟨rfl, rfl⟩
end Go.Proofs.YtbbnllojhjlaoaaGreat
end
section
set_option linter.unusedVariables false
set_option linter.unusedSimpArgs false
set_option maxRecDepth 100000
namespace Go.Proofs.YtbbnllojhjlaoaaGreat
open Go.Abs
structure GDelta where
  id : ByteArray
  was : Bool
  is : Bool
  old : GObj
  new : GObj
/-- The first pair of two lists of objects. -/
def dTakesL : List GObj → List GObj → Bool
  | [], _ => false
  | _ :: _, [] => true
  | x :: _, y :: _ => !slt y.id x.id
def dTakesR : List GObj → List GObj → Bool
  | _, [] => false
  | [], _ :: _ => true
  | x :: _, y :: _ => !slt x.id y.id
def gPairs : Nat → List GObj → List GObj → List GDelta
  | 0, _, _ => []
  | _ + 1, [], [] => []
  | n + 1, x :: a, [] => ⟨x.id, true, false, x, zObj⟩ :: gPairs n a []
  | n + 1, [], y :: b => ⟨y.id, false, true, zObj, y⟩ :: gPairs n [] b
  | n + 1, x :: a, y :: b => if x.id = y.id then ⟨x.id, true, true, x, y⟩ :: gPairs n a b else if slt x.id y.id then ⟨x.id, true, false, x, zObj⟩ :: gPairs n a (y :: b) else ⟨y.id, false, true, zObj, y⟩ :: gPairs n (x :: a) b
def dDiff (d : GDelta) : Bool := !(d.was == d.is) || !gSameO d.old d.new
def gDiff (a b : List GObj) : List GDelta := if gMap a && gMap b then (gPairs (a.length + b.length) a b).filter dDiff else []
/-- Names are in strictly increasing order. -/
theorem sortS_asc {l : List ByteArray} (hn : l.Pairwise (fun a b => a ≠ b)) (hle : (sortS l).Pairwise (fun a b => slt b a = false)) : (sortS l).Pairwise (fun a b => slt a b = true) := by
  have hp : (sortS l).Pairwise (fun a b => a ≠ b) := (sortS_perm l).symm.pairwise hn (fun {a b} h => h.symm)
  refine (hp.and hle).imp fun {a b} h => ?_
  obtain ⟨h1, h2⟩ := h
  cases hc : slt a b with
  | true => rfl
  | false => exact absurd (slt_tri hc h2) h1
theorem slt_toU (a b : ByteArray) : slt a b = decide (toU a < toU b) := by
  unfold slt
  rw [bytesLess_eq, ByteArray.toList_eq, ByteArray.toList_eq]
  rfl
theorem toU_ofU (l : List UInt8) : toU (ofU l) = l := by simp [toU, ofU]
theorem sortS_le (l : List ByteArray) : (sortS l).Pairwise (fun a b => slt b a = false) := by
  unfold sortS
  rw [List.pairwise_map]
  refine List.Pairwise.imp (R := fun (x y : List UInt8) => decide (x ≤ y) = true) (fun {x y} h => ?_) (List.pairwise_mergeSort (le := fun (x y : List UInt8) => decide (x ≤ y)) (fun a b c h1 h2 => decide_eq_true (List.le_trans (of_decide_eq_true h1) (of_decide_eq_true h2))) u8_le_total _)
  rw [slt_toU, toU_ofU, toU_ofU]
  exact decide_eq_false (List.not_lt.2 (of_decide_eq_true h))
theorem sput_nodup {l : List ByteArray} {s : ByteArray} (h : l.Pairwise (fun a b => a ≠ b)) : (sput l s).Pairwise (fun a b => a ≠ b) := by
  unfold sput
  split
  · exact h
  · next hn =>
    rw [List.pairwise_append]
    refine ⟨h, List.pairwise_singleton _ _, fun a ha b hb e => ?_⟩
    rw [List.mem_singleton] at hb
    subst hb
    subst e
    exact hn (inB_iff.2 ha)
theorem addAll_nodup : ∀ {l L : List ByteArray}, L.Pairwise (fun a b => a ≠ b) → (addAll L l).Pairwise (fun a b => a ≠ b)
  | [], L, h => h
  | s :: l, L, h => by
    show (addAll (sput L s) l).Pairwise _
    exact addAll_nodup (sput_nodup h)
theorem names_asc (e : GEdit) : (gNames e).Pairwise (fun a b => slt a b = true) := by
  unfold gNames
  split
  · exact sortS_asc ((addAll_nodup (addAll_nodup (addAll_nodup .nil))).filter _) (sortS_le _)
  · exact .nil
end Go.Proofs.YtbbnllojhjlaoaaGreat
end
section
set_option linter.unusedVariables false
set_option linter.unusedSimpArgs false
set_option maxRecDepth 100000
namespace Go.Proofs.YtbbnllojhjlaoaaGreat
open Go.Abs
theorem Fin.strsO {H1 : Heap} {id g n : Nat} {ob : Ob} (l : List ByteArray) (hH : H1.get id = some ob) (hg : ob.g = g) (hps : ob.rows = strN l) (hn : n = l.length) :
  Fin [] H1 (.osl id g 0 n) [] (.pv (slStrs l)) := by
 subst hg
 exact Fin.fz (id := id) (ob := ob) (l.map encStr) hH (hps.trans (rows_of encStr l)) (.osl (takeStr l hn)) rfl trivial trivial
theorem strR_rl (l : List ByteArray) : ∀ r ∈ strN l, r.length = 1 := fun r hr => by
 obtain ⟨o, _, rfl⟩ := List.mem_map.1 hr
 rfl
theorem tkStr {l : List ByteArray} {n : Nat} (hn : n = l.length) : ((strN l).drop 0).take n = strN l := by
 rw [hn, List.drop_zero, ← List.length_map (f := fun e => (encStr e).map AV.pv), List.take_length]
def rTw (l : List ByteArray) (s : ByteArray) : Nat := (l.takeWhile (fun x => slt x s)).length
def rIns (l : List ByteArray) (s : ByteArray) : List ByteArray := if l[rTw l s]? = some s then l else l.take (rTw l s) ++ s :: l.drop (rTw l s)
theorem tw_lenS {p : ByteArray → Bool} {l : List ByteArray} {i : Nat} (h1 : i ≤ l.length) (h2 : ∀ j x, j < i → l[j]? = some x → p x = true) (h3 : i = l.length ∨ ∃ x, l[i]? = some x ∧ p x = false) : (l.takeWhile p).length = i := tw_len h1 h2 h3
theorem insert21_c (l : List ByteArray) (s : ByteArray) (H : Heap) (hm : l.length < 274877906944) : ACalls Tryz.prog 35 [.pv (slStrs l), sv s] H (fun r H' => r = .pv (slStrs (rIns l s)) ∧ H' = H) := by
 refine ACalls.pure ?_ (by simp) H
 have hml : (l.map encStr).length = l.length := List.length_map _
 refine Bd Tryz.func35 rfl Tryz.ntmps35<|Sq<|Rg<|Dd as'<|Zz<|Sq<|Rg<|Dd as'<|Zz<|Sq<|awp_block ?_
 refine awp_loop (σ := Nat) (fun i => ([(0, .pv (slStrs l)), (1, sv s), (5, iv (i : Int))], [])) (fun i => i ≤ l.length ∧ ∀ j x, j < i → l[j]? = some x → slt x s = true) (fun i => l.length - i) 0 ⟨by omega, fun j x hj => by omega⟩ ?_ ?_
 ·exact Wk
 rintro i ⟨hi, hno⟩
 have hstop : (i = l.length ∨ ∃ x, l[i]? = some x ∧ slt x s = false) → rTw l s = i := fun h => tw_lenS hi hno h
 rcases Nat.lt_or_ge i l.length with hil | hil
 ·obtain ⟨x, hx⟩ := get_of_lt hil
  have hi1 := map_get (f := encStr) hx
  have hk : decide ((i : Int) < ((l.map encStr).length : Int)) = true := decide_eq_true (by omega)
  refine Sq<|Sq<|Rg<|Dd mv'<|Dd mv'<|Dd (ll' Tryz.underlying33)<|Dd lss'<|Dd mv' ?_
  refine al_ond rfl rfl rfl (by assumption) rfl rfl (by exact opd_move rfl rfl) ?_
  refine al_ond rfl rfl rfl (by assumption) rfl rfl (by exact opd_move rfl rfl) ?_
  refine al_ond rfl rfl rfl (by assumption) rfl rfl (by exact x_index_pad rfl so33 rfl rfl (by omega) (by exact Int.toNat_natCast _) hi1 rfl) ?_
  refine al_ond rfl rfl rfl (by assumption) rfl rfl (by exact opd_load1_pad rfl Tryz.isAgg9 rfl hi1 rfl) ?_
  refine al_ond rfl rfl rfl (by assumption) rfl rfl (by exact opd_move rfl rfl) ?_
  refine al_ond rfl rfl rfl (by assumption) rfl rfl (by exact opd_slss rfl rfl rfl) ?_
  refine Dd pt'<|Zz ?_
  refine Cn (fun hc1 => ?_) fun hc1 => ?_
  ·skip
   refine awp_skip<|awp_block<|Rg<|Dd mv'<|Dd ad'<|Dd as'<|Zz ?_
   refine ⟨i + 1, ⟨by omega, fun j y hj hy => ?_⟩, by omega, Wk⟩
   rcases Nat.lt_or_ge j i with h | h
   ·exact hno j y h hy
   have hji : j = i := by omega
   subst hji
   rw [hx] at hy
   cases hy
   exact hc1
  have hst := hstop (.inr ⟨x, hx, hc1⟩)
  refine awp_exit<|Sq<|Sq<|Rg<|Dd mv'<|Dd mv'<|Dd (ll' Tryz.underlying33)<|Dd lss'<|Dd mv' ?_
  refine al_ond rfl rfl rfl (by assumption) rfl rfl (by exact opd_move rfl rfl) ?_
  refine al_ond rfl rfl rfl (by assumption) rfl rfl (by exact opd_move rfl rfl) ?_
  refine al_ond rfl rfl rfl (by assumption) rfl rfl (by exact x_index_pad rfl so33 rfl rfl (by omega) (by exact Int.toNat_natCast _) hi1 rfl) ?_
  refine al_ond rfl rfl rfl (by assumption) rfl rfl (by exact opd_load1_pad rfl Tryz.isAgg9 rfl hi1 rfl) ?_
  refine al_ond rfl rfl rfl (by assumption) rfl rfl (by exact opd_move rfl rfl) ?_
  refine al_ond rfl rfl rfl (by assumption) rfl rfl (by exact opd_seql rfl rfl rfl) ?_
  refine Dd pt'<|Zz ?_
  refine Cn (fun hc2 => ?_) fun hc2 => ?_
  ·have hxs := of_decide_eq_true hc2
   have hgw : rIns l s = l := by rw [rIns, hst, hx, hxs, if_pos rfl]
   rw [hgw]
   refine Sq<|Rg<|Dd mv'<|Dd as'<|Zz<|awp_ret ?_
   refine Rt ?_
   exact ⟨rfl, rfl⟩
  have hxs := of_decide_eq_false hc2
  have hgw : rIns l s = l.take i ++ s :: l.drop i := by rw [rIns, hst, hx, if_neg (fun e => hxs (Option.some.inj e))]
  rw [hgw]
  have hll : (l.drop i).length ≤ l.length := by rw [List.length_drop]; omega
  have hlt : (l.take i).length ≤ l.length := by rw [List.length_take]; omega
  have hlc : (s :: l.drop i).length = (l.drop i).length + 1 := rfl
  refine awp_skip<|Sq<|Rg<|Dd mv'<|Dd (by exact x_buildSlice_own (id := 901) rfl so33 rfl rfl rfl rfl (by simp [encStr]) rfl)<|Dd mv'<|Dd mv'<|Dd (by exact x_slice_sl (l := i) (h := (l.map encStr).length) (rows' := (l.drop i).map encStr) rfl so33 rfl (strO_rl l) rfl rfl (by omega) (Nat.le_refl _) (by rw [List.take_length]; exact List.map_drop.symm))<|Dd (by exact x_append rfl so33 ei9 rfl rfl rfl rfl rfl rfl rfl (strO_rl (l.drop i)) (List.length_map _) (by omega) (Nat.add_comm 1 _ : 1 + (l.drop i).length = (s :: l.drop i).length) (by rw [← rows_of]; rfl : _ = strN (s :: l.drop i)))<|Dd as'<|Zz<|Sq<|Rg<|Dd (by exact x_buildSlice_own (id := 902) rfl so33 rfl rfl rfl rfl (by simp) rfl)<|Dd mv'<|Dd mv'<|Dd (by exact x_slice_sl (l := 0) (h := i) (rows' := (l.take i).map encStr) rfl so33 rfl (strO_rl l) rfl rfl (by omega) (by omega) (by rw [List.drop_zero]; exact List.map_take.symm))<|Dd (by exact x_append rfl so33 ei9 rfl rfl rfl rfl rfl rfl rfl (strO_rl (l.take i)) (List.length_map _) (by omega) (Nat.zero_add _) (by rw [← rows_of]; rfl : _ = strN (l.take i))) ?_
  refine Dd mv'<|Dd (by exact x_append_osl rfl so33 ei9 rfl rfl rfl rfl rfl (List.length_map _) rfl rfl rfl rfl (strR_rl _) (by rw [List.length_map, Nat.zero_add]; exact Nat.le_refl _) (by omega) (by rw [List.length_append, List.length_cons] : (l.take i).length + ((l.drop i).length + 1) = (l.take i ++ s :: l.drop i).length) (by rw [tkStr hlc.symm]; exact List.map_append.symm : _ = strN (l.take i ++ s :: l.drop i)))<|Dd as'<|Zz<|awp_ret ?_
  refine aret1 (H' := []) (.inr rfl) rfl (rval_tmp rfl) (Fin.strsO (id := 902) (l.take i ++ s :: l.drop i) rfl rfl rfl rfl) ?_
  exact ⟨rfl, rfl⟩
 have hge : i = l.length := by omega
 have hst := hstop (.inl hge)
 have hk : decide ((i : Int) < ((l.map encStr).length : Int)) = false := decide_eq_false (by omega)
 have hgw : rIns l s = l.take i ++ s :: l.drop i := by rw [rIns, hst, List.getElem?_eq_none (by omega), if_neg (by simp)]
 rw [hgw]
 refine Sq<|Sq<|Rg<|Dd mv'<|Dd mv'<|Dd (ll' Tryz.underlying33)<|Dd lss'<|Dd mv' ?_
 refine al_off rfl rfl rfl (by assumption) rfl ?_
 refine al_off rfl rfl rfl (by assumption) rfl ?_
 refine al_off rfl rfl rfl (by assumption) rfl ?_
 refine al_off rfl rfl rfl (by assumption) rfl ?_
 refine al_off rfl rfl rfl (by assumption) rfl ?_
 refine al_off rfl rfl rfl (by assumption) rfl ?_
 refine Dd pf'<|Zz ?_
 refine Cn (fun hc3 => ?_) fun hc3 => ?_
 ·cases hc3
 skip
 refine awp_exit<|Sq<|Sq<|Rg<|Dd mv'<|Dd mv'<|Dd (ll' Tryz.underlying33)<|Dd lss'<|Dd mv' ?_
 refine al_off rfl rfl rfl (by assumption) rfl ?_
 refine al_off rfl rfl rfl (by assumption) rfl ?_
 refine al_off rfl rfl rfl (by assumption) rfl ?_
 refine al_off rfl rfl rfl (by assumption) rfl ?_
 refine al_off rfl rfl rfl (by assumption) rfl ?_
 refine al_off rfl rfl rfl (by assumption) rfl ?_
 refine Dd pf'<|Zz ?_
 refine Cn (fun hc4 => ?_) fun hc4 => ?_
 ·cases hc4
 skip
 have hll : (l.drop i).length ≤ l.length := by rw [List.length_drop]; omega
 have hlt : (l.take i).length ≤ l.length := by rw [List.length_take]; omega
 have hlc : (s :: l.drop i).length = (l.drop i).length + 1 := rfl
 refine awp_skip<|Sq<|Rg<|Dd mv'<|Dd (by exact x_buildSlice_own (id := 901) rfl so33 rfl rfl rfl rfl (by simp [encStr]) rfl)<|Dd mv'<|Dd mv'<|Dd (by exact x_slice_sl (l := i) (h := (l.map encStr).length) (rows' := (l.drop i).map encStr) rfl so33 rfl (strO_rl l) rfl rfl (by omega) (Nat.le_refl _) (by rw [List.take_length]; exact List.map_drop.symm))<|Dd (by exact x_append rfl so33 ei9 rfl rfl rfl rfl rfl rfl rfl (strO_rl (l.drop i)) (List.length_map _) (by omega) (Nat.add_comm 1 _ : 1 + (l.drop i).length = (s :: l.drop i).length) (by rw [← rows_of]; rfl : _ = strN (s :: l.drop i)))<|Dd as'<|Zz<|Sq<|Rg<|Dd (by exact x_buildSlice_own (id := 902) rfl so33 rfl rfl rfl rfl (by simp) rfl)<|Dd mv'<|Dd mv'<|Dd (by exact x_slice_sl (l := 0) (h := i) (rows' := (l.take i).map encStr) rfl so33 rfl (strO_rl l) rfl rfl (by omega) (by omega) (by rw [List.drop_zero]; exact List.map_take.symm))<|Dd (by exact x_append rfl so33 ei9 rfl rfl rfl rfl rfl rfl rfl (strO_rl (l.take i)) (List.length_map _) (by omega) (Nat.zero_add _) (by rw [← rows_of]; rfl : _ = strN (l.take i))) ?_
 refine Dd mv'<|Dd (by exact x_append_osl rfl so33 ei9 rfl rfl rfl rfl rfl (List.length_map _) rfl rfl rfl rfl (strR_rl _) (by rw [List.length_map, Nat.zero_add]; exact Nat.le_refl _) (by omega) (by rw [List.length_append, List.length_cons] : (l.take i).length + ((l.drop i).length + 1) = (l.take i ++ s :: l.drop i).length) (by rw [tkStr hlc.symm]; exact List.map_append.symm : _ = strN (l.take i ++ s :: l.drop i)))<|Dd as'<|Zz<|awp_ret ?_
 refine aret1 (H' := []) (.inr rfl) rfl (rval_tmp rfl) (Fin.strsO (id := 902) (l.take i ++ s :: l.drop i) rfl rfl rfl rfl) ?_
 exact ⟨rfl, rfl⟩
/-! ### insertion is putting into an increasing list -/
def incr (l : List ByteArray) : Prop := l.Pairwise (fun a b => slt a b = true)
theorem drop_twS {p : ByteArray → Bool} : ∀ {l : List ByteArray} {z : ByteArray}, incr l → (∀ x, x ∈ l → p x = slt x z) → ∀ y, y ∈ l.drop (l.takeWhile p).length → y = z ∨ slt z y = true
 | [], z, _, _, y, hy => by simp at hy
 | x :: l, z, hu, hp, y, hy => by
  cases hx : p x with
  | true =>
   rw [List.takeWhile_cons, hx] at hy
   exact drop_twS (List.pairwise_cons.1 hu).2 (fun w hw => hp w (List.mem_cons_of_mem _ hw)) y hy
  | false =>
   rw [List.takeWhile_cons, hx] at hy
   have h0 : slt x z = false := by rw [← hp x List.mem_cons_self, hx]
   have hz : x = z ∨ slt z x = true := by
    cases hc : slt z x with
    | true => exact .inr rfl
    | false => exact .inl (slt_tri h0 hc)
   rcases List.mem_cons.1 hy with rfl | hy
   ·exact hz
   have h2 := (List.pairwise_cons.1 hu).1 y hy
   rcases hz with rfl | hz
   ·exact .inr h2
   exact .inr (slt_trans hz h2)
theorem take_twS {p : ByteArray → Bool} : ∀ {l : List ByteArray} {y : ByteArray}, y ∈ l.take (l.takeWhile p).length → p y = true
 | [], y, hy => by simp at hy
 | x :: l, y, hy => by
  cases hx : p x with
  | true =>
   rw [List.takeWhile_cons, hx] at hy
   rcases List.mem_cons.1 hy with rfl | hy
   ·exact hx
   exact take_twS (l := l) hy
  | false =>
   rw [List.takeWhile_cons, hx] at hy
   simp at hy
theorem ins_spec {l : List ByteArray} {s : ByteArray} (h : incr l) : incr (rIns l s) ∧ ∀ x, x ∈ rIns l s ↔ x ∈ l ∨ x = s := by
 unfold rIns
 split
 ·next e =>
  refine ⟨h, fun x => ⟨.inl, ?_⟩⟩
  rintro (h | rfl)
  ·exact h
  exact List.mem_of_getElem? e
 next e =>
 have hd : ∀ y, y ∈ l.drop (rTw l s) → slt s y = true := fun y hy => by
  rcases drop_twS (p := fun x => slt x s) h (fun _ _ => rfl) y hy with rfl | h2
  ·exfalso
   obtain ⟨j, hj⟩ := List.mem_iff_getElem?.1 hy
   rw [List.getElem?_drop] at hj
   cases j with
   | zero => exact e hj
   | succ j =>
    obtain ⟨z, hz⟩ := get_of_lt (l := l) (k := rTw l y) (by have := (List.getElem?_eq_some_iff.1 hj).1; omega)
    have hzm : z ∈ l.drop (rTw l y) := List.mem_of_getElem? (i := 0) (by rw [List.getElem?_drop]; exact hz)
    have h1 := asc_get (f := fun x : ByteArray => x) h (by omega : rTw l y < rTw l y + (j + 1)) hz hj
    rcases drop_twS (p := fun x => slt x y) h (fun _ _ => rfl) z hzm with rfl | h2
    ·exact e hz
    have := slt_trans h1 h2
    rw [slt_irr] at this
    cases this
  exact h2
 refine ⟨?_, fun x => ?_⟩
 ·unfold incr
  rw [List.pairwise_append]
  refine ⟨List.Pairwise.sublist (List.take_sublist _ _) h, List.pairwise_cons.2 ⟨hd, List.Pairwise.sublist (List.drop_sublist _ _) h⟩, fun x hx y hy => ?_⟩
  have hx2 : slt x s = true := take_twS (p := fun x => slt x s) hx
  rcases List.mem_cons.1 hy with rfl | hy
  ·exact hx2
  exact slt_trans hx2 (hd y hy)
 conv => rhs; rw [← List.take_append_drop (rTw l s) l]
 rw [List.mem_append, List.mem_append, List.mem_cons]
 constructor
 ·rintro (h | h | h)
  ·exact .inl (.inl h)
  ·exact .inr h
  exact .inl (.inr h)
 rintro ((h | h) | h)
 ·exact .inl h
 ·exact .inr (.inr h)
 exact .inr (.inl h)
theorem insAll_spec : ∀ {k l : List ByteArray}, incr l → incr (k.foldl rIns l) ∧ ∀ x, x ∈ k.foldl rIns l ↔ x ∈ l ∨ x ∈ k
 | [], l, h => ⟨h, fun x => by simp⟩
 | s :: k, l, h => by
  obtain ⟨h1, h2⟩ := ins_spec (s := s) h
  obtain ⟨h3, h4⟩ := insAll_spec (k := k) h1
  refine ⟨h3, fun x => ?_⟩
  show x ∈ k.foldl rIns (rIns l s) ↔ _
  rw [h4, h2, List.mem_cons, or_assoc]
theorem incr_eq {a b : List ByteArray} (ha : incr a) (hb : incr b) (h : ∀ x, x ∈ a ↔ x ∈ b) : a = b := asc_eq (f := fun x : ByteArray => x) ha hb h
def rNames (e : GEdit) : List ByteArray := (([e.id, e.other, e.node, e.obj.id] ++ e.refs ++ e.obj.refs).filter nonE).foldl rIns []
theorem rNames_eq {e : GEdit} (hv : gEditV e = true) : rNames e = gNames e := by
 obtain ⟨h1, h2⟩ := insAll_spec (k := ([e.id, e.other, e.node, e.obj.id] ++ e.refs ++ e.obj.refs).filter nonE) (l := []) .nil
 refine incr_eq h1 (names_asc e) fun x => ?_
 rw [rNames, h2, names_mem hv, List.mem_filter, nonE, Bool.not_eq_true', decide_eq_false_iff_not]
 simp only [List.not_mem_nil, false_or, List.mem_append, List.mem_cons, or_false, raw, or_assoc]
theorem insAll_len : ∀ (k l : List ByteArray), (k.foldl rIns l).length ≤ l.length + k.length
 | [], l => by simp
 | s :: k, l => by
  have h1 := insAll_len k (rIns l s)
  have h2 : (rIns l s).length ≤ l.length + 1 := by
   unfold rIns
   split
   ·omega
   rw [List.length_append, List.length_cons, List.length_take, List.length_drop]
   omega
  show (k.foldl rIns (rIns l s)).length ≤ l.length + (k.length + 1)
  omega
theorem fold_snocF {l : List ByteArray} {i : Nat} {s : ByteArray} (h : l[i]? = some s) : ((l.take (i + 1)).filter nonE).foldl rIns [] = if nonE s then rIns (((l.take i).filter nonE).foldl rIns []) s else ((l.take i).filter nonE).foldl rIns [] := by
 rw [List.take_add_one, h, List.filter_append, List.foldl_append]
 show List.foldl rIns _ (List.filter nonE [s]) = _
 rw [List.filter_cons, List.filter_nil]
 cases nonE s <;> rfl
theorem names21_c (e : GEdit) (H : Heap) (he : okE e) (hsz : e.refs.length + e.obj.refs.length < 1000000000) : ACalls Tryz.prog 16 [av (encEdit e)] H (fun r H' => r = .pv (slStrs (gNames e)) ∧ H' = H) := by
 refine ACalls.pure ?_ (by simp) H
 refine Bd Tryz.func16 rfl Tryz.ntmps16<|Sq<|Rg<|Dd (by exact opd_box (id := 1) rfl rfl rfl rfl rfl)<|Dd as'<|Zz<|Sq<|Rg<|Dd as'<|Zz<|Sq<|Sq<|Rg<|Dd (by exact opd_loadn_ref rfl Tryz.isAgg38 Tryz.sizeOf38 rfl rfl rfl rfl (by simp only [Zl, encTag, encObj, encStr, encEdit, encInt]; rfl) rfl)<|Dd (by exact opr_call rfl rfl Tryz.call13 rfl (rValidE_c e _ he (by omega)))<|Dd no'<|Zz ?_
 refine Cn (fun hc1 => ?_) fun hc1 => ?_
 ·have hv : gEditV e = false := by
   have h := hc1
   simpa using h
  have hx : gNames e = [] := by rw [gNames, hv, if_neg (by decide)]
  rw [hx]
  refine Sq<|Rg<|Dd mv'<|Dd as'<|Zz<|awp_ret ?_
  refine Rt ?_
  exact ⟨rfl, rfl⟩
 have hv : gEditV e = true := by
  have h := hc1
  simpa using h
 rw [← rNames_eq hv, rNames]
 obtain ⟨a, ha⟩ : ∃ a, a = [e.id, e.other, e.node, e.obj.id] ++ e.refs ++ e.obj.refs := ⟨_, rfl⟩
 have h4 : ([e.id, e.other, e.node, e.obj.id] ++ e.refs).length = 4 + e.refs.length := by rw [List.length_append]; rfl
 have hal : a.length = 4 + e.refs.length + e.obj.refs.length := by rw [ha, List.length_append, h4]
 refine awp_skip<|Sq<|Rg<|Dd (fr' fo38_1)<|Dd (l1' Tryz.isAgg9)<|Dd (fr' fo38_2)<|Dd (l1' Tryz.isAgg9)<|Dd (fr' fo38_3)<|Dd (l1' Tryz.isAgg9)<|Dd (fr' fo38_8)<|Dd (fr' fo36_0)<|Dd (l1' Tryz.isAgg9)<|Dd (by exact x_buildSlice_own (id := 19) rfl so33 rfl rfl rfl rfl (by simp [encStr]) rfl)<|Dd (fr' fo38_7)<|Dd (l1' Tryz.isAgg33)<|Dd (by exact x_append rfl so33 ei9 rfl rfl rfl rfl rfl rfl rfl (strO_rl _) (List.length_map _) (by omega) h4.symm (by rw [← rows_of]; rfl : _ = strN ([e.id, e.other, e.node, e.obj.id] ++ e.refs)))<|Dd as'<|Zz<|Sq<|Rg<|Dd mv'<|Dd (fr' fo38_8)<|Dd (fr' fo36_3)<|Dd (l1' Tryz.isAgg33)<|Dd (by exact x_append rfl so33 ei9 rfl rfl rfl rfl rfl (List.length_map _) rfl (strO_rl _) (List.length_map _) (by omega) (by rw [hal, h4] : ([e.id, e.other, e.node, e.obj.id] ++ e.refs).length + e.obj.refs.length = a.length) (by rw [← rows_of, ha]; exact List.map_append.symm : _ = strN a))<|Dd as' ?_
 refine Zz<|Sq<|Sq<|Rg<|Dd as'<|Zz<|awp_block ?_
 rw [← ha]
 refine awp_loop (σ := Nat) (fun i => ([(3, .pv (slStrs (((a.take i).filter nonE).foldl rIns []))), (4, .osl 19 2 0 a.length), (5, iv (i : Int))], [(19, ⟨2, 1, 9, strN a⟩)])) (fun i => i ≤ a.length) (fun i => a.length - i) 0 (by omega) ?_ ?_
 ·exact Wk
 intro i hi
 have hfl : (((a.take i).filter nonE).foldl rIns []).length ≤ a.length := by
  have h1 := insAll_len ((a.take i).filter nonE) []
  have h2 := List.length_filter_le nonE (a.take i)
  have h3 : (a.take i).length ≤ a.length := by rw [List.length_take]; omega
  have h5 : ([] : List ByteArray).length = 0 := rfl
  omega
 refine Sq<|Sq<|Rg<|Dd mv'<|Dd mv'<|Dd (by exact opd_len_osl rfl Tryz.underlying33 rfl rfl rfl)<|Dd lss'<|Zz ?_
 refine Cn (fun hc2 => ?_) fun hc2 => ?_
 ·have hil : i < a.length := by have := of_decide_eq_true hc2; omega
  obtain ⟨s, hs⟩ := get_of_lt hil
  have hi1 : (strN a)[i]? = some ((encStr s).map .pv) := by rw [List.getElem?_map, hs]; rfl
  have hsn := fold_snocF hs
  refine awp_skip<|Sq<|awp_block<|Sq<|Rg<|Dd mv'<|Dd mv'<|Dd (by exact x_index_osl rfl so33 rfl rfl rfl rfl rfl (by omega) (by exact Int.toNat_natCast _) hil (Nat.zero_add _))<|Dd (by exact opd_load1_ref rfl Tryz.isAgg9 rfl rfl rfl hi1 rfl)<|Dd sn'<|Zz ?_
  refine Cn (fun hc3 => ?_) fun hc3 => ?_
  ·have hne : nonE s = true := hc3
   rw [hne, if_pos rfl] at hsn
   refine Rg<|Dd mv'<|Dd mv'<|Dd mv'<|Dd (by exact x_index_osl rfl so33 rfl rfl rfl rfl rfl (by omega) (by exact Int.toNat_natCast _) hil (Nat.zero_add _))<|Dd (by exact opd_load1_ref rfl Tryz.isAgg9 rfl rfl rfl hi1 rfl)<|Dd (by exact opr_call rfl rfl Tryz.call35 rfl (insert21_c (((a.take i).filter nonE).foldl rIns []) s _ (by omega)))<|Dd as'<|Zz<|Rg<|Dd mv'<|Dd ad'<|Dd as'<|Zz ?_
   refine ⟨i + 1, by omega, by omega, ?_⟩
   rw [hsn]
   exact Wk
  have hne : nonE s = false := hc3
  rw [hne, if_neg (by decide)] at hsn
  refine awp_skip<|Rg<|Dd mv'<|Dd ad'<|Dd as'<|Zz ?_
  refine ⟨i + 1, by omega, by omega, ?_⟩
  rw [hsn]
  exact Wk
 have hge : i = a.length := by have := of_decide_eq_false hc2; omega
 subst hge
 rw [List.take_length]
 refine awp_exit<|Sq<|Rg<|Dd mv'<|Dd as'<|Zz<|awp_ret ?_
 refine Rt ?_
 exact ⟨rfl, rfl⟩
theorem same21_t (e : GEdit) (H : Heap) (he : okE e) : ACalls Tryz.prog 37 [av (encEdit e), av (encEdit e)] H (fun r H' => r = bv true ∧ H' = H) := by
 refine ACalls.pure ?_ (by simp) H
 have hrm : (e.refs.map encStr).length = e.refs.length := List.length_map _
 have hrl := he.2.1.1
 have k1 : (!decide (e.op = e.op)) = false := by simp
 have k2 : (!decide (e.id = e.id)) = false := by simp
 have k3 : (!decide (e.other = e.other)) = false := by simp
 have k4 : (!decide (e.node = e.node)) = false := by simp
 have k5 : (!(decide (e.x = e.x) && decide (e.y = e.y))) = false := by simp
 have k6 : (!decide (e.key = e.key)) = false := by simp
 have k7 : (!decide (e.val = e.val)) = false := by simp
 have k8 : (!decide (((e.refs.map encStr).length : Int) = ((e.refs.map encStr).length : Int))) = false := by simp
 have hso := fun H => rSame_c e.obj e.obj H he.2.2.2.2.1 he.2.2.2.1.1
 rw [gSameO_iff.2 rfl] at hso
 refine Bd Tryz.func37 rfl Tryz.ntmps37<|Sq<|Rg<|Dd (by exact opd_box (id := 2) rfl rfl rfl rfl rfl)<|Dd (by exact opd_box (id := 3) rfl rfl rfl rfl rfl)<|Dd as'<|Zz<|Sq<|Sq<|Rg<|Dd (fr' fo38_0)<|Dd (l1' Tryz.isAgg3)<|Dd (fr' fo38_0)<|Dd (l1' Tryz.isAgg3)<|Dd ne'<|Dd mv' ?_
 refine al_ond rfl rfl rfl (by assumption) rfl rfl (by exact opd_field_ref rfl fo38_1 rfl rfl rfl rfl) ?_
 refine al_ond rfl rfl rfl (by assumption) rfl rfl (by exact opd_load1_ref rfl Tryz.isAgg9 rfl rfl rfl rfl rfl) ?_
 refine al_ond rfl rfl rfl (by assumption) rfl rfl (by exact opd_field_ref rfl fo38_1 rfl rfl rfl rfl) ?_
 refine al_ond rfl rfl rfl (by assumption) rfl rfl (by exact opd_load1_ref rfl Tryz.isAgg9 rfl rfl rfl rfl rfl) ?_
 refine al_ond rfl rfl rfl (by assumption) rfl rfl (by exact opd_sneq rfl rfl rfl) ?_
 refine Dd pf'<|Dd mv' ?_
 refine al_ond rfl rfl rfl (by assumption) rfl rfl (by exact opd_field_ref rfl fo38_2 rfl rfl rfl rfl) ?_
 refine al_ond rfl rfl rfl (by assumption) rfl rfl (by exact opd_load1_ref rfl Tryz.isAgg9 rfl rfl rfl rfl rfl) ?_
 refine al_ond rfl rfl rfl (by assumption) rfl rfl (by exact opd_field_ref rfl fo38_2 rfl rfl rfl rfl) ?_
 refine al_ond rfl rfl rfl (by assumption) rfl rfl (by exact opd_load1_ref rfl Tryz.isAgg9 rfl rfl rfl rfl rfl) ?_
 refine al_ond rfl rfl rfl (by assumption) rfl rfl (by exact opd_sneq rfl rfl rfl) ?_
 refine Dd pf'<|Dd mv' ?_
 refine al_ond rfl rfl rfl (by assumption) rfl rfl (by exact opd_field_ref rfl fo38_3 rfl rfl rfl rfl) ?_
 refine al_ond rfl rfl rfl (by assumption) rfl rfl (by exact opd_load1_ref rfl Tryz.isAgg9 rfl rfl rfl rfl rfl) ?_
 refine al_ond rfl rfl rfl (by assumption) rfl rfl (by exact opd_field_ref rfl fo38_3 rfl rfl rfl rfl) ?_
 refine al_ond rfl rfl rfl (by assumption) rfl rfl (by exact opd_load1_ref rfl Tryz.isAgg9 rfl rfl rfl rfl rfl) ?_
 refine al_ond rfl rfl rfl (by assumption) rfl rfl (by exact opd_sneq rfl rfl rfl) ?_
 refine Dd pf'<|Dd mv' ?_
 refine al_ond rfl rfl rfl (by assumption) rfl rfl (by exact opd_field_ref rfl fo38_4 rfl rfl rfl rfl) ?_
 refine al_ond rfl rfl rfl (by assumption) rfl rfl (by exact opd_loadn_ref rfl Tryz.isAgg32 Tryz.sizeOf32 rfl rfl rfl rfl (by simp only [Zl, encTag, encObj, encStr, encEdit, encInt]; rfl) rfl) ?_
 refine al_ond rfl rfl rfl (by assumption) rfl rfl (by exact opd_field_ref rfl fo38_4 rfl rfl rfl rfl) ?_
 refine al_ond rfl rfl rfl (by assumption) rfl rfl (by exact opd_loadn_ref rfl Tryz.isAgg32 Tryz.sizeOf32 rfl rfl rfl rfl (by simp only [Zl, encTag, encObj, encStr, encEdit, encInt]; rfl) rfl) ?_
 refine al_ond rfl rfl rfl (by assumption) rfl rfl (by exact opd_aneq rfl rfl rfl rfl rfl Tryz.eqGuardType32 (se32 _ _ _ _)) ?_
 refine Dd pf'<|Dd mv' ?_
 refine al_ond rfl rfl rfl (by assumption) rfl rfl (by exact opd_field_ref rfl fo38_5 rfl rfl rfl rfl) ?_
 refine al_ond rfl rfl rfl (by assumption) rfl rfl (by exact opd_load1_ref rfl Tryz.isAgg9 rfl rfl rfl rfl rfl) ?_
 refine al_ond rfl rfl rfl (by assumption) rfl rfl (by exact opd_field_ref rfl fo38_5 rfl rfl rfl rfl) ?_
 refine al_ond rfl rfl rfl (by assumption) rfl rfl (by exact opd_load1_ref rfl Tryz.isAgg9 rfl rfl rfl rfl rfl) ?_
 refine al_ond rfl rfl rfl (by assumption) rfl rfl (by exact opd_sneq rfl rfl rfl) ?_
 refine Dd pf'<|Dd mv' ?_
 refine al_ond rfl rfl rfl (by assumption) rfl rfl (by exact opd_field_ref rfl fo38_6 rfl rfl rfl rfl) ?_
 refine al_ond rfl rfl rfl (by assumption) rfl rfl (by exact opd_load1_ref rfl Tryz.isAgg9 rfl rfl rfl rfl rfl) ?_
 refine al_ond rfl rfl rfl (by assumption) rfl rfl (by exact opd_field_ref rfl fo38_6 rfl rfl rfl rfl) ?_
 refine al_ond rfl rfl rfl (by assumption) rfl rfl (by exact opd_load1_ref rfl Tryz.isAgg9 rfl rfl rfl rfl rfl) ?_
 refine al_ond rfl rfl rfl (by assumption) rfl rfl (by exact opd_sneq rfl rfl rfl) ?_
 refine Dd pf'<|Dd mv' ?_
 refine al_ond rfl rfl rfl (by assumption) rfl rfl (by exact opd_field_ref rfl fo38_7 rfl rfl rfl rfl) ?_
 refine al_ond rfl rfl rfl (by assumption) rfl rfl (by exact opd_load1_ref rfl Tryz.isAgg33 rfl rfl rfl rfl rfl) ?_
 refine al_ond rfl rfl rfl (by assumption) rfl rfl (by exact opd_len_sl rfl Tryz.underlying33 rfl) ?_
 refine al_ond rfl rfl rfl (by assumption) rfl rfl (by exact opd_field_ref rfl fo38_7 rfl rfl rfl rfl) ?_
 refine al_ond rfl rfl rfl (by assumption) rfl rfl (by exact opd_load1_ref rfl Tryz.isAgg33 rfl rfl rfl rfl rfl) ?_
 refine al_ond rfl rfl rfl (by assumption) rfl rfl (by exact opd_len_sl rfl Tryz.underlying33 rfl) ?_
 refine al_ond rfl rfl rfl (by assumption) rfl rfl (by exact opd_neq rfl rfl rfl) ?_
 refine Dd pf'<|Zz ?_
 refine Cn (fun hc1 => ?_) fun hc1 => ?_
 ·(rw [k8] at hc1; cases hc1)
 skip
 refine awp_skip<|Sq<|Sq<|Rg<|Dd as'<|Zz<|awp_block ?_
 refine awp_loop (σ := Nat) (fun i => ([(2, .ref 2 0 0 0), (3, .ref 3 0 0 0), (5, iv (i : Int))], [(3, bx 15 38 ((encEdit e).map .pv)), (2, bx 15 38 ((encEdit e).map .pv))])) (fun i => i ≤ e.refs.length) (fun i => e.refs.length - i) 0 (by omega) ?_ ?_
 ·exact Wk
 intro i hi
 refine Sq<|Sq<|Rg<|Dd mv'<|Dd (fr' fo38_7)<|Dd (l1' Tryz.isAgg33)<|Dd (ll' Tryz.underlying33)<|Dd lss'<|Zz ?_
 refine Cn (fun hc2 => ?_) fun hc2 => ?_
 ·have hil : i < e.refs.length := by have := of_decide_eq_true hc2; omega
  obtain ⟨s, hs⟩ := get_of_lt hil
  have hi1 := map_get (f := encStr) hs
  refine awp_skip<|Sq<|awp_block<|Sq ?_
  refine awp_drawc follows ?_
  refine Cq (fr' fo38_7)<|Cq (l1' Tryz.isAgg33)<|Cq mv'<|Cq (by exact x_index_pad rfl so33 rfl rfl (by omega) (by exact Int.toNat_natCast _) hi1 rfl)<|Cq (lp' Tryz.isAgg9 (hi := hi1))<|Cq (fr' fo38_7)<|Cq (l1' Tryz.isAgg33)<|Cq mv'<|Cq (by exact x_index_pad rfl so33 rfl rfl (by omega) (by exact Int.toNat_natCast _) hi1 rfl)<|Cq (lp' Tryz.isAgg9 (hi := hi1))<|Cq sn' ?_
  refine dc_nil ⟨by kernel_rfl, ?_⟩
  refine Cn (fun hc3 => ?_) fun hc3 => ?_
  ·exfalso
   have h := hc3
   simp at h
  skip
  refine awp_skip<|Rg<|Dd mv'<|Dd ad'<|Dd as'<|Zz ?_
  exact ⟨i + 1, by omega, by omega, Wk⟩
 skip
 refine awp_exit<|Sq<|Rg<|Dd (fr' fo38_8)<|Dd (by exact opd_loadn_ref rfl Tryz.isAgg36 Tryz.sizeOf36 rfl rfl rfl rfl (by simp only [Zl, encTag, encObj, encStr, encEdit, encInt]; rfl) rfl)<|Dd (fr' fo38_8)<|Dd (by exact opd_loadn_ref rfl Tryz.isAgg36 Tryz.sizeOf36 rfl rfl rfl rfl (by simp only [Zl, encTag, encObj, encStr, encEdit, encInt]; rfl) rfl)<|Dd (by exact opr_call rfl rfl Tryz.call36 rfl (hso _))<|Dd as'<|Zz<|awp_ret ?_
 refine Rt ?_
 exact ⟨rfl, rfl⟩
theorem sameAll21_t {a b : List GEdit} (h : a = b) (H : Heap) (ha : a.length < 4611686018427387904) (he : ∀ e, e ∈ a → okE e) : ACalls Tryz.prog 11 [.pv (slEdits a), .pv (slEdits b)] H (fun r H' => r = bv true ∧ H' = H) := by
 subst h
 refine ACalls.pure ?_ (by simp) H
 have hml : (a.map encEdit).length = a.length := List.length_map _
 refine Bd Tryz.func11 rfl Tryz.ntmps11<|Sq<|Rg<|Dd as'<|Zz<|Sq<|Sq<|Rg<|Dd mv'<|Dd (ll' Tryz.underlying25)<|Dd mv'<|Dd (ll' Tryz.underlying25)<|Dd ne'<|Zz ?_
 refine Cn (fun hc1 => ?_) fun hc1 => ?_
 ·exfalso
  have h := hc1
  simp at h
 skip
 refine awp_skip<|Sq<|Sq<|Rg<|Dd as'<|Zz<|awp_block ?_
 refine awp_loop (σ := Nat) (fun i => ([(0, .pv (slEdits a)), (1, .pv (slEdits a)), (5, iv (i : Int))], [])) (fun i => i ≤ a.length) (fun i => a.length - i) 0 (by omega) ?_ ?_
 ·exact Wk
 intro i hi
 refine Sq<|Sq<|Rg<|Dd mv'<|Dd mv'<|Dd (ll' Tryz.underlying25)<|Dd lss'<|Zz ?_
 refine Cn (fun hc2 => ?_) fun hc2 => ?_
 ·have hil : i < a.length := by have := of_decide_eq_true hc2; omega
  obtain ⟨e, hel⟩ := get_of_lt hil
  have hi1 := map_get (f := encEdit) hel
  refine awp_skip<|Sq<|awp_block<|Sq ?_
  refine awp_drawc follows ?_
  refine Cq mv'<|Cq mv'<|Cq (by exact x_index_pad rfl so25 rfl rfl (by omega) (by exact Int.toNat_natCast _) hi1 rfl)<|Cq (by exact opd_loadn_pad rfl Tryz.isAgg38 Tryz.sizeOf38 rfl hi1 (by simp only [Zl, encTag, encObj, encStr, encEdit, encInt]; rfl) rfl)<|Cq mv'<|Cq mv'<|Cq (by exact x_index_pad rfl so25 rfl rfl (by omega) (by exact Int.toNat_natCast _) hi1 rfl)<|Cq (by exact opd_loadn_pad rfl Tryz.isAgg38 Tryz.sizeOf38 rfl hi1 (by simp only [Zl, encTag, encObj, encStr, encEdit, encInt]; rfl) rfl)<|Cq (by exact opr_call rfl rfl Tryz.call37 rfl (same21_t e _ (he e (List.mem_of_getElem? hel))))<|Cq no' ?_
  refine dc_nil ⟨by kernel_rfl, ?_⟩
  refine Cn (fun hc3 => ?_) fun hc3 => ?_
  ·cases hc3
  skip
  refine awp_skip<|Rg<|Dd mv'<|Dd ad'<|Dd as'<|Zz ?_
  exact ⟨i + 1, by omega, by omega, Wk⟩
 skip
 refine awp_exit<|Sq<|Rg<|Dd as'<|Zz<|awp_ret ?_
 refine Rt ?_
 exact ⟨rfl, rfl⟩
end Go.Proofs.YtbbnllojhjlaoaaGreat
end
section
set_option linter.unusedVariables false
set_option linter.unusedSimpArgs false
set_option maxRecDepth 100000
namespace Go.Abs
theorem opd_clear_osl {P : Program} {N : Nat} {o : Oper} {E : Env} {H : Heap} {T : TypeId} {t : Tmp} {e : TypeId} {id g off len sz : Nat} {ob : Ob} {row : List AV} {rows' : List (List AV)} (ho : o.op = .call { callee := .builtin .clear, args := #[.tmp t], argTypes := #[T] }) (hS : SliceOf P T e sz) (hZ : ZeroOf P e row) (hrow : row.length = sz)
  (hx : E.get t = some (.osl id g off len)) (hH : H.get id = some ob) (hg : ob.g = g) (hosz : ob.sz = sz) (hoff : off ≤ ob.rows.length) (hrows : ob.rows.take off ++ (List.replicate len row ++ ob.rows.drop (off + len)) = rows') :
  OpD P N o E H .any ((id, ⟨g, sz, ob.ty, rows'⟩) :: H) := by
 intro a w I ι h1 h2 hr he K Q hkk
 obtain ⟨v, hv, hvr⟩ := he t _ hx
 obtain ⟨c, h3, h4, h5⟩ := osl_osc hr hvr hH hg
 refine opd_clear (x := .tmp t) (E := (t, .osc id g off len c) :: E) ho hS hZ hrow (Env.get_cons_same _ _ _) hH hg hosz hoff hrows a w I ι h1 h2 hr (fun u x hu => ?_) K Q hkk
 by_cases e : t = u
 ·subst e
  rw [Env.get_cons_same] at hu; cases hu
  exact ⟨v, hv, h5⟩
 rw [Env.get_cons_other _ _ e] at hu
 exact he u x hu
end Go.Abs
namespace Go.Proofs.YtbbnllojhjlaoaaGreat
open Go.Abs
def gComp : List ByteArray → List ByteArray
 | [] => []
 | [x] => [x]
 | x :: y :: r => if x = y then gComp (y :: r) else x :: gComp (y :: r)
theorem comp_snoc : ∀ (l : List ByteArray) (x y : ByteArray), gComp (l ++ [x, y]) = gComp (l ++ [x]) ++ (if x = y then [] else [y])
 | [], x, y => by
  show (if x = y then gComp [y] else x :: gComp [y]) = [x] ++ _
  by_cases e : x = y
  ·rw [if_pos e, if_pos e, e]; rfl
  rw [if_neg e, if_neg e]; rfl
 | [a], x, y => by
  show (if a = x then gComp [x, y] else a :: gComp [x, y]) = (if a = x then gComp [x] else a :: gComp [x]) ++ _
  have := comp_snoc [] x y
  rw [show gComp [x, y] = gComp ([] ++ [x, y]) from rfl, this]
  split <;> rfl
 | a :: b :: l, x, y => by
  have := comp_snoc (b :: l) x y
  show (if a = b then gComp ((b :: l) ++ [x, y]) else a :: gComp ((b :: l) ++ [x, y])) = (if a = b then gComp ((b :: l) ++ [x]) else a :: gComp ((b :: l) ++ [x])) ++ _
  rw [this]
  split <;> rfl
theorem comp_take {L : List ByteArray} {k : Nat} {x y : ByteArray} (hk : 1 ≤ k) (hx : L[k - 1]? = some x) (hy : L[k]? = some y) : gComp (L.take (k + 1)) = gComp (L.take k) ++ (if x = y then [] else [y]) := by
 obtain ⟨j, rfl⟩ : ∃ j, k = j + 1 := ⟨k - 1, by omega⟩
 rw [show j + 1 - 1 = j by omega] at hx
 have h1 : L.take (j + 1) = L.take j ++ [x] := by rw [List.take_add_one, hx]; rfl
 have h2 : L.take (j + 1 + 1) = L.take j ++ [x, y] := by rw [List.take_add_one, h1, hy, List.append_assoc]; rfl
 rw [h2, h1, comp_snoc]
theorem compact_mem : ∀ {l : List ByteArray} {x : ByteArray}, x ∈ gComp l ↔ x ∈ l
 | [], x => Iff.rfl
 | [a], x => Iff.rfl
 | a :: b :: l, x => by
  show x ∈ (if a = b then gComp (b :: l) else a :: gComp (b :: l)) ↔ _
  have ih := compact_mem (l := b :: l) (x := x)
  split
  ·next e =>
   rw [ih, e]
   simp
  rw [List.mem_cons, ih, List.mem_cons (a := x) (b := a)]
theorem compact_incr : ∀ {l : List ByteArray}, l.Pairwise (fun a b => slt b a = false) → incr (gComp l)
 | [], _ => .nil
 | [a], _ => List.pairwise_singleton _ _
 | a :: b :: l, h => by
  have h2 := (List.pairwise_cons.1 h).2
  have ih := compact_incr h2
  show incr (if a = b then gComp (b :: l) else a :: gComp (b :: l))
  split
  ·exact ih
  next e =>
  refine List.pairwise_cons.2 ⟨fun y hy => ?_, ih⟩
  have hy2 := compact_mem.1 hy
  have hba : slt b a = false := (List.pairwise_cons.1 h).1 b List.mem_cons_self
  have hab : slt a b = true := by
   cases hc : slt a b with
   | true => rfl
   | false => exact absurd (slt_tri hc hba) e
  rcases List.mem_cons.1 hy2 with rfl | hy2
  ·exact hab
  have h3 := (List.pairwise_cons.1 h2).1 y hy2
  cases hc : slt b y with
  | true => exact slt_trans hab hc
  | false => rw [slt_tri h3 hc]; exact hab
theorem gcomp_len : ∀ (l : List ByteArray), (gComp l).length ≤ l.length
 | [] => Nat.le_refl _
 | [a] => Nat.le_refl _
 | a :: b :: l => by
  have ih := gcomp_len (b :: l)
  show (if a = b then gComp (b :: l) else a :: gComp (b :: l)).length ≤ (b :: l).length + 1
  split
  ·omega
  rw [List.length_cons]; omega
theorem strN_at {l : List ByteArray} {i : Nat} {s : ByteArray} (h : l[i]? = some s) : (strN l)[i]? = some ((encStr s).map .pv) := by rw [List.getElem?_map, h]; rfl
theorem mix_at {P L : List ByteArray} {j : Nat} {s : ByteArray} (h : P.length ≤ j) (hs : L[j]? = some s) : (P ++ L.drop P.length)[j]? = some s := by
 rw [List.getElem?_append_right h, List.getElem?_drop, show P.length + (j - P.length) = j by omega]
 exact hs
theorem front_same {H : Heap} {id : Nat} {o : Ob} (h : H.get id = some o) (j : Nat) : Heap.get ((id, o) :: H) j = H.get j := by
 by_cases e : j = id
 ·subst e; rw [get_cons_same, h]
 exact get_cons_other _ _ e
theorem compact_c (L : List ByteArray) (g : Nat) (H : Heap) (h1 : H.get 901 = some ⟨g, 1, 9, strN L⟩) (hl : L.length < 1099511627776) :
  ACalls Tryz.prog 66 [.osl 901 g 0 L.length] H (fun r H' => r = .osl 901 g 0 (gComp L).length ∧ H' = (901, ⟨g, 1, 9, strN (gComp L ++ List.replicate (L.length - (gComp L).length) sNil)⟩) :: H) := by
 refine Bd Tryz.func66 rfl Tryz.ntmps66 ?_
 refine AWp.ent (E' := [(0, .osl 901 g 0 L.length)]) (H' := (901, ⟨g, 1, 9, strN L⟩) :: H) (Ent.get' ⟨⟨_, rfl, rfl⟩, trivial⟩ (front_same h1)) ?_
 refine Sq<|Rg<|Dd as'<|Zz<|Sq<|Sq<|Rg<|Dd mv'<|Dd (by exact opd_len_osl rfl Tryz.underlying33 rfl rfl rfl)<|Dd lss'<|Zz ?_
 refine Cn (fun hc1 => ?_) fun hc1 => ?_
 ·have hlt : L.length < 2 := by have := of_decide_eq_true hc1; omega
  have hc0 : gComp L = L := by
   match L, hlt with
   | [], _ => rfl
   | [a], _ => rfl
  refine Sq<|Rg<|Dd mv'<|Dd as'<|Zz<|awp_ret ?_
  refine aret1 (H' := (901, ⟨g, 1, 9, strN L⟩) :: H) (.inr rfl) rfl (rval_tmp rfl) Fin.refl ⟨by rw [hc0], by rw [hc0, Nat.sub_self, List.replicate_zero, List.append_nil]⟩
 have hge : 2 ≤ L.length := by have := of_decide_eq_false hc1; omega
 refine awp_skip<|Sq<|Sq<|Rg<|Dd as'<|Zz<|awp_block ?_
 refine awp_loop (σ := Nat) (fun i => ([(0, .osl 901 g 0 L.length), (3, iv (i : Int))], (901, ⟨g, 1, 9, strN L⟩) :: H)) (fun i => 1 ≤ i ∧ i ≤ L.length ∧ gComp (L.take i) = L.take i) (fun i => L.length - i) 1 ⟨by omega, by omega, by
  obtain ⟨x, hx⟩ := get_of_lt (l := L) (k := 0) (by omega)
  rw [List.take_add_one, hx]; rfl⟩ ?_ ?_
 ·exact Ent.get' ⟨⟨_, rfl, rfl⟩, ⟨_, rfl, rfl⟩, trivial⟩ (fun j => rfl)
 rintro i ⟨hi1, hi2, hi3⟩
 refine Sq<|Sq<|Rg<|Dd mv'<|Dd mv'<|Dd (by exact opd_len_osl rfl Tryz.underlying33 rfl rfl rfl)<|Dd lss'<|Zz ?_
 refine Cn (fun hc2 => ?_) fun hc2 => ?_
 ·have hil : i < L.length := by have := of_decide_eq_true hc2; omega
  obtain ⟨y, hy⟩ := get_of_lt hil
  obtain ⟨x, hx⟩ := get_of_lt (l := L) (k := i - 1) (by omega)
  have ht := comp_take hi1 hx hy
  refine awp_skip<|Sq<|awp_block<|Sq ?_
  refine awp_drawc follows ?_
  refine Cq mv'<|Cq mv'<|Cq (by exact x_index_osl rfl so33 rfl rfl rfl rfl rfl (by omega) (by exact Int.toNat_natCast _) hil (Nat.zero_add _))<|Cq (by exact opd_load1_ref rfl Tryz.isAgg9 rfl rfl rfl (strN_at hy) rfl)<|Cq mv'<|Cq mv'<|Cq (by exact opd_sub rfl rfl rfl (by exact w64 (by omega) (by omega)))<|Cq (by exact x_index_osl (m := i - 1) rfl so33 rfl rfl rfl rfl rfl (by omega) (show ((i : Int) - 1).toNat = i - 1 by omega) (by omega) (Nat.zero_add _))<|Cq (by exact opd_load1_ref rfl Tryz.isAgg9 rfl rfl rfl (strN_at hx) rfl)<|Cq se' ?_
  refine dc_nil ⟨by kernel_rfl, ?_⟩
  refine Cn (fun hc3 => ?_) fun hc3 => ?_
  ·have hyx := of_decide_eq_true hc3
   rw [if_pos hyx.symm, List.append_nil, hi3] at ht
   refine Sq<|Rg<|Dd mv'<|Dd mv'<|Dd (by exact x_slice_osl (l := i) (h := L.length) rfl so33 rfl rfl rfl rfl rfl rfl (by omega) (Nat.le_refl _) (Nat.zero_add _) rfl)<|Dd as'<|Zz<|Sq<|Sq<|Rg<|Dd as'<|Zz<|awp_block ?_
   refine awp_loop2 (fun (k : Nat) (R : List ByteArray) => ([(0, .osl 901 g 0 L.length), (3, iv (R.length : Int)), (4, .osl 901 g i (L.length - i)), (5, iv (k : Int))], (901, ⟨g, 1, 9, strN (R ++ L.drop R.length)⟩) :: H)) (fun k R => 1 ≤ k ∧ i + k ≤ L.length ∧ R = gComp (L.take (i + k)) ∧ R.length + 1 ≤ i + k) (fun k R => L.length - (i + k)) 1 (L.take i) ⟨by omega, by omega, ht.symm, by rw [List.length_take]; omega⟩ ?_ ?_
   ·have hti : (L.take i).length = i := by rw [List.length_take]; omega
    rw [hti, List.take_append_drop]
    exact Ent.get' ⟨⟨_, rfl, rfl⟩, ⟨_, rfl, rfl⟩, ⟨_, rfl, rfl⟩, ⟨_, rfl, rfl⟩, trivial⟩ (fun j => rfl)
   rintro k R ⟨hk1, hk2, hk3, hk4⟩
   refine Sq<|Sq<|Rg<|Dd mv'<|Dd mv'<|Dd (by exact opd_len_osl rfl Tryz.underlying33 rfl rfl rfl)<|Dd lss'<|Zz ?_
   refine Cn (fun hc4 => ?_) fun hc4 => ?_
   ·have hkl : i + k < L.length := by have := of_decide_eq_true hc4; omega
    obtain ⟨v, hv⟩ := get_of_lt hkl
    obtain ⟨u, hu⟩ := get_of_lt (l := L) (k := i + k - 1) (by omega)
    have ht2 := comp_take (by omega) hu hv
    have hv2 := strN_at (mix_at (P := R) (by omega) hv)
    have hu2 := strN_at (mix_at (P := R) (by omega) hu)
    refine awp_skip<|Sq<|awp_block<|Sq ?_
    refine awp_drawc follows ?_
    refine Cq mv'<|Cq mv'<|Cq (by exact x_index_osl (m := k) rfl so33 rfl rfl rfl rfl rfl (by omega) (Int.toNat_natCast _) (by omega) rfl)<|Cq (by exact opd_load1_ref rfl Tryz.isAgg9 rfl rfl rfl hv2 rfl)<|Cq mv'<|Cq mv'<|Cq (by exact opd_sub rfl rfl rfl (by exact w64 (by omega) (by omega)))<|Cq (by exact x_index_osl (m := k - 1) (m2 := i + k - 1) rfl so33 rfl rfl rfl rfl rfl (by omega) (show ((k : Int) - 1).toNat = k - 1 by omega) (by omega) (by omega))<|Cq (by exact opd_load1_ref rfl Tryz.isAgg9 rfl rfl rfl hu2 rfl)<|Cq sn' ?_
    refine dc_nil ⟨by kernel_rfl, ?_⟩
    refine Cn (fun hc5 => ?_) fun hc5 => ?_
    ·have hne : ¬ u = v := fun e => by
      have h := hc5
      rw [e] at h
      simp at h
     rw [if_neg hne, ← hk3] at ht2
     have hR0 : ∃ z, L[R.length]? = some z := get_of_lt (by omega)
     obtain ⟨z, hz⟩ := hR0
     have hat : (strN (R ++ L.drop R.length))[R.length]? = some ((encStr z).map .pv) := strN_at (mix_at (P := R) (Nat.le_refl _) hz)
     have hset : (strN (R ++ L.drop R.length)).set R.length [sv v] = strN ((R ++ [v]) ++ L.drop (R ++ [v]).length) := by
      have hd : L.drop R.length = z :: L.drop (R.length + 1) := by
       obtain ⟨p, q⟩ := List.getElem?_eq_some_iff.1 hz
       rw [List.drop_eq_getElem_cons p, q]
      rw [hd, List.length_append, List.length_singleton, strN, List.map_append, List.map_cons, List.set_append_right _ _ (by rw [List.length_map]; exact Nat.le_refl _), List.length_map, Nat.sub_self, List.set_cons_zero, List.append_assoc, strN, List.map_append, List.map_append]
      rfl
     refine Sq<|Rg<|Dd mv'<|Dd mv'<|Dd mv'<|Dd mv'<|Dd (by exact x_index_osl (m := k) rfl so33 rfl rfl rfl rfl rfl (by omega) (Int.toNat_natCast _) (by omega) rfl)<|Dd (by exact opd_load1_ref rfl Tryz.isAgg9 rfl rfl rfl hv2 rfl)<|Dd (by exact x_index_osl rfl so33 rfl rfl rfl rfl rfl (by omega) (by exact Int.toNat_natCast _) (by omega : R.length < L.length) (Nat.zero_add _))<|Uu (by exact x_store1 rfl Tryz.sizeOf9 rfl rfl rfl rfl rfl hat (by simp [encStr]) rfl hset)<|Zz<|Rg<|Dd mv'<|Dd ad'<|Dd as'<|Zz<|Rg<|Dd mv'<|Dd ad'<|Dd as'<|Zz ?_
     refine ⟨k + 1, R ++ [v], ⟨by omega, by omega, ht2.symm, by rw [List.length_append, List.length_singleton]; omega⟩, by omega, ?_⟩
     rw [show (((R ++ [v]).length : Nat) : Int) = (R.length : Int) + 1 by rw [List.length_append, List.length_singleton]; rfl]
     exact Ent.dup ⟨⟨_, rfl, rfl⟩, ⟨_, rfl, rfl⟩, ⟨_, rfl, rfl⟩, ⟨_, rfl, rfl⟩, trivial⟩
    have he : u = v := by
     have h := hc5
     have h2 : v = u := by simpa using h
     exact h2.symm
    rw [if_pos he, List.append_nil, ← hk3] at ht2
    refine awp_skip<|Rg<|Dd mv'<|Dd ad'<|Dd as'<|Zz ?_
    refine ⟨k + 1, R, ⟨by omega, by omega, ht2.symm, by omega⟩, by omega, ?_⟩
    exact Ent.get' ⟨⟨_, rfl, rfl⟩, ⟨_, rfl, rfl⟩, ⟨_, rfl, rfl⟩, ⟨_, rfl, rfl⟩, trivial⟩ (fun j => rfl)
   have hge2 : i + k = L.length := by have := of_decide_eq_false hc4; omega
   rw [hge2, List.take_length] at hk3
   have hRl : R.length ≤ L.length := by omega
   have hmix : (strN (R ++ L.drop R.length)).length = L.length := by
    rw [List.length_map, List.length_append, List.length_drop]; omega
   have hcl : (strN (R ++ L.drop R.length)).take R.length ++ (List.replicate (L.length - R.length) [sv sNil] ++ (strN (R ++ L.drop R.length)).drop (R.length + (L.length - R.length))) = strN (R ++ List.replicate (L.length - R.length) sNil) := by
    have hd0 : (strN (R ++ L.drop R.length)).drop (R.length + (L.length - R.length)) = [] := List.drop_eq_nil_of_le (by rw [hmix]; omega)
    rw [hd0, List.append_nil, strN, List.map_append, List.take_left' (List.length_map _), strN, List.map_append, List.map_replicate]
    rfl
   refine awp_exit<|Sq<|Rg<|Dd mv'<|Dd mv'<|Dd (by exact x_slice_osl (l := R.length) (h := L.length) rfl so33 rfl rfl rfl rfl rfl rfl hRl (Nat.le_refl _) (Nat.zero_add _) rfl)<|Uu (by exact opd_clear_osl rfl so33 zo9 rfl rfl rfl rfl rfl (by rw [hmix]; exact hRl) hcl)<|Zz<|Sq<|Rg<|Dd mv'<|Dd mv'<|Dd (by exact x_slice_osl (l := 0) (h := R.length) rfl so33 rfl rfl rfl rfl rfl rfl (Nat.zero_le _) hRl (Nat.zero_add _) rfl)<|Dd as'<|Zz<|awp_ret ?_
   refine aret1 (H' := (901, ⟨g, 1, 9, strN (R ++ List.replicate (L.length - R.length) sNil)⟩) :: H) (.inr rfl) rfl (rval_tmp rfl) (Fin.get' (fun j => get_dup _ _ _ _ j)) ⟨by rw [hk3]; rfl, by rw [hk3]⟩
  have hyx := of_decide_eq_false hc3
  rw [if_neg (fun e => hyx e.symm), hi3] at ht
  refine awp_skip<|Rg<|Dd mv'<|Dd ad'<|Dd as'<|Zz ?_
  refine ⟨i + 1, ⟨by omega, by omega, ?_⟩, by omega, Ent.get' ⟨⟨_, rfl, rfl⟩, ⟨_, rfl, rfl⟩, trivial⟩ (fun j => rfl)⟩
  rw [ht, List.take_add_one, hy]; rfl
 have hge3 : i = L.length := by have := of_decide_eq_false hc2; omega
 subst hge3
 rw [List.take_length] at hi3
 refine awp_exit<|Sq<|Rg<|Dd mv'<|Dd as'<|Zz<|awp_ret ?_
 refine aret1 (H' := (901, ⟨g, 1, 9, strN L⟩) :: H) (.inr rfl) rfl (rval_tmp rfl) Fin.refl ⟨by rw [hi3], by rw [hi3, Nat.sub_self, List.replicate_zero, List.append_nil]⟩
end Go.Proofs.YtbbnllojhjlaoaaGreat
end
section
set_option linter.unusedVariables false
set_option linter.unusedSimpArgs false
set_option maxRecDepth 100000
namespace Go.Proofs.YtbbnllojhjlaoaaGreat
open Go.Abs
theorem rl_GTag (l : List GTag) : ∀ r ∈ l.map encTag, r.length = 2 := fun r hr => by
 obtain ⟨t, _, rfl⟩ := List.mem_map.1 hr
 rfl
theorem grow_GTag (n : Nat) (H : Heap) (h4 : H.get 904 = none) (h5 : H.get 905 = none) (hc : Closed H) (hn : n < 1099511627776) :
  ACalls Tryz.prog 103 [.pv .nils, iv (n : Int)] H (fun r H' => r = .osl 905 1 0 0 ∧ H' = (905, ⟨1, 2, 67, []⟩) :: H) := by
 refine Bd Tryz.func103 rfl Tryz.ntmps103 ?_
 by_cases h0 : n = 0
 ·subst h0
  refine awp_nilc (t := 0) (id := 905) (sz := 2) (ty := 67) rfl h5 rfl ?_
  refine Sq<|Rg<|Dd as'<|Zz<|Sq<|Sq<|Rg<|Dd mv'<|Dd lss'<|Zz ?_
  refine Cn (fun hc1 => ?_) fun hc1 => ?_
  ·have h := of_decide_eq_true hc1; omega
  skip
  refine awp_skip<|Sq<|Sq<|Rg<|Dd mv'<|Dd mv'<|Dd (by exact opd_cap_osc rfl Tryz.underlying34 rfl rfl rfl)<|Dd mv'<|Dd (by exact opd_len_osc rfl Tryz.underlying34 rfl rfl rfl)<|Dd (by exact opd_sub rfl rfl rfl (by exact w64 (by omega) (by omega)))<|Dd (by exact opd_sub rfl rfl rfl (by exact w64 (by omega) (by omega)))<|Dd as'<|Zz<|Sq<|Rg<|Dd mv'<|Dd gt'<|Zz ?_
  refine Cn (fun hc2 => ?_) fun hc2 => ?_
  ·have h := of_decide_eq_true hc2; omega
  skip
  refine awp_skip<|Sq ?_
  refine awp_uncap (t := 0) rfl rfl rfl (by decide) ?_
  refine Rg<|Dd mv'<|Dd as'<|Zz<|awp_ret ?_
  refine aret1 (H' := ((905, ⟨1, 2, 67, []⟩) :: H)) (.inr rfl) rfl (rval_tmp rfl) ((Fin.bump (g := 0) (k := 1) rfl rfl (by decide) rfl rfl rfl).trans (Fin.get' (fun j => get_dup _ _ _ _ j))) ?_
  exact ⟨rfl, rfl⟩
 refine awp_nilc (t := 0) (id := 904) (sz := 2) (ty := 67) rfl h4 rfl ?_
 have h5' : Heap.get ((904, (⟨0, 2, 67, []⟩ : Ob)) :: H) 905 = none := h5
 refine Sq<|Rg<|Dd as'<|Zz<|Sq<|Sq<|Rg<|Dd mv'<|Dd lss'<|Zz ?_
 refine Cn (fun hc3 => ?_) fun hc3 => ?_
 ·have h := of_decide_eq_true hc3; omega
 skip
 refine awp_skip<|Sq<|Sq<|Rg<|Dd mv'<|Dd mv'<|Dd (by exact opd_cap_osc rfl Tryz.underlying34 rfl rfl rfl)<|Dd mv'<|Dd (by exact opd_len_osc rfl Tryz.underlying34 rfl rfl rfl)<|Dd (by exact opd_sub rfl rfl rfl (by exact w64 (by omega) (by omega)))<|Dd (by exact opd_sub rfl rfl rfl (by exact w64 (by omega) (by omega)))<|Dd as'<|Zz<|Sq<|Rg<|Dd mv'<|Dd gt'<|Zz ?_
 refine Cn (fun hc4 => ?_) fun hc4 => ?_
 ·skip
  refine Rg<|Dd mv'<|Dd mv'<|Dd (by exact opd_cap_osc rfl Tryz.underlying34 rfl rfl rfl)<|Dd (by exact x_slice_osc (l := 0) (h := 0) rfl so34 rfl rfl rfl rfl rfl rfl (Nat.le_refl _) (Nat.le_refl _) rfl rfl rfl)<|Dd mv'<|Dd (by exact x_append_zeros (id2 := 905) (m := n) rfl so34 Tryz.underlying3 ei67 zo67 rfl rfl rfl rfl rfl (Nat.le_refl _) rfl (by omega) (by omega) (by omega) (Nat.zero_add _) (by omega) h5' rfl)<|Dd mv'<|Dd (by exact opd_len_osc rfl Tryz.underlying34 rfl rfl rfl)<|Dd (by exact x_slice_osl (l := 0) (h := 0) rfl so34 rfl rfl rfl rfl rfl rfl (Nat.le_refl _) (by omega) rfl rfl)<|Dd as'<|Zz<|Sq<|Rg<|Dd mv'<|Dd as'<|Zz<|awp_ret ?_
  refine aret1 (H' := ((905, ⟨1, 2, 67, []⟩) :: H)) (.inr rfl) rfl (rval_tmp rfl) ((Fin.trunc (g := 0) (k := 1) (sz := 2) (ty := 67) (rows := []) rfl rfl (by decide) rfl rfl (List.take_zero)).trans (Fin.front' [_, _, _] [(905, ⟨1, 2, 67, []⟩)] (by simp; rfl) (by simp [h4, h5]) (by simp [Heap.get]) (by simp) hc (by simp [h4, h5]))) ?_
  exact ⟨rfl, rfl⟩
 have h := of_decide_eq_false hc4; omega
theorem concat_GTag (ls : List (List GTag)) (H : Heap) (hls : ls.length < 1099511627776) (hb : ls.flatten.length < 1099511627776) :
  ACalls Tryz.prog 65 [.pv (.sl (ls.map (fun l => [.sl (l.map encTag)])))] H (fun r H' => r = .pv (.sl (ls.flatten.map encTag)) ∧ H' = H) := by
 refine ACalls.pure ?_ (by simp) H
 have hml : (ls.map (fun l => [PV.sl (l.map encTag)])).length = ls.length := List.length_map _
 have hpre : ∀ k, ((ls.take k).flatten).length ≤ ls.flatten.length := fun k => by
  conv => rhs; rw [← List.take_append_drop k ls, List.flatten_append, List.length_append]
  omega
 have hst : ∀ k l, ls[k]? = some l → (ls.take (k + 1)).flatten = (ls.take k).flatten ++ l := fun k l h => by
  rw [List.take_add_one, h, List.flatten_append]; simp
 refine Bd Tryz.func65 rfl Tryz.ntmps65<|Sq<|Rg<|Dd as'<|Zz<|Sq<|Rg<|Dd as'<|Zz<|Sq<|Sq<|Rg<|Dd mv'<|Dd (ll' Tryz.underlying125)<|Dd mv'<|Zz<|awp_block ?_
 refine awp_loop (σ := Nat) (fun k => ([(0, .pv (.sl (ls.map (fun l => [.sl (l.map encTag)])))), (3, iv (((ls.take k).flatten).length : Int)), (9, .pv (.sl (ls.map (fun l => [.sl (l.map encTag)])))), (10, iv ((ls.map (fun l => [PV.sl (l.map encTag)])).length : Int)), (11, iv (k : Int))], [])) (fun k => k ≤ ls.length) (fun k => ls.length - k) 0 (by omega) ?_ ?_
 ·exact E0
 intro k hk
 refine Sq<|Rg<|Dd lss'<|Zz<|Sq ?_
 refine Cn (fun hc1 => ?_) fun hc1 => ?_
 ·have hlt : k < ls.length := by have := of_decide_eq_true hc1; omega
  obtain ⟨l, hl⟩ := get_of_lt hlt
  have hi := map_get (f := fun l => [PV.sl (l.map encTag)]) hl
  have hml2 : (l.map encTag).length = l.length := List.length_map _
  have h1 := hst k l hl
  have h2 := hpre (k + 1)
  have h3 : ((ls.take (k + 1)).flatten).length = ((ls.take k).flatten).length + l.length := by rw [h1, List.length_append]
  have hw : IntKind.i64.wrap ((((ls.take k).flatten).length : Int) + ((l.map encTag).length : Int)) = (((ls.take (k + 1)).flatten).length : Int) := by rw [IntKind.wrap_i64, hml2, h3]; omega
  refine awp_skip<|Sq<|awp_block<|Sq<|Rg<|Dd (xp' so125)<|Dd (lp' Tryz.isAgg34)<|Dd as'<|Zz<|Sq<|Rg<|Dd mv'<|Dd mv'<|Dd (ll' Tryz.underlying34)<|Dd (by exact opd_add rfl rfl rfl hw)<|Dd as'<|Zz<|Sq<|Rg<|Dd mv'<|Dd lss'<|Zz ?_
  refine Cn (fun hc2 => ?_) fun hc2 => ?_
  ·have h := of_decide_eq_true hc2; omega
  skip
  refine awp_skip<|Rg<|Dd ad'<|Dd mv'<|Zz ?_
  exact ⟨k + 1, by omega, by omega, E0⟩
 have hge : k = ls.length := by have := of_decide_eq_false hc1; omega
 subst hge
 rw [List.take_length]
 refine awp_exit<|Sq<|Rg<|Dd mv'<|Dd (by exact opr_call_nil rfl rfl Tryz.call103 rfl (grow_GTag ls.flatten.length [] rfl rfl (Closed.of (by simp)) hb))<|Dd as'<|Zz<|Sq<|Sq<|Rg<|Dd mv'<|Dd (ll' Tryz.underlying125)<|Dd mv'<|Zz<|awp_block ?_
 refine awp_loop2 (fun (k : Nat) (g : Nat) => ([(6, .osl 905 g 0 ((ls.take k).flatten.map encTag).length), (25, .pv (.sl (ls.map (fun l => [.sl (l.map encTag)])))), (26, iv ((ls.map (fun l => [PV.sl (l.map encTag)])).length : Int)), (27, iv (k : Int))], [(905, ⟨g, 2, 67, pvR ((ls.take k).flatten.map encTag)⟩)])) (fun k g => k ≤ ls.length) (fun k g => ls.length - k) 0 1 (by omega) ?_ ?_
 ·exact E0
 intro k g hk
 refine Sq<|Rg<|Dd lss'<|Zz<|Sq ?_
 refine Cn (fun hc3 => ?_) fun hc3 => ?_
 ·have hlt : k < ls.length := by have := of_decide_eq_true hc3; omega
  obtain ⟨l, hl⟩ := get_of_lt hlt
  have hi := map_get (f := fun l => [PV.sl (l.map encTag)]) hl
  have hml2 : (l.map encTag).length = l.length := List.length_map _
  have hml3 : ((ls.take k).flatten.map encTag).length = ((ls.take k).flatten).length := List.length_map _
  have h1 := hst k l hl
  have h2 := hpre (k + 1)
  have h3 : ((ls.take (k + 1)).flatten).length = ((ls.take k).flatten).length + l.length := by rw [h1, List.length_append]
  refine awp_skip<|Sq<|awp_block<|Sq<|Rg<|Dd (xp' so125)<|Dd (lp' Tryz.isAgg34)<|Dd as'<|Zz<|Rg<|Dd mv'<|Dd mv'<|Dd (by exact x_append rfl so34 ei67 rfl rfl rfl rfl rfl (pvR_len _) rfl (rl_GTag l) rfl (by omega) (by rw [h1, List.map_append, List.length_append] : ((ls.take k).flatten.map encTag).length + (l.map encTag).length = ((ls.take (k + 1)).flatten.map encTag).length) (by rw [h1, List.map_append, pvR, pvR, List.map_append] : pvR ((ls.take k).flatten.map encTag) ++ (l.map encTag).map (·.map .pv) = pvR ((ls.take (k + 1)).flatten.map encTag)))<|Dd as'<|Zz<|Rg<|Dd ad'<|Dd mv'<|Zz ?_
  exact ⟨k + 1, g + 1, by omega, by omega, Ent.dup ⟨⟨_, rfl, rfl⟩, ⟨_, rfl, rfl⟩, ⟨_, rfl, rfl⟩, ⟨_, rfl, rfl⟩, trivial⟩⟩
 have hge : k = ls.length := by have := of_decide_eq_false hc3; omega
 subst hge
 rw [List.take_length]
 refine awp_exit<|Sq<|Rg<|Dd mv'<|Dd as'<|Zz<|awp_ret ?_
 refine aret1 (H' := []) (.inr rfl) rfl (rval_tmp rfl) (Fin.slice0 (id := 905) (ls.flatten.map encTag) rfl rfl rfl rfl) ?_
 exact ⟨rfl, rfl⟩
theorem takeE (l : List GEdit) {n : Nat} (hn : n = l.length) : ((l.map encEdit).take (0 + n)).drop 0 = l.map encEdit := by rw [hn, Nat.zero_add, List.drop_zero, ← List.length_map (f := encEdit), List.take_length]
theorem Fin.tupE {H1 : Heap} {id g n : Nat} {ob : Ob} (l : List GEdit) (k : Int) (hH : H1.get id = some ob) (hg : ob.g = g) (hps : ob.rows = edRows l) (hn : n = l.length) :
  Fin [] H1 (.tup [.osl id g 0 n, iv k]) [] (.tup [.pv (slEdits l), iv k]) := by
 subst hg
 exact Fin.fz (id := id) (ob := ob) (l.map encEdit) hH (hps.trans (rows_of encEdit l)) (.tup rfl (fz_cons (.osl (takeE l hn)) (fz_cons (.same (by simp)) fz_nil))) rfl trivial trivial
theorem edE_rl (l : List GEdit) : ∀ r ∈ edRows l, r.length = 15 := fun r hr => by
 obtain ⟨o, _, rfl⟩ := List.mem_map.1 hr
 rfl
theorem tkEd {l : List GEdit} {n : Nat} (hn : n = l.length) : ((edRows l).drop 0).take n = edRows l := by
 rw [hn, List.drop_zero, ← List.length_map (f := fun e => (encEdit e).map AV.pv), List.take_length]
/-- The value of a key, or the empty one. -/
def vOf (l : List GTag) (k : ByteArray) : ByteArray := (gGet l k).getD sNil
def apDrop (a b : List GTag) (k : ByteArray) : Bool := !decide (vOf a k = vOf b k) && decide (vOf b k = sNil)
def apSet (a b : List GTag) (k : ByteArray) : Bool := !decide (vOf a k = vOf b k) && !decide (vOf b k = sNil)
def apTag (id : ByteArray) (b : List GTag) (k : ByteArray) : GEdit := ⟨3, id, sNil, sNil, 0, 0, k, vOf b k, [], zObj⟩
def apSplit (e : GEdit) (node : ByteArray) : GEdit := ⟨6, e.id, e.other, node, 0, 0, sNil, sNil, [], zObj⟩
def apKeys (a b : List GTag) : List ByteArray := gComp (sortS ((a ++ b).map GTag.key))
def apOut (e : GEdit) (a b : List GTag) (node : ByteArray) (ks : List ByteArray) : List GEdit := apSplit e node :: (ks.filter (apDrop a b)).map (apTag e.other b)
def apSets (e : GEdit) (a b : List GTag) (ks : List ByteArray) : List GEdit := (ks.filter (apSet a b)).map (apTag e.other b)
def gApart (e : GEdit) (o x : GObj) : List GEdit × Int :=
 if decide (gInner ([o.refs, x.refs.drop 1].flatten) (atS x.refs 0) < 0) then ([], 12)
 else (apOut e o.tags x.tags (atS x.refs 0) (apKeys o.tags x.tags) ++ apSets e o.tags x.tags (apKeys o.tags x.tags), 0)
theorem apOut_snoc {e : GEdit} {a b : List GTag} {node : ByteArray} {ks : List ByteArray} {j : Nat} {k : ByteArray} (h : ks[j]? = some k) : apOut e a b node (ks.take (j + 1)) = apOut e a b node (ks.take j) ++ (if apDrop a b k then [apTag e.other b k] else []) := by
 unfold apOut
 rw [List.take_add_one, h, List.filter_append, List.map_append]
 show _ :: (_ ++ List.map _ (List.filter _ [k])) = _
 rw [List.filter_cons, List.filter_nil]
 cases apDrop a b k <;> rfl
theorem apSets_snoc {e : GEdit} {a b : List GTag} {ks : List ByteArray} {j : Nat} {k : ByteArray} (h : ks[j]? = some k) : apSets e a b (ks.take (j + 1)) = apSets e a b (ks.take j) ++ (if apSet a b k then [apTag e.other b k] else []) := by
 unfold apSets
 rw [List.take_add_one, h, List.filter_append, List.map_append]
 show _ ++ List.map _ (List.filter _ [k]) = _
 rw [List.filter_cons, List.filter_nil]
 cases apSet a b k <;> rfl
theorem apOut_len (e : GEdit) (a b : List GTag) (node : ByteArray) (ks : List ByteArray) : (apOut e a b node ks).length ≤ ks.length + 1 := by
 unfold apOut
 rw [List.length_cons, List.length_map]
 have := List.length_filter_le (apDrop a b) ks
 omega
theorem apSets_len (e : GEdit) (a b : List GTag) (ks : List ByteArray) : (apSets e a b ks).length ≤ ks.length := by
 unfold apSets
 rw [List.length_map]
 exact List.length_filter_le _ _
theorem editApart_c (e : GEdit) (o x : GObj) (H : Heap) (ho : okO o) (hx : okO x) (hol : o.refs.length ≤ 2000) (hxl : x.refs.length ≤ 2000) (hot : o.tags.length ≤ 60) (hxt : x.tags.length ≤ 60) (hx0 : 0 < x.refs.length) :
  ACalls Tryz.prog 32 [av (encEdit e), av (encObj o), av (encObj x)] H (fun r H' => r = .tup [.pv (slEdits (gApart e o x).1), iv (gApart e o x).2] ∧ H' = H) := by
 refine ACalls.pure ?_ (by simp) H
 have hrm : (o.refs.map encStr).length = o.refs.length := List.length_map _
 have hxm : (x.refs.map encStr).length = x.refs.length := List.length_map _
 obtain ⟨sf, hsf⟩ := get_of_lt hx0
 have hsf1 := map_get (f := encStr) hsf
 have hfl : [o.refs, x.refs.drop 1].flatten.length < 1099511627776 := by simp; omega
 obtain ⟨T, hT⟩ : ∃ T, T = o.tags ++ x.tags := ⟨_, rfl⟩
 have hTl : T.length ≤ 120 := by rw [hT, List.length_append]; omega
 have hft : [o.tags, x.tags].flatten = T := by rw [hT]; simp
 have hflT : [o.tags, x.tags].flatten.length < 1099511627776 := by rw [hft]; omega
 have hTm : (T.map encTag).length = T.length := List.length_map _
 have hcT := fun H => concat_GTag [o.tags, x.tags] H (by show 2 < _; omega) hflT
 rw [hft] at hcT
 unfold gApart apKeys
 rw [atS_some hsf, ← hT]
 refine Bd Tryz.func32 rfl Tryz.ntmps32<|Sq<|Rg<|Dd (by exact opd_box (id := 3) rfl rfl rfl rfl rfl)<|Dd (by exact opd_box (id := 4) rfl rfl rfl rfl rfl)<|Dd (by exact opd_box (id := 5) rfl rfl rfl rfl rfl)<|Dd as'<|Dd as'<|Zz<|Sq<|Rg<|Dd (fr' fo36_3)<|Dd (l1' Tryz.isAgg33)<|Dd (by exact x_index_pad rfl so33 rfl rfl (by omega) (show (0 : Int).toNat = 0 by rfl) hsf1 rfl)<|Dd (lp' Tryz.isAgg9 (hi := hsf1))<|Dd as'<|Zz<|Sq<|Sq ?_
 refine awp_drawc follows ?_
 refine Cq (fr' fo36_3)<|Cq (l1' Tryz.isAgg33)<|Cq (fr' fo36_3)<|Cq (l1' Tryz.isAgg33)<|Cq (by exact x_slice_sl (l := 1) (h := (x.refs.map encStr).length) (rows' := (x.refs.drop 1).map encStr) rfl so33 rfl (rl_ByteArray x.refs) rfl rfl (by omega) (Nat.le_refl _) (by rw [List.take_length]; exact List.map_drop.symm))<|Cq (by exact by apply x_buildSlice (ps := [o.refs, x.refs.drop 1].map (fun l => [PV.sl (l.map encStr)])) (hS := so123) <;> first | rfl | simp)<|Cq (by exact opr_call rfl rfl Tryz.call64 rfl (concat_ByteArray [o.refs, x.refs.drop 1] _ (by show 2 < _; omega) hfl))<|Cq mv'<|Cq (by exact opr_call rfl rfl Tryz.call63 rfl (inner_c _ sf _ hfl))<|Cq lss' ?_
 refine dc_nil ⟨by kernel_rfl, ?_⟩
 refine Cn (fun hc1 => ?_) fun hc1 => ?_
 ·rw [if_pos hc1]
  refine Sq<|Rg<|Dd as'<|Dd as'<|Zz<|awp_ret ?_
  refine Ru ?_
  exact ⟨rfl, rfl⟩
 rw [if_neg (by rw [hc1]; decide)]
 refine awp_skip<|Sq<|Rg<|Dd (fr' fo38_1)<|Dd (l1' Tryz.isAgg9)<|Dd mv'<|Dd (fr' fo38_2)<|Dd (l1' Tryz.isAgg9)<|Dd (bu' bo38)<|Dd (by exact x_buildSlice_own (id := 941) rfl so25 rfl rfl rfl rfl (fun r hr => by rw [List.mem_singleton] at hr; subst hr; rfl) rfl)<|Dd as'<|Zz<|Sq<|Rg<|Dd (by exact opd_assign_own (id := 901) (sz := 1) (ty := 9) rfl rfl rfl)<|Zz<|Sq<|Sq<|Rg<|Dd (fr' fo36_4)<|Dd (l1' Tryz.isAgg34)<|Dd (fr' fo36_4)<|Dd (l1' Tryz.isAgg34)<|Dd (by exact by apply x_buildSlice (ps := [o.tags, x.tags].map (fun l => [PV.sl (l.map encTag)])) (hS := so125) <;> first | rfl | simp)<|Dd (by exact opr_call rfl rfl Tryz.call65 rfl (hcT _))<|Dd (ll' Tryz.underlying34)<|Dd mv'<|Zz<|awp_block ?_
 refine awp_loop2 (fun (k : Nat) (g : Nat) => ([(3, .ref 3 0 0 0), (4, .ref 4 0 0 0), (5, .ref 5 0 0 0), (9, .osl 941 0 0 1), (10, .osl 901 g 0 ((T.take k).map GTag.key).length), (47, .pv (slTags T)), (48, iv ((T.map encTag).length : Int)), (49, iv (k : Int))], [(901, ⟨g, 1, 9, strN ((T.take k).map GTag.key)⟩), (941, ⟨0, 15, 38, edRows [apSplit e sf]⟩), (5, bx 6 36 ((encObj x).map .pv)), (4, bx 6 36 ((encObj o).map .pv)), (3, bx 15 38 ((encEdit e).map .pv))])) (fun k g => k ≤ T.length) (fun k g => T.length - k) 0 0 (by omega) ?_ ?_
 ·exact Wk
 rintro k g hk
 have hkl : ((T.take k).map GTag.key).length ≤ 120 := by rw [List.length_map, List.length_take]; omega
 refine Sq<|Rg<|Dd lss'<|Zz<|Sq ?_
 refine Cn (fun hc2 => ?_) fun hc2 => ?_
 ·have hlt : k < T.length := by have := of_decide_eq_true hc2; omega
  obtain ⟨t, ht⟩ := get_of_lt hlt
  have hi1 := map_get (f := encTag) ht
  have htk : (T.take (k + 1)).map GTag.key = (T.take k).map GTag.key ++ [t.key] := by rw [List.take_add_one, ht, List.map_append]; rfl
  refine awp_skip<|Sq<|awp_block<|Sq<|Rg<|Dd (by exact x_index_pad rfl so34 rfl rfl (by omega) (by exact Int.toNat_natCast _) hi1 rfl)<|Dd (by exact opd_loadn_pad rfl Tryz.isAgg67 Tryz.sizeOf67 rfl hi1 (by simp only [Zl, encTag, encObj, encStr, encEdit, encInt]; rfl) rfl)<|Dd (by exact x_alloc (id := 12) rfl zo67 rfl rfl)<|Uu (sa' Tryz.sizeOf67)<|Zz<|Rg<|Dd mv'<|Dd (fr' fo67_0)<|Dd (l1' Tryz.isAgg9)<|Dd (by exact x_buildSlice [encStr t.key] rfl so33 rfl rfl rfl rfl rfl (by simp [encStr]))<|Dd (by exact x_append rfl so33 ei9 rfl rfl rfl rfl rfl (List.length_map _) rfl (by simp [encStr]) (rfl : _ = 1) (by omega) (len_snoc _ t.key) (List.map_append (l₂ := [t.key])).symm)<|Dd as'<|Zz<|Rg<|Dd ad'<|Dd mv'<|Zz ?_
  refine ⟨k + 1, g + 1, by omega, by omega, ?_⟩
  rw [htk]
  exact (Ent.wk ⟨⟨_, rfl, rfl⟩, (by (simp; rfl)), ⟨_, rfl, rfl⟩, (by (simp; rfl)), ⟨_, rfl, rfl⟩, (by (simp; rfl)), ⟨_, rfl, rfl⟩, (by (simp; rfl)), ⟨_, rfl, rfl⟩, (by (simp; rfl)), ⟨_, rfl, rfl⟩, (by (simp; done)), ⟨_, rfl, rfl⟩, (by (simp; done)), ⟨_, rfl, rfl⟩, (by (simp; done)), trivial⟩ ⟨⟨_, rfl, rfl⟩, (by exact clo_map _ _ _), ⟨_, rfl, rfl⟩, (by (simp; done)), ⟨_, rfl, rfl⟩, (by (simp; done)), ⟨_, rfl, rfl⟩, (by (simp; done)), ⟨_, rfl, rfl⟩, (by (simp; done)), trivial⟩ trivial)
 have hge : k = T.length := by have := of_decide_eq_false hc2; omega
 subst hge
 rw [List.take_length] at hkl ⊢
 obtain ⟨K, hK⟩ : ∃ K, K = T.map GTag.key := ⟨_, rfl⟩
 rw [← hK] at hkl ⊢
 have hsl : (sortS K).length = K.length := sortS_length K
 have hcl := gcomp_len (sortS K)
 have hcomp := fun H h => compact_c (sortS K) g H h (by omega)
 rw [hsl] at hcomp
 refine awp_exit<|Sq<|Rg<|Dd mv'<|Dd (by exact opr_call rfl rfl Tryz.call46 rfl (sortStr_c K (id := 901) (g := g) (ty := 9) rfl rfl (by omega)))<|Zz<|Sq<|Rg<|Dd (by exact opd_assign_own (id := 913) (sz := 15) (ty := 38) rfl rfl rfl)<|Zz<|Sq<|Sq<|Rg<|Dd mv'<|Dd (by exact opr_call rfl rfl Tryz.call66 rfl (hcomp _ rfl))<|Dd (by exact opd_len_osl rfl Tryz.underlying33 rfl rfl rfl)<|Dd mv'<|Zz<|awp_block ?_
 obtain ⟨ks, hks⟩ : ∃ ks, ks = gComp (sortS K) := ⟨_, rfl⟩
 rw [← hks] at hcl ⊢
 have hR : ∀ (j : Nat) (s : ByteArray), ks[j]? = some s → (strN (ks ++ List.replicate (K.length - ks.length) sNil))[j]? = some ((encStr s).map .pv) := fun j s h => strN_at (by rw [List.getElem?_append_left (List.getElem?_eq_some_iff.1 h).1]; exact h)
 refine awp_loop3 (fun (j : Nat) (g1 : Nat) (g2 : Nat) => ([(3, .ref 3 0 0 0), (4, .ref 4 0 0 0), (5, .ref 5 0 0 0), (9, .osl 941 g1 0 (apOut e o.tags x.tags sf (ks.take j)).length), (13, .osl 913 g2 0 (apSets e o.tags x.tags (ks.take j)).length), (62, .osl 901 g 0 ks.length), (63, iv (ks.length : Int)), (64, iv (j : Int))], [(941, ⟨g1, 15, 38, edRows (apOut e o.tags x.tags sf (ks.take j))⟩), (913, ⟨g2, 15, 38, edRows (apSets e o.tags x.tags (ks.take j))⟩), (901, ⟨g, 1, 9, strN (ks ++ List.replicate (K.length - ks.length) sNil)⟩), (5, bx 6 36 ((encObj x).map .pv)), (4, bx 6 36 ((encObj o).map .pv)), (3, bx 15 38 ((encEdit e).map .pv))])) (fun j g1 g2 => j ≤ ks.length) (fun j g1 g2 => ks.length - j) 0 0 0 (by omega) ?_ ?_
 ·exact (Ent.wk ⟨⟨_, rfl, rfl⟩, (by (simp; rfl)), ⟨_, rfl, rfl⟩, (by (simp; rfl)), ⟨_, rfl, rfl⟩, (by (simp; rfl)), ⟨_, rfl, rfl⟩, (by (simp; rfl)), ⟨_, rfl, rfl⟩, (by (simp; rfl)), ⟨_, rfl, rfl⟩, (by (simp; rfl)), ⟨_, rfl, rfl⟩, (by (simp; done)), ⟨_, rfl, rfl⟩, (by (simp; done)), trivial⟩ ⟨⟨_, rfl, rfl⟩, (by (simp; done)), ⟨_, rfl, rfl⟩, (by (simp; done)), ⟨_, rfl, rfl⟩, (by exact clo_map _ _ _), ⟨_, rfl, rfl⟩, (by (simp; done)), ⟨_, rfl, rfl⟩, (by (simp; done)), ⟨_, rfl, rfl⟩, (by (simp; done)), trivial⟩ trivial)
 rintro j g1 g2 hj
 have ho1 := apOut_len e o.tags x.tags sf (ks.take j)
 have ho2 := apSets_len e o.tags x.tags (ks.take j)
 have ho3 : (ks.take j).length ≤ ks.length := by rw [List.length_take]; omega
 refine Sq<|Rg<|Dd lss'<|Zz<|Sq ?_
 refine Cn (fun hc3 => ?_) fun hc3 => ?_
 ·have hjl : j < ks.length := by have := of_decide_eq_true hc3; omega
  obtain ⟨s, hs⟩ := get_of_lt hjl
  have hsn1 := apOut_snoc (e := e) (a := o.tags) (b := x.tags) (node := sf) hs
  have hsn2 := apSets_snoc (e := e) (a := o.tags) (b := x.tags) hs
  refine awp_skip<|Sq<|awp_block<|Sq<|Rg<|Dd (by exact x_index_osl rfl so33 rfl rfl rfl rfl rfl (by omega) (by exact Int.toNat_natCast _) hjl (Nat.zero_add _))<|Dd (by exact opd_load1_ref rfl Tryz.isAgg9 rfl rfl rfl (hR j s hs) rfl)<|Dd as'<|Zz<|Sq<|Rg<|Dd (fr' fo36_4)<|Dd (l1' Tryz.isAgg34)<|Dd mv'<|Dd (by exact opr_call rfl rfl Tryz.call31 rfl (tagGet_c o.tags s _ ho.2.1.1))<|Dd mv'<|Dd ex'<|Dd ex'<|Dd as'<|Dd as'<|Zz<|Sq<|Rg<|Dd (fr' fo36_4)<|Dd (l1' Tryz.isAgg34)<|Dd mv'<|Dd (by exact opr_call rfl rfl Tryz.call31 rfl (tagGet_c x.tags s _ hx.2.1.1))<|Dd mv'<|Dd ex'<|Dd ex'<|Dd as'<|Dd as'<|Zz<|Sq<|Rg<|Dd (fr' fo38_2)<|Dd (l1' Tryz.isAgg9)<|Dd mv'<|Dd mv'<|Dd (bu' bo38)<|Dd (by exact x_alloc (id := 20) rfl zo38 rfl rfl)<|Uu (sa' Tryz.sizeOf38)<|Zz<|awp_block<|Sq<|Rg<|Dd mv'<|Dd mv'<|Dd se'<|Dd as'<|Zz ?_
  refine Cn (fun hc4 => ?_) fun hc4 => ?_
  ·have he1 : decide (vOf o.tags s = vOf x.tags s) = true := hc4
   have hd1 : apDrop o.tags x.tags s = false := by rw [apDrop, he1]; rfl
   have hd2 : apSet o.tags x.tags s = false := by rw [apSet, he1]; rfl
   rw [hd1, if_neg (by decide), List.append_nil] at hsn1
   rw [hd2, if_neg (by decide), List.append_nil] at hsn2
   refine awp_skip<|Rg<|Dd ad'<|Dd mv'<|Zz ?_
   refine ⟨j + 1, g1, g2, by omega, by omega, ?_⟩
   rw [hsn1, hsn2]
   exact (Ent.wk ⟨⟨_, rfl, rfl⟩, (by (simp; rfl)), ⟨_, rfl, rfl⟩, (by (simp; rfl)), ⟨_, rfl, rfl⟩, (by (simp; rfl)), ⟨_, rfl, rfl⟩, (by (simp; rfl)), ⟨_, rfl, rfl⟩, (by (simp; rfl)), ⟨_, rfl, rfl⟩, (by (simp; rfl)), ⟨_, rfl, rfl⟩, (by (simp; done)), ⟨_, rfl, rfl⟩, (by (simp; done)), trivial⟩ ⟨⟨_, rfl, rfl⟩, (by (simp; done)), ⟨_, rfl, rfl⟩, (by (simp; done)), ⟨_, rfl, rfl⟩, (by exact clo_map _ _ _), ⟨_, rfl, rfl⟩, (by (simp; done)), ⟨_, rfl, rfl⟩, (by (simp; done)), ⟨_, rfl, rfl⟩, (by (simp; done)), trivial⟩ trivial)
  have he1 : decide (vOf o.tags s = vOf x.tags s) = false := hc4
  refine Sq<|Rg<|Dd mv'<|Dd se'<|Dd as'<|Zz ?_
  refine Cn (fun hc5 => ?_) fun hc5 => ?_
  ·have he2 : decide (vOf x.tags s = sNil) = true := hc5
   have hd1 : apDrop o.tags x.tags s = true := by rw [apDrop, he1, he2]; rfl
   have hd2 : apSet o.tags x.tags s = false := by rw [apSet, he1, he2]; rfl
   rw [hd1, if_pos rfl] at hsn1
   rw [hd2, if_neg (by decide), List.append_nil] at hsn2
   refine Rg<|Dd mv'<|Dd (by exact opd_loadn_ref rfl Tryz.isAgg38 Tryz.sizeOf38 rfl rfl rfl rfl (by simp only [Zl, encTag, encObj, encStr, encEdit, encInt]; rfl) rfl)<|Dd (by exact x_buildSlice [encEdit (apTag e.other x.tags s)] rfl so25 rfl rfl rfl rfl rfl (by simp [encEdit]))<|Dd (by exact x_append rfl so25 ei38 rfl rfl rfl rfl rfl (List.length_map _) rfl (by simp [encEdit]) (rfl : _ = 1) (by omega) (len_snoc _ (apTag e.other x.tags s)) (List.map_append (l₂ := [apTag e.other x.tags s])).symm)<|Dd as'<|Zz<|Rg<|Dd ad'<|Dd mv'<|Zz ?_
   refine ⟨j + 1, g1 + 1, g2, by omega, by omega, ?_⟩
   rw [hsn1, hsn2]
   exact (Ent.wk ⟨⟨_, rfl, rfl⟩, (by (simp; rfl)), ⟨_, rfl, rfl⟩, (by (simp; rfl)), ⟨_, rfl, rfl⟩, (by (simp; rfl)), ⟨_, rfl, rfl⟩, (by (simp; rfl)), ⟨_, rfl, rfl⟩, (by (simp; rfl)), ⟨_, rfl, rfl⟩, (by (simp; rfl)), ⟨_, rfl, rfl⟩, (by (simp; done)), ⟨_, rfl, rfl⟩, (by (simp; done)), trivial⟩ ⟨⟨_, rfl, rfl⟩, (by exact clo_map _ _ _), ⟨_, rfl, rfl⟩, (by (simp; done)), ⟨_, rfl, rfl⟩, (by exact clo_map _ _ _), ⟨_, rfl, rfl⟩, (by (simp; done)), ⟨_, rfl, rfl⟩, (by (simp; done)), ⟨_, rfl, rfl⟩, (by (simp; done)), trivial⟩ trivial)
  have he2 : decide (vOf x.tags s = sNil) = false := hc5
  have hd1 : apDrop o.tags x.tags s = false := by rw [apDrop, he1, he2]; rfl
  have hd2 : apSet o.tags x.tags s = true := by rw [apSet, he1, he2]; rfl
  rw [hd1, if_neg (by decide), List.append_nil] at hsn1
  rw [hd2, if_pos rfl] at hsn2
  refine Rg<|Dd mv'<|Dd (by exact opd_loadn_ref rfl Tryz.isAgg38 Tryz.sizeOf38 rfl rfl rfl rfl (by simp only [Zl, encTag, encObj, encStr, encEdit, encInt]; rfl) rfl)<|Dd (by exact x_buildSlice [encEdit (apTag e.other x.tags s)] rfl so25 rfl rfl rfl rfl rfl (by simp [encEdit]))<|Dd (by exact x_append rfl so25 ei38 rfl rfl rfl rfl rfl (List.length_map _) rfl (by simp [encEdit]) (rfl : _ = 1) (by omega) (len_snoc _ (apTag e.other x.tags s)) (List.map_append (l₂ := [apTag e.other x.tags s])).symm)<|Dd as'<|Zz<|Rg<|Dd ad'<|Dd mv'<|Zz ?_
  refine ⟨j + 1, g1, g2 + 1, by omega, by omega, ?_⟩
  rw [hsn1, hsn2]
  exact (Ent.wk ⟨⟨_, rfl, rfl⟩, (by (simp; rfl)), ⟨_, rfl, rfl⟩, (by (simp; rfl)), ⟨_, rfl, rfl⟩, (by (simp; rfl)), ⟨_, rfl, rfl⟩, (by (simp; rfl)), ⟨_, rfl, rfl⟩, (by (simp; rfl)), ⟨_, rfl, rfl⟩, (by (simp; rfl)), ⟨_, rfl, rfl⟩, (by (simp; done)), ⟨_, rfl, rfl⟩, (by (simp; done)), trivial⟩ ⟨⟨_, rfl, rfl⟩, (by (simp; done)), ⟨_, rfl, rfl⟩, (by exact clo_map _ _ _), ⟨_, rfl, rfl⟩, (by exact clo_map _ _ _), ⟨_, rfl, rfl⟩, (by (simp; done)), ⟨_, rfl, rfl⟩, (by (simp; done)), ⟨_, rfl, rfl⟩, (by (simp; done)), trivial⟩ trivial)
 have hge2 : j = ks.length := by have := of_decide_eq_false hc3; omega
 subst hge2
 rw [List.take_length] at ho1 ho2 ⊢
 refine awp_exit<|Sq<|Rg<|Dd mv'<|Dd mv'<|Dd (by exact x_append_osl rfl so25 ei38 rfl rfl rfl rfl rfl (List.length_map _) rfl rfl rfl rfl (edE_rl _) (by rw [List.length_map, Nat.zero_add]; exact Nat.le_refl _) (by omega) List.length_append.symm (by rw [tkEd rfl]; exact List.map_append.symm : _ = edRows (apOut e o.tags x.tags sf ks ++ apSets e o.tags x.tags ks)))<|Dd as'<|Dd as'<|Zz<|awp_ret ?_
 refine aret2 (H' := []) (.inr rfl) rfl (rval_tmp rfl) (rval_tmp rfl) (Fin.tupE (id := 941) (apOut e o.tags x.tags sf ks ++ apSets e o.tags x.tags ks) 0 rfl rfl rfl rfl) ?_
 exact ⟨rfl, rfl⟩
end Go.Proofs.YtbbnllojhjlaoaaGreat
end
section
set_option linter.unusedVariables false
set_option linter.unusedSimpArgs false
set_option maxRecDepth 100000
namespace Go.Proofs.YtbbnllojhjlaoaaGreat
open Go.Abs
/-- The old object with what an edit of its kind changes. -/
def Means (nx : List GObj) (e : GEdit) (o o' : GObj) : Prop :=
  (e.op = 2 ∧ o' = ⟨o.id, o.kind, e.x, e.y, o.refs, o.tags⟩) ∨
  (e.op = 3 ∧ o' = ⟨o.id, o.kind, o.x, o.y, o.refs, o'.tags⟩ ∧ (∀ t, t ∈ o'.tags → t.key = e.key → t.val = e.val) ∧ (e.val ≠ sNil → ∃ t, t ∈ o'.tags ∧ t.key = e.key)) ∨
  (e.op = 4 ∧ o' = ⟨o.id, o.kind, o.x, o.y, e.refs, o.tags⟩) ∨
  (e.op = 6 ∧ (∃ y, look nx e.other = some y) ∧ o' = ⟨o.id, o.kind, o.x, o.y, o'.refs, o.tags⟩) ∨
  (e.op = 7 ∧ look nx e.other = none ∧ o' = ⟨o.id, o.kind, o.x, o.y, o'.refs, o.tags⟩)
end Go.Proofs.YtbbnllojhjlaoaaGreat
end
section
set_option linter.unusedVariables false
set_option linter.unusedSimpArgs false
set_option maxRecDepth 100000
namespace Go.Proofs.YtbbnllojhjlaoaaGreat
open Go.Abs
def dropE (id : ByteArray) : GEdit := ⟨5, id, sNil, sNil, 0, 0, sNil, sNil, [], zObj⟩
def putE (o : GObj) : GEdit := ⟨1, sNil, sNil, sNil, 0, 0, sNil, sNil, [], o⟩
def joinE (id other : ByteArray) : GEdit := ⟨7, id, other, sNil, 0, 0, sNil, sNil, [], zObj⟩
def gBack (e : GEdit) (o : GObj) : GEdit :=
 if decide (e.op = 2) then ⟨e.op, e.id, e.other, e.node, o.x, o.y, e.key, e.val, e.refs, e.obj⟩
 else if decide (e.op = 3) then ⟨e.op, e.id, e.other, e.node, e.x, e.y, e.key, vOf o.tags e.key, e.refs, e.obj⟩
 else if decide (e.op = 4) then ⟨e.op, e.id, e.other, e.node, e.x, e.y, e.key, e.val, o.refs, e.obj⟩
 else if decide (e.op = 5) then putE o
 else if decide (e.op = 6) then joinE e.id e.other
 else e
def oOf (m : List GObj) (s : ByteArray) : GObj := (look m s).getD zObj
def gInvert (m : List GObj) (e : GEdit) : List GEdit × Int :=
 if !decide ((gApply m e).2 = 0) then ([], (gApply m e).2)
 else if decide (e.op = 1) then ([dropE e.obj.id], 0)
 else if decide (e.op = 7) then gApart e (oOf m e.id) (oOf m e.other)
 else ([gBack e (oOf m e.id)], 0)
theorem oOf_some {m : List GObj} {s : ByteArray} {o : GObj} (h : look m s = some o) : oOf m s = o := by rw [oOf, h]; rfl
theorem inv_facts {m : List GObj} {e : GEdit} (hc : closedB m = true) (h : (gAfter m e).2 = 0) (h1 : e.op ≠ 1) :
  ∃ o, look m e.id = some o ∧ o ∈ m ∧ gObj o = true ∧ (e.op = 7 → ∃ x, look m e.other = some x ∧ x ∈ m ∧ gObj x = true ∧ 2 ≤ x.refs.length) := by
 have hg := closed_gMap hc
 have hgo := (gMap_iff.1 hg).1
 obtain ⟨_, hE⟩ := eff_of hg h
 generalize (gAfter m e).1 = m' at hE
 have hw : ∀ o, look m e.id = some o → e.op ≠ 7 → ∃ o, look m e.id = some o ∧ o ∈ m ∧ gObj o = true ∧ (e.op = 7 → ∃ x, look m e.other = some x ∧ x ∈ m ∧ gObj x = true ∧ 2 ≤ x.refs.length) :=
  fun o hl h7 => ⟨o, hl, look_mem hl, hgo o (look_mem hl), fun h => absurd h h7⟩
 cases hE with
 | put ho hn hr hg hm => exact absurd ho h1
 | move o ho hl hk hg hm => exact hw o hl (by omega)
 | tag o ho hl hs hg hm => exact hw o hl (by omega)
 | refs o ho hl hk hr hg hm => exact hw o hl (by omega)
 | drop o ho hl hr => exact hw o hl (by omega)
 | split o k ho hl hk hn hi hr hm => exact hw o hl (by omega)
 | join o x ho hl hk hx hk2 hne he hr hlen hm =>
  exact ⟨o, hl, look_mem hl, hgo o (look_mem hl), fun _ => ⟨x, hx, look_mem hx, hgo x (look_mem hx), ((gObj_way hk2).1 (hgo x (look_mem hx))).2.1.1⟩⟩
theorem editInvert_c (m : List GObj) (e : GEdit) (H : Heap) (hm : okM m) (he : okE e) (hl : m.length < 549755813888) :
  ACalls Tryz.prog 8 [.agg [.pv (slObjs m)], av (encEdit e)] H (fun r H' => r = .tup [.pv (slEdits (gInvert m e).1), iv (gInvert m e).2] ∧ H' = H) := by
 refine ACalls.pure ?_ (by simp) H
 cases hcl : closedB m with
 | true =>
  have hap : gApply m e = gAfter m e := by rw [gApply, if_pos hcl]
  have hfa := fun h => inv_facts (m := m) (e := e) hcl h
  unfold gInvert
  rw [hap]
  refine Bd Tryz.func8 rfl Tryz.ntmps8<|Sq<|Rg<|Dd (by exact opd_box (id := 2) rfl rfl rfl rfl rfl)<|Dd (by exact opd_box (id := 3) rfl rfl rfl rfl rfl)<|Dd as'<|Dd as'<|Zz<|Sq<|Rg<|Dd (ln' Tryz.isAgg24 Tryz.sizeOf24)<|Dd (by exact opr_call rfl rfl Tryz.call23 rfl (ofF_c m _ hm hcl rfl rfl))<|Dd as'<|Zz<|Sq<|Sq<|Rg<|Dd mv'<|Dd (by exact opd_peq_ref rfl Tryz.underlying52 rfl rfl rfl rfl)<|Zz ?_
  refine Cn (fun hc1 => ?_) fun hc1 => ?_
  ·cases hc1
  skip
  refine awp_skip<|Sq<|Sq<|Rg<|Dd mv'<|Dd (ln' Tryz.isAgg38 Tryz.sizeOf38)<|Dd (by exact opr_call rfl rfl Tryz.call24 rfl (after_c m e _ rfl rfl hm (closed_gMap hcl) he hl))<|Dd mv'<|Dd ex'<|Dd ex'<|Dd (by exact x_alloc (id := 7) rfl zo24 rfl rfl)<|Uu (sa' Tryz.sizeOf24)<|Dd as'<|Zz<|Sq<|Rg<|Dd mv'<|Dd ne'<|Zz ?_
  refine Cn (fun hc2 => ?_) fun hc2 => ?_
  ·rw [if_pos hc2]
   refine Sq<|Rg<|Dd mv'<|Dd as'<|Dd as'<|Zz<|awp_ret ?_
   refine aret2 (H' := []) (.inr rfl) rfl (rval_tmp rfl) (rval_tmp rfl) (Fin.wk (r := .tup [.pv (slEdits []), iv (gAfter m e).2]) (by simp) trivial trivial) ?_
   exact ⟨rfl, rfl⟩
  rw [if_neg (by rw [hc2]; decide)]
  have h0 : (gAfter m e).2 = 0 := by
   have h := hc2
   simpa using h
  refine awp_skip<|Sq<|Sq<|Rg<|Dd (fr' fo38_0)<|Dd (l1' Tryz.isAgg3)<|Dd eql'<|Zz ?_
  refine Cn (fun hc3 => ?_) fun hc3 => ?_
  ·rw [if_pos hc3]
   refine Sq<|Rg<|Dd (fr' fo38_8)<|Dd (fr' fo36_0)<|Dd (l1' Tryz.isAgg9)<|Dd (bu' bo38)<|Dd (by exact x_buildSlice [encEdit (dropE e.obj.id)] rfl so25 rfl rfl rfl rfl rfl (by simp [encEdit]))<|Dd as'<|Dd as'<|Zz<|awp_ret ?_
   refine aret2 (H' := []) (.inr rfl) rfl (rval_tmp rfl) (rval_tmp rfl) (Fin.wk (r := .tup [.pv (slEdits [dropE e.obj.id]), iv 0]) (by simp) trivial trivial) ?_
   exact ⟨rfl, rfl⟩
  rw [if_neg (by rw [hc3]; decide)]
  have h1 := of_decide_eq_false hc3
  obtain ⟨o, hlk, hom, hgo, h7⟩ := hfa h0 h1
  rw [oOf_some hlk]
  obtain ⟨l1, l2, l3, l4, l5⟩ := gObj_len hgo
  have hoo := hm.2 o hom
  refine awp_skip<|Sq<|Rg<|Dd mv'<|Dd (fr' fo38_1)<|Dd (l1' Tryz.isAgg9)<|Dd (by exact opr_call rfl rfl Tryz.call30 rfl (get_c m e.id o _ rfl rfl hm hlk))<|Dd (by exact x_alloc (id := 9) rfl zo36 rfl rfl)<|Uu (sa' Tryz.sizeOf36)<|Zz<|Sq<|Rg<|Dd (ln' Tryz.isAgg38 Tryz.sizeOf38)<|Dd (by exact x_alloc (id := 10) rfl zo38 rfl rfl)<|Uu (sa' Tryz.sizeOf38)<|Zz<|Sq<|Sq<|Rg<|Dd (fr' fo38_0)<|Dd (l1' Tryz.isAgg3)<|Zz<|awp_block<|Sq<|Rg<|Dd eql'<|Dd as'<|Zz ?_
  refine Cn (fun hc4 => ?_) fun hc4 => ?_
  ·rw [if_neg (show ¬ decide (e.op = 7) = true by have := of_decide_eq_true hc4; rw [decide_eq_true_eq]; omega), gBack, if_pos hc4]
   refine Rg<|Dd (fr' fo36_2)<|Dd (by exact opd_loadn_ref rfl Tryz.isAgg32 Tryz.sizeOf32 rfl rfl rfl rfl (by simp only [Zl, encTag, encObj, encStr, encEdit, encInt]; rfl) rfl)<|Dd (fr' fo38_4)<|Uu (by exact x_store rfl Tryz.sizeOf32 rfl rfl rfl rfl rfl rfl rfl (Nat.le_of_ble_eq_true rfl) rfl rfl)<|Zz<|Sq<|Rg<|Dd (ln' Tryz.isAgg38 Tryz.sizeOf38)<|Dd (by exact x_buildSlice [encEdit (⟨e.op, e.id, e.other, e.node, o.x, o.y, e.key, e.val, e.refs, e.obj⟩)] rfl so25 rfl rfl rfl rfl rfl (by simp [encEdit]))<|Dd as'<|Dd as'<|Zz<|awp_ret ?_
   refine aret2 (H' := []) (.inr rfl) rfl (rval_tmp rfl) (rval_tmp rfl) (Fin.wk (r := .tup [.pv (slEdits [⟨e.op, e.id, e.other, e.node, o.x, o.y, e.key, e.val, e.refs, e.obj⟩]), iv 0]) (by simp) trivial trivial) ?_
   exact ⟨rfl, rfl⟩
  skip
  refine Sq<|Rg<|Dd eql'<|Dd as'<|Zz ?_
  refine Cn (fun hc5 => ?_) fun hc5 => ?_
  ·rw [if_neg (show ¬ decide (e.op = 7) = true by have := of_decide_eq_true hc5; rw [decide_eq_true_eq]; omega), gBack, if_neg (by rw [hc4]; decide), if_pos hc5]
   refine Rg<|Dd (fr' fo36_4)<|Dd (l1' Tryz.isAgg34)<|Dd (fr' fo38_5)<|Dd (l1' Tryz.isAgg9)<|Dd (by exact opr_call rfl rfl Tryz.call31 rfl (tagGet_c o.tags e.key _ hoo.2.1.1))<|Dd mv'<|Dd ex'<|Dd ex'<|Dd (fr' fo38_6)<|Uu (by exact x_store1 rfl Tryz.sizeOf9 rfl rfl rfl rfl rfl rfl (Nat.le_of_ble_eq_true rfl) rfl rfl)<|Zz<|Sq<|Rg<|Dd (ln' Tryz.isAgg38 Tryz.sizeOf38)<|Dd (by exact x_buildSlice [encEdit (⟨e.op, e.id, e.other, e.node, e.x, e.y, e.key, vOf o.tags e.key, e.refs, e.obj⟩)] rfl so25 rfl rfl rfl rfl rfl (by simp [encEdit]))<|Dd as'<|Dd as'<|Zz<|awp_ret ?_
   refine aret2 (H' := []) (.inr rfl) rfl (rval_tmp rfl) (rval_tmp rfl) (Fin.wk (r := .tup [.pv (slEdits [⟨e.op, e.id, e.other, e.node, e.x, e.y, e.key, vOf o.tags e.key, e.refs, e.obj⟩]), iv 0]) (by simp) trivial trivial) ?_
   exact ⟨rfl, rfl⟩
  skip
  refine Sq<|Rg<|Dd eql'<|Dd as'<|Zz ?_
  refine Cn (fun hc6 => ?_) fun hc6 => ?_
  ·rw [if_neg (show ¬ decide (e.op = 7) = true by have := of_decide_eq_true hc6; rw [decide_eq_true_eq]; omega), gBack, if_neg (by rw [hc4]; decide), if_neg (by rw [hc5]; decide), if_pos hc6]
   refine Rg<|Dd (fr' fo36_3)<|Dd (l1' Tryz.isAgg33)<|Dd (fr' fo38_7)<|Uu (by exact x_store1 rfl Tryz.sizeOf33 rfl rfl rfl rfl rfl rfl (Nat.le_of_ble_eq_true rfl) rfl rfl)<|Zz<|Sq<|Rg<|Dd (ln' Tryz.isAgg38 Tryz.sizeOf38)<|Dd (by exact x_buildSlice [encEdit (⟨e.op, e.id, e.other, e.node, e.x, e.y, e.key, e.val, o.refs, e.obj⟩)] rfl so25 rfl rfl rfl rfl rfl (by simp [encEdit]))<|Dd as'<|Dd as'<|Zz<|awp_ret ?_
   refine aret2 (H' := []) (.inr rfl) rfl (rval_tmp rfl) (rval_tmp rfl) (Fin.wk (r := .tup [.pv (slEdits [⟨e.op, e.id, e.other, e.node, e.x, e.y, e.key, e.val, o.refs, e.obj⟩]), iv 0]) (by simp) trivial trivial) ?_
   exact ⟨rfl, rfl⟩
  skip
  refine Sq<|Rg<|Dd eql'<|Dd as'<|Zz ?_
  refine Cn (fun hc7 => ?_) fun hc7 => ?_
  ·rw [if_neg (show ¬ decide (e.op = 7) = true by have := of_decide_eq_true hc7; rw [decide_eq_true_eq]; omega), gBack, if_neg (by rw [hc4]; decide), if_neg (by rw [hc5]; decide), if_neg (by rw [hc6]; decide), if_pos hc7]
   refine Rg<|Dd (ln' Tryz.isAgg36 Tryz.sizeOf36)<|Dd (bu' bo38)<|Uu (sa' Tryz.sizeOf38)<|Zz<|Sq<|Rg<|Dd (ln' Tryz.isAgg38 Tryz.sizeOf38)<|Dd (by exact x_buildSlice [encEdit (putE o)] rfl so25 rfl rfl rfl rfl rfl (by simp [encEdit]))<|Dd as'<|Dd as'<|Zz<|awp_ret ?_
   refine aret2 (H' := []) (.inr rfl) rfl (rval_tmp rfl) (rval_tmp rfl) (Fin.wk (r := .tup [.pv (slEdits [putE o]), iv 0]) (by simp) trivial trivial) ?_
   exact ⟨rfl, rfl⟩
  skip
  refine Sq<|Rg<|Dd eql'<|Dd as'<|Zz ?_
  refine Cn (fun hc8 => ?_) fun hc8 => ?_
  ·rw [if_neg (show ¬ decide (e.op = 7) = true by have := of_decide_eq_true hc8; rw [decide_eq_true_eq]; omega), gBack, if_neg (by rw [hc4]; decide), if_neg (by rw [hc5]; decide), if_neg (by rw [hc6]; decide), if_neg (by rw [hc7]; decide), if_pos hc8]
   refine Rg<|Dd (fr' fo38_1)<|Dd (l1' Tryz.isAgg9)<|Dd (fr' fo38_2)<|Dd (l1' Tryz.isAgg9)<|Dd (bu' bo38)<|Uu (sa' Tryz.sizeOf38)<|Zz<|Sq<|Rg<|Dd (ln' Tryz.isAgg38 Tryz.sizeOf38)<|Dd (by exact x_buildSlice [encEdit (joinE e.id e.other)] rfl so25 rfl rfl rfl rfl rfl (by simp [encEdit]))<|Dd as'<|Dd as'<|Zz<|awp_ret ?_
   refine aret2 (H' := []) (.inr rfl) rfl (rval_tmp rfl) (rval_tmp rfl) (Fin.wk (r := .tup [.pv (slEdits [joinE e.id e.other]), iv 0]) (by simp) trivial trivial) ?_
   exact ⟨rfl, rfl⟩
  skip
  refine Sq<|Rg<|Dd eql'<|Dd as'<|Zz ?_
  refine Cn (fun hc9 => ?_) fun hc9 => ?_
  ·rw [if_pos hc9]
   obtain ⟨x, hlx, hxm, hgx, hx2⟩ := h7 (of_decide_eq_true hc9)
   rw [oOf_some hlx]
   obtain ⟨k1, k2, k3, k4, k5⟩ := gObj_len hgx
   have hxo := hm.2 x hxm
   refine Sq ?_
   refine awp_drawc follows ?_
   refine Cq (ln' Tryz.isAgg38 Tryz.sizeOf38)<|Cq (ln' Tryz.isAgg36 Tryz.sizeOf36)<|Cq mv'<|Cq (fr' fo38_2)<|Cq (l1' Tryz.isAgg9)<|Cq (by exact opr_call rfl rfl Tryz.call30 rfl (get_c m e.other x _ rfl rfl hm hlx))<|Cq (by exact opr_call rfl rfl Tryz.call32 rfl (editApart_c e o x _ hoo hxo l1 k1 l2 k2 (by omega)))<|Cq ex'<|Cq ex'<|Cq as'<|Cq as' ?_
   refine dc_nil ⟨by kernel_rfl, ?_⟩
   refine awp_ret ?_
   refine aret2 (H' := []) (.inr rfl) rfl (rval_tmp rfl) (rval_tmp rfl) (Fin.wk (r := .tup [.pv (slEdits (gApart e o x).1), iv (gApart e o x).2]) (by simp) trivial trivial) ?_
   exact ⟨rfl, rfl⟩
  rw [if_neg (by rw [hc9]; decide), gBack, if_neg (by rw [hc4]; decide), if_neg (by rw [hc5]; decide), if_neg (by rw [hc6]; decide), if_neg (by rw [hc7]; decide), if_neg (by rw [hc8]; decide)]
  refine awp_skip<|Sq<|Rg<|Dd (ln' Tryz.isAgg38 Tryz.sizeOf38)<|Dd (by exact x_buildSlice [encEdit (e)] rfl so25 rfl rfl rfl rfl rfl (by simp [encEdit]))<|Dd as'<|Dd as'<|Zz<|awp_ret ?_
  refine aret2 (H' := []) (.inr rfl) rfl (rval_tmp rfl) (rval_tmp rfl) (Fin.wk (r := .tup [.pv (slEdits [e]), iv 0]) (by simp) trivial trivial) ?_
  exact ⟨rfl, rfl⟩
 | false =>
  have hap : gApply m e = ([], 1) := by rw [gApply, hcl]; rfl
  unfold gInvert
  rw [hap]
  have hof := fun H => ACalls.pure (ofN_c m hm hcl) (by simp) H
  refine Bd Tryz.func8 rfl Tryz.ntmps8<|Sq<|Rg<|Dd (by exact opd_box (id := 2) rfl rfl rfl rfl rfl)<|Dd (by exact opd_box (id := 3) rfl rfl rfl rfl rfl)<|Dd as'<|Dd as'<|Zz<|Sq<|Rg<|Dd (ln' Tryz.isAgg24 Tryz.sizeOf24)<|Dd (by exact opr_call rfl rfl Tryz.call23 rfl (hof _))<|Dd as'<|Zz<|Sq<|Sq<|Rg<|Dd mv'<|Dd (by exact opd_peq_nil rfl Tryz.underlying52 rfl rfl)<|Zz ?_
  refine Cn (fun hc1 => ?_) fun hc1 => ?_
  ·skip
   refine Sq<|Rg<|Dd as'<|Dd as'<|Zz<|awp_ret ?_
   refine aret2 (H' := []) (.inr rfl) rfl (rval_tmp rfl) (rval_tmp rfl) (Fin.wk (r := .tup [.pv (slEdits []), iv 1]) (by simp) trivial trivial) ?_
   exact ⟨rfl, rfl⟩
  cases hc1
end Go.Proofs.YtbbnllojhjlaoaaGreat
end
section
set_option linter.unusedVariables false
set_option linter.unusedSimpArgs false
set_option maxRecDepth 100000
set_option maxHeartbeats 1000000
namespace Go.Proofs.YtbbnllojhjlaoaaGreat
open Go.Abs
theorem keys_eq (a b : List GTag) : ((a ++ b).map GTag.key).foldl rIns [] = apKeys a b := by
 unfold apKeys
 obtain ⟨h1, h2⟩ := insAll_spec (k := (a ++ b).map GTag.key) (l := []) List.Pairwise.nil
 refine incr_eq h1 (compact_incr (sortS_le _)) (fun x => ?_)
 rw [h2 x, compact_mem, (sortS_perm _).mem_iff]
 simp
theorem keys_snoc {l : List GTag} {j : Nat} {t : GTag} (h : l[j]? = some t) (k0 : List ByteArray) : ((l.take (j + 1)).map GTag.key).foldl rIns k0 = rIns (((l.take j).map GTag.key).foldl rIns k0) t.key := by
 rw [List.take_add_one, h, List.map_append, List.foldl_append]
 rfl
theorem ops7 {n : Int} (h1 : n ≠ 1) (h : 1 ≤ n ∧ n ≤ 7) : n = 2 ∨ n = 3 ∨ n = 4 ∨ n = 5 ∨ n = 6 ∨ n = 7 := by omega
theorem rInvert21_c (m : List GObj) (e : GEdit) (H : Heap) (hm : okM m) (hml : m.length ≤ 999998) (he : okE e) (hes : e.refs.length < 274877906944) :
  ACalls Tryz.prog 9 [.agg [.pv (slObjs m)], av (encEdit e)] H (fun r H' => r = .tup [.pv (slEdits (gInvert m e).1), iv (gInvert m e).2] ∧ H' = H) := by
 refine ACalls.pure ?_ (by simp) H
 unfold gInvert
 have hop : (gApply m e).2 = 0 → closedB m = true ∧ (gAfter m e).2 = 0 := fun h => by
  cases hc : closedB m with
  | true => exact ⟨rfl, by rw [gApply, if_pos hc] at h; exact h⟩
  | false => rw [gApply, hc] at h; cases h
 refine Bd Tryz.func9 rfl Tryz.ntmps9<|Sq<|Rg<|Dd (by exact opd_box (id := 2) rfl rfl rfl rfl rfl)<|Dd (by exact opd_box (id := 3) rfl rfl rfl rfl rfl)<|Dd as'<|Dd as'<|Zz<|Sq<|Rg<|Dd (by exact opd_loadn_ref rfl Tryz.isAgg24 Tryz.sizeOf24 rfl rfl rfl rfl (by simp only [Zl, encTag, encObj, encStr, encEdit, encInt]; rfl) rfl)<|Dd (by exact opd_loadn_ref rfl Tryz.isAgg38 Tryz.sizeOf38 rfl rfl rfl rfl (by simp only [Zl, encTag, encObj, encStr, encEdit, encInt]; rfl) rfl)<|Dd (by exact opr_call rfl rfl Tryz.call7 rfl (apply21_c m e _ hm hml he hes))<|Dd mv'<|Dd ex'<|Dd ex'<|Dd (by exact x_alloc (id := 6) rfl zo24 rfl rfl)<|Uu (sa' Tryz.sizeOf24)<|Dd as'<|Zz<|Sq<|Sq<|Rg<|Dd mv'<|Dd ne'<|Zz ?_
 refine Cn (fun hc1 => ?_) fun hc1 => ?_
 ·rw [if_pos hc1]
  refine Sq<|Rg<|Dd mv'<|Dd as'<|Dd as'<|Zz<|awp_ret ?_
  refine Ru ?_
  exact ⟨rfl, rfl⟩
 rw [if_neg (by rw [hc1]; decide)]
 have h0 : (gApply m e).2 = 0 := by
  have h := hc1
  simpa using h
 obtain ⟨hcl, haf⟩ := hop h0
 refine awp_skip<|Sq<|Sq<|Rg<|Dd (fr' fo38_0)<|Dd (l1' Tryz.isAgg3)<|Dd eql'<|Zz ?_
 refine Cn (fun hc2 => ?_) fun hc2 => ?_
 ·rw [if_pos hc2]
  refine Sq<|Rg<|Dd (fr' fo38_8)<|Dd (fr' fo36_0)<|Dd (l1' Tryz.isAgg9)<|Dd (bu' bo38)<|Dd (by exact x_buildSlice [encEdit (dropE e.obj.id)] rfl so25 rfl rfl rfl rfl rfl (by simp [encEdit]))<|Dd as'<|Dd as'<|Zz<|awp_ret ?_
  refine Ru ?_
  exact ⟨rfl, rfl⟩
 rw [if_neg (by rw [hc2]; decide)]
 have h1 := of_decide_eq_false hc2
 obtain ⟨o, hlk, hom, hgo, h7⟩ := inv_facts hcl haf h1
 have hval : 1 ≤ e.op ∧ e.op ≤ 7 := (gEditV_iff.1 (eff_of (closed_gMap hcl) haf).1).1
 rw [oOf_some hlk]
 obtain ⟨l1, l2, l3, l4, l5⟩ := gObj_len hgo
 have hoo := hm.2 o hom
 have hidx : ∃ k : Nat, gidx (idIs e.id) m = (k : Int) ∧ m[k]? = some o := by
  rcases gidx_cases (idIs e.id) m with ⟨e1, e2⟩ | ⟨k, z, e1, e2, e3⟩
  ·rw [show m.find? (idIs e.id) = some o from hlk] at e2; cases e2
  rw [show m.find? (idIs e.id) = some o from hlk] at e3; cases e3
  exact ⟨k, e1, e2⟩
 obtain ⟨k, e1, e2⟩ := hidx
 have hi1 := map_get (f := encObj) e2
 have hkl := (List.getElem?_eq_some_iff.1 e2).1
 have hmm : (m.map encObj).length = m.length := List.length_map _
 have htm : (o.tags.map encTag).length = o.tags.length := List.length_map _
 have hot := hoo.2.1.1
 have hcs := ops7 h1 hval
 rcases hcs with hop | hop | hop | hop | hop | hop
 ·skip
  rw [if_neg (show ¬ decide (e.op = 7) = true by rw [hop]; decide), show gBack e o = ⟨e.op, e.id, e.other, e.node, o.x, o.y, e.key, e.val, e.refs, e.obj⟩ by unfold gBack; simp [hop]]
  refine awp_skip<|Sq ?_
  refine awp_drawc follows ?_
  refine Cr [2] (fun _ h => fh fo24_0 h)<|Cr [2] (fun _ h => lh Tryz.isAgg22 h)<|Cr [2] (fun H1 hH => by exact opd_loadn_ref rfl Tryz.isAgg24 Tryz.sizeOf24 rfl ((hH _ rfl).trans rfl) rfl rfl (by simp only [Zl, encTag, encObj, encStr, encEdit, encInt]; rfl) rfl)<|Cr [3] (fun _ h => fh fo38_1 h)<|Cr [3] (fun _ h => lh Tryz.isAgg9 h)<|Cr [] (fun H1 hH => by exact opr_call rfl rfl Tryz.call26 rfl (rFind_t e1 _ hm.1))<|Cr [] (fun H1 hH => by exact x_index_pad rfl so22 rfl rfl (by omega) (by exact Int.toNat_natCast _) hi1 rfl)<|Cr [] (fun H1 hH => by exact opd_loadn_pad rfl Tryz.isAgg36 Tryz.sizeOf36 rfl hi1 (by simp only [Zl, encObj]; rfl) rfl)<|Cp [8] (fun H1 hH => by exact x_alloc (id := 8) rfl zo36 rfl ((hH _ rfl).trans rfl))<|Cp [8] (fun H1 hH => by exact x_store_all rfl Tryz.sizeOf36 rfl rfl rfl rfl ((hH _ rfl).trans rfl) rfl rfl rfl) ?_
  refine dc_nil ⟨by kernel_rfl, ?_⟩
  refine Sq<|Rg<|Dd (by exact opd_loadn_ref rfl Tryz.isAgg38 Tryz.sizeOf38 rfl rfl rfl rfl (by simp only [Zl, encTag, encObj, encStr, encEdit, encInt]; rfl) rfl)<|Dd (by exact x_alloc (id := 9) rfl zo38 rfl rfl)<|Uu (sa' Tryz.sizeOf38)<|Zz<|Sq<|Sq<|Rg<|Dd (fr' fo38_0)<|Dd (l1' Tryz.isAgg3)<|Dd eql'<|Zz ?_
  refine Cn (fun hc3 => ?_) fun hc3 => ?_
  ·skip
   refine Rg<|Dd (fr' fo36_2)<|Dd (by exact opd_loadn_ref rfl Tryz.isAgg32 Tryz.sizeOf32 rfl rfl rfl rfl (by simp only [Zl, encTag, encObj, encStr, encEdit, encInt]; rfl) rfl)<|Dd (fr' fo38_4)<|Uu (by exact x_store rfl Tryz.sizeOf32 rfl rfl rfl rfl rfl rfl rfl (by simp only [List.length_cons, List.length_nil]; omega) (by simp only [Zl, encTag, encObj, encStr, encEdit, encInt]; rfl) (by simp only [Zl, encTag, encObj, encStr, encEdit, encInt]; rfl))<|Zz<|Sq<|Sq<|Rg<|Dd (fr' fo38_0)<|Dd (l1' Tryz.isAgg3)<|Dd eql'<|Zz ?_
   refine Cn (fun hc4 => ?_) fun hc4 => ?_
   ·skip
    exact absurd (of_decide_eq_true hc4) (by rw [hop]; decide)
   skip
   refine awp_skip<|Sq<|Sq<|Rg<|Dd (fr' fo38_0)<|Dd (l1' Tryz.isAgg3)<|Dd eql'<|Zz ?_
   refine Cn (fun hc5 => ?_) fun hc5 => ?_
   ·skip
    exact absurd (of_decide_eq_true hc5) (by rw [hop]; decide)
   skip
   refine awp_skip<|Sq<|Sq<|Rg<|Dd (fr' fo38_0)<|Dd (l1' Tryz.isAgg3)<|Dd eql'<|Zz ?_
   refine Cn (fun hc6 => ?_) fun hc6 => ?_
   ·skip
    exact absurd (of_decide_eq_true hc6) (by rw [hop]; decide)
   skip
   refine awp_skip<|Sq<|Sq<|Rg<|Dd (fr' fo38_0)<|Dd (l1' Tryz.isAgg3)<|Dd eql'<|Zz ?_
   refine Cn (fun hc7 => ?_) fun hc7 => ?_
   ·skip
    exact absurd (of_decide_eq_true hc7) (by rw [hop]; decide)
   skip
   refine awp_skip<|Sq<|Sq<|Rg<|Dd (fr' fo38_0)<|Dd (l1' Tryz.isAgg3)<|Dd ne'<|Zz ?_
   refine Cn (fun hc8 => ?_) fun hc8 => ?_
   ·skip
    refine Sq<|Rg<|Dd (by exact opd_loadn_ref rfl Tryz.isAgg38 Tryz.sizeOf38 rfl rfl rfl rfl (by simp only [Zl, encTag, encObj, encStr, encEdit, encInt]; rfl) rfl)<|Dd (by exact x_buildSlice [encEdit (⟨e.op, e.id, e.other, e.node, o.x, o.y, e.key, e.val, e.refs, e.obj⟩)] rfl so25 rfl rfl rfl rfl rfl (by simp [encEdit]))<|Dd as'<|Dd as'<|Zz<|awp_ret ?_
    refine Ru ?_
    exact ⟨rfl, rfl⟩
   skip
   (rw [hop] at hc8; exact absurd hc8 (by decide))
  skip
  exact absurd hop (of_decide_eq_false hc3)
 ·skip
  rw [if_neg (show ¬ decide (e.op = 7) = true by rw [hop]; decide), show gBack e o = ⟨e.op, e.id, e.other, e.node, e.x, e.y, e.key, vOf o.tags e.key, e.refs, e.obj⟩ by unfold gBack; simp [hop]]
  refine awp_skip<|Sq ?_
  refine awp_drawc follows ?_
  refine Cr [2] (fun _ h => fh fo24_0 h)<|Cr [2] (fun _ h => lh Tryz.isAgg22 h)<|Cr [2] (fun H1 hH => by exact opd_loadn_ref rfl Tryz.isAgg24 Tryz.sizeOf24 rfl ((hH _ rfl).trans rfl) rfl rfl (by simp only [Zl, encTag, encObj, encStr, encEdit, encInt]; rfl) rfl)<|Cr [3] (fun _ h => fh fo38_1 h)<|Cr [3] (fun _ h => lh Tryz.isAgg9 h)<|Cr [] (fun H1 hH => by exact opr_call rfl rfl Tryz.call26 rfl (rFind_t e1 _ hm.1))<|Cr [] (fun H1 hH => by exact x_index_pad rfl so22 rfl rfl (by omega) (by exact Int.toNat_natCast _) hi1 rfl)<|Cr [] (fun H1 hH => by exact opd_loadn_pad rfl Tryz.isAgg36 Tryz.sizeOf36 rfl hi1 (by simp only [Zl, encObj]; rfl) rfl)<|Cp [8] (fun H1 hH => by exact x_alloc (id := 8) rfl zo36 rfl ((hH _ rfl).trans rfl))<|Cp [8] (fun H1 hH => by exact x_store_all rfl Tryz.sizeOf36 rfl rfl rfl rfl ((hH _ rfl).trans rfl) rfl rfl rfl) ?_
  refine dc_nil ⟨by kernel_rfl, ?_⟩
  refine Sq<|Rg<|Dd (by exact opd_loadn_ref rfl Tryz.isAgg38 Tryz.sizeOf38 rfl rfl rfl rfl (by simp only [Zl, encTag, encObj, encStr, encEdit, encInt]; rfl) rfl)<|Dd (by exact x_alloc (id := 9) rfl zo38 rfl rfl)<|Uu (sa' Tryz.sizeOf38)<|Zz<|Sq<|Sq<|Rg<|Dd (fr' fo38_0)<|Dd (l1' Tryz.isAgg3)<|Dd eql'<|Zz ?_
  refine Cn (fun hc9 => ?_) fun hc9 => ?_
  ·skip
   exact absurd (of_decide_eq_true hc9) (by rw [hop]; decide)
  skip
  refine awp_skip<|Sq<|Sq<|Rg<|Dd (fr' fo38_0)<|Dd (l1' Tryz.isAgg3)<|Dd eql'<|Zz ?_
  refine Cn (fun hc10 => ?_) fun hc10 => ?_
  ·skip
   exact absurd (of_decide_eq_true hc10) (by rw [hop]; decide)
  skip
  refine awp_skip<|Sq<|Sq<|Rg<|Dd (fr' fo38_0)<|Dd (l1' Tryz.isAgg3)<|Dd eql'<|Zz ?_
  refine Cn (fun hc11 => ?_) fun hc11 => ?_
  ·skip
   refine Rg<|Dd (fr' fo36_4)<|Dd (l1' Tryz.isAgg34)<|Dd (fr' fo38_5)<|Dd (l1' Tryz.isAgg9)<|Dd (by exact opr_call rfl rfl Tryz.call33 rfl (rGet_c o.tags e.key _ hot))<|Dd mv'<|Dd ex'<|Dd ex'<|Dd (fr' fo38_6)<|Uu (by exact x_store1 rfl Tryz.sizeOf9 rfl rfl rfl rfl rfl rfl (by simp only [List.length_cons, List.length_nil]; omega) (by simp only [Zl, encTag, encObj, encStr, encEdit, encInt]; rfl) (by simp only [Zl, encTag, encObj, encStr, encEdit, encInt]; rfl))<|Zz<|Sq<|Sq<|Rg<|Dd (fr' fo38_0)<|Dd (l1' Tryz.isAgg3)<|Dd eql'<|Zz ?_
   refine Cn (fun hc12 => ?_) fun hc12 => ?_
   ·skip
    exact absurd (of_decide_eq_true hc12) (by rw [hop]; decide)
   skip
   refine awp_skip<|Sq<|Sq<|Rg<|Dd (fr' fo38_0)<|Dd (l1' Tryz.isAgg3)<|Dd eql'<|Zz ?_
   refine Cn (fun hc13 => ?_) fun hc13 => ?_
   ·skip
    exact absurd (of_decide_eq_true hc13) (by rw [hop]; decide)
   skip
   refine awp_skip<|Sq<|Sq<|Rg<|Dd (fr' fo38_0)<|Dd (l1' Tryz.isAgg3)<|Dd ne'<|Zz ?_
   refine Cn (fun hc14 => ?_) fun hc14 => ?_
   ·skip
    refine Sq<|Rg<|Dd (by exact opd_loadn_ref rfl Tryz.isAgg38 Tryz.sizeOf38 rfl rfl rfl rfl (by simp only [Zl, encTag, encObj, encStr, encEdit, encInt]; rfl) rfl)<|Dd (by exact x_buildSlice [encEdit (⟨e.op, e.id, e.other, e.node, e.x, e.y, e.key, vOf o.tags e.key, e.refs, e.obj⟩)] rfl so25 rfl rfl rfl rfl rfl (by simp [encEdit]))<|Dd as'<|Dd as'<|Zz<|awp_ret ?_
    refine Ru ?_
    exact ⟨rfl, rfl⟩
   skip
   (rw [hop] at hc14; exact absurd hc14 (by decide))
  skip
  exact absurd hop (of_decide_eq_false hc11)
 ·skip
  rw [if_neg (show ¬ decide (e.op = 7) = true by rw [hop]; decide), show gBack e o = ⟨e.op, e.id, e.other, e.node, e.x, e.y, e.key, e.val, o.refs, e.obj⟩ by unfold gBack; simp [hop]]
  refine awp_skip<|Sq ?_
  refine awp_drawc follows ?_
  refine Cr [2] (fun _ h => fh fo24_0 h)<|Cr [2] (fun _ h => lh Tryz.isAgg22 h)<|Cr [2] (fun H1 hH => by exact opd_loadn_ref rfl Tryz.isAgg24 Tryz.sizeOf24 rfl ((hH _ rfl).trans rfl) rfl rfl (by simp only [Zl, encTag, encObj, encStr, encEdit, encInt]; rfl) rfl)<|Cr [3] (fun _ h => fh fo38_1 h)<|Cr [3] (fun _ h => lh Tryz.isAgg9 h)<|Cr [] (fun H1 hH => by exact opr_call rfl rfl Tryz.call26 rfl (rFind_t e1 _ hm.1))<|Cr [] (fun H1 hH => by exact x_index_pad rfl so22 rfl rfl (by omega) (by exact Int.toNat_natCast _) hi1 rfl)<|Cr [] (fun H1 hH => by exact opd_loadn_pad rfl Tryz.isAgg36 Tryz.sizeOf36 rfl hi1 (by simp only [Zl, encObj]; rfl) rfl)<|Cp [8] (fun H1 hH => by exact x_alloc (id := 8) rfl zo36 rfl ((hH _ rfl).trans rfl))<|Cp [8] (fun H1 hH => by exact x_store_all rfl Tryz.sizeOf36 rfl rfl rfl rfl ((hH _ rfl).trans rfl) rfl rfl rfl) ?_
  refine dc_nil ⟨by kernel_rfl, ?_⟩
  refine Sq<|Rg<|Dd (by exact opd_loadn_ref rfl Tryz.isAgg38 Tryz.sizeOf38 rfl rfl rfl rfl (by simp only [Zl, encTag, encObj, encStr, encEdit, encInt]; rfl) rfl)<|Dd (by exact x_alloc (id := 9) rfl zo38 rfl rfl)<|Uu (sa' Tryz.sizeOf38)<|Zz<|Sq<|Sq<|Rg<|Dd (fr' fo38_0)<|Dd (l1' Tryz.isAgg3)<|Dd eql'<|Zz ?_
  refine Cn (fun hc15 => ?_) fun hc15 => ?_
  ·skip
   exact absurd (of_decide_eq_true hc15) (by rw [hop]; decide)
  skip
  refine awp_skip<|Sq<|Sq<|Rg<|Dd (fr' fo38_0)<|Dd (l1' Tryz.isAgg3)<|Dd eql'<|Zz ?_
  refine Cn (fun hc16 => ?_) fun hc16 => ?_
  ·skip
   refine Rg<|Dd (fr' fo36_3)<|Dd (l1' Tryz.isAgg33)<|Dd (fr' fo38_7)<|Uu (by exact x_store1 rfl Tryz.sizeOf33 rfl rfl rfl rfl rfl rfl (by simp only [List.length_cons, List.length_nil]; omega) (by simp only [Zl, encTag, encObj, encStr, encEdit, encInt]; rfl) (by simp only [Zl, encTag, encObj, encStr, encEdit, encInt]; rfl))<|Zz<|Sq<|Sq<|Rg<|Dd (fr' fo38_0)<|Dd (l1' Tryz.isAgg3)<|Dd eql'<|Zz ?_
   refine Cn (fun hc17 => ?_) fun hc17 => ?_
   ·skip
    exact absurd (of_decide_eq_true hc17) (by rw [hop]; decide)
   skip
   refine awp_skip<|Sq<|Sq<|Rg<|Dd (fr' fo38_0)<|Dd (l1' Tryz.isAgg3)<|Dd eql'<|Zz ?_
   refine Cn (fun hc18 => ?_) fun hc18 => ?_
   ·skip
    exact absurd (of_decide_eq_true hc18) (by rw [hop]; decide)
   skip
   refine awp_skip<|Sq<|Sq<|Rg<|Dd (fr' fo38_0)<|Dd (l1' Tryz.isAgg3)<|Dd eql'<|Zz ?_
   refine Cn (fun hc19 => ?_) fun hc19 => ?_
   ·skip
    exact absurd (of_decide_eq_true hc19) (by rw [hop]; decide)
   skip
   refine awp_skip<|Sq<|Sq<|Rg<|Dd (fr' fo38_0)<|Dd (l1' Tryz.isAgg3)<|Dd ne'<|Zz ?_
   refine Cn (fun hc20 => ?_) fun hc20 => ?_
   ·skip
    refine Sq<|Rg<|Dd (by exact opd_loadn_ref rfl Tryz.isAgg38 Tryz.sizeOf38 rfl rfl rfl rfl (by simp only [Zl, encTag, encObj, encStr, encEdit, encInt]; rfl) rfl)<|Dd (by exact x_buildSlice [encEdit (⟨e.op, e.id, e.other, e.node, e.x, e.y, e.key, e.val, o.refs, e.obj⟩)] rfl so25 rfl rfl rfl rfl rfl (by simp [encEdit]))<|Dd as'<|Dd as'<|Zz<|awp_ret ?_
    refine Ru ?_
    exact ⟨rfl, rfl⟩
   skip
   (rw [hop] at hc20; exact absurd hc20 (by decide))
  skip
  exact absurd hop (of_decide_eq_false hc16)
 ·skip
  rw [if_neg (show ¬ decide (e.op = 7) = true by rw [hop]; decide), show gBack e o = putE o by unfold gBack; rw [hop]; rfl]
  refine awp_skip<|Sq ?_
  refine awp_drawc follows ?_
  refine Cr [2] (fun _ h => fh fo24_0 h)<|Cr [2] (fun _ h => lh Tryz.isAgg22 h)<|Cr [2] (fun H1 hH => by exact opd_loadn_ref rfl Tryz.isAgg24 Tryz.sizeOf24 rfl ((hH _ rfl).trans rfl) rfl rfl (by simp only [Zl, encTag, encObj, encStr, encEdit, encInt]; rfl) rfl)<|Cr [3] (fun _ h => fh fo38_1 h)<|Cr [3] (fun _ h => lh Tryz.isAgg9 h)<|Cr [] (fun H1 hH => by exact opr_call rfl rfl Tryz.call26 rfl (rFind_t e1 _ hm.1))<|Cr [] (fun H1 hH => by exact x_index_pad rfl so22 rfl rfl (by omega) (by exact Int.toNat_natCast _) hi1 rfl)<|Cr [] (fun H1 hH => by exact opd_loadn_pad rfl Tryz.isAgg36 Tryz.sizeOf36 rfl hi1 (by simp only [Zl, encObj]; rfl) rfl)<|Cp [8] (fun H1 hH => by exact x_alloc (id := 8) rfl zo36 rfl ((hH _ rfl).trans rfl))<|Cp [8] (fun H1 hH => by exact x_store_all rfl Tryz.sizeOf36 rfl rfl rfl rfl ((hH _ rfl).trans rfl) rfl rfl rfl) ?_
  refine dc_nil ⟨by kernel_rfl, ?_⟩
  refine Sq<|Rg<|Dd (by exact opd_loadn_ref rfl Tryz.isAgg38 Tryz.sizeOf38 rfl rfl rfl rfl (by simp only [Zl, encTag, encObj, encStr, encEdit, encInt]; rfl) rfl)<|Dd (by exact x_alloc (id := 9) rfl zo38 rfl rfl)<|Uu (sa' Tryz.sizeOf38)<|Zz<|Sq<|Sq<|Rg<|Dd (fr' fo38_0)<|Dd (l1' Tryz.isAgg3)<|Dd eql'<|Zz ?_
  refine Cn (fun hc21 => ?_) fun hc21 => ?_
  ·skip
   exact absurd (of_decide_eq_true hc21) (by rw [hop]; decide)
  skip
  refine awp_skip<|Sq<|Sq<|Rg<|Dd (fr' fo38_0)<|Dd (l1' Tryz.isAgg3)<|Dd eql'<|Zz ?_
  refine Cn (fun hc22 => ?_) fun hc22 => ?_
  ·skip
   exact absurd (of_decide_eq_true hc22) (by rw [hop]; decide)
  skip
  refine awp_skip<|Sq<|Sq<|Rg<|Dd (fr' fo38_0)<|Dd (l1' Tryz.isAgg3)<|Dd eql'<|Zz ?_
  refine Cn (fun hc23 => ?_) fun hc23 => ?_
  ·skip
   exact absurd (of_decide_eq_true hc23) (by rw [hop]; decide)
  skip
  refine awp_skip<|Sq<|Sq<|Rg<|Dd (fr' fo38_0)<|Dd (l1' Tryz.isAgg3)<|Dd eql'<|Zz ?_
  refine Cn (fun hc24 => ?_) fun hc24 => ?_
  ·skip
   refine Rg<|Dd (by exact opd_loadn_ref rfl Tryz.isAgg36 Tryz.sizeOf36 rfl rfl rfl rfl (by simp only [Zl, encTag, encObj, encStr, encEdit, encInt]; rfl) rfl)<|Dd (bu' bo38)<|Uu (sa' Tryz.sizeOf38)<|Zz<|Sq<|Sq<|Rg<|Dd (fr' fo38_0)<|Dd (l1' Tryz.isAgg3)<|Dd eql'<|Zz ?_
   refine Cn (fun hc25 => ?_) fun hc25 => ?_
   ·skip
    exact absurd (of_decide_eq_true hc25) (by rw [hop]; decide)
   skip
   refine awp_skip<|Sq<|Sq<|Rg<|Dd (fr' fo38_0)<|Dd (l1' Tryz.isAgg3)<|Dd ne'<|Zz ?_
   refine Cn (fun hc26 => ?_) fun hc26 => ?_
   ·skip
    refine Sq<|Rg<|Dd (by exact opd_loadn_ref rfl Tryz.isAgg38 Tryz.sizeOf38 rfl rfl rfl rfl (by simp only [Zl, encTag, encObj, encStr, encEdit, encInt]; rfl) rfl)<|Dd (by exact x_buildSlice [encEdit (putE o)] rfl so25 rfl rfl rfl rfl rfl (by simp [encEdit]))<|Dd as'<|Dd as'<|Zz<|awp_ret ?_
    refine Ru ?_
    exact ⟨rfl, rfl⟩
   skip
   (rw [hop] at hc26; exact absurd hc26 (by decide))
  skip
  exact absurd hop (of_decide_eq_false hc24)
 ·skip
  rw [if_neg (show ¬ decide (e.op = 7) = true by rw [hop]; decide), show gBack e o = joinE e.id e.other by unfold gBack; rw [hop]; rfl]
  refine awp_skip<|Sq ?_
  refine awp_drawc follows ?_
  refine Cr [2] (fun _ h => fh fo24_0 h)<|Cr [2] (fun _ h => lh Tryz.isAgg22 h)<|Cr [2] (fun H1 hH => by exact opd_loadn_ref rfl Tryz.isAgg24 Tryz.sizeOf24 rfl ((hH _ rfl).trans rfl) rfl rfl (by simp only [Zl, encTag, encObj, encStr, encEdit, encInt]; rfl) rfl)<|Cr [3] (fun _ h => fh fo38_1 h)<|Cr [3] (fun _ h => lh Tryz.isAgg9 h)<|Cr [] (fun H1 hH => by exact opr_call rfl rfl Tryz.call26 rfl (rFind_t e1 _ hm.1))<|Cr [] (fun H1 hH => by exact x_index_pad rfl so22 rfl rfl (by omega) (by exact Int.toNat_natCast _) hi1 rfl)<|Cr [] (fun H1 hH => by exact opd_loadn_pad rfl Tryz.isAgg36 Tryz.sizeOf36 rfl hi1 (by simp only [Zl, encObj]; rfl) rfl)<|Cp [8] (fun H1 hH => by exact x_alloc (id := 8) rfl zo36 rfl ((hH _ rfl).trans rfl))<|Cp [8] (fun H1 hH => by exact x_store_all rfl Tryz.sizeOf36 rfl rfl rfl rfl ((hH _ rfl).trans rfl) rfl rfl rfl) ?_
  refine dc_nil ⟨by kernel_rfl, ?_⟩
  refine Sq<|Rg<|Dd (by exact opd_loadn_ref rfl Tryz.isAgg38 Tryz.sizeOf38 rfl rfl rfl rfl (by simp only [Zl, encTag, encObj, encStr, encEdit, encInt]; rfl) rfl)<|Dd (by exact x_alloc (id := 9) rfl zo38 rfl rfl)<|Uu (sa' Tryz.sizeOf38)<|Zz<|Sq<|Sq<|Rg<|Dd (fr' fo38_0)<|Dd (l1' Tryz.isAgg3)<|Dd eql'<|Zz ?_
  refine Cn (fun hc27 => ?_) fun hc27 => ?_
  ·skip
   exact absurd (of_decide_eq_true hc27) (by rw [hop]; decide)
  skip
  refine awp_skip<|Sq<|Sq<|Rg<|Dd (fr' fo38_0)<|Dd (l1' Tryz.isAgg3)<|Dd eql'<|Zz ?_
  refine Cn (fun hc28 => ?_) fun hc28 => ?_
  ·skip
   exact absurd (of_decide_eq_true hc28) (by rw [hop]; decide)
  skip
  refine awp_skip<|Sq<|Sq<|Rg<|Dd (fr' fo38_0)<|Dd (l1' Tryz.isAgg3)<|Dd eql'<|Zz ?_
  refine Cn (fun hc29 => ?_) fun hc29 => ?_
  ·skip
   exact absurd (of_decide_eq_true hc29) (by rw [hop]; decide)
  skip
  refine awp_skip<|Sq<|Sq<|Rg<|Dd (fr' fo38_0)<|Dd (l1' Tryz.isAgg3)<|Dd eql'<|Zz ?_
  refine Cn (fun hc30 => ?_) fun hc30 => ?_
  ·skip
   exact absurd (of_decide_eq_true hc30) (by rw [hop]; decide)
  skip
  refine awp_skip<|Sq<|Sq<|Rg<|Dd (fr' fo38_0)<|Dd (l1' Tryz.isAgg3)<|Dd eql'<|Zz ?_
  refine Cn (fun hc31 => ?_) fun hc31 => ?_
  ·skip
   refine Rg<|Dd (fr' fo38_1)<|Dd (l1' Tryz.isAgg9)<|Dd (fr' fo38_2)<|Dd (l1' Tryz.isAgg9)<|Dd (bu' bo38)<|Uu (sa' Tryz.sizeOf38)<|Zz<|Sq<|Sq<|Rg<|Dd (fr' fo38_0)<|Dd (l1' Tryz.isAgg3)<|Dd ne'<|Zz ?_
   refine Cn (fun hc32 => ?_) fun hc32 => ?_
   ·skip
    refine Sq<|Rg<|Dd (by exact opd_loadn_ref rfl Tryz.isAgg38 Tryz.sizeOf38 rfl rfl rfl rfl (by simp only [Zl, encTag, encObj, encStr, encEdit, encInt]; rfl) rfl)<|Dd (by exact x_buildSlice [encEdit (joinE e.id e.other)] rfl so25 rfl rfl rfl rfl rfl (by simp [encEdit]))<|Dd as'<|Dd as'<|Zz<|awp_ret ?_
    refine Ru ?_
    exact ⟨rfl, rfl⟩
   skip
   (rw [hop] at hc32; exact absurd hc32 (by decide))
  skip
  exact absurd hop (of_decide_eq_false hc31)
 skip
 rw [if_pos (show decide (e.op = 7) = true by rw [hop]; decide)]
 refine awp_skip<|Sq ?_
 refine awp_drawc follows ?_
 refine Cr [2] (fun _ h => fh fo24_0 h)<|Cr [2] (fun _ h => lh Tryz.isAgg22 h)<|Cr [2] (fun H1 hH => by exact opd_loadn_ref rfl Tryz.isAgg24 Tryz.sizeOf24 rfl ((hH _ rfl).trans rfl) rfl rfl (by simp only [Zl, encTag, encObj, encStr, encEdit, encInt]; rfl) rfl)<|Cr [3] (fun _ h => fh fo38_1 h)<|Cr [3] (fun _ h => lh Tryz.isAgg9 h)<|Cr [] (fun H1 hH => by exact opr_call rfl rfl Tryz.call26 rfl (rFind_t e1 _ hm.1))<|Cr [] (fun H1 hH => by exact x_index_pad rfl so22 rfl rfl (by omega) (by exact Int.toNat_natCast _) hi1 rfl)<|Cr [] (fun H1 hH => by exact opd_loadn_pad rfl Tryz.isAgg36 Tryz.sizeOf36 rfl hi1 (by simp only [Zl, encObj]; rfl) rfl)<|Cp [8] (fun H1 hH => by exact x_alloc (id := 8) rfl zo36 rfl ((hH _ rfl).trans rfl))<|Cp [8] (fun H1 hH => by exact x_store_all rfl Tryz.sizeOf36 rfl rfl rfl rfl ((hH _ rfl).trans rfl) rfl rfl rfl) ?_
 refine dc_nil ⟨by kernel_rfl, ?_⟩
 refine Sq<|Rg<|Dd (by exact opd_loadn_ref rfl Tryz.isAgg38 Tryz.sizeOf38 rfl rfl rfl rfl (by simp only [Zl, encTag, encObj, encStr, encEdit, encInt]; rfl) rfl)<|Dd (by exact x_alloc (id := 9) rfl zo38 rfl rfl)<|Uu (sa' Tryz.sizeOf38)<|Zz<|Sq<|Sq<|Rg<|Dd (fr' fo38_0)<|Dd (l1' Tryz.isAgg3)<|Dd eql'<|Zz ?_
 refine Cn (fun hc33 => ?_) fun hc33 => ?_
 ·skip
  exact absurd (of_decide_eq_true hc33) (by rw [hop]; decide)
 skip
 refine awp_skip<|Sq<|Sq<|Rg<|Dd (fr' fo38_0)<|Dd (l1' Tryz.isAgg3)<|Dd eql'<|Zz ?_
 refine Cn (fun hc34 => ?_) fun hc34 => ?_
 ·skip
  exact absurd (of_decide_eq_true hc34) (by rw [hop]; decide)
 skip
 refine awp_skip<|Sq<|Sq<|Rg<|Dd (fr' fo38_0)<|Dd (l1' Tryz.isAgg3)<|Dd eql'<|Zz ?_
 refine Cn (fun hc35 => ?_) fun hc35 => ?_
 ·skip
  exact absurd (of_decide_eq_true hc35) (by rw [hop]; decide)
 skip
 refine awp_skip<|Sq<|Sq<|Rg<|Dd (fr' fo38_0)<|Dd (l1' Tryz.isAgg3)<|Dd eql'<|Zz ?_
 refine Cn (fun hc36 => ?_) fun hc36 => ?_
 ·skip
  exact absurd (of_decide_eq_true hc36) (by rw [hop]; decide)
 skip
 refine awp_skip<|Sq<|Sq<|Rg<|Dd (fr' fo38_0)<|Dd (l1' Tryz.isAgg3)<|Dd eql'<|Zz ?_
 refine Cn (fun hc37 => ?_) fun hc37 => ?_
 ·skip
  exact absurd (of_decide_eq_true hc37) (by rw [hop]; decide)
 skip
 refine awp_skip<|Sq<|Sq<|Rg<|Dd (fr' fo38_0)<|Dd (l1' Tryz.isAgg3)<|Dd ne'<|Zz ?_
 refine Cn (fun hc38 => ?_) fun hc38 => ?_
 ·skip
  (rw [hop] at hc38; exact absurd hc38 (by decide))
 skip
 obtain ⟨x, hlx, hxm, hgx, hx2⟩ := h7 hop
 rw [oOf_some hlx]
 obtain ⟨k1, k2, k3, k4, k5⟩ := gObj_len hgx
 have hxo := hm.2 x hxm
 have hidx : ∃ q : Nat, gidx (idIs e.other) m = (q : Int) ∧ m[q]? = some x := by
  rcases gidx_cases (idIs e.other) m with ⟨q1, q2⟩ | ⟨q, z, q1, q2, q3⟩
  ·rw [show m.find? (idIs e.other) = some x from hlx] at q2; cases q2
  rw [show m.find? (idIs e.other) = some x from hlx] at q3; cases q3
  exact ⟨q, q1, q2⟩
 obtain ⟨q, q1, q2⟩ := hidx
 have hi2 := map_get (f := encObj) q2
 have hql := (List.getElem?_eq_some_iff.1 q2).1
 have hrm : (o.refs.map encStr).length = o.refs.length := List.length_map _
 have hxm2 : (x.refs.map encStr).length = x.refs.length := List.length_map _
 have hxt : (x.tags.map encTag).length = x.tags.length := List.length_map _
 have hxt2 := hxo.2.1.1
 obtain ⟨sf, hsf⟩ := get_of_lt (l := x.refs) (k := 0) (by omega)
 have hsf1 := map_get (f := encStr) hsf
 have hjl2 : (x.refs.drop 1).length ≤ 2000 := by rw [List.length_drop]; omega
 unfold gApart
 rw [atS_some hsf, show [o.refs, x.refs.drop 1].flatten = o.refs ++ x.refs.drop 1 by simp, ← inner_eq, ← keys_eq]
 have hal : (o.refs ++ x.refs.drop 1).length < 4611686018427387904 := by rw [List.length_append]; omega
 refine awp_skip<|Sq ?_
 refine awp_drawc follows ?_
 refine Cr [2] (fun _ h => fh fo24_0 h)<|Cr [2] (fun _ h => lh Tryz.isAgg22 h)<|Cr [2] (fun H1 hH => by exact opd_loadn_ref rfl Tryz.isAgg24 Tryz.sizeOf24 rfl ((hH _ rfl).trans rfl) rfl rfl (by simp only [Zl, encTag, encObj, encStr, encEdit, encInt]; rfl) rfl)<|Cr [3] (fun _ h => fh fo38_2 h)<|Cr [3] (fun _ h => lh Tryz.isAgg9 h)<|Cr [] (fun H1 hH => by exact opr_call rfl rfl Tryz.call26 rfl (rFind_t q1 _ hm.1))<|Cr [] (fun H1 hH => by exact x_index_pad rfl so22 rfl rfl (by omega) (by exact Int.toNat_natCast _) hi2 rfl)<|Cr [] (fun H1 hH => by exact opd_loadn_pad rfl Tryz.isAgg36 Tryz.sizeOf36 rfl hi2 (by simp only [Zl, encObj]; rfl) rfl)<|Cp [10] (fun H1 hH => by exact x_alloc (id := 10) rfl zo36 rfl ((hH _ rfl).trans rfl))<|Cp [10] (fun H1 hH => by exact x_store_all rfl Tryz.sizeOf36 rfl rfl rfl rfl ((hH _ rfl).trans rfl) rfl rfl rfl) ?_
 refine dc_nil ⟨by kernel_rfl, ?_⟩
 refine Sq ?_
 refine awp_drawc follows ?_
 refine Cp [99] (fun H1 hH => by exact x_buildSlice_own (id := 99) rfl so33 rfl rfl rfl rfl (by simp) ((hH _ rfl).trans rfl))<|Cr [8] (fun _ h => fh fo36_3 h)<|Cr [8] (fun _ h => lh Tryz.isAgg33 h)<|Cp [99] (fun H1 hH => by exact x_append rfl so33 ei9 rfl ((hH _ rfl).trans rfl) rfl rfl rfl rfl rfl (strO_rl _) (List.length_map _) (by omega) (Nat.zero_add _) (by rw [← rows_of]; rfl : _ = strN o.refs))<|Cr [10] (fun _ h => fh fo36_3 h)<|Cr [10] (fun _ h => lh Tryz.isAgg33 h)<|Cr [] (fun H1 hH => by exact x_slice_sl (l := 1) (h := (x.refs.map encStr).length) (rows' := (x.refs.drop 1).map encStr) rfl so33 rfl (strO_rl x.refs) rfl rfl (by omega) (Nat.le_refl _) (by rw [List.take_length]; exact List.map_drop.symm))<|Cp [99] (fun H1 hH => by exact x_append rfl so33 ei9 rfl ((hH _ rfl).trans rfl) rfl rfl rfl (List.length_map _) rfl (strO_rl _) (List.length_map _) (by omega) List.length_append.symm (by rw [← rows_of]; exact List.map_append.symm : _ = strN (o.refs ++ x.refs.drop 1))) ?_
 refine Cr [99] (fun _ _ => as') ?_
 refine dc_nil ⟨by kernel_rfl, ?_⟩
 refine Sq<|Sq ?_
 refine AWp.ent (Ent.fz (id := 99) (E' := [(2, .ref 2 0 0 0), (3, .ref 3 0 0 0), (8, .ref 8 0 0 0), (10, .ref 10 0 0 0), (11, .pv (slStrs (o.refs ++ x.refs.drop 1)))]) (H' := [(10, bx 6 36 ((encObj x).map .pv)), (8, bx 6 36 ((encObj o).map .pv)), (3, bx 15 38 ((encEdit e).map .pv)), (2, bx 1 24 [.pv (slObjs m)])]) ((o.refs ++ x.refs.drop 1).map encStr) rfl (rows_of encStr _)
  (by intro p hp; simp only [List.mem_cons, List.not_mem_nil, or_false] at hp; rcases hp with rfl | rfl | rfl | rfl | rfl; exact ⟨_, rfl, .same (.ref rfl)⟩; exact ⟨_, rfl, .same (.ref rfl)⟩; exact ⟨_, rfl, .same (.ref rfl)⟩; exact ⟨_, rfl, .same (.ref rfl)⟩; exact ⟨_, rfl, .osl (takeStr _ rfl)⟩) rfl ⟨⟨_, rfl, rfl⟩, (by (simp; done)), ⟨_, rfl, rfl⟩, (by (simp; done)), ⟨_, rfl, rfl⟩, (by (simp; done)), ⟨_, rfl, rfl⟩, (by (simp; done)), trivial⟩ trivial) ?_
 refine Rg<|Dd mv'<|Dd (fr' fo36_3)<|Dd (l1' Tryz.isAgg33)<|Dd (by exact x_index_pad rfl so33 rfl rfl (by omega) (show (0 : Int).toNat = 0 by rfl) hsf1 rfl)<|Dd (lp' Tryz.isAgg9 (hi := hsf1))<|Dd (by exact opr_call rfl rfl Tryz.call34 rfl (at21_c (o.refs ++ x.refs.drop 1) sf _ hal))<|Dd lss'<|Zz ?_
 refine Cn (fun hc39 => ?_) fun hc39 => ?_
 ·skip
  rw [if_pos hc39]
  refine Sq<|Rg<|Dd as'<|Dd as'<|Zz<|awp_ret ?_
  refine Ru ?_
  exact ⟨rfl, rfl⟩
 skip
 rw [if_neg (by rw [hc39]; decide)]
 obtain ⟨k0, hk0⟩ : ∃ k0, k0 = (o.tags.map GTag.key).foldl rIns [] := ⟨_, rfl⟩
 have hk0l : k0.length ≤ 60 := by
  have := insAll_len (o.tags.map GTag.key) []
  rw [← hk0, List.length_map] at this
  have h5 : ([] : List ByteArray).length = 0 := rfl
  omega
 refine awp_skip<|Sq ?_
 refine awp_drawc follows ?_
 refine Cr [3] (fun _ h => fh fo38_1 h)<|Cr [3] (fun _ h => lh Tryz.isAgg9 h)<|Cr [10] (fun _ h => fh fo36_3 h)<|Cr [10] (fun _ h => lh Tryz.isAgg33 h)<|Cr [] (fun H1 hH => by exact x_index_pad rfl so33 rfl rfl (by omega) (show (0 : Int).toNat = 0 by rfl) hsf1 rfl)<|Cr [] (fun _ _ => (lp' Tryz.isAgg9 (hi := hsf1)))<|Cr [3] (fun _ h => fh fo38_2 h)<|Cr [3] (fun _ h => lh Tryz.isAgg9 h)<|Cr [] (fun _ _ => (bu' bo38))<|Cp [123] (fun H1 hH => by exact x_buildSlice_own (id := 123) rfl so25 rfl rfl rfl rfl (fun r hr => by rw [List.mem_singleton] at hr; subst hr; rfl) ((hH _ rfl).trans rfl))<|Cr [123] (fun _ _ => as') ?_
 refine dc_nil ⟨by kernel_rfl, ?_⟩
 refine Sq<|Rg<|Dd as'<|Zz<|Sq<|Sq<|Rg<|Dd as'<|Zz<|awp_block ?_
 refine awp_loop (σ := Nat) (fun j => ([(3, .ref 3 0 0 0), (8, .ref 8 0 0 0), (10, .ref 10 0 0 0), (12, .osl 123 0 0 1), (13, .pv (slStrs (((o.tags.take j).map GTag.key).foldl rIns []))), (14, iv (j : Int))], [(123, ⟨0, 15, 38, edRows [apSplit e sf]⟩), (10, bx 6 36 ((encObj x).map .pv)), (8, bx 6 36 ((encObj o).map .pv)), (3, bx 15 38 ((encEdit e).map .pv))])) (fun j => j ≤ o.tags.length) (fun j => o.tags.length - j) 0 (by omega) ?_ ?_
 ·exact Wk
 intro j hj
 have hkj : (((o.tags.take j).map GTag.key).foldl rIns []).length ≤ 60 := by
  have := insAll_len ((o.tags.take j).map GTag.key) []
  rw [List.length_map, List.length_take] at this
  have h5 : ([] : List ByteArray).length = 0 := rfl
  omega
 refine Sq<|Sq<|Rg<|Dd mv'<|Dd (fr' fo36_4)<|Dd (l1' Tryz.isAgg34)<|Dd (ll' Tryz.underlying34)<|Dd lss'<|Zz ?_
 refine Cn (fun hc40 => ?_) fun hc40 => ?_
 ·skip
  have hlt : j < o.tags.length := by have := of_decide_eq_true hc40; omega
  obtain ⟨t, ht⟩ := get_of_lt hlt
  have hj1 := map_get (f := encTag) ht
  have hsn := keys_snoc ht []
  refine awp_skip<|Sq<|awp_block<|Rg<|Dd mv'<|Dd (fr' fo36_4)<|Dd (l1' Tryz.isAgg34)<|Dd mv'<|Dd (by exact x_index_pad rfl so34 rfl rfl (by omega) (by exact Int.toNat_natCast _) hj1 rfl)<|Dd (fp' fo67_0)<|Dd (lp' Tryz.isAgg9 (hi := hj1))<|Dd (by exact opr_call rfl rfl Tryz.call35 rfl (insert21_c (((o.tags.take j).map GTag.key).foldl rIns []) t.key _ (by omega)))<|Dd as'<|Zz<|Rg<|Dd mv'<|Dd ad'<|Dd as'<|Zz ?_
  refine ⟨j + 1, by omega, by omega, ?_⟩
  rw [hsn]
  exact Wk
 skip
 have hge : j = o.tags.length := by have := of_decide_eq_false hc40; omega
 subst hge
 rw [List.take_length, ← hk0]
 refine awp_exit<|Sq<|Sq<|Rg<|Dd as'<|Zz<|awp_block ?_
 refine awp_loop (σ := Nat) (fun j => ([(3, .ref 3 0 0 0), (8, .ref 8 0 0 0), (10, .ref 10 0 0 0), (12, .osl 123 0 0 1), (13, .pv (slStrs (((x.tags.take j).map GTag.key).foldl rIns k0))), (15, iv (j : Int))], [(123, ⟨0, 15, 38, edRows [apSplit e sf]⟩), (10, bx 6 36 ((encObj x).map .pv)), (8, bx 6 36 ((encObj o).map .pv)), (3, bx 15 38 ((encEdit e).map .pv))])) (fun j => j ≤ x.tags.length) (fun j => x.tags.length - j) 0 (by omega) ?_ ?_
 ·exact Wk
 intro j hj
 have hkj : (((x.tags.take j).map GTag.key).foldl rIns k0).length ≤ 120 := by
  have := insAll_len ((x.tags.take j).map GTag.key) k0
  rw [List.length_map, List.length_take] at this
  omega
 refine Sq<|Sq<|Rg<|Dd mv'<|Dd (fr' fo36_4)<|Dd (l1' Tryz.isAgg34)<|Dd (ll' Tryz.underlying34)<|Dd lss'<|Zz ?_
 refine Cn (fun hc41 => ?_) fun hc41 => ?_
 ·skip
  have hlt : j < x.tags.length := by have := of_decide_eq_true hc41; omega
  obtain ⟨t, ht⟩ := get_of_lt hlt
  have hj1 := map_get (f := encTag) ht
  have hsn := keys_snoc ht k0
  refine awp_skip<|Sq<|awp_block<|Rg<|Dd mv'<|Dd (fr' fo36_4)<|Dd (l1' Tryz.isAgg34)<|Dd mv'<|Dd (by exact x_index_pad rfl so34 rfl rfl (by omega) (by exact Int.toNat_natCast _) hj1 rfl)<|Dd (fp' fo67_0)<|Dd (lp' Tryz.isAgg9 (hi := hj1))<|Dd (by exact opr_call rfl rfl Tryz.call35 rfl (insert21_c (((x.tags.take j).map GTag.key).foldl rIns k0) t.key _ (by omega)))<|Dd as'<|Zz<|Rg<|Dd mv'<|Dd ad'<|Dd as'<|Zz ?_
  refine ⟨j + 1, by omega, by omega, ?_⟩
  rw [hsn]
  exact Wk
 skip
 have hge : j = x.tags.length := by have := of_decide_eq_false hc41; omega
 subst hge
 rw [List.take_length]
 have hks0 : (x.tags.map GTag.key).foldl rIns k0 = ((o.tags ++ x.tags).map GTag.key).foldl rIns [] := by rw [List.map_append, List.foldl_append, hk0]
 rw [List.take_length, hks0] at hkj
 rw [hks0]
 obtain ⟨ks, hks⟩ : ∃ ks, ks = ((o.tags ++ x.tags).map GTag.key).foldl rIns [] := ⟨_, rfl⟩
 rw [← hks] at hkj ⊢
 have hksm : (ks.map encStr).length = ks.length := List.length_map _
 refine awp_exit<|Sq<|Rg<|Dd (by exact opd_assign_own (id := 916) (sz := 15) (ty := 38) rfl rfl rfl)<|Zz<|Sq<|Sq<|Rg<|Dd as'<|Zz<|awp_block ?_
 refine awp_loop3 (fun (j : Nat) (g1 : Nat) (g2 : Nat) => ([(3, .ref 3 0 0 0), (8, .ref 8 0 0 0), (10, .ref 10 0 0 0), (12, .osl 123 g1 0 (apOut e o.tags x.tags sf (ks.take j)).length), (13, .pv (slStrs ks)), (16, .osl 916 g2 0 (apSets e o.tags x.tags (ks.take j)).length), (17, iv (j : Int))], [(123, ⟨g1, 15, 38, edRows (apOut e o.tags x.tags sf (ks.take j))⟩), (916, ⟨g2, 15, 38, edRows (apSets e o.tags x.tags (ks.take j))⟩), (10, bx 6 36 ((encObj x).map .pv)), (8, bx 6 36 ((encObj o).map .pv)), (3, bx 15 38 ((encEdit e).map .pv))])) (fun j g1 g2 => j ≤ ks.length) (fun j g1 g2 => ks.length - j) 0 0 0 (by omega) ?_ ?_
 ·exact Wk
 rintro j g1 g2 hj
 have ho1 := apOut_len e o.tags x.tags sf (ks.take j)
 have ho2 := apSets_len e o.tags x.tags (ks.take j)
 have ho3 : (ks.take j).length ≤ ks.length := by rw [List.length_take]; omega
 refine Sq<|Sq<|Rg<|Dd mv'<|Dd mv'<|Dd (ll' Tryz.underlying33)<|Dd lss'<|Zz ?_
 refine Cn (fun hc42 => ?_) fun hc42 => ?_
 ·skip
  have hjl : j < ks.length := by have := of_decide_eq_true hc42; omega
  obtain ⟨s, hs⟩ := get_of_lt hjl
  have hs1 := map_get (f := encStr) hs
  have hsn1 := apOut_snoc (e := e) (a := o.tags) (b := x.tags) (node := sf) hs
  have hsn2 := apSets_snoc (e := e) (a := o.tags) (b := x.tags) hs
  refine awp_skip<|Sq<|awp_block<|Sq ?_
  refine awp_drawc follows ?_
  refine Cq (fr' fo36_4)<|Cq (l1' Tryz.isAgg34)<|Cq mv'<|Cq mv'<|Cq (by exact x_index_pad rfl so33 rfl rfl (by omega) (by exact Int.toNat_natCast _) hs1 rfl)<|Cq (lp' Tryz.isAgg9 (hi := hs1))<|Cq (by exact opr_call rfl rfl Tryz.call33 rfl (rGet_c o.tags s _ hot))<|Cq mv'<|Cq ex'<|Cq ex'<|Cq as'<|Cq as' ?_
  refine dc_nil ⟨by kernel_rfl, ?_⟩
  refine Sq ?_
  refine awp_drawc follows ?_
  refine Cq (fr' fo36_4)<|Cq (l1' Tryz.isAgg34)<|Cq mv'<|Cq mv'<|Cq (by exact x_index_pad rfl so33 rfl rfl (by omega) (by exact Int.toNat_natCast _) hs1 rfl)<|Cq (lp' Tryz.isAgg9 (hi := hs1))<|Cq (by exact opr_call rfl rfl Tryz.call33 rfl (rGet_c x.tags s _ hxt2))<|Cq mv'<|Cq ex'<|Cq ex'<|Cq as'<|Cq as' ?_
  refine dc_nil ⟨by kernel_rfl, ?_⟩
  refine Sq ?_
  refine awp_drawc follows ?_
  refine Cr [3] (fun _ h => fh fo38_2 h)<|Cr [3] (fun _ h => lh Tryz.isAgg9 h)<|Cr [] (fun _ _ => mv')<|Cr [] (fun _ _ => mv')<|Cr [] (fun H1 hH => by exact x_index_pad rfl so33 rfl rfl (by omega) (by exact Int.toNat_natCast _) hs1 rfl)<|Cr [] (fun _ _ => (lp' Tryz.isAgg9 (hi := hs1)))<|Cr [] (fun _ _ => mv')<|Cr [] (fun _ _ => (bu' bo38))<|Cp [22] (fun H1 hH => by exact x_alloc (id := 22) rfl zo38 rfl ((hH _ rfl).trans rfl))<|Cp [22] (fun H1 hH => by exact x_store_all rfl Tryz.sizeOf38 rfl rfl rfl rfl ((hH _ rfl).trans rfl) rfl rfl rfl) ?_
  refine dc_nil ⟨by kernel_rfl, ?_⟩
  refine Sq<|Sq ?_
  refine awp_bool (t := 194) (n := 8) (X := apDrop o.tags x.tags s) ?_ ?_
  ·all_goals refine Dd mv' ?_
   all_goals refine Dd mv' ?_
   all_goals refine Dd sn' ?_
   all_goals refine Dd mv' ?_
   all_goals refine Sp 191 (fun h191 => ?_) fun h191 => ?_
   all_goals try contradiction
   all_goals first | refine Fo ?_ | refine On mv' ?_
   all_goals first | refine Fo ?_ | refine On se' ?_
   all_goals refine Dd pk' ?_
   all_goals refine al_nil ?_
   all_goals (exact ⟨⟨_, rfl, by (show _ = (!decide ((gGet o.tags s).getD sNil = (gGet x.tags s).getD sNil) && decide ((gGet x.tags s).getD sNil = sNil)); rw [h191]; rfl)⟩, rfl, rfl, rfl⟩)
  refine Cn (fun hc43 => ?_) fun hc43 => ?_
  ·skip
   rw [hc43, if_pos rfl] at hsn1
   refine Rg<|Dd mv'<|Dd (by exact opd_loadn_ref rfl Tryz.isAgg38 Tryz.sizeOf38 rfl rfl rfl rfl (by simp only [Zl, encTag, encObj, encStr, encEdit, encInt]; rfl) rfl)<|Dd (by exact x_buildSlice [encEdit (apTag e.other x.tags s)] rfl so25 rfl rfl rfl rfl rfl (by simp [encEdit]))<|Dd (by exact x_append rfl so25 ei38 rfl rfl rfl rfl rfl (List.length_map _) rfl (by simp [encEdit]) (rfl : _ = 1) (by omega) (len_snoc _ (apTag e.other x.tags s)) (List.map_append (l₂ := [apTag e.other x.tags s])).symm)<|Dd as'<|Zz<|Sq ?_
   refine awp_bool (t := 205) (n := 8) (X := apSet o.tags x.tags s) ?_ ?_
   ·all_goals refine Dd mv' ?_
    all_goals refine Dd mv' ?_
    all_goals refine Dd sn' ?_
    all_goals refine Dd mv' ?_
    all_goals refine Sp 202 (fun h202 => ?_) fun h202 => ?_
    all_goals try contradiction
    all_goals first | refine Fo ?_ | refine On mv' ?_
    all_goals first | refine Fo ?_ | refine On sn' ?_
    all_goals refine Dd pk' ?_
    all_goals refine al_nil ?_
    all_goals (exact ⟨⟨_, rfl, by (show _ = (!decide ((gGet o.tags s).getD sNil = (gGet x.tags s).getD sNil) && !decide ((gGet x.tags s).getD sNil = sNil)); rw [h202]; rfl)⟩, rfl, rfl, rfl⟩)
   refine Cn (fun hc44 => ?_) fun hc44 => ?_
   ·skip
    rw [hc44, if_pos rfl] at hsn2
    refine Rg<|Dd mv'<|Dd (by exact opd_loadn_ref rfl Tryz.isAgg38 Tryz.sizeOf38 rfl rfl rfl rfl (by simp only [Zl, encTag, encObj, encStr, encEdit, encInt]; rfl) rfl)<|Dd (by exact x_buildSlice [encEdit (apTag e.other x.tags s)] rfl so25 rfl rfl rfl rfl rfl (by simp [encEdit]))<|Dd (by exact x_append rfl so25 ei38 rfl rfl rfl rfl rfl (List.length_map _) rfl (by simp [encEdit]) (rfl : _ = 1) (by omega) (len_snoc _ (apTag e.other x.tags s)) (List.map_append (l₂ := [apTag e.other x.tags s])).symm)<|Dd as'<|Zz<|Rg<|Dd mv'<|Dd ad'<|Dd as'<|Zz ?_
    refine ⟨j + 1, g1 + 1, g2 + 1, by omega, by omega, ?_⟩
    rw [hsn1, hsn2]
    exact (Ent.wk ⟨⟨_, rfl, rfl⟩, (by (simp; rfl)), ⟨_, rfl, rfl⟩, (by (simp; rfl)), ⟨_, rfl, rfl⟩, (by (simp; rfl)), ⟨_, rfl, rfl⟩, (by (simp; rfl)), ⟨_, rfl, rfl⟩, (by (simp; done)), ⟨_, rfl, rfl⟩, (by (simp; rfl)), ⟨_, rfl, rfl⟩, (by (simp; done)), trivial⟩ ⟨⟨_, rfl, rfl⟩, (by exact clo_map _ _ _), ⟨_, rfl, rfl⟩, (by exact clo_map _ _ _), ⟨_, rfl, rfl⟩, (by (simp; done)), ⟨_, rfl, rfl⟩, (by (simp; done)), ⟨_, rfl, rfl⟩, (by (simp; done)), trivial⟩ trivial)
   skip
   rw [hc44, if_neg (by decide), List.append_nil] at hsn2
   refine awp_skip<|Rg<|Dd mv'<|Dd ad'<|Dd as'<|Zz ?_
   refine ⟨j + 1, g1 + 1, g2, by omega, by omega, ?_⟩
   rw [hsn1, hsn2]
   exact (Ent.wk ⟨⟨_, rfl, rfl⟩, (by (simp; rfl)), ⟨_, rfl, rfl⟩, (by (simp; rfl)), ⟨_, rfl, rfl⟩, (by (simp; rfl)), ⟨_, rfl, rfl⟩, (by (simp; rfl)), ⟨_, rfl, rfl⟩, (by (simp; done)), ⟨_, rfl, rfl⟩, (by (simp; rfl)), ⟨_, rfl, rfl⟩, (by (simp; done)), trivial⟩ ⟨⟨_, rfl, rfl⟩, (by exact clo_map _ _ _), ⟨_, rfl, rfl⟩, (by (simp; done)), ⟨_, rfl, rfl⟩, (by (simp; done)), ⟨_, rfl, rfl⟩, (by (simp; done)), ⟨_, rfl, rfl⟩, (by (simp; done)), trivial⟩ trivial)
  skip
  rw [hc43, if_neg (by decide), List.append_nil] at hsn1
  refine awp_skip<|Sq ?_
  refine awp_bool (t := 205) (n := 8) (X := apSet o.tags x.tags s) ?_ ?_
  ·all_goals refine Dd mv' ?_
   all_goals refine Dd mv' ?_
   all_goals refine Dd sn' ?_
   all_goals refine Dd mv' ?_
   all_goals refine Sp 202 (fun h202 => ?_) fun h202 => ?_
   all_goals try contradiction
   all_goals first | refine Fo ?_ | refine On mv' ?_
   all_goals first | refine Fo ?_ | refine On sn' ?_
   all_goals refine Dd pk' ?_
   all_goals refine al_nil ?_
   all_goals (exact ⟨⟨_, rfl, by (show _ = (!decide ((gGet o.tags s).getD sNil = (gGet x.tags s).getD sNil) && !decide ((gGet x.tags s).getD sNil = sNil)); rw [h202]; rfl)⟩, rfl, rfl, rfl⟩)
  refine Cn (fun hc45 => ?_) fun hc45 => ?_
  ·skip
   rw [hc45, if_pos rfl] at hsn2
   refine Rg<|Dd mv'<|Dd (by exact opd_loadn_ref rfl Tryz.isAgg38 Tryz.sizeOf38 rfl rfl rfl rfl (by simp only [Zl, encTag, encObj, encStr, encEdit, encInt]; rfl) rfl)<|Dd (by exact x_buildSlice [encEdit (apTag e.other x.tags s)] rfl so25 rfl rfl rfl rfl rfl (by simp [encEdit]))<|Dd (by exact x_append rfl so25 ei38 rfl rfl rfl rfl rfl (List.length_map _) rfl (by simp [encEdit]) (rfl : _ = 1) (by omega) (len_snoc _ (apTag e.other x.tags s)) (List.map_append (l₂ := [apTag e.other x.tags s])).symm)<|Dd as'<|Zz<|Rg<|Dd mv'<|Dd ad'<|Dd as'<|Zz ?_
   refine ⟨j + 1, g1, g2 + 1, by omega, by omega, ?_⟩
   rw [hsn1, hsn2]
   exact (Ent.wk ⟨⟨_, rfl, rfl⟩, (by (simp; rfl)), ⟨_, rfl, rfl⟩, (by (simp; rfl)), ⟨_, rfl, rfl⟩, (by (simp; rfl)), ⟨_, rfl, rfl⟩, (by (simp; rfl)), ⟨_, rfl, rfl⟩, (by (simp; done)), ⟨_, rfl, rfl⟩, (by (simp; rfl)), ⟨_, rfl, rfl⟩, (by (simp; done)), trivial⟩ ⟨⟨_, rfl, rfl⟩, (by (simp; done)), ⟨_, rfl, rfl⟩, (by exact clo_map _ _ _), ⟨_, rfl, rfl⟩, (by (simp; done)), ⟨_, rfl, rfl⟩, (by (simp; done)), ⟨_, rfl, rfl⟩, (by (simp; done)), trivial⟩ trivial)
  skip
  rw [hc45, if_neg (by decide), List.append_nil] at hsn2
  refine awp_skip<|Rg<|Dd mv'<|Dd ad'<|Dd as'<|Zz ?_
  refine ⟨j + 1, g1, g2, by omega, by omega, ?_⟩
  rw [hsn1, hsn2]
  exact Wk
 skip
 have hge2 : j = ks.length := by have := of_decide_eq_false hc42; omega
 subst hge2
 rw [List.take_length] at ho1 ho2 ⊢
 refine awp_exit<|Sq<|Rg<|Dd mv'<|Dd mv'<|Dd (by exact x_append_osl rfl so25 ei38 rfl rfl rfl rfl rfl (List.length_map _) rfl rfl rfl rfl (edE_rl _) (by rw [List.length_map, Nat.zero_add]; exact Nat.le_refl _) (by omega) List.length_append.symm (by rw [tkEd rfl]; exact List.map_append.symm : _ = edRows (apOut e o.tags x.tags sf ks ++ apSets e o.tags x.tags ks)))<|Dd as'<|Dd as'<|Zz<|awp_ret ?_
 refine aret2 (H' := []) (.inr rfl) rfl (rval_tmp rfl) (rval_tmp rfl) (Fin.tupE (id := 123) (apOut e o.tags x.tags sf ks ++ apSets e o.tags x.tags ks) 0 rfl rfl rfl rfl) ?_
 exact ⟨rfl, rfl⟩
end Go.Proofs.YtbbnllojhjlaoaaGreat
end
