/-
  CONTRACTS: atlas.valid, at, Put, Drop. Conditions: lengths below 2^40.
  PLAIN: a map with an object put in: valid, in order, and the same views. Conditions: none.
  A nil SLICE THAT IS HANDED ON AS nil; slices that are made shorter; a call's contract at a small heap, used in a greater one.
  Conditions: each rule's own premises.
  CONTRACTS: slices.Index, Contains at strings and ints, Clone and Concat at strings; package edit: inner, referred, get. Conditions: lengths below 2^40.
  CONTRACTS: package edit: referred, get. Conditions: lengths below 2^40.
  CONTRACTS: slices.Clone, Grow, Concat at strings: what is returned never changes. Conditions: lengths below 2^40.
  CONTRACTS: atlas.Drop; package edit: split, join. Conditions: lengths below 2^40.
  CONTRACTS: package edit: join. Conditions: lengths below 2^40.
  CONTRACTS: package edit: perform. Conditions: lengths below 2^39.
  CONTRACTS: package edit: perform, the other operations. Conditions: lengths below 2^39.
  PLAIN: what a valid object's lists are at most; the sizes of what an edit puts. CONTRACT: perform. Conditions: sizes.
  CONTRACTS: package edit: after, Apply. Conditions: lengths below 2^39.
-/
import Derived.Test.YtbbnllojhjlaoaaGreatKO1M5
section
set_option linter.unusedVariables false
set_option linter.unusedSimpArgs false
set_option maxRecDepth 100000
namespace Go.Proofs.YtbbnllojhjlaoaaGreat
open Go.Abs
def encMap (m : List GObj) : List PV := [slObjs m]
/-- slices.IndexFunc at planisphere/api.Map. -/
theorem indexFunc_Map (fv : AV) (l : List (List GObj)) (p : (List GObj) → Bool) (H : Heap) (hl : l.length < 4611686018427387904) (hf : ∀ o, o ∈ l → CallsV Tryz.prog fv [.agg ((encMap o).map .pv)] H (fun r H' => r = .pv (.bool (p o)) ∧ H' = H)) :
    ACalls Tryz.prog 145 [.pv (.sl (l.map encMap)), fv] H (fun r H' => r = .pv (.int .i64 (gidx p l)) ∧ H' = H) := by
  refine Bd Tryz.func145 rfl Tryz.ntmps145<|Sq<|Rg<|Dd as'<|Zz<|Sq<|Sq<|Rg<|Dd mv'<|Dd (ll' Tryz.underlying152)<|Dd mv'<|Zz<|awp_block ?_
  refine awp_loop (σ := Nat) (fun k => ([(0, .pv (.sl (l.map encMap))), (1, fv), (7, .pv (.int .i64 (l.map encMap).length)), (8, .pv (.int .i64 (k : Int)))], H)) (fun k => k ≤ l.length ∧ ∀ j, j < k → ∀ b, l[j]? = some b → p b = false) (fun k => l.length - k) 0 ⟨by omega, by omega⟩ ?_ ?_
  · exact E0
  · rintro k ⟨hk, hno⟩
    refine Sq<|Rg<|Dd lss'<|Zz<|Sq ?_
    refine Cn (fun hc1 => ?_) fun hc1 => ?_
    · have hlt : k < l.length := by simpa using hc1
      obtain ⟨o, ho⟩ := get_of_lt hlt
      have hi := map_get (f := encMap) ho
      have hfo := hf o (List.mem_of_getElem? ho)
      refine awp_skip<|Sq<|awp_block<|Sq<|Rg<|Dd mv'<|Dd as'<|Zz<|Sq<|Rg<|Dd mv'<|Dd mv'<|Dd mv'<|Dd (xp' so152)<|Dd (by exact opd_loadn_pad rfl Tryz.isAgg24 Tryz.sizeOf24 rfl (by omega) (by simp only [Zl, encMap]; rfl) rfl)<|Dd (by exact opr_callV rfl rfl rfl (hfo))<|Zz ?_
      refine Cn (fun hc2 => ?_) fun hc2 => ?_
      · skip
        refine Sq<|Rg<|Dd mv'<|Dd as'<|Zz<|awp_ret ?_
        exact aret1 (H' := H) (.inr rfl) rfl (rval_tmp rfl) Fin.refl ⟨by rw [gidx, fidx_some hno ho hc2], rfl⟩
      · skip
        refine awp_skip<|Rg<|Dd ad'<|Dd mv'<|Zz ?_
        refine ⟨k + 1, ⟨by omega, fun j hj b hb => ?_⟩, by omega, E0⟩
        by_cases e : j = k
        · subst e; rw [ho] at hb; cases hb; exact hc2
        · exact hno j (by omega) b hb
    · have hge : k = l.length := by have : l.length ≤ k := by simpa using hc1
                                    omega
      subst hge
      refine awp_exit<|Sq<|Rg<|Dd as'<|Zz<|awp_ret ?_
      exact aret1 (H' := H) (.inr rfl) rfl (rval_tmp rfl) Fin.refl ⟨by rw [gidx, fidx_none hno], rfl⟩
/-- slices.ContainsFunc at planisphere/api.Map. -/
theorem containsFunc_Map (fv : AV) (l : List (List GObj)) (p : (List GObj) → Bool) (H : Heap) (hl : l.length < 4611686018427387904) (hf : ∀ H, ∀ o, o ∈ l → CallsV Tryz.prog fv [.agg ((encMap o).map .pv)] H (fun r H' => r = .pv (.bool (p o)) ∧ H' = H)) :
  ACalls Tryz.prog 129 [.pv (.sl (l.map encMap)), fv] H (fun r H' => r = bv (l.any p) ∧ H' = H) := by
 refine Bd Tryz.func129 rfl Tryz.ntmps129<|Sq<|Rg<|Dd as'<|Zz<|Sq<|Rg<|Dd mv'<|Dd mv'<|Dd (by exact opr_call rfl rfl Tryz.call145 rfl (indexFunc_Map fv l p _ hl (hf _)))<|Dd ge'<|Dd as'<|Zz<|awp_ret ?_
 refine aret1 (H' := H) (.inr rfl) rfl (rval_tmp rfl) Fin.refl ?_
 exact ⟨by rw [← gidx_any], rfl⟩
theorem valids1_c (m : List GObj) (H : Heap) (hm : okM m) : ACalls Tryz.prog 130 [.agg ((encMap m).map .pv)] H (fun r H' => r = bv (!gMap m) ∧ H' = H) := by
 refine ACalls.pure ?_ (by simp [encMap]) H
 refine Bd Tryz.func130 rfl Tryz.ntmps130<|Sq<|Rg<|Dd (by exact opd_box (id := 1) rfl rfl rfl rfl rfl)<|Dd as'<|Zz<|Sq<|Rg<|Dd (by exact opd_loadn_ref rfl Tryz.isAgg24 Tryz.sizeOf24 rfl rfl rfl rfl (by simp only [Zl, encObj]; rfl) rfl)<|Dd (by exact opr_call rfl rfl Tryz.call50 rfl (atlasValid_c m _ hm))<|Dd no'<|Dd as'<|Zz<|awp_ret ?_
 refine Rt ?_
 exact ⟨rfl, rfl⟩
theorem valids_c (l : List (List GObj)) (H : Heap) (hl : l.length < 4611686018427387904) (hm : ∀ m, m ∈ l → okM m) : ACalls Tryz.prog 90 [.pv (.sl (l.map encMap))] H (fun r H' => r = bv (l.all gMap) ∧ H' = H) := by
 refine ACalls.pure ?_ (by simp) H
 refine Bd Tryz.func90 rfl Tryz.ntmps90<|Sq<|Rg<|Dd as'<|Zz<|Sq<|Rg<|Dd mv'<|Dd (by exact opr_call rfl rfl Tryz.call129 rfl (containsFunc_Map (.pv (.fn 130)) l (fun m => !gMap m) _ hl (fun H o ho => CallsV.fn Tryz.call130 (valids1_c o H (hm o ho)))))<|Dd no'<|Dd as'<|Zz<|awp_ret ?_
 refine Rt ?_
 exact ⟨by rw [List.any_eq_not_all_not]; simp, rfl⟩
theorem at1_c (o : GObj) (s : ByteArray) (H : Heap) : ACalls Tryz.prog 132 [av (encObj o), sv s] H (fun r H' => r = iv (gCmp o.id s) ∧ H' = H) := by
 refine ACalls.pure ?_ (by simp) H
 refine Bd Tryz.func132 rfl Tryz.ntmps132<|Sq<|Rg<|Dd (by exact opd_box (id := 2) rfl rfl rfl rfl rfl)<|Dd as'<|Zz<|Sq<|Rg<|Dd (fr' fo36_0)<|Dd (l1' Tryz.isAgg9)<|Dd mv'<|Dd (by exact opr_call rfl rfl Tryz.call121 rfl (compare_c o.id s _))<|Dd as'<|Zz<|awp_ret ?_
 refine Rt ?_
 exact ⟨rfl, rfl⟩
theorem at_c (m : List GObj) (s : ByteArray) (H : Heap) (hl : m.length < 1099511627776) (hu : ups m) : ACalls Tryz.prog 91 [.agg [.pv (slObjs m)], sv s] H (fun r H' => r = .tup [iv (lbI GObj.id m s : Nat), bv (hasK GObj.id m s)] ∧ H' = H) := by
 refine ACalls.pure ?_ (by simp) H
 refine Bd Tryz.func91 rfl Tryz.ntmps91<|Sq<|Rg<|Dd (by exact opd_box (id := 2) rfl rfl rfl rfl rfl)<|Dd as'<|Dd as'<|Zz<|Sq<|Rg<|Dd (fr' fo24_0)<|Dd (l1' Tryz.isAgg22)<|Dd mv'<|Dd (by exact opr_call rfl rfl Tryz.call131 rfl (bsf_GObj (.pv (.fn 132)) m s _ hl hu (fun o ho => CallsV.fn Tryz.call132 (at1_c o s _))))<|Dd ex'<|Dd ex'<|Dd as'<|Dd as'<|Zz<|awp_ret ?_
 refine Ru ?_
 exact ⟨rfl, rfl⟩
theorem encObj_rl (l : List GObj) : ∀ r ∈ l.map encObj, r.length = 6 := fun r hr => by
 obtain ⟨t, _, rfl⟩ := List.mem_map.1 hr
 rfl
/-- A map with an object in it. -/
def gWith (m : List GObj) (o : GObj) : List GObj := if hasK GObj.id m o.id then m.set (lbI GObj.id m o.id) o else m.take (lbI GObj.id m o.id) ++ o :: m.drop (lbI GObj.id m o.id)
def gPutM (m : List GObj) (o : GObj) : List GObj × Int :=
 if !gMap m || !gObj o then ([], 1) else if !hasK GObj.id m o.id && decide (m.length = 1000000) then ([], 2) else (gWith m o, 0)
/-- A map out of an owned slice and another value are returned. -/
theorem Fin.map1 {H1 : Heap} {id g n : Nat} {x : AV} {ob : Ob} (ps : List (List PV)) (hH : H1.get id = some ob) (hg : ob.g = g) (hps : ob.rows = ps.map (·.map .pv)) (hn : ps.length = n) (hx : Clo [] x) :
  Fin [] H1 (.tup [.agg [.osl id g 0 n], x]) [] (.tup [.agg [.pv (.sl ps)], x]) := by
 subst hg hn
 exact Fin.fz (id := id) (ob := ob) ps hH hps (.tup rfl (fz_cons (.agg rfl (fz_cons (.osl (by rw [Nat.zero_add, List.drop_zero, List.take_length])) fz_nil)) (fz_cons (.same hx) fz_nil))) rfl trivial trivial
theorem putM_c (m : List GObj) (o : GObj) (H : Heap) (hm : okM m) (ho : okO o) (hl : m.length < 1099511627776) : ACalls Tryz.prog 53 [.agg [.pv (slObjs m)], av (encObj o)] H (fun r H' => r = .tup [.agg [.pv (slObjs (gPutM m o).1)], iv (gPutM m o).2] ∧ H' = H) := by
 refine ACalls.pure ?_ (by simp) H
 have hml : (m.map encObj).length = m.length := List.length_map _
 have hrl := encObj_rl m
 have hv := fun H => valids_c [m] H (by show 1 < _; omega) (by intro x hx; rw [List.mem_singleton] at hx; subst hx; exact hm)
 rw [show ([m].all gMap) = gMap m by simp] at hv
 refine Bd Tryz.func53 rfl Tryz.ntmps53<|Sq<|Rg<|Dd (by exact opd_box (id := 2) rfl rfl rfl rfl rfl)<|Dd (by exact opd_box (id := 3) rfl rfl rfl rfl rfl)<|Dd (by exact x_alloc (id := 4) rfl zoN24 rfl rfl)<|Dd as'<|Zz<|Sq<|Sq ?_
 refine awp_bool (t := 17) (n := 10) (X := !gMap m || !gObj o) ?_ ?_
 ·all_goals refine Dd (by exact opd_loadn_ref rfl Tryz.isAgg24 Tryz.sizeOf24 rfl rfl rfl rfl (by simp only [Zl, encObj]; rfl) rfl) ?_
  all_goals refine Dd (by exact x_buildSlice ([m].map encMap) rfl so152 rfl rfl rfl rfl rfl (by simp [encMap])) ?_
  all_goals refine Dd (by exact opr_call rfl rfl Tryz.call90 rfl (hv _)) ?_
  all_goals refine Dd no' ?_
  all_goals refine Dd mv' ?_
  all_goals refine Sp 13 (fun h13 => ?_) fun h13 => ?_
  all_goals try contradiction
  all_goals first | refine Fo ?_ | refine On (by exact opd_loadn_ref rfl Tryz.isAgg36 Tryz.sizeOf36 rfl rfl rfl rfl (by simp only [Zl, encObj]; rfl) rfl) ?_
  all_goals first | refine Fo ?_ | refine On (by exact opr_call rfl rfl Tryz.call39 rfl (objValid_c o _ ho)) ?_
  all_goals first | refine Fo ?_ | refine On no' ?_
  all_goals refine Dd pk' ?_
  all_goals refine al_nil ?_
  all_goals (exact ⟨⟨_, rfl, by (simp only [*, Zo]; done)⟩, rfl, rfl, rfl⟩)
 refine Cn (fun hc1 => ?_) fun hc1 => ?_
 ·have e : gPutM m o = ([], 1) := by rw [gPutM, if_pos hc1]
  rw [e]
  refine Sq<|Rg<|Dd (bu' bo24)<|Uu (sa' Tryz.sizeOf24)<|Dd as'<|Zz<|awp_ret ?_
  refine aret2 (H' := []) (.inr rfl) rfl (rval_cell rfl Tryz.isAgg24 Tryz.sizeOf24 rfl rfl rfl (by simp only [Zl, encObj]; rfl) rfl) (rval_tmp rfl) (Fin.wk (by simp) trivial trivial) ?_
  exact ⟨rfl, rfl⟩
 have hg : gMap m = true := by
  have h := hc1
  revert h
  cases gMap m <;> simp
 have hu := (gMap_iff.1 hg).2.1
 have hle := lbI_le GObj.id m o.id
 have hgp : gPutM m o = if !hasK GObj.id m o.id && decide (m.length = 1000000) then ([], 2) else (gWith m o, 0) := by rw [gPutM, if_neg (by rw [hc1]; simp)]
 obtain ⟨i, hi0⟩ : ∃ i, i = lbI GObj.id m o.id := ⟨_, rfl⟩
 rw [gWith, ← hi0] at hgp
 rw [← hi0] at hle
 have hat := fun H => at_c m o.id H hl hu
 rw [← hi0] at hat
 refine awp_skip<|Sq<|Rg<|Dd (by exact opd_loadn_ref rfl Tryz.isAgg24 Tryz.sizeOf24 rfl rfl rfl rfl (by simp only [Zl, encObj]; rfl) rfl)<|Dd (fr' fo36_0)<|Dd (l1' Tryz.isAgg9)<|Dd (by exact opr_call rfl rfl Tryz.call91 rfl (hat _))<|Dd mv'<|Dd ex'<|Dd ex'<|Dd as'<|Dd as'<|Zz<|Sq<|Rg<|Dd (fr' fo24_0)<|Dd (l1' Tryz.isAgg22)<|Dd (by exact opr_call rfl rfl Tryz.call92 rfl (clone_Obj (m.map encObj) _ (Closed.ofL ⟨(by (simp; done)), (by (simp; done)), (by (simp; done)), trivial⟩) rfl rfl (by omega) hrl))<|Dd (bu' bo24)<|Dd (by exact x_alloc (id := 8) rfl zoN24 rfl rfl)<|Uu (sa' Tryz.sizeOf24)<|Zz<|Sq<|awp_block<|Sq<|Rg<|Dd mv'<|Dd as'<|Zz ?_
 refine Cn (fun hc2 => ?_) fun hc2 => ?_
 ·have hf : hasK GObj.id m o.id = true := hc2
  obtain ⟨x, hx, hxk⟩ := hasK_get hu hf
  rw [← hi0] at hx
  have hlt := (List.getElem?_eq_some_iff.1 hx).1
  rw [hf] at hgp
  simp only [Bool.not_true, Bool.false_and, Bool.false_eq_true, if_false, if_true] at hgp
  rw [hgp]
  have hir : (pvR (m.map encObj))[i]? = some ((encObj x).map .pv) := by rw [pvR, List.map_map, List.getElem?_map, hx]; rfl
  refine Rg<|Dd (fr' fo24_0)<|Dd (l1' Tryz.isAgg22)<|Dd mv'<|Dd (by exact opd_loadn_ref rfl Tryz.isAgg36 Tryz.sizeOf36 rfl rfl rfl rfl (by simp only [Zl, encObj]; rfl) rfl)<|Dd (by exact x_index_osl rfl so22 rfl rfl rfl rfl rfl (by omega) (by exact Int.toNat_natCast _) (by rw [hml]; exact hlt) (Nat.zero_add _))<|Uu (by exact x_store rfl Tryz.sizeOf36 rfl rfl rfl rfl rfl rfl hir (Nat.le_of_ble_eq_true rfl) rfl rfl)<|Zz<|Sq<|Rg<|Dd (ln' Tryz.isAgg24 Tryz.sizeOf24)<|Uu (sa' Tryz.sizeOf24)<|Dd as'<|Zz<|awp_ret ?_
  refine aret2 (H' := []) (.inr rfl) rfl (rl' Tryz.isAgg24 Tryz.sizeOf24) (rval_tmp rfl) (Fin.map1 (id := 901) ((m.set i o).map encObj) rfl rfl (by rw [List.map_set, List.map_set]; rfl) (by rw [List.length_map, List.length_set, List.length_map]) (by simp)) ?_
  exact ⟨rfl, rfl⟩
 have hf : hasK GObj.id m o.id = false := hc2
 rw [hf] at hgp
 simp only [Bool.not_false, Bool.true_and, Bool.false_eq_true, if_false] at hgp
 refine Sq<|Rg<|Dd (fr' fo24_0)<|Dd (l1' Tryz.isAgg22)<|Dd (ll' Tryz.underlying22)<|Dd eql'<|Dd as'<|Zz ?_
 refine Cn (fun hc3 => ?_) fun hc3 => ?_
 ·have h : m.length = 1000000 := by
   have h := of_decide_eq_true hc3
   omega
  rw [hgp, if_pos (by simp [h])]
  refine Sq<|Rg<|Dd (bu' bo24)<|Uu (sa' Tryz.sizeOf24)<|Dd as'<|Zz<|awp_ret ?_
  refine aret2 (H' := []) (.inr rfl) rfl (rl' Tryz.isAgg24 Tryz.sizeOf24) (rval_tmp rfl) (Fin.wk (by simp) trivial trivial) ?_
  exact ⟨rfl, rfl⟩
 have h : ¬ m.length = 1000000 := by
  have h := of_decide_eq_false hc3
  omega
 rw [hgp, if_neg (by simp [h])]
 refine Rg<|Dd (fr' fo24_0)<|Dd (l1' Tryz.isAgg22)<|Dd mv'<|Dd (by exact opd_loadn_ref rfl Tryz.isAgg36 Tryz.sizeOf36 rfl rfl rfl rfl (by simp only [Zl, encObj]; rfl) rfl)<|Dd (by exact x_buildSlice_own (id := 902) rfl so22 rfl rfl rfl rfl (by intro r hr; rw [List.mem_singleton] at hr; subst hr; rfl) rfl)<|Dd (by exact opr_call rfl rfl Tryz.call93 rfl (insert_Obj (m.map encObj) (encObj o) i 1 _ (Closed.ofL ⟨(by (simp; done)), (by exact clo_osl1 rfl), (by (simp; done)), (by (simp; done)), (by (simp; done)), (by (simp; done)), (by (simp; done)), trivial⟩) rfl rfl rfl (by omega) (by omega) hrl rfl))<|Dd (fr' fo24_0)<|Uu (sa' Tryz.sizeOf22)<|Zz<|Sq<|Rg<|Dd (ln' Tryz.isAgg24 Tryz.sizeOf24)<|Uu (sa' Tryz.sizeOf24)<|Dd as'<|Zz<|awp_ret ?_
 refine aret2 (H' := []) (.inr rfl) rfl (rl' Tryz.isAgg24 Tryz.sizeOf24) (rval_tmp rfl) (Fin.wk (by simp) trivial trivial) ?_
 have hs : slObjs (m.take i ++ o :: m.drop i) = .sl ((m.map encObj).take i ++ encObj o :: (m.map encObj).drop i) := by rw [slObjs, List.map_append, List.map_take, List.map_cons, List.map_drop]
 exact ⟨by rw [hs]; rfl, rfl⟩
end Go.Proofs.YtbbnllojhjlaoaaGreat
end
section
set_option linter.unusedVariables false
set_option linter.unusedSimpArgs false
set_option maxRecDepth 100000
namespace Go.Proofs.YtbbnllojhjlaoaaGreat
open Go.Abs
theorem lbI_lt {α : Type} {f : α → ByteArray} {l : List α} {s : ByteArray} {k : Nat} {o : α} (hk : k < lbI f l s) (ho : l[k]? = some o) : slt (f o) s = true := by
  unfold lbI at hk
  have := List.not_of_lt_findIdx hk
  obtain ⟨h1, h2⟩ := List.getElem?_eq_some_iff.1 ho
  rw [h2] at this
  simpa using this
theorem lbI_ge {α : Type} {f : α → ByteArray} {l : List α} {s : ByteArray} {k : Nat} {o : α} (ha : asc f l) (hk : lbI f l s ≤ k) (ho : l[k]? = some o) : slt (f o) s = false := by
  obtain ⟨h1, h2⟩ := List.getElem?_eq_some_iff.1 ho
  have hlt : lbI f l s < l.length := by omega
  obtain ⟨x, hx⟩ := get_of_lt hlt
  have h0 : slt (f x) s = false := by
    have hp : (fun o => !slt (f o) s) l[lbI f l s] = true := List.findIdx_getElem (p := fun o => !slt (f o) s) (xs := l) (w := hlt)
    rw [(List.getElem?_eq_some_iff.1 hx).2] at hp
    simpa using hp
  by_cases e : lbI f l s = k
  · subst e
    rw [hx] at ho; cases ho
    exact h0
  · cases h : slt (f o) s with
    | false => rfl
    | true =>
      have := slt_trans (asc_get ha (by omega) hx ho) h
      rw [h0] at this; cases this
theorem asc_map {α : Type} {f : α → ByteArray} {l : List α} : asc f l ↔ (l.map f).Pairwise (fun a b => slt a b = true) := by rw [asc, List.pairwise_map]
theorem cut_at {α : Type} {l : List α} {i : Nat} {x : α} (h : l[i]? = some x) : l = l.take i ++ x :: l.drop (i + 1) := by
  obtain ⟨h1, h2⟩ := List.getElem?_eq_some_iff.1 h
  conv => lhs; rw [← List.take_append_drop i l]
  rw [List.drop_eq_getElem_cons h1, h2]
theorem set_cut {α : Type} {l : List α} {i : Nat} {x y : α} (h : l[i]? = some x) : l.set i y = l.take i ++ y :: l.drop (i + 1) := by
  have h1 := (List.getElem?_eq_some_iff.1 h).1
  rw [List.set_eq_take_append_cons_drop, if_pos h1]
theorem asc_ins {α : Type} {f : α → ByteArray} {l : List α} {o : α} (ha : asc f l) (hn : hasK f l (f o) = false) : asc f (l.take (lbI f l (f o)) ++ o :: l.drop (lbI f l (f o))) := by
  have hle := lbI_le f l (f o)
  have hno : ∀ x, x ∈ l → f x ≠ f o := fun x hx e => by
    have : hasK f l (f o) = true := List.any_eq_true.2 ⟨x, hx, decide_eq_true e⟩
    rw [hn] at this; cases this
  have h1 : ∀ x, x ∈ l.take (lbI f l (f o)) → slt (f x) (f o) = true := fun x hx => by
    obtain ⟨k, hk⟩ := List.mem_iff_getElem?.1 hx
    rw [List.getElem?_take] at hk
    split at hk
    · next hlt => exact lbI_lt hlt hk
    · cases hk
  have h2 : ∀ x, x ∈ l.drop (lbI f l (f o)) → slt (f o) (f x) = true := fun x hx => by
    obtain ⟨k, hk⟩ := List.mem_iff_getElem?.1 hx
    rw [List.getElem?_drop] at hk
    have h3 := lbI_ge ha (Nat.le_add_right _ k) hk
    cases h4 : slt (f o) (f x) with
    | true => rfl
    | false => exact absurd (slt_tri h3 h4) (hno x (List.mem_of_getElem? hk))
  rw [asc, List.pairwise_append]
  refine ⟨(List.Pairwise.sublist (List.take_sublist _ _) ha), List.pairwise_cons.2 ⟨h2, List.Pairwise.sublist (List.drop_sublist _ _) ha⟩, fun a hA b hB => ?_⟩
  rcases List.mem_cons.1 hB with rfl | hB
  · exact h1 a hA
  · exact slt_trans (h1 a hA) (h2 b hB)
theorem asc_set {α : Type} {f : α → ByteArray} {l : List α} {i : Nat} {x y : α} (ha : asc f l) (hx : l[i]? = some x) (he : f x = f y) : asc f (l.set i y) := by
  rw [asc_map] at ha ⊢
  have : (l.set i y).map f = l.map f := by
    rw [set_cut (y := y) hx]
    conv => rhs; rw [cut_at hx]
    simp [he]
  rwa [this]
theorem gWith_len (m : List GObj) (o : GObj) : (gWith m o).length = if hasK GObj.id m o.id then m.length else m.length + 1 := by
  have := lbI_le GObj.id m o.id
  unfold gWith
  split
  · rw [List.length_set]
  · rw [List.length_append, List.length_cons, List.length_take, List.length_drop]; omega
theorem gWith_mem {m : List GObj} {o x : GObj} (h : x ∈ gWith m o) : x = o ∨ x ∈ m := by
  unfold gWith at h
  split at h
  · rcases List.mem_or_eq_of_mem_set h with h | h
    · exact .inr h
    · exact .inl h
  · rcases List.mem_append.1 h with h | h
    · exact .inr (List.mem_of_mem_take h)
    · rcases List.mem_cons.1 h with h | h
      · exact .inl h
      · exact .inr (List.mem_of_mem_drop h)
theorem gWith_ups {m : List GObj} {o : GObj} (h : ups m) : ups (gWith m o) := by
  unfold gWith
  split
  · next hf =>
    obtain ⟨x, hx, he⟩ := hasK_get (f := GObj.id) h hf
    exact asc_set (f := GObj.id) h hx he
  · next hf => exact asc_ins (f := GObj.id) h (by simpa using hf)
theorem gMap_with {m : List GObj} {o : GObj} (hm : gMap m = true) (ho : gObj o = true) (hl : (gWith m o).length ≤ 1000000) : gMap (gWith m o) = true := by
  obtain ⟨h1, h2, h3⟩ := gMap_iff.1 hm
  refine gMap_iff.2 ⟨fun x hx => ?_, gWith_ups h2, by omega⟩
  rcases gWith_mem hx with rfl | hx
  · exact ho
  · exact h1 x hx
theorem okM_with {m : List GObj} {o : GObj} (hm : okM m) (ho : okO o) (hl : m.length < 1099511627776) : okM (gWith m o) := by
  refine ⟨by rw [gWith_len]; split <;> omega, fun x hx => ?_⟩
  rcases gWith_mem hx with rfl | hx
  · exact ho
  · exact hm.2 x hx
theorem gPutM_len {m : List GObj} {o : GObj} (h : (gPutM m o).2 = 0) : gMap m = true ∧ gObj o = true ∧ (gPutM m o).1 = gWith m o ∧ (gWith m o).length ≤ 1000000 := by
  unfold gPutM at h ⊢
  by_cases h1 : (!gMap m || !gObj o) = true
  · rw [if_pos h1] at h; cases h
  · rw [if_neg h1] at h ⊢
    by_cases h2 : (!hasK GObj.id m o.id && decide (m.length = 1000000)) = true
    · rw [if_pos h2] at h; cases h
    · rw [if_neg h2]
      rw [Bool.not_eq_true] at h1 h2
      rw [Bool.or_eq_false_iff] at h1
      have hg : gMap m = true := by simpa using h1.1
      have hl : m.length ≤ 1000000 := by have := (gMap_iff.1 hg).2.2; omega
      refine ⟨hg, by simpa using h1.2, rfl, ?_⟩
      rw [gWith_len]
      split
      · exact hl
      · next hf =>
        rw [Bool.and_eq_false_iff] at h2
        rcases h2 with h2 | h2
        · simp at h2; rw [h2] at hf; simp at hf
        · have := of_decide_eq_false h2; omega
end Go.Proofs.YtbbnllojhjlaoaaGreat
end
section
set_option linter.unusedVariables false
set_option linter.unusedSimpArgs false
namespace Go.Abs
section
variable {P : Program} {G0 : Heap} {N : Nat} {Q : Exit → Env → Heap → Prop} {E : Env} {H : Heap} {code : Code}
/-- A nil slice as an object of its own, whose capacity is 0. -/
theorem awp_nilc {t id sz : Nat} {ty : TypeId} (hx : E.get t = some (.pv .nils)) (hid : H.get id = none) (hsz : Nat.blt 0 sz = true) (h : AWp P G0 N code Q ((t, .osc id 0 0 0 0) :: E) ((id, ⟨0, sz, ty, []⟩) :: H)) : AWp P G0 N code Q E H := by
  intro G hG a w hs
  obtain ⟨I, ι, hr, hst, he⟩ := hs.rel
  obtain ⟨v, hv, hvr⟩ := he t _ hx
  have hz : 0 < sz := by simpa [Nat.blt_eq] using hsz
  obtain ⟨k1, k2⟩ := Rel.adopt (sz := sz) (ty := ty) hr hid hz
  have hvn : v = .slice none 0 0 := by
    have := hvr.pv_inv
    cases this; rfl
  subst hvn
  refine h G hG a w ⟨hs.defers, hs.size, I, _, k1, hst.trans k2, fun u x hu => ?_⟩
  by_cases e : t = u
  · subst e
    rw [Env.get_cons_same] at hu; cases hu
    exact ⟨_, hv, .osc ⟨0, sz, ty, []⟩ (get_cons_same _ _ _) (Nat.le_refl _) rfl fun _ => ⟨hz, Nat.le_refl _, .inr ⟨by simp, rfl, rfl, rfl, rfl⟩⟩⟩
  · rw [Env.get_cons_other _ _ e] at hu
    obtain ⟨c, h1, h2⟩ := he u x hu
    exact ⟨c, h1, h2.mono hr k2⟩
end
section
variable {P : Program} {N : Nat} {o : Oper} {E : Env} {H : Heap} {T : TypeId} {x y : Operand} {Q : AV → Heap → Prop}
/-- A call whose first argument is nil. -/
theorem opr_call_nil {F : FuncId} {f y : Operand} {at_ : Array TypeId} {v : AV} (ho : o.op = .call { callee := .value f, args := #[.const (.slice none 0 0), y], argTypes := at_ }) (hf : aeval E f = some (.pv (.fn F)))
    (hc : ∀ (args : Array Value) (w : World), (callFunc F args).run P w = .ok (.enter F args) w) (hv : aeval E y = some v) (h : ACalls P F [.pv .nils, v] H Q) : OpR P N o E H Q := by
  intro a w I ι _ _ hr he K QQ hk
  have hfv := (aeval_rel he hf).fn_inv
  unfold Oper.wpW execOp
  simp only [ho, resolve, hfv, Deferred.ofValue, Sem.run_bind, Sem.run_pure, Result.andThen_ok, invoke, hc, Oper.uponW_enter]
  refine (h I ι w _ hr (by simp) (fun i u b hu hb => ?_)).mono ?_
  · match i with
    | 0 => simp [Act.eval] at hu hb; subst hu hb; exact .pv .nils
    | 1 => simp at hu hb; subst hu hb; exact aeval_rel he hv
    | i + 2 => simp at hb
  · rintro e w' ⟨r, H', I', ι', v, rfl, hq, k1, k2, k3⟩
    exact hk v w' I' ι' r H' hq k1 k2 k3
end
/-- An object loses its last rows; what led to it leads nowhere. -/
theorem Rel.cut {I : Nat → Prop} {ι : Plc} {H H' : Heap} {w : World} {id k n : Nat} {ob : Ob} (hr : Rel I ι H w) (hH : H.get id = some ob) (hg : ob.g < k) (hz : 0 < ob.sz)
    (h1 : H'.get id = some ⟨k, ob.sz, ob.ty, ob.rows.take n⟩) (h2 : ∀ j, j ≠ id → H'.get j = H.get j) : Rel I ι H' w ∧ Step I ι H w I ι H' w := by
  have hst : Step I ι H w I ι H' w := by
    refine ⟨rfl, rfl, rfl, Nat.le_refl _, fun a _ _ => rfl, fun _ h => h, fun _ h => .inl h, ?_, fun _ _ _ => rfl, ?_⟩
    · rintro x ⟨j, o, c, hj, hc⟩
      by_cases e : j = id
      · subst e; exact .inl ⟨j, ob, c, hH, hc⟩
      · exact .inl ⟨j, o, c, (h2 j e).symm.trans hj, hc⟩
    · intro j o hj
      by_cases e : j = id
      · subst e
        rw [hH] at hj; cases hj
        exact ⟨_, h1, Nat.le_of_lt hg, fun e => absurd e (by simp only; omega)⟩
      · exact ⟨o, (h2 j e).trans hj, Nat.le_refl _, fun _ => ⟨rfl, rfl, fun _ => Nat.le_refl _⟩⟩
  refine ⟨⟨hr.imm, ?_, ?_⟩, hst⟩
  · intro j o hj
    by_cases e : j = id
    · subst e
      rw [h1] at hj; cases hj
      obtain ⟨p1, p2, ⟨b, cap, cs, e1, e2, e3, e4, e5, e5', e6⟩ | ⟨e1, e2⟩⟩ := (hr.obj j ob hH).cells hz
      · refine .inl ⟨p1, fun r hr' => p2 r (List.mem_of_mem_take hr'), .inl ⟨b, cap, cs, e1, e2, e3, e4, ?_, e5', fun i r hi q a hq => ?_⟩⟩
        · simp only [List.length_take]; omega
        · simp only [List.getElem?_take] at hi
          split at hi
          · obtain ⟨v, q1, q2, q3⟩ := e6 i r hi q a hq
            exact ⟨v, q1, q2, q3.mono hr hst⟩
          · cases hi
      · exact .inl ⟨p1, fun r hr' => p2 r (List.mem_of_mem_take hr'), .inr ⟨e1, by simp only [e2, List.take_nil]⟩⟩
    · rw [h2 j e] at hj
      exact (hr.obj j o hj).keep rfl (fun x c _ _ => ⟨rfl, fun h => h⟩) (fun r _ a _ v hv => hv.mono hr hst)
  · intro j j' o o' x c c' hj hj' hc hc'
    have key : ∀ j o, H'.get j = some o → ∃ o, H.get j = some o := by
      intro j o hj
      by_cases e : j = id
      · exact ⟨ob, e ▸ hH⟩
      · exact ⟨o, (h2 j e).symm.trans hj⟩
    obtain ⟨q, hq⟩ := key j o hj
    obtain ⟨q', hq'⟩ := key j' o' hj'
    exact hr.inj j j' q q' x c c' hq hq' hc hc'
/-- The result's slice is made as short as it is. -/
theorem Fin.trunc {G0 H : Heap} {id k g n sz ty : Nat} {ob : Ob} {rows : List (List AV)} (hH : H.get id = some ob) (hg : ob.g = g) (hk : g < k) (hs : ob.sz = sz) (ht : ob.ty = ty) (hr : ob.rows.take n = rows) : Fin G0 H (.osl id g 0 n) ((id, ⟨k, sz, ty, rows⟩) :: H) (.osl id k 0 n) := by
  intro G hG I ι w v h1 h2 h3
  subst hg hs ht hr
  have hz := osl_sz h3 hH rfl
  obtain ⟨q1, q2⟩ := osl_slice h3 hH rfl
  obtain ⟨k2, k3⟩ := Rel.cut (H' := (id, ⟨k, ob.sz, ob.ty, ob.rows.take n⟩) :: H) h1 hH hk hz (get_cons_same _ _ _) (fun j hj => get_cons_other _ _ hj)
  refine ⟨I, ι, k2, h2.trans k3, ?_⟩
  have hone : v.oneCell' = true := by
    rcases q2 with ⟨b, cap, oo, _, e, _⟩ | ⟨_, e, _⟩ <;> subst e <;> rfl
  exact .osl _ (get_cons_same _ _ _) (Nat.le_refl _) hone fun _ => ⟨hz, by simp only [List.length_take]; omega, q2⟩

/-- A contract at a heap that stays as it is, in a greater heap. -/
theorem ACalls.congrH {P : Program} {f : FuncId} {args : List AV} {H H1 H2 : Heap} {r0 : AV} (h : ACalls P f args H (fun r H' => r = r0 ∧ H' = H1)) (he : ∀ j, H2.get j = H1.get j) : ACalls P f args H (fun r H' => r = r0 ∧ H' = H2) := by
  intro I ι w vs hr hl hv
  refine (h I ι w vs hr hl hv).mono ?_
  rintro e w' ⟨r, H', I', ι', v, rfl, ⟨rfl, rfl⟩, k1, k2, k3⟩
  obtain ⟨q1, q2⟩ := k2.congr he
  exact ⟨r, H2, I', ι', v, rfl, ⟨rfl, rfl⟩, k1.mono k2 q2, q1, k3.trans q2⟩
theorem ACalls.frameS {P : Program} {f : FuncId} {args : List AV} {H0 H : Heap} {r0 : AV} (h : ACalls P f args H0 (fun r H' => r = r0 ∧ H' = H0)) (hs : Sub H0 H) (hc : Closed H0) (ha : ∀ a ∈ args, Clo H0 a) : ACalls P f args H (fun r H' => r = r0 ∧ H' = H) := by
  refine (ACalls.frame h hs hc ha (fun id hi => .inl hi)).congrH fun j => ?_
  rw [hget_app]
  cases e : H0.get j with
  | some o => exact hs j o e
  | none => rfl
theorem Sub.of2 {i j : Nat} {a b : Ob} {H : Heap} (h1 : H.get i = some a) (h2 : H.get j = some b) : Sub [(i, a), (j, b)] H := by
  intro id o ho
  simp only [Heap.get] at ho
  cases e1 : Nat.beq i id with
  | true =>
    rw [e1] at ho
    have := Nat.eq_of_beq_eq_true e1
    subst this
    cases ho; exact h1
  | false =>
    rw [e1] at ho
    cases e2 : Nat.beq j id with
    | true =>
      rw [e2] at ho
      have := Nat.eq_of_beq_eq_true e2
      subst this
      cases ho; exact h2
    | false => rw [e2] at ho; cases ho
end Go.Abs
end
section
set_option linter.unusedVariables false
set_option linter.unusedSimpArgs false
set_option maxRecDepth 100000
namespace Go.Proofs.YtbbnllojhjlaoaaGreat
open Go.Abs
theorem indexS_c (l : List ByteArray) (s : ByteArray) (H : Heap) (hl : l.length < 4611686018427387904) : ACalls Tryz.prog 100 [.pv (slStrs l), sv s] H (fun r H' => r = iv (gidx (fun x => decide (s = x)) l) ∧ H' = H) := by
 refine ACalls.pure ?_ (by simp) H
 have hml : (l.map encStr).length = l.length := List.length_map _
 refine Bd Tryz.func100 rfl Tryz.ntmps100<|Sq<|Rg<|Dd as'<|Zz<|Sq<|Sq<|Rg<|Dd mv'<|Dd (ll' Tryz.underlying33)<|Dd mv'<|Zz<|awp_block ?_
 refine awp_loop (σ := Nat) (fun k => ([(0, .pv (slStrs l)), (1, sv s), (7, iv ((l.map encStr).length : Int)), (8, iv (k : Int))], [])) (fun k => k ≤ l.length ∧ ∀ j, j < k → ∀ b, l[j]? = some b → decide (s = b) = false) (fun k => l.length - k) 0 ⟨by omega, by omega⟩ ?_ ?_
 ·exact E0
 rintro k ⟨hk, hno⟩
 refine Sq<|Rg<|Dd lss'<|Zz<|Sq ?_
 refine Cn (fun hc1 => ?_) fun hc1 => ?_
 ·have hlt : k < l.length := by have := of_decide_eq_true hc1; omega
  obtain ⟨o, ho⟩ := get_of_lt hlt
  have hi := map_get (f := encStr) ho
  refine awp_skip<|Sq<|awp_block<|Sq<|Rg<|Dd mv'<|Dd as'<|Zz<|Sq<|Rg<|Dd mv'<|Dd mv'<|Dd mv'<|Dd (xp' so33)<|Dd (lp' Tryz.isAgg9)<|Dd se'<|Zz ?_
  refine Cn (fun hc2 => ?_) fun hc2 => ?_
  ·skip
   refine Sq<|Rg<|Dd mv'<|Dd as'<|Zz<|awp_ret ?_
   refine Rt ?_
   exact ⟨by rw [gidx, fidx_some hno ho hc2], rfl⟩
  skip
  refine awp_skip<|Rg<|Dd ad'<|Dd mv'<|Zz ?_
  exact ⟨k + 1, ⟨by omega, pre_succ hno ho hc2⟩, by omega, E0⟩
 have hge : k = l.length := by have := of_decide_eq_false hc1; omega
 subst hge
 refine awp_exit<|Sq<|Rg<|Dd as'<|Zz<|awp_ret ?_
 refine Rt ?_
 exact ⟨by rw [gidx, fidx_none hno], rfl⟩
theorem inB_eq (l : List ByteArray) (s : ByteArray) : l.any (fun x => decide (s = x)) = inB l s := by
 rw [inB]
 congr 1
 funext x
 rw [Bool.eq_iff_iff, decide_eq_true_eq, decide_eq_true_eq]
 exact eq_comm
theorem containsS_c (l : List ByteArray) (s : ByteArray) (H : Heap) (hl : l.length < 4611686018427387904) : ACalls Tryz.prog 101 [.pv (slStrs l), sv s] H (fun r H' => r = bv (inB l s) ∧ H' = H) := by
 refine ACalls.pure ?_ (by simp) H
 refine Bd Tryz.func101 rfl Tryz.ntmps101<|Sq<|Rg<|Dd as'<|Zz<|Sq<|Rg<|Dd mv'<|Dd mv'<|Dd (by exact opr_call rfl rfl Tryz.call100 rfl (indexS_c l s _ hl))<|Dd ge'<|Dd as'<|Zz<|awp_ret ?_
 refine Rt ?_
 exact ⟨by rw [gidx_any, inB_eq], rfl⟩
theorem indexI_c (l : List Int) (s : Int) (H : Heap) (hl : l.length < 4611686018427387904) : ACalls Tryz.prog 118 [.pv (slInts l), iv s] H (fun r H' => r = iv (gidx (fun x => decide (s = x)) l) ∧ H' = H) := by
 refine ACalls.pure ?_ (by simp) H
 have hml : (l.map encInt).length = l.length := List.length_map _
 refine Bd Tryz.func118 rfl Tryz.ntmps118<|Sq<|Rg<|Dd as'<|Zz<|Sq<|Sq<|Rg<|Dd mv'<|Dd (ll' Tryz.underlying109)<|Dd mv'<|Zz<|awp_block ?_
 refine awp_loop (σ := Nat) (fun k => ([(0, .pv (slInts l)), (1, iv s), (7, iv ((l.map encInt).length : Int)), (8, iv (k : Int))], [])) (fun k => k ≤ l.length ∧ ∀ j, j < k → ∀ b, l[j]? = some b → decide (s = b) = false) (fun k => l.length - k) 0 ⟨by omega, by omega⟩ ?_ ?_
 ·exact E0
 rintro k ⟨hk, hno⟩
 refine Sq<|Rg<|Dd lss'<|Zz<|Sq ?_
 refine Cn (fun hc1 => ?_) fun hc1 => ?_
 ·have hlt : k < l.length := by have := of_decide_eq_true hc1; omega
  obtain ⟨o, ho⟩ := get_of_lt hlt
  have hi := map_get (f := encInt) ho
  refine awp_skip<|Sq<|awp_block<|Sq<|Rg<|Dd mv'<|Dd as'<|Zz<|Sq<|Rg<|Dd mv'<|Dd mv'<|Dd mv'<|Dd (xp' so109)<|Dd (lp' Tryz.isAgg3)<|Dd eql'<|Zz ?_
  refine Cn (fun hc2 => ?_) fun hc2 => ?_
  ·skip
   refine Sq<|Rg<|Dd mv'<|Dd as'<|Zz<|awp_ret ?_
   refine Rt ?_
   exact ⟨by rw [gidx, fidx_some hno ho hc2], rfl⟩
  skip
  refine awp_skip<|Rg<|Dd ad'<|Dd mv'<|Zz ?_
  exact ⟨k + 1, ⟨by omega, pre_succ hno ho hc2⟩, by omega, E0⟩
 have hge : k = l.length := by have := of_decide_eq_false hc1; omega
 subst hge
 refine awp_exit<|Sq<|Rg<|Dd as'<|Zz<|awp_ret ?_
 refine Rt ?_
 exact ⟨by rw [gidx, fidx_none hno], rfl⟩
theorem containsI_c (l : List Int) (s : Int) (H : Heap) (hl : l.length < 4611686018427387904) : ACalls Tryz.prog 85 [.pv (slInts l), iv s] H (fun r H' => r = bv (l.any (fun x => decide (s = x))) ∧ H' = H) := by
 refine ACalls.pure ?_ (by simp) H
 refine Bd Tryz.func85 rfl Tryz.ntmps85<|Sq<|Rg<|Dd as'<|Zz<|Sq<|Rg<|Dd mv'<|Dd mv'<|Dd (by exact opr_call rfl rfl Tryz.call118 rfl (indexI_c l s _ hl))<|Dd ge'<|Dd as'<|Zz<|awp_ret ?_
 refine Rt ?_
 exact ⟨by rw [gidx_any], rfl⟩
/-- The index of a node inside of a list, once. -/
def gInner (l : List ByteArray) (node : ByteArray) : Int := if decide (gidx (fun x => decide (node = x)) l ≤ 0) || decide (gidx (fun x => decide (node = x)) l = (l.length : Int) - 1) || inB (l.drop ((gidx (fun x => decide (node = x)) l).toNat + 1)) node then -1 else gidx (fun x => decide (node = x)) l
theorem inner_c (l : List ByteArray) (node : ByteArray) (H : Heap) (hl : l.length < 1099511627776) : ACalls Tryz.prog 63 [.pv (slStrs l), sv node] H (fun r H' => r = iv (gInner l node) ∧ H' = H) := by
 refine ACalls.pure ?_ (by simp) H
 have hml : (l.map encStr).length = l.length := List.length_map _
 have hrl : ∀ r ∈ l.map encStr, r.length = 1 := fun r hr => by
  obtain ⟨t, _, rfl⟩ := List.mem_map.1 hr
  rfl
 obtain ⟨g, hg⟩ : ∃ g, g = gidx (fun x => decide (node = x)) l := ⟨_, rfl⟩
 rw [gInner, ← hg]
 have hix := fun H => indexS_c l node H (by omega)
 rw [← hg] at hix
 refine Bd Tryz.func63 rfl Tryz.ntmps63 ?_
 rcases gidx_cases (fun x => decide (node = x)) l with ⟨e1, _⟩ | ⟨k, o, e1, e2, _⟩
 ·have hg0 : decide (g ≤ 0) = true := decide_eq_true (by omega)
  refine Sq<|Rg<|Dd as'<|Zz<|Sq<|Rg<|Dd mv'<|Dd mv'<|Dd (by exact opr_call rfl rfl Tryz.call100 rfl (hix _))<|Dd as'<|Zz<|Sq<|Sq<|Rg<|Dd mv'<|Dd le'<|Dd mv' ?_
  refine al_off rfl rfl rfl (by assumption) rfl ?_
  refine al_off rfl rfl rfl (by assumption) rfl ?_
  refine al_off rfl rfl rfl (by assumption) rfl ?_
  refine al_off rfl rfl rfl (by assumption) rfl ?_
  refine al_off rfl rfl rfl (by assumption) rfl ?_
  refine Dd pt'<|Dd mv' ?_
  refine al_off rfl rfl rfl (by rfl) rfl ?_
  refine al_off rfl rfl rfl (by rfl) rfl ?_
  refine al_off rfl rfl rfl (by rfl) rfl ?_
  refine al_off rfl rfl rfl (by rfl) rfl ?_
  refine al_off rfl rfl rfl (by rfl) rfl ?_
  refine al_off rfl rfl rfl (by rfl) rfl ?_
  refine Dd pk'<|Zz ?_
  refine Cn (fun hc1 => ?_) fun hc1 => ?_
  ·rw [hg0, Bool.true_or, Bool.true_or, if_pos rfl]
   refine Sq<|Rg<|Dd as'<|Zz<|awp_ret ?_
   refine Rt ?_
   exact ⟨rfl, rfl⟩
  cases hc1
 have hk := (List.getElem?_eq_some_iff.1 e2).1
 have hgk : g = (k : Int) := by omega
 have hsl := List.length_drop (i := k + 1) (l := l)
 subst hgk
 have hcn := fun H => containsS_c (l.drop (k + 1)) node H (by omega)
 have hdr : (l.map encStr).drop (k + 1) = (l.drop (k + 1)).map encStr := List.map_drop.symm
 have e5 : ((k : Int).toNat + 1) = k + 1 := by omega
 rw [e5]
 rw [show (l.length : Int) = ((l.map encStr).length : Int) by rw [hml]]
 refine Sq<|Rg<|Dd as'<|Zz<|Sq<|Rg<|Dd mv'<|Dd mv'<|Dd (by exact opr_call rfl rfl Tryz.call100 rfl (hix _))<|Dd as'<|Zz<|Sq<|Sq ?_
 refine awp_bool (t := 25) (n := 19) (X := decide ((k : Int) ≤ 0) || decide ((k : Int) = ((l.map encStr).length : Int) - 1) || inB (l.drop (k + 1)) node) ?_ ?_
 ·all_goals refine Dd mv' ?_
  all_goals refine Dd le' ?_
  all_goals refine Dd mv' ?_
  all_goals refine Sp 11 (fun h11 => ?_) fun h11 => ?_
  all_goals try contradiction
  all_goals first | refine Fo ?_ | refine On mv' ?_
  all_goals first | refine Fo ?_ | refine On mv' ?_
  all_goals first | refine Fo ?_ | refine On (ll' Tryz.underlying33) ?_
  all_goals first | refine Fo ?_ | refine On (by exact opd_sub rfl rfl rfl (by exact w64 (by omega) (by omega))) ?_
  all_goals first | refine Fo ?_ | refine On eql' ?_
  all_goals refine Dd pk' ?_
  all_goals refine Dd mv' ?_
  all_goals refine Sp 18 (fun h18 => ?_) fun h18 => ?_
  all_goals try contradiction
  all_goals first | refine Fo ?_ | refine On mv' ?_
  all_goals first | refine Fo ?_ | refine On mv' ?_
  all_goals first | refine Fo ?_ | refine On ad' ?_
  all_goals first | refine Fo ?_ | refine On (by exact x_slice_sl (l := k + 1) (h := (l.map encStr).length) (rows' := (l.drop (k + 1)).map encStr) rfl so33 rfl hrl rfl rfl (by omega) (Nat.le_refl _) (by rw [List.take_length]; exact hdr)) ?_
  all_goals first | refine Fo ?_ | refine On mv' ?_
  all_goals first | refine Fo ?_ | refine On (by exact opr_call rfl rfl Tryz.call101 rfl (hcn _)) ?_
  all_goals refine Dd pk' ?_
  all_goals refine al_nil ?_
  all_goals (exact ⟨⟨_, rfl, by first | (rw [h11]; rfl) | (rw [h11, h18]; rfl)⟩, rfl, rfl, rfl⟩)
 refine Cn (fun hc2 => ?_) fun hc2 => ?_
 ·rw [if_pos hc2]
  refine Sq<|Rg<|Dd as'<|Zz<|awp_ret ?_
  refine Rt ?_
  exact ⟨rfl, rfl⟩
 rw [if_neg (by rw [hc2]; simp)]
 refine awp_skip<|Sq<|Rg<|Dd mv'<|Dd as'<|Zz<|awp_ret ?_
 refine Rt ?_
 exact ⟨rfl, rfl⟩
end Go.Proofs.YtbbnllojhjlaoaaGreat
end
section
set_option linter.unusedVariables false
set_option linter.unusedSimpArgs false
set_option maxRecDepth 100000
namespace Go.Proofs.YtbbnllojhjlaoaaGreat
open Go.Abs
theorem containsFunc_GObj (fv : AV) (l : List GObj) (p : GObj → Bool) (H : Heap) (hl : l.length < 4611686018427387904) (hf : ∀ o, o ∈ l → CallsV Tryz.prog fv [.agg ((encObj o).map .pv)] H (fun r H' => r = .pv (.bool (p o)) ∧ H' = H)) :
  ACalls Tryz.prog 125 [.pv (.sl (l.map encObj)), fv] H (fun r H' => r = bv (l.any p) ∧ H' = H) := by
 refine Bd Tryz.func125 rfl Tryz.ntmps125<|Sq<|Rg<|Dd as'<|Zz<|Sq<|Rg<|Dd mv'<|Dd mv'<|Dd (by exact opr_call rfl rfl Tryz.call98 rfl (indexFunc_GObj fv l p _ hl hf))<|Dd ge'<|Dd as'<|Zz<|awp_ret ?_
 refine aret1 (H' := H) (.inr rfl) rfl (rval_tmp rfl) Fin.refl ?_
 exact ⟨by rw [← gidx_any], rfl⟩
/-- Whether an object refers to one of some. -/
def refsTo (routes : Bool) (ids : List ByteArray) (o : GObj) : Bool := (!routes || decide (4 ≤ o.kind)) && o.refs.any (fun r => inB ids r)
def gRefd (m : List GObj) (routes : Bool) (ids : List ByteArray) : Bool := m.any (refsTo routes ids)
theorem refd11_c (s : ByteArray) (ids : List ByteArray) (T : Nat) (H : Heap) (h5 : H.get 5 = some (bx 1 T [.pv (slStrs ids)])) (hl : ids.length < 4611686018427387904) : ACalls Tryz.prog 127 [sv s, .ref 5 0 0 0] H (fun r H' => r = bv (inB ids s) ∧ H' = H) := by
 refine Bd Tryz.func127 rfl Tryz.ntmps127<|Sq<|Rg<|Dd as'<|Zz<|Sq<|Rg<|Dd (by exact opd_load1_ref rfl Tryz.isAgg33 rfl h5 rfl rfl rfl)<|Dd mv'<|Dd (by exact opr_call rfl rfl Tryz.call101 rfl (containsS_c ids s _ hl))<|Dd as'<|Zz<|awp_ret ?_
 refine aret1 (H' := H) (.inr rfl) rfl (rval_tmp rfl) Fin.refl ?_
 exact ⟨rfl, rfl⟩
theorem refd1_c (o : GObj) (routes : Bool) (ids : List ByteArray) (T T2 : Nat) (H : Heap) (h4 : H.get 4 = some (bx 1 T [bv routes])) (h5 : H.get 5 = some (bx 1 T2 [.pv (slStrs ids)])) (h9 : H.get 983 = none) (hc : Closed H) (hl : ids.length < 4611686018427387904) (ho : o.refs.length < 4611686018427387904) :
  ACalls Tryz.prog 126 [av (encObj o), .ref 4 0 0 0, .ref 5 0 0 0] H (fun r H' => r = bv (refsTo routes ids o) ∧ H' = H) := by
 have h4' : Heap.get ((983, bx 6 36 ((encObj o).map .pv)) :: H) 4 = some (bx 1 T [bv routes]) := h4
 have h5' : Heap.get ((983, bx 6 36 ((encObj o).map .pv)) :: H) 5 = some (bx 1 T2 [.pv (slStrs ids)]) := h5
 have hcf := containsFuncS (.clo 127 [.ref 5 0 0 0]) o.refs (atP o.refs (fun r => inB ids r)) (fun _ => (983, bx 6 36 ((encObj o).map .pv)) :: H) ho (fun k s hk => CallsV.clo Tryz.call127 (by rw [atP_some hk]; exact refd11_c s ids T2 _ h5' hl))
 rw [range_any_get] at hcf
 refine Bd Tryz.func126 rfl Tryz.ntmps126<|Sq<|Rg<|Dd (by exact opd_box (id := 983) rfl rfl rfl rfl h9)<|Dd as'<|Zz<|Sq ?_
 refine awp_bool (t := 4) (n := 16) (X := refsTo routes ids o) ?_ ?_
 ·all_goals refine Dd (by exact opd_load1_ref rfl Tryz.isAgg4 rfl h4' rfl rfl rfl) ?_
  all_goals refine Dd no' ?_
  all_goals refine Dd mv' ?_
  all_goals refine Sp 7 (fun h7 => ?_) fun h7 => ?_
  all_goals try contradiction
  all_goals first | refine Fo ?_ | refine On (fr' fo36_1) ?_
  all_goals first | refine Fo ?_ | refine On (l1' Tryz.isAgg3) ?_
  all_goals first | refine Fo ?_ | refine On ge' ?_
  all_goals refine Dd pk' ?_
  all_goals refine Dd mv' ?_
  all_goals refine Sp 12 (fun h12 => ?_) fun h12 => ?_
  all_goals try contradiction
  all_goals first | refine Fo ?_ | refine On (fr' fo36_3) ?_
  all_goals first | refine Fo ?_ | refine On (l1' Tryz.isAgg33) ?_
  all_goals first | refine Fo ?_ | refine On (by exact opd_makeFunc rfl rfl) ?_
  all_goals first | refine Fo ?_ | refine On (by exact opr_call rfl rfl Tryz.call67 rfl (hcf)) ?_
  all_goals refine Dd pk' ?_
  all_goals refine Dd as' ?_
  all_goals refine al_nil ?_
  all_goals (exact ⟨⟨_, rfl, by (cases routes <;> first | rfl | (exact absurd h7 (by decide)) | (simp only [refsTo, h12, Bool.not_true, Bool.not_false, Bool.true_or, Bool.false_or, Bool.true_and, Bool.false_and]; done))⟩, rfl, rfl, rfl⟩)
 refine awp_ret ?_
 refine aret1 (H' := H) (.inr rfl) rfl (rval_tmp rfl) (Fin.pops [(983, bx 6 36 ((encObj o).map .pv))] (by simp) hc (by simp [h9])) ⟨rfl, rfl⟩
theorem cl_c {f : FuncId} {args : List AV} {m : List GObj} {H : Heap} {r0 : AV} (h : ACalls Tryz.prog f args (cH m) (fun r H' => r = r0 ∧ H' = cH m)) (h14 : H.get 14 = some (cRow m)) (h12 : H.get 12 = some (kob m)) (ha : ∀ a ∈ args, Clo (cH m) a) : ACalls Tryz.prog f args H (fun r H' => r = r0 ∧ H' = H) :=
 h.frameS (Sub.of2 h14 h12) (Closed.ofL ⟨(by (simp; rfl)), (by exact kob_clo _ _), trivial⟩) ha
theorem okM_refs {m : List GObj} (hm : okM m) : ∀ o, o ∈ m → o.refs.length < 4611686018427387904 := fun o ho => (hm.2 o ho).2.2.1
theorem refd0_c (m : List GObj) (routes : Bool) (ids : List ByteArray) (hm : okM m) (hl : ids.length < 4611686018427387904) :
  ACalls Tryz.prog 87 [.ref 14 0 0 0, bv routes, .pv (slStrs ids)] (cH m) (fun r H' => r = bv (gRefd m routes ids) ∧ H' = cH m) := by
 have hf : ∀ o, o ∈ m → CallsV Tryz.prog (.clo 126 [.ref 4 0 0 0, .ref 5 0 0 0]) [.agg ((encObj o).map .pv)] ((5, bx 1 33 [.pv (slStrs ids)]) :: (4, bx 1 4 [bv routes]) :: cH m) (fun r H' => r = bv (refsTo routes ids o) ∧ H' = (5, bx 1 33 [.pv (slStrs ids)]) :: (4, bx 1 4 [bv routes]) :: cH m) :=
  fun o ho => CallsV.clo Tryz.call126 (refd1_c o routes ids 4 33 _ rfl rfl rfl (Closed.ofL ⟨(by (simp; done)), (by (simp; done)), (by (simp; rfl)), (by exact kob_clo _ _), trivial⟩) hl (okM_refs hm o ho))
 refine Bd Tryz.func87 rfl Tryz.ntmps87<|Sq<|Rg<|Dd (by exact opd_box (id := 4) rfl rfl rfl rfl rfl)<|Dd (by exact opd_box (id := 5) rfl rfl rfl rfl rfl)<|Dd as'<|Zz<|Sq<|Rg<|Dd mv'<|Dd nc'<|Dd (fr' fo80_0)<|Dd (fr' fo24_0)<|Dd (l1' Tryz.isAgg22)<|Dd (by exact opd_makeFunc rfl rfl)<|Dd (by exact opr_call rfl rfl Tryz.call125 rfl (containsFunc_GObj _ m (refsTo routes ids) _ hm.1 hf))<|Dd as'<|Zz<|awp_ret ?_
 refine aret1 (H' := (cH m)) (.inr rfl) rfl (rval_tmp rfl) (Fin.wk (by (simp; done)) ⟨⟨_, rfl, rfl⟩, (by (simp; rfl)), ⟨_, rfl, rfl⟩, (by exact kob_clo _ _), trivial⟩ ⟨rfl, rfl, trivial⟩) ?_
 exact ⟨rfl, rfl⟩
theorem refd_c (m : List GObj) (routes : Bool) (ids : List ByteArray) (H : Heap) (h14 : H.get 14 = some (cRow m)) (h12 : H.get 12 = some (kob m)) (hm : okM m) (hl : ids.length < 4611686018427387904) :
  ACalls Tryz.prog 87 [.ref 14 0 0 0, bv routes, .pv (slStrs ids)] H (fun r H' => r = bv (gRefd m routes ids) ∧ H' = H) :=
 cl_c (refd0_c m routes ids hm hl) h14 h12 (by simp; rfl)
theorem get0_c (m : List GObj) (id : ByteArray) (o : GObj) (hm : okM m) (ho : m.find? (idIs id) = some o) :
  ACalls Tryz.prog 30 [.ref 14 0 0 0, sv id] (cH m) (fun r H' => r = av (encObj o) ∧ H' = cH m) := by
 rcases gidx_cases (idIs id) m with ⟨e1, e2⟩ | ⟨k, x, e1, e2, e3⟩
 ·rw [ho] at e2; cases e2
 rw [ho] at e3; cases e3
 have hi := map_get (f := encObj) e2
 have hF := fun H => find_c m id H hm.1
 rw [e1] at hF
 refine Bd Tryz.func30 rfl Tryz.ntmps30<|Sq<|Rg<|Dd (by exact x_alloc (id := 4) rfl zo36 rfl rfl)<|Zz<|Sq ?_
 refine awp_drawc follows ?_
 refine Cr [14] (fun _ _ => mv')<|Cr [14] (fun H1 hH => by exact opd_nilCheck_ref rfl rfl ((hH _ rfl).trans rfl) rfl)<|Cr [14] (fun _ h => fh fo80_0 h)<|Cr [14] (fun _ h => fh fo24_0 h)<|Cr [14] (fun _ h => lh Tryz.isAgg22 h)<|Cr [14] (fun _ _ => mv')<|Cr [14] (fun H1 hH => by exact opd_nilCheck_ref rfl rfl ((hH _ rfl).trans rfl) rfl)<|Cr [14] (fun _ h => fh fo80_0 h)<|Cr [14] (fun H1 hH => by exact opd_loadn_ref rfl Tryz.isAgg24 Tryz.sizeOf24 rfl ((hH _ rfl).trans rfl) rfl rfl rfl rfl)<|Cr [] (fun _ _ => mv')<|Cr [] (fun H1 hH => by exact opr_call rfl rfl Tryz.call62 rfl (hF _))<|Cr [] (fun _ _ => (xp' so22))<|Cr [] (fun H1 hH => by exact opd_loadn_pad rfl Tryz.isAgg36 Tryz.sizeOf36 rfl (by omega) (by simp only [Zl, encTag, encObj, encStr, encEdit, encInt]; rfl) rfl)<|Cp [4] (fun H1 hH => by exact x_store_all rfl Tryz.sizeOf36 rfl rfl rfl rfl ((hH _ rfl).trans rfl) rfl rfl rfl) ?_
 refine dc_nil ⟨by kernel_rfl, ?_⟩
 refine awp_ret ?_
 refine aret1 (H' := (cH m)) (.inr rfl) rfl (rval_cell rfl Tryz.isAgg36 Tryz.sizeOf36 rfl rfl rfl (by simp only [Zl, encTag, encObj, encStr, encEdit, encInt]; rfl) rfl) (Fin.wk (by (simp; done)) ⟨⟨_, rfl, rfl⟩, (by (simp; rfl)), ⟨_, rfl, rfl⟩, (by exact kob_clo _ _), trivial⟩ ⟨rfl, rfl, trivial⟩) ?_
 exact ⟨rfl, rfl⟩
theorem get_c (m : List GObj) (id : ByteArray) (o : GObj) (H : Heap) (h14 : H.get 14 = some (cRow m)) (h12 : H.get 12 = some (kob m)) (hm : okM m) (ho : m.find? (idIs id) = some o) :
  ACalls Tryz.prog 30 [.ref 14 0 0 0, sv id] H (fun r H' => r = av (encObj o) ∧ H' = H) :=
 cl_c (get0_c m id o hm ho) h14 h12 (by simp; rfl)
end Go.Proofs.YtbbnllojhjlaoaaGreat
end
section
set_option linter.unusedVariables false
set_option linter.unusedSimpArgs false
set_option maxRecDepth 100000
namespace Go.Proofs.YtbbnllojhjlaoaaGreat
open Go.Abs
/-- The one object in front is what is returned, for good; nothing else is left. -/
theorem Fin.slice0 {H1 : Heap} {id g n : Nat} {ob : Ob} (ps : List (List PV)) (hH : H1.get id = some ob) (hg : ob.g = g) (hps : ob.rows = ps.map (·.map .pv)) (hn : ps.length = n) :
  Fin [] H1 (.osl id g 0 n) [] (.pv (.sl ps)) := by
 subst hg hn
 exact Fin.fz (id := id) (ob := ob) ps hH hps (.osl (by rw [Nat.zero_add, List.drop_zero, List.take_length])) rfl trivial trivial
theorem rl_ByteArray (l : List ByteArray) : ∀ r ∈ l.map encStr, r.length = 1 := fun r hr => by
 obtain ⟨t, _, rfl⟩ := List.mem_map.1 hr
 rfl
theorem cloneF_ByteArray (l : List ByteArray) (H : Heap) (hl : l.length < 1099511627776) : ACalls Tryz.prog 128 [.pv (.sl (l.map encStr))] H (fun r H' => r = .pv (.sl (l.map encStr)) ∧ H' = H) := by
 refine ACalls.pure ?_ (by simp) H
 have hml : (l.map encStr).length = l.length := List.length_map _
 refine Bd Tryz.func128 rfl Tryz.ntmps128<|Sq<|Rg<|Dd as'<|Zz<|Sq<|Sq<|Rg<|Dd mv' ?_
 refine al_r rfl rfl (opr_sl_nil rfl Tryz.underlying33 rfl) ?_
 rintro _ H2 ⟨e2, b, rfl, hb⟩
 rw [e2]
 clear e2 H2
 refine Zz ?_
 refine Cn (fun hc1 => ?_) fun hc1 => ?_
 ·have h0 := hb hc1
  rw [h0]
  refine Sq<|Rg<|Dd as'<|Zz<|awp_ret ?_
  refine Rt ?_
  exact ⟨rfl, rfl⟩
 skip
 refine awp_skip<|Sq<|Rg<|Dd (by exact x_buildSlice_own (id := 901) rfl so33 rfl rfl rfl rfl (by simp) rfl)<|Dd mv'<|Dd (by exact x_append rfl so33 ei9 rfl rfl rfl rfl rfl rfl rfl (rl_ByteArray l) rfl (by omega) (Nat.zero_add _) (List.nil_append _))<|Dd as'<|Zz<|awp_ret ?_
 refine aret1 (H' := []) (.inr rfl) rfl (rval_tmp rfl) (Fin.slice0 (id := 901) (l.map encStr) rfl rfl rfl rfl) ?_
 exact ⟨rfl, rfl⟩
theorem grow_ByteArray (n : Nat) (H : Heap) (h4 : H.get 904 = none) (h5 : H.get 905 = none) (hc : Closed H) (hn : n < 1099511627776) :
  ACalls Tryz.prog 102 [.pv .nils, iv (n : Int)] H (fun r H' => r = .osl 905 1 0 0 ∧ H' = (905, ⟨1, 1, 9, []⟩) :: H) := by
 refine Bd Tryz.func102 rfl Tryz.ntmps102 ?_
 by_cases h0 : n = 0
 ·subst h0
  refine awp_nilc (t := 0) (id := 905) (sz := 1) (ty := 9) rfl h5 rfl ?_
  refine Sq<|Rg<|Dd as'<|Zz<|Sq<|Sq<|Rg<|Dd mv'<|Dd lss'<|Zz ?_
  refine Cn (fun hc1 => ?_) fun hc1 => ?_
  ·have h := of_decide_eq_true hc1; omega
  skip
  refine awp_skip<|Sq<|Sq<|Rg<|Dd mv'<|Dd mv'<|Dd (by exact opd_cap_osc rfl Tryz.underlying33 rfl rfl rfl)<|Dd mv'<|Dd (by exact opd_len_osc rfl Tryz.underlying33 rfl rfl rfl)<|Dd (by exact opd_sub rfl rfl rfl (by exact w64 (by omega) (by omega)))<|Dd (by exact opd_sub rfl rfl rfl (by exact w64 (by omega) (by omega)))<|Dd as'<|Zz<|Sq<|Rg<|Dd mv'<|Dd gt'<|Zz ?_
  refine Cn (fun hc2 => ?_) fun hc2 => ?_
  ·have h := of_decide_eq_true hc2; omega
  skip
  refine awp_skip<|Sq ?_
  refine awp_uncap (t := 0) rfl rfl rfl (by decide) ?_
  refine Rg<|Dd mv'<|Dd as'<|Zz<|awp_ret ?_
  refine aret1 (H' := ((905, ⟨1, 1, 9, []⟩) :: H)) (.inr rfl) rfl (rval_tmp rfl) ((Fin.bump (g := 0) (k := 1) rfl rfl (by decide) rfl rfl rfl).trans (Fin.get' (fun j => get_dup _ _ _ _ j))) ?_
  exact ⟨rfl, rfl⟩
 refine awp_nilc (t := 0) (id := 904) (sz := 1) (ty := 9) rfl h4 rfl ?_
 have h5' : Heap.get ((904, (⟨0, 1, 9, []⟩ : Ob)) :: H) 905 = none := h5
 refine Sq<|Rg<|Dd as'<|Zz<|Sq<|Sq<|Rg<|Dd mv'<|Dd lss'<|Zz ?_
 refine Cn (fun hc3 => ?_) fun hc3 => ?_
 ·have h := of_decide_eq_true hc3; omega
 skip
 refine awp_skip<|Sq<|Sq<|Rg<|Dd mv'<|Dd mv'<|Dd (by exact opd_cap_osc rfl Tryz.underlying33 rfl rfl rfl)<|Dd mv'<|Dd (by exact opd_len_osc rfl Tryz.underlying33 rfl rfl rfl)<|Dd (by exact opd_sub rfl rfl rfl (by exact w64 (by omega) (by omega)))<|Dd (by exact opd_sub rfl rfl rfl (by exact w64 (by omega) (by omega)))<|Dd as'<|Zz<|Sq<|Rg<|Dd mv'<|Dd gt'<|Zz ?_
 refine Cn (fun hc4 => ?_) fun hc4 => ?_
 ·skip
  refine Rg<|Dd mv'<|Dd mv'<|Dd (by exact opd_cap_osc rfl Tryz.underlying33 rfl rfl rfl)<|Dd (by exact x_slice_osc (l := 0) (h := 0) rfl so33 rfl rfl rfl rfl rfl rfl (Nat.le_refl _) (Nat.le_refl _) rfl rfl rfl)<|Dd mv'<|Dd (by exact x_append_zeros (id2 := 905) (m := n) rfl so33 Tryz.underlying3 ei9 zo9 rfl rfl rfl rfl rfl (Nat.le_refl _) rfl (by omega) (by omega) (by omega) (Nat.zero_add _) (by omega) h5' rfl)<|Dd mv'<|Dd (by exact opd_len_osc rfl Tryz.underlying33 rfl rfl rfl)<|Dd (by exact x_slice_osl (l := 0) (h := 0) rfl so33 rfl rfl rfl rfl rfl rfl (Nat.le_refl _) (by omega) rfl rfl)<|Dd as'<|Zz<|Sq<|Rg<|Dd mv'<|Dd as'<|Zz<|awp_ret ?_
  refine aret1 (H' := ((905, ⟨1, 1, 9, []⟩) :: H)) (.inr rfl) rfl (rval_tmp rfl) ((Fin.trunc (g := 0) (k := 1) (sz := 1) (ty := 9) (rows := []) rfl rfl (by decide) rfl rfl (List.take_zero)).trans (Fin.front' [_, _, _] [(905, ⟨1, 1, 9, []⟩)] (by simp; rfl) (by simp [h4, h5]) (by simp [Heap.get]) (by simp) hc (by simp [h4, h5]))) ?_
  exact ⟨rfl, rfl⟩
 have h := of_decide_eq_false hc4; omega
theorem concat_ByteArray (ls : List (List ByteArray)) (H : Heap) (hls : ls.length < 1099511627776) (hb : ls.flatten.length < 1099511627776) :
  ACalls Tryz.prog 64 [.pv (.sl (ls.map (fun l => [.sl (l.map encStr)])))] H (fun r H' => r = .pv (.sl (ls.flatten.map encStr)) ∧ H' = H) := by
 refine ACalls.pure ?_ (by simp) H
 have hml : (ls.map (fun l => [PV.sl (l.map encStr)])).length = ls.length := List.length_map _
 have hpre : ∀ k, ((ls.take k).flatten).length ≤ ls.flatten.length := fun k => by
  conv => rhs; rw [← List.take_append_drop k ls, List.flatten_append, List.length_append]
  omega
 have hst : ∀ k l, ls[k]? = some l → (ls.take (k + 1)).flatten = (ls.take k).flatten ++ l := fun k l h => by
  rw [List.take_add_one, h, List.flatten_append]; simp
 refine Bd Tryz.func64 rfl Tryz.ntmps64<|Sq<|Rg<|Dd as'<|Zz<|Sq<|Rg<|Dd as'<|Zz<|Sq<|Sq<|Rg<|Dd mv'<|Dd (ll' Tryz.underlying123)<|Dd mv'<|Zz<|awp_block ?_
 refine awp_loop (σ := Nat) (fun k => ([(0, .pv (.sl (ls.map (fun l => [.sl (l.map encStr)])))), (3, iv (((ls.take k).flatten).length : Int)), (9, .pv (.sl (ls.map (fun l => [.sl (l.map encStr)])))), (10, iv ((ls.map (fun l => [PV.sl (l.map encStr)])).length : Int)), (11, iv (k : Int))], [])) (fun k => k ≤ ls.length) (fun k => ls.length - k) 0 (by omega) ?_ ?_
 ·exact E0
 intro k hk
 refine Sq<|Rg<|Dd lss'<|Zz<|Sq ?_
 refine Cn (fun hc1 => ?_) fun hc1 => ?_
 ·have hlt : k < ls.length := by have := of_decide_eq_true hc1; omega
  obtain ⟨l, hl⟩ := get_of_lt hlt
  have hi := map_get (f := fun l => [PV.sl (l.map encStr)]) hl
  have hml2 : (l.map encStr).length = l.length := List.length_map _
  have h1 := hst k l hl
  have h2 := hpre (k + 1)
  have h3 : ((ls.take (k + 1)).flatten).length = ((ls.take k).flatten).length + l.length := by rw [h1, List.length_append]
  have hw : IntKind.i64.wrap ((((ls.take k).flatten).length : Int) + ((l.map encStr).length : Int)) = (((ls.take (k + 1)).flatten).length : Int) := by rw [IntKind.wrap_i64, hml2, h3]; omega
  refine awp_skip<|Sq<|awp_block<|Sq<|Rg<|Dd (xp' so123)<|Dd (lp' Tryz.isAgg33)<|Dd as'<|Zz<|Sq<|Rg<|Dd mv'<|Dd mv'<|Dd (ll' Tryz.underlying33)<|Dd (by exact opd_add rfl rfl rfl hw)<|Dd as'<|Zz<|Sq<|Rg<|Dd mv'<|Dd lss'<|Zz ?_
  refine Cn (fun hc2 => ?_) fun hc2 => ?_
  ·have h := of_decide_eq_true hc2; omega
  skip
  refine awp_skip<|Rg<|Dd ad'<|Dd mv'<|Zz ?_
  exact ⟨k + 1, by omega, by omega, E0⟩
 have hge : k = ls.length := by have := of_decide_eq_false hc1; omega
 subst hge
 rw [List.take_length]
 refine awp_exit<|Sq<|Rg<|Dd mv'<|Dd (by exact opr_call_nil rfl rfl Tryz.call102 rfl (grow_ByteArray ls.flatten.length [] rfl rfl (Closed.of (by simp)) hb))<|Dd as'<|Zz<|Sq<|Sq<|Rg<|Dd mv'<|Dd (ll' Tryz.underlying123)<|Dd mv'<|Zz<|awp_block ?_
 refine awp_loop2 (fun (k : Nat) (g : Nat) => ([(6, .osl 905 g 0 ((ls.take k).flatten.map encStr).length), (25, .pv (.sl (ls.map (fun l => [.sl (l.map encStr)])))), (26, iv ((ls.map (fun l => [PV.sl (l.map encStr)])).length : Int)), (27, iv (k : Int))], [(905, ⟨g, 1, 9, pvR ((ls.take k).flatten.map encStr)⟩)])) (fun k g => k ≤ ls.length) (fun k g => ls.length - k) 0 1 (by omega) ?_ ?_
 ·exact E0
 intro k g hk
 refine Sq<|Rg<|Dd lss'<|Zz<|Sq ?_
 refine Cn (fun hc3 => ?_) fun hc3 => ?_
 ·have hlt : k < ls.length := by have := of_decide_eq_true hc3; omega
  obtain ⟨l, hl⟩ := get_of_lt hlt
  have hi := map_get (f := fun l => [PV.sl (l.map encStr)]) hl
  have hml2 : (l.map encStr).length = l.length := List.length_map _
  have hml3 : ((ls.take k).flatten.map encStr).length = ((ls.take k).flatten).length := List.length_map _
  have h1 := hst k l hl
  have h2 := hpre (k + 1)
  have h3 : ((ls.take (k + 1)).flatten).length = ((ls.take k).flatten).length + l.length := by rw [h1, List.length_append]
  refine awp_skip<|Sq<|awp_block<|Sq<|Rg<|Dd (xp' so123)<|Dd (lp' Tryz.isAgg33)<|Dd as'<|Zz<|Rg<|Dd mv'<|Dd mv'<|Dd (by exact x_append rfl so33 ei9 rfl rfl rfl rfl rfl (pvR_len _) rfl (rl_ByteArray l) rfl (by omega) (by rw [h1, List.map_append, List.length_append] : ((ls.take k).flatten.map encStr).length + (l.map encStr).length = ((ls.take (k + 1)).flatten.map encStr).length) (by rw [h1, List.map_append, pvR, pvR, List.map_append] : pvR ((ls.take k).flatten.map encStr) ++ (l.map encStr).map (·.map .pv) = pvR ((ls.take (k + 1)).flatten.map encStr)))<|Dd as'<|Zz<|Rg<|Dd ad'<|Dd mv'<|Zz ?_
  exact ⟨k + 1, g + 1, by omega, by omega, Ent.dup ⟨⟨_, rfl, rfl⟩, ⟨_, rfl, rfl⟩, ⟨_, rfl, rfl⟩, ⟨_, rfl, rfl⟩, trivial⟩⟩
 have hge : k = ls.length := by have := of_decide_eq_false hc3; omega
 subst hge
 rw [List.take_length]
 refine awp_exit<|Sq<|Rg<|Dd mv'<|Dd as'<|Zz<|awp_ret ?_
 refine aret1 (H' := []) (.inr rfl) rfl (rval_tmp rfl) (Fin.slice0 (id := 905) (ls.flatten.map encStr) rfl rfl rfl rfl) ?_
 exact ⟨rfl, rfl⟩
end Go.Proofs.YtbbnllojhjlaoaaGreat
end
section
set_option linter.unusedVariables false
set_option linter.unusedSimpArgs false
set_option maxRecDepth 100000
namespace Go.Proofs.YtbbnllojhjlaoaaGreat
open Go.Abs
def gDropM (m : List GObj) (id : ByteArray) : List GObj × Int :=
 if !gMap m then ([], 1) else if !hasK GObj.id m id then ([], 11) else (m.take (lbI GObj.id m id) ++ m.drop (lbI GObj.id m id + 1), 0)
theorem drop_c (m : List GObj) (id : ByteArray) (H : Heap) (hm : okM m) (hl : m.length < 1099511627776) : ACalls Tryz.prog 54 [.agg [.pv (slObjs m)], sv id] H (fun r H' => r = .tup [.agg [.pv (slObjs (gDropM m id).1)], iv (gDropM m id).2] ∧ H' = H) := by
 refine ACalls.pure ?_ (by simp) H
 have hml : (m.map encObj).length = m.length := List.length_map _
 have hrl := encObj_rl m
 have hv := fun H => valids_c [m] H (by show 1 < _; omega) (by intro x hx; rw [List.mem_singleton] at hx; subst hx; exact hm)
 rw [show ([m].all gMap) = gMap m by simp] at hv
 refine Bd Tryz.func54 rfl Tryz.ntmps54<|Sq<|Rg<|Dd (by exact opd_box (id := 2) rfl rfl rfl rfl rfl)<|Dd (by exact x_alloc (id := 4) rfl zoN24 rfl rfl)<|Dd as'<|Zz<|Sq<|Sq<|Rg<|Dd (by exact opd_loadn_ref rfl Tryz.isAgg24 Tryz.sizeOf24 rfl rfl rfl rfl (by simp only [Zl, encTag, encObj, encStr, encEdit, encInt]; rfl) rfl)<|Dd (by exact x_buildSlice ([m].map encMap) rfl so152 rfl rfl rfl rfl rfl (by simp [encMap]))<|Dd (by exact opr_call rfl rfl Tryz.call90 rfl (hv _))<|Dd no'<|Zz ?_
 refine Cn (fun hc1 => ?_) fun hc1 => ?_
 ·have e : gDropM m id = ([], 1) := by rw [gDropM, if_pos hc1]
  rw [e]
  refine Sq<|Rg<|Dd (bu' bo24)<|Uu (sa' Tryz.sizeOf24)<|Dd as'<|Zz<|awp_ret ?_
  refine aret2 (H' := []) (.inr rfl) rfl (rval_cell rfl Tryz.isAgg24 Tryz.sizeOf24 rfl rfl rfl (by simp only [Zl, encTag, encObj, encStr, encEdit, encInt]; rfl) rfl) (rval_tmp rfl) (Fin.wk (by simp) trivial trivial) ?_
  exact ⟨rfl, rfl⟩
 have hg : gMap m = true := by
  have h := hc1
  revert h
  cases gMap m <;> simp
 have hu := (gMap_iff.1 hg).2.1
 have hle := lbI_le GObj.id m id
 have hgp : gDropM m id = if !hasK GObj.id m id then ([], 11) else (m.take (lbI GObj.id m id) ++ m.drop (lbI GObj.id m id + 1), 0) := by rw [gDropM, if_neg (by rw [hc1]; simp)]
 obtain ⟨i, hi0⟩ : ∃ i, i = lbI GObj.id m id := ⟨_, rfl⟩
 rw [← hi0] at hgp hle
 have hat := fun H => at_c m id H hl hu
 rw [← hi0] at hat
 refine awp_skip<|Sq<|Rg<|Dd (by exact opd_loadn_ref rfl Tryz.isAgg24 Tryz.sizeOf24 rfl rfl rfl rfl (by simp only [Zl, encTag, encObj, encStr, encEdit, encInt]; rfl) rfl)<|Dd mv'<|Dd (by exact opr_call rfl rfl Tryz.call91 rfl (hat _))<|Dd mv'<|Dd ex'<|Dd ex'<|Dd as'<|Dd as'<|Zz<|Sq<|Sq<|Rg<|Dd mv'<|Dd no'<|Zz ?_
 refine Cn (fun hc2 => ?_) fun hc2 => ?_
 ·rw [hgp, if_pos hc2]
  refine Sq<|Rg<|Dd (bu' bo24)<|Uu (sa' Tryz.sizeOf24)<|Dd as'<|Zz<|awp_ret ?_
  refine aret2 (H' := []) (.inr rfl) rfl (rval_cell rfl Tryz.isAgg24 Tryz.sizeOf24 rfl rfl rfl (by simp only [Zl, encTag, encObj, encStr, encEdit, encInt]; rfl) rfl) (rval_tmp rfl) (Fin.wk (by simp) trivial trivial) ?_
  exact ⟨rfl, rfl⟩
 have hf : hasK GObj.id m id = true := by
  have h := hc2
  revert h
  cases hasK GObj.id m id <;> simp
 obtain ⟨x, hx, hxk⟩ := hasK_get hu hf
 rw [← hi0] at hx
 have hlt := (List.getElem?_eq_some_iff.1 hx).1
 rw [hgp, if_neg (by rw [hc2]; simp)]
 have hw : IntKind.i64.wrap ((i : Int) + 1) = ((i + 1 : Nat) : Int) := by rw [IntKind.wrap_i64]; omega
 have hs : slObjs (m.take i ++ m.drop (i + 1)) = .sl ((m.map encObj).take i ++ (m.map encObj).drop (i + 1)) := by rw [slObjs, List.map_append, List.map_take, List.map_drop]
 rw [hs]
 refine awp_skip<|Sq<|Rg<|Dd (fr' fo24_0)<|Dd (l1' Tryz.isAgg22)<|Dd (by exact opr_call rfl rfl Tryz.call92 rfl (clone_Obj (m.map encObj) _ (Closed.ofL ⟨(by (simp; done)), (by (simp; done)), trivial⟩) rfl rfl (by omega) hrl))<|Dd mv'<|Dd mv'<|Dd (by exact opd_add rfl rfl rfl hw)<|Dd (by exact opr_call rfl rfl Tryz.call94 rfl (delete_Obj (m.map encObj) i (i + 1) 1 _ (Closed.ofL ⟨(by (simp; done)), (by (simp; done)), (by (simp; done)), trivial⟩) rfl (by omega) (by omega) (by omega) hrl))<|Dd (bu' bo24)<|Uu (sa' Tryz.sizeOf24)<|Dd as'<|Zz<|awp_ret ?_
 refine aret2 (H' := []) (.inr rfl) rfl (rl' Tryz.isAgg24 Tryz.sizeOf24) (rval_tmp rfl) (Fin.wk (r := .tup [.agg [.pv (.sl ((m.map encObj).take i ++ (m.map encObj).drop (i + 1)))], iv 0]) (by simp) trivial trivial) ?_
 exact ⟨rfl, rfl⟩
/-- What an edit leads to: objects to put, an Id to drop, an error. -/
structure GRes where
 put : List GObj
 drop : ByteArray
 err : Int
def encRes (r : GRes) : List PV := [slObjs r.put, .str r.drop, .int .i64 r.err]
def errR (n : Int) : GRes := ⟨[], sNil, n⟩
def gSplit (m : List GObj) (e : GEdit) (o : GObj) : GRes :=
 if (kindOf m e.other).isSome then errR 9
 else if decide (gInner o.refs e.node < 0) then errR 12
 else if gRefd m true [e.id] then errR 14
 else ⟨[⟨o.id, o.kind, o.x, o.y, o.refs.take ((gInner o.refs e.node).toNat + 1), o.tags⟩, ⟨e.other, 2, 0, 0, o.refs.drop (gInner o.refs e.node).toNat, o.tags⟩], sNil, 0⟩
theorem gInner_lt {l : List ByteArray} {node : ByteArray} : gInner l node = -1 ∨ ∃ k : Nat, gInner l node = (k : Int) ∧ 0 < k ∧ k + 1 < l.length ∧ l[k]? = some node := by
 unfold gInner
 split
 ·exact .inl rfl
 next h =>
 rw [Bool.not_eq_true] at h
 rw [Bool.or_eq_false_iff, Bool.or_eq_false_iff, decide_eq_false_iff_not, decide_eq_false_iff_not] at h
 rcases gidx_cases (fun x => decide (node = x)) l with ⟨e1, _⟩ | ⟨k, o, e1, e2, e3⟩
 ·omega
 right
 have hlt := (List.getElem?_eq_some_iff.1 e2).1
 have hon : node = o := of_decide_eq_true (show decide (node = o) = true from List.find?_some (p := fun x => decide (node = x)) e3)
 exact ⟨k, e1, by omega, by omega, by rw [hon]; exact e2⟩
/-- A plain result, of a function on a closed map. -/
theorem Fin.cl {m : List GObj} {H1 : Heap} (ps : List PV) (h14 : H1.get 14 = some (cRow m)) (h12 : H1.get 12 = some (kob m)) : Fin (cH m) H1 (av ps) (cH m) (av ps) :=
 Fin.wk (by simp [av]) ⟨⟨_, h14, rfl⟩, by simp; rfl, ⟨_, h12, rfl⟩, kob_clo _ _, trivial⟩ ⟨h14.symm, h12.symm, trivial⟩
theorem split0_c (m : List GObj) (e : GEdit) (o : GObj) (hm : okM m) (hr : o.refs.length < 1099511627776) :
  ACalls Tryz.prog 88 [.ref 14 0 0 0, av (encEdit e), av (encObj o)] (cH m) (fun r H' => r = av (encRes (gSplit m e o)) ∧ H' = cH m) := by
 have hml : (o.refs.map encStr).length = o.refs.length := List.length_map _
 refine Bd Tryz.func88 rfl Tryz.ntmps88<|Sq<|Rg<|Dd (by exact opd_box (id := 4) rfl rfl rfl rfl rfl)<|Dd (by exact opd_box (id := 5) rfl rfl rfl rfl rfl)<|Dd (by exact x_alloc (id := 6) rfl zo85 rfl rfl)<|Zz<|Sq<|Sq ?_
 refine awp_drawc follows ?_
 refine Cq mv'<|Cq nc'<|Cq (fr' fo80_1)<|Cq (l1' Tryz.isAgg78)<|Cq (fr' fo38_2)<|Cq (l1' Tryz.isAgg9)<|Cq (by exact opd_lookup_ok (κ := strK) rfl Tryz.underlying78 Tryz.underlying9 rfl rfl rfl rfl rfl Tryz.zeroValue3 (.inl rfl))<|Cq mv'<|Cq ex'<|Cq ex'<|Cq as'<|Cq as' ?_
 refine dc_nil ⟨by kernel_rfl, ?_⟩
 refine Sq<|Rg<|Dd mv'<|Zz ?_
 refine Cn (fun hc1 => ?_) fun hc1 => ?_
 ·have hk : (kindOf m e.other).isSome = true := by
   rw [kM_kind] at hc1
   cases h : kindOf m e.other with
   | none => rw [h] at hc1; cases hc1
   | some x => rfl
  have hg : gSplit m e o = errR 9 := by rw [gSplit, if_pos hk]
  rw [hg]
  refine Sq<|Rg<|Dd (bu' bo85)<|Uu (sa' Tryz.sizeOf85)<|Zz<|awp_ret ?_
  refine aret1 (H' := (cH m)) (.inr rfl) rfl (rl' Tryz.isAgg85 Tryz.sizeOf85) (Fin.cl (m := m) (encRes (errR 9)) rfl rfl) ?_
  exact ⟨rfl, rfl⟩
 have hk : kindOf m e.other = none := by
  rw [kM_kind] at hc1
  cases h : kindOf m e.other with
  | none => rfl
  | some x => rw [h] at hc1; cases hc1
 have hg : gSplit m e o = (if decide (gInner o.refs e.node < 0) then errR 12 else if gRefd m true [e.id] then errR 14 else ⟨[⟨o.id, o.kind, o.x, o.y, o.refs.take ((gInner o.refs e.node).toNat + 1), o.tags⟩, ⟨e.other, 2, 0, 0, o.refs.drop (gInner o.refs e.node).toNat, o.tags⟩], sNil, 0⟩) := by
  rw [gSplit, if_neg (by rw [hk]; simp)]
 have hin := fun H => inner_c o.refs e.node H hr
 refine awp_skip<|Sq<|Rg<|Dd (fr' fo36_3)<|Dd (l1' Tryz.isAgg33)<|Dd (fr' fo38_3)<|Dd (l1' Tryz.isAgg9)<|Dd (by exact opr_call rfl rfl Tryz.call63 rfl (hin _))<|Dd as'<|Zz<|Sq<|awp_block<|Sq<|Rg<|Dd mv'<|Dd lss'<|Dd as'<|Zz ?_
 refine Cn (fun hc2 => ?_) fun hc2 => ?_
 ·rw [hg, if_pos hc2]
  refine Sq<|Rg<|Dd (bu' bo85)<|Uu (sa' Tryz.sizeOf85)<|Zz<|awp_ret ?_
  refine aret1 (H' := (cH m)) (.inr rfl) rfl (rl' Tryz.isAgg85 Tryz.sizeOf85) (Fin.cl (m := m) (encRes (errR 12)) rfl rfl) ?_
  exact ⟨rfl, rfl⟩
 rw [hg, if_neg (by rw [hc2]; simp)]
 refine Sq<|Rg<|Dd mv'<|Dd (fr' fo38_1)<|Dd (l1' Tryz.isAgg9)<|Dd (by exact x_buildSlice ([e.id].map encStr) rfl so33 rfl rfl rfl rfl rfl (by simp [encStr]))<|Dd (by exact opr_call rfl rfl Tryz.call87 rfl (refd_c m true [e.id] _ rfl rfl hm (by show 1 < _; omega)))<|Dd as'<|Zz ?_
 refine Cn (fun hc3 => ?_) fun hc3 => ?_
 ·rw [if_pos hc3]
  refine Sq<|Rg<|Dd (bu' bo85)<|Uu (sa' Tryz.sizeOf85)<|Zz<|awp_ret ?_
  refine aret1 (H' := (cH m)) (.inr rfl) rfl (rl' Tryz.isAgg85 Tryz.sizeOf85) (Fin.cl (m := m) (encRes (errR 14)) rfl rfl) ?_
  exact ⟨rfl, rfl⟩
 rw [if_neg (by rw [hc3]; simp)]
 rcases gInner_lt (l := o.refs) (node := e.node) with h | ⟨k, h, k0, k1, k2⟩
 ·rw [h] at hc2; cases hc2
 rw [h]
 have hw : IntKind.i64.wrap ((k : Int) + 1) = ((k + 1 : Nat) : Int) := by rw [IntKind.wrap_i64]; omega
 have e5 : ((k : Int)).toNat = k := by omega
 rw [e5]
 refine awp_skip<|Sq ?_
 refine awp_drawc follows ?_
 refine Cr [4] (fun _ h => fh fo38_2 h)<|Cr [4] (fun _ h => lh Tryz.isAgg9 h)<|Cr [5] (fun _ h => fh fo36_3 h)<|Cr [5] (fun _ h => lh Tryz.isAgg33 h)<|Cr [] (fun _ _ => mv')<|Cr [] (fun H1 hH => by exact x_slice_sl (l := k) (h := (o.refs.map encStr).length) (rows' := (o.refs.drop k).map encStr) rfl so33 rfl (rl_ByteArray o.refs) rfl rfl (by omega) (Nat.le_refl _) (by rw [List.take_length]; exact List.map_drop.symm))<|Cr [] (fun H1 hH => by exact opr_call rfl rfl Tryz.call128 rfl (cloneF_ByteArray (o.refs.drop k) _ (by rw [List.length_drop]; omega)))<|Cr [5] (fun _ h => fh fo36_4 h)<|Cr [5] (fun _ h => lh Tryz.isAgg34 h)<|Cr [] (fun _ _ => (bu' bo36))<|Cp [10] (fun H1 hH => by exact x_alloc (id := 10) rfl zo36 rfl ((hH _ rfl).trans rfl))<|Cp [10] (fun H1 hH => by exact x_store_all rfl Tryz.sizeOf36 rfl rfl rfl rfl ((hH _ rfl).trans rfl) rfl rfl rfl) ?_
 refine dc_nil ⟨by kernel_rfl, ?_⟩
 refine Sq<|Rg<|Dd (fr' fo36_3)<|Dd (l1' Tryz.isAgg33)<|Dd mv'<|Dd (by exact opd_add rfl rfl rfl hw)<|Dd (by exact x_slice_sl (l := 0) (h := k + 1) (rows' := (o.refs.take (k + 1)).map encStr) rfl so33 rfl (rl_ByteArray o.refs) rfl rfl (by omega) (by omega) (by rw [List.drop_zero]; exact List.map_take.symm))<|Dd (by exact opr_call rfl rfl Tryz.call128 rfl (cloneF_ByteArray (o.refs.take (k + 1)) _ (by rw [List.length_take]; omega)))<|Dd (fr' fo36_3)<|Uu (by exact x_store1 rfl Tryz.sizeOf33 rfl rfl rfl rfl rfl rfl (Nat.le_of_ble_eq_true rfl) rfl rfl)<|Zz<|Sq<|Rg<|Dd (ln' Tryz.isAgg36 Tryz.sizeOf36)<|Dd (ln' Tryz.isAgg36 Tryz.sizeOf36)<|Dd (by exact x_buildSlice ([(⟨o.id, o.kind, o.x, o.y, o.refs.take (k + 1), o.tags⟩ : GObj), ⟨e.other, 2, 0, 0, o.refs.drop k, o.tags⟩].map encObj) rfl so22 rfl rfl rfl rfl rfl (by simp [encObj]))<|Dd (bu' bo85)<|Uu (sa' Tryz.sizeOf85)<|Zz<|awp_ret ?_
 refine aret1 (H' := (cH m)) (.inr rfl) rfl (rl' Tryz.isAgg85 Tryz.sizeOf85) (Fin.cl (m := m) (encRes ⟨[⟨o.id, o.kind, o.x, o.y, o.refs.take (k + 1), o.tags⟩, ⟨e.other, 2, 0, 0, o.refs.drop k, o.tags⟩], sNil, 0⟩) rfl rfl) ?_
 exact ⟨rfl, rfl⟩
end Go.Proofs.YtbbnllojhjlaoaaGreat
end
section
set_option linter.unusedVariables false
set_option linter.unusedSimpArgs false
set_option maxRecDepth 100000
namespace Go.Proofs.YtbbnllojhjlaoaaGreat
open Go.Abs
def atS (l : List ByteArray) (k : Nat) : ByteArray := (l[k]?).getD sNil
theorem atS_some {l : List ByteArray} {k : Nat} {s : ByteArray} (h : l[k]? = some s) : atS l k = s := by rw [atS, h]; rfl
def gJoin (m : List GObj) (e : GEdit) (o x : GObj) : GRes :=
 if !decide (x.kind = 2) then errR 13
 else if decide (e.id = e.other) || !decide (atS o.refs (o.refs.length - 1) = atS x.refs 0) then errR 12
 else if gRefd m true [e.id, e.other] then errR 14
 else if decide (2000 < o.refs.length + x.refs.length - 1) then errR 2
 else ⟨[⟨o.id, o.kind, o.x, o.y, [o.refs, x.refs.drop 1].flatten, o.tags⟩], e.other, 0⟩
theorem join0_c (m : List GObj) (e : GEdit) (o x : GObj) (hm : okM m) (hr : o.refs.length < 549755813888) (hr2 : x.refs.length < 549755813888) (hx : m.find? (idIs e.other) = some x) (ho : 0 < o.refs.length) (hx2 : x.kind = 2 → 0 < x.refs.length) :
  ACalls Tryz.prog 89 [.ref 14 0 0 0, av (encEdit e), av (encObj o)] (cH m) (fun r H' => r = av (encRes (gJoin m e o x)) ∧ H' = cH m) := by
 have hml : (o.refs.map encStr).length = o.refs.length := List.length_map _
 have hml2 : (x.refs.map encStr).length = x.refs.length := List.length_map _
 refine Bd Tryz.func89 rfl Tryz.ntmps89<|Sq<|Rg<|Dd (by exact opd_box (id := 4) rfl rfl rfl rfl rfl)<|Dd (by exact opd_box (id := 5) rfl rfl rfl rfl rfl)<|Dd (by exact x_alloc (id := 6) rfl zo85 rfl rfl)<|Zz<|Sq<|Rg<|Dd mv'<|Dd (fr' fo38_2)<|Dd (l1' Tryz.isAgg9)<|Dd (by exact opr_call rfl rfl Tryz.call30 rfl (get_c m e.other x _ rfl rfl hm hx))<|Dd (by exact x_alloc (id := 7) rfl zo36 rfl rfl)<|Uu (sa' Tryz.sizeOf36)<|Zz<|Sq<|awp_block<|Sq<|Rg<|Dd (fr' fo36_1)<|Dd (l1' Tryz.isAgg3)<|Dd ne'<|Dd as'<|Zz ?_
 refine Cn (fun hc1 => ?_) fun hc1 => ?_
 ·rw [gJoin, if_pos hc1]
  refine Sq<|Rg<|Dd (bu' bo85)<|Uu (sa' Tryz.sizeOf85)<|Zz<|awp_ret ?_
  refine aret1 (H' := (cH m)) (.inr rfl) rfl (rl' Tryz.isAgg85 Tryz.sizeOf85) (Fin.cl (m := m) (encRes (errR 13)) rfl rfl) ?_
  exact ⟨rfl, rfl⟩
 have hk2 : x.kind = 2 := by
  have h := hc1
  simpa using h
 rw [gJoin, if_neg (by rw [hc1]; simp)]
 obtain ⟨la, hla⟩ := get_of_lt (l := o.refs) (k := o.refs.length - 1) (by omega)
 obtain ⟨fi, hfi⟩ := get_of_lt (l := x.refs) (k := 0) (hx2 hk2)
 have hi := map_get (f := encStr) hla
 have hi0 := map_get (f := encStr) hfi
 have hw : IntKind.i64.wrap (((o.refs.map encStr).length : Int) - 1) = ((o.refs.length - 1 : Nat) : Int) := by rw [IntKind.wrap_i64, hml]; omega
 rw [atS_some hla, atS_some hfi]
 refine Sq ?_
 refine awp_mergeR (t := 17) (n := 21) (X := decide (e.id = e.other) || !decide (la = fi)) ?_ ?_
 ·cases hg23 : (decide (e.id = e.other) : Bool)
  ·refine awp_drawc follows ?_
   refine Cq (fr' fo38_1)<|Cq (l1' Tryz.isAgg9)<|Cq (fr' fo38_2)<|Cq (l1' Tryz.isAgg9)<|Cq se'<|Cq mv'<|Nf (fr' fo36_3)<|Nf (l1' Tryz.isAgg33)<|Nf (fr' fo36_3)<|Nf (l1' Tryz.isAgg33)<|Nf (ll' Tryz.underlying33)<|Nf (by exact opd_sub rfl rfl rfl hw)<|Nf (by exact x_index_pad rfl so33 rfl rfl (by omega) (by exact Int.toNat_natCast _) hi rfl)<|Nf (lp' Tryz.isAgg9)<|Nf (fr' fo36_3)<|Nf (l1' Tryz.isAgg33)<|Nf (by exact x_index_pad rfl so33 rfl rfl (by omega) (by exact Int.toNat_natCast _) hi0 rfl)<|Nf (lp' Tryz.isAgg9)<|Nf sn'<|Cq pf'<|Cq as' ?_
   refine dc_nil ⟨by kernel_rfl, ?_⟩
   exact ⟨rfl, ⟨_, rfl, by rfl⟩, rfl, rfl, rfl⟩
  refine awp_drawc follows ?_
  refine Cq (fr' fo38_1)<|Cq (l1' Tryz.isAgg9)<|Cq (fr' fo38_2)<|Cq (l1' Tryz.isAgg9)<|Cq se'<|Cq mv'<|Of<|Of<|Of<|Of<|Of<|Of<|Of<|Of<|Of<|Of<|Of<|Of<|Of<|Cq pt'<|Cq as' ?_
  refine dc_nil ⟨by kernel_rfl, ?_⟩
  exact ⟨rfl, ⟨_, rfl, by rfl⟩, rfl, rfl, rfl⟩
 refine Cn (fun hc2 => ?_) fun hc2 => ?_
 ·rw [if_pos hc2]
  refine Sq<|Rg<|Dd (bu' bo85)<|Uu (sa' Tryz.sizeOf85)<|Zz<|awp_ret ?_
  refine aret1 (H' := (cH m)) (.inr rfl) rfl (rl' Tryz.isAgg85 Tryz.sizeOf85) (Fin.cl (m := m) (encRes (errR 12)) rfl rfl) ?_
  exact ⟨rfl, rfl⟩
 rw [if_neg (by rw [hc2]; simp)]
 refine Sq<|Rg<|Dd mv'<|Dd (fr' fo38_1)<|Dd (l1' Tryz.isAgg9)<|Dd (fr' fo38_2)<|Dd (l1' Tryz.isAgg9)<|Dd (by exact x_buildSlice ([e.id, e.other].map encStr) rfl so33 rfl rfl rfl rfl rfl (by simp [encStr]))<|Dd (by exact opr_call rfl rfl Tryz.call87 rfl (refd_c m true [e.id, e.other] _ rfl rfl hm (by show 2 < _; omega)))<|Dd as'<|Zz ?_
 refine Cn (fun hc3 => ?_) fun hc3 => ?_
 ·rw [if_pos hc3]
  refine Sq<|Rg<|Dd (bu' bo85)<|Uu (sa' Tryz.sizeOf85)<|Zz<|awp_ret ?_
  refine aret1 (H' := (cH m)) (.inr rfl) rfl (rl' Tryz.isAgg85 Tryz.sizeOf85) (Fin.cl (m := m) (encRes (errR 14)) rfl rfl) ?_
  exact ⟨rfl, rfl⟩
 rw [if_neg (by rw [hc3]; simp)]
 have hx0 := hx2 hk2
 have hw2 : IntKind.i64.wrap (((o.refs.map encStr).length : Int) + ((x.refs.map encStr).length : Int)) = ((o.refs.length + x.refs.length : Nat) : Int) := by rw [IntKind.wrap_i64, hml, hml2]; omega
 have hw3 : IntKind.i64.wrap (((o.refs.length + x.refs.length : Nat) : Int) - 1) = ((o.refs.length + x.refs.length - 1 : Nat) : Int) := by rw [IntKind.wrap_i64]; omega
 refine Sq<|Rg<|Dd (fr' fo36_3)<|Dd (l1' Tryz.isAgg33)<|Dd (ll' Tryz.underlying33)<|Dd (fr' fo36_3)<|Dd (l1' Tryz.isAgg33)<|Dd (ll' Tryz.underlying33)<|Dd (by exact opd_add rfl rfl rfl hw2)<|Dd (by exact opd_sub rfl rfl rfl hw3)<|Dd gt'<|Dd as'<|Zz ?_
 refine Cn (fun hc4 => ?_) fun hc4 => ?_
 ·have h : 2000 < o.refs.length + x.refs.length - 1 := by have h := of_decide_eq_true hc4; omega
  rw [if_pos (decide_eq_true h)]
  refine Sq<|Rg<|Dd (bu' bo85)<|Uu (sa' Tryz.sizeOf85)<|Zz<|awp_ret ?_
  refine aret1 (H' := (cH m)) (.inr rfl) rfl (rl' Tryz.isAgg85 Tryz.sizeOf85) (Fin.cl (m := m) (encRes (errR 2)) rfl rfl) ?_
  exact ⟨rfl, rfl⟩
 have h : ¬ 2000 < o.refs.length + x.refs.length - 1 := by have h := of_decide_eq_false hc4; omega
 rw [if_neg (by rw [decide_eq_false h]; simp)]
 have hfl : [o.refs, x.refs.drop 1].flatten.length < 1099511627776 := by simp; omega
 refine awp_skip<|Sq ?_
 refine awp_drawc follows ?_
 refine Cr [5] (fun _ h => fh fo36_3 h)<|Cr [5] (fun _ h => lh Tryz.isAgg33 h)<|Cr [7] (fun _ h => fh fo36_3 h)<|Cr [7] (fun _ h => lh Tryz.isAgg33 h)<|Cr [] (fun H1 hH => by exact x_slice_sl (l := 1) (h := (x.refs.map encStr).length) (rows' := (x.refs.drop 1).map encStr) rfl so33 rfl (rl_ByteArray x.refs) rfl rfl (by omega) (Nat.le_refl _) (by rw [List.take_length]; exact List.map_drop.symm))<|Cr [] (fun H1 hH => by exact by apply x_buildSlice (ps := [o.refs, x.refs.drop 1].map (fun l => [PV.sl (l.map encStr)])) (hS := so123) <;> first | rfl | simp)<|Cr [] (fun H1 hH => by exact opr_call rfl rfl Tryz.call64 rfl (concat_ByteArray [o.refs, x.refs.drop 1] _ (by show 2 < _; omega) hfl))<|Cr [5] (fun _ h => fh fo36_3 h)<|Cp [5] (fun H1 hH => by exact x_store1 rfl Tryz.sizeOf33 rfl rfl rfl ((hH _ rfl).trans rfl) rfl rfl (Nat.le_of_ble_eq_true rfl) rfl rfl) ?_
 refine dc_nil ⟨by kernel_rfl, ?_⟩
 refine Sq<|Rg<|Dd (ln' Tryz.isAgg36 Tryz.sizeOf36)<|Dd (by exact x_buildSlice ([(⟨o.id, o.kind, o.x, o.y, [o.refs, x.refs.drop 1].flatten, o.tags⟩ : GObj)].map encObj) rfl so22 rfl rfl rfl rfl rfl (by simp [encObj]))<|Dd (fr' fo38_2)<|Dd (l1' Tryz.isAgg9)<|Dd (bu' bo85)<|Uu (sa' Tryz.sizeOf85)<|Zz<|awp_ret ?_
 refine aret1 (H' := (cH m)) (.inr rfl) rfl (rl' Tryz.isAgg85 Tryz.sizeOf85) (Fin.cl (m := m) (encRes ⟨[⟨o.id, o.kind, o.x, o.y, [o.refs, x.refs.drop 1].flatten, o.tags⟩], e.other, 0⟩) rfl rfl) ?_
 exact ⟨rfl, rfl⟩
end Go.Proofs.YtbbnllojhjlaoaaGreat
end
section
set_option linter.unusedVariables false
set_option linter.unusedSimpArgs false
set_option maxRecDepth 100000
namespace Go.Proofs.YtbbnllojhjlaoaaGreat
open Go.Abs
section
variable {N : Nat} {o : Oper} {E : Env} {H : Heap} {x y : Operand}
theorem lk_some {m : List GObj} {s : ByteArray} {k : Int} (ho : o.op = .lookup 78 x y true) (hx : aeval E x = some (.mp 12 0)) (hH : H.get 12 = some (kob m)) (hy : aeval E y = some (sv s)) (hk : kindOf m s = some k) : OpD Tryz.prog N o E H (.tup [iv k, bv true]) H := by
 have h := opd_lookup_ok (N := N) (κ := strK) ho Tryz.underlying78 Tryz.underlying9 hx hH rfl rfl hy Tryz.zeroValue3 (.inl rfl)
 rw [kM_kind, hk] at h
 exact h
theorem lk_none {m : List GObj} {s : ByteArray} (ho : o.op = .lookup 78 x y true) (hx : aeval E x = some (.mp 12 0)) (hH : H.get 12 = some (kob m)) (hy : aeval E y = some (sv s)) (hk : kindOf m s = none) : OpD Tryz.prog N o E H (.tup [iv 0, bv false]) H := by
 have h := opd_lookup_ok (N := N) (κ := strK) ho Tryz.underlying78 Tryz.underlying9 hx hH rfl rfl hy Tryz.zeroValue3 (.inl rfl)
 rw [kM_kind, hk] at h
 exact h
theorem lk_c {m : List GObj} {s : ByteArray} (ho : o.op = .lookup 78 x y true) (hx : aeval E x = some (.mp 12 0)) (hH : H.get 12 = some (kob m)) (hy : aeval E y = some (sv s)) : OpD Tryz.prog N o E H (.tup [iv ((kindOf m s).getD 0), bv (kindOf m s).isSome]) H := by
 cases hk : kindOf m s with
 | none => exact lk_none ho hx hH hy hk
 | some k => exact lk_some ho hx hH hy hk
end
def fitsB (op kind : Int) : Bool := if op = 2 then decide (kind = 1) else if op = 4 then (decide (kind = 2) || (decide (kind = 3) || decide (kind = 4))) else if op = 6 || op = 7 then decide (kind = 2) else true
def gPerform (m : List GObj) (e : GEdit) : GRes :=
 if e.op = 1 then (if (kindOf m e.obj.id).isSome then errR 9 else ⟨[e.obj], sNil, refErr m e.obj.kind 0 e.obj.refs⟩)
 else match m.find? (idIs e.id) with
 | none => errR 11
 | some o =>
  if decide (e.op = 7) && (m.find? (idIs e.other)).isNone then errR 11
  else if !fitsB e.op o.kind then errR 13
  else if e.op = 2 then ⟨[⟨o.id, o.kind, e.x, e.y, o.refs, o.tags⟩], sNil, 0⟩
  else if e.op = 3 then (if !decide ((gSet o.tags e.key e.val).2 = 0) then errR (gSet o.tags e.key e.val).2 else ⟨[⟨o.id, o.kind, o.x, o.y, o.refs, (gSet o.tags e.key e.val).1⟩], sNil, 0⟩)
  else if e.op = 4 then (if !gObj ⟨o.id, o.kind, o.x, o.y, e.refs, o.tags⟩ then errR 1 else ⟨[⟨o.id, o.kind, o.x, o.y, e.refs, o.tags⟩], sNil, refErr m o.kind 0 e.refs⟩)
  else if e.op = 5 then (if gRefd m false [e.id] then errR 14 else ⟨[], e.id, 0⟩)
  else if e.op = 6 then gSplit m e o
  else gJoin m e o ((m.find? (idIs e.other)).getD zObj)
theorem kindOf_some {m : List GObj} {s : ByteArray} {o : GObj} (h : m.find? (idIs s) = some o) : kindOf m s = some o.kind := by rw [kindOf, h]; rfl
theorem kindOf_none {m : List GObj} {s : ByteArray} (h : m.find? (idIs s) = none) : kindOf m s = none := by rw [kindOf, h]; rfl
theorem refsC_c (m : List GObj) (o : GObj) (H : Heap) (h14 : H.get 14 = some (cRow m)) (h12 : H.get 12 = some (kob m)) (hl : o.refs.length < 4611686018427387904) : ACalls Tryz.prog 51 [.ref 14 0 0 0, av (encObj o)] H (fun r H' => r = iv (refErr m o.kind 0 o.refs) ∧ H' = H) :=
 cl_c (refs_c m o (cH m) rfl rfl rfl (Closed.ofL ⟨(by (simp; rfl)), (by exact kob_clo _ _), trivial⟩) hl) h14 h12 (by simp; rfl)
theorem perf1_c (m : List GObj) (e : GEdit) (hm : okM m) (he : e.op = 1) (hr : e.obj.refs.length < 4611686018427387904) :
  ACalls Tryz.prog 52 [.ref 14 0 0 0, av (encEdit e)] (cH m) (fun r H' => r = av (encRes (gPerform m e)) ∧ H' = cH m) := by
 rw [gPerform, if_pos he]
 refine Bd Tryz.func52 rfl Tryz.ntmps52<|Sq<|Rg<|Dd (by exact opd_box (id := 3) rfl rfl rfl rfl rfl)<|Dd (by exact x_alloc (id := 4) rfl zo85 rfl rfl)<|Zz<|Sq<|Sq<|Rg<|Dd (fr' fo38_0)<|Dd (l1' Tryz.isAgg3)<|Dd eql'<|Zz ?_
 refine Cn (fun hc1 => ?_) fun hc1 => ?_
 ·cases hf : kindOf m e.obj.id with
  | some k =>
   rw [if_pos (show (some k).isSome = true from rfl)]
   refine Sq<|Sq ?_
   refine awp_drawc follows ?_
   refine Cq mv'<|Cq nc'<|Cq (fr' fo80_1)<|Cq (l1' Tryz.isAgg78)<|Cq (fr' fo38_8)<|Cq (fr' fo36_0)<|Cq (l1' Tryz.isAgg9)<|Cq (by exact lk_some rfl rfl rfl rfl hf)<|Cq mv'<|Cq ex'<|Cq ex'<|Cq as'<|Cq as' ?_
   refine dc_nil ⟨by kernel_rfl, ?_⟩
   refine Sq<|Rg<|Dd mv'<|Zz ?_
   refine Cn (fun hc2 => ?_) fun hc2 => ?_
   ·skip
    refine Sq<|Rg<|Dd (bu' bo85)<|Uu (sa' Tryz.sizeOf85)<|Zz<|awp_ret ?_
    refine aret1 (H' := (cH m)) (.inr rfl) rfl (rl' Tryz.isAgg85 Tryz.sizeOf85) (Fin.cl (m := m) (encRes (errR 9)) rfl rfl) ?_
    exact ⟨rfl, rfl⟩
   cases hc2
  | none =>
   rw [if_neg (show ¬ (none : Option Int).isSome = true by simp)]
   refine Sq<|Sq ?_
   refine awp_drawc follows ?_
   refine Cq mv'<|Cq nc'<|Cq (fr' fo80_1)<|Cq (l1' Tryz.isAgg78)<|Cq (fr' fo38_8)<|Cq (fr' fo36_0)<|Cq (l1' Tryz.isAgg9)<|Cq (by exact lk_none rfl rfl rfl rfl hf)<|Cq mv'<|Cq ex'<|Cq ex'<|Cq as'<|Cq as' ?_
   refine dc_nil ⟨by kernel_rfl, ?_⟩
   refine Sq<|Rg<|Dd mv'<|Zz ?_
   refine Cn (fun hc3 => ?_) fun hc3 => ?_
   ·cases hc3
   skip
   refine awp_skip<|Sq ?_
   refine awp_drawc follows ?_
   refine Cr [3] (fun _ h => fh fo38_8 h)<|Cr [3] (fun H1 hH => by exact opd_loadn_ref rfl Tryz.isAgg36 Tryz.sizeOf36 rfl ((hH _ rfl).trans rfl) rfl rfl (by simp only [Zl, encTag, encObj, encStr, encEdit, encInt]; rfl) rfl)<|Cr [] (fun H1 hH => by exact x_buildSlice ([e.obj].map encObj) rfl so22 rfl rfl rfl rfl rfl (by simp [encObj]))<|Cr [14] (fun _ _ => mv')<|Cr [3] (fun _ h => fh fo38_8 h)<|Cr [3] (fun H1 hH => by exact opd_loadn_ref rfl Tryz.isAgg36 Tryz.sizeOf36 rfl ((hH _ rfl).trans rfl) rfl rfl (by simp only [Zl, encTag, encObj, encStr, encEdit, encInt]; rfl) rfl)<|Cr [14, 12] (fun H1 hH => by exact opr_call rfl rfl Tryz.call51 rfl (refsC_c m e.obj _ ((hH 14 rfl).trans rfl) ((hH 12 rfl).trans rfl) hr))<|Cr [] (fun _ _ => (bu' bo85))<|Cp [4] (fun H1 hH => by exact x_store_all rfl Tryz.sizeOf85 rfl rfl rfl rfl ((hH _ rfl).trans rfl) rfl rfl rfl) ?_
   refine dc_nil ⟨by kernel_rfl, ?_⟩
   refine awp_ret ?_
   refine aret1 (H' := (cH m)) (.inr rfl) rfl (rl' Tryz.isAgg85 Tryz.sizeOf85) (Fin.cl (m := m) (encRes ⟨[e.obj], sNil, refErr m e.obj.kind 0 e.obj.refs⟩) rfl rfl) ?_
   exact ⟨rfl, rfl⟩
 have := of_decide_eq_false hc1
 exact absurd he this
theorem perf2_c (m : List GObj) (id other node : ByteArray) (x y : Int) (key val : ByteArray) (refs : List ByteArray) (obj : GObj) (hm : okM m) (ho9 : ∀ o, o ∈ m → o.refs.length < 549755813888 ∧ o.tags.length < 1099511627776) :
  ACalls Tryz.prog 52 [.ref 14 0 0 0, av (encEdit ⟨2, id, other, node, x, y, key, val, refs, obj⟩)] (cH m) (fun r H' => r = av (encRes (gPerform m ⟨2, id, other, node, x, y, key, val, refs, obj⟩)) ∧ H' = cH m) := by
 rw [gPerform, if_neg (show ¬ ((2 : Int) = 1) by decide)]
 simp only
 refine Bd Tryz.func52 rfl Tryz.ntmps52<|Sq<|Rg<|Dd (by exact opd_box (id := 3) rfl rfl rfl rfl rfl)<|Dd (by exact x_alloc (id := 4) rfl zo85 rfl rfl)<|Zz<|Sq<|Sq<|Rg<|Dd (fr' fo38_0)<|Dd (l1' Tryz.isAgg3)<|Dd eql'<|Zz ?_
 refine Cn (fun hc1 => ?_) fun hc1 => ?_
 ·cases hc1
 skip
 cases hf : m.find? (idIs id) with
 | none =>
  refine awp_skip<|Sq ?_
  refine awp_drawc follows ?_
  refine Cq mv'<|Cq nc'<|Cq (fr' fo80_1)<|Cq (l1' Tryz.isAgg78)<|Cq (fr' fo38_1)<|Cq (l1' Tryz.isAgg9)<|Cq (by exact lk_none rfl rfl rfl rfl (kindOf_none hf))<|Cq mv'<|Cq ex'<|Cq ex'<|Cq as'<|Cq as' ?_
  refine dc_nil ⟨by kernel_rfl, ?_⟩
  refine Sq<|Sq ?_
  refine awp_drawc follows ?_
  refine Cq mv'<|Cq nc'<|Cq (fr' fo80_1)<|Cq (l1' Tryz.isAgg78)<|Cq (fr' fo38_2)<|Cq (l1' Tryz.isAgg9)<|Cq (by exact lk_c rfl rfl rfl rfl)<|Cq mv'<|Cq ex'<|Cq ex'<|Cq as'<|Cq as' ?_
  refine dc_nil ⟨by kernel_rfl, ?_⟩
  refine Sq<|Rg<|Dd mv'<|Dd no'<|Dd mv' ?_
  refine al_off rfl rfl rfl (by rfl) rfl ?_
  refine al_off rfl rfl rfl (by rfl) rfl ?_
  refine al_off rfl rfl rfl (by rfl) rfl ?_
  refine al_off rfl rfl rfl (by rfl) rfl ?_
  refine al_offu rfl rfl rfl rfl ?_
  refine al_offu rfl rfl rfl rfl ?_
  refine al_off rfl rfl rfl (by rfl) rfl ?_
  refine Dd pk'<|Zz ?_
  refine Cn (fun hc2 => ?_) fun hc2 => ?_
  ·skip
   refine Sq<|Rg<|Dd (bu' bo85)<|Uu (sa' Tryz.sizeOf85)<|Zz<|awp_ret ?_
   refine aret1 (H' := (cH m)) (.inr rfl) rfl (rl' Tryz.isAgg85 Tryz.sizeOf85) (Fin.cl (m := m) (encRes (errR 11)) rfl rfl) ?_
   exact ⟨rfl, rfl⟩
  cases hc2
 | some o =>
  simp only [show decide ((2 : Int) = 7) = false from rfl, Bool.false_and, Bool.false_eq_true, if_false, if_true]
  have hom := List.mem_of_find?_eq_some hf
  obtain ⟨ho1, ho2⟩ := ho9 o hom
  have hoo := hm.2 o hom
  refine awp_skip<|Sq ?_
  refine awp_drawc follows ?_
  refine Cq mv'<|Cq nc'<|Cq (fr' fo80_1)<|Cq (l1' Tryz.isAgg78)<|Cq (fr' fo38_1)<|Cq (l1' Tryz.isAgg9)<|Cq (by exact lk_some rfl rfl rfl rfl (kindOf_some hf))<|Cq mv'<|Cq ex'<|Cq ex'<|Cq as'<|Cq as' ?_
  refine dc_nil ⟨by kernel_rfl, ?_⟩
  refine Sq<|Sq ?_
  refine awp_drawc follows ?_
  refine Cq mv'<|Cq nc'<|Cq (fr' fo80_1)<|Cq (l1' Tryz.isAgg78)<|Cq (fr' fo38_2)<|Cq (l1' Tryz.isAgg9)<|Cq (by exact lk_c rfl rfl rfl rfl)<|Cq mv'<|Cq ex'<|Cq ex'<|Cq as'<|Cq as' ?_
  refine dc_nil ⟨by kernel_rfl, ?_⟩
  refine Sq<|Rg<|Dd mv'<|Dd no'<|Dd mv' ?_
  refine al_ond rfl rfl rfl (by rfl) rfl rfl (by exact opd_field_ref rfl fo38_0 rfl rfl rfl rfl) ?_
  refine al_ond rfl rfl rfl (by rfl) rfl rfl (by exact opd_load1_ref rfl Tryz.isAgg3 rfl rfl rfl rfl rfl) ?_
  refine al_ond rfl rfl rfl (by rfl) rfl rfl (by exact opd_eql rfl rfl rfl) ?_
  refine al_ond rfl rfl rfl (by rfl) rfl rfl (by exact opd_move rfl rfl) ?_
  refine al_off rfl rfl rfl (by rfl) rfl ?_
  refine al_off rfl rfl rfl (by rfl) rfl ?_
  refine al_ond rfl rfl rfl (by rfl) rfl rfl (by exact opd_pick_f rfl rfl rfl) ?_
  refine Dd pk'<|Zz ?_
  refine Cn (fun hc3 => ?_) fun hc3 => ?_
  ·cases hc3
  skip
  refine awp_skip<|Sq<|Rg<|Dd mv'<|Dd (fr' fo38_1)<|Dd (l1' Tryz.isAgg9)<|Dd (by exact opr_call rfl rfl Tryz.call30 rfl (get_c m id o _ rfl rfl hm hf))<|Dd (by exact x_alloc (id := 11) rfl zo36 rfl rfl)<|Uu (sa' Tryz.sizeOf36)<|Zz<|Sq<|Rg<|Dd (by exact opd_makeMap (id := 77) (intK .i64) rfl rfl)<|Dd (by exact x_buildSlice ([(1 : Int)].map encInt) rfl so109 rfl rfl rfl rfl rfl (by simp [encInt]))<|Uu (by exact x_mapUpdate (κ := (intK .i64)) (.inr rfl) Tryz.underlying110 Tryz.underlying3 rfl rfl rfl rfl rfl rfl rfl rfl)<|Dd (by exact x_buildSlice ([(2 : Int), 3, 4].map encInt) rfl so109 rfl rfl rfl rfl rfl (by simp [encInt]))<|Uu (by exact x_mapUpdate (κ := (intK .i64)) (.inr rfl) Tryz.underlying110 Tryz.underlying3 rfl rfl rfl rfl rfl rfl rfl rfl)<|Dd (by exact x_buildSlice ([(2 : Int)].map encInt) rfl so109 rfl rfl rfl rfl rfl (by simp [encInt]))<|Uu (by exact x_mapUpdate (κ := (intK .i64)) (.inr rfl) Tryz.underlying110 Tryz.underlying3 rfl rfl rfl rfl rfl rfl rfl rfl) ?_
  refine Dd (by exact x_buildSlice ([(2 : Int)].map encInt) rfl so109 rfl rfl rfl rfl rfl (by simp [encInt]))<|Uu (by exact x_mapUpdate (κ := (intK .i64)) (.inr rfl) Tryz.underlying110 Tryz.underlying3 rfl rfl rfl rfl rfl rfl rfl rfl)<|Dd mv'<|Dd as'<|Zz<|Sq<|Sq<|Rg<|Dd mv'<|Dd (fr' fo38_0)<|Dd (l1' Tryz.isAgg3)<|Dd (by exact opd_lookup_ok (κ := (intK .i64)) rfl Tryz.underlying110 Tryz.underlying3 rfl rfl rfl rfl rfl Tryz.zeroValue109 (.inl rfl))<|Dd mv'<|Dd ex'<|Dd ex'<|Dd as'<|Dd as'<|Zz<|Sq<|Rg<|Dd mv'<|Dd mv' ?_
  refine al_ond rfl rfl rfl (by rfl) rfl rfl (by exact opd_move rfl rfl) ?_
  refine al_ond rfl rfl rfl (by rfl) rfl rfl (by exact opd_field_ref rfl fo36_1 rfl rfl rfl rfl) ?_
  refine al_ond rfl rfl rfl (by rfl) rfl rfl (by exact opd_load1_ref rfl Tryz.isAgg3 rfl rfl rfl rfl rfl) ?_
  refine al_ond rfl rfl rfl (by rfl) rfl rfl (by exact opr_call rfl rfl Tryz.call85 rfl (containsI_c [(1 : Int)] o.kind _ (by decide))) ?_
  refine al_ond rfl rfl rfl (by rfl) rfl rfl (by exact opd_not rfl rfl) ?_
  refine Dd pk'<|Zz ?_
  refine Cn (fun hc4 => ?_) fun hc4 => ?_
  ·have hb : (!fitsB 2 o.kind) = true := by
    have h := hc4
    rw [← h]
    simp [fitsB]
   rw [hb, if_pos rfl]
   refine Sq<|Rg<|Dd (bu' bo85)<|Uu (sa' Tryz.sizeOf85)<|Zz<|awp_ret ?_
   refine aret1 (H' := (cH m)) (.inr rfl) rfl (rl' Tryz.isAgg85 Tryz.sizeOf85) (Fin.cl (m := m) (encRes (errR 13)) rfl rfl) ?_
   exact ⟨rfl, rfl⟩
  have hb : (!fitsB 2 o.kind) = false := by
   have h := hc4
   rw [← h]
   simp [fitsB]
  rw [hb, if_neg (by simp)]
  refine awp_skip<|Sq<|Sq<|Rg<|Dd (fr' fo38_0)<|Dd (l1' Tryz.isAgg3)<|Zz<|awp_block<|Sq<|Rg<|Dd eql'<|Dd as'<|Zz ?_
  refine Cn (fun hc5 => ?_) fun hc5 => ?_
  ·skip
   refine Rg<|Dd (fr' fo38_4)<|Dd (by exact opd_loadn_ref rfl Tryz.isAgg32 Tryz.sizeOf32 rfl rfl rfl rfl (by simp only [Zl, encTag, encObj, encStr, encEdit, encInt]; rfl) rfl)<|Dd (fr' fo36_2)<|Uu (by exact x_store rfl Tryz.sizeOf32 rfl rfl rfl rfl rfl rfl rfl (Nat.le_of_ble_eq_true rfl) rfl rfl)<|Zz<|Sq<|Rg<|Dd (ln' Tryz.isAgg36 Tryz.sizeOf36)<|Dd (by exact x_buildSlice ([(⟨o.id, o.kind, x, y, o.refs, o.tags⟩ : GObj)].map encObj) rfl so22 rfl rfl rfl rfl rfl (by simp [encObj]))<|Dd (bu' bo85)<|Uu (sa' Tryz.sizeOf85)<|Zz<|awp_ret ?_
   refine aret1 (H' := (cH m)) (.inr rfl) rfl (rl' Tryz.isAgg85 Tryz.sizeOf85) (Fin.cl (m := m) (encRes ⟨[⟨o.id, o.kind, x, y, o.refs, o.tags⟩], sNil, 0⟩) rfl rfl) ?_
   exact ⟨rfl, rfl⟩
  cases hc5
end Go.Proofs.YtbbnllojhjlaoaaGreat
end
section
set_option linter.unusedVariables false
set_option linter.unusedSimpArgs false
set_option maxRecDepth 100000
namespace Go.Proofs.YtbbnllojhjlaoaaGreat
open Go.Abs
theorem perf3_c (m : List GObj) (id other node : ByteArray) (x y : Int) (key val : ByteArray) (refs : List ByteArray) (obj : GObj) (hm : okM m) (ho9 : ∀ o, o ∈ m → o.refs.length < 549755813888 ∧ o.tags.length < 1099511627776) (hk : key.size < 4611686018427387904) (hv : val.size < 4611686018427387904) :
  ACalls Tryz.prog 52 [.ref 14 0 0 0, av (encEdit ⟨3, id, other, node, x, y, key, val, refs, obj⟩)] (cH m) (fun r H' => r = av (encRes (gPerform m ⟨3, id, other, node, x, y, key, val, refs, obj⟩)) ∧ H' = cH m) := by
 rw [gPerform, if_neg (show ¬ ((3 : Int) = 1) by decide)]
 simp only
 refine Bd Tryz.func52 rfl Tryz.ntmps52<|Sq<|Rg<|Dd (by exact opd_box (id := 3) rfl rfl rfl rfl rfl)<|Dd (by exact x_alloc (id := 4) rfl zo85 rfl rfl)<|Zz<|Sq<|Sq<|Rg<|Dd (fr' fo38_0)<|Dd (l1' Tryz.isAgg3)<|Dd eql'<|Zz ?_
 refine Cn (fun hc1 => ?_) fun hc1 => ?_
 ·cases hc1
 skip
 cases hf : m.find? (idIs id) with
 | none =>
  refine awp_skip<|Sq ?_
  refine awp_drawc follows ?_
  refine Cq mv'<|Cq nc'<|Cq (fr' fo80_1)<|Cq (l1' Tryz.isAgg78)<|Cq (fr' fo38_1)<|Cq (l1' Tryz.isAgg9)<|Cq (by exact lk_none rfl rfl rfl rfl (kindOf_none hf))<|Cq mv'<|Cq ex'<|Cq ex'<|Cq as'<|Cq as' ?_
  refine dc_nil ⟨by kernel_rfl, ?_⟩
  refine Sq<|Sq ?_
  refine awp_drawc follows ?_
  refine Cq mv'<|Cq nc'<|Cq (fr' fo80_1)<|Cq (l1' Tryz.isAgg78)<|Cq (fr' fo38_2)<|Cq (l1' Tryz.isAgg9)<|Cq (by exact lk_c rfl rfl rfl rfl)<|Cq mv'<|Cq ex'<|Cq ex'<|Cq as'<|Cq as' ?_
  refine dc_nil ⟨by kernel_rfl, ?_⟩
  refine Sq<|Rg<|Dd mv'<|Dd no'<|Dd mv' ?_
  refine al_off rfl rfl rfl (by rfl) rfl ?_
  refine al_off rfl rfl rfl (by rfl) rfl ?_
  refine al_off rfl rfl rfl (by rfl) rfl ?_
  refine al_off rfl rfl rfl (by rfl) rfl ?_
  refine al_offu rfl rfl rfl rfl ?_
  refine al_offu rfl rfl rfl rfl ?_
  refine al_off rfl rfl rfl (by rfl) rfl ?_
  refine Dd pk'<|Zz ?_
  refine Cn (fun hc2 => ?_) fun hc2 => ?_
  ·skip
   refine Sq<|Rg<|Dd (bu' bo85)<|Uu (sa' Tryz.sizeOf85)<|Zz<|awp_ret ?_
   refine aret1 (H' := (cH m)) (.inr rfl) rfl (rl' Tryz.isAgg85 Tryz.sizeOf85) (Fin.cl (m := m) (encRes (errR 11)) rfl rfl) ?_
   exact ⟨rfl, rfl⟩
  cases hc2
 | some o =>
  simp only [show decide ((3 : Int) = 7) = false from rfl, Bool.false_and, Bool.false_eq_true, if_false, if_true]
  rw [if_neg (show ¬ ((3 : Int) = 2) by decide)]
  have hom := List.mem_of_find?_eq_some hf
  obtain ⟨ho1, ho2⟩ := ho9 o hom
  have hoo := hm.2 o hom
  refine awp_skip<|Sq ?_
  refine awp_drawc follows ?_
  refine Cq mv'<|Cq nc'<|Cq (fr' fo80_1)<|Cq (l1' Tryz.isAgg78)<|Cq (fr' fo38_1)<|Cq (l1' Tryz.isAgg9)<|Cq (by exact lk_some rfl rfl rfl rfl (kindOf_some hf))<|Cq mv'<|Cq ex'<|Cq ex'<|Cq as'<|Cq as' ?_
  refine dc_nil ⟨by kernel_rfl, ?_⟩
  refine Sq<|Sq ?_
  refine awp_drawc follows ?_
  refine Cq mv'<|Cq nc'<|Cq (fr' fo80_1)<|Cq (l1' Tryz.isAgg78)<|Cq (fr' fo38_2)<|Cq (l1' Tryz.isAgg9)<|Cq (by exact lk_c rfl rfl rfl rfl)<|Cq mv'<|Cq ex'<|Cq ex'<|Cq as'<|Cq as' ?_
  refine dc_nil ⟨by kernel_rfl, ?_⟩
  refine Sq<|Rg<|Dd mv'<|Dd no'<|Dd mv' ?_
  refine al_ond rfl rfl rfl (by rfl) rfl rfl (by exact opd_field_ref rfl fo38_0 rfl rfl rfl rfl) ?_
  refine al_ond rfl rfl rfl (by rfl) rfl rfl (by exact opd_load1_ref rfl Tryz.isAgg3 rfl rfl rfl rfl rfl) ?_
  refine al_ond rfl rfl rfl (by rfl) rfl rfl (by exact opd_eql rfl rfl rfl) ?_
  refine al_ond rfl rfl rfl (by rfl) rfl rfl (by exact opd_move rfl rfl) ?_
  refine al_off rfl rfl rfl (by rfl) rfl ?_
  refine al_off rfl rfl rfl (by rfl) rfl ?_
  refine al_ond rfl rfl rfl (by rfl) rfl rfl (by exact opd_pick_f rfl rfl rfl) ?_
  refine Dd pk'<|Zz ?_
  refine Cn (fun hc3 => ?_) fun hc3 => ?_
  ·cases hc3
  skip
  refine awp_skip<|Sq<|Rg<|Dd mv'<|Dd (fr' fo38_1)<|Dd (l1' Tryz.isAgg9)<|Dd (by exact opr_call rfl rfl Tryz.call30 rfl (get_c m id o _ rfl rfl hm hf))<|Dd (by exact x_alloc (id := 11) rfl zo36 rfl rfl)<|Uu (sa' Tryz.sizeOf36)<|Zz<|Sq<|Rg<|Dd (by exact opd_makeMap (id := 77) (intK .i64) rfl rfl)<|Dd (by exact x_buildSlice ([(1 : Int)].map encInt) rfl so109 rfl rfl rfl rfl rfl (by simp [encInt]))<|Uu (by exact x_mapUpdate (κ := (intK .i64)) (.inr rfl) Tryz.underlying110 Tryz.underlying3 rfl rfl rfl rfl rfl rfl rfl rfl)<|Dd (by exact x_buildSlice ([(2 : Int), 3, 4].map encInt) rfl so109 rfl rfl rfl rfl rfl (by simp [encInt]))<|Uu (by exact x_mapUpdate (κ := (intK .i64)) (.inr rfl) Tryz.underlying110 Tryz.underlying3 rfl rfl rfl rfl rfl rfl rfl rfl)<|Dd (by exact x_buildSlice ([(2 : Int)].map encInt) rfl so109 rfl rfl rfl rfl rfl (by simp [encInt]))<|Uu (by exact x_mapUpdate (κ := (intK .i64)) (.inr rfl) Tryz.underlying110 Tryz.underlying3 rfl rfl rfl rfl rfl rfl rfl rfl) ?_
  refine Dd (by exact x_buildSlice ([(2 : Int)].map encInt) rfl so109 rfl rfl rfl rfl rfl (by simp [encInt]))<|Uu (by exact x_mapUpdate (κ := (intK .i64)) (.inr rfl) Tryz.underlying110 Tryz.underlying3 rfl rfl rfl rfl rfl rfl rfl rfl)<|Dd mv'<|Dd as'<|Zz<|Sq<|Sq<|Rg<|Dd mv'<|Dd (fr' fo38_0)<|Dd (l1' Tryz.isAgg3)<|Dd (by exact opd_lookup_ok (κ := (intK .i64)) rfl Tryz.underlying110 Tryz.underlying3 rfl rfl rfl rfl rfl Tryz.zeroValue109 (.inl rfl))<|Dd mv'<|Dd ex'<|Dd ex'<|Dd as'<|Dd as'<|Zz<|Sq<|Rg<|Dd mv'<|Dd mv' ?_
  refine al_off rfl rfl rfl (by rfl) rfl ?_
  refine al_off rfl rfl rfl (by rfl) rfl ?_
  refine al_off rfl rfl rfl (by rfl) rfl ?_
  refine al_off rfl rfl rfl (by rfl) rfl ?_
  refine al_off rfl rfl rfl (by rfl) rfl ?_
  refine Dd pk'<|Zz ?_
  refine Cn (fun hc4 => ?_) fun hc4 => ?_
  ·cases hc4
  have hb : (!fitsB 3 o.kind) = false := rfl
  rw [hb, if_neg (by simp)]
  refine awp_skip<|Sq<|Sq<|Rg<|Dd (fr' fo38_0)<|Dd (l1' Tryz.isAgg3)<|Zz<|awp_block<|Sq<|Rg<|Dd eql'<|Dd as'<|Zz ?_
  refine Cn (fun hc5 => ?_) fun hc5 => ?_
  ·cases hc5
  skip
  refine Sq<|Rg<|Dd eql'<|Dd as'<|Zz ?_
  refine Cn (fun hc6 => ?_) fun hc6 => ?_
  ·skip
   refine Sq<|Rg<|Dd (fr' fo36_4)<|Dd (l1' Tryz.isAgg34)<|Dd (fr' fo38_5)<|Dd (l1' Tryz.isAgg9)<|Dd (fr' fo38_6)<|Dd (l1' Tryz.isAgg9)<|Dd (by exact opr_call rfl rfl Tryz.call86 rfl (tagSet_c o.tags key val _ hoo.2.1 hk hv ho2))<|Dd mv'<|Dd ex'<|Dd ex'<|Dd as'<|Dd as'<|Zz<|Sq<|Rg<|Dd mv'<|Dd (fr' fo36_4)<|Uu (by exact x_store1 rfl Tryz.sizeOf34 rfl rfl rfl rfl rfl rfl (Nat.le_of_ble_eq_true rfl) rfl rfl)<|Zz<|Sq<|Rg<|Dd mv'<|Dd ne'<|Zz ?_
   refine Cn (fun hc7 => ?_) fun hc7 => ?_
   ·rw [if_pos hc7]
    refine Sq<|Rg<|Dd mv'<|Dd (bu' bo85)<|Uu (sa' Tryz.sizeOf85)<|Zz<|awp_ret ?_
    refine aret1 (H' := (cH m)) (.inr rfl) rfl (rl' Tryz.isAgg85 Tryz.sizeOf85) (Fin.cl (m := m) (encRes (errR (gSet o.tags key val).2)) rfl rfl) ?_
    exact ⟨rfl, rfl⟩
   rw [if_neg (by rw [hc7]; simp)]
   refine awp_skip<|Sq<|Rg<|Dd (ln' Tryz.isAgg36 Tryz.sizeOf36)<|Dd (by exact x_buildSlice ([(⟨o.id, o.kind, o.x, o.y, o.refs, (gSet o.tags key val).1⟩ : GObj)].map encObj) rfl so22 rfl rfl rfl rfl rfl (by simp [encObj]))<|Dd (bu' bo85)<|Uu (sa' Tryz.sizeOf85)<|Zz<|awp_ret ?_
   refine aret1 (H' := (cH m)) (.inr rfl) rfl (rl' Tryz.isAgg85 Tryz.sizeOf85) (Fin.cl (m := m) (encRes ⟨[⟨o.id, o.kind, o.x, o.y, o.refs, (gSet o.tags key val).1⟩], sNil, 0⟩) rfl rfl) ?_
   exact ⟨rfl, rfl⟩
  cases hc6
theorem perf4_c (m : List GObj) (id other node : ByteArray) (x y : Int) (key val : ByteArray) (refs : List ByteArray) (obj : GObj) (hm : okM m) (ho9 : ∀ o, o ∈ m → o.refs.length < 549755813888 ∧ o.tags.length < 1099511627776) (hrf : refs.length < 4611686018427387904 ∧ ∀ s ∈ refs, s.size < 4611686018427387904) :
  ACalls Tryz.prog 52 [.ref 14 0 0 0, av (encEdit ⟨4, id, other, node, x, y, key, val, refs, obj⟩)] (cH m) (fun r H' => r = av (encRes (gPerform m ⟨4, id, other, node, x, y, key, val, refs, obj⟩)) ∧ H' = cH m) := by
 rw [gPerform, if_neg (show ¬ ((4 : Int) = 1) by decide)]
 simp only
 refine Bd Tryz.func52 rfl Tryz.ntmps52<|Sq<|Rg<|Dd (by exact opd_box (id := 3) rfl rfl rfl rfl rfl)<|Dd (by exact x_alloc (id := 4) rfl zo85 rfl rfl)<|Zz<|Sq<|Sq<|Rg<|Dd (fr' fo38_0)<|Dd (l1' Tryz.isAgg3)<|Dd eql'<|Zz ?_
 refine Cn (fun hc1 => ?_) fun hc1 => ?_
 ·cases hc1
 skip
 cases hf : m.find? (idIs id) with
 | none =>
  refine awp_skip<|Sq ?_
  refine awp_drawc follows ?_
  refine Cq mv'<|Cq nc'<|Cq (fr' fo80_1)<|Cq (l1' Tryz.isAgg78)<|Cq (fr' fo38_1)<|Cq (l1' Tryz.isAgg9)<|Cq (by exact lk_none rfl rfl rfl rfl (kindOf_none hf))<|Cq mv'<|Cq ex'<|Cq ex'<|Cq as'<|Cq as' ?_
  refine dc_nil ⟨by kernel_rfl, ?_⟩
  refine Sq<|Sq ?_
  refine awp_drawc follows ?_
  refine Cq mv'<|Cq nc'<|Cq (fr' fo80_1)<|Cq (l1' Tryz.isAgg78)<|Cq (fr' fo38_2)<|Cq (l1' Tryz.isAgg9)<|Cq (by exact lk_c rfl rfl rfl rfl)<|Cq mv'<|Cq ex'<|Cq ex'<|Cq as'<|Cq as' ?_
  refine dc_nil ⟨by kernel_rfl, ?_⟩
  refine Sq<|Rg<|Dd mv'<|Dd no'<|Dd mv' ?_
  refine al_off rfl rfl rfl (by rfl) rfl ?_
  refine al_off rfl rfl rfl (by rfl) rfl ?_
  refine al_off rfl rfl rfl (by rfl) rfl ?_
  refine al_off rfl rfl rfl (by rfl) rfl ?_
  refine al_offu rfl rfl rfl rfl ?_
  refine al_offu rfl rfl rfl rfl ?_
  refine al_off rfl rfl rfl (by rfl) rfl ?_
  refine Dd pk'<|Zz ?_
  refine Cn (fun hc2 => ?_) fun hc2 => ?_
  ·skip
   refine Sq<|Rg<|Dd (bu' bo85)<|Uu (sa' Tryz.sizeOf85)<|Zz<|awp_ret ?_
   refine aret1 (H' := (cH m)) (.inr rfl) rfl (rl' Tryz.isAgg85 Tryz.sizeOf85) (Fin.cl (m := m) (encRes (errR 11)) rfl rfl) ?_
   exact ⟨rfl, rfl⟩
  cases hc2
 | some o =>
  simp only [show decide ((4 : Int) = 7) = false from rfl, Bool.false_and, Bool.false_eq_true, if_false, if_true]
  rw [if_neg (show ¬ ((4 : Int) = 2) by decide), if_neg (show ¬ ((4 : Int) = 3) by decide)]
  have hom := List.mem_of_find?_eq_some hf
  obtain ⟨ho1, ho2⟩ := ho9 o hom
  have hoo := hm.2 o hom
  refine awp_skip<|Sq ?_
  refine awp_drawc follows ?_
  refine Cq mv'<|Cq nc'<|Cq (fr' fo80_1)<|Cq (l1' Tryz.isAgg78)<|Cq (fr' fo38_1)<|Cq (l1' Tryz.isAgg9)<|Cq (by exact lk_some rfl rfl rfl rfl (kindOf_some hf))<|Cq mv'<|Cq ex'<|Cq ex'<|Cq as'<|Cq as' ?_
  refine dc_nil ⟨by kernel_rfl, ?_⟩
  refine Sq<|Sq ?_
  refine awp_drawc follows ?_
  refine Cq mv'<|Cq nc'<|Cq (fr' fo80_1)<|Cq (l1' Tryz.isAgg78)<|Cq (fr' fo38_2)<|Cq (l1' Tryz.isAgg9)<|Cq (by exact lk_c rfl rfl rfl rfl)<|Cq mv'<|Cq ex'<|Cq ex'<|Cq as'<|Cq as' ?_
  refine dc_nil ⟨by kernel_rfl, ?_⟩
  refine Sq<|Rg<|Dd mv'<|Dd no'<|Dd mv' ?_
  refine al_ond rfl rfl rfl (by rfl) rfl rfl (by exact opd_field_ref rfl fo38_0 rfl rfl rfl rfl) ?_
  refine al_ond rfl rfl rfl (by rfl) rfl rfl (by exact opd_load1_ref rfl Tryz.isAgg3 rfl rfl rfl rfl rfl) ?_
  refine al_ond rfl rfl rfl (by rfl) rfl rfl (by exact opd_eql rfl rfl rfl) ?_
  refine al_ond rfl rfl rfl (by rfl) rfl rfl (by exact opd_move rfl rfl) ?_
  refine al_off rfl rfl rfl (by rfl) rfl ?_
  refine al_off rfl rfl rfl (by rfl) rfl ?_
  refine al_ond rfl rfl rfl (by rfl) rfl rfl (by exact opd_pick_f rfl rfl rfl) ?_
  refine Dd pk'<|Zz ?_
  refine Cn (fun hc3 => ?_) fun hc3 => ?_
  ·cases hc3
  skip
  refine awp_skip<|Sq<|Rg<|Dd mv'<|Dd (fr' fo38_1)<|Dd (l1' Tryz.isAgg9)<|Dd (by exact opr_call rfl rfl Tryz.call30 rfl (get_c m id o _ rfl rfl hm hf))<|Dd (by exact x_alloc (id := 11) rfl zo36 rfl rfl)<|Uu (sa' Tryz.sizeOf36)<|Zz<|Sq<|Rg<|Dd (by exact opd_makeMap (id := 77) (intK .i64) rfl rfl)<|Dd (by exact x_buildSlice ([(1 : Int)].map encInt) rfl so109 rfl rfl rfl rfl rfl (by simp [encInt]))<|Uu (by exact x_mapUpdate (κ := (intK .i64)) (.inr rfl) Tryz.underlying110 Tryz.underlying3 rfl rfl rfl rfl rfl rfl rfl rfl)<|Dd (by exact x_buildSlice ([(2 : Int), 3, 4].map encInt) rfl so109 rfl rfl rfl rfl rfl (by simp [encInt]))<|Uu (by exact x_mapUpdate (κ := (intK .i64)) (.inr rfl) Tryz.underlying110 Tryz.underlying3 rfl rfl rfl rfl rfl rfl rfl rfl)<|Dd (by exact x_buildSlice ([(2 : Int)].map encInt) rfl so109 rfl rfl rfl rfl rfl (by simp [encInt]))<|Uu (by exact x_mapUpdate (κ := (intK .i64)) (.inr rfl) Tryz.underlying110 Tryz.underlying3 rfl rfl rfl rfl rfl rfl rfl rfl) ?_
  refine Dd (by exact x_buildSlice ([(2 : Int)].map encInt) rfl so109 rfl rfl rfl rfl rfl (by simp [encInt]))<|Uu (by exact x_mapUpdate (κ := (intK .i64)) (.inr rfl) Tryz.underlying110 Tryz.underlying3 rfl rfl rfl rfl rfl rfl rfl rfl)<|Dd mv'<|Dd as'<|Zz<|Sq<|Sq<|Rg<|Dd mv'<|Dd (fr' fo38_0)<|Dd (l1' Tryz.isAgg3)<|Dd (by exact opd_lookup_ok (κ := (intK .i64)) rfl Tryz.underlying110 Tryz.underlying3 rfl rfl rfl rfl rfl Tryz.zeroValue109 (.inl rfl))<|Dd mv'<|Dd ex'<|Dd ex'<|Dd as'<|Dd as'<|Zz<|Sq<|Rg<|Dd mv'<|Dd mv' ?_
  refine al_ond rfl rfl rfl (by rfl) rfl rfl (by exact opd_move rfl rfl) ?_
  refine al_ond rfl rfl rfl (by rfl) rfl rfl (by exact opd_field_ref rfl fo36_1 rfl rfl rfl rfl) ?_
  refine al_ond rfl rfl rfl (by rfl) rfl rfl (by exact opd_load1_ref rfl Tryz.isAgg3 rfl rfl rfl rfl rfl) ?_
  refine al_ond rfl rfl rfl (by rfl) rfl rfl (by exact opr_call rfl rfl Tryz.call85 rfl (containsI_c [(2 : Int), 3, 4] o.kind _ (by decide))) ?_
  refine al_ond rfl rfl rfl (by rfl) rfl rfl (by exact opd_not rfl rfl) ?_
  refine Dd pk'<|Zz ?_
  refine Cn (fun hc4 => ?_) fun hc4 => ?_
  ·have hb : (!fitsB 4 o.kind) = true := by
    have h := hc4
    rw [← h]
    simp [fitsB]
   rw [hb, if_pos rfl]
   refine Sq<|Rg<|Dd (bu' bo85)<|Uu (sa' Tryz.sizeOf85)<|Zz<|awp_ret ?_
   refine aret1 (H' := (cH m)) (.inr rfl) rfl (rl' Tryz.isAgg85 Tryz.sizeOf85) (Fin.cl (m := m) (encRes (errR 13)) rfl rfl) ?_
   exact ⟨rfl, rfl⟩
  have hb : (!fitsB 4 o.kind) = false := by
   have h := hc4
   rw [← h]
   simp [fitsB]
  rw [hb, if_neg (by simp)]
  refine awp_skip<|Sq<|Sq<|Rg<|Dd (fr' fo38_0)<|Dd (l1' Tryz.isAgg3)<|Zz<|awp_block<|Sq<|Rg<|Dd eql'<|Dd as'<|Zz ?_
  refine Cn (fun hc5 => ?_) fun hc5 => ?_
  ·cases hc5
  skip
  refine Sq<|Rg<|Dd eql'<|Dd as'<|Zz ?_
  refine Cn (fun hc6 => ?_) fun hc6 => ?_
  ·cases hc6
  skip
  refine Sq<|Rg<|Dd eql'<|Dd as'<|Zz ?_
  refine Cn (fun hc7 => ?_) fun hc7 => ?_
  ·skip
   refine Sq<|Sq<|Rg<|Dd (fr' fo38_7)<|Dd (l1' Tryz.isAgg33)<|Dd (fr' fo36_3)<|Uu (by exact x_store1 rfl Tryz.sizeOf33 rfl rfl rfl rfl rfl rfl (Nat.le_of_ble_eq_true rfl) rfl rfl)<|Zz<|Sq<|Rg<|Dd (ln' Tryz.isAgg36 Tryz.sizeOf36)<|Dd (by exact opr_call rfl rfl Tryz.call39 rfl (objValid_c ⟨o.id, o.kind, o.x, o.y, refs, o.tags⟩ _ ⟨hoo.1, hoo.2.1, hrf.1, hrf.2⟩))<|Dd no'<|Zz ?_
   refine Cn (fun hc8 => ?_) fun hc8 => ?_
   ·rw [if_pos hc8]
    refine Sq<|Rg<|Dd (bu' bo85)<|Uu (sa' Tryz.sizeOf85)<|Zz<|awp_ret ?_
    refine aret1 (H' := (cH m)) (.inr rfl) rfl (rl' Tryz.isAgg85 Tryz.sizeOf85) (Fin.cl (m := m) (encRes (errR 1)) rfl rfl) ?_
    exact ⟨rfl, rfl⟩
   rw [if_neg (by rw [hc8]; simp)]
   refine awp_skip<|Sq ?_
   refine awp_drawc follows ?_
   refine Cr [11] (fun H1 hH => by exact opd_loadn_ref rfl Tryz.isAgg36 Tryz.sizeOf36 rfl ((hH _ rfl).trans rfl) rfl rfl rfl rfl)<|Cr [] (fun H1 hH => by exact x_buildSlice ([(⟨o.id, o.kind, o.x, o.y, refs, o.tags⟩ : GObj)].map encObj) rfl so22 rfl rfl rfl rfl rfl (by simp [encObj]))<|Cr [14] (fun _ _ => mv')<|Cr [11] (fun H1 hH => by exact opd_loadn_ref rfl Tryz.isAgg36 Tryz.sizeOf36 rfl ((hH _ rfl).trans rfl) rfl rfl rfl rfl)<|Cr [12, 14] (fun H1 hH => by exact opr_call rfl rfl Tryz.call51 rfl (refsC_c m ⟨o.id, o.kind, o.x, o.y, refs, o.tags⟩ _ ((hH 14 rfl).trans rfl) ((hH 12 rfl).trans rfl) hrf.1))<|Cr [] (fun _ _ => (bu' bo85))<|Cp [4] (fun H1 hH => by exact x_store_all rfl Tryz.sizeOf85 rfl rfl rfl rfl ((hH _ rfl).trans rfl) rfl rfl rfl) ?_
   refine dc_nil ⟨by kernel_rfl, ?_⟩
   refine awp_ret ?_
   refine aret1 (H' := (cH m)) (.inr rfl) rfl (rl' Tryz.isAgg85 Tryz.sizeOf85) (Fin.cl (m := m) (encRes ⟨[⟨o.id, o.kind, o.x, o.y, refs, o.tags⟩], sNil, refErr m o.kind 0 refs⟩) rfl rfl) ?_
   exact ⟨rfl, rfl⟩
  cases hc7
theorem perf5_c (m : List GObj) (id other node : ByteArray) (x y : Int) (key val : ByteArray) (refs : List ByteArray) (obj : GObj) (hm : okM m) (ho9 : ∀ o, o ∈ m → o.refs.length < 549755813888 ∧ o.tags.length < 1099511627776) :
  ACalls Tryz.prog 52 [.ref 14 0 0 0, av (encEdit ⟨5, id, other, node, x, y, key, val, refs, obj⟩)] (cH m) (fun r H' => r = av (encRes (gPerform m ⟨5, id, other, node, x, y, key, val, refs, obj⟩)) ∧ H' = cH m) := by
 rw [gPerform, if_neg (show ¬ ((5 : Int) = 1) by decide)]
 simp only
 refine Bd Tryz.func52 rfl Tryz.ntmps52<|Sq<|Rg<|Dd (by exact opd_box (id := 3) rfl rfl rfl rfl rfl)<|Dd (by exact x_alloc (id := 4) rfl zo85 rfl rfl)<|Zz<|Sq<|Sq<|Rg<|Dd (fr' fo38_0)<|Dd (l1' Tryz.isAgg3)<|Dd eql'<|Zz ?_
 refine Cn (fun hc1 => ?_) fun hc1 => ?_
 ·cases hc1
 skip
 cases hf : m.find? (idIs id) with
 | none =>
  refine awp_skip<|Sq ?_
  refine awp_drawc follows ?_
  refine Cq mv'<|Cq nc'<|Cq (fr' fo80_1)<|Cq (l1' Tryz.isAgg78)<|Cq (fr' fo38_1)<|Cq (l1' Tryz.isAgg9)<|Cq (by exact lk_none rfl rfl rfl rfl (kindOf_none hf))<|Cq mv'<|Cq ex'<|Cq ex'<|Cq as'<|Cq as' ?_
  refine dc_nil ⟨by kernel_rfl, ?_⟩
  refine Sq<|Sq ?_
  refine awp_drawc follows ?_
  refine Cq mv'<|Cq nc'<|Cq (fr' fo80_1)<|Cq (l1' Tryz.isAgg78)<|Cq (fr' fo38_2)<|Cq (l1' Tryz.isAgg9)<|Cq (by exact lk_c rfl rfl rfl rfl)<|Cq mv'<|Cq ex'<|Cq ex'<|Cq as'<|Cq as' ?_
  refine dc_nil ⟨by kernel_rfl, ?_⟩
  refine Sq<|Rg<|Dd mv'<|Dd no'<|Dd mv' ?_
  refine al_off rfl rfl rfl (by rfl) rfl ?_
  refine al_off rfl rfl rfl (by rfl) rfl ?_
  refine al_off rfl rfl rfl (by rfl) rfl ?_
  refine al_off rfl rfl rfl (by rfl) rfl ?_
  refine al_offu rfl rfl rfl rfl ?_
  refine al_offu rfl rfl rfl rfl ?_
  refine al_off rfl rfl rfl (by rfl) rfl ?_
  refine Dd pk'<|Zz ?_
  refine Cn (fun hc2 => ?_) fun hc2 => ?_
  ·skip
   refine Sq<|Rg<|Dd (bu' bo85)<|Uu (sa' Tryz.sizeOf85)<|Zz<|awp_ret ?_
   refine aret1 (H' := (cH m)) (.inr rfl) rfl (rl' Tryz.isAgg85 Tryz.sizeOf85) (Fin.cl (m := m) (encRes (errR 11)) rfl rfl) ?_
   exact ⟨rfl, rfl⟩
  cases hc2
 | some o =>
  simp only [show decide ((5 : Int) = 7) = false from rfl, Bool.false_and, Bool.false_eq_true, if_false, if_true]
  rw [if_neg (show ¬ ((5 : Int) = 2) by decide), if_neg (show ¬ ((5 : Int) = 3) by decide), if_neg (show ¬ ((5 : Int) = 4) by decide)]
  have hom := List.mem_of_find?_eq_some hf
  obtain ⟨ho1, ho2⟩ := ho9 o hom
  have hoo := hm.2 o hom
  refine awp_skip<|Sq ?_
  refine awp_drawc follows ?_
  refine Cq mv'<|Cq nc'<|Cq (fr' fo80_1)<|Cq (l1' Tryz.isAgg78)<|Cq (fr' fo38_1)<|Cq (l1' Tryz.isAgg9)<|Cq (by exact lk_some rfl rfl rfl rfl (kindOf_some hf))<|Cq mv'<|Cq ex'<|Cq ex'<|Cq as'<|Cq as' ?_
  refine dc_nil ⟨by kernel_rfl, ?_⟩
  refine Sq<|Sq ?_
  refine awp_drawc follows ?_
  refine Cq mv'<|Cq nc'<|Cq (fr' fo80_1)<|Cq (l1' Tryz.isAgg78)<|Cq (fr' fo38_2)<|Cq (l1' Tryz.isAgg9)<|Cq (by exact lk_c rfl rfl rfl rfl)<|Cq mv'<|Cq ex'<|Cq ex'<|Cq as'<|Cq as' ?_
  refine dc_nil ⟨by kernel_rfl, ?_⟩
  refine Sq<|Rg<|Dd mv'<|Dd no'<|Dd mv' ?_
  refine al_ond rfl rfl rfl (by rfl) rfl rfl (by exact opd_field_ref rfl fo38_0 rfl rfl rfl rfl) ?_
  refine al_ond rfl rfl rfl (by rfl) rfl rfl (by exact opd_load1_ref rfl Tryz.isAgg3 rfl rfl rfl rfl rfl) ?_
  refine al_ond rfl rfl rfl (by rfl) rfl rfl (by exact opd_eql rfl rfl rfl) ?_
  refine al_ond rfl rfl rfl (by rfl) rfl rfl (by exact opd_move rfl rfl) ?_
  refine al_off rfl rfl rfl (by rfl) rfl ?_
  refine al_off rfl rfl rfl (by rfl) rfl ?_
  refine al_ond rfl rfl rfl (by rfl) rfl rfl (by exact opd_pick_f rfl rfl rfl) ?_
  refine Dd pk'<|Zz ?_
  refine Cn (fun hc3 => ?_) fun hc3 => ?_
  ·cases hc3
  skip
  refine awp_skip<|Sq<|Rg<|Dd mv'<|Dd (fr' fo38_1)<|Dd (l1' Tryz.isAgg9)<|Dd (by exact opr_call rfl rfl Tryz.call30 rfl (get_c m id o _ rfl rfl hm hf))<|Dd (by exact x_alloc (id := 11) rfl zo36 rfl rfl)<|Uu (sa' Tryz.sizeOf36)<|Zz<|Sq<|Rg<|Dd (by exact opd_makeMap (id := 77) (intK .i64) rfl rfl)<|Dd (by exact x_buildSlice ([(1 : Int)].map encInt) rfl so109 rfl rfl rfl rfl rfl (by simp [encInt]))<|Uu (by exact x_mapUpdate (κ := (intK .i64)) (.inr rfl) Tryz.underlying110 Tryz.underlying3 rfl rfl rfl rfl rfl rfl rfl rfl)<|Dd (by exact x_buildSlice ([(2 : Int), 3, 4].map encInt) rfl so109 rfl rfl rfl rfl rfl (by simp [encInt]))<|Uu (by exact x_mapUpdate (κ := (intK .i64)) (.inr rfl) Tryz.underlying110 Tryz.underlying3 rfl rfl rfl rfl rfl rfl rfl rfl)<|Dd (by exact x_buildSlice ([(2 : Int)].map encInt) rfl so109 rfl rfl rfl rfl rfl (by simp [encInt]))<|Uu (by exact x_mapUpdate (κ := (intK .i64)) (.inr rfl) Tryz.underlying110 Tryz.underlying3 rfl rfl rfl rfl rfl rfl rfl rfl) ?_
  refine Dd (by exact x_buildSlice ([(2 : Int)].map encInt) rfl so109 rfl rfl rfl rfl rfl (by simp [encInt]))<|Uu (by exact x_mapUpdate (κ := (intK .i64)) (.inr rfl) Tryz.underlying110 Tryz.underlying3 rfl rfl rfl rfl rfl rfl rfl rfl)<|Dd mv'<|Dd as'<|Zz<|Sq<|Sq<|Rg<|Dd mv'<|Dd (fr' fo38_0)<|Dd (l1' Tryz.isAgg3)<|Dd (by exact opd_lookup_ok (κ := (intK .i64)) rfl Tryz.underlying110 Tryz.underlying3 rfl rfl rfl rfl rfl Tryz.zeroValue109 (.inl rfl))<|Dd mv'<|Dd ex'<|Dd ex'<|Dd as'<|Dd as'<|Zz<|Sq<|Rg<|Dd mv'<|Dd mv' ?_
  refine al_off rfl rfl rfl (by rfl) rfl ?_
  refine al_off rfl rfl rfl (by rfl) rfl ?_
  refine al_off rfl rfl rfl (by rfl) rfl ?_
  refine al_off rfl rfl rfl (by rfl) rfl ?_
  refine al_off rfl rfl rfl (by rfl) rfl ?_
  refine Dd pk'<|Zz ?_
  refine Cn (fun hc4 => ?_) fun hc4 => ?_
  ·cases hc4
  have hb : (!fitsB 5 o.kind) = false := rfl
  rw [hb, if_neg (by simp)]
  refine awp_skip<|Sq<|Sq<|Rg<|Dd (fr' fo38_0)<|Dd (l1' Tryz.isAgg3)<|Zz<|awp_block<|Sq<|Rg<|Dd eql'<|Dd as'<|Zz ?_
  refine Cn (fun hc5 => ?_) fun hc5 => ?_
  ·cases hc5
  skip
  refine Sq<|Rg<|Dd eql'<|Dd as'<|Zz ?_
  refine Cn (fun hc6 => ?_) fun hc6 => ?_
  ·cases hc6
  skip
  refine Sq<|Rg<|Dd eql'<|Dd as'<|Zz ?_
  refine Cn (fun hc7 => ?_) fun hc7 => ?_
  ·cases hc7
  skip
  refine Sq<|Rg<|Dd eql'<|Dd as'<|Zz ?_
  refine Cn (fun hc8 => ?_) fun hc8 => ?_
  ·skip
   refine Sq<|Sq<|Rg<|Dd mv'<|Dd (fr' fo38_1)<|Dd (l1' Tryz.isAgg9)<|Dd (by exact x_buildSlice ([id].map encStr) rfl so33 rfl rfl rfl rfl rfl (by simp [encStr]))<|Dd (by exact opr_call rfl rfl Tryz.call87 rfl (refd_c m false [id] _ rfl rfl hm (by show 1 < _; omega)))<|Zz ?_
   refine Cn (fun hc9 => ?_) fun hc9 => ?_
   ·rw [if_pos hc9]
    refine Sq<|Rg<|Dd (bu' bo85)<|Uu (sa' Tryz.sizeOf85)<|Zz<|awp_ret ?_
    refine aret1 (H' := (cH m)) (.inr rfl) rfl (rl' Tryz.isAgg85 Tryz.sizeOf85) (Fin.cl (m := m) (encRes (errR 14)) rfl rfl) ?_
    exact ⟨rfl, rfl⟩
   rw [if_neg (by rw [hc9]; simp)]
   refine awp_skip<|Sq<|Rg<|Dd (fr' fo38_1)<|Dd (l1' Tryz.isAgg9)<|Dd (bu' bo85)<|Uu (sa' Tryz.sizeOf85)<|Zz<|awp_ret ?_
   refine aret1 (H' := (cH m)) (.inr rfl) rfl (rl' Tryz.isAgg85 Tryz.sizeOf85) (Fin.cl (m := m) (encRes ⟨[], id, 0⟩) rfl rfl) ?_
   exact ⟨rfl, rfl⟩
  cases hc8
theorem split_c (m : List GObj) (e : GEdit) (o : GObj) (H : Heap) (h14 : H.get 14 = some (cRow m)) (h12 : H.get 12 = some (kob m)) (hm : okM m) (hr : o.refs.length < 1099511627776) :
  ACalls Tryz.prog 88 [.ref 14 0 0 0, av (encEdit e), av (encObj o)] H (fun r H' => r = av (encRes (gSplit m e o)) ∧ H' = H) :=
 cl_c (split0_c m e o hm hr) h14 h12 (by simp; rfl)
theorem perf6_c (m : List GObj) (id other node : ByteArray) (x y : Int) (key val : ByteArray) (refs : List ByteArray) (obj : GObj) (hm : okM m) (ho9 : ∀ o, o ∈ m → o.refs.length < 549755813888 ∧ o.tags.length < 1099511627776) :
  ACalls Tryz.prog 52 [.ref 14 0 0 0, av (encEdit ⟨6, id, other, node, x, y, key, val, refs, obj⟩)] (cH m) (fun r H' => r = av (encRes (gPerform m ⟨6, id, other, node, x, y, key, val, refs, obj⟩)) ∧ H' = cH m) := by
 rw [gPerform, if_neg (show ¬ ((6 : Int) = 1) by decide)]
 simp only
 refine Bd Tryz.func52 rfl Tryz.ntmps52<|Sq<|Rg<|Dd (by exact opd_box (id := 3) rfl rfl rfl rfl rfl)<|Dd (by exact x_alloc (id := 4) rfl zo85 rfl rfl)<|Zz<|Sq<|Sq<|Rg<|Dd (fr' fo38_0)<|Dd (l1' Tryz.isAgg3)<|Dd eql'<|Zz ?_
 refine Cn (fun hc1 => ?_) fun hc1 => ?_
 ·cases hc1
 skip
 cases hf : m.find? (idIs id) with
 | none =>
  refine awp_skip<|Sq ?_
  refine awp_drawc follows ?_
  refine Cq mv'<|Cq nc'<|Cq (fr' fo80_1)<|Cq (l1' Tryz.isAgg78)<|Cq (fr' fo38_1)<|Cq (l1' Tryz.isAgg9)<|Cq (by exact lk_none rfl rfl rfl rfl (kindOf_none hf))<|Cq mv'<|Cq ex'<|Cq ex'<|Cq as'<|Cq as' ?_
  refine dc_nil ⟨by kernel_rfl, ?_⟩
  refine Sq<|Sq ?_
  refine awp_drawc follows ?_
  refine Cq mv'<|Cq nc'<|Cq (fr' fo80_1)<|Cq (l1' Tryz.isAgg78)<|Cq (fr' fo38_2)<|Cq (l1' Tryz.isAgg9)<|Cq (by exact lk_c rfl rfl rfl rfl)<|Cq mv'<|Cq ex'<|Cq ex'<|Cq as'<|Cq as' ?_
  refine dc_nil ⟨by kernel_rfl, ?_⟩
  refine Sq<|Rg<|Dd mv'<|Dd no'<|Dd mv' ?_
  refine al_off rfl rfl rfl (by rfl) rfl ?_
  refine al_off rfl rfl rfl (by rfl) rfl ?_
  refine al_off rfl rfl rfl (by rfl) rfl ?_
  refine al_off rfl rfl rfl (by rfl) rfl ?_
  refine al_offu rfl rfl rfl rfl ?_
  refine al_offu rfl rfl rfl rfl ?_
  refine al_off rfl rfl rfl (by rfl) rfl ?_
  refine Dd pk'<|Zz ?_
  refine Cn (fun hc2 => ?_) fun hc2 => ?_
  ·skip
   refine Sq<|Rg<|Dd (bu' bo85)<|Uu (sa' Tryz.sizeOf85)<|Zz<|awp_ret ?_
   refine aret1 (H' := (cH m)) (.inr rfl) rfl (rl' Tryz.isAgg85 Tryz.sizeOf85) (Fin.cl (m := m) (encRes (errR 11)) rfl rfl) ?_
   exact ⟨rfl, rfl⟩
  cases hc2
 | some o =>
  simp only [show decide ((6 : Int) = 7) = false from rfl, Bool.false_and, Bool.false_eq_true, if_false, if_true]
  rw [if_neg (show ¬ ((6 : Int) = 2) by decide), if_neg (show ¬ ((6 : Int) = 3) by decide), if_neg (show ¬ ((6 : Int) = 4) by decide), if_neg (show ¬ ((6 : Int) = 5) by decide)]
  have hom := List.mem_of_find?_eq_some hf
  obtain ⟨ho1, ho2⟩ := ho9 o hom
  have hoo := hm.2 o hom
  refine awp_skip<|Sq ?_
  refine awp_drawc follows ?_
  refine Cq mv'<|Cq nc'<|Cq (fr' fo80_1)<|Cq (l1' Tryz.isAgg78)<|Cq (fr' fo38_1)<|Cq (l1' Tryz.isAgg9)<|Cq (by exact lk_some rfl rfl rfl rfl (kindOf_some hf))<|Cq mv'<|Cq ex'<|Cq ex'<|Cq as'<|Cq as' ?_
  refine dc_nil ⟨by kernel_rfl, ?_⟩
  refine Sq<|Sq ?_
  refine awp_drawc follows ?_
  refine Cq mv'<|Cq nc'<|Cq (fr' fo80_1)<|Cq (l1' Tryz.isAgg78)<|Cq (fr' fo38_2)<|Cq (l1' Tryz.isAgg9)<|Cq (by exact lk_c rfl rfl rfl rfl)<|Cq mv'<|Cq ex'<|Cq ex'<|Cq as'<|Cq as' ?_
  refine dc_nil ⟨by kernel_rfl, ?_⟩
  refine Sq<|Rg<|Dd mv'<|Dd no'<|Dd mv' ?_
  refine al_ond rfl rfl rfl (by rfl) rfl rfl (by exact opd_field_ref rfl fo38_0 rfl rfl rfl rfl) ?_
  refine al_ond rfl rfl rfl (by rfl) rfl rfl (by exact opd_load1_ref rfl Tryz.isAgg3 rfl rfl rfl rfl rfl) ?_
  refine al_ond rfl rfl rfl (by rfl) rfl rfl (by exact opd_eql rfl rfl rfl) ?_
  refine al_ond rfl rfl rfl (by rfl) rfl rfl (by exact opd_move rfl rfl) ?_
  refine al_off rfl rfl rfl (by rfl) rfl ?_
  refine al_off rfl rfl rfl (by rfl) rfl ?_
  refine al_ond rfl rfl rfl (by rfl) rfl rfl (by exact opd_pick_f rfl rfl rfl) ?_
  refine Dd pk'<|Zz ?_
  refine Cn (fun hc3 => ?_) fun hc3 => ?_
  ·cases hc3
  skip
  refine awp_skip<|Sq<|Rg<|Dd mv'<|Dd (fr' fo38_1)<|Dd (l1' Tryz.isAgg9)<|Dd (by exact opr_call rfl rfl Tryz.call30 rfl (get_c m id o _ rfl rfl hm hf))<|Dd (by exact x_alloc (id := 11) rfl zo36 rfl rfl)<|Uu (sa' Tryz.sizeOf36)<|Zz<|Sq<|Rg<|Dd (by exact opd_makeMap (id := 77) (intK .i64) rfl rfl)<|Dd (by exact x_buildSlice ([(1 : Int)].map encInt) rfl so109 rfl rfl rfl rfl rfl (by simp [encInt]))<|Uu (by exact x_mapUpdate (κ := (intK .i64)) (.inr rfl) Tryz.underlying110 Tryz.underlying3 rfl rfl rfl rfl rfl rfl rfl rfl)<|Dd (by exact x_buildSlice ([(2 : Int), 3, 4].map encInt) rfl so109 rfl rfl rfl rfl rfl (by simp [encInt]))<|Uu (by exact x_mapUpdate (κ := (intK .i64)) (.inr rfl) Tryz.underlying110 Tryz.underlying3 rfl rfl rfl rfl rfl rfl rfl rfl)<|Dd (by exact x_buildSlice ([(2 : Int)].map encInt) rfl so109 rfl rfl rfl rfl rfl (by simp [encInt]))<|Uu (by exact x_mapUpdate (κ := (intK .i64)) (.inr rfl) Tryz.underlying110 Tryz.underlying3 rfl rfl rfl rfl rfl rfl rfl rfl) ?_
  refine Dd (by exact x_buildSlice ([(2 : Int)].map encInt) rfl so109 rfl rfl rfl rfl rfl (by simp [encInt]))<|Uu (by exact x_mapUpdate (κ := (intK .i64)) (.inr rfl) Tryz.underlying110 Tryz.underlying3 rfl rfl rfl rfl rfl rfl rfl rfl)<|Dd mv'<|Dd as'<|Zz<|Sq<|Sq<|Rg<|Dd mv'<|Dd (fr' fo38_0)<|Dd (l1' Tryz.isAgg3)<|Dd (by exact opd_lookup_ok (κ := (intK .i64)) rfl Tryz.underlying110 Tryz.underlying3 rfl rfl rfl rfl rfl Tryz.zeroValue109 (.inl rfl))<|Dd mv'<|Dd ex'<|Dd ex'<|Dd as'<|Dd as'<|Zz<|Sq<|Rg<|Dd mv'<|Dd mv' ?_
  refine al_ond rfl rfl rfl (by rfl) rfl rfl (by exact opd_move rfl rfl) ?_
  refine al_ond rfl rfl rfl (by rfl) rfl rfl (by exact opd_field_ref rfl fo36_1 rfl rfl rfl rfl) ?_
  refine al_ond rfl rfl rfl (by rfl) rfl rfl (by exact opd_load1_ref rfl Tryz.isAgg3 rfl rfl rfl rfl rfl) ?_
  refine al_ond rfl rfl rfl (by rfl) rfl rfl (by exact opr_call rfl rfl Tryz.call85 rfl (containsI_c [(2 : Int)] o.kind _ (by decide))) ?_
  refine al_ond rfl rfl rfl (by rfl) rfl rfl (by exact opd_not rfl rfl) ?_
  refine Dd pk'<|Zz ?_
  refine Cn (fun hc4 => ?_) fun hc4 => ?_
  ·have hb : (!fitsB 6 o.kind) = true := by
    have h := hc4
    rw [← h]
    simp [fitsB]
   rw [hb, if_pos rfl]
   refine Sq<|Rg<|Dd (bu' bo85)<|Uu (sa' Tryz.sizeOf85)<|Zz<|awp_ret ?_
   refine aret1 (H' := (cH m)) (.inr rfl) rfl (rl' Tryz.isAgg85 Tryz.sizeOf85) (Fin.cl (m := m) (encRes (errR 13)) rfl rfl) ?_
   exact ⟨rfl, rfl⟩
  have hb : (!fitsB 6 o.kind) = false := by
   have h := hc4
   rw [← h]
   simp [fitsB]
  rw [hb, if_neg (by simp)]
  refine awp_skip<|Sq<|Sq<|Rg<|Dd (fr' fo38_0)<|Dd (l1' Tryz.isAgg3)<|Zz<|awp_block<|Sq<|Rg<|Dd eql'<|Dd as'<|Zz ?_
  refine Cn (fun hc5 => ?_) fun hc5 => ?_
  ·cases hc5
  skip
  refine Sq<|Rg<|Dd eql'<|Dd as'<|Zz ?_
  refine Cn (fun hc6 => ?_) fun hc6 => ?_
  ·cases hc6
  skip
  refine Sq<|Rg<|Dd eql'<|Dd as'<|Zz ?_
  refine Cn (fun hc7 => ?_) fun hc7 => ?_
  ·cases hc7
  skip
  refine Sq<|Rg<|Dd eql'<|Dd as'<|Zz ?_
  refine Cn (fun hc8 => ?_) fun hc8 => ?_
  ·cases hc8
  skip
  refine Sq<|Rg<|Dd eql'<|Dd as'<|Zz ?_
  refine Cn (fun hc9 => ?_) fun hc9 => ?_
  ·skip
   refine Sq<|Rg<|Dd mv'<|Dd (ln' Tryz.isAgg38 Tryz.sizeOf38)<|Dd (ln' Tryz.isAgg36 Tryz.sizeOf36)<|Dd (by exact opr_call rfl rfl Tryz.call88 rfl (split_c m ⟨6, id, other, node, x, y, key, val, refs, obj⟩ o _ rfl rfl hm (by omega)))<|Uu (sa' Tryz.sizeOf85)<|Zz<|awp_ret ?_
   refine aret1 (H' := (cH m)) (.inr rfl) rfl (rl' Tryz.isAgg85 Tryz.sizeOf85) (Fin.cl (m := m) (encRes (gSplit m ⟨6, id, other, node, x, y, key, val, refs, obj⟩ o)) rfl rfl) ?_
   exact ⟨rfl, rfl⟩
  cases hc9
theorem join_c (m : List GObj) (e : GEdit) (o x : GObj) (H : Heap) (h14 : H.get 14 = some (cRow m)) (h12 : H.get 12 = some (kob m)) (hm : okM m) (hr : o.refs.length < 549755813888) (hr2 : x.refs.length < 549755813888) (hx : m.find? (idIs e.other) = some x) (ho : 0 < o.refs.length) (hx2 : x.kind = 2 → 0 < x.refs.length) :
  ACalls Tryz.prog 89 [.ref 14 0 0 0, av (encEdit e), av (encObj o)] H (fun r H' => r = av (encRes (gJoin m e o x)) ∧ H' = H) :=
 cl_c (join0_c m e o x hm hr hr2 hx ho hx2) h14 h12 (by simp; rfl)
theorem perf7_c (m : List GObj) (id other node : ByteArray) (x y : Int) (key val : ByteArray) (refs : List ByteArray) (obj : GObj) (hm : okM m) (ho9 : ∀ o, o ∈ m → o.refs.length < 549755813888 ∧ o.tags.length < 1099511627776) (hway : ∀ o, o ∈ m → o.kind = 2 → 0 < o.refs.length) :
  ACalls Tryz.prog 52 [.ref 14 0 0 0, av (encEdit ⟨7, id, other, node, x, y, key, val, refs, obj⟩)] (cH m) (fun r H' => r = av (encRes (gPerform m ⟨7, id, other, node, x, y, key, val, refs, obj⟩)) ∧ H' = cH m) := by
 rw [gPerform, if_neg (show ¬ ((7 : Int) = 1) by decide)]
 simp only
 refine Bd Tryz.func52 rfl Tryz.ntmps52<|Sq<|Rg<|Dd (by exact opd_box (id := 3) rfl rfl rfl rfl rfl)<|Dd (by exact x_alloc (id := 4) rfl zo85 rfl rfl)<|Zz<|Sq<|Sq<|Rg<|Dd (fr' fo38_0)<|Dd (l1' Tryz.isAgg3)<|Dd eql'<|Zz ?_
 refine Cn (fun hc1 => ?_) fun hc1 => ?_
 ·cases hc1
 skip
 cases hf : m.find? (idIs id) with
 | none =>
  refine awp_skip<|Sq ?_
  refine awp_drawc follows ?_
  refine Cq mv'<|Cq nc'<|Cq (fr' fo80_1)<|Cq (l1' Tryz.isAgg78)<|Cq (fr' fo38_1)<|Cq (l1' Tryz.isAgg9)<|Cq (by exact lk_none rfl rfl rfl rfl (kindOf_none hf))<|Cq mv'<|Cq ex'<|Cq ex'<|Cq as'<|Cq as' ?_
  refine dc_nil ⟨by kernel_rfl, ?_⟩
  refine Sq<|Sq ?_
  refine awp_drawc follows ?_
  refine Cq mv'<|Cq nc'<|Cq (fr' fo80_1)<|Cq (l1' Tryz.isAgg78)<|Cq (fr' fo38_2)<|Cq (l1' Tryz.isAgg9)<|Cq (by exact lk_c rfl rfl rfl rfl)<|Cq mv'<|Cq ex'<|Cq ex'<|Cq as'<|Cq as' ?_
  refine dc_nil ⟨by kernel_rfl, ?_⟩
  refine Sq<|Rg<|Dd mv'<|Dd no'<|Dd mv' ?_
  refine al_off rfl rfl rfl (by rfl) rfl ?_
  refine al_off rfl rfl rfl (by rfl) rfl ?_
  refine al_off rfl rfl rfl (by rfl) rfl ?_
  refine al_off rfl rfl rfl (by rfl) rfl ?_
  refine al_offu rfl rfl rfl rfl ?_
  refine al_offu rfl rfl rfl rfl ?_
  refine al_off rfl rfl rfl (by rfl) rfl ?_
  refine Dd pk'<|Zz ?_
  refine Cn (fun hc2 => ?_) fun hc2 => ?_
  ·skip
   refine Sq<|Rg<|Dd (bu' bo85)<|Uu (sa' Tryz.sizeOf85)<|Zz<|awp_ret ?_
   refine aret1 (H' := (cH m)) (.inr rfl) rfl (rl' Tryz.isAgg85 Tryz.sizeOf85) (Fin.cl (m := m) (encRes (errR 11)) rfl rfl) ?_
   exact ⟨rfl, rfl⟩
  cases hc2
 | some o =>
  cases hf2 : m.find? (idIs other) with
  | none =>
   simp only [show decide ((7 : Int) = 7) = true from rfl, Bool.true_and, Option.isNone_none, if_true]
   refine awp_skip<|Sq ?_
   refine awp_drawc follows ?_
   refine Cq mv'<|Cq nc'<|Cq (fr' fo80_1)<|Cq (l1' Tryz.isAgg78)<|Cq (fr' fo38_1)<|Cq (l1' Tryz.isAgg9)<|Cq (by exact lk_some rfl rfl rfl rfl (kindOf_some hf))<|Cq mv'<|Cq ex'<|Cq ex'<|Cq as'<|Cq as' ?_
   refine dc_nil ⟨by kernel_rfl, ?_⟩
   refine Sq<|Sq ?_
   refine awp_drawc follows ?_
   refine Cq mv'<|Cq nc'<|Cq (fr' fo80_1)<|Cq (l1' Tryz.isAgg78)<|Cq (fr' fo38_2)<|Cq (l1' Tryz.isAgg9)<|Cq (by exact lk_none rfl rfl rfl rfl (kindOf_none hf2))<|Cq mv'<|Cq ex'<|Cq ex'<|Cq as'<|Cq as' ?_
   refine dc_nil ⟨by kernel_rfl, ?_⟩
   refine Sq<|Rg<|Dd mv'<|Dd no'<|Dd mv' ?_
   refine al_ond rfl rfl rfl (by rfl) rfl rfl (by exact opd_field_ref rfl fo38_0 rfl rfl rfl rfl) ?_
   refine al_ond rfl rfl rfl (by rfl) rfl rfl (by exact opd_load1_ref rfl Tryz.isAgg3 rfl rfl rfl rfl rfl) ?_
   refine al_ond rfl rfl rfl (by rfl) rfl rfl (by exact opd_eql rfl rfl rfl) ?_
   refine al_ond rfl rfl rfl (by rfl) rfl rfl (by exact opd_move rfl rfl) ?_
   refine al_ond rfl rfl rfl (by rfl) rfl rfl (by exact opd_move rfl rfl) ?_
   refine al_ond rfl rfl rfl (by rfl) rfl rfl (by exact opd_not rfl rfl) ?_
   refine al_ond rfl rfl rfl (by rfl) rfl rfl (by exact opd_pick_t rfl rfl rfl) ?_
   refine Dd pk'<|Zz ?_
   refine Cn (fun hc3 => ?_) fun hc3 => ?_
   ·skip
    refine Sq<|Rg<|Dd (bu' bo85)<|Uu (sa' Tryz.sizeOf85)<|Zz<|awp_ret ?_
    refine aret1 (H' := (cH m)) (.inr rfl) rfl (rl' Tryz.isAgg85 Tryz.sizeOf85) (Fin.cl (m := m) (encRes (errR 11)) rfl rfl) ?_
    exact ⟨rfl, rfl⟩
   cases hc3
  | some o2 =>
   simp only [show decide ((7 : Int) = 7) = true from rfl, Bool.true_and, Option.isNone_some, Bool.false_eq_true, if_false, Option.getD_some]
   rw [if_neg (show ¬ ((7 : Int) = 2) by decide), if_neg (show ¬ ((7 : Int) = 3) by decide), if_neg (show ¬ ((7 : Int) = 4) by decide), if_neg (show ¬ ((7 : Int) = 5) by decide), if_neg (show ¬ ((7 : Int) = 6) by decide)]
   have hom2 := List.mem_of_find?_eq_some hf2
   obtain ⟨hp1, hp2⟩ := ho9 o2 hom2
   have hom := List.mem_of_find?_eq_some hf
   obtain ⟨ho1, ho2⟩ := ho9 o hom
   have hoo := hm.2 o hom
   refine awp_skip<|Sq ?_
   refine awp_drawc follows ?_
   refine Cq mv'<|Cq nc'<|Cq (fr' fo80_1)<|Cq (l1' Tryz.isAgg78)<|Cq (fr' fo38_1)<|Cq (l1' Tryz.isAgg9)<|Cq (by exact lk_some rfl rfl rfl rfl (kindOf_some hf))<|Cq mv'<|Cq ex'<|Cq ex'<|Cq as'<|Cq as' ?_
   refine dc_nil ⟨by kernel_rfl, ?_⟩
   refine Sq<|Sq ?_
   refine awp_drawc follows ?_
   refine Cq mv'<|Cq nc'<|Cq (fr' fo80_1)<|Cq (l1' Tryz.isAgg78)<|Cq (fr' fo38_2)<|Cq (l1' Tryz.isAgg9)<|Cq (by exact lk_some rfl rfl rfl rfl (kindOf_some hf2))<|Cq mv'<|Cq ex'<|Cq ex'<|Cq as'<|Cq as' ?_
   refine dc_nil ⟨by kernel_rfl, ?_⟩
   refine Sq<|Rg<|Dd mv'<|Dd no'<|Dd mv' ?_
   refine al_ond rfl rfl rfl (by rfl) rfl rfl (by exact opd_field_ref rfl fo38_0 rfl rfl rfl rfl) ?_
   refine al_ond rfl rfl rfl (by rfl) rfl rfl (by exact opd_load1_ref rfl Tryz.isAgg3 rfl rfl rfl rfl rfl) ?_
   refine al_ond rfl rfl rfl (by rfl) rfl rfl (by exact opd_eql rfl rfl rfl) ?_
   refine al_ond rfl rfl rfl (by rfl) rfl rfl (by exact opd_move rfl rfl) ?_
   refine al_ond rfl rfl rfl (by rfl) rfl rfl (by exact opd_move rfl rfl) ?_
   refine al_ond rfl rfl rfl (by rfl) rfl rfl (by exact opd_not rfl rfl) ?_
   refine al_ond rfl rfl rfl (by rfl) rfl rfl (by exact opd_pick_t rfl rfl rfl) ?_
   refine Dd pk'<|Zz ?_
   refine Cn (fun hc4 => ?_) fun hc4 => ?_
   ·cases hc4
   skip
   refine awp_skip<|Sq<|Rg<|Dd mv'<|Dd (fr' fo38_1)<|Dd (l1' Tryz.isAgg9)<|Dd (by exact opr_call rfl rfl Tryz.call30 rfl (get_c m id o _ rfl rfl hm hf))<|Dd (by exact x_alloc (id := 11) rfl zo36 rfl rfl)<|Uu (sa' Tryz.sizeOf36)<|Zz<|Sq<|Rg<|Dd (by exact opd_makeMap (id := 77) (intK .i64) rfl rfl)<|Dd (by exact x_buildSlice ([(1 : Int)].map encInt) rfl so109 rfl rfl rfl rfl rfl (by simp [encInt]))<|Uu (by exact x_mapUpdate (κ := (intK .i64)) (.inr rfl) Tryz.underlying110 Tryz.underlying3 rfl rfl rfl rfl rfl rfl rfl rfl)<|Dd (by exact x_buildSlice ([(2 : Int), 3, 4].map encInt) rfl so109 rfl rfl rfl rfl rfl (by simp [encInt]))<|Uu (by exact x_mapUpdate (κ := (intK .i64)) (.inr rfl) Tryz.underlying110 Tryz.underlying3 rfl rfl rfl rfl rfl rfl rfl rfl)<|Dd (by exact x_buildSlice ([(2 : Int)].map encInt) rfl so109 rfl rfl rfl rfl rfl (by simp [encInt]))<|Uu (by exact x_mapUpdate (κ := (intK .i64)) (.inr rfl) Tryz.underlying110 Tryz.underlying3 rfl rfl rfl rfl rfl rfl rfl rfl) ?_
   refine Dd (by exact x_buildSlice ([(2 : Int)].map encInt) rfl so109 rfl rfl rfl rfl rfl (by simp [encInt]))<|Uu (by exact x_mapUpdate (κ := (intK .i64)) (.inr rfl) Tryz.underlying110 Tryz.underlying3 rfl rfl rfl rfl rfl rfl rfl rfl)<|Dd mv'<|Dd as'<|Zz<|Sq<|Sq<|Rg<|Dd mv'<|Dd (fr' fo38_0)<|Dd (l1' Tryz.isAgg3)<|Dd (by exact opd_lookup_ok (κ := (intK .i64)) rfl Tryz.underlying110 Tryz.underlying3 rfl rfl rfl rfl rfl Tryz.zeroValue109 (.inl rfl))<|Dd mv'<|Dd ex'<|Dd ex'<|Dd as'<|Dd as'<|Zz<|Sq<|Rg<|Dd mv'<|Dd mv' ?_
   refine al_ond rfl rfl rfl (by rfl) rfl rfl (by exact opd_move rfl rfl) ?_
   refine al_ond rfl rfl rfl (by rfl) rfl rfl (by exact opd_field_ref rfl fo36_1 rfl rfl rfl rfl) ?_
   refine al_ond rfl rfl rfl (by rfl) rfl rfl (by exact opd_load1_ref rfl Tryz.isAgg3 rfl rfl rfl rfl rfl) ?_
   refine al_ond rfl rfl rfl (by rfl) rfl rfl (by exact opr_call rfl rfl Tryz.call85 rfl (containsI_c [(2 : Int)] o.kind _ (by decide))) ?_
   refine al_ond rfl rfl rfl (by rfl) rfl rfl (by exact opd_not rfl rfl) ?_
   refine Dd pk'<|Zz ?_
   refine Cn (fun hc5 => ?_) fun hc5 => ?_
   ·have hb : (!fitsB 7 o.kind) = true := by
     have h := hc5
     rw [← h]
     simp [fitsB]
    rw [hb, if_pos rfl]
    refine Sq<|Rg<|Dd (bu' bo85)<|Uu (sa' Tryz.sizeOf85)<|Zz<|awp_ret ?_
    refine aret1 (H' := (cH m)) (.inr rfl) rfl (rl' Tryz.isAgg85 Tryz.sizeOf85) (Fin.cl (m := m) (encRes (errR 13)) rfl rfl) ?_
    exact ⟨rfl, rfl⟩
   have hb : (!fitsB 7 o.kind) = false := by
    have h := hc5
    rw [← h]
    simp [fitsB]
   have hk2 : o.kind = 2 := by
    have h := hb
    simpa [fitsB] using h
   rw [hb, if_neg (by simp)]
   refine awp_skip<|Sq<|Sq<|Rg<|Dd (fr' fo38_0)<|Dd (l1' Tryz.isAgg3)<|Zz<|awp_block<|Sq<|Rg<|Dd eql'<|Dd as'<|Zz ?_
   refine Cn (fun hc6 => ?_) fun hc6 => ?_
   ·cases hc6
   skip
   refine Sq<|Rg<|Dd eql'<|Dd as'<|Zz ?_
   refine Cn (fun hc7 => ?_) fun hc7 => ?_
   ·cases hc7
   skip
   refine Sq<|Rg<|Dd eql'<|Dd as'<|Zz ?_
   refine Cn (fun hc8 => ?_) fun hc8 => ?_
   ·cases hc8
   skip
   refine Sq<|Rg<|Dd eql'<|Dd as'<|Zz ?_
   refine Cn (fun hc9 => ?_) fun hc9 => ?_
   ·cases hc9
   skip
   refine Sq<|Rg<|Dd eql'<|Dd as'<|Zz ?_
   refine Cn (fun hc10 => ?_) fun hc10 => ?_
   ·cases hc10
   skip
   refine Sq<|Rg<|Dd eql'<|Dd as'<|Zz ?_
   refine Cn (fun hc11 => ?_) fun hc11 => ?_
   ·skip
    refine Sq<|Rg<|Dd mv'<|Dd (ln' Tryz.isAgg38 Tryz.sizeOf38)<|Dd (ln' Tryz.isAgg36 Tryz.sizeOf36)<|Dd (by exact opr_call rfl rfl Tryz.call89 rfl (join_c m ⟨7, id, other, node, x, y, key, val, refs, obj⟩ o o2 _ rfl rfl hm ho1 hp1 hf2 (hway o hom hk2) (hway o2 hom2)))<|Uu (sa' Tryz.sizeOf85)<|Zz<|awp_ret ?_
    refine aret1 (H' := (cH m)) (.inr rfl) rfl (rl' Tryz.isAgg85 Tryz.sizeOf85) (Fin.cl (m := m) (encRes (gJoin m ⟨7, id, other, node, x, y, key, val, refs, obj⟩ o o2)) rfl rfl) ?_
    exact ⟨rfl, rfl⟩
   cases hc11
end Go.Proofs.YtbbnllojhjlaoaaGreat
end
section
set_option linter.unusedVariables false
set_option linter.unusedSimpArgs false
set_option maxRecDepth 100000
namespace Go.Proofs.YtbbnllojhjlaoaaGreat
open Go.Abs
theorem gObj_len {o : GObj} (h : gObj o = true) : o.refs.length ≤ 2000 ∧ o.tags.length ≤ 60 ∧ gTags o.tags = true ∧ gName o.id = true ∧ (o.kind = 2 → 2 ≤ o.refs.length) := by
 rw [gObj, Bool.and_eq_true, Bool.not_eq_true', gHead, gHeadN] at h
 have h1 := h.1
 simp only [Bool.or_eq_false_iff, Bool.not_eq_false', decide_eq_false_iff_not] at h1
 obtain ⟨⟨⟨⟨a1, a2⟩, a3⟩, a4⟩, a5⟩ := h1
 refine ⟨by omega, (gTags_iff.1 a3).2.2, a3, a2, fun hk => ?_⟩
 rw [hk, show gLeast 2 = 2 from rfl] at a4
 omega
theorem okTags_ins {l l' : List GTag} {key val : ByteArray} (hl : okTags l) (hk : key.size < 4611686018427387904) (hv : val.size < 4611686018427387904) (hlen : l'.length ≤ l.length + 1) (hlt : l.length < 1099511627776) (hm : ∀ t, t ∈ l' → t = ⟨key, val⟩ ∨ t ∈ l) : okTags l' := by
 refine ⟨by omega, fun t ht => ?_⟩
 rcases hm t ht with rfl | h
 ·exact ⟨hk, hv⟩
 exact hl.2 t h
theorem gSet_ok {l : List GTag} {key val : ByteArray} (hl : okTags l) (hk : key.size < 4611686018427387904) (hv : val.size < 4611686018427387904) (hlt : l.length < 1099511627776) : okTags (gSet l key val).1 := by
 have hle := lbI_le GTag.key l key
 unfold gSet
 split
 ·exact ⟨by show 0 < _; omega, fun t ht => by cases ht⟩
 split
 ·split
  ·refine okTags_ins hl hk hv (by simp only [List.length_append, List.length_take, List.length_drop]; omega) hlt (fun t ht => .inr ?_)
   rcases List.mem_append.1 ht with h | h
   ·exact List.mem_of_mem_take h
   exact List.mem_of_mem_drop h
  refine okTags_ins hl hk hv (by simp only [List.length_set]; omega) hlt (fun t ht => ?_)
  rcases List.mem_or_eq_of_mem_set ht with h | h
  ·exact .inr h
  exact .inl h
 split
 ·exact hl
 split
 ·exact ⟨by show 0 < _; omega, fun t ht => by cases ht⟩
 refine okTags_ins hl hk hv (by simp only [List.length_append, List.length_take, List.length_drop, List.length_cons]; omega) hlt (fun t ht => ?_)
 rcases List.mem_append.1 ht with h | h
 ·exact .inr (List.mem_of_mem_take h)
 rcases List.mem_cons.1 h with h | h
 ·exact .inl h
 exact .inr (List.mem_of_mem_drop h)
theorem find_ok {m : List GObj} {s : ByteArray} {o : GObj} (hm : okM m) (h : m.find? (idIs s) = some o) : okO o := hm.2 o (List.mem_of_find?_eq_some h)
theorem gEditV_iff {e : GEdit} : gEditV e = true ↔ (1 ≤ e.op ∧ e.op ≤ 7) ∧ okOf e = true ∧ xOf e = e := by
 rw [gEditV, Bool.and_eq_true, Bool.and_eq_true, Bool.and_eq_true, decide_eq_true_eq, decide_eq_true_eq, gSameE_iff]
theorem gEditV_val {e : GEdit} (h : gEditV e = true) : e.val.size ≤ 200 := by
 obtain ⟨_, h2, h3⟩ := gEditV_iff.1 h
 have hv : (xOf e).val = e.val := by rw [h3]
 by_cases e3 : e.op = 3
 ·rw [okOf, if_neg (by omega), if_neg (by omega), if_pos e3, Bool.and_eq_true, Bool.and_eq_true, decide_eq_true_eq] at h2
  omega
 have : e.val = sNil := by
  rw [← hv, xOf]
  repeat' split
  all_goals rfl
 rw [this]; decide
theorem perf_ok {m : List GObj} {e : GEdit} (hm : okM m) (hg : gMap m = true) (he : okE e) (hv : gEditV e = true) : ∀ o, o ∈ (gPerform m e).put → okO o := by
 have hvs := gEditV_val hv
 obtain ⟨⟨h1, h2, h3, h4⟩, ⟨h5, h6⟩, h7⟩ := he
 have hlen : ∀ o, o ∈ m → o.refs.length ≤ 2000 ∧ o.tags.length ≤ 60 := fun o ho => by
  have := gObj_len ((gMap_iff.1 hg).1 o ho)
  exact ⟨this.1, this.2.1⟩
 have hnone : ∀ n, ∀ o, o ∈ (errR n).put → okO o := fun n o ho => by cases ho
 unfold gPerform
 split
 ·split
  ·exact hnone _
  intro o ho
  rw [List.mem_singleton] at ho; subst ho; exact h7
 split
 ·exact hnone _
 next o hf =>
 have hoo := find_ok hm hf
 have hol := hlen o (List.mem_of_find?_eq_some hf)
 split
 ·exact hnone _
 split
 ·exact hnone _
 split
 ·intro x hx
  rw [List.mem_singleton] at hx; subst hx; exact hoo
 split
 ·split
  ·exact hnone _
  intro x hx
  rw [List.mem_singleton] at hx; subst hx
  refine ⟨hoo.1, gSet_ok hoo.2.1 ?_ ?_ (by omega), hoo.2.2⟩
  ·exact h4
  omega
 split
 ·split
  ·exact hnone _
  intro x hx
  rw [List.mem_singleton] at hx; subst hx
  exact ⟨hoo.1, hoo.2.1, h5, h6⟩
 split
 ·split
  ·exact hnone _
  intro x hx; cases hx
 split
 ·unfold gSplit
  split
  ·exact hnone _
  split
  ·exact hnone _
  split
  ·exact hnone _
  intro x hx
  simp only [List.mem_cons, List.not_mem_nil, or_false] at hx
  rcases hx with rfl | rfl
  ·exact ⟨hoo.1, hoo.2.1, by simp only [List.length_take]; omega, fun s hs => hoo.2.2.2 s (List.mem_of_mem_take hs)⟩
  exact ⟨h2, hoo.2.1, by simp only [List.length_drop]; omega, fun s hs => hoo.2.2.2 s (List.mem_of_mem_drop hs)⟩
 unfold gJoin
 split
 ·exact hnone _
 split
 ·exact hnone _
 split
 ·exact hnone _
 split
 ·exact hnone _
 intro x hx
 rw [List.mem_singleton] at hx; subst hx
 have hx2 : okO ((m.find? (idIs e.other)).getD zObj) ∧ ((m.find? (idIs e.other)).getD zObj).refs.length ≤ 2000 := by
  cases hf2 : m.find? (idIs e.other) with
  | none => exact ⟨⟨by decide, ⟨by decide, fun t ht => by cases ht⟩, by decide, fun s hs => by cases hs⟩, by decide⟩
  | some x => exact ⟨find_ok hm hf2, (hlen x (List.mem_of_find?_eq_some hf2)).1⟩
 refine ⟨hoo.1, hoo.2.1, ?_, fun s hs => ?_⟩
 ·simp only [List.flatten_cons, List.flatten_nil, List.append_nil, List.length_append, List.length_drop]; omega
 simp only [List.flatten_cons, List.flatten_nil, List.append_nil] at hs
 rcases List.mem_append.1 hs with h | h
 ·exact hoo.2.2.2 s h
 exact hx2.1.2.2.2 s (List.mem_of_mem_drop h)
theorem perf0_c (m : List GObj) (e : GEdit) (hm : okM m) (hg : gMap m = true) (hv : gEditV e = true) (he : okE e) :
  ACalls Tryz.prog 52 [.ref 14 0 0 0, av (encEdit e)] (cH m) (fun r H' => r = av (encRes (gPerform m e)) ∧ H' = cH m) := by
 have hvs := gEditV_val hv
 obtain ⟨⟨o1, o2⟩, _, _⟩ := gEditV_iff.1 hv
 have hlen : ∀ o, o ∈ m → o.refs.length < 549755813888 ∧ o.tags.length < 1099511627776 := fun o ho => by
  have := gObj_len ((gMap_iff.1 hg).1 o ho)
  omega
 have hway : ∀ o, o ∈ m → o.kind = 2 → 0 < o.refs.length := fun o ho hk => by
  have := (gObj_len ((gMap_iff.1 hg).1 o ho)).2.2.2.2 hk
  omega
 obtain ⟨⟨h1, h2, h3, h4⟩, h5, h7⟩ := he
 by_cases e1 : e.op = 1
 ·exact perf1_c m e hm e1 h7.2.2.1
 have hop : e.op = 2 ∨ e.op = 3 ∨ e.op = 4 ∨ e.op = 5 ∨ e.op = 6 ∨ e.op = 7 := by omega
 obtain ⟨op, id, other, node, x, y, key, val, refs, obj⟩ := e
 simp only at hop h4 h5 hvs
 rcases hop with rfl | rfl | rfl | rfl | rfl | rfl
 ·exact perf2_c m id other node x y key val refs obj hm hlen
 ·exact perf3_c m id other node x y key val refs obj hm hlen h4 (by omega)
 ·exact perf4_c m id other node x y key val refs obj hm hlen h5
 ·exact perf5_c m id other node x y key val refs obj hm hlen
 ·exact perf6_c m id other node x y key val refs obj hm hlen
 exact perf7_c m id other node x y key val refs obj hm hlen hway
theorem perf_c (m : List GObj) (e : GEdit) (H : Heap) (h14 : H.get 14 = some (cRow m)) (h12 : H.get 12 = some (kob m)) (hm : okM m) (hg : gMap m = true) (hv : gEditV e = true) (he : okE e) :
  ACalls Tryz.prog 52 [.ref 14 0 0 0, av (encEdit e)] H (fun r H' => r = av (encRes (gPerform m e)) ∧ H' = H) :=
 cl_c (perf0_c m e hm hg hv he) h14 h12 (by simp; rfl)
/-- The objects of a list put into a map, one after the other. -/
def putAll : List GObj → List GObj → List GObj × Int
 | m, [] => (m, 0)
 | m, o :: r => if !decide ((gPutM m o).2 = 0) then ([], (gPutM m o).2) else putAll (gPutM m o).1 r
def gAfter (m : List GObj) (e : GEdit) : List GObj × Int :=
 if !gEditV e then ([], 1)
 else if !decide ((gPerform m e).err = 0) then ([], (gPerform m e).err)
 else if !decide ((putAll m (gPerform m e).put).2 = 0) then putAll m (gPerform m e).put
 else if !decide ((gPerform m e).drop = sNil) then gDropM (putAll m (gPerform m e).put).1 (gPerform m e).drop
 else ((putAll m (gPerform m e).put).1, 0)
theorem gPutM_ok {m : List GObj} {o : GObj} (hm : okM m) (ho : okO o) (hl : m.length < 1099511627776) : okM (gPutM m o).1 ∧ (gPutM m o).1.length ≤ m.length + 1 := by
 unfold gPutM
 split
 ·exact ⟨⟨by show 0 < _; omega, fun x hx => by cases hx⟩, by show 0 ≤ _; omega⟩
 split
 ·exact ⟨⟨by show 0 < _; omega, fun x hx => by cases hx⟩, by show 0 ≤ _; omega⟩
 exact ⟨okM_with hm ho hl, by show (gWith m o).length ≤ _; rw [gWith_len]; split <;> omega⟩
end Go.Proofs.YtbbnllojhjlaoaaGreat
end
section
set_option linter.unusedVariables false
set_option linter.unusedSimpArgs false
set_option maxRecDepth 100000
namespace Go.Proofs.YtbbnllojhjlaoaaGreat
open Go.Abs
/-- A map and an error are returned, of a function on a closed map. -/
theorem Fin.clT {m : List GObj} {H1 : Heap} (p : PV) (n : Int) (h14 : H1.get 14 = some (cRow m)) (h12 : H1.get 12 = some (kob m)) : Fin (cH m) H1 (.tup [.agg [.pv p], iv n]) (cH m) (.tup [.agg [.pv p], iv n]) :=
 Fin.wk (by simp) ⟨⟨_, h14, rfl⟩, by simp; rfl, ⟨_, h12, rfl⟩, kob_clo _ _, trivial⟩ ⟨h14.symm, h12.symm, trivial⟩
theorem put_small {m : List GObj} {e : GEdit} : (gPerform m e).put.length ≤ 2 := by
 have hn : ∀ n, (errR n).put.length ≤ 2 := fun n => by show 0 ≤ 2; omega
 unfold gPerform
 repeat' split
 all_goals first | exact hn _ | (simp only [List.length_cons, List.length_nil]; omega) | skip
 ·unfold gSplit
  repeat' split
  all_goals first | exact hn _ | (simp only [List.length_cons, List.length_nil]; omega)
 unfold gJoin
 repeat' split
 all_goals first | exact hn _ | (simp only [List.length_cons, List.length_nil]; omega)
theorem after0_c (m : List GObj) (e : GEdit) (hm : okM m) (hg : gMap m = true) (he : okE e) (hl : m.length < 549755813888) :
  ACalls Tryz.prog 24 [.ref 14 0 0 0, av (encEdit e)] (cH m) (fun r H' => r = .tup [.agg [.pv (slObjs (gAfter m e).1)], iv (gAfter m e).2] ∧ H' = cH m) := by
 refine Bd Tryz.func24 rfl Tryz.ntmps24<|Sq<|Rg<|Dd (by exact opd_box (id := 3) rfl rfl rfl rfl rfl)<|Dd (by exact x_alloc (id := 4) rfl zo24 rfl rfl)<|Dd as'<|Zz<|Sq<|Sq<|Rg<|Dd (ln' Tryz.isAgg38 Tryz.sizeOf38)<|Dd (by exact opr_call rfl rfl Tryz.call12 rfl (editValid_c e _ he))<|Dd no'<|Zz ?_
 refine Cn (fun hc1 => ?_) fun hc1 => ?_
 ·have hga : gAfter m e = ([], 1) := by rw [gAfter, if_pos hc1]
  rw [hga]
  refine Sq<|Rg<|Dd (bu' bo24)<|Uu (sa' Tryz.sizeOf24)<|Dd as'<|Zz<|awp_ret ?_
  refine aret2 (H' := (cH m)) (.inr rfl) rfl (rl' Tryz.isAgg24 Tryz.sizeOf24) (rval_tmp rfl) (Fin.clT (m := m) (slObjs []) 1 rfl rfl) ?_
  exact ⟨rfl, rfl⟩
 have hv : gEditV e = true := by
  have h := hc1
  revert h
  cases gEditV e <;> simp
 have hpo := perf_ok hm hg he hv
 have hps := put_small (m := m) (e := e)
 have hga : gAfter m e = (if !decide ((gPerform m e).err = 0) then ([], (gPerform m e).err) else if !decide ((putAll m (gPerform m e).put).2 = 0) then putAll m (gPerform m e).put else if !decide ((gPerform m e).drop = sNil) then gDropM (putAll m (gPerform m e).put).1 (gPerform m e).drop else ((putAll m (gPerform m e).put).1, 0)) := by
  rw [gAfter, if_neg (by rw [hc1]; simp)]
 obtain ⟨R, hR⟩ : ∃ R, R = gPerform m e := ⟨_, rfl⟩
 have hpf := fun H h14 h12 => perf_c m e H h14 h12 hm hg hv he
 rw [← hR] at hpo hps hga hpf
 rw [hga]
 refine awp_skip<|Sq<|Rg<|Dd mv'<|Dd (ln' Tryz.isAgg38 Tryz.sizeOf38)<|Dd (by exact opr_call rfl rfl Tryz.call52 rfl (hpf _ rfl rfl))<|Dd (by exact x_alloc (id := 6) rfl zo85 rfl rfl)<|Uu (sa' Tryz.sizeOf85)<|Zz<|Sq<|Sq<|Rg<|Dd (fr' fo85_2)<|Dd (l1' Tryz.isAgg28)<|Dd ne'<|Zz ?_
 refine Cn (fun hc2 => ?_) fun hc2 => ?_
 ·rw [if_pos hc2]
  refine Sq ?_
  refine awp_drawc follows ?_
  refine Cr [] (fun _ _ => (bu' bo24))<|Cr [6] (fun _ h => fh fo85_2 h)<|Cr [6] (fun _ h => lh Tryz.isAgg28 h)<|Cp [4] (fun H1 hH => by exact x_store_all rfl Tryz.sizeOf24 rfl rfl rfl rfl ((hH _ rfl).trans rfl) rfl rfl rfl)<|Cr [] (fun _ _ => as') ?_
  refine dc_nil ⟨by kernel_rfl, ?_⟩
  refine awp_ret ?_
  refine aret2 (H' := (cH m)) (.inr rfl) rfl (rl' Tryz.isAgg24 Tryz.sizeOf24) (rval_tmp rfl) (Fin.clT (m := m) (slObjs []) R.err rfl rfl) ?_
  exact ⟨rfl, rfl⟩
 rw [if_neg (by rw [hc2]; simp)]
 refine awp_skip<|Sq<|Rg<|Dd mv'<|Dd nc'<|Dd (fr' fo80_0)<|Dd (ln' Tryz.isAgg24 Tryz.sizeOf24)<|Dd (by exact x_alloc (id := 7) rfl zo24 rfl rfl)<|Uu (sa' Tryz.sizeOf24)<|Zz<|Sq<|Sq<|Rg<|Dd (fr' fo85_0)<|Dd (l1' Tryz.isAgg22)<|Dd (ll' Tryz.underlying22)<|Dd mv'<|Zz<|awp_block ?_
 have hml : (R.put.map encObj).length = R.put.length := List.length_map _
 refine awp_loop2 (fun (k : Nat) (mk : List GObj) => ([(0, .ref 14 0 0 0), (4, .ref 4 0 0 0), (6, .ref 6 0 0 0), (7, .ref 7 0 0 0), (30, .pv (slObjs R.put)), (31, iv ((R.put.map encObj).length : Int)), (32, iv (k : Int))], [(7, bx 1 24 [.pv (slObjs mk)]), (6, bx 3 85 [.pv (slObjs R.put), sv R.drop, iv R.err]), (4, bx 1 24 [lv []]), (14, cRow m), (12, kob m)])) (fun k mk => k ≤ R.put.length ∧ okM mk ∧ mk.length ≤ m.length + k ∧ putAll m R.put = putAll mk (R.put.drop k)) (fun k mk => R.put.length - k) 0 m ⟨by omega, hm, by omega, rfl⟩ ?_ ?_
 ·exact (Ent.wk ⟨⟨_, rfl, rfl⟩, (by (simp; rfl)), ⟨_, rfl, rfl⟩, (by (simp; rfl)), ⟨_, rfl, rfl⟩, (by (simp; rfl)), ⟨_, rfl, rfl⟩, (by (simp; rfl)), ⟨_, rfl, rfl⟩, (by (simp; done)), ⟨_, rfl, rfl⟩, (by (simp; done)), ⟨_, rfl, rfl⟩, (by (simp; done)), trivial⟩ ⟨⟨_, rfl, rfl⟩, (by (simp; done)), ⟨_, rfl, rfl⟩, (by (simp; done)), ⟨_, rfl, rfl⟩, (by (simp; done)), ⟨_, rfl, rfl⟩, (by (simp; rfl)), ⟨_, rfl, rfl⟩, (by exact kob_clo _ _), trivial⟩ ⟨rfl, rfl, trivial⟩)
 rintro k mk ⟨hk, hmk, hmkl, hpa⟩
 refine Sq<|Rg<|Dd lss'<|Zz<|Sq ?_
 refine Cn (fun hc3 => ?_) fun hc3 => ?_
 ·have hlt : k < R.put.length := by have := of_decide_eq_true hc3; omega
  obtain ⟨o, ho⟩ := get_of_lt hlt
  have hi := map_get (f := encObj) ho
  have hoo := hpo o (List.mem_of_getElem? ho)
  have hdr : R.put.drop k = o :: R.put.drop (k + 1) := by
   obtain ⟨hl1, he1⟩ := List.getElem?_eq_some_iff.1 ho
   rw [List.drop_eq_getElem_cons hl1, he1]
  rw [hdr, putAll] at hpa
  obtain ⟨q1, q2⟩ := gPutM_ok hmk hoo (by omega)
  refine awp_skip<|Sq<|awp_block<|Sq<|Rg<|Dd (xp' so22)<|Dd (by exact opd_loadn_pad rfl Tryz.isAgg36 Tryz.sizeOf36 rfl (by omega) rfl rfl)<|Dd (by exact x_alloc (id := 9) rfl zo36 rfl rfl)<|Uu (sa' Tryz.sizeOf36)<|Zz<|Sq<|Rg<|Dd (ln' Tryz.isAgg24 Tryz.sizeOf24)<|Dd (ln' Tryz.isAgg36 Tryz.sizeOf36)<|Dd (by exact opr_call rfl rfl Tryz.call53 rfl (putM_c mk o _ hmk hoo (by omega)))<|Dd mv'<|Dd ex'<|Dd ex'<|Dd (by exact x_alloc (id := 10) rfl zo24 rfl rfl)<|Uu (sa' Tryz.sizeOf24)<|Dd as'<|Zz<|Sq<|Sq<|Rg<|Dd mv'<|Dd ne'<|Zz ?_
  refine Cn (fun hc4 => ?_) fun hc4 => ?_
  ·rw [if_pos hc4] at hpa
   have hne : (!decide ((putAll m R.put).2 = 0)) = true := by rw [hpa]; exact hc4
   rw [if_pos hne, hpa]
   refine Sq<|Rg<|Dd (bu' bo24)<|Dd mv'<|Uu (sa' Tryz.sizeOf24)<|Dd as'<|Zz<|awp_ret ?_
   refine aret2 (H' := (cH m)) (.inr rfl) rfl (rl' Tryz.isAgg24 Tryz.sizeOf24) (rval_tmp rfl) (Fin.clT (m := m) (slObjs []) (gPutM mk o).2 rfl rfl) ?_
   exact ⟨rfl, rfl⟩
  rw [if_neg (by rw [hc4]; simp)] at hpa
  refine awp_skip<|Rg<|Dd (ln' Tryz.isAgg24 Tryz.sizeOf24)<|Uu (sa' Tryz.sizeOf24)<|Zz<|Rg<|Dd ad'<|Dd mv'<|Zz ?_
  exact ⟨k + 1, (gPutM mk o).1, ⟨by omega, q1, by omega, hpa⟩, by omega, (Ent.wk ⟨⟨_, rfl, rfl⟩, (by (simp; rfl)), ⟨_, rfl, rfl⟩, (by (simp; rfl)), ⟨_, rfl, rfl⟩, (by (simp; rfl)), ⟨_, rfl, rfl⟩, (by (simp; rfl)), ⟨_, rfl, rfl⟩, (by (simp; done)), ⟨_, rfl, rfl⟩, (by (simp; done)), ⟨_, rfl, rfl⟩, (by (simp; done)), trivial⟩ ⟨⟨_, rfl, rfl⟩, (by (simp; done)), ⟨_, rfl, rfl⟩, (by (simp; done)), ⟨_, rfl, rfl⟩, (by (simp; done)), ⟨_, rfl, rfl⟩, (by (simp; rfl)), ⟨_, rfl, rfl⟩, (by exact kob_clo _ _), trivial⟩ ⟨rfl, rfl, trivial⟩)⟩
 have hge : k = R.put.length := by have := of_decide_eq_false hc3; omega
 subst hge
 rw [List.drop_length, putAll] at hpa
 rw [hpa]
 rw [if_neg (show ¬ ((!decide (((mk, (0 : Int)) : List GObj × Int).2 = 0)) = true) by simp)]
 refine awp_exit<|Sq<|Sq<|Rg<|Dd (fr' fo85_1)<|Dd (l1' Tryz.isAgg9)<|Dd sn'<|Zz ?_
 refine Cn (fun hc5 => ?_) fun hc5 => ?_
 ·rw [if_pos hc5]
  refine Sq<|Rg<|Dd (ln' Tryz.isAgg24 Tryz.sizeOf24)<|Dd (fr' fo85_1)<|Dd (l1' Tryz.isAgg9)<|Dd (by exact opr_call rfl rfl Tryz.call54 rfl (drop_c mk R.drop _ hmk (by omega)))<|Dd ex'<|Dd ex'<|Uu (sa' Tryz.sizeOf24)<|Dd as'<|Zz<|awp_ret ?_
  refine aret2 (H' := (cH m)) (.inr rfl) rfl (rl' Tryz.isAgg24 Tryz.sizeOf24) (rval_tmp rfl) (Fin.clT (m := m) (slObjs (gDropM mk R.drop).1) (gDropM mk R.drop).2 rfl rfl) ?_
  exact ⟨rfl, rfl⟩
 rw [if_neg (by rw [hc5]; simp)]
 refine awp_skip<|Sq<|Rg<|Dd (ln' Tryz.isAgg24 Tryz.sizeOf24)<|Uu (sa' Tryz.sizeOf24)<|Dd as'<|Zz<|awp_ret ?_
 refine aret2 (H' := (cH m)) (.inr rfl) rfl (rl' Tryz.isAgg24 Tryz.sizeOf24) (rval_tmp rfl) (Fin.clT (m := m) (slObjs mk) 0 rfl rfl) ?_
 exact ⟨rfl, rfl⟩
theorem after_c (m : List GObj) (e : GEdit) (H : Heap) (h14 : H.get 14 = some (cRow m)) (h12 : H.get 12 = some (kob m)) (hm : okM m) (hg : gMap m = true) (he : okE e) (hl : m.length < 549755813888) :
  ACalls Tryz.prog 24 [.ref 14 0 0 0, av (encEdit e)] H (fun r H' => r = .tup [.agg [.pv (slObjs (gAfter m e).1)], iv (gAfter m e).2] ∧ H' = H) :=
 cl_c (after0_c m e hm hg he hl) h14 h12 (by simp; rfl)
def gApply (m : List GObj) (e : GEdit) : List GObj × Int := if closedB m then gAfter m e else ([], 1)
theorem closed_gMap {m : List GObj} (h : closedB m = true) : gMap m = true := by
 rw [closedB, Bool.and_eq_true] at h
 exact h.1
theorem apply_c (m : List GObj) (e : GEdit) (H : Heap) (hm : okM m) (he : okE e) (hl : m.length < 549755813888) :
  ACalls Tryz.prog 6 [.agg [.pv (slObjs m)], av (encEdit e)] H (fun r H' => r = .tup [.agg [.pv (slObjs (gApply m e).1)], iv (gApply m e).2] ∧ H' = H) := by
 refine ACalls.pure ?_ (by simp) H
 rw [gApply]
 cases hcl : closedB m with
 | true =>
  simp only [if_true]
  refine Bd Tryz.func6 rfl Tryz.ntmps6<|Sq<|Rg<|Dd (by exact opd_box (id := 2) rfl rfl rfl rfl rfl)<|Dd (by exact opd_box (id := 3) rfl rfl rfl rfl rfl)<|Dd (by exact x_alloc (id := 4) rfl zo24 rfl rfl)<|Dd as'<|Zz<|Sq<|Rg<|Dd (ln' Tryz.isAgg24 Tryz.sizeOf24)<|Dd (by exact opr_call rfl rfl Tryz.call23 rfl (ofF_c m _ hm hcl rfl rfl))<|Dd as'<|Zz<|Sq<|Sq<|Rg<|Dd mv'<|Dd (by exact opd_peq_ref rfl Tryz.underlying52 rfl rfl rfl rfl)<|Zz ?_
  refine Cn (fun hc1 => ?_) fun hc1 => ?_
  ·cases hc1
  skip
  refine awp_skip<|Sq<|Rg<|Dd mv'<|Dd (ln' Tryz.isAgg38 Tryz.sizeOf38)<|Dd (by exact opr_call rfl rfl Tryz.call24 rfl (after_c m e _ rfl rfl hm (closed_gMap hcl) he hl))<|Dd ex'<|Dd ex'<|Uu (sa' Tryz.sizeOf24)<|Dd as'<|Zz<|awp_ret ?_
  refine aret2 (H' := []) (.inr rfl) rfl (rl' Tryz.isAgg24 Tryz.sizeOf24) (rval_tmp rfl) (Fin.wk (r := .tup [.agg [.pv (slObjs (gAfter m e).1)], iv (gAfter m e).2]) (by simp) trivial trivial) ?_
  exact ⟨rfl, rfl⟩
 | false =>
  simp only [Bool.false_eq_true, if_false]
  have hof := fun H => ACalls.pure (ofN_c m hm hcl) (by simp) H
  refine Bd Tryz.func6 rfl Tryz.ntmps6<|Sq<|Rg<|Dd (by exact opd_box (id := 2) rfl rfl rfl rfl rfl)<|Dd (by exact opd_box (id := 3) rfl rfl rfl rfl rfl)<|Dd (by exact x_alloc (id := 4) rfl zo24 rfl rfl)<|Dd as'<|Zz<|Sq<|Rg<|Dd (ln' Tryz.isAgg24 Tryz.sizeOf24)<|Dd (by exact opr_call rfl rfl Tryz.call23 rfl (hof _))<|Dd as'<|Zz<|Sq<|Sq<|Rg<|Dd mv'<|Dd (by exact opd_peq_nil rfl Tryz.underlying52 rfl rfl)<|Zz ?_
  refine Cn (fun hc1 => ?_) fun hc1 => ?_
  ·skip
   refine Sq<|Rg<|Dd (bu' bo24)<|Uu (sa' Tryz.sizeOf24)<|Dd as'<|Zz<|awp_ret ?_
   refine aret2 (H' := []) (.inr rfl) rfl (rl' Tryz.isAgg24 Tryz.sizeOf24) (rval_tmp rfl) (Fin.wk (r := .tup [.agg [lv []], iv 1]) (by simp) trivial trivial) ?_
   exact ⟨rfl, rfl⟩
  cases hc1
end Go.Proofs.YtbbnllojhjlaoaaGreat
end
