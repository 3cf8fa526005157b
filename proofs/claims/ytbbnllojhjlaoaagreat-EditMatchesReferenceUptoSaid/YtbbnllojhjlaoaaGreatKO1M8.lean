/-
  CONTRACTS: the reference: maps without and with an object; what refers; a node within a list; kinds. Conditions: lengths below 2^38.
  PLAIN: what an edit puts and drops is named by it; two edits without a common name commute. Conditions: none.
  PLAIN: the reference's edits are the program's. Conditions: few objects.
  CONTRACTS: the reference: tags are valid, tags with another value of a key. Conditions: lengths below 2^38.
  CONTRACTS: the reference: sound objects, closed maps. Conditions: lengths below 2^40.
  PLAIN: the reference's valid edits are the package's. Conditions: none.
-/
import Derived.Test.YtbbnllojhjlaoaaGreatKO1M7
section
set_option linter.unusedVariables false
set_option linter.unusedSimpArgs false
set_option maxRecDepth 100000
namespace Go.Proofs.YtbbnllojhjlaoaaGreat
open Go.Abs
theorem filter_take {α : Type} (p : α → Bool) {l : List α} {k : Nat} {a : α} (h : l[k]? = some a) : (l.take (k + 1)).filter p = (l.take k).filter p ++ (if p a then [a] else []) := by
 rw [List.take_add_one, h, List.filter_append]
 congr 1
 cases e : p a <;> simp [e]
theorem tkO {l : List GObj} {n : Nat} (hn : n = l.length) : ((obRows l).drop 0).take n = obRows l := by
 rw [hn, List.drop_zero, ← List.length_map (f := fun e => (encObj e).map AV.pv), List.take_length]
theorem obR_rl (l : List GObj) : ∀ r ∈ obRows l, r.length = 6 := fun r hr => by
 obtain ⟨o, _, rfl⟩ := List.mem_map.1 hr
 rfl
theorem takeO (l : List GObj) {n : Nat} (hn : n = l.length) : ((l.map encObj).take (0 + n)).drop 0 = l.map encObj := by rw [hn, Nat.zero_add, List.drop_zero, ← List.length_map (f := encObj), List.take_length]
theorem Fin.mapO {H1 : Heap} {id g n : Nat} {ob : Ob} (l : List GObj) (hH : H1.get id = some ob) (hg : ob.g = g) (hps : ob.rows = obRows l) (hn : n = l.length) :
  Fin [] H1 (.agg [.osl id g 0 n]) [] (.agg [.pv (slObjs l)]) := by
 subst hg
 exact Fin.fz (id := id) (ob := ob) (l.map encObj) hH (hps.trans (rows_of encObj l)) (.agg rfl (fz_cons (.osl (takeO l hn)) fz_nil)) rfl trivial trivial
def gWithout (m : List GObj) (id : ByteArray) : List GObj := m.filter (fun o => !decide (o.id = id))
theorem without_c (m : List GObj) (id : ByteArray) (H : Heap) (hm : m.length < 549755813888) : ACalls Tryz.prog 61 [.agg [.pv (slObjs m)], sv id] H (fun r H' => r = .agg [.pv (slObjs (gWithout m id))] ∧ H' = H) := by
 refine ACalls.pure ?_ (by simp) H
 have hmm : (m.map encObj).length = m.length := List.length_map _
 refine Bd Tryz.func61 rfl Tryz.ntmps61<|Sq<|Rg<|Dd (by exact opd_box (id := 2) rfl rfl rfl rfl rfl)<|Dd (by exact x_alloc (id := 4) rfl zo24 rfl rfl)<|Zz<|Sq<|Rg<|Dd (by exact x_alloc (id := 5) rfl zoN24 rfl rfl)<|Zz<|Sq<|Sq<|Rg<|Dd as'<|Zz<|awp_block ?_
 obtain ⟨q, hq⟩ : ∃ q : GObj → Bool, q = fun o => !decide (o.id = id) := ⟨_, rfl⟩
 have hw : gWithout m id = m.filter q := by rw [gWithout, hq]
 rw [hw]
 refine awp_loop2 (fun (i : Nat) (g : Nat) => ([(1, sv id), (2, .ref 2 0 0 0), (4, .ref 4 0 0 0), (5, .ref 5 0 0 0), (6, iv (i : Int))], [(900, ⟨g, 6, 36, obRows ((m.take i).filter q)⟩), (5, bx 1 24 [.osl 900 g 0 ((m.take i).filter q).length]), (4, bx 1 24 [.pv (.sl [])]), (2, bx 1 24 [.pv (slObjs m)])])) (fun i g => i ≤ m.length) (fun i g => m.length - i) 0 0 (by omega) ?_ ?_
 ·exact (Ent.nz 900 6 36 rfl rfl ⟨⟨_, rfl, (by exact Nz.same (by (simp; done)))⟩, ⟨_, rfl, (by exact Nz.same (by (simp; rfl)))⟩, ⟨_, rfl, (by exact Nz.same (by (simp; rfl)))⟩, ⟨_, rfl, (by exact Nz.same (by (simp; rfl)))⟩, ⟨_, rfl, (by exact Nz.same (by (simp; done)))⟩, trivial⟩ ⟨⟨_, rfl, rfl, rfl, rfl, (by exact .inr ⟨_, _, rfl, rfl, (by repeat (first | exact trivial | refine ⟨(by exact Nz.own), ?_⟩))⟩)⟩, ⟨_, rfl, rfl, rfl, rfl, (by exact .inl ⟨rfl, (by (simp; done))⟩)⟩, ⟨_, rfl, rfl, rfl, rfl, (by exact .inl ⟨rfl, (by (simp; done))⟩)⟩, trivial⟩ trivial)
 rintro i g hi
 have hfl : ((m.take i).filter q).length ≤ i := Nat.le_trans (List.length_filter_le _ _) (by simp; omega)
 refine Sq<|Sq<|Rg<|Dd mv'<|Dd (fr' fo24_0)<|Dd (l1' Tryz.isAgg22)<|Dd (ll' Tryz.underlying22)<|Dd lss'<|Zz ?_
 refine Cn (fun hc1 => ?_) fun hc1 => ?_
 ·have hil : i < m.length := by have := of_decide_eq_true hc1; omega
  obtain ⟨o, ho⟩ := get_of_lt hil
  have hi1 := map_get (f := encObj) ho
  have hft := filter_take q ho
  have hqo : q o = !decide (o.id = id) := by rw [hq]
  refine awp_skip<|Sq<|awp_block<|Sq<|Rg<|Dd (fr' fo24_0)<|Dd (l1' Tryz.isAgg22)<|Dd mv'<|Dd (by exact x_index_pad rfl so22 rfl rfl (by omega) (by exact Int.toNat_natCast _) hi1 rfl)<|Dd (fp' fo36_0)<|Dd (lp' Tryz.isAgg9 (hi := hi1))<|Dd mv'<|Dd sn'<|Zz ?_
  refine Cn (fun hc2 => ?_) fun hc2 => ?_
  ·rw [hqo, hc2, if_pos rfl] at hft
   refine awp_drawc follows ?_
   refine Cr [5] (fun _ h => fh fo24_0 h)<|Cr [5] (fun _ h => lh Tryz.isAgg22 h)<|Cr [2] (fun _ h => fh fo24_0 h)<|Cr [2] (fun _ h => lh Tryz.isAgg22 h)<|Cr [] (fun _ _ => mv')<|Cr [] (fun H1 hH => by exact x_index_pad rfl so22 rfl rfl (by omega) (by exact Int.toNat_natCast _) hi1 rfl)<|Cr [] (fun H1 hH => by exact opd_loadn_pad rfl Tryz.isAgg36 Tryz.sizeOf36 rfl hi1 (by simp only [Zl, encObj]; rfl) rfl)<|Cr [] (fun H1 hH => by exact x_buildSlice [encObj o] rfl so22 rfl rfl rfl rfl rfl (by simp [encObj]))<|Cp [900] (fun H1 hH => by exact x_append rfl so22 ei36 rfl ((hH _ rfl).trans rfl) rfl rfl rfl (List.length_map _) rfl (by simp [encObj]) (rfl : _ = 1) (by omega) (len_snoc _ o) (List.map_append (l₂ := [o])).symm)<|Cr [5] (fun _ h => fh fo24_0 h)<|Cp [5] (fun H1 hH => by exact x_store_all rfl Tryz.sizeOf22 rfl rfl rfl rfl ((hH _ rfl).trans rfl) rfl rfl rfl) ?_
   refine dc_nil ⟨by kernel_rfl, ?_⟩
   refine Rg<|Dd mv'<|Dd ad'<|Dd as'<|Zz ?_
   refine ⟨i + 1, g + 1, by omega, by omega, ?_⟩
   rw [hft]
   exact (Ent.wk ⟨⟨_, rfl, rfl⟩, (by (simp; done)), ⟨_, rfl, rfl⟩, (by (simp; rfl)), ⟨_, rfl, rfl⟩, (by (simp; rfl)), ⟨_, rfl, rfl⟩, (by (simp; rfl)), ⟨_, rfl, rfl⟩, (by (simp; done)), trivial⟩ ⟨⟨_, rfl, rfl⟩, (by exact clo_map _ _ _), ⟨_, rfl, rfl⟩, (by (simp; rfl)), ⟨_, rfl, rfl⟩, (by (simp; done)), ⟨_, rfl, rfl⟩, (by (simp; done)), trivial⟩ trivial)
  rw [hqo, hc2, if_neg (by simp), List.append_nil] at hft
  refine awp_skip<|Rg<|Dd mv'<|Dd ad'<|Dd as'<|Zz ?_
  refine ⟨i + 1, g, by omega, by omega, ?_⟩
  rw [hft]
  exact (Ent.wk ⟨⟨_, rfl, rfl⟩, (by (simp; done)), ⟨_, rfl, rfl⟩, (by (simp; rfl)), ⟨_, rfl, rfl⟩, (by (simp; rfl)), ⟨_, rfl, rfl⟩, (by (simp; rfl)), ⟨_, rfl, rfl⟩, (by (simp; done)), trivial⟩ ⟨⟨_, rfl, rfl⟩, (by exact clo_map _ _ _), ⟨_, rfl, rfl⟩, (by (simp; rfl)), ⟨_, rfl, rfl⟩, (by (simp; done)), ⟨_, rfl, rfl⟩, (by (simp; done)), trivial⟩ trivial)
 have hge : i = m.length := by have := of_decide_eq_false hc1; omega
 subst hge
 rw [List.take_length]
 refine awp_exit<|Sq<|Rg<|Dd (by exact opd_loadn_ref rfl Tryz.isAgg24 Tryz.sizeOf24 rfl rfl rfl rfl (by simp only [Zl, encTag, encObj, encStr, encEdit, encInt]; rfl) rfl)<|Uu (sa' Tryz.sizeOf24)<|Zz<|awp_ret ?_
 refine aret1 (H' := []) (.inr rfl) rfl (rl' Tryz.isAgg24 Tryz.sizeOf24) (Fin.mapO (id := 900) (m.filter q) rfl rfl rfl rfl) ?_
 exact ⟨rfl, rfl⟩
theorem tw_len {α : Type} {p : α → Bool} : ∀ {l : List α} {i : Nat}, i ≤ l.length → (∀ j x, j < i → l[j]? = some x → p x = true) → (i = l.length ∨ ∃ x, l[i]? = some x ∧ p x = false) → (l.takeWhile p).length = i
 | [], i, hi, _, _ => by
  have hi : i ≤ 0 := hi
  have : i = 0 := by omega
  subst this
  rfl
 | x :: l, 0, hi, _, h => by
  rcases h with h | ⟨y, hy, h⟩
  ·simp at h
  cases hy
  rw [List.takeWhile_cons, h]; rfl
 | x :: l, i + 1, hi, h0, h => by
  rw [List.takeWhile_cons, h0 0 x (by omega) rfl]
  show (l.takeWhile p).length + 1 = i + 1
  rw [tw_len (l := l) (i := i) (by simpa using hi) (fun j y hj hy => h0 (j + 1) y (by omega) hy) (by
   rcases h with h | ⟨y, hy, h⟩
   ·left; simpa using h
   exact .inr ⟨y, hy, h⟩)]
def rAt (m : List GObj) (o : GObj) : Nat := ((gWithout m o.id).takeWhile (fun x => slt x.id o.id)).length
def gWithR (m : List GObj) (o : GObj) : List GObj := (gWithout m o.id).take (rAt m o) ++ o :: (gWithout m o.id).drop (rAt m o)
theorem with12_c (m : List GObj) (o : GObj) (H : Heap) (hm : m.length < 274877906944) : ACalls Tryz.prog 57 [.agg [.pv (slObjs m)], av (encObj o)] H (fun r H' => r = .agg [.pv (slObjs (gWithR m o))] ∧ H' = H) := by
 refine ACalls.pure ?_ (by simp) H
 obtain ⟨a, ha⟩ : ∃ a, a = gWithout m o.id := ⟨_, rfl⟩
 have hal : a.length ≤ m.length := by rw [ha]; exact List.length_filter_le _ _
 have hal2 : (a.map encObj).length = a.length := List.length_map _
 have hwo := fun H => without_c m o.id H (by omega)
 rw [← ha] at hwo
 refine Bd Tryz.func57 rfl Tryz.ntmps57<|Sq<|Rg<|Dd (by exact opd_box (id := 2) rfl rfl rfl rfl rfl)<|Dd (by exact opd_box (id := 3) rfl rfl rfl rfl rfl)<|Dd (by exact x_alloc (id := 4) rfl zo24 rfl rfl)<|Zz<|Sq<|Rg<|Dd (by exact opd_loadn_ref rfl Tryz.isAgg24 Tryz.sizeOf24 rfl rfl rfl rfl (by simp only [Zl, encTag, encObj, encStr, encEdit, encInt]; rfl) rfl)<|Dd (fr' fo36_0)<|Dd (l1' Tryz.isAgg9)<|Dd (by exact opr_call rfl rfl Tryz.call61 rfl (hwo _))<|Uu (sa' Tryz.sizeOf24)<|Zz<|Sq<|Rg<|Dd as'<|Zz<|Sq<|awp_block ?_
 refine awp_loop (σ := Nat) (fun i => ([(2, .ref 2 0 0 0), (3, .ref 3 0 0 0), (4, .ref 4 0 0 0), (5, iv (i : Int))], [(4, bx 1 24 [.pv (.sl [])]), (3, bx 6 36 ((encObj o).map .pv)), (2, bx 1 24 [.pv (slObjs a)])])) (fun i => i ≤ a.length ∧ ∀ j x, j < i → a[j]? = some x → slt x.id o.id = true) (fun i => a.length - i) 0 ⟨by omega, fun j x hj => by omega⟩ ?_ ?_
 ·exact Wk
 rintro i ⟨hi, hno⟩
 have hstop : (i = a.length ∨ ∃ x, a[i]? = some x ∧ slt x.id o.id = false) → rAt m o = i := fun h => by
  rw [rAt, ← ha]
  exact tw_len hi hno h
 rcases Nat.lt_or_ge i a.length with hil | hil
 ·obtain ⟨x, hx⟩ := get_of_lt hil
  have hi1 := map_get (f := encObj) hx
  have hk : decide ((i : Int) < ((a.map encObj).length : Int)) = true := decide_eq_true (by omega)
  refine Sq<|Sq ?_
  refine awp_drawc follows ?_
  refine Cq mv'<|Cq (fr' fo24_0)<|Cq (l1' Tryz.isAgg22)<|Cq (ll' Tryz.underlying22)<|Cq lss'<|Cq mv'<|Nt (fr' fo24_0)<|Nt (l1' Tryz.isAgg22)<|Nt mv'<|Nt (by exact x_index_pad rfl so22 rfl rfl (by omega) (by exact Int.toNat_natCast _) hi1 rfl)<|Nt (fp' fo36_0)<|Nt (lp' Tryz.isAgg9 (hi := hi1))<|Nt (fr' fo36_0)<|Nt (l1' Tryz.isAgg9)<|Nt (by exact opd_slss rfl rfl rfl)<|Cq pt' ?_
  refine dc_nil ⟨by kernel_rfl, ?_⟩
  refine Cn (fun hc1 => ?_) fun hc1 => ?_
  ·skip
   refine awp_skip<|awp_block<|Rg<|Dd mv'<|Dd ad'<|Dd as'<|Zz ?_
   refine ⟨i + 1, ⟨by omega, fun j y hj hy => ?_⟩, by omega, Wk⟩
   rcases Nat.lt_or_ge j i with h | h
   ·exact hno j y h hy
   have hji : j = i := by omega
   subst hji
   rw [hx] at hy
   cases hy
   exact hc1
  have hst := hstop (.inr ⟨x, hx, hc1⟩)
  have hgw : gWithR m o = a.take i ++ o :: a.drop i := by rw [gWithR, hst, ← ha]
  rw [hgw]
  have hll : (a.drop i).length ≤ a.length := by rw [List.length_drop]; omega
  have hlt : (a.take i).length ≤ a.length := by rw [List.length_take]; omega
  have hlc : (o :: a.drop i).length = (a.drop i).length + 1 := rfl
  refine awp_exit<|Sq ?_
  refine awp_drawc follows ?_
  refine Cr [3] (fun H1 hH => by exact opd_loadn_ref rfl Tryz.isAgg36 Tryz.sizeOf36 rfl ((hH _ rfl).trans rfl) rfl rfl (by simp only [Zl, encTag, encObj, encStr, encEdit, encInt]; rfl) rfl)<|Cp [901] (fun H1 hH => by exact x_buildSlice_own (id := 901) rfl so22 rfl rfl rfl rfl (by simp [encObj]) ((hH _ rfl).trans rfl))<|Cr [2] (fun _ h => fh fo24_0 h)<|Cr [2] (fun _ h => lh Tryz.isAgg22 h)<|Cr [] (fun _ _ => mv')<|Cr [] (fun H1 hH => by exact x_slice_sl (l := i) (h := (a.map encObj).length) (rows' := (a.drop i).map encObj) rfl so22 rfl (encObj_rl a) rfl rfl (by omega) (Nat.le_refl _) (by rw [List.take_length]; exact List.map_drop.symm))<|Cp [901] (fun H1 hH => by exact x_append rfl so22 ei36 rfl ((hH _ rfl).trans rfl) rfl rfl rfl rfl rfl (encObj_rl (a.drop i)) (List.length_map _) (by omega) (Nat.add_comm 1 _ : 1 + (a.drop i).length = (o :: a.drop i).length) (by rw [← rows_of]; rfl : _ = obRows (o :: a.drop i))) ?_
  refine Cr [901] (fun _ _ => as') ?_
  refine dc_nil ⟨by kernel_rfl, ?_⟩
  refine Sq<|Rg<|Dd (by exact x_buildSlice_own (id := 902) rfl so22 rfl rfl rfl rfl (by simp) rfl)<|Dd (fr' fo24_0)<|Dd (l1' Tryz.isAgg22)<|Dd mv'<|Dd (by exact x_slice_sl (l := 0) (h := i) (rows' := (a.take i).map encObj) rfl so22 rfl (encObj_rl a) rfl rfl (by omega) (by omega) (by rw [List.drop_zero]; exact List.map_take.symm))<|Dd (by exact x_append rfl so22 ei36 rfl rfl rfl rfl rfl rfl rfl (encObj_rl (a.take i)) (List.length_map _) (by omega) (Nat.zero_add _) (by rw [← rows_of]; rfl : _ = obRows (a.take i)))<|Dd mv'<|Dd (by exact x_append_osl rfl so22 ei36 rfl rfl rfl rfl rfl (List.length_map _) rfl rfl rfl rfl (obR_rl _) (by rw [List.length_map, Nat.zero_add]; exact Nat.le_refl _) (by omega) (by rw [List.length_append, List.length_cons] : (a.take i).length + ((a.drop i).length + 1) = (a.take i ++ o :: a.drop i).length) (by rw [tkO hlc.symm]; exact List.map_append.symm : _ = obRows (a.take i ++ o :: a.drop i))) ?_
  refine Dd (bu' bo24)<|Uu (sa' Tryz.sizeOf24)<|Zz<|awp_ret ?_
  refine aret1 (H' := []) (.inr rfl) rfl (rl' Tryz.isAgg24 Tryz.sizeOf24) (Fin.mapO (id := 902) (a.take i ++ o :: a.drop i) rfl rfl rfl rfl) ?_
  exact ⟨rfl, rfl⟩
 have hge : i = a.length := by omega
 have hst := hstop (.inl hge)
 have hk : decide ((i : Int) < ((a.map encObj).length : Int)) = false := decide_eq_false (by omega)
 refine Sq<|Sq ?_
 refine awp_drawc follows ?_
 refine Cq mv'<|Cq (fr' fo24_0)<|Cq (l1' Tryz.isAgg22)<|Cq (ll' Tryz.underlying22)<|Cq lss'<|Cq mv'<|Ot<|Ot<|Ot<|Ot<|Ot<|Ot<|Ot<|Ot<|Ot<|Cq pf' ?_
 refine dc_nil ⟨by kernel_rfl, ?_⟩
 refine Cn (fun hc2 => ?_) fun hc2 => ?_
 ·cases hc2
 skip
 have hgw : gWithR m o = a.take i ++ o :: a.drop i := by rw [gWithR, hst, ← ha]
 rw [hgw]
 have hll : (a.drop i).length ≤ a.length := by rw [List.length_drop]; omega
 have hlt : (a.take i).length ≤ a.length := by rw [List.length_take]; omega
 have hlc : (o :: a.drop i).length = (a.drop i).length + 1 := rfl
 refine awp_exit<|Sq ?_
 refine awp_drawc follows ?_
 refine Cr [3] (fun H1 hH => by exact opd_loadn_ref rfl Tryz.isAgg36 Tryz.sizeOf36 rfl ((hH _ rfl).trans rfl) rfl rfl (by simp only [Zl, encTag, encObj, encStr, encEdit, encInt]; rfl) rfl)<|Cp [901] (fun H1 hH => by exact x_buildSlice_own (id := 901) rfl so22 rfl rfl rfl rfl (by simp [encObj]) ((hH _ rfl).trans rfl))<|Cr [2] (fun _ h => fh fo24_0 h)<|Cr [2] (fun _ h => lh Tryz.isAgg22 h)<|Cr [] (fun _ _ => mv')<|Cr [] (fun H1 hH => by exact x_slice_sl (l := i) (h := (a.map encObj).length) (rows' := (a.drop i).map encObj) rfl so22 rfl (encObj_rl a) rfl rfl (by omega) (Nat.le_refl _) (by rw [List.take_length]; exact List.map_drop.symm))<|Cp [901] (fun H1 hH => by exact x_append rfl so22 ei36 rfl ((hH _ rfl).trans rfl) rfl rfl rfl rfl rfl (encObj_rl (a.drop i)) (List.length_map _) (by omega) (Nat.add_comm 1 _ : 1 + (a.drop i).length = (o :: a.drop i).length) (by rw [← rows_of]; rfl : _ = obRows (o :: a.drop i))) ?_
 refine Cr [901] (fun _ _ => as') ?_
 refine dc_nil ⟨by kernel_rfl, ?_⟩
 refine Sq<|Rg<|Dd (by exact x_buildSlice_own (id := 902) rfl so22 rfl rfl rfl rfl (by simp) rfl)<|Dd (fr' fo24_0)<|Dd (l1' Tryz.isAgg22)<|Dd mv'<|Dd (by exact x_slice_sl (l := 0) (h := i) (rows' := (a.take i).map encObj) rfl so22 rfl (encObj_rl a) rfl rfl (by omega) (by omega) (by rw [List.drop_zero]; exact List.map_take.symm))<|Dd (by exact x_append rfl so22 ei36 rfl rfl rfl rfl rfl rfl rfl (encObj_rl (a.take i)) (List.length_map _) (by omega) (Nat.zero_add _) (by rw [← rows_of]; rfl : _ = obRows (a.take i)))<|Dd mv'<|Dd (by exact x_append_osl rfl so22 ei36 rfl rfl rfl rfl rfl (List.length_map _) rfl rfl rfl rfl (obR_rl _) (by rw [List.length_map, Nat.zero_add]; exact Nat.le_refl _) (by omega) (by rw [List.length_append, List.length_cons] : (a.take i).length + ((a.drop i).length + 1) = (a.take i ++ o :: a.drop i).length) (by rw [tkO hlc.symm]; exact List.map_append.symm : _ = obRows (a.take i ++ o :: a.drop i))) ?_
 refine Dd (bu' bo24)<|Uu (sa' Tryz.sizeOf24)<|Zz<|awp_ret ?_
 refine aret1 (H' := []) (.inr rfl) rfl (rl' Tryz.isAgg24 Tryz.sizeOf24) (Fin.mapO (id := 902) (a.take i ++ o :: a.drop i) rfl rfl rfl rfl) ?_
 exact ⟨rfl, rfl⟩
theorem put21_c (m : List GObj) (o : GObj) (H : Heap) (hm : m.length < 274877906944) : ACalls Tryz.prog 28 [.agg [.pv (slObjs m)], av (encObj o)] H (fun r H' => r = .agg [.pv (slObjs (gWithR m o))] ∧ H' = H) := by
 refine ACalls.pure ?_ (by simp) H
 refine Bd Tryz.func28 rfl Tryz.ntmps28<|Sq<|Rg<|Dd (by exact opd_box (id := 2) rfl rfl rfl rfl rfl)<|Dd (by exact opd_box (id := 3) rfl rfl rfl rfl rfl)<|Dd (by exact x_alloc (id := 4) rfl zo24 rfl rfl)<|Zz<|Sq<|Rg<|Dd (ln' Tryz.isAgg24 Tryz.sizeOf24)<|Dd (by exact opd_loadn_ref rfl Tryz.isAgg36 Tryz.sizeOf36 rfl rfl rfl rfl (by simp only [Zl, encTag, encObj, encStr, encEdit, encInt]; rfl) rfl)<|Dd (by exact opr_call rfl rfl Tryz.call57 rfl (with12_c m o _ hm))<|Uu (sa' Tryz.sizeOf24)<|Zz<|awp_ret ?_
 refine aret1 (H' := []) (.inr rfl) rfl (rl' Tryz.isAgg24 Tryz.sizeOf24) (Fin.wk (by simp) trivial trivial) ?_
 exact ⟨rfl, rfl⟩
theorem in12O_c (l : List ByteArray) (s : ByteArray) (H : Heap) (hl : l.length < 4611686018427387904) : ACalls Tryz.prog 97 [.pv (slStrs l), sv s] H (fun r H' => r = bv (inB l s) ∧ H' = H) := by
 refine ACalls.pure ?_ (by simp) H
 have hml : (l.map encStr).length = l.length := List.length_map _
 refine Bd Tryz.func97 rfl Tryz.ntmps97<|Sq<|Rg<|Dd as'<|Zz<|Sq<|Sq<|Rg<|Dd as'<|Zz<|awp_block ?_
 refine awp_loop (σ := Nat) (fun k => ([(0, .pv (slStrs l)), (1, sv s), (5, iv (k : Int))], [])) (fun k => k ≤ l.length ∧ ∀ j, j < k → ∀ b, l[j]? = some b → decide (b = s) = false) (fun k => l.length - k) 0 ⟨by omega, by omega⟩ ?_ ?_
 ·exact Wk
 rintro k ⟨hk, hno⟩
 refine Sq<|Sq<|Rg<|Dd mv'<|Dd mv'<|Dd (ll' Tryz.underlying33)<|Dd lss'<|Zz ?_
 refine Cn (fun hc1 => ?_) fun hc1 => ?_
 ·have hlt : k < l.length := by have := of_decide_eq_true hc1; omega
  obtain ⟨o, ho⟩ := get_of_lt hlt
  have hi := map_get (f := encStr) ho
  refine awp_skip<|Sq<|awp_block<|Sq<|Rg<|Dd mv'<|Dd mv'<|Dd (xp' so33)<|Dd (lp' Tryz.isAgg9)<|Dd mv'<|Dd se'<|Zz ?_
  refine Cn (fun hc2 => ?_) fun hc2 => ?_
  ·skip
   refine Sq<|Rg<|Dd as'<|Zz<|awp_ret ?_
   refine Rt ?_
   exact ⟨by rw [inB, any_some ho hc2], rfl⟩
  skip
  refine awp_skip<|Rg<|Dd mv'<|Dd ad'<|Dd as'<|Zz ?_
  exact ⟨k + 1, ⟨by omega, pre_succ hno ho hc2⟩, by omega, Wk⟩
 have hge : k = l.length := by have := of_decide_eq_false hc1; omega
 subst hge
 refine awp_exit<|Sq<|Rg<|Dd as'<|Zz<|awp_ret ?_
 refine Rt ?_
 exact ⟨by rw [inB, any_none hno], rfl⟩
def rRef1 (id : ByteArray) (routes : Bool) (o : GObj) : Bool := inB o.refs id && (!routes || decide (o.kind = 4) || decide (o.kind = 5))
theorem referred21_c (m : List GObj) (id : ByteArray) (routes : Bool) (H : Heap) (hm : m.length < 4611686018427387904) (hr : ∀ o, o ∈ m → o.refs.length < 4611686018427387904) :
  ACalls Tryz.prog 60 [.agg [.pv (slObjs m)], sv id, bv routes] H (fun r H' => r = bv (m.any (rRef1 id routes)) ∧ H' = H) := by
 refine ACalls.pure ?_ (by simp) H
 have hmm : (m.map encObj).length = m.length := List.length_map _
 refine Bd Tryz.func60 rfl Tryz.ntmps60<|Sq<|Rg<|Dd (by exact opd_box (id := 3) rfl rfl rfl rfl rfl)<|Dd as'<|Zz<|Sq<|Sq<|Rg<|Dd as'<|Zz<|awp_block ?_
 refine awp_loop (σ := Nat) (fun i => ([(1, sv id), (2, bv routes), (3, .ref 3 0 0 0), (7, iv (i : Int))], [(3, bx 1 24 [.pv (slObjs m)])])) (fun i => i ≤ m.length ∧ (m.take i).any (rRef1 id routes) = false) (fun i => m.length - i) 0 ⟨by omega, rfl⟩ ?_ ?_
 ·exact Wk
 rintro i ⟨hi, hno⟩
 refine Sq<|Sq<|Rg<|Dd mv'<|Dd (fr' fo24_0)<|Dd (l1' Tryz.isAgg22)<|Dd (ll' Tryz.underlying22)<|Dd lss'<|Zz ?_
 refine Cn (fun hc1 => ?_) fun hc1 => ?_
 ·have hil : i < m.length := by have := of_decide_eq_true hc1; omega
  obtain ⟨o, ho⟩ := get_of_lt hil
  have hi1 := map_get (f := encObj) ho
  have hta : (m.take (i + 1)).any (rRef1 id routes) = rRef1 id routes o := by
   rw [List.take_add_one, ho, List.any_append, hno, Bool.false_or]
   show ([o].any _) = _
   simp
  refine awp_skip<|Sq<|awp_block<|Sq<|Rg<|Dd (fr' fo24_0)<|Dd (l1' Tryz.isAgg22)<|Dd mv'<|Dd (by exact x_index_pad rfl so22 rfl rfl (by omega) (by exact Int.toNat_natCast _) hi1 rfl)<|Dd (by exact opd_loadn_pad rfl Tryz.isAgg36 Tryz.sizeOf36 rfl hi1 (by simp only [Zl, encObj]; rfl) rfl)<|Dd (by exact x_alloc (id := 8) rfl zo36 rfl rfl)<|Uu (sa' Tryz.sizeOf36)<|Zz<|Sq ?_
  refine awp_bool (t := 38) (n := 21) (X := rRef1 id routes o) ?_ ?_
  ·all_goals refine Dd (fr' fo36_3) ?_
   all_goals refine Dd (l1' Tryz.isAgg33) ?_
   all_goals refine Dd mv' ?_
   all_goals refine Dd (by exact opr_call rfl rfl Tryz.call97 rfl (in12O_c o.refs id _ (hr o (List.mem_of_getElem? ho)))) ?_
   all_goals refine Dd mv' ?_
   all_goals refine Sp 25 (fun h25 => ?_) fun h25 => ?_
   all_goals try contradiction
   all_goals first | refine Fo ?_ | refine On mv' ?_
   all_goals first | refine Fo ?_ | refine On no' ?_
   all_goals first | refine Fo ?_ | refine On mv' ?_
   all_goals (first | refine Sp 28 (fun h28 => ?_) fun h28 => ?_ | refine al_dup (t := 28) rfl ?_)
   all_goals try contradiction
   all_goals first | refine Fo ?_ | refine Fu ?_ | refine On (fr' fo36_1) ?_
   all_goals first | refine Fo ?_ | refine Fu ?_ | refine On (l1' Tryz.isAgg3) ?_
   all_goals first | refine Fo ?_ | refine Fu ?_ | refine On eql' ?_
   all_goals first | refine Fo ?_ | refine On pk' ?_
   all_goals first | refine Fo ?_ | refine On mv' ?_
   all_goals (first | refine Sp 33 (fun h33 => ?_) fun h33 => ?_ | refine al_dup (t := 33) rfl ?_)
   all_goals try contradiction
   all_goals first | refine Fo ?_ | refine Fu ?_ | refine On (fr' fo36_1) ?_
   all_goals first | refine Fo ?_ | refine Fu ?_ | refine On (l1' Tryz.isAgg3) ?_
   all_goals first | refine Fo ?_ | refine Fu ?_ | refine On eql' ?_
   all_goals first | refine Fo ?_ | refine On pk' ?_
   all_goals refine Dd pk' ?_
   all_goals refine al_nil ?_
   all_goals (exact ⟨⟨_, rfl, by (simp only [rRef1, *]; rfl)⟩, rfl, rfl, rfl⟩)
  refine Cn (fun hc2 => ?_) fun hc2 => ?_
  ·have hany : m.any (rRef1 id routes) = true := List.any_eq_true.2 ⟨o, List.mem_of_getElem? ho, hc2⟩
   refine Sq<|Rg<|Dd as'<|Zz<|awp_ret ?_
   refine Rt ?_
   exact ⟨by rw [hany], rfl⟩
  skip
  refine awp_skip<|Rg<|Dd mv'<|Dd ad'<|Dd as'<|Zz ?_
  exact ⟨i + 1, ⟨by omega, by rw [hta, hc2]⟩, by omega, Wk⟩
 have hge : i = m.length := by have := of_decide_eq_false hc1; omega
 subst hge
 rw [List.take_length] at hno
 refine awp_exit<|Sq<|Rg<|Dd as'<|Zz<|awp_ret ?_
 refine Rt ?_
 exact ⟨by rw [hno], rfl⟩
def rKind (op k : Int) : Bool := if op = 2 then !decide (k = 1) else if op = 4 then (!decide (k = 2) && !decide (k = 3)) && !decide (k = 4) else if op = 6 || op = 7 then !decide (k = 2) else false
theorem rKind_fits (op k : Int) : rKind op k = !fitsB op k := by
 unfold rKind fitsB
 by_cases h2 : op = 2
 ·rw [if_pos h2, if_pos h2]
 rw [if_neg h2, if_neg h2]
 by_cases h4 : op = 4
 ·rw [if_pos h4, if_pos h4, Bool.not_or, Bool.not_or, Bool.and_assoc]
 rw [if_neg h4, if_neg h4]
 split <;> rfl
theorem kind21_c (op k : Int) (H : Heap) : ACalls Tryz.prog 58 [iv op, iv k] H (fun r H' => r = bv (!fitsB op k) ∧ H' = H) := by
 rw [← rKind_fits]
 refine ACalls.pure ?_ (by simp) H
 refine Bd Tryz.func58 rfl Tryz.ntmps58<|Sq<|Rg<|Dd as'<|Zz<|Sq<|Sq<|Rg<|Dd mv'<|Dd eql'<|Zz ?_
 refine Cn (fun hc1 => ?_) fun hc1 => ?_
 ·have h1 := of_decide_eq_true hc1
  refine Sq<|Rg<|Dd mv'<|Dd ne'<|Dd as'<|Zz<|awp_ret ?_
  refine Rt ?_
  exact ⟨by rw [rKind, if_pos h1], rfl⟩
 have h1 := of_decide_eq_false hc1
 refine awp_skip<|Sq<|Sq<|Rg<|Dd mv'<|Dd eql'<|Zz ?_
 refine Cn (fun hc2 => ?_) fun hc2 => ?_
 ·have h2 := of_decide_eq_true hc2
  refine Sq ?_
  refine awp_bool (t := 4) (n := 13) (X := (!decide (k = 2) && !decide (k = 3)) && !decide (k = 4)) ?_ ?_
  ·all_goals refine Dd mv' ?_
   all_goals refine Dd ne' ?_
   all_goals refine Dd mv' ?_
   all_goals refine Sp 13 (fun h13 => ?_) fun h13 => ?_
   all_goals try contradiction
   all_goals first | refine Fo ?_ | refine On mv' ?_
   all_goals first | refine Fo ?_ | refine On ne' ?_
   all_goals refine Dd pk' ?_
   all_goals refine Dd mv' ?_
   all_goals refine Sp 17 (fun h17 => ?_) fun h17 => ?_
   all_goals try contradiction
   all_goals first | refine Fo ?_ | refine On mv' ?_
   all_goals first | refine Fo ?_ | refine On ne' ?_
   all_goals refine Dd pk' ?_
   all_goals refine Dd as' ?_
   all_goals refine al_nil ?_
   all_goals (exact ⟨⟨_, rfl, by (simp only [*, Zo]; done)⟩, rfl, rfl, rfl⟩)
  refine awp_ret ?_
  refine Rt ?_
  exact ⟨by rw [rKind, if_neg h1, if_pos h2], rfl⟩
 have h2 := of_decide_eq_false hc2
 refine awp_skip<|Sq<|Sq ?_
 refine awp_bool (t := 26) (n := 7) (X := decide (op = 6) || decide (op = 7)) ?_ ?_
 ·all_goals refine Dd mv' ?_
  all_goals refine Dd eql' ?_
  all_goals refine Dd mv' ?_
  all_goals refine Sp 23 (fun h23 => ?_) fun h23 => ?_
  all_goals try contradiction
  all_goals first | refine Fo ?_ | refine On mv' ?_
  all_goals first | refine Fo ?_ | refine On eql' ?_
  all_goals refine Dd pk' ?_
  all_goals refine al_nil ?_
  all_goals (exact ⟨⟨_, rfl, by (simp only [*, Zo]; done)⟩, rfl, rfl, rfl⟩)
 refine Cn (fun hc3 => ?_) fun hc3 => ?_
 ·have h3 : (op = 6 || op = 7) = true := by simpa using hc3
  refine Sq<|Rg<|Dd mv'<|Dd ne'<|Dd as'<|Zz<|awp_ret ?_
  refine Rt ?_
  exact ⟨by rw [rKind, if_neg h1, if_neg h2, if_pos h3], rfl⟩
 have h3 : ¬ (op = 6 || op = 7) = true := by simpa using hc3
 refine awp_skip<|Sq<|Rg<|Dd as'<|Zz<|awp_ret ?_
 refine Rt ?_
 exact ⟨by rw [rKind, if_neg h1, if_neg h2, if_neg h3], rfl⟩
/-- The last place of a node, and how often it comes. -/
def rLast (node : ByteArray) : List ByteArray → Nat → Int → Int
 | [], _, a => a
 | s :: l, i, a => rLast node l (i + 1) (if s = node then (i : Int) else a)
def rCnt (l : List ByteArray) (node : ByteArray) : Nat := l.countP (fun s => decide (s = node))
def rAtN (l : List ByteArray) (node : ByteArray) : Int :=
 if !decide ((rCnt l node : Int) = 1) || decide (rLast node l 0 (-1) = 0) || decide (rLast node l 0 (-1) = (l.length : Int) - 1) then -1 else rLast node l 0 (-1)
theorem rLast_app (node : ByteArray) : ∀ (l l2 : List ByteArray) (i : Nat) (a : Int), rLast node (l ++ l2) i a = rLast node l2 (i + l.length) (rLast node l i a)
 | [], l2, i, a => rfl
 | s :: l, l2, i, a => by
  show rLast node (l ++ l2) (i + 1) _ = _
  rw [rLast_app node l l2, List.length_cons, show i + 1 + l.length = i + (l.length + 1) by omega]
  rfl
theorem rLast_snoc {node : ByteArray} {l : List ByteArray} {i : Nat} {s : ByteArray} (h : l[i]? = some s) : rLast node (l.take (i + 1)) 0 (-1) = if s = node then (i : Int) else rLast node (l.take i) 0 (-1) := by
 have hlt := (List.getElem?_eq_some_iff.1 h).1
 have hl : (l.take i).length = i := by rw [List.length_take]; omega
 rw [List.take_add_one, h]
 show rLast node (l.take i ++ [s]) 0 (-1) = _
 rw [rLast_app, hl, Nat.zero_add]
 rfl
theorem rCnt_snoc {node : ByteArray} {l : List ByteArray} {i : Nat} {s : ByteArray} (h : l[i]? = some s) : rCnt (l.take (i + 1)) node = rCnt (l.take i) node + (if s = node then 1 else 0) := by
 rw [rCnt, List.take_add_one, h, List.countP_append]
 show _ + List.countP _ [s] = _
 rw [List.countP_singleton]
 by_cases e : s = node
 ·rw [if_pos e, if_pos (decide_eq_true e)]; rfl
 rw [if_neg e, if_neg (by simpa using e)]; rfl
theorem at21_c (l : List ByteArray) (node : ByteArray) (H : Heap) (hl : l.length < 4611686018427387904) : ACalls Tryz.prog 34 [.pv (slStrs l), sv node] H (fun r H' => r = iv (rAtN l node) ∧ H' = H) := by
 refine ACalls.pure ?_ (by simp) H
 have hml : (l.map encStr).length = l.length := List.length_map _
 refine Bd Tryz.func34 rfl Tryz.ntmps34<|Sq<|Rg<|Dd as'<|Zz<|Sq<|Rg<|Dd as'<|Zz<|Sq<|Rg<|Dd as'<|Zz<|Sq<|Sq<|Rg<|Dd as'<|Zz<|awp_block ?_
 refine awp_loop (σ := Nat) (fun i => ([(0, .pv (slStrs l)), (1, sv node), (5, iv (rLast node (l.take i) 0 (-1))), (6, iv (rCnt (l.take i) node : Int)), (7, iv (i : Int))], [])) (fun i => i ≤ l.length) (fun i => l.length - i) 0 (by omega) ?_ ?_
 ·exact E0
 rintro i hi
 have hcn : rCnt (l.take i) node ≤ i := Nat.le_trans List.countP_le_length (by rw [List.length_take]; omega)
 refine Sq<|Sq<|Rg<|Dd mv'<|Dd mv'<|Dd (ll' Tryz.underlying33)<|Dd lss'<|Zz ?_
 refine Cn (fun hc1 => ?_) fun hc1 => ?_
 ·have hil : i < l.length := by have := of_decide_eq_true hc1; omega
  obtain ⟨s, hs⟩ := get_of_lt hil
  have hi1 := map_get (f := encStr) hs
  have h1 := rLast_snoc (node := node) hs
  have h2 := rCnt_snoc (node := node) hs
  refine awp_skip<|Sq<|awp_block<|Sq<|Rg<|Dd mv'<|Dd mv'<|Dd (by exact x_index_pad rfl so33 rfl rfl (by omega) (by exact Int.toNat_natCast _) hi1 rfl)<|Dd (lp' Tryz.isAgg9 (hi := hi1))<|Dd mv'<|Dd se'<|Zz ?_
  refine Cn (fun hc2 => ?_) fun hc2 => ?_
  ·have he := of_decide_eq_true hc2
   rw [if_pos he] at h1 h2
   refine Sq<|Rg<|Dd mv'<|Dd as'<|Zz<|Rg<|Dd mv'<|Dd ad'<|Dd as'<|Zz<|Rg<|Dd mv'<|Dd ad'<|Dd as'<|Zz ?_
   refine ⟨i + 1, by omega, by omega, ?_⟩
   rw [h1, h2, Int.natCast_add]
   exact E0
  have he := of_decide_eq_false hc2
  rw [if_neg he] at h1 h2
  refine awp_skip<|Rg<|Dd mv'<|Dd ad'<|Dd as'<|Zz ?_
  refine ⟨i + 1, by omega, by omega, ?_⟩
  rw [h1, h2]
  exact E0
 have hge : i = l.length := by have := of_decide_eq_false hc1; omega
 subst hge
 rw [List.take_length]
 refine awp_exit<|Sq<|Sq ?_
 refine awp_bool (t := 35) (n := 15) (X := (!decide ((rCnt l node : Int) = 1) || decide (rLast node l 0 (-1) = 0)) || decide (rLast node l 0 (-1) = ((l.map encStr).length : Int) - 1)) ?_ ?_
 ·all_goals refine Dd mv' ?_
  all_goals refine Dd ne' ?_
  all_goals refine Dd mv' ?_
  all_goals refine Sp 25 (fun h25 => ?_) fun h25 => ?_
  all_goals try contradiction
  all_goals first | refine Fo ?_ | refine On mv' ?_
  all_goals first | refine Fo ?_ | refine On eql' ?_
  all_goals refine Dd pk' ?_
  all_goals refine Dd mv' ?_
  all_goals refine Sp 29 (fun h29 => ?_) fun h29 => ?_
  all_goals try contradiction
  all_goals first | refine Fo ?_ | refine On mv' ?_
  all_goals first | refine Fo ?_ | refine On mv' ?_
  all_goals first | refine Fo ?_ | refine On (ll' Tryz.underlying33) ?_
  all_goals first | refine Fo ?_ | refine On (by exact opd_sub rfl rfl rfl (by exact w64 (by omega) (by omega))) ?_
  all_goals first | refine Fo ?_ | refine On eql' ?_
  all_goals refine Dd pk' ?_
  all_goals refine al_nil ?_
  all_goals (exact ⟨⟨_, rfl, by (simp only [*, Zo]; done)⟩, rfl, rfl, rfl⟩)
 refine Cn (fun hc3 => ?_) fun hc3 => ?_
 ·have hx : rAtN l node = -1 := by rw [rAtN, if_pos (by rw [← hml]; exact hc3)]
  refine Sq<|Rg<|Dd as'<|Zz<|awp_ret ?_
  refine Rt ?_
  exact ⟨by rw [hx], rfl⟩
 have hx : rAtN l node = rLast node l 0 (-1) := by rw [rAtN, if_neg (by rw [← hml, hc3]; decide)]
 refine awp_skip<|Sq<|Rg<|Dd mv'<|Dd as'<|Zz<|awp_ret ?_
 refine Rt ?_
 exact ⟨by rw [hx], rfl⟩
end Go.Proofs.YtbbnllojhjlaoaaGreat
end
section
set_option linter.unusedVariables false
set_option linter.unusedSimpArgs false
set_option maxRecDepth 100000
namespace Go.Proofs.YtbbnllojhjlaoaaGreat
open Go.Abs
/-- What a possible edit puts and drops, by operations. -/
inductive Perf (m : List GObj) (e : GEdit) : GRes → Prop
  | put (ho : e.op = 1) (hn : kindOf m e.obj.id = none) (hr : refErr m e.obj.kind 0 e.obj.refs = 0) : Perf m e ⟨[e.obj], sNil, 0⟩
  | move (o : GObj) (ho : e.op = 2) (hl : look m e.id = some o) (hf : fitsB 2 o.kind = true) : Perf m e ⟨[⟨o.id, o.kind, e.x, e.y, o.refs, o.tags⟩], sNil, 0⟩
  | tag (o : GObj) (ho : e.op = 3) (hl : look m e.id = some o) (hs : (gSet o.tags e.key e.val).2 = 0) : Perf m e ⟨[⟨o.id, o.kind, o.x, o.y, o.refs, (gSet o.tags e.key e.val).1⟩], sNil, 0⟩
  | refs (o : GObj) (ho : e.op = 4) (hl : look m e.id = some o) (hf : fitsB 4 o.kind = true) (hg : gObj ⟨o.id, o.kind, o.x, o.y, e.refs, o.tags⟩ = true) (hr : refErr m o.kind 0 e.refs = 0) : Perf m e ⟨[⟨o.id, o.kind, o.x, o.y, e.refs, o.tags⟩], sNil, 0⟩
  | drop (o : GObj) (ho : e.op = 5) (hl : look m e.id = some o) (hr : gRefd m false [e.id] = false) : Perf m e ⟨[], e.id, 0⟩
  | split (o : GObj) (ho : e.op = 6) (hl : look m e.id = some o) (hf : fitsB 6 o.kind = true) (hn : kindOf m e.other = none) (hi : ¬ gInner o.refs e.node < 0) (hr : gRefd m true [e.id] = false) :
      Perf m e ⟨[⟨o.id, o.kind, o.x, o.y, o.refs.take ((gInner o.refs e.node).toNat + 1), o.tags⟩, ⟨e.other, 2, 0, 0, o.refs.drop (gInner o.refs e.node).toNat, o.tags⟩], sNil, 0⟩
  | join (o x : GObj) (ho : e.op = 7) (hl : look m e.id = some o) (hf : fitsB 7 o.kind = true) (hx : look m e.other = some x) (hk : x.kind = 2) (hi : (decide (e.id = e.other) || !decide (atS o.refs (o.refs.length - 1) = atS x.refs 0)) = false) (hr : gRefd m true [e.id, e.other] = false) (hlen : ¬ 2000 < o.refs.length + x.refs.length - 1) :
      Perf m e ⟨[⟨o.id, o.kind, o.x, o.y, [o.refs, x.refs.drop 1].flatten, o.tags⟩], e.other, 0⟩
theorem perf_of {m : List GObj} {e : GEdit} (hv : gEditV e = true) (h : (gPerform m e).err = 0) : Perf m e (gPerform m e) := by
  obtain ⟨⟨o1, o2⟩, b2, b3⟩ := gEditV_iff.1 hv
  unfold gPerform at h ⊢
  split at h
  · next ho =>
    rw [if_pos ho]
    split at h
    · exact absurd h (by decide)
    · next hk =>
      rw [if_neg hk]
      have h' : refErr m e.obj.kind 0 e.obj.refs = 0 := h
      rw [h']
      exact .put ho (by simpa using hk) h'
  · next ho =>
    rw [if_neg ho]
    split at h
    · exact absurd h (by decide)
    · next o hl =>
      split at h
      · exact absurd h (by decide)
      · next h7 =>
        rw [if_neg h7]
        split at h
        · exact absurd h (by decide)
        · next hfit =>
          rw [if_neg hfit]
          rw [Bool.not_eq_true, Bool.not_eq_false'] at hfit
          split at h
          · next h2 =>
            rw [if_pos h2]
            rw [h2] at hfit
            exact .move o h2 hl hfit
          · next h2 =>
            rw [if_neg h2]
            split at h
            · next h3 =>
              rw [if_pos h3]
              split at h
              · next hs =>
                have hs' : ¬ (gSet o.tags e.key e.val).2 = 0 := by simpa using hs
                exact absurd h hs'
              · next hs =>
                rw [if_neg hs]
                exact .tag o h3 hl (by simpa using hs)
            · next h3 =>
              rw [if_neg h3]
              split at h
              · next h4 =>
                rw [if_pos h4]
                split at h
                · exact absurd h (by decide)
                · next hgo =>
                  rw [if_neg hgo]
                  rw [h4] at hfit
                  have h' : refErr m o.kind 0 e.refs = 0 := h
                  rw [h']
                  exact .refs o h4 hl hfit (by simpa using hgo) h'
              · next h4 =>
                rw [if_neg h4]
                split at h
                · next h5 =>
                  rw [if_pos h5]
                  split at h
                  · exact absurd h (by decide)
                  · next hr =>
                    rw [if_neg hr]
                    exact .drop o h5 hl (by simpa using hr)
                · next h5 =>
                  rw [if_neg h5]
                  split at h
                  · next h6 =>
                    rw [if_pos h6]
                    rw [h6] at hfit
                    unfold gSplit at h ⊢
                    split at h
                    · exact absurd h (by decide)
                    · next hk =>
                      rw [if_neg hk]
                      split at h
                      · exact absurd h (by decide)
                      · next hi =>
                        rw [if_neg hi]
                        split at h
                        · exact absurd h (by decide)
                        · next hr =>
                          rw [if_neg hr]
                          exact .split o h6 hl hfit (by simpa using hk) (by simpa using hi) (by simpa using hr)
                  · next h6 =>
                    rw [if_neg h6]
                    have h77 : e.op = 7 := by omega
                    rw [h77] at hfit
                    cases hl2 : look m e.other with
                    | none =>
                      have hl2' : m.find? (idIs e.other) = none := hl2
                      rw [h77, hl2'] at h7; exact absurd rfl h7
                    | some x =>
                      have hl2' : m.find? (idIs e.other) = some x := hl2
                      simp only [hl2', Option.getD_some] at h ⊢
                      unfold gJoin at h ⊢
                      split at h
                      · exact absurd h (by decide)
                      · next hk =>
                        rw [if_neg hk]
                        split at h
                        · exact absurd h (by decide)
                        · next hi =>
                          rw [if_neg hi]
                          split at h
                          · exact absurd h (by decide)
                          · next hr =>
                            rw [if_neg hr]
                            split at h
                            · exact absurd h (by decide)
                            · next hlen =>
                              rw [if_neg hlen]
                              exact .join o x h77 hl hfit hl2 (by simpa using hk) (by rwa [Bool.not_eq_true] at hi) (by simpa using hr) (by simpa using hlen)
theorem of_perf {m : List GObj} {e : GEdit} {r : GRes} (h : Perf m e r) : gPerform m e = r := by
  cases h with
  | put ho hn hr => unfold gPerform; rw [if_pos ho, hn, if_neg (by decide), hr]
  | move o ho hl hf =>
    have hl' : m.find? (idIs e.id) = some o := hl
    unfold gPerform
    rw [if_neg (by omega)]
    simp only [hl']
    rw [if_neg (by rw [ho]; simp), ho, hf, if_neg (by decide), if_pos rfl]
  | tag o ho hl hs =>
    have hl' : m.find? (idIs e.id) = some o := hl
    have hf : fitsB 3 o.kind = true := rfl
    unfold gPerform
    rw [if_neg (by omega)]
    simp only [hl']
    rw [if_neg (by rw [ho]; simp), ho, hf, if_neg (by decide), if_neg (by decide), if_pos rfl, if_neg (by simp [hs])]
  | refs o ho hl hf hg hr =>
    have hl' : m.find? (idIs e.id) = some o := hl
    unfold gPerform
    rw [if_neg (by omega)]
    simp only [hl']
    rw [if_neg (by rw [ho]; simp), ho, hf, if_neg (by decide), if_neg (by decide), if_neg (by decide), if_pos rfl, if_neg (by simp [hg]), hr]
  | drop o ho hl hr =>
    have hl' : m.find? (idIs e.id) = some o := hl
    have hf : fitsB 5 o.kind = true := rfl
    unfold gPerform
    rw [if_neg (by omega)]
    simp only [hl']
    rw [if_neg (by rw [ho]; simp), ho, hf, if_neg (by decide), if_neg (by decide), if_neg (by decide), if_neg (by decide), if_pos rfl, if_neg (by simp [hr])]
  | split o ho hl hf hn hi hr =>
    have hl' : m.find? (idIs e.id) = some o := hl
    unfold gPerform
    rw [if_neg (by omega)]
    simp only [hl']
    rw [if_neg (by rw [ho]; simp), ho, hf, if_neg (by decide), if_neg (by decide), if_neg (by decide), if_neg (by decide), if_neg (by decide), if_pos rfl]
    unfold gSplit
    rw [if_neg (by simp [hn]), if_neg (by simpa using hi), if_neg (by simp [hr])]
  | join o x ho hl hf hx hk hi hr hlen =>
    have hl' : m.find? (idIs e.id) = some o := hl
    have hx' : m.find? (idIs e.other) = some x := hx
    unfold gPerform
    rw [if_neg (by omega)]
    simp only [hl', hx', Option.getD_some]
    rw [if_neg (by simp), ho, hf, if_neg (by decide), if_neg (by decide), if_neg (by decide), if_neg (by decide), if_neg (by decide), if_neg (by decide)]
    unfold gJoin
    rw [if_neg (by simp [hk]), if_neg (by rw [hi]; decide), if_neg (by simp [hr]), if_neg (by simpa using hlen)]
/-- A string that an edit mentions, or the empty one. -/
def raw (e : GEdit) (s : ByteArray) : Prop := s = e.id ∨ s = e.other ∨ s = e.node ∨ s = e.obj.id ∨ s ∈ e.refs ∨ s ∈ e.obj.refs
theorem sputQ_mem {l : List ByteArray} {s x : ByteArray} : x ∈ sput l s ↔ x ∈ l ∨ x = s := by
  unfold sput
  split
  · next h =>
    have := inB_iff.1 h
    constructor
    · exact .inl
    · rintro (h | rfl)
      · exact h
      · exact this
  · rw [List.mem_append, List.mem_singleton]
theorem addAll_mem : ∀ {l L : List ByteArray} {x : ByteArray}, x ∈ addAll L l ↔ x ∈ L ∨ x ∈ l
  | [], L, x => by simp [addAll]
  | s :: l, L, x => by
    show x ∈ addAll (sput L s) l ↔ _
    rw [addAll_mem, sputQ_mem, List.mem_cons, or_assoc]
theorem names_mem {e : GEdit} {s : ByteArray} (hv : gEditV e = true) : s ∈ gNames e ↔ raw e s ∧ s ≠ sNil := by
  rw [gNames, if_pos hv, (sortS_perm _).mem_iff, List.mem_filter, idsOf, addAll_mem, addAll_mem, addAll_mem]
  simp only [nonE, Bool.not_eq_true', decide_eq_false_iff_not, List.not_mem_nil, false_or, List.mem_cons, or_false, raw, or_assoc]
theorem gObj_id {o : GObj} (h : gObj o = true) : o.id ≠ sNil := gName_ne (gObj_len h).2.2.2.1
theorem okOf_id {e : GEdit} (h : okOf e = true) (h1 : e.op ≠ 1) : e.id ≠ sNil := by
  rw [okOf, if_neg h1, Bool.and_eq_true] at h
  exact gName_ne h.1
theorem okOf_other {e : GEdit} (h : okOf e = true) (h1 : e.op = 6 ∨ e.op = 7) : e.other ≠ sNil := by
  rw [okOf, if_neg (by omega), Bool.and_eq_true, if_neg (by omega), if_neg (by omega), if_neg (by omega), if_neg (by omega)] at h
  have h2 := h.2
  split at h2
  · rw [Bool.and_eq_true] at h2; exact gName_ne h2.2
  · exact gName_ne h2
theorem okOf_obj {e : GEdit} (h : okOf e = true) (h1 : e.op = 1) : e.obj.id ≠ sNil := by
  rw [okOf, if_pos h1] at h
  exact gObj_id h
/-- What a possible edit puts and drops is among its names. -/
theorem perf_names {m : List GObj} {e : GEdit} {r : GRes} (hv : gEditV e = true) (h : Perf m e r) : (∀ o, o ∈ r.put → o.id ∈ gNames e) ∧ (r.drop = sNil ∨ r.drop ∈ gNames e) ∧ (r.put.length + (if r.drop = sNil then 0 else 1) ≤ 2) := by
  obtain ⟨_, hk, _⟩ := gEditV_iff.1 hv
  have hid : ∀ o, look m e.id = some o → e.op ≠ 1 → o.id ∈ gNames e := fun o hl h1 => by
    rw [look_id hl]
    exact (names_mem hv).2 ⟨.inl rfl, okOf_id hk h1⟩
  have one : ∀ (x y : GObj), x ∈ [y] → x = y := fun x y hx => List.mem_singleton.1 hx
  cases h with
  | put ho hn hr => exact ⟨fun o h => by rw [one _ _ h]; exact (names_mem hv).2 ⟨.inr (.inr (.inr (.inl rfl))), okOf_obj hk ho⟩, .inl rfl, by simp⟩
  | move o ho hl hf => exact ⟨fun x h => by rw [one _ _ h]; exact hid o hl (by omega), .inl rfl, by simp⟩
  | tag o ho hl hs => exact ⟨fun x h => by rw [one _ _ h]; exact hid o hl (by omega), .inl rfl, by simp⟩
  | refs o ho hl hf hg hr => exact ⟨fun x h => by rw [one _ _ h]; exact hid o hl (by omega), .inl rfl, by simp⟩
  | drop o ho hl hr => exact ⟨fun x h => (by cases h), .inr ((names_mem hv).2 ⟨.inl rfl, okOf_id hk (by omega)⟩), by show 0 + _ ≤ 2; split <;> omega⟩
  | split o ho hl hf hn hi hr =>
    refine ⟨fun x h => ?_, .inl rfl, by simp⟩
    rcases List.mem_cons.1 h with h | h
    · rw [h]; exact hid o hl (by omega)
    · rw [one _ _ h]; exact (names_mem hv).2 ⟨.inr (.inl rfl), okOf_other hk (.inl ho)⟩
  | join o x ho hl hf hx hk2 hi hr hlen => exact ⟨fun x h => by rw [one _ _ h]; exact hid o hl (by omega), .inr ((names_mem hv).2 ⟨.inr (.inl rfl), okOf_other hk (.inr ho)⟩), by show 1 + _ ≤ 2; split <;> omega⟩
/-- The lookups behind objects that are put and an Id that is dropped. -/
def putF : List GObj → (ByteArray → Option GObj) → ByteArray → Option GObj
  | [], f, s => f s
  | o :: l, f, s => putF l (fun s => if s = o.id then some o else f s) s
def toF (r : GRes) (f : ByteArray → Option GObj) (s : ByteArray) : Option GObj := if r.drop = sNil then putF r.put f s else if s = r.drop then none else putF r.put f s
theorem fold_len : ∀ {l m : List GObj}, (l.foldl gWith m).length ≤ m.length + l.length
  | [], m => by simp
  | o :: l, m => by
    have h1 := fold_len (l := l) (m := gWith m o)
    have h2 := gWith_len m o
    show (l.foldl gWith (gWith m o)).length ≤ m.length + (l.length + 1)
    split at h2 <;> omega
theorem fold_gMap : ∀ {l m : List GObj}, gMap m = true → (∀ o, o ∈ l → gObj o = true) → m.length + l.length ≤ 1000000 → gMap (l.foldl gWith m) = true
  | [], m, h, _, _ => h
  | o :: l, m, h, ho, hl => by
    have h2 := gWith_len m o
    have h3 : (gWith m o).length ≤ m.length + 1 := by split at h2 <;> omega
    have hlen : (o :: l).length = l.length + 1 := rfl
    exact fold_gMap (l := l) (gMap_with h (ho o List.mem_cons_self) (by omega)) (fun x hx => ho x (List.mem_cons_of_mem _ hx)) (by omega)
theorem to_len {m : List GObj} {r : GRes} : (gTo m r.put r.drop).length ≤ m.length + r.put.length := by
  unfold gTo
  split
  · exact fold_len
  · exact Nat.le_trans (gWo_sub _ _).length_le fold_len
def sup (r : GRes) (s : ByteArray) : Prop := (∃ o, o ∈ r.put ∧ o.id = s) ∨ (r.drop ≠ sNil ∧ s = r.drop)
theorem gPutM_suc {m : List GObj} {o : GObj} (hg : gMap m = true) (ho : gObj o = true) (hl : m.length < 1000000) : gPutM m o = (gWith m o, 0) := by
  unfold gPutM
  rw [if_neg (by simp [hg, ho]), if_neg (by simp; omega)]
theorem putAll_suc : ∀ {l m : List GObj}, gMap m = true → (∀ o, o ∈ l → gObj o = true) → m.length + l.length ≤ 1000000 → putAll m l = (l.foldl gWith m, 0)
  | [], m, _, _, _ => rfl
  | o :: l, m, hg, ho, hl => by
    have hlen : (o :: l).length = l.length + 1 := rfl
    have h2 := gWith_len m o
    have h3 : (gWith m o).length ≤ m.length + 1 := by split at h2 <;> omega
    rw [putAll, gPutM_suc hg (ho o List.mem_cons_self) (by omega), if_neg (by simp)]
    show putAll (gWith m o) l = _
    exact putAll_suc (gMap_with hg (ho o List.mem_cons_self) (by omega)) (fun x hx => ho x (List.mem_cons_of_mem _ hx)) (by omega)
theorem after_of {m : List GObj} {e : GEdit} (hg : gMap m = true) (hv : gEditV e = true) {r : GRes} (hr : gPerform m e = r) (h0 : r.err = 0) (ho : ∀ o, o ∈ r.put → gObj o = true) (hl : m.length + 2 ≤ 1000000) (hp : r.put.length ≤ 2) (hd : r.drop = sNil ∨ hasK GObj.id (r.put.foldl gWith m) r.drop = true) :
    gAfter m e = (gTo m r.put r.drop, 0) := by
  have hs := putAll_suc hg ho (by omega)
  have hg2 := fold_gMap hg ho (by omega)
  unfold gAfter
  rw [hr, if_neg (by simp [hv]), if_neg (by simp [h0]), hs, if_neg (by simp)]
  unfold gTo
  by_cases h : r.drop = sNil
  · rw [if_neg (by simp [h]), if_pos h]
  · rcases hd with hd | hd
    · exact absurd hd h
    · rw [if_pos (by simp [h]), if_neg h]
      unfold gDropM
      rw [if_neg (by simp [hg2]), if_neg (by simp [hd])]
      rfl
end Go.Proofs.YtbbnllojhjlaoaaGreat
end
section
set_option linter.unusedVariables false
set_option linter.unusedSimpArgs false
set_option maxRecDepth 100000
namespace Go.Proofs.YtbbnllojhjlaoaaGreat
open Go.Abs
theorem look_without {m : List GObj} {id : ByteArray} (s : ByteArray) (hu : ups m) : look (gWithout m id) s = if s = id then none else look m s := by
  have hu2 : ups (gWithout m id) := ups_sub hu List.filter_sublist
  split
  · next e =>
    rw [look_none]
    intro x hx hs
    have := (List.mem_filter.1 hx).2
    rw [hs, e, decide_eq_true rfl] at this
    cases this
  · next e =>
    cases hl : look m s with
    | none =>
      rw [look_none] at hl ⊢
      exact fun x hx => hl x (List.mem_filter.1 hx).1
    | some x =>
      have hid := look_id hl
      refine look_of_mem hu2 (List.mem_filter.2 ⟨look_mem hl, ?_⟩) hid
      rw [hid, decide_eq_false e]; rfl
theorem without_wo {m : List GObj} {id : ByteArray} (hu : ups m) (hf : hasK GObj.id m id = true) : gWithout m id = gWo m id :=
  map_ext (ups_sub hu List.filter_sublist) (ups_sub hu (gWo_sub m id)) fun s => by rw [look_without s hu, look_wo s hu hf]
theorem ups_tail0 {x : GObj} {l : List GObj} (h : ups (x :: l)) : ups l := (List.pairwise_cons.1 h).2
theorem drop_tw {p : GObj → Bool} : ∀ {l : List GObj} {z : ByteArray}, ups l → (∀ x, x ∈ l → p x = slt x.id z) → (∀ x, x ∈ l → x.id ≠ z) → ∀ y, y ∈ l.drop (l.takeWhile p).length → slt z y.id = true
  | [], z, _, _, _, y, hy => by simp at hy
  | x :: l, z, hu, hp, hn, y, hy => by
    cases hx : p x with
    | true =>
      rw [List.takeWhile_cons, hx] at hy
      exact drop_tw (ups_tail0 hu) (fun w hw => hp w (List.mem_cons_of_mem _ hw)) (fun w hw => hn w (List.mem_cons_of_mem _ hw)) y hy
    | false =>
      rw [List.takeWhile_cons, hx] at hy
      have h0 : slt x.id z = false := by rw [← hp x List.mem_cons_self, hx]
      have hz : slt z x.id = true := by
        cases hc : slt z x.id with
        | true => rfl
        | false => exact absurd (slt_tri h0 hc) (hn x List.mem_cons_self)
      rcases List.mem_cons.1 hy with rfl | hy
      · exact hz
      · exact slt_trans hz ((List.pairwise_cons.1 hu).1 y hy)
theorem take_tw {p : GObj → Bool} : ∀ {l : List GObj} {y : GObj}, y ∈ l.take (l.takeWhile p).length → p y = true
  | [], y, hy => by simp at hy
  | x :: l, y, hy => by
    cases hx : p x with
    | true =>
      rw [List.takeWhile_cons, hx] at hy
      rcases List.mem_cons.1 hy with rfl | hy
      · exact hx
      · exact take_tw (l := l) hy
    | false =>
      rw [List.takeWhile_cons, hx] at hy
      simp at hy
theorem with_eq {m : List GObj} {o : GObj} (hu : ups m) : gWithR m o = gWith m o := by
  have hu2 : ups (gWithout m o.id) := ups_sub hu List.filter_sublist
  have hne : ∀ x, x ∈ gWithout m o.id → x.id ≠ o.id := fun x hx e => by
    have := (List.mem_filter.1 hx).2
    rw [decide_eq_true e] at this
    cases this
  have h1 : ups (gWithR m o) := by
    unfold gWithR rAt
    rw [ups, List.pairwise_append]
    refine ⟨List.Pairwise.sublist (List.take_sublist _ _) hu2, List.pairwise_cons.2 ⟨fun y hy => drop_tw hu2 (fun _ _ => rfl) hne y hy, List.Pairwise.sublist (List.drop_sublist _ _) hu2⟩, fun x hx y hy => ?_⟩
    have hx2 : slt x.id o.id = true := take_tw (p := fun x => slt x.id o.id) hx
    rcases List.mem_cons.1 hy with rfl | hy
    · exact hx2
    · exact slt_trans hx2 (drop_tw hu2 (fun _ _ => rfl) hne y hy)
  refine asc_eq (f := GObj.id) h1 (gWith_ups hu) fun x => ?_
  rw [gWith_mem_iff hu, gWithR, List.mem_append, List.mem_cons]
  have hm : x ∈ gWithout m o.id ↔ x ∈ m ∧ x.id ≠ o.id := by
    rw [gWithout, List.mem_filter, Bool.not_eq_true', decide_eq_false_iff_not]
  rw [← hm]
  constructor
  · rintro (h | h | h)
    · exact .inr (List.mem_of_mem_take h)
    · exact .inl h
    · exact .inr (List.mem_of_mem_drop h)
  · rintro (h | h)
    · exact .inr (.inl h)
    · rw [← List.take_append_drop (rAt m o) (gWithout m o.id)] at h
      rcases List.mem_append.1 h with h | h
      · exact .inl h
      · exact .inr (.inr h)
/-! ### A node within a list -/
theorem rLast_no {node : ByteArray} : ∀ {l : List ByteArray} {i : Nat} {a : Int}, (∀ s, s ∈ l → s ≠ node) → rLast node l i a = a
  | [], _, _, _ => rfl
  | s :: l, i, a, h => by
    show rLast node l (i + 1) (if s = node then (i : Int) else a) = a
    rw [if_neg (h s List.mem_cons_self)]
    exact rLast_no fun x hx => h x (List.mem_cons_of_mem _ hx)
theorem rCnt_zero {node : ByteArray} {l : List ByteArray} : rCnt l node = 0 ↔ ∀ s, s ∈ l → s ≠ node := by
  rw [rCnt, List.countP_eq_zero]
  exact ⟨fun h s hs e => h s hs (decide_eq_true e), fun h s hs e => h s hs (of_decide_eq_true e)⟩
theorem gidx_some_lt {l : List ByteArray} {p : ByteArray → Bool} {k : Nat} (h : gidx p l = (k : Int)) (j : Nat) (hj : j < k) (z : ByteArray) (hz : l[j]? = some z) : p z = false := by
  unfold gidx at h
  cases hf : l.findIdx? p with
  | none =>
    rw [hf] at h
    have h : (-1 : Int) = (k : Int) := h
    omega
  | some i =>
    rw [hf] at h
    have hik : i = k := by
      have h : (i : Int) = (k : Int) := h
      omega
    subst hik
    rw [List.findIdx?_eq_some_iff_getElem] at hf
    obtain ⟨h1, h2, h3⟩ := hf
    have h4 := h3 j hj
    obtain ⟨h5, h6⟩ := List.getElem?_eq_some_iff.1 hz
    rw [h6] at h4
    simpa using h4
theorem inner_eq (l : List ByteArray) (node : ByteArray) : rAtN l node = gInner l node := by
  rcases gidx_cases (fun x => decide (node = x)) l with ⟨e1, e2⟩ | ⟨k, s, e1, e2, e3⟩
  · have hno : ∀ s, s ∈ l → s ≠ node := fun s hs e => by
      have := List.find?_eq_none.1 e2 s hs
      exact this (decide_eq_true e.symm)
    rw [rAtN, gInner, rCnt_zero.2 hno, e1]
    rfl
  · have hs : node = s := of_decide_eq_true (List.find?_some (p := fun x => decide (node = x)) e3)
    have hcut : l = l.take k ++ s :: l.drop (k + 1) := cut_at e2
    have hlt := (List.getElem?_eq_some_iff.1 e2).1
    have hkl : (l.take k).length = k := by rw [List.length_take]; omega
    have hpre : ∀ z, z ∈ l.take k → z ≠ node := by
      intro z hz he
      obtain ⟨j, hj⟩ := List.mem_iff_getElem?.1 hz
      rw [List.getElem?_take] at hj
      split at hj
      · next hjk =>
        have h1 := gidx_some_lt e1 j hjk z hj
        exact absurd he.symm (of_decide_eq_false h1)
      · cases hj
    have hc : rCnt l node = 1 + rCnt (l.drop (k + 1)) node := by
      conv => lhs; rw [hcut]
      rw [rCnt, List.countP_append, List.countP_cons, if_pos (decide_eq_true hs.symm)]
      have h0 : List.countP (fun s => decide (s = node)) (l.take k) = 0 := rCnt_zero.2 hpre
      rw [h0, rCnt]
      omega
    have hL : rLast node l 0 (-1) = rLast node (l.drop (k + 1)) (k + 1) (k : Int) := by
      conv => lhs; rw [hcut]
      rw [rLast_app, rLast_no hpre, hkl, Nat.zero_add]
      show rLast node _ (k + 1) (if s = node then (k : Int) else _) = _
      rw [if_pos hs.symm]
    rw [gInner, e1, Int.toNat_natCast]
    by_cases hin : ∀ z, z ∈ l.drop (k + 1) → z ≠ node
    · have h1 : inB (l.drop (k + 1)) node = false := by
        cases h : inB (l.drop (k + 1)) node with
        | false => rfl
        | true => exact absurd rfl (hin node (inB_iff.1 h))
      rw [rLast_no hin] at hL
      rw [rAtN, hc, rCnt_zero.2 hin, hL, h1, Bool.or_false]
      have h2 : decide ((k : Int) = 0) = decide ((k : Int) ≤ 0) := by rw [Bool.eq_iff_iff, decide_eq_true_eq, decide_eq_true_eq]; omega
      rw [h2]
      rfl
    · have h1 : inB (l.drop (k + 1)) node = true := by
        rw [inB_iff]
        apply Classical.byContradiction
        intro h
        exact hin fun z hz e => h (e ▸ hz)
      have h2 : rCnt (l.drop (k + 1)) node ≠ 0 := fun h => hin (rCnt_zero.1 h)
      rw [rAtN, h1, Bool.or_true, if_pos rfl, if_pos]
      rw [decide_eq_false (by omega)]
      rfl
/-! ### References -/
theorem rRef_any {m : List GObj} (hg : ∀ o, o ∈ m → gObj o = true) (id : ByteArray) (routes : Bool) : m.any (rRef1 id routes) = gRefd m routes [id] := by
  unfold gRefd
  rw [Bool.eq_iff_iff, List.any_eq_true, List.any_eq_true]
  have hk : ∀ o, o ∈ m → rRef1 id routes o = refsTo routes [id] o := fun o ho => by
    have hk := gObj_kind (hg o ho)
    unfold rRef1 refsTo
    have h1 : inB o.refs id = o.refs.any (fun r => inB [id] r) := by
      rw [Bool.eq_iff_iff, inB_iff, List.any_eq_true]
      exact ⟨fun h => ⟨id, h, inB_iff.2 List.mem_cons_self⟩, fun ⟨x, hx, hi⟩ => by have := List.mem_singleton.1 (inB_iff.1 hi); rw [← this]; exact hx⟩
    have h2 : (!routes || decide (o.kind = 4) || decide (o.kind = 5)) = (!routes || decide (4 ≤ o.kind)) := by
      rw [Bool.or_assoc]
      congr 1
      rw [Bool.eq_iff_iff, Bool.or_eq_true, decide_eq_true_eq, decide_eq_true_eq, decide_eq_true_eq]
      omega
    rw [h1, h2, Bool.and_comm]
  exact ⟨fun ⟨o, ho, h⟩ => ⟨o, ho, by rw [← hk o ho]; exact h⟩, fun ⟨o, ho, h⟩ => ⟨o, ho, by rw [hk o ho]; exact h⟩⟩
theorem rRef_two {m : List GObj} (hg : ∀ o, o ∈ m → gObj o = true) (a b : ByteArray) : (m.any (rRef1 a true) || m.any (rRef1 b true)) = gRefd m true [a, b] := by
  rw [rRef_any hg, rRef_any hg]
  unfold gRefd
  rw [Bool.eq_iff_iff, Bool.or_eq_true, List.any_eq_true, List.any_eq_true, List.any_eq_true]
  have hk : ∀ o, refsTo true [a, b] o = (refsTo true [a] o || refsTo true [b] o) := fun o => by
    unfold refsTo
    have : o.refs.any (fun r => inB [a, b] r) = (o.refs.any (fun r => inB [a] r) || o.refs.any (fun r => inB [b] r)) := by
      rw [Bool.eq_iff_iff, Bool.or_eq_true, List.any_eq_true, List.any_eq_true, List.any_eq_true]
      constructor
      · rintro ⟨x, hx, hi⟩
        rcases List.mem_cons.1 (inB_iff.1 hi) with h | h
        · exact .inl ⟨x, hx, inB_iff.2 (by rw [h]; exact List.mem_cons_self)⟩
        · exact .inr ⟨x, hx, inB_iff.2 h⟩
      · rintro (⟨x, hx, hi⟩ | ⟨x, hx, hi⟩)
        · exact ⟨x, hx, inB_iff.2 (by rw [List.mem_singleton.1 (inB_iff.1 hi)]; exact List.mem_cons_self)⟩
        · exact ⟨x, hx, inB_iff.2 (List.mem_cons_of_mem _ (inB_iff.1 hi))⟩
    rw [this, Bool.and_or_distrib_left]
  constructor
  · rintro (⟨o, ho, h⟩ | ⟨o, ho, h⟩)
    · exact ⟨o, ho, by rw [hk, h, Bool.true_or]⟩
    · exact ⟨o, ho, by rw [hk, h, Bool.or_true]⟩
  · rintro ⟨o, ho, h⟩
    rw [hk, Bool.or_eq_true] at h
    rcases h with h | h
    · exact .inl ⟨o, ho, h⟩
    · exact .inr ⟨o, ho, h⟩
/-! ### What is put is valid -/
theorem wrongAt_congr {o o' : GObj} (hk : o'.kind = o.kind) (hr : o'.refs = o.refs) (k : Nat) : wrongAt o' k = wrongAt o k := by
  unfold wrongAt gWrong gTwice
  rw [hr, hk]
theorem gObj_with {o o' : GObj} (h : gObj o = true) (hk : o'.kind = o.kind) (hr : o'.refs = o.refs) (hi : o'.id = o.id) (ht : gTags o'.tags = true) (hp : gKind o' = true) : gObj o' = true := by
  rw [gObj, Bool.and_eq_true, Bool.and_eq_true, Bool.not_eq_true', Bool.not_eq_true'] at h ⊢
  have hw : (List.range o'.refs.length).any (wrongAt o') = (List.range o.refs.length).any (wrongAt o) := by
    rw [hr, show wrongAt o' = wrongAt o from funext fun k => wrongAt_congr hk hr k]
  refine ⟨?_, by rw [hw]; exact h.2.1, hp⟩
  have h1 := h.1
  rw [gHead, gHeadN] at h1 ⊢
  simp only [Bool.or_eq_false_iff, Bool.not_eq_false'] at h1 ⊢
  rw [hk, hi, hr]
  exact ⟨⟨⟨⟨h1.1.1.1.1, h1.1.1.1.2⟩, ht⟩, h1.1.2⟩, h1.2⟩
def wayOK (l : List ByteArray) : Prop := (∀ s, s ∈ l → gName s = true) ∧ ∀ (i : Nat) (s : ByteArray), l[i]? = some s → l[i + 1]? = some s → False
theorem wrong_way {o : GObj} (hk : o.kind = 2) : (List.range o.refs.length).any (wrongAt o) = false ↔ wayOK o.refs := by
  have hw : ∀ (k : Nat) (s : ByteArray), o.refs[k]? = some s → (wrongAt o k = false ↔ s ≠ before id o.refs k ∧ gName s = true) := fun k s hs => by
    unfold wrongAt
    rw [hs]
    show gWrong o _ _ s = false ↔ _
    rw [gWrong, gTwice, hk, Bool.or_eq_false_iff, Bool.or_eq_false_iff, Bool.not_eq_false']
    simp
  rw [List.any_eq_false]
  constructor
  · intro h
    have h' : ∀ (k : Nat) (s : ByteArray), o.refs[k]? = some s → s ≠ before id o.refs k ∧ gName s = true := fun k s hs =>
      (hw k s hs).1 (by have := h k (List.mem_range.2 (List.getElem?_eq_some_iff.1 hs).1); simpa using this)
    refine ⟨fun s hs => ?_, fun i s h1 h2 => ?_⟩
    · obtain ⟨i, hi⟩ := List.mem_iff_getElem?.1 hs
      exact (h' i s hi).2
    · refine (h' (i + 1) s h2).1 ?_
      show s = ((o.refs[i]?).map id).getD sNil
      rw [h1]; rfl
  · rintro ⟨h1, h2⟩ k hk2
    obtain ⟨s, hs⟩ := get_of_lt (List.mem_range.1 hk2)
    rw [Bool.not_eq_true]
    refine (hw k s hs).2 ⟨fun e => ?_, h1 s (List.mem_of_getElem? hs)⟩
    cases k with
    | zero => exact gName_ne (h1 s (List.mem_of_getElem? hs)) e
    | succ k =>
      obtain ⟨z, hz⟩ := get_of_lt (l := o.refs) (k := k) (by have := (List.getElem?_eq_some_iff.1 hs).1; omega)
      have e2 : s = z := by
        have e3 : s = ((o.refs[k]?).map id).getD sNil := e
        rw [hz] at e3; exact e3
      subst e2
      exact h2 k s hz hs
theorem gObj_way {o : GObj} (hk : o.kind = 2) : gObj o = true ↔ (gName o.id = true ∧ gTags o.tags = true) ∧ (2 ≤ o.refs.length ∧ o.refs.length ≤ 2000) ∧ wayOK o.refs ∧ o.x = 0 ∧ o.y = 0 := by
  rw [gObj, Bool.and_eq_true, Bool.and_eq_true, Bool.not_eq_true', Bool.not_eq_true', wrong_way hk, gKind, hk, if_neg (by decide), if_neg (by decide), Bool.and_eq_true, decide_eq_true_eq, decide_eq_true_eq, gHead, gHeadN, hk]
  simp only [Bool.or_eq_false_iff, Bool.not_eq_false', decide_eq_false_iff_not]
  have h1 : ¬ gWord 2 = sNil := by decide
  have h2 : gLeast 2 = 2 := rfl
  rw [h2]
  constructor
  · rintro ⟨⟨⟨⟨⟨_, a⟩, b⟩, c⟩, d⟩, e, f, g⟩
    exact ⟨⟨a, b⟩, ⟨by omega, by omega⟩, e, f, g⟩
  · rintro ⟨⟨a, b⟩, ⟨c, d⟩, e, f, g⟩
    exact ⟨⟨⟨⟨⟨h1, a⟩, b⟩, by omega⟩, by omega⟩, e, f, g⟩
theorem gSet_tags {l : List GTag} {key val : ByteArray} (h : (gSet l key val).2 = 0) : gTags (gSet l key val).1 = true := by
  unfold gSet at h ⊢
  by_cases h1 : (!gTags l || !gName key || decide (200 < (val.size : Int))) = true
  · rw [if_pos h1] at h; cases h
  · rw [if_neg h1] at h ⊢
    have h1' := h1
    simp only [Bool.or_eq_true, not_or, Bool.not_eq_true', Bool.not_eq_false, decide_eq_true_eq] at h1'
    obtain ⟨⟨hg, hn⟩, hv⟩ := h1'
    have hgl := hg
    obtain ⟨g1, g2, g3⟩ := gTags_iff.1 hg
    by_cases h2 : hasK GTag.key l key = true
    · rw [if_pos h2] at h ⊢
      obtain ⟨y, hy, hye⟩ := hasK_get (f := GTag.key) g2 h2
      by_cases h3 : val = sNil
      · rw [if_pos h3]
        have hsub : (l.take (lbI GTag.key l key) ++ l.drop (lbI GTag.key l key + 1)).Sublist l := by
          have h : (l.take (lbI GTag.key l key) ++ l.drop (lbI GTag.key l key)) = l := List.take_append_drop _ _
          conv => rhs; rw [← h]
          exact List.Sublist.append (List.Sublist.refl _) (by rw [← List.drop_drop]; exact List.drop_sublist _ _)
        exact gTags_iff.2 ⟨fun t ht => g1 t (hsub.subset ht), List.Pairwise.sublist hsub g2, by have := hsub.length_le; show (l.take (lbI GTag.key l key) ++ l.drop (lbI GTag.key l key + 1)).length ≤ 60; omega⟩
      · rw [if_neg h3]
        refine gTags_iff.2 ⟨fun t ht => ?_, asc_set g2 hy hye, by rw [List.length_set]; exact g3⟩
        rcases List.mem_or_eq_of_mem_set ht with ht | ht
        · exact g1 t ht
        · rw [ht]; exact ⟨hn, h3, by show val.size ≤ 200; omega⟩
    · rw [if_neg h2] at h ⊢
      by_cases h3 : val = sNil
      · rw [if_pos h3]; exact hgl
      · rw [if_neg h3] at h ⊢
        by_cases h4 : l.length = 60
        · rw [if_pos h4] at h; cases h
        · rw [if_neg h4]
          refine gTags_iff.2 ⟨fun t ht => ?_, asc_ins (f := GTag.key) (o := ⟨key, val⟩) g2 (by simpa using h2), ?_⟩
          · rcases List.mem_append.1 ht with ht | ht
            · exact g1 t (List.mem_of_mem_take ht)
            · rcases List.mem_cons.1 ht with ht | ht
              · rw [ht]; exact ⟨hn, h3, by show val.size ≤ 200; omega⟩
              · exact g1 t (List.mem_of_mem_drop ht)
          · show (List.length (_ ++ _ :: _)) ≤ 60
            rw [List.length_append, List.length_cons, List.length_take, List.length_drop]
            omega
theorem way_split {l : List ByteArray} {k : Nat} (h : wayOK l) : wayOK (l.take (k + 1)) ∧ wayOK (l.drop k) := by
  refine ⟨⟨fun s hs => h.1 s (List.mem_of_mem_take hs), fun i s h1 h2 => ?_⟩, ⟨fun s hs => h.1 s (List.mem_of_mem_drop hs), fun i s h1 h2 => ?_⟩⟩
  · rw [List.getElem?_take] at h1 h2
    split at h1
    · split at h2
      · exact h.2 i s h1 h2
      · cases h2
    · cases h1
  · rw [List.getElem?_drop] at h1 h2
    exact h.2 (k + i) s h1 (by rw [show k + i + 1 = k + (i + 1) by omega]; exact h2)
theorem way_join {a b : List ByteArray} (ha : wayOK a) (hb : wayOK b) (hal : 0 < a.length) (hbl : 0 < b.length) (he : atS a (a.length - 1) = atS b 0) : wayOK (a ++ b.drop 1) := by
  refine ⟨fun s hs => ?_, fun i s h1 h2 => ?_⟩
  · rcases List.mem_append.1 hs with h | h
    · exact ha.1 s h
    · exact hb.1 s (List.mem_of_mem_drop h)
  · rcases Nat.lt_trichotomy (i + 1) a.length with hi | hi | hi
    · rw [List.getElem?_append_left (by omega)] at h1
      rw [List.getElem?_append_left hi] at h2
      exact ha.2 i s h1 h2
    · rw [List.getElem?_append_left (by omega)] at h1
      rw [List.getElem?_append_right (by omega), List.getElem?_drop, show 1 + (i + 1 - a.length) = 0 + 1 by omega] at h2
      obtain ⟨z, hz⟩ := get_of_lt hbl
      rw [show a.length - 1 = i by omega, atS_some h1, atS_some hz] at he
      subst he
      exact hb.2 0 s hz h2
    · rw [List.getElem?_append_right (by omega), List.getElem?_drop] at h1 h2
      exact hb.2 (1 + (i - a.length)) s h1 (by rw [show 1 + (i - a.length) + 1 = 1 + (i + 1 - a.length) by omega]; exact h2)
/-! ### The reference's edits -/
def rJoin (m : List GObj) (e : GEdit) (o x : GObj) : List GObj × Int :=
  if !decide (x.kind = 2) then ([], 13)
  else if decide (e.id = e.other) || !decide (atS o.refs (o.refs.length - 1) = atS x.refs 0) then ([], 12)
  else if m.any (rRef1 e.id true) || m.any (rRef1 e.other true) then ([], 14)
  else if decide (2001 < o.refs.length + x.refs.length) then ([], 2)
  else (gWithR (gWithout m e.other) ⟨o.id, o.kind, o.x, o.y, o.refs ++ x.refs.drop 1, o.tags⟩, 0)
def rSplit (m : List GObj) (e : GEdit) (o : GObj) : List GObj × Int :=
  if decide (0 ≤ gidx (idIs e.other) m) then ([], 9)
  else if decide (rAtN o.refs e.node < 0) then ([], 12)
  else if m.any (rRef1 e.id true) then ([], 14)
  else if decide ((m.length : Int) = 1000000) then ([], 2)
  else (gWithR (gWithR m ⟨o.id, o.kind, o.x, o.y, o.refs.take ((rAtN o.refs e.node).toNat + 1), o.tags⟩) ⟨e.other, 2, 0, 0, o.refs.drop (rAtN o.refs e.node).toNat, o.tags⟩, 0)
def rChange (m : List GObj) (e : GEdit) (o : GObj) : List GObj × Int :=
  if !fitsB e.op o.kind then ([], 13)
  else if e.op = 2 then (gWithR m ⟨o.id, o.kind, e.x, e.y, o.refs, o.tags⟩, 0)
  else if e.op = 3 then (if !decide ((gSet o.tags e.key e.val).2 = 0) then ([], (gSet o.tags e.key e.val).2) else (gWithR m ⟨o.id, o.kind, o.x, o.y, o.refs, (gSet o.tags e.key e.val).1⟩, 0))
  else if e.op = 4 then (if !gObj ⟨o.id, o.kind, o.x, o.y, e.refs, o.tags⟩ then ([], 1) else if !decide (refErr m o.kind 0 e.refs = 0) then ([], refErr m o.kind 0 e.refs) else (gWithR m ⟨o.id, o.kind, o.x, o.y, e.refs, o.tags⟩, 0))
  else if e.op = 5 then (if m.any (rRef1 e.id false) then ([], 14) else (gWithout m e.id, 0))
  else if e.op = 6 then rSplit m e o
  else rJoin m e o ((m.find? (idIs e.other)).getD zObj)
def rPut (m : List GObj) (o : GObj) : List GObj × Int :=
  if decide (0 ≤ gidx (idIs o.id) m) then ([], 9)
  else if !decide (refErr m o.kind 0 o.refs = 0) then ([], refErr m o.kind 0 o.refs)
  else if decide ((m.length : Int) = 1000000) then ([], 2)
  else (gWithR m o, 0)
def rApply (m : List GObj) (e : GEdit) : List GObj × Int :=
  if !closedB m || !gEditV e then ([], 1)
  else if e.op = 1 then rPut m e.obj
  else match m.find? (idIs e.id) with
  | none => ([], 11)
  | some o => if decide (e.op = 7) && (m.find? (idIs e.other)).isNone then ([], 11) else rChange m e o
theorem gidx_look {m : List GObj} {s : ByteArray} : decide (0 ≤ gidx (idIs s) m) = (kindOf m s).isSome := by
  rw [kindOf_look, Option.isSome_map]
  rcases gidx_cases (idIs s) m with ⟨e1, e2⟩ | ⟨k, o, e1, e2, e3⟩
  · rw [e1, show look m s = none from e2]; rfl
  · rw [e1, show look m s = some o from e3, decide_eq_true (by omega)]; rfl
theorem fin_err {m : List GObj} {e : GEdit} {r : GRes} (hv : gEditV e = true) (hr : gPerform m e = r) (h : r.err ≠ 0) : gAfter m e = ([], r.err) := by
  unfold gAfter
  rw [if_neg (by simp [hv]), hr, if_pos (by simp [h])]
theorem fin_with {m : List GObj} {e : GEdit} {o : GObj} (hg : gMap m = true) (hv : gEditV e = true) (hr : gPerform m e = ⟨[o], sNil, 0⟩) (ho : gObj o = true) (hl : m.length + 2 ≤ 1000000) : gAfter m e = (gWithR m o, 0) := by
  have h := after_of hg hv hr rfl (fun x hx => by rw [List.mem_singleton.1 hx]; exact ho) hl (by show 1 ≤ 2; omega) (.inl rfl)
  rw [h, with_eq (gMap_iff.1 hg).2.1, gTo, if_pos rfl]
  rfl
theorem apply_eq {m : List GObj} {e : GEdit} (hl : m.length ≤ 999998) : rApply m e = gApply m e := by
  unfold rApply gApply
  by_cases hc : closedB m = true
  · rw [if_pos hc]
    by_cases hv : gEditV e = true
    · rw [if_neg (by simp [hc, hv])]
      obtain ⟨hg1, hg2⟩ := closed_iff.1 hc
      have hu := (gMap_iff.1 hg1).2.1
      have hgo := (gMap_iff.1 hg1).1
      have hml : decide ((m.length : Int) = 1000000) = false := decide_eq_false (by omega)
      obtain ⟨⟨o1, o2⟩, b2, b3⟩ := gEditV_iff.1 hv
      obtain ⟨r, hr⟩ : ∃ r, gPerform m e = r := ⟨_, rfl⟩
      have hr0 := hr
      unfold gPerform at hr
      by_cases h1 : e.op = 1
      · rw [if_pos h1] at hr ⊢
        unfold rPut
        rw [gidx_look]
        by_cases hk : (kindOf m e.obj.id).isSome = true
        · rw [if_pos hk] at hr ⊢
          subst hr
          exact (fin_err hv hr0 (by decide)).symm
        · rw [if_neg hk] at hr ⊢
          by_cases h0 : refErr m e.obj.kind 0 e.obj.refs = 0
          · rw [if_neg (by simp [h0]), hml, if_neg (by decide)]
            rw [h0] at hr
            subst hr
            exact (fin_with hg1 hv hr0 (by rw [okOf, if_pos h1] at b2; exact b2) (by omega)).symm
          · rw [if_pos (by simp [h0])]
            subst hr
            exact (fin_err hv hr0 h0).symm
      · rw [if_neg h1] at hr ⊢
        cases hf : m.find? (idIs e.id) with
        | none =>
          simp only [hf] at hr ⊢
          subst hr
          exact (fin_err hv hr0 (by decide)).symm
        | some o =>
          simp only [hf] at hr ⊢
          have hlk : look m e.id = some o := hf
          have hom := look_mem hlk
          have hoo := hgo o hom
          have hlen := gObj_len hoo
          by_cases h7 : (decide (e.op = 7) && (m.find? (idIs e.other)).isNone) = true
          · rw [if_pos h7] at hr ⊢
            subst hr
            exact (fin_err hv hr0 (by decide)).symm
          · rw [if_neg h7] at hr ⊢
            unfold rChange
            by_cases hfit : (!fitsB e.op o.kind) = true
            · rw [if_pos hfit] at hr ⊢
              subst hr
              exact (fin_err hv hr0 (by decide)).symm
            · rw [if_neg hfit] at hr ⊢
              rw [Bool.not_eq_true, Bool.not_eq_false'] at hfit
              have hkind : gKind o = true := by
                have h := hoo
                rw [gObj, Bool.and_eq_true, Bool.and_eq_true] at h
                exact h.2.2
              by_cases h2 : e.op = 2
              · rw [if_pos h2] at hr ⊢
                rw [h2] at hfit
                have hk1 : o.kind = 1 := by simpa [fitsB] using hfit
                subst hr
                refine (fin_with hg1 hv hr0 (gObj_with hoo rfl rfl rfl hlen.2.2.1 ?_) (by omega)).symm
                have hxy : onP e.x e.y = true := by
                  rw [okOf, if_neg (by omega), if_pos h2, Bool.and_eq_true] at b2
                  exact b2.2
                rw [gKind, if_pos hk1, Bool.and_eq_true] at hkind
                show gKind ⟨o.id, o.kind, e.x, e.y, o.refs, o.tags⟩ = true
                rw [gKind, if_pos hk1, Bool.and_eq_true]
                refine ⟨hkind.1, ?_⟩
                simp only [onP, Bool.and_eq_true, decide_eq_true_eq] at hxy
                simp only [gOn, Bool.and_eq_true, decide_eq_true_eq]
                omega
              · rw [if_neg h2] at hr ⊢
                by_cases h3 : e.op = 3
                · rw [if_pos h3] at hr ⊢
                  by_cases hs : (gSet o.tags e.key e.val).2 = 0
                  · rw [if_neg (by simp [hs])] at hr ⊢
                    subst hr
                    exact (fin_with hg1 hv hr0 (gObj_with hoo rfl rfl rfl (gSet_tags hs) hkind) (by omega)).symm
                  · rw [if_pos (by simp [hs])] at hr ⊢
                    subst hr
                    exact (fin_err hv hr0 hs).symm
                · rw [if_neg h3] at hr ⊢
                  by_cases h4 : e.op = 4
                  · rw [if_pos h4] at hr ⊢
                    by_cases hgo4 : (!gObj ⟨o.id, o.kind, o.x, o.y, e.refs, o.tags⟩) = true
                    · rw [if_pos hgo4] at hr ⊢
                      subst hr
                      exact (fin_err hv hr0 (by decide)).symm
                    · rw [if_neg hgo4] at hr ⊢
                      by_cases h0 : refErr m o.kind 0 e.refs = 0
                      · rw [if_neg (by simp [h0])]
                        rw [h0] at hr
                        subst hr
                        exact (fin_with hg1 hv hr0 (by simpa using hgo4) (by omega)).symm
                      · rw [if_pos (by simp [h0])]
                        subst hr
                        exact (fin_err hv hr0 h0).symm
                  · rw [if_neg h4] at hr ⊢
                    by_cases h5 : e.op = 5
                    · rw [if_pos h5] at hr ⊢
                      rw [rRef_any hgo]
                      by_cases hrf : gRefd m false [e.id] = true
                      · rw [if_pos hrf] at hr ⊢
                        subst hr
                        exact (fin_err hv hr0 (by decide)).symm
                      · rw [if_neg hrf] at hr ⊢
                        subst hr
                        have hK : hasK GObj.id m e.id = true := by rw [hasK_look, hlk]; rfl
                        have h := after_of hg1 hv hr0 rfl (fun x hx => by cases hx) (by omega) (by show 0 ≤ 2; omega) (.inr hK)
                        rw [h, without_wo hu hK]
                        show _ = (gTo m [] e.id, (0 : Int))
                        rw [gTo, if_neg (okOf_id b2 h1)]
                        rfl
                    · rw [if_neg h5] at hr ⊢
                      by_cases h6 : e.op = 6
                      · rw [if_pos h6] at hr ⊢
                        rw [h6] at hfit
                        have hk2 : o.kind = 2 := by simpa [fitsB] using hfit
                        obtain ⟨⟨w1, w2⟩, ⟨w3, w4⟩, w5, w6, w7⟩ := (gObj_way hk2).1 hoo
                        unfold rSplit
                        unfold gSplit at hr
                        rw [gidx_look, inner_eq, rRef_any hgo, hml]
                        by_cases hk : (kindOf m e.other).isSome = true
                        · rw [if_pos hk] at hr ⊢
                          subst hr
                          exact (fin_err hv hr0 (by decide)).symm
                        · rw [if_neg hk] at hr ⊢
                          by_cases hi : decide (gInner o.refs e.node < 0) = true
                          · rw [if_pos hi] at hr ⊢
                            subst hr
                            exact (fin_err hv hr0 (by decide)).symm
                          · rw [if_neg hi] at hr ⊢
                            by_cases hrf : gRefd m true [e.id] = true
                            · rw [if_pos hrf] at hr ⊢
                              subst hr
                              exact (fin_err hv hr0 (by decide)).symm
                            · rw [if_neg hrf] at hr ⊢
                              rw [if_neg (by decide)]
                              subst hr
                              obtain ⟨k, hk0, hk1, hk3, _⟩ : ∃ k : Nat, gInner o.refs e.node = (k : Int) ∧ 0 < k ∧ k + 1 < o.refs.length ∧ o.refs[k]? = some e.node := by
                                rcases gInner_lt (l := o.refs) (node := e.node) with h | h
                                · rw [h] at hi; exact absurd rfl hi
                                · exact h
                              rw [hk0, Int.toNat_natCast] at hr0 ⊢
                              obtain ⟨wa, wb⟩ := way_split (k := k) w5
                              have hoth : gName e.other = true := by
                                rw [okOf, if_neg (by omega), Bool.and_eq_true, if_neg (by omega), if_neg (by omega), if_neg (by omega), if_neg (by omega), if_pos h6, Bool.and_eq_true] at b2
                                exact b2.2.2
                              have g1 : gObj ⟨o.id, o.kind, o.x, o.y, o.refs.take (k + 1), o.tags⟩ = true := (gObj_way (o := ⟨o.id, o.kind, o.x, o.y, o.refs.take (k + 1), o.tags⟩) hk2).2 ⟨⟨w1, w2⟩, ⟨by show 2 ≤ (o.refs.take (k + 1)).length; rw [List.length_take]; omega, by show (o.refs.take (k + 1)).length ≤ 2000; rw [List.length_take]; omega⟩, wa, w6, w7⟩
                              have g2 : gObj ⟨e.other, 2, 0, 0, o.refs.drop k, o.tags⟩ = true := (gObj_way (o := ⟨e.other, 2, 0, 0, o.refs.drop k, o.tags⟩) rfl).2 ⟨⟨hoth, w2⟩, ⟨by show 2 ≤ (o.refs.drop k).length; rw [List.length_drop]; omega, by show (o.refs.drop k).length ≤ 2000; rw [List.length_drop]; omega⟩, wb, rfl, rfl⟩
                              have h := after_of hg1 hv hr0 rfl (fun x hx => by
                                rcases List.mem_cons.1 hx with h | h
                                · rw [h]; exact g1
                                · rw [List.mem_singleton.1 h]; exact g2) (by omega) (by show 2 ≤ 2; omega) (.inl rfl)
                              rw [h, with_eq hu, with_eq (gWith_ups hu)]
                              show _ = (gTo m [_, _] sNil, (0 : Int))
                              rw [gTo, if_pos rfl]
                              rfl
                      · rw [if_neg h6] at hr ⊢
                        have h77 : e.op = 7 := by omega
                        rw [h77] at hfit
                        have hk2 : o.kind = 2 := by simpa [fitsB] using hfit
                        obtain ⟨⟨w1, w2⟩, ⟨w3, w4⟩, w5, w6, w7⟩ := (gObj_way hk2).1 hoo
                        obtain ⟨x, hx⟩ : ∃ x, look m e.other = some x := by
                          cases hl2 : look m e.other with
                          | none =>
                            have hl2' : m.find? (idIs e.other) = none := hl2
                            rw [h77, hl2'] at h7; exact absurd rfl h7
                          | some x => exact ⟨x, rfl⟩
                        have hx' : m.find? (idIs e.other) = some x := hx
                        rw [hx', Option.getD_some] at hr ⊢
                        unfold rJoin
                        unfold gJoin at hr
                        by_cases hxk : (!decide (x.kind = 2)) = true
                        · rw [if_pos hxk] at hr ⊢
                          subst hr
                          exact (fin_err hv hr0 (by decide)).symm
                        · rw [if_neg hxk] at hr ⊢
                          by_cases hi : (decide (e.id = e.other) || !decide (atS o.refs (o.refs.length - 1) = atS x.refs 0)) = true
                          · rw [if_pos hi] at hr ⊢
                            subst hr
                            exact (fin_err hv hr0 (by decide)).symm
                          · rw [if_neg hi] at hr ⊢
                            rw [rRef_two hgo]
                            by_cases hrf : gRefd m true [e.id, e.other] = true
                            · rw [if_pos hrf] at hr ⊢
                              subst hr
                              exact (fin_err hv hr0 (by decide)).symm
                            · rw [if_neg hrf] at hr ⊢
                              have hxk2 : x.kind = 2 := by simpa using hxk
                              obtain ⟨⟨v1, v2⟩, ⟨v3, v4⟩, v5, v6, v7⟩ := (gObj_way hxk2).1 (hgo x (look_mem hx))
                              by_cases hlen2 : 2000 < o.refs.length + x.refs.length - 1
                              · rw [if_pos (decide_eq_true hlen2)] at hr
                                rw [if_pos (decide_eq_true (by omega))]
                                subst hr
                                exact (fin_err hv hr0 (by decide)).symm
                              · rw [if_neg (by simpa using hlen2)] at hr
                                rw [if_neg (by simp; omega)]
                                subst hr
                                rw [Bool.not_eq_true, Bool.or_eq_false_iff, decide_eq_false_iff_not, Bool.not_eq_false', decide_eq_true_eq] at hi
                                have hfl : [o.refs, x.refs.drop 1].flatten = o.refs ++ x.refs.drop 1 := by simp
                                rw [hfl] at hr0
                                have hne : e.other ≠ sNil := okOf_other b2 (.inr h77)
                                have hoid := look_id hlk
                                have g1 : gObj ⟨o.id, o.kind, o.x, o.y, o.refs ++ x.refs.drop 1, o.tags⟩ = true := (gObj_way (o := ⟨o.id, o.kind, o.x, o.y, o.refs ++ x.refs.drop 1, o.tags⟩) hk2).2 ⟨⟨w1, w2⟩, ⟨by show 2 ≤ (o.refs ++ x.refs.drop 1).length; rw [List.length_append]; omega, by show (o.refs ++ x.refs.drop 1).length ≤ 2000; rw [List.length_append, List.length_drop]; omega⟩, way_join w5 v5 (by omega) (by omega) hi.2, w6, w7⟩
                                have hK : hasK GObj.id (gWith m ⟨o.id, o.kind, o.x, o.y, o.refs ++ x.refs.drop 1, o.tags⟩) e.other = true := by
                                  rw [hasK_look, look_with _ _ hu]
                                  split
                                  · rfl
                                  · rw [hx]; rfl
                                have h := after_of hg1 hv hr0 rfl (fun y hy => by rw [List.mem_singleton.1 hy]; exact g1) (by omega) (by show 1 ≤ 2; omega) (.inr hK)
                                rw [h]
                                show _ = (gTo m [_] e.other, (0 : Int))
                                rw [gTo, if_neg hne]
                                refine Prod.ext ?_ rfl
                                have huw : ups (gWithout m e.other) := ups_sub hu List.filter_sublist
                                refine map_ext (by rw [with_eq huw]; exact gWith_ups huw) (ups_sub (gWith_ups hu) (gWo_sub _ _)) fun s => ?_
                                show look (gWithR (gWithout m e.other) _) s = look (gWo (gWith m _) e.other) s
                                rw [with_eq huw, look_with _ _ huw, look_without _ hu, look_wo _ (gWith_ups hu) hK, look_with _ _ hu]
                                have hne2 : o.id ≠ e.other := by rw [hoid]; exact hi.1
                                by_cases q1 : s = o.id
                                · rw [if_pos q1, if_neg (fun q => hne2 (q1.symm.trans q)), if_pos q1]
                                · rw [if_neg q1]
                                  by_cases q2 : s = e.other
                                  · rw [if_pos q2, if_pos q2]
                                  · rw [if_neg q2, if_neg q2, if_neg q1]
    · rw [if_pos (by simp [hv])]
      unfold gAfter
      rw [if_pos (by simpa using hv)]
  · rw [if_neg hc, if_pos (by simp [hc])]
end Go.Proofs.YtbbnllojhjlaoaaGreat
end
section
set_option linter.unusedVariables false
set_option linter.unusedSimpArgs false
set_option maxRecDepth 100000
namespace Go.Proofs.YtbbnllojhjlaoaaGreat
open Go.Abs
theorem rValid09_c (l : List GTag) (H : Heap) (hl : okTags l) : ACalls Tryz.prog 95 [.pv (slTags l)] H (fun r H' => r = bv (gTags l) ∧ H' = H) := by
 refine ACalls.pure ?_ (by simp) H
 obtain ⟨hl, hks⟩ := hl
 have hml : (l.map encTag).length = l.length := List.length_map _
 refine Bd Tryz.func95 rfl Tryz.ntmps95<|Sq<|Rg<|Dd as'<|Zz<|Sq<|Sq<|Rg<|Dd mv'<|Dd (ll' Tryz.underlying34)<|Dd gt'<|Zz ?_
 refine Cn (fun hc1 => ?_) fun hc1 => ?_
 ·have h60 : decide ((l.length : Int) ≤ 60) = false := by
   have := of_decide_eq_true hc1
   exact decide_eq_false (by omega)
  refine Sq<|Rg<|Dd as'<|Zz<|awp_ret ?_
  refine Rt ?_
  exact ⟨by rw [gTags, h60, Bool.and_false], rfl⟩
 have h60 : decide ((l.length : Int) ≤ 60) = true := by
  have := of_decide_eq_false hc1
  exact decide_eq_true (by omega)
 rw [gTags, h60, Bool.and_true]
 refine awp_skip<|Sq<|Sq<|Rg<|Dd as'<|Zz<|awp_block ?_
 refine awp_loop (σ := Nat) (fun k => ([(0, .pv (slTags l)), (3, iv (k : Int))], [])) (fun k => k ≤ l.length ∧ ∀ j, j < k → badAt badTag GTag.key l j = false) (fun k => l.length - k) 0 ⟨by omega, by omega⟩ ?_ ?_
 ·exact E0
 rintro k ⟨hk, hno⟩
 refine Sq<|Sq<|Rg<|Dd mv'<|Dd mv'<|Dd (ll' Tryz.underlying34)<|Dd lss'<|Zz ?_
 refine Cn (fun hc2 => ?_) fun hc2 => ?_
 ·have hlt : k < l.length := by have := of_decide_eq_true hc2; omega
  obtain ⟨t, ht⟩ := get_of_lt hlt
  have hi := map_get (f := encTag) ht
  have hkt := hks t (List.mem_of_getElem? ht)
  obtain ⟨pt, hp⟩ : ∃ pt, 0 < k → l[k - 1]? = some pt := by
   by_cases k0 : 0 < k
   ·obtain ⟨pt, hp⟩ := get_of_lt (l := l) (k := k - 1) (by omega)
    exact ⟨pt, fun _ => hp⟩
   exact ⟨t, fun h => absurd h k0⟩
  have hpv : 0 < k → (l.map encTag)[k - 1]? = some (encTag pt) := fun h => map_get (f := encTag) (hp h)
  have hbe := badTag_eq l k t pt hp
  refine awp_skip<|Sq<|awp_block<|Sq ?_
  refine awp_mergeR (t := 55) (n := 43) (X := ((!gName t.key || decide ((t.val.size : Int) < 1)) || decide (200 < (t.val.size : Int))) || (decide ((0 : Int) < (k : Int)) && !slt pt.key t.key)) ?_ ?_
  ·cases hg20 : (!gName t.key : Bool)
   ·cases hg29 : (decide ((t.val.size : Int) < 1) : Bool)
    ·cases hg38 : (decide (200 < (t.val.size : Int)) : Bool)
     ·cases hg41 : (decide ((0 : Int) < (k : Int)) : Bool)
      ·refine awp_drawc follows ?_
       refine Cq mv'<|Cq mv'<|Cq (xp' so34)<|Cq (fp' fo67_0)<|Cq (lp' Tryz.isAgg9)<|Cq (by exact opr_call rfl rfl Tryz.call43 rfl (rName_c t.key _ hkt.1))<|Cq no'<|Cq mv'<|Nf mv'<|Nf mv'<|Nf (xp' so34)<|Nf (fp' fo67_1)<|Nf (lp' Tryz.isAgg9)<|Nf (ls' Tryz.underlying9)<|Nf lss'<|Cq pf'<|Cq mv'<|Nf mv'<|Nf mv'<|Nf (xp' so34)<|Nf (fp' fo67_1)<|Nf (lp' Tryz.isAgg9)<|Nf (ls' Tryz.underlying9)<|Nf gt'<|Cq pf'<|Cq mv'<|Nf mv'<|Nf gt'<|Nf mv'<|Ot<|Ot<|Ot<|Ot<|Ot<|Ot<|Ot<|Ot<|Ot<|Ot<|Ot<|Ot<|Nf pf'<|Cq pf' ?_
       refine dc_nil ⟨by kernel_rfl, ?_⟩
       exact ⟨rfl, ⟨_, rfl, by rfl⟩, rfl, rfl, rfl⟩
      refine awp_drawc follows ?_
      refine Cq mv'<|Cq mv'<|Cq (xp' so34)<|Cq (fp' fo67_0)<|Cq (lp' Tryz.isAgg9)<|Cq (by exact opr_call rfl rfl Tryz.call43 rfl (rName_c t.key _ hkt.1))<|Cq no'<|Cq mv'<|Nf mv'<|Nf mv'<|Nf (xp' so34)<|Nf (fp' fo67_1)<|Nf (lp' Tryz.isAgg9)<|Nf (ls' Tryz.underlying9)<|Nf lss'<|Cq pf'<|Cq mv'<|Nf mv'<|Nf mv'<|Nf (xp' so34)<|Nf (fp' fo67_1)<|Nf (lp' Tryz.isAgg9)<|Nf (ls' Tryz.underlying9)<|Nf gt'<|Cq pf'<|Cq mv'<|Nf mv'<|Nf gt'<|Nf mv'<|Nt mv'<|Nt mv'<|Nt (by exact opd_sub rfl rfl rfl (by exact w64 (by omega) (by omega)))<|Nt (by exact x_index_pad rfl so34 rfl rfl (by have := of_decide_eq_true hg41; omega) (show ((k : Int) - 1).toNat = k - 1 by omega) (hpv (by have := of_decide_eq_true hg41; omega)) rfl)<|Nt (fp' fo67_0)<|Nt (by exact opd_load1_pad rfl Tryz.isAgg9 rfl (hpv (by have := of_decide_eq_true hg41; omega)) rfl)<|Nt mv'<|Nt mv'<|Nt (xp' so34)<|Nt (fp' fo67_0)<|Nt (lp' Tryz.isAgg9)<|Nt (by exact opd_sgeq rfl rfl rfl) ?_
      refine Nf pt'<|Cq pf' ?_
      refine dc_nil ⟨by kernel_rfl, ?_⟩
      exact ⟨rfl, ⟨_, rfl, by rfl⟩, rfl, rfl, rfl⟩
     refine awp_drawc follows ?_
     refine Cq mv'<|Cq mv'<|Cq (xp' so34)<|Cq (fp' fo67_0)<|Cq (lp' Tryz.isAgg9)<|Cq (by exact opr_call rfl rfl Tryz.call43 rfl (rName_c t.key _ hkt.1))<|Cq no'<|Cq mv'<|Nf mv'<|Nf mv'<|Nf (xp' so34)<|Nf (fp' fo67_1)<|Nf (lp' Tryz.isAgg9)<|Nf (ls' Tryz.underlying9)<|Nf lss'<|Cq pf'<|Cq mv'<|Nf mv'<|Nf mv'<|Nf (xp' so34)<|Nf (fp' fo67_1)<|Nf (lp' Tryz.isAgg9)<|Nf (ls' Tryz.underlying9)<|Nf gt'<|Cq pf'<|Cq mv'<|Of<|Of<|Of<|Ou<|Ou<|Ou<|Ou<|Ou<|Ou<|Ou<|Ou<|Ou<|Ou<|Ou<|Ou<|Of<|Cq pt' ?_
     refine dc_nil ⟨by kernel_rfl, ?_⟩
     exact ⟨rfl, ⟨_, rfl, by rfl⟩, rfl, rfl, rfl⟩
    refine awp_drawc follows ?_
    refine Cq mv'<|Cq mv'<|Cq (xp' so34)<|Cq (fp' fo67_0)<|Cq (lp' Tryz.isAgg9)<|Cq (by exact opr_call rfl rfl Tryz.call43 rfl (rName_c t.key _ hkt.1))<|Cq no'<|Cq mv'<|Nf mv'<|Nf mv'<|Nf (xp' so34)<|Nf (fp' fo67_1)<|Nf (lp' Tryz.isAgg9)<|Nf (ls' Tryz.underlying9)<|Nf lss'<|Cq pf'<|Cq mv'<|Of<|Of<|Of<|Of<|Of<|Of<|Of<|Cq pt'<|Cq mv'<|Of<|Of<|Of<|Ou<|Ou<|Ou<|Ou<|Ou<|Ou<|Ou<|Ou<|Ou<|Ou<|Ou<|Ou<|Of<|Cq pk' ?_
    refine dc_nil ⟨by kernel_rfl, ?_⟩
    exact ⟨rfl, ⟨_, rfl, by rfl⟩, rfl, rfl, rfl⟩
   refine awp_drawc follows ?_
   refine Cq mv'<|Cq mv'<|Cq (xp' so34)<|Cq (fp' fo67_0)<|Cq (lp' Tryz.isAgg9)<|Cq (by exact opr_call rfl rfl Tryz.call43 rfl (rName_c t.key _ hkt.1))<|Cq no'<|Cq mv'<|Of<|Of<|Of<|Of<|Of<|Of<|Of<|Cq pt'<|Cq mv'<|Of<|Of<|Of<|Of<|Of<|Of<|Of<|Cq pk'<|Cq mv'<|Of<|Of<|Of<|Ou<|Ou<|Ou<|Ou<|Ou<|Ou<|Ou<|Ou<|Ou<|Ou<|Ou<|Ou<|Of<|Cq pk' ?_
   refine dc_nil ⟨by kernel_rfl, ?_⟩
   exact ⟨rfl, ⟨_, rfl, by rfl⟩, rfl, rfl, rfl⟩
  refine Cn (fun hc3 => ?_) fun hc3 => ?_
  ·rw [hbe] at hc3
   refine Sq<|Rg<|Dd as'<|Zz<|awp_ret ?_
   refine Rt ?_
   exact ⟨by rw [range_some hlt ((badAt_some ht).trans hc3)]; rfl, rfl⟩
  rw [hbe] at hc3
  refine awp_skip<|Rg<|Dd mv'<|Dd ad'<|Dd as'<|Zz ?_
  refine ⟨k + 1, ⟨by omega, fun j hj => ?_⟩, by omega, E0⟩
  by_cases e : j = k
  ·subst e; exact (badAt_some ht).trans hc3
  exact hno j (by omega)
 have hge : k = l.length := by have := of_decide_eq_false hc2; omega
 subst hge
 refine awp_exit<|Sq<|Rg<|Dd as'<|Zz<|awp_ret ?_
 refine Rt ?_
 exact ⟨by rw [range_any hno]; rfl, rfl⟩
def pStep (key val : ByteArray) (s : List GTag × Bool) (t : GTag) : List GTag × Bool :=
 (if !decide (t.key = key) then (if !s.2 && !slt t.key key then s.1 ++ [⟨key, val⟩] else s.1) ++ [t] else (if !s.2 && !slt t.key key then s.1 ++ [⟨key, val⟩] else s.1), s.2 || !slt t.key key)
def pFold (l : List GTag) (key val : ByteArray) : List GTag × Bool := l.foldl (pStep key val) ([], decide (val = sNil))
def rPut09 (l : List GTag) (key val : ByteArray) : List GTag := if (pFold l key val).2 then (pFold l key val).1 else (pFold l key val).1 ++ [⟨key, val⟩]
theorem pFold_snoc {l : List GTag} {i : Nat} {t : GTag} (key val : ByteArray) (h : l[i]? = some t) : pFold (l.take (i + 1)) key val = pStep key val (pFold (l.take i) key val) t := by
 rw [pFold, List.take_add_one, h, List.foldl_append]; rfl
theorem pStep_len (key val : ByteArray) (s : List GTag × Bool) (t : GTag) : (pStep key val s t).1.length ≤ s.1.length + 2 := by
 unfold pStep
 dsimp only
 split <;> split <;> (try simp only [List.length_append, List.length_singleton, List.length_cons, List.length_nil]) <;> omega
theorem pFold_len (l : List GTag) (key val : ByteArray) : (pFold l key val).1.length ≤ 2 * l.length := by
 unfold pFold
 suffices ∀ (l : List GTag) (s : List GTag × Bool), (l.foldl (pStep key val) s).1.length ≤ s.1.length + 2 * l.length by
  have := this l ([], decide (val = sNil))
  simpa using this
 intro l
 induction l with
 | nil => intro s; simp
 | cons t l ih =>
  intro s
  have h1 := ih (pStep key val s t)
  have h2 := pStep_len key val s t
  rw [List.foldl_cons, List.length_cons]
  omega
abbrev tgRows (l : List GTag) : List (List AV) := l.map (fun e => (encTag e).map .pv)
theorem takeT (l : List GTag) {n : Nat} (hn : n = l.length) : ((l.map encTag).take (0 + n)).drop 0 = l.map encTag := by rw [hn, Nat.zero_add, List.drop_zero, ← List.length_map (f := encTag), List.take_length]
theorem Fin.tagsO {H1 : Heap} {id g n : Nat} {ob : Ob} (l : List GTag) (hH : H1.get id = some ob) (hg : ob.g = g) (hps : ob.rows = tgRows l) (hn : n = l.length) :
  Fin [] H1 (.osl id g 0 n) [] (.pv (slTags l)) := by
 subst hg
 exact Fin.fz (id := id) (ob := ob) (l.map encTag) hH (hps.trans (rows_of encTag l)) (.osl (takeT l hn)) rfl trivial trivial
theorem rPut09_c (l : List GTag) (key val : ByteArray) (H : Heap) (hl : l.length < 274877906944) : ACalls Tryz.prog 96 [.pv (slTags l), sv key, sv val] H (fun r H' => r = .pv (slTags (rPut09 l key val)) ∧ H' = H) := by
 refine ACalls.pure ?_ (by simp) H
 have hml : (l.map encTag).length = l.length := List.length_map _
 refine Bd Tryz.func96 rfl Tryz.ntmps96<|Sq<|Rg<|Dd as'<|Zz<|Sq<|Rg<|Dd (by exact opd_assign_own (id := 7) (sz := 2) (ty := 67) rfl rfl rfl)<|Zz<|Sq<|Rg<|Dd mv'<|Dd se'<|Dd as'<|Zz<|Sq<|Sq<|Rg<|Dd as'<|Zz<|awp_block ?_
 refine awp_loop2 (fun (i : Nat) (g : Nat) => ([(0, .pv (slTags l)), (1, sv key), (2, sv val), (7, .osl 7 g 0 (pFold (l.take i) key val).1.length), (8, bv (pFold (l.take i) key val).2), (9, iv (i : Int))], [(7, ⟨g, 2, 67, tgRows (pFold (l.take i) key val).1⟩)])) (fun i g => i ≤ l.length) (fun i g => l.length - i) 0 0 (by omega) ?_ ?_
 ·exact Wk
 rintro i g hi
 have hfl : (pFold (l.take i) key val).1.length ≤ 2 * i := by have := pFold_len (l.take i) key val; rw [List.length_take] at this; omega
 refine Sq<|Sq<|Rg<|Dd mv'<|Dd mv'<|Dd (ll' Tryz.underlying34)<|Dd lss'<|Zz ?_
 refine Cn (fun hc1 => ?_) fun hc1 => ?_
 ·have hil : i < l.length := by have := of_decide_eq_true hc1; omega
  obtain ⟨t, ht⟩ := get_of_lt hil
  have hi1 := map_get (f := encTag) ht
  have hsn := pFold_snoc key val ht
  obtain ⟨s, hs⟩ : ∃ s, s = pFold (l.take i) key val := ⟨_, rfl⟩
  rw [← hs] at hsn hfl ⊢
  obtain ⟨out, done⟩ := s
  simp only at hfl
  dsimp only
  clear hs
  unfold pStep at hsn
  simp only at hsn
  cases hd : (!done && !slt t.key key)
  ·simp only [hd, Bool.false_eq_true, if_false] at hsn
   have hdd : (done || !slt t.key key) = done := by
    cases done
    ·cases h : slt t.key key
     ·rw [h] at hd; cases hd
     rfl
    rfl
   rw [hdd] at hsn
   refine awp_skip<|Sq<|awp_block<|Sq<|Sq ?_
   refine awp_bool (t := 28) (n := 12) (X := !done && !slt t.key key) ?_ ?_
   ·all_goals refine Dd mv' ?_
    all_goals refine Dd no' ?_
    all_goals refine Dd mv' ?_
    all_goals refine Sp 20 (fun h20 => ?_) fun h20 => ?_
    all_goals try contradiction
    all_goals first | refine Fo ?_ | refine On mv' ?_
    all_goals first | refine Fo ?_ | refine On mv' ?_
    all_goals first | refine Fo ?_ | refine On (by exact x_index_pad rfl so34 rfl rfl (by omega) (by exact Int.toNat_natCast _) hi1 rfl) ?_
    all_goals first | refine Fo ?_ | refine On (fp' fo67_0) ?_
    all_goals first | refine Fo ?_ | refine On (lp' Tryz.isAgg9 (hi := hi1)) ?_
    all_goals first | refine Fo ?_ | refine On mv' ?_
    all_goals first | refine Fo ?_ | refine On (by exact opd_sgeq rfl rfl rfl) ?_
    all_goals refine Dd pk' ?_
    all_goals refine al_nil ?_
    all_goals (exact ⟨⟨_, rfl, by (simp only [*, Zo]; done)⟩, rfl, rfl, rfl⟩)
   refine Cn (fun hc2 => ?_) fun hc2 => ?_
   ·rw [hd] at hc2; cases hc2
   skip
   refine awp_skip<|Sq<|Rg<|Dd mv'<|Dd mv'<|Dd (by exact x_index_pad rfl so34 rfl rfl (by omega) (by exact Int.toNat_natCast _) hi1 rfl)<|Dd (fp' fo67_0)<|Dd (lp' Tryz.isAgg9 (hi := hi1))<|Dd mv'<|Dd sn'<|Zz ?_
   refine Cn (fun hc3 => ?_) fun hc3 => ?_
   ·rw [hc3, if_pos rfl] at hsn
    refine Rg<|Dd mv'<|Dd mv'<|Dd mv'<|Dd (by exact x_index_pad rfl so34 rfl rfl (by omega) (by exact Int.toNat_natCast _) hi1 rfl)<|Dd (by exact opd_loadn_pad rfl Tryz.isAgg67 Tryz.sizeOf67 rfl hi1 (by simp only [Zl, encTag, encObj, encStr, encEdit, encInt]; rfl) rfl)<|Dd (by exact x_buildSlice [encTag t] rfl so34 rfl rfl rfl rfl rfl (by simp [encTag]))<|Dd (by exact x_append rfl so34 ei67 rfl rfl rfl rfl rfl (List.length_map _) rfl (by simp [encTag]) (rfl : _ = 1) (by omega) (len_snoc out t) (List.map_append (l₂ := [t])).symm)<|Dd as'<|Zz<|Rg<|Dd mv'<|Dd ad'<|Dd as'<|Zz ?_
    refine ⟨i + 1, g + 1, by omega, by omega, ?_⟩
    rw [hsn]
    exact (Ent.wk ⟨⟨_, rfl, rfl⟩, (by (simp; done)), ⟨_, rfl, rfl⟩, (by (simp; done)), ⟨_, rfl, rfl⟩, (by (simp; done)), ⟨_, rfl, rfl⟩, (by (simp; rfl)), ⟨_, rfl, rfl⟩, (by (simp; done)), ⟨_, rfl, rfl⟩, (by (simp; done)), trivial⟩ ⟨⟨_, rfl, rfl⟩, (by exact clo_map _ _ _), trivial⟩ trivial)
   rw [hc3, if_neg (by simp)] at hsn
   refine awp_skip<|Rg<|Dd mv'<|Dd ad'<|Dd as'<|Zz ?_
   refine ⟨i + 1, g, by omega, by omega, ?_⟩
   rw [hsn]
   exact Wk
  simp only [hd, if_true] at hsn
  have hdd : (done || !slt t.key key) = true := by
   rw [Bool.and_eq_true] at hd
   rw [hd.2, Bool.or_true]
  rw [hdd] at hsn
  have hol : (out ++ [(⟨key, val⟩ : GTag)]).length = out.length + 1 := by simp
  refine awp_skip<|Sq<|awp_block<|Sq<|Sq ?_
  refine awp_bool (t := 28) (n := 12) (X := !done && !slt t.key key) ?_ ?_
  ·all_goals refine Dd mv' ?_
   all_goals refine Dd no' ?_
   all_goals refine Dd mv' ?_
   all_goals refine Sp 20 (fun h20 => ?_) fun h20 => ?_
   all_goals try contradiction
   all_goals first | refine Fo ?_ | refine On mv' ?_
   all_goals first | refine Fo ?_ | refine On mv' ?_
   all_goals first | refine Fo ?_ | refine On (by exact x_index_pad rfl so34 rfl rfl (by omega) (by exact Int.toNat_natCast _) hi1 rfl) ?_
   all_goals first | refine Fo ?_ | refine On (fp' fo67_0) ?_
   all_goals first | refine Fo ?_ | refine On (lp' Tryz.isAgg9 (hi := hi1)) ?_
   all_goals first | refine Fo ?_ | refine On mv' ?_
   all_goals first | refine Fo ?_ | refine On (by exact opd_sgeq rfl rfl rfl) ?_
   all_goals refine Dd pk' ?_
   all_goals refine al_nil ?_
   all_goals (exact ⟨⟨_, rfl, by (simp only [*, Zo]; done)⟩, rfl, rfl, rfl⟩)
  refine Cn (fun hc4 => ?_) fun hc4 => ?_
  ·skip
   refine Sq<|Rg<|Dd mv'<|Dd mv'<|Dd mv'<|Dd (bu' bo67)<|Dd (by exact x_buildSlice [encTag ⟨key, val⟩] rfl so34 rfl rfl rfl rfl rfl (by simp [encTag]))<|Dd (by exact x_append rfl so34 ei67 rfl rfl rfl rfl rfl (List.length_map _) rfl (by simp [encTag]) (rfl : _ = 1) (by omega) (len_snoc out (⟨key, val⟩ : GTag)) (List.map_append (l₂ := [(⟨key, val⟩ : GTag)])).symm)<|Dd as'<|Zz<|Rg<|Dd as'<|Zz<|Sq<|Rg<|Dd mv'<|Dd mv'<|Dd (by exact x_index_pad rfl so34 rfl rfl (by omega) (by exact Int.toNat_natCast _) hi1 rfl)<|Dd (fp' fo67_0)<|Dd (lp' Tryz.isAgg9 (hi := hi1))<|Dd mv'<|Dd sn'<|Zz ?_
   refine Cn (fun hc5 => ?_) fun hc5 => ?_
   ·rw [hc5, if_pos rfl] at hsn
    refine Rg<|Dd mv'<|Dd mv'<|Dd mv'<|Dd (by exact x_index_pad rfl so34 rfl rfl (by omega) (by exact Int.toNat_natCast _) hi1 rfl)<|Dd (by exact opd_loadn_pad rfl Tryz.isAgg67 Tryz.sizeOf67 rfl hi1 (by simp only [Zl, encTag, encObj, encStr, encEdit, encInt]; rfl) rfl)<|Dd (by exact x_buildSlice [encTag t] rfl so34 rfl rfl rfl rfl rfl (by simp [encTag]))<|Dd (by exact x_append rfl so34 ei67 rfl rfl rfl rfl rfl (List.length_map _) rfl (by simp [encTag]) (rfl : _ = 1) (by omega) (len_snoc (out ++ [(⟨key, val⟩ : GTag)]) t) (List.map_append (l₂ := [t])).symm)<|Dd as'<|Zz<|Rg<|Dd mv'<|Dd ad'<|Dd as'<|Zz ?_
    refine ⟨i + 1, g + 2, by omega, by omega, ?_⟩
    rw [hsn]
    exact (Ent.wk ⟨⟨_, rfl, rfl⟩, (by (simp; done)), ⟨_, rfl, rfl⟩, (by (simp; done)), ⟨_, rfl, rfl⟩, (by (simp; done)), ⟨_, rfl, rfl⟩, (by (simp; rfl)), ⟨_, rfl, rfl⟩, (by (simp; done)), ⟨_, rfl, rfl⟩, (by (simp; done)), trivial⟩ ⟨⟨_, rfl, rfl⟩, (by exact clo_map _ _ _), trivial⟩ trivial)
   rw [hc5, if_neg (by simp)] at hsn
   refine awp_skip<|Rg<|Dd mv'<|Dd ad'<|Dd as'<|Zz ?_
   refine ⟨i + 1, g + 1, by omega, by omega, ?_⟩
   rw [hsn]
   exact (Ent.wk ⟨⟨_, rfl, rfl⟩, (by (simp; done)), ⟨_, rfl, rfl⟩, (by (simp; done)), ⟨_, rfl, rfl⟩, (by (simp; done)), ⟨_, rfl, rfl⟩, (by (simp; rfl)), ⟨_, rfl, rfl⟩, (by (simp; done)), ⟨_, rfl, rfl⟩, (by (simp; done)), trivial⟩ ⟨⟨_, rfl, rfl⟩, (by exact clo_map _ _ _), trivial⟩ trivial)
  skip
  (rw [hd] at hc4; cases hc4)
 have hge : i = l.length := by have := of_decide_eq_false hc1; omega
 subst hge
 rw [List.take_length] at hfl ⊢
 have hr : rPut09 l key val = if (pFold l key val).2 then (pFold l key val).1 else (pFold l key val).1 ++ [⟨key, val⟩] := rfl
 obtain ⟨s, hs⟩ : ∃ s, s = pFold l key val := ⟨_, rfl⟩
 rw [← hs] at hfl hr ⊢
 obtain ⟨out, done⟩ := s
 simp only at hfl hr
 dsimp only
 rw [hr]
 refine awp_exit<|Sq<|Sq<|Rg<|Dd mv'<|Dd no'<|Zz ?_
 refine Cn (fun hc6 => ?_) fun hc6 => ?_
 ·have hdn : done = false := by
   have h := hc6
   simpa using h
  rw [hdn, if_neg (by decide)]
  refine Rg<|Dd mv'<|Dd mv'<|Dd mv'<|Dd (bu' bo67)<|Dd (by exact x_buildSlice [encTag ⟨key, val⟩] rfl so34 rfl rfl rfl rfl rfl (by simp [encTag]))<|Dd (by exact x_append rfl so34 ei67 rfl rfl rfl rfl rfl (List.length_map _) rfl (by simp [encTag]) (rfl : _ = 1) (by omega) (len_snoc out (⟨key, val⟩ : GTag)) (List.map_append (l₂ := [(⟨key, val⟩ : GTag)])).symm)<|Dd as'<|Zz<|Sq<|Rg<|Dd mv'<|Dd as'<|Zz<|awp_ret ?_
  refine aret1 (H' := []) (.inr rfl) rfl (rval_tmp rfl) (Fin.tagsO (id := 7) (out ++ [⟨key, val⟩]) rfl rfl rfl rfl) ?_
  exact ⟨rfl, rfl⟩
 have hdn : done = true := by
  have h := hc6
  simpa using h
 rw [hdn, if_pos rfl]
 refine awp_skip<|Sq<|Rg<|Dd mv'<|Dd as'<|Zz<|awp_ret ?_
 refine aret1 (H' := []) (.inr rfl) rfl (rval_tmp rfl) (Fin.tagsO (id := 7) out rfl rfl rfl rfl) ?_
 exact ⟨rfl, rfl⟩
def rSet09 (l : List GTag) (key val : ByteArray) : List GTag × Int :=
 if !gTags l || !gName key || decide (200 < (val.size : Int)) then ([], 1) else if decide (60 < ((rPut09 l key val).length : Int)) then ([], 2) else (rPut09 l key val, 0)
theorem rSet09_c (l : List GTag) (key val : ByteArray) (H : Heap) (hl : okTags l) (hl2 : l.length < 274877906944) (hk : key.size < 4611686018427387904) :
  ACalls Tryz.prog 59 [.pv (slTags l), sv key, sv val] H (fun r H' => r = .tup [.pv (slTags (rSet09 l key val).1), iv (rSet09 l key val).2] ∧ H' = H) := by
 refine ACalls.pure ?_ (by simp) H
 have hpl : ((rPut09 l key val).map encTag).length = (rPut09 l key val).length := List.length_map _
 unfold rSet09
 refine Bd Tryz.func59 rfl Tryz.ntmps59<|Sq<|Rg<|Dd as'<|Dd as'<|Zz<|Sq<|Sq ?_
 refine awp_bool (t := 21) (n := 15) (X := !gTags l || !gName key || decide (200 < (val.size : Int))) ?_ ?_
 ·all_goals refine Dd mv' ?_
  all_goals refine Dd (by exact opr_call rfl rfl Tryz.call95 rfl (rValid09_c l _ hl)) ?_
  all_goals refine Dd no' ?_
  all_goals refine Dd mv' ?_
  all_goals refine Sp 12 (fun h12 => ?_) fun h12 => ?_
  all_goals try contradiction
  all_goals first | refine Fo ?_ | refine On mv' ?_
  all_goals first | refine Fo ?_ | refine On (by exact opr_call rfl rfl Tryz.call43 rfl (rName_c key _ hk)) ?_
  all_goals first | refine Fo ?_ | refine On no' ?_
  all_goals refine Dd pk' ?_
  all_goals refine Dd mv' ?_
  all_goals refine Sp 17 (fun h17 => ?_) fun h17 => ?_
  all_goals try contradiction
  all_goals first | refine Fo ?_ | refine On mv' ?_
  all_goals first | refine Fo ?_ | refine On (ls' Tryz.underlying9) ?_
  all_goals first | refine Fo ?_ | refine On gt' ?_
  all_goals refine Dd pk' ?_
  all_goals refine al_nil ?_
  all_goals (exact ⟨⟨_, rfl, by (simp only [*, Zo]; done)⟩, rfl, rfl, rfl⟩)
 refine Cn (fun hc1 => ?_) fun hc1 => ?_
 ·rw [if_pos hc1]
  refine Sq<|Rg<|Dd as'<|Dd as'<|Zz<|awp_ret ?_
  refine Ru ?_
  exact ⟨rfl, rfl⟩
 rw [if_neg (by rw [hc1]; decide)]
 refine awp_skip<|Sq<|Rg<|Dd mv'<|Dd mv'<|Dd mv'<|Dd (by exact opr_call rfl rfl Tryz.call96 rfl (rPut09_c l key val _ hl2))<|Dd as'<|Zz<|Sq<|Sq<|Rg<|Dd mv'<|Dd (ll' Tryz.underlying34)<|Dd gt'<|Zz ?_
 refine Cn (fun hc2 => ?_) fun hc2 => ?_
 ·have h := hc2
  rw [hpl] at h
  rw [if_pos h]
  refine Sq<|Rg<|Dd as'<|Dd as'<|Zz<|awp_ret ?_
  refine Ru ?_
  exact ⟨rfl, rfl⟩
 have h := hc2
 rw [hpl] at h
 rw [if_neg (by rw [h]; decide)]
 refine awp_skip<|Sq<|Rg<|Dd mv'<|Dd as'<|Dd as'<|Zz<|awp_ret ?_
 refine Ru ?_
 exact ⟨rfl, rfl⟩
/-! ### The same as the program's -/
theorem pf_low {key val : ByteArray} : ∀ {l : List GTag} {out : List GTag} {d : Bool}, (∀ t, t ∈ l → slt t.key key = true) → l.foldl (pStep key val) (out, d) = (out ++ l, d)
 | [], out, d, _ => by simp
 | t :: l, out, d, h => by
  have h1 := h t List.mem_cons_self
  have h2 : ¬ t.key = key := fun e => by rw [e, slt_irr] at h1; cases h1
  have hs : pStep key val (out, d) t = (out ++ [t], d) := by
   unfold pStep
   rw [decide_eq_false h2, h1]
   simp
  rw [List.foldl_cons, hs, pf_low fun x hx => h x (List.mem_cons_of_mem _ hx), List.append_assoc]
  rfl
theorem pf_done {key val : ByteArray} : ∀ {l : List GTag} {out : List GTag}, (∀ t, t ∈ l → t.key ≠ key) → l.foldl (pStep key val) (out, true) = (out ++ l, true)
 | [], out, _ => by simp
 | t :: l, out, h => by
  have hs : pStep key val (out, true) t = (out ++ [t], true) := by
   unfold pStep
   rw [decide_eq_false (h t List.mem_cons_self)]
   simp
  rw [List.foldl_cons, hs, pf_done fun x hx => h x (List.mem_cons_of_mem _ hx), List.append_assoc]
  rfl
theorem pf_first {key val : ByteArray} {t : GTag} {out : List GTag} {d : Bool} (h1 : slt t.key key = false) :
  pStep key val (out, d) t = ((if d then out else out ++ [⟨key, val⟩]) ++ (if t.key = key then [] else [t]), true) := by
 unfold pStep
 rw [h1]
 by_cases e : t.key = key
 ·rw [decide_eq_true e, if_pos e]; cases d <;> simp
 rw [decide_eq_false e, if_neg e]; cases d <;> simp
theorem put09_eq {l : List GTag} {key val : ByteArray} (ha : asc GTag.key l) :
  rPut09 l key val = if hasK GTag.key l key = true then (if val = sNil then l.take (lbI GTag.key l key) ++ l.drop (lbI GTag.key l key + 1) else l.set (lbI GTag.key l key) ⟨key, val⟩) else if val = sNil then l else l.take (lbI GTag.key l key) ++ ⟨key, val⟩ :: l.drop (lbI GTag.key l key) := by
 obtain ⟨n, hn⟩ : ∃ n, n = lbI GTag.key l key := ⟨_, rfl⟩
 have hle : n ≤ l.length := by rw [hn]; exact lbI_le _ _ _
 have hlow : ∀ t, t ∈ l.take n → slt t.key key = true := fun t ht => by
  obtain ⟨j, hj⟩ := List.mem_iff_getElem?.1 ht
  rw [List.getElem?_take] at hj
  split at hj
  ·next hjn => exact lbI_lt (by rw [← hn]; exact hjn) hj
  cases hj
 have hhigh : ∀ (j : Nat) (t : GTag), (l.drop n)[j]? = some t → slt t.key key = false := fun j t hj => by
  rw [List.getElem?_drop] at hj
  exact lbI_ge ha (by rw [← hn]; omega) hj
 have hcut : l = l.take n ++ l.drop n := (List.take_append_drop n l).symm
 have hfold : pFold l key val = (l.drop n).foldl (pStep key val) (l.take n, decide (val = sNil)) := by
  unfold pFold
  conv => lhs; rw [hcut]
  rw [List.foldl_append, pf_low hlow]
  rfl
 rw [← hn]
 cases hd : l.drop n with
 | nil =>
  have hK : hasK GTag.key l key = false := by
   cases h : hasK GTag.key l key with
   | false => rfl
   | true =>
    obtain ⟨y, hy, hye⟩ := hasK_get (f := GTag.key) ha h
    rw [← hn] at hy
    have := (List.getElem?_eq_some_iff.1 hy).1
    have h2 := congrArg List.length hd
    rw [List.length_drop, List.length_nil] at h2
    omega
  have htk : l.take n = l := by
   have h2 := congrArg List.length hd
   rw [List.length_drop, List.length_nil] at h2
   exact List.take_of_length_le (by omega)
  rw [hd, htk] at hfold
  rw [hK, if_neg (by decide), rPut09, hfold, htk]
  show (if decide (val = sNil) = true then l else l ++ [⟨key, val⟩]) = _
  by_cases hv : val = sNil
  ·rw [if_pos (decide_eq_true hv), if_pos hv]
  rw [if_neg (by simpa using hv), if_neg hv]
 | cons y r =>
  have hy0 : l[n]? = some y := by
   have : (l.drop n)[0]? = some y := by rw [hd]; rfl
   rwa [List.getElem?_drop, Nat.add_zero] at this
  have hr : l.drop (n + 1) = r := by
   rw [← List.drop_drop, hd]; rfl
  have hys := hhigh 0 y (by rw [hd]; rfl)
  have hrne : ∀ t, t ∈ r → t.key ≠ key := fun t ht e => by
   obtain ⟨j, hj⟩ := List.mem_iff_getElem?.1 ht
   have h1 : l[n + 1 + j]? = some t := by rw [← hr, List.getElem?_drop] at hj; exact hj
   have h2 := asc_get (f := GTag.key) ha (by omega : n < n + 1 + j) hy0 h1
   rw [e, hys] at h2
   cases h2
  rw [hd, List.foldl_cons, pf_first hys, pf_done hrne] at hfold
  rw [rPut09, hfold]
  show (if true = true then ((if decide (val = sNil) = true then l.take n else l.take n ++ [⟨key, val⟩]) ++ (if y.key = key then [] else [y])) ++ r else _) = _
  rw [if_pos rfl]
  have hset : ∀ z, l.set n z = l.take n ++ z :: r := fun z => by rw [set_cut hy0, hr]
  have hdr : l.drop n = y :: r := hd
  by_cases hk : hasK GTag.key l key = true
  ·rw [if_pos hk]
   obtain ⟨z, hz, hze⟩ := hasK_get (f := GTag.key) ha hk
   rw [← hn, hy0] at hz
   cases hz
   rw [if_pos hze, hr, hset]
   by_cases hv : val = sNil
   ·rw [if_pos (decide_eq_true hv), if_pos hv]; simp
   rw [if_neg (by simpa using hv), if_neg hv]; simp
  rw [if_neg hk]
  have hyk : ¬ y.key = key := fun e => hk (List.any_eq_true.2 ⟨y, List.mem_of_getElem? hy0, decide_eq_true e⟩)
  rw [if_neg hyk]
  by_cases hv : val = sNil
  ·rw [if_pos (decide_eq_true hv), if_pos hv]
   conv => rhs; rw [hcut, hdr]
   simp
  rw [if_neg (by simpa using hv), if_neg hv]; simp
theorem set09_eq (l : List GTag) (key val : ByteArray) : rSet09 l key val = gSet l key val := by
 unfold rSet09 gSet
 by_cases h1 : (!gTags l || !gName key || decide (200 < (val.size : Int))) = true
 ·rw [if_pos h1, if_pos h1]
 rw [if_neg h1, if_neg h1]
 have h1' := h1
 simp only [Bool.or_eq_true, not_or, Bool.not_eq_true', Bool.not_eq_false, decide_eq_true_eq] at h1'
 obtain ⟨⟨hg, _⟩, _⟩ := h1'
 obtain ⟨_, g2, g3⟩ := gTags_iff.1 hg
 rw [put09_eq g2]
 have hle := lbI_le GTag.key l key
 by_cases hk : hasK GTag.key l key = true
 ·rw [if_pos hk, if_pos hk]
  by_cases hv : val = sNil
  ·rw [if_pos hv, if_pos hv, if_neg]
   rw [decide_eq_true_eq, List.length_append, List.length_take, List.length_drop]
   omega
  rw [if_neg hv, if_neg hv, if_neg]
  rw [decide_eq_true_eq, List.length_set]
  omega
 rw [if_neg hk, if_neg hk]
 by_cases hv : val = sNil
 ·rw [if_pos hv, if_pos hv, if_neg]
  rw [decide_eq_true_eq]
  omega
 rw [if_neg hv, if_neg hv]
 have hlen : (l.take (lbI GTag.key l key) ++ (⟨key, val⟩ : GTag) :: l.drop (lbI GTag.key l key)).length = l.length + 1 := by
  rw [List.length_append, List.length_cons, List.length_take, List.length_drop]
  omega
 by_cases h60 : l.length = 60
 ·rw [if_pos h60, if_pos]
  rw [decide_eq_true_eq, hlen]
  omega
 rw [if_neg h60, if_neg]
 rw [decide_eq_true_eq, hlen]
 omega
theorem rSet_c (l : List GTag) (key val : ByteArray) (H : Heap) (hl : okTags l) (hl2 : l.length < 274877906944) (hk : key.size < 4611686018427387904) :
  ACalls Tryz.prog 59 [.pv (slTags l), sv key, sv val] H (fun r H' => r = .tup [.pv (slTags (gSet l key val).1), iv (gSet l key val).2] ∧ H' = H) := by
 rw [← set09_eq]
 exact rSet09_c l key val H hl hl2 hk
end Go.Proofs.YtbbnllojhjlaoaaGreat
end
section
set_option linter.unusedVariables false
set_option linter.unusedSimpArgs false
set_option maxRecDepth 100000
namespace Go.Proofs.YtbbnllojhjlaoaaGreat
open Go.Abs
def sndBad (m : List GObj) (snd : GObj → Bool) (kind : Int) (i : Nat) (s : ByteArray) : Bool := match m.find? (idIs s) with
  | none => true
  | some ob => !decide (ob.kind = gWanted kind (i : Int)) || !snd ob
def sndL (m : List GObj) (snd : GObj → Bool) (kind : Int) : Nat → List ByteArray → Bool
  | _, [] => true
  | i, s :: r => !sndBad m snd kind i s && sndL m snd kind (i + 1) r
def gSnd (m : List GObj) : Nat → GObj → Bool
  | 0, _ => true
  | n + 1, o => sndL m (gSnd m n) o.kind 0 o.refs
/-- Nodes, ways and areas, routes and turns. -/
def lev (k : Int) : Nat := if k = 1 then 0 else if k = 4 ∨ k = 5 then 2 else 1
end Go.Proofs.YtbbnllojhjlaoaaGreat
end
section
set_option linter.unusedVariables false
set_option linter.unusedSimpArgs false
set_option maxRecDepth 100000
namespace Go.Proofs.YtbbnllojhjlaoaaGreat
open Go.Abs
def rb (b : GEdit) : Bool := ((((((!decide (b.id = sNil) || !decide (b.other = sNil)) || !decide (b.node = sNil)) || !(decide (b.x = 0) && decide (b.y = 0))) || !decide (b.key = sNil)) || !decide (b.val = sNil)) || decide ((0 : Int) < ((b.refs.map encStr).length : Int))) || !gSameO b.obj zObj
theorem rb_iff (b : GEdit) : rb b = false ↔ (b.id = sNil ∧ b.other = sNil ∧ b.node = sNil ∧ (b.x = 0 ∧ b.y = 0) ∧ b.key = sNil ∧ b.val = sNil ∧ b.refs = [] ∧ b.obj = zObj) := by
  have hr : decide ((0 : Int) < ((b.refs.map encStr).length : Int)) = false ↔ b.refs = [] := by
    rw [decide_eq_false_iff_not, List.length_map]
    constructor
    · intro h; exact List.eq_nil_of_length_eq_zero (by omega)
    · intro h; rw [h]; simp
  simp only [rb, Bool.or_eq_false_iff, Bool.not_eq_false', Bool.and_eq_true, decide_eq_true_eq, hr, gSameO_iff]
  constructor
  · rintro ⟨⟨⟨⟨⟨⟨⟨a, b⟩, c⟩, d⟩, e⟩, f⟩, g⟩, i⟩; exact ⟨a, b, c, d, e, f, g, i⟩
  · rintro ⟨a, b, c, d, e, f, g, i⟩; exact ⟨⟨⟨⟨⟨⟨⟨a, b⟩, c⟩, d⟩, e⟩, f⟩, g⟩, i⟩
theorem onP_eq (x y : Int) : onP x y = gOn x y := by
  rw [Bool.eq_iff_iff]
  simp only [onP, gOn, Bool.and_eq_true, decide_eq_true_eq]
  omega
theorem nil_size : (sNil.size : Int) ≤ 200 := by decide
def bare1 (e : GEdit) : GEdit := ⟨e.op, e.id, e.other, e.node, e.x, e.y, e.key, e.val, e.refs, zObj⟩
theorem ed1 (e : GEdit) (ho : e.op = 1) : gEditV e = (!rb (bare1 e) && gObj e.obj) := by
  obtain ⟨op, id, other, node, x, y, key, val, refs, obj⟩ := e
  simp only at ho
  subst ho
  have hb := rb_iff (bare1 ⟨1, id, other, node, x, y, key, val, refs, obj⟩)
  rw [Bool.eq_iff_iff]
  simp only [bare1] at hb ⊢
  simp only [gEditV, Bool.and_eq_true, Bool.not_eq_true', hb, gSameE_iff, onP_eq, okOf, xOf]
  simp only [Int.reduceEq, if_true, if_false, reduceIte, Int.reduceLE, decide_true, GEdit.mk.injEq, true_and, and_true, List.all_cons, List.all_nil, Bool.and_true, Bool.and_eq_true, onP_eq, decide_eq_true_eq, Bool.not_eq_true', Bool.or_eq_false_iff, decide_eq_false_iff_not, List.length_map, eq_comm (a := sNil), eq_comm (a := (0 : Int)), eq_comm (a := zObj), eq_comm (a := ([] : List ByteArray))]
  constructor
  · intro h
    have hs := nil_size
    simp_all
    try omega
  · intro h
    simp_all
    try omega
def bare2 (e : GEdit) : GEdit := ⟨e.op, sNil, e.other, e.node, 0, 0, e.key, e.val, e.refs, e.obj⟩
theorem ed2 (e : GEdit) (ho : e.op = 2) : gEditV e = (!rb (bare2 e) && ([e.id].all gName && (decide ((e.val.size : Int) ≤ 200) && gOn e.x e.y))) := by
  obtain ⟨op, id, other, node, x, y, key, val, refs, obj⟩ := e
  simp only at ho
  subst ho
  have hb := rb_iff (bare2 ⟨2, id, other, node, x, y, key, val, refs, obj⟩)
  rw [Bool.eq_iff_iff]
  simp only [bare2] at hb ⊢
  simp only [gEditV, Bool.and_eq_true, Bool.not_eq_true', hb, gSameE_iff, onP_eq, okOf, xOf]
  simp only [Int.reduceEq, if_true, if_false, reduceIte, Int.reduceLE, decide_true, GEdit.mk.injEq, true_and, and_true, List.all_cons, List.all_nil, Bool.and_true, Bool.and_eq_true, onP_eq, decide_eq_true_eq, Bool.not_eq_true', Bool.or_eq_false_iff, decide_eq_false_iff_not, List.length_map, eq_comm (a := sNil), eq_comm (a := (0 : Int)), eq_comm (a := zObj), eq_comm (a := ([] : List ByteArray))]
  constructor
  · intro h
    have hs := nil_size
    simp_all
    try omega
  · intro h
    simp_all
    try omega
def bare3 (e : GEdit) : GEdit := ⟨e.op, sNil, e.other, e.node, e.x, e.y, sNil, sNil, e.refs, e.obj⟩
theorem ed3 (e : GEdit) (ho : e.op = 3) : gEditV e = (!rb (bare3 e) && ([e.id, e.key].all gName && decide ((e.val.size : Int) ≤ 200))) := by
  obtain ⟨op, id, other, node, x, y, key, val, refs, obj⟩ := e
  simp only at ho
  subst ho
  have hb := rb_iff (bare3 ⟨3, id, other, node, x, y, key, val, refs, obj⟩)
  rw [Bool.eq_iff_iff]
  simp only [bare3] at hb ⊢
  simp only [gEditV, Bool.and_eq_true, Bool.not_eq_true', hb, gSameE_iff, onP_eq, okOf, xOf]
  simp only [Int.reduceEq, if_true, if_false, reduceIte, Int.reduceLE, decide_true, GEdit.mk.injEq, true_and, and_true, List.all_cons, List.all_nil, Bool.and_true, Bool.and_eq_true, onP_eq, decide_eq_true_eq, Bool.not_eq_true', Bool.or_eq_false_iff, decide_eq_false_iff_not, List.length_map, eq_comm (a := sNil), eq_comm (a := (0 : Int)), eq_comm (a := zObj), eq_comm (a := ([] : List ByteArray))]
  constructor
  · intro h
    have hs := nil_size
    simp_all
    try omega
  · intro h
    simp_all
    try omega
def bare4 (e : GEdit) : GEdit := ⟨e.op, sNil, e.other, e.node, e.x, e.y, e.key, e.val, [], e.obj⟩
theorem ed4 (e : GEdit) (ho : e.op = 4) : gEditV e = (!rb (bare4 e) && ((e.id :: e.refs).all gName && (!(decide (((e.refs.map encStr).length : Int) < 1) || decide (2000 < ((e.refs.map encStr).length : Int))) && decide ((e.val.size : Int) ≤ 200)))) := by
  obtain ⟨op, id, other, node, x, y, key, val, refs, obj⟩ := e
  simp only at ho
  subst ho
  have hb := rb_iff (bare4 ⟨4, id, other, node, x, y, key, val, refs, obj⟩)
  rw [Bool.eq_iff_iff]
  simp only [bare4] at hb ⊢
  simp only [gEditV, Bool.and_eq_true, Bool.not_eq_true', hb, gSameE_iff, onP_eq, okOf, xOf]
  simp only [Int.reduceEq, if_true, if_false, reduceIte, Int.reduceLE, decide_true, GEdit.mk.injEq, true_and, and_true, List.all_cons, List.all_nil, Bool.and_true, Bool.and_eq_true, onP_eq, decide_eq_true_eq, Bool.not_eq_true', Bool.or_eq_false_iff, decide_eq_false_iff_not, List.length_map, eq_comm (a := sNil), eq_comm (a := (0 : Int)), eq_comm (a := zObj), eq_comm (a := ([] : List ByteArray))]
  constructor
  · intro h
    have hs := nil_size
    simp_all
    try omega
  · intro h
    simp_all
    try omega
def bare5 (e : GEdit) : GEdit := ⟨e.op, sNil, e.other, e.node, e.x, e.y, e.key, e.val, e.refs, e.obj⟩
theorem ed5 (e : GEdit) (ho : e.op = 5) : gEditV e = (!rb (bare5 e) && ([e.id].all gName && decide ((e.val.size : Int) ≤ 200))) := by
  obtain ⟨op, id, other, node, x, y, key, val, refs, obj⟩ := e
  simp only at ho
  subst ho
  have hb := rb_iff (bare5 ⟨5, id, other, node, x, y, key, val, refs, obj⟩)
  rw [Bool.eq_iff_iff]
  simp only [bare5] at hb ⊢
  simp only [gEditV, Bool.and_eq_true, Bool.not_eq_true', hb, gSameE_iff, onP_eq, okOf, xOf]
  simp only [Int.reduceEq, if_true, if_false, reduceIte, Int.reduceLE, decide_true, GEdit.mk.injEq, true_and, and_true, List.all_cons, List.all_nil, Bool.and_true, Bool.and_eq_true, onP_eq, decide_eq_true_eq, Bool.not_eq_true', Bool.or_eq_false_iff, decide_eq_false_iff_not, List.length_map, eq_comm (a := sNil), eq_comm (a := (0 : Int)), eq_comm (a := zObj), eq_comm (a := ([] : List ByteArray))]
  constructor
  · intro h
    have hs := nil_size
    simp_all
    try omega
  · intro h
    simp_all
    try omega
def bare6 (e : GEdit) : GEdit := ⟨e.op, sNil, sNil, sNil, e.x, e.y, e.key, e.val, e.refs, e.obj⟩
theorem ed6 (e : GEdit) (ho : e.op = 6) : gEditV e = (!rb (bare6 e) && ([e.id, e.node, e.other].all gName && decide ((e.val.size : Int) ≤ 200))) := by
  obtain ⟨op, id, other, node, x, y, key, val, refs, obj⟩ := e
  simp only at ho
  subst ho
  have hb := rb_iff (bare6 ⟨6, id, other, node, x, y, key, val, refs, obj⟩)
  rw [Bool.eq_iff_iff]
  simp only [bare6] at hb ⊢
  simp only [gEditV, Bool.and_eq_true, Bool.not_eq_true', hb, gSameE_iff, onP_eq, okOf, xOf]
  simp only [Int.reduceEq, if_true, if_false, reduceIte, Int.reduceLE, decide_true, GEdit.mk.injEq, true_and, and_true, List.all_cons, List.all_nil, Bool.and_true, Bool.and_eq_true, onP_eq, decide_eq_true_eq, Bool.not_eq_true', Bool.or_eq_false_iff, decide_eq_false_iff_not, List.length_map, eq_comm (a := sNil), eq_comm (a := (0 : Int)), eq_comm (a := zObj), eq_comm (a := ([] : List ByteArray))]
  constructor
  · intro h
    have hs := nil_size
    simp_all
    try omega
  · intro h
    simp_all
    try omega
def bare7 (e : GEdit) : GEdit := ⟨e.op, sNil, sNil, e.node, e.x, e.y, e.key, e.val, e.refs, e.obj⟩
theorem ed7 (e : GEdit) (ho : e.op = 7) : gEditV e = (!rb (bare7 e) && ([e.id, e.other].all gName && decide ((e.val.size : Int) ≤ 200))) := by
  obtain ⟨op, id, other, node, x, y, key, val, refs, obj⟩ := e
  simp only at ho
  subst ho
  have hb := rb_iff (bare7 ⟨7, id, other, node, x, y, key, val, refs, obj⟩)
  rw [Bool.eq_iff_iff]
  simp only [bare7] at hb ⊢
  simp only [gEditV, Bool.and_eq_true, Bool.not_eq_true', hb, gSameE_iff, onP_eq, okOf, xOf]
  simp only [Int.reduceEq, if_true, if_false, reduceIte, Int.reduceLE, decide_true, GEdit.mk.injEq, true_and, and_true, List.all_cons, List.all_nil, Bool.and_true, Bool.and_eq_true, onP_eq, decide_eq_true_eq, Bool.not_eq_true', Bool.or_eq_false_iff, decide_eq_false_iff_not, List.length_map, eq_comm (a := sNil), eq_comm (a := (0 : Int)), eq_comm (a := zObj), eq_comm (a := ([] : List ByteArray))]
  constructor
  · intro h
    have hs := nil_size
    simp_all
    try omega
  · intro h
    simp_all
    try omega
end Go.Proofs.YtbbnllojhjlaoaaGreat
end
