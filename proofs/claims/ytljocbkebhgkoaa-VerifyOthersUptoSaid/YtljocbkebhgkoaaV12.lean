/-
  CONTRACT: planispherelaw32.VerifyExact answers true. Conditions: lengths below 2^40.
-/
import Derived.Test.YtljocbkebhgkoaaV11
set_option linter.unusedVariables false
set_option linter.unusedSimpArgs false
set_option maxRecDepth 100000
namespace Go.Proofs.Ytljocbkebhgkoaa
open Go.Abs
abbrev inRows (l : List Int) : List (List AV) := l.map (fun e => (encInt e).map .pv)
theorem loop_true {k : Nat} {m : List GObj} {l : List GEdit} : ∀ {idx : List Int} {sh : List GEdit} {last : Int}, gAccLoop k m l idx sh last = true → idx.Pairwise (· < ·) ∧ ∀ i, i ∈ idx → last < i ∧ i < l.length
  | [], sh, last, h => ⟨.nil, by simp⟩
  | i :: r, sh, last, h => by
    rw [gAccLoop] at h
    split at h
    · cases h
    · next hno =>
      split at h
      · cases h
      · next y hy =>
        simp only [Bool.and_eq_true] at h
        obtain ⟨h1, h2⟩ := loop_true h.2
        refine ⟨.cons (fun j hj => (h2 j hj).1) h1, fun j hj => ?_⟩
        rcases List.mem_cons.1 hj with e | e
        · subst e; omega
        · have := h2 j e; omega
theorem acc_true {m : List GObj} {l : List GEdit} {kind : Int} {idx : List Int} (h : gAccept m l kind idx = true) : 1 ≤ kind ∧ kind ≤ 4 ∧ (idx.length : Int) = kMany kind.toNat ∧ idx.Pairwise (· < ·) ∧ ∀ i, i ∈ idx → 0 ≤ i ∧ i < l.length := by
  simp only [gAccept, Bool.and_eq_true, decide_eq_true_eq] at h
  obtain ⟨⟨⟨⟨h1, h2⟩, h3⟩, h4⟩, _⟩ := h
  obtain ⟨p1, p2⟩ := loop_true h4
  exact ⟨h1, h2, h3, p1, fun i hi => by have := p2 i hi; omega⟩
theorem acc_many {k : Int} (h1 : 1 ≤ k) (h2 : k ≤ 4) : 3 ≤ kMany k.toNat ∧ kMany k.toNat ≤ 5 := by
  obtain ⟨n, rfl⟩ : ∃ n : Nat, k = n := ⟨k.toNat, by omega⟩
  rw [Int.toNat_natCast]
  match n, h1, h2 with
  | 1, _, _ => decide
  | 2, _, _ => decide
  | 3, _, _ => decide
  | 4, _, _ => decide
  | n + 5, _, h => exact absurd h (by omega)
/-- Accept is lent owned indices. -/
theorem lentIdx_c (m : List GObj) (l : List GEdit) (kind : Int) (idx : List Int) (b : Bool) (H : Heap) (id g n : Nat) (ob : Ob) (hH : H.get id = some ob) (hg : ob.g = g) (hrows : ob.rows = (idx.map encInt).map (·.map .pv)) (hn : n = idx.length) (hm : okMap m) (hl : okEdits l) (hx : idx.length < 4611686018427387904) (hb : gAccept m l kind idx = b) :
    ACalls Try.prog 16 [.agg [.pv (slObjs m)], .pv (slEdits l), .agg [iv kind, .osl id g 0 n]] H (fun r H' => r = bv b ∧ H' = H) := by
  subst hb hn hg
  exact RO.calls (RO.lend (id := id) (idx.map encInt) (RO.of (accept_c m l kind idx [] hm hl hx) rfl) hH hrows rfl
    (fz_cons (.same (by simp)) (fz_cons (.same (by simp)) (fz_cons (.agg (by rfl) (fz_cons (.same (by simp)) (fz_cons (.osl (by rw [Nat.zero_add, List.drop_zero, ← List.length_map (f := encInt), List.take_length])) fz_nil))) fz_nil))) (fun _ _ h => by cases h) (fun _ _ h => by cases h) rfl)
theorem inRows_get {idx : List Int} {i : Nat} {a : Int} (h : idx[i]? = some a) : (inRows idx)[i]? = some [iv a] := by rw [inRows, List.getElem?_map, h]; rfl
theorem inRows_app (a b : List Int) : inRows a ++ (b.map encInt).map (·.map .pv) = inRows (a ++ b) := by rw [← rows_of]; exact List.map_append.symm
theorem inRows_set (l : List Int) (i : Nat) (v : Int) : (inRows l).set i [iv v] = inRows (l.set i v) := List.map_set.symm
theorem inRows_nil (l : List Int) : ([] : List (List AV)) ++ (l.map encInt).map (·.map .pv) = inRows l := (rows_of encInt l).symm
theorem enc1 {l : List Int} : ∀ r, r ∈ l.map encInt → r.length = 1 := fun r hr => by
  obtain ⟨i, _, rfl⟩ := List.mem_map.1 hr; rfl
theorem acc_len {m : List GObj} {l : List GEdit} {kind : Int} {idx : List Int} (h : ¬ (idx.length : Int) = kMany kind.toNat) : gAccept m l kind idx = false := by simp [gAccept, h]
theorem acc_bad {m : List GObj} {l : List GEdit} {kind : Int} {idx : List Int} (h : ¬ (idx.Pairwise (· < ·) ∧ ∀ i, i ∈ idx → 0 ≤ i ∧ i < l.length)) : gAccept m l kind idx = false := by
  cases e : gAccept m l kind idx with
  | false => rfl
  | true => exact absurd (acc_true e).2.2.2 h
theorem swap_bad {idx : List Int} {k j : Nat} {a b : Int} (hp : idx.Pairwise (· < ·)) (hk : idx[k]? = some a) (hj : idx[j]? = some b) (hne : k ≠ j) : ¬ ((idx.set k b).set j a).Pairwise (· < ·) := by
  intro h
  obtain ⟨hkl, ek⟩ := List.getElem?_eq_some_iff.1 hk
  obtain ⟨hjl, ej⟩ := List.getElem?_eq_some_iff.1 hj
  rw [List.pairwise_iff_getElem] at h hp
  have hlk : k < ((idx.set k b).set j a).length := by simpa using hkl
  have hlj : j < ((idx.set k b).set j a).length := by simpa using hjl
  have gk : ((idx.set k b).set j a)[k] = b := by rw [List.getElem_set_ne (Ne.symm hne), List.getElem_set_self]
  have gj : ((idx.set k b).set j a)[j] = a := by rw [List.getElem_set_self]
  rcases Nat.lt_or_gt_of_ne hne with hlt | hlt
  · have h1 := h k j hlk hlj hlt
    have h2 := hp k j hkl hjl hlt
    rw [gk, gj] at h1; rw [ek, ej] at h2; omega
  · have h1 := h j k hlj hlk hlt
    have h2 := hp j k hjl hkl hlt
    rw [gk, gj] at h1; rw [ek, ej] at h2; omega
theorem verifyExact_c (m : List GObj) (l : List GEdit) (kind : Int) (idx : List Int) (raw : Int) (H : Heap) (hm : okMap m) (hmo : ∀ o, o ∈ m → okObj o) (hl : okEdits l) (hle : ∀ e, e ∈ l → okEdit e) (hx : idx.length < 4611686018427387904) (hr0 : 0 ≤ raw) (hr1 : raw ≤ 255) :
    ACalls Try.prog 4 [.agg [.pv (slObjs m)], .pv (slEdits l), .agg [iv kind, .pv (slInts idx)], .pv (.int .u8 raw)] H (fun r H' => r = bv true ∧ H' = H) := by
  refine ACalls.pure ?_ (by simp) H
  have hll := hl.1
  refine ACalls.body Try.func4 rfl Try.ntmps4 (Nat.le_of_ble_eq_true rfl) ?_
  refine awp_seq ?_
  refine awp_region ?_
  refine al_d rfl rfl rfl (by exact opd_box (id := 4) rfl rfl rfl rfl rfl) ?_
  refine al_d rfl rfl rfl (by exact opd_box (id := 6) rfl rfl rfl rfl rfl) ?_
  refine al_d rfl rfl rfl (by exact opd_assign rfl rfl) ?_
  refine al_nil ?_
  refine awp_seq ?_
  refine awp_region ?_
  refine al_d rfl rfl rfl (by exact opr_call rfl rfl Try.call14 rfl (head_c _)) ?_
  refine al_d rfl rfl rfl (by exact opd_assign rfl rfl) ?_
  refine al_nil ?_
  refine awp_seq ?_
  refine awp_seq ?_
  refine awp_bool (t := 30) (n := 13) (X := !gFew m l idx || !gAccept m l kind idx) ?_ ?_
  · all_goals (refine al_d rfl rfl rfl (by exact (by first | exact opd_loadn_ref rfl Try.isAgg24 Try.sizeOf24 rfl rfl rfl rfl (by simp only [List.drop_succ_cons, List.drop_zero, List.take_succ_cons, List.take_zero, List.take_nil, List.map_cons, List.map_nil, List.set_cons_zero, List.set_cons_succ, List.cons_append, List.nil_append, encTag, encObj, encEdit]; rfl) rfl | exact opd_loadn_pad rfl Try.isAgg24 Try.sizeOf24 rfl (by first | omega | assumption) (by simp only [List.drop_succ_cons, List.drop_zero, List.take_succ_cons, List.take_zero, List.take_nil, List.map_cons, List.map_nil, List.set_cons_zero, List.set_cons_succ, List.cons_append, List.nil_append, encTag, encObj, encEdit]; rfl) rfl)) ?_)
    all_goals (refine al_d rfl rfl rfl (by exact opd_move rfl rfl) ?_)
    all_goals (refine al_d rfl rfl rfl (by exact (by first | exact opd_loadn_ref rfl Try.isAgg28 Try.sizeOf28 rfl rfl rfl rfl (by simp only [List.drop_succ_cons, List.drop_zero, List.take_succ_cons, List.take_zero, List.take_nil, List.map_cons, List.map_nil, List.set_cons_zero, List.set_cons_succ, List.cons_append, List.nil_append, encTag, encObj, encEdit]; rfl) rfl | exact opd_loadn_pad rfl Try.isAgg28 Try.sizeOf28 rfl (by first | omega | assumption) (by simp only [List.drop_succ_cons, List.drop_zero, List.take_succ_cons, List.take_zero, List.take_nil, List.map_cons, List.map_nil, List.set_cons_zero, List.set_cons_succ, List.cons_append, List.nil_append, encTag, encObj, encEdit]; rfl) rfl)) ?_)
    all_goals (refine al_d rfl rfl rfl (by exact opr_call rfl rfl Try.call15 rfl (few_c m l kind idx _ hm.1 hmo (by omega) hle)) ?_)
    all_goals (refine al_d rfl rfl rfl (by exact opd_not rfl rfl) ?_)
    all_goals (refine al_d rfl rfl rfl (by exact opd_move rfl rfl) ?_)
    all_goals (first | refine al_split (t := 24) rfl (fun h24 => ?_) (fun h24 => ?_) | skip)
    all_goals (try contradiction)
    all_goals (first | refine al_off rfl rfl rfl rfl rfl ?_ | refine al_offu rfl rfl rfl rfl ?_ | refine al_ond rfl rfl rfl rfl rfl rfl (by exact (by first | exact opd_loadn_ref rfl Try.isAgg24 Try.sizeOf24 rfl rfl rfl rfl (by simp only [List.drop_succ_cons, List.drop_zero, List.take_succ_cons, List.take_zero, List.take_nil, List.map_cons, List.map_nil, List.set_cons_zero, List.set_cons_succ, List.cons_append, List.nil_append, encTag, encObj, encEdit]; rfl) rfl | exact opd_loadn_pad rfl Try.isAgg24 Try.sizeOf24 rfl (by first | omega | assumption) (by simp only [List.drop_succ_cons, List.drop_zero, List.take_succ_cons, List.take_zero, List.take_nil, List.map_cons, List.map_nil, List.set_cons_zero, List.set_cons_succ, List.cons_append, List.nil_append, encTag, encObj, encEdit]; rfl) rfl)) ?_)
    all_goals (first | refine al_off rfl rfl rfl rfl rfl ?_ | refine al_offu rfl rfl rfl rfl ?_ | refine al_ond rfl rfl rfl rfl rfl rfl (by exact opd_move rfl rfl) ?_)
    all_goals (first | refine al_off rfl rfl rfl rfl rfl ?_ | refine al_offu rfl rfl rfl rfl ?_ | refine al_ond rfl rfl rfl rfl rfl rfl (by exact (by first | exact opd_loadn_ref rfl Try.isAgg28 Try.sizeOf28 rfl rfl rfl rfl (by simp only [List.drop_succ_cons, List.drop_zero, List.take_succ_cons, List.take_zero, List.take_nil, List.map_cons, List.map_nil, List.set_cons_zero, List.set_cons_succ, List.cons_append, List.nil_append, encTag, encObj, encEdit]; rfl) rfl | exact opd_loadn_pad rfl Try.isAgg28 Try.sizeOf28 rfl (by first | omega | assumption) (by simp only [List.drop_succ_cons, List.drop_zero, List.take_succ_cons, List.take_zero, List.take_nil, List.map_cons, List.map_nil, List.set_cons_zero, List.set_cons_succ, List.cons_append, List.nil_append, encTag, encObj, encEdit]; rfl) rfl)) ?_)
    all_goals (first | refine al_off rfl rfl rfl rfl rfl ?_ | refine al_offu rfl rfl rfl rfl ?_ | refine al_ond rfl rfl rfl rfl rfl rfl (by exact opr_call rfl rfl Try.call16 rfl (accept_c m l kind idx _ hm hl hx)) ?_)
    all_goals (first | refine al_off rfl rfl rfl rfl rfl ?_ | refine al_offu rfl rfl rfl rfl ?_ | refine al_ond rfl rfl rfl rfl rfl rfl (by exact opd_not rfl rfl) ?_)
    all_goals (refine al_d rfl rfl rfl (by exact (by first | exact opd_pick_t rfl rfl rfl | exact opd_pick_f rfl rfl rfl | exact opd_pickt rfl rfl (by assumption) rfl | exact opd_pickf rfl rfl (by assumption) rfl | exact opd_pick rfl rfl rfl)) ?_)
    all_goals (refine al_nil ?_)
    all_goals (exact ⟨⟨_, rfl, by first | rfl | (simp only [*, Bool.false_and, Bool.true_and, Bool.and_false, Bool.and_true, Bool.true_or, Bool.false_or, Bool.or_true, Bool.or_false, Bool.not_true, Bool.not_false]; done) | (simp_all; done) | (simp_all; omega)⟩, rfl, rfl, rfl⟩)
  refine awp_cond rfl (fun hc1 => ?_) (fun hc1 => ?_)
  -- cond 1
  · skip
    refine awp_seq ?_
    refine awp_region ?_
    refine al_d rfl rfl rfl (by exact opd_move rfl rfl) ?_
    refine al_d rfl rfl rfl (by exact opd_assign rfl rfl) ?_
    refine al_nil ?_
    refine awp_ret ?_
    -- return
    refine aret1 (H' := []) (by first | exact .inr rfl | exact .inl rfl) rfl (rval_tmp rfl) (Fin.wk (by simp) trivial trivial) ?_
    exact ⟨rfl, rfl⟩
  · have hacc : gAccept m l kind idx = true := by
      revert hc1; cases gFew m l idx <;> cases gAccept m l kind idx <;> simp
    obtain ⟨h1, h4, hlen, hpw, hrange⟩ := acc_true hacc
    have h35 := acc_many h1 h4
    have hil : (idx.map encInt).length = idx.length := List.length_map _
    have n3 : decide (((idx.map encInt).length : Int) < 3) = false := by simp; omega
    have n5 : decide (5 < ((idx.map encInt).length : Int)) = false := by simp; omega
    obtain ⟨n, hn⟩ : ∃ n : Nat, n = idx.length := ⟨_, rfl⟩
    obtain ⟨k, hk⟩ : ∃ k : Nat, raw.tmod (idx.length : Int) = k := ⟨(raw.tmod (idx.length : Int)).toNat, by
      have := Int.tmod_nonneg (a := raw) (idx.length : Int) hr0
      omega⟩
    have hkl : k < idx.length := by
      have := Int.tmod_lt_of_pos (a := raw) (b := (idx.length : Int)) (by omega)
      omega
    obtain ⟨j, hj⟩ : ∃ j : Nat, ((k : Int) + 1).tmod (idx.length : Int) = j := ⟨(((k : Int) + 1).tmod (idx.length : Int)).toNat, by
      have := Int.tmod_nonneg (a := (k : Int) + 1) (idx.length : Int) (by omega)
      omega⟩
    have hjl : j < idx.length := by
      have := Int.tmod_lt_of_pos (a := (k : Int) + 1) (b := (idx.length : Int)) (by omega)
      omega
    have hkj : k ≠ j := by
      have h := Int.tmod_eq_emod_of_nonneg (a := (k : Int) + 1) (b := (idx.length : Int)) (by omega)
      intro e
      rw [hj, ← e] at h
      by_cases hlt : k + 1 < idx.length
      · rw [Int.emod_eq_of_lt (by omega) (by omega)] at h; omega
      · have e2 : (k : Int) + 1 = idx.length := by omega
        rw [e2, Int.emod_self] at h; omega
    obtain ⟨a, ha⟩ := get_of_lt hkl
    obtain ⟨b, hb⟩ := get_of_lt hjl
    have hae := map_get (f := encInt) ha
    have hbe := map_get (f := encInt) hb
    have t1 : (idx.take k).length ≤ 5 := by simp; omega
    have t2 : (idx.drop (k + 1)).length ≤ 5 := by simp; omega
    have t3 : (idx.take (k + 1)).length ≤ 5 := by simp; omega
    have t4 : (idx.drop k).length ≤ 5 := by simp; omega
    have s1 : ((idx.map encInt).take k).drop 0 = (idx.take k).map encInt := by rw [List.drop_zero, List.map_take]
    have s2 : ((idx.map encInt).take (idx.map encInt).length).drop (k + 1) = (idx.drop (k + 1)).map encInt := by rw [List.take_length, List.map_drop]
    have s3 : ((idx.map encInt).take (k + 1)).drop 0 = (idx.take (k + 1)).map encInt := by rw [List.drop_zero, List.map_take]
    have s4 : ((idx.map encInt).take (idx.map encInt).length).drop k = (idx.drop k).map encInt := by rw [List.take_length, List.map_drop]
    have hml : (l.map encEdit).length = l.length := List.length_map _
    have w1 : IntKind.i64.wrap (((idx.map encInt).length : Int) - 1) = ((idx.length - 1 : Nat) : Int) := by rw [w64 (by omega) (by omega)]; omega
    have w2 : IntKind.i64.wrap (((l.map encEdit).length : Int) + raw) = (l.length : Int) + raw := by rw [w64 (by omega) (by omega)]; omega
    have w3 : IntKind.i64.wrap ((k : Int) + 1) = ((k + 1 : Nat) : Int) := by rw [w64 (by omega) (by omega)]; omega
    obtain ⟨z, hz⟩ := get_of_lt (show idx.length - 1 < idx.length by omega)
    obtain ⟨y, hy⟩ := get_of_lt (show 0 < idx.length by omega)
    have mo : ((idx.map encInt).length : Int) ≠ 0 := by omega
    have mk : raw.tmod ((idx.map encInt).length : Int) = k := by rw [hil]; exact hk
    have mj : ((k + 1 : Nat) : Int).tmod ((idx.map encInt).length : Int) = j := by rw [hil]; exact hj
    have b1 : gAccept m l kind (idx.take k ++ idx.drop (k + 1)) = false := acc_len (by simp; omega)
    have b2 : gAccept m l kind (idx.take (k + 1) ++ idx.drop k) = false := acc_len (by simp; omega)
    have b3 : gAccept m l kind (idx.set (idx.length - 1) ((l.length : Int) + raw)) = false := acc_bad (fun h => by
      have := h.2 ((l.length : Int) + raw) (List.mem_iff_getElem?.2 ⟨idx.length - 1, by rw [List.getElem?_set_self (by omega)]⟩)
      omega)
    have b4 : gAccept m l kind (idx.set 0 (-1 - raw)) = false := acc_bad (fun h => by
      have := h.2 (-1 - raw) (List.mem_iff_getElem?.2 ⟨0, by rw [List.getElem?_set_self (by omega)]⟩)
      omega)
    have hb2 : (idx.set k b)[j]? = some b := by rw [List.getElem?_set_ne hkj]; exact hb
    have b5 : gAccept m l kind ((idx.set k b).set j a) = false := acc_bad (fun h => swap_bad hpw ha hb hkj h.1)
    refine awp_skip ?_
    refine awp_seq ?_
    refine awp_region ?_
    refine al_d rfl rfl rfl (by exact (by first | exact opd_field_ref rfl fo28_1 rfl rfl rfl rfl | exact opd_field_pad rfl fo28_1 rfl rfl)) ?_
    refine al_d rfl rfl rfl (by exact (by first | exact opd_load1_ref rfl Try.isAgg26 rfl rfl rfl rfl rfl | exact opd_load1_pad rfl Try.isAgg26 rfl (by first | omega | assumption) rfl)) ?_
    refine al_d rfl rfl rfl (by exact (by first | exact opd_len_sl rfl Try.underlying26 rfl | exact opd_len_osl rfl Try.underlying26 rfl rfl rfl)) ?_
    refine al_d rfl rfl rfl (by exact opd_assign rfl rfl) ?_
    refine al_nil ?_
    refine awp_seq ?_
    refine awp_seq ?_
    refine awp_bool (t := 40) (n := 7) (X := false) ?_ ?_
    · all_goals (refine al_d rfl rfl rfl (by exact opd_move rfl rfl) ?_)
      all_goals (refine al_d rfl rfl rfl (by exact opd_lss rfl rfl rfl) ?_)
      all_goals (refine al_d rfl rfl rfl (by exact opd_move rfl rfl) ?_)
      all_goals (first | refine al_split (t := 37) rfl (fun h37 => ?_) (fun h37 => ?_) | skip)
      all_goals (try contradiction)
      all_goals (first | refine al_off rfl rfl rfl rfl rfl ?_ | refine al_offu rfl rfl rfl rfl ?_ | refine al_ond rfl rfl rfl rfl rfl rfl (by exact opd_move rfl rfl) ?_)
      all_goals (first | refine al_off rfl rfl rfl rfl rfl ?_ | refine al_offu rfl rfl rfl rfl ?_ | refine al_ond rfl rfl rfl rfl rfl rfl (by exact opd_gtr rfl rfl rfl) ?_)
      all_goals (refine al_d rfl rfl rfl (by exact (by first | exact opd_pick_t rfl rfl rfl | exact opd_pick_f rfl rfl rfl | exact opd_pickt rfl rfl (by assumption) rfl | exact opd_pickf rfl rfl (by assumption) rfl | exact opd_pick rfl rfl rfl)) ?_)
      all_goals (refine al_nil ?_)
      all_goals (exact ⟨⟨_, rfl, by first | rfl | (simp only [*, Bool.false_and, Bool.true_and, Bool.and_false, Bool.and_true, Bool.true_or, Bool.false_or, Bool.or_true, Bool.or_false, Bool.not_true, Bool.not_false]; done) | (simp_all; done) | (simp_all; omega)⟩, rfl, rfl, rfl⟩)
    refine awp_cond rfl (fun hc2 => ?_) (fun hc2 => ?_)
    -- cond 2
    · cases hc2
    · skip
      refine awp_skip ?_
      refine awp_seq ?_
      refine awp_region ?_
      refine al_d rfl rfl rfl (by exact opd_move rfl rfl) ?_
      refine al_d rfl rfl rfl (by exact opd_conv_int rfl Try.underlying5 Try.underlying3 rfl (by first | exact w64 (by omega) (by omega) | exact wu8 (by omega) (by omega) | rfl)) ?_
      refine al_d rfl rfl rfl (by exact opd_move rfl rfl) ?_
      refine al_d rfl rfl rfl (by exact opd_rem rfl rfl rfl mo mk) ?_
      refine al_d rfl rfl rfl (by exact opd_assign rfl rfl) ?_
      refine al_nil ?_
      refine awp_seq ?_
      refine awp_drawc follows ?_
      refine dc_cons (r := ⟨_, some [6], []⟩) (DStep.plain rfl (fun H1 hH => by exact (by first | exact opd_field_ref rfl fo28_0 rfl ((hH _ rfl).trans rfl) rfl rfl | exact opd_field_pad rfl fo28_0 rfl rfl))) rfl ?_
      refine dc_cons (r := ⟨_, some [6], []⟩) (DStep.plain rfl (fun H1 hH => by exact (by first | exact opd_load1_ref rfl Try.isAgg3 rfl ((hH _ rfl).trans rfl) rfl rfl rfl | exact opd_load1_pad rfl Try.isAgg3 rfl (by first | omega | assumption) rfl))) rfl ?_
      refine dc_cons (r := ⟨_, some [47], [_]⟩) (DStep.plain rfl (fun H1 hH => by exact x_buildSlice_own (id := 47) rfl so26 rfl rfl rfl rfl (by simp) ((hH _ rfl).trans rfl))) rfl ?_
      refine dc_cons (r := ⟨_, some [6], []⟩) (DStep.plain rfl (fun H1 hH => by exact (by first | exact opd_field_ref rfl fo28_1 rfl ((hH _ rfl).trans rfl) rfl rfl | exact opd_field_pad rfl fo28_1 rfl rfl))) rfl ?_
      refine dc_cons (r := ⟨_, some [6], []⟩) (DStep.plain rfl (fun H1 hH => by exact (by first | exact opd_load1_ref rfl Try.isAgg26 rfl ((hH _ rfl).trans rfl) rfl rfl rfl | exact opd_load1_pad rfl Try.isAgg26 rfl (by first | omega | assumption) rfl))) rfl ?_
      refine dc_cons (r := ⟨_, some [], []⟩) (DStep.plain rfl (fun H1 hH => by exact opd_move rfl rfl)) rfl ?_
      refine dc_cons (r := ⟨_, some [], []⟩) (DStep.plain rfl (fun H1 hH => by exact (by first | exact x_slice_sl (l := 0) (h := k) rfl so26 rfl enc1 rfl rfl (by first | omega | assumption) (by first | omega | assumption) s1 | exact x_slice_osl (l := 0) (h := k) rfl so26 rfl ((hH _ rfl).trans rfl) rfl rfl rfl rfl (by first | omega | assumption) (by first | omega | assumption) rfl rfl))) rfl ?_
      refine dc_cons (r := ⟨_, some [47], [_]⟩) (DStep.plain rfl (fun H1 hH => by exact (by first | exact x_append rfl so26 ei3 rfl ((hH _ rfl).trans rfl) rfl rfl rfl rfl rfl enc1 (List.length_map _) (by omega) (Nat.zero_add _) (inRows_nil _) | exact x_append_osl rfl so26 ei3 rfl ((hH _ rfl).trans rfl) rfl rfl rfl rfl rfl ((hH _ rfl).trans rfl) rfl rfl enc1 (List.length_map _) (by omega) (Nat.zero_add _) (inRows_nil _)))) rfl ?_
      refine dc_cons (r := ⟨_, some [6], []⟩) (DStep.plain rfl (fun H1 hH => by exact (by first | exact opd_field_ref rfl fo28_1 rfl ((hH _ rfl).trans rfl) rfl rfl | exact opd_field_pad rfl fo28_1 rfl rfl))) rfl ?_
      refine dc_cons (r := ⟨_, some [6], []⟩) (DStep.plain rfl (fun H1 hH => by exact (by first | exact opd_load1_ref rfl Try.isAgg26 rfl ((hH _ rfl).trans rfl) rfl rfl rfl | exact opd_load1_pad rfl Try.isAgg26 rfl (by first | omega | assumption) rfl))) rfl ?_
      refine dc_cons (r := ⟨_, some [], []⟩) (DStep.plain rfl (fun H1 hH => by exact opd_move rfl rfl)) rfl ?_
      refine dc_cons (r := ⟨_, some [], []⟩) (DStep.plain rfl (fun H1 hH => by exact opd_add rfl rfl rfl w3)) rfl ?_
      refine dc_cons (r := ⟨_, some [], []⟩) (DStep.plain rfl (fun H1 hH => by exact (by first | exact x_slice_sl (l := (k + 1)) (h := (idx.map encInt).length) rfl so26 rfl enc1 rfl rfl (by first | omega | assumption) (by first | omega | assumption) s2 | exact x_slice_osl (l := (k + 1)) (h := (idx.map encInt).length) rfl so26 rfl ((hH _ rfl).trans rfl) rfl rfl rfl rfl (by first | omega | assumption) (by first | omega | assumption) rfl rfl))) rfl ?_
      refine dc_cons (r := ⟨_, some [47], [_]⟩) (DStep.plain rfl (fun H1 hH => by exact (by first | exact x_append rfl so26 ei3 rfl ((hH _ rfl).trans rfl) rfl rfl rfl (List.length_map _) rfl enc1 (List.length_map _) (by omega) List.length_append.symm (inRows_app _ _) | exact x_append_osl rfl so26 ei3 rfl ((hH _ rfl).trans rfl) rfl rfl rfl (List.length_map _) rfl ((hH _ rfl).trans rfl) rfl rfl enc1 (List.length_map _) (by omega) List.length_append.symm (inRows_app _ _)))) rfl ?_
      refine dc_cons (r := ⟨_, some [47], []⟩) (DStep.plain rfl (fun H1 hH => by exact x_build rfl bo28 rfl rfl)) rfl ?_
      refine dc_cons (r := ⟨_, some [12], [_]⟩) (DStep.plain rfl (fun H1 hH => by exact x_alloc (id := 12) rfl zo28 rfl ((hH _ rfl).trans rfl))) rfl ?_
      refine dc_cons (r := ⟨_, some [12], [_]⟩) (DStep.plain rfl (fun H1 hH => by exact (by first | exact x_store_all rfl Try.sizeOf28 rfl rfl rfl rfl ((hH _ rfl).trans rfl) rfl rfl rfl | exact x_store rfl Try.sizeOf28 rfl rfl rfl rfl ((hH _ rfl).trans rfl) rfl rfl (by simp only [List.length_cons, List.length_nil]; omega) (by simp only [List.drop_succ_cons, List.drop_zero, List.take_succ_cons, List.take_zero, List.take_nil, List.map_cons, List.map_nil, List.set_cons_zero, List.set_cons_succ, List.cons_append, List.nil_append, encTag, encObj, encEdit]; rfl) (by simp only [List.drop_succ_cons, List.drop_zero, List.take_succ_cons, List.take_zero, List.take_nil, List.map_cons, List.map_nil, List.set_cons_zero, List.set_cons_succ, List.cons_append, List.nil_append, encTag, encObj, encEdit]; rfl)))) rfl ?_
      refine dc_nil ⟨by kernel_rfl, ?_⟩
      refine awp_seq ?_
      refine awp_drawc follows ?_
      refine dc_cons (r := ⟨_, some [6], []⟩) (DStep.plain rfl (fun H1 hH => by exact (by first | exact opd_field_ref rfl fo28_0 rfl ((hH _ rfl).trans rfl) rfl rfl | exact opd_field_pad rfl fo28_0 rfl rfl))) rfl ?_
      refine dc_cons (r := ⟨_, some [6], []⟩) (DStep.plain rfl (fun H1 hH => by exact (by first | exact opd_load1_ref rfl Try.isAgg3 rfl ((hH _ rfl).trans rfl) rfl rfl rfl | exact opd_load1_pad rfl Try.isAgg3 rfl (by first | omega | assumption) rfl))) rfl ?_
      refine dc_cons (r := ⟨_, some [62], [_]⟩) (DStep.plain rfl (fun H1 hH => by exact x_buildSlice_own (id := 62) rfl so26 rfl rfl rfl rfl (by simp) ((hH _ rfl).trans rfl))) rfl ?_
      refine dc_cons (r := ⟨_, some [6], []⟩) (DStep.plain rfl (fun H1 hH => by exact (by first | exact opd_field_ref rfl fo28_1 rfl ((hH _ rfl).trans rfl) rfl rfl | exact opd_field_pad rfl fo28_1 rfl rfl))) rfl ?_
      refine dc_cons (r := ⟨_, some [6], []⟩) (DStep.plain rfl (fun H1 hH => by exact (by first | exact opd_load1_ref rfl Try.isAgg26 rfl ((hH _ rfl).trans rfl) rfl rfl rfl | exact opd_load1_pad rfl Try.isAgg26 rfl (by first | omega | assumption) rfl))) rfl ?_
      refine dc_cons (r := ⟨_, some [], []⟩) (DStep.plain rfl (fun H1 hH => by exact opd_move rfl rfl)) rfl ?_
      refine dc_cons (r := ⟨_, some [], []⟩) (DStep.plain rfl (fun H1 hH => by exact opd_add rfl rfl rfl w3)) rfl ?_
      refine dc_cons (r := ⟨_, some [], []⟩) (DStep.plain rfl (fun H1 hH => by exact (by first | exact x_slice_sl (l := 0) (h := (k + 1)) rfl so26 rfl enc1 rfl rfl (by first | omega | assumption) (by first | omega | assumption) s3 | exact x_slice_osl (l := 0) (h := (k + 1)) rfl so26 rfl ((hH _ rfl).trans rfl) rfl rfl rfl rfl (by first | omega | assumption) (by first | omega | assumption) rfl rfl))) rfl ?_
      refine dc_cons (r := ⟨_, some [62], [_]⟩) (DStep.plain rfl (fun H1 hH => by exact (by first | exact x_append rfl so26 ei3 rfl ((hH _ rfl).trans rfl) rfl rfl rfl rfl rfl enc1 (List.length_map _) (by omega) (Nat.zero_add _) (inRows_nil _) | exact x_append_osl rfl so26 ei3 rfl ((hH _ rfl).trans rfl) rfl rfl rfl rfl rfl ((hH _ rfl).trans rfl) rfl rfl enc1 (List.length_map _) (by omega) (Nat.zero_add _) (inRows_nil _)))) rfl ?_
      refine dc_cons (r := ⟨_, some [6], []⟩) (DStep.plain rfl (fun H1 hH => by exact (by first | exact opd_field_ref rfl fo28_1 rfl ((hH _ rfl).trans rfl) rfl rfl | exact opd_field_pad rfl fo28_1 rfl rfl))) rfl ?_
      refine dc_cons (r := ⟨_, some [6], []⟩) (DStep.plain rfl (fun H1 hH => by exact (by first | exact opd_load1_ref rfl Try.isAgg26 rfl ((hH _ rfl).trans rfl) rfl rfl rfl | exact opd_load1_pad rfl Try.isAgg26 rfl (by first | omega | assumption) rfl))) rfl ?_
      refine dc_cons (r := ⟨_, some [], []⟩) (DStep.plain rfl (fun H1 hH => by exact opd_move rfl rfl)) rfl ?_
      refine dc_cons (r := ⟨_, some [], []⟩) (DStep.plain rfl (fun H1 hH => by exact (by first | exact x_slice_sl (l := k) (h := (idx.map encInt).length) rfl so26 rfl enc1 rfl rfl (by first | omega | assumption) (by first | omega | assumption) s4 | exact x_slice_osl (l := k) (h := (idx.map encInt).length) rfl so26 rfl ((hH _ rfl).trans rfl) rfl rfl rfl rfl (by first | omega | assumption) (by first | omega | assumption) rfl rfl))) rfl ?_
      refine dc_cons (r := ⟨_, some [62], [_]⟩) (DStep.plain rfl (fun H1 hH => by exact (by first | exact x_append rfl so26 ei3 rfl ((hH _ rfl).trans rfl) rfl rfl rfl (List.length_map _) rfl enc1 (List.length_map _) (by omega) List.length_append.symm (inRows_app _ _) | exact x_append_osl rfl so26 ei3 rfl ((hH _ rfl).trans rfl) rfl rfl rfl (List.length_map _) rfl ((hH _ rfl).trans rfl) rfl rfl enc1 (List.length_map _) (by omega) List.length_append.symm (inRows_app _ _)))) rfl ?_
      refine dc_cons (r := ⟨_, some [62], []⟩) (DStep.plain rfl (fun H1 hH => by exact x_build rfl bo28 rfl rfl)) rfl ?_
      refine dc_cons (r := ⟨_, some [13], [_]⟩) (DStep.plain rfl (fun H1 hH => by exact x_alloc (id := 13) rfl zo28 rfl ((hH _ rfl).trans rfl))) rfl ?_
      refine dc_cons (r := ⟨_, some [13], [_]⟩) (DStep.plain rfl (fun H1 hH => by exact (by first | exact x_store_all rfl Try.sizeOf28 rfl rfl rfl rfl ((hH _ rfl).trans rfl) rfl rfl rfl | exact x_store rfl Try.sizeOf28 rfl rfl rfl rfl ((hH _ rfl).trans rfl) rfl rfl (by simp only [List.length_cons, List.length_nil]; omega) (by simp only [List.drop_succ_cons, List.drop_zero, List.take_succ_cons, List.take_zero, List.take_nil, List.map_cons, List.map_nil, List.set_cons_zero, List.set_cons_succ, List.cons_append, List.nil_append, encTag, encObj, encEdit]; rfl) (by simp only [List.drop_succ_cons, List.drop_zero, List.take_succ_cons, List.take_zero, List.take_nil, List.map_cons, List.map_nil, List.set_cons_zero, List.set_cons_succ, List.cons_append, List.nil_append, encTag, encObj, encEdit]; rfl)))) rfl ?_
      refine dc_nil ⟨by kernel_rfl, ?_⟩
      refine awp_seq ?_
      refine awp_drawc follows ?_
      refine dc_cons (r := ⟨_, some [6], []⟩) (DStep.plain rfl (fun H1 hH => by exact (by first | exact opd_field_ref rfl fo28_0 rfl ((hH _ rfl).trans rfl) rfl rfl | exact opd_field_pad rfl fo28_0 rfl rfl))) rfl ?_
      refine dc_cons (r := ⟨_, some [6], []⟩) (DStep.plain rfl (fun H1 hH => by exact (by first | exact opd_load1_ref rfl Try.isAgg3 rfl ((hH _ rfl).trans rfl) rfl rfl rfl | exact opd_load1_pad rfl Try.isAgg3 rfl (by first | omega | assumption) rfl))) rfl ?_
      refine dc_cons (r := ⟨_, some [77], [_]⟩) (DStep.plain rfl (fun H1 hH => by exact x_buildSlice_own (id := 77) rfl so26 rfl rfl rfl rfl (by simp) ((hH _ rfl).trans rfl))) rfl ?_
      refine dc_cons (r := ⟨_, some [6], []⟩) (DStep.plain rfl (fun H1 hH => by exact (by first | exact opd_field_ref rfl fo28_1 rfl ((hH _ rfl).trans rfl) rfl rfl | exact opd_field_pad rfl fo28_1 rfl rfl))) rfl ?_
      refine dc_cons (r := ⟨_, some [6], []⟩) (DStep.plain rfl (fun H1 hH => by exact (by first | exact opd_load1_ref rfl Try.isAgg26 rfl ((hH _ rfl).trans rfl) rfl rfl rfl | exact opd_load1_pad rfl Try.isAgg26 rfl (by first | omega | assumption) rfl))) rfl ?_
      refine dc_cons (r := ⟨_, some [77], [_]⟩) (DStep.plain rfl (fun H1 hH => by exact (by first | exact x_append rfl so26 ei3 rfl ((hH _ rfl).trans rfl) rfl rfl rfl rfl rfl enc1 (List.length_map _) (by omega) (Nat.zero_add _) (inRows_nil _) | exact x_append_osl rfl so26 ei3 rfl ((hH _ rfl).trans rfl) rfl rfl rfl rfl rfl ((hH _ rfl).trans rfl) rfl rfl enc1 (List.length_map _) (by omega) (Nat.zero_add _) (inRows_nil _)))) rfl ?_
      refine dc_cons (r := ⟨_, some [77], []⟩) (DStep.plain rfl (fun H1 hH => by exact x_build rfl bo28 rfl rfl)) rfl ?_
      refine dc_cons (r := ⟨_, some [14], [_]⟩) (DStep.plain rfl (fun H1 hH => by exact x_alloc (id := 14) rfl zo28 rfl ((hH _ rfl).trans rfl))) rfl ?_
      refine dc_cons (r := ⟨_, some [14], [_]⟩) (DStep.plain rfl (fun H1 hH => by exact (by first | exact x_store_all rfl Try.sizeOf28 rfl rfl rfl rfl ((hH _ rfl).trans rfl) rfl rfl rfl | exact x_store rfl Try.sizeOf28 rfl rfl rfl rfl ((hH _ rfl).trans rfl) rfl rfl (by simp only [List.length_cons, List.length_nil]; omega) (by simp only [List.drop_succ_cons, List.drop_zero, List.take_succ_cons, List.take_zero, List.take_nil, List.map_cons, List.map_nil, List.set_cons_zero, List.set_cons_succ, List.cons_append, List.nil_append, encTag, encObj, encEdit]; rfl) (by simp only [List.drop_succ_cons, List.drop_zero, List.take_succ_cons, List.take_zero, List.take_nil, List.map_cons, List.map_nil, List.set_cons_zero, List.set_cons_succ, List.cons_append, List.nil_append, encTag, encObj, encEdit]; rfl)))) rfl ?_
      refine dc_nil ⟨by kernel_rfl, ?_⟩
      refine awp_seq ?_
      refine awp_region ?_
      refine al_d rfl rfl rfl (by exact (by first | exact opd_field_ref rfl fo28_1 rfl rfl rfl rfl | exact opd_field_pad rfl fo28_1 rfl rfl)) ?_
      refine al_d rfl rfl rfl (by exact (by first | exact opd_load1_ref rfl Try.isAgg26 rfl rfl rfl rfl rfl | exact opd_load1_pad rfl Try.isAgg26 rfl (by first | omega | assumption) rfl)) ?_
      refine al_d rfl rfl rfl (by exact opd_move rfl rfl) ?_
      refine al_d rfl rfl rfl (by exact opd_sub rfl rfl rfl w1) ?_
      refine al_d rfl rfl rfl (by exact opd_move rfl rfl) ?_
      refine al_d rfl rfl rfl (by exact (by first | exact opd_len_sl rfl Try.underlying25 rfl | exact opd_len_osl rfl Try.underlying25 rfl rfl rfl)) ?_
      refine al_d rfl rfl rfl (by exact opd_move rfl rfl) ?_
      refine al_d rfl rfl rfl (by exact opd_conv_int rfl Try.underlying5 Try.underlying3 rfl (by first | exact w64 (by omega) (by omega) | exact wu8 (by omega) (by omega) | rfl)) ?_
      refine al_d rfl rfl rfl (by exact opd_add rfl rfl rfl w2) ?_
      refine al_d rfl rfl rfl (by exact (by first | exact x_index_pad rfl so26 rfl rfl (by omega) (by first | exact Int.toNat_natCast _ | rfl) (by assumption) rfl | exact x_index_osl rfl so26 rfl rfl rfl rfl rfl (by omega) (by first | exact Int.toNat_natCast _ | rfl) (by first | omega | assumption) (Nat.zero_add _))) ?_
      refine al_n rfl rfl (by exact x_store1 rfl Try.sizeOf3 rfl rfl rfl rfl rfl (inRows_get hz) (by simp) rfl (inRows_set _ _ _)) ?_
      refine al_nil ?_
      refine awp_seq ?_
      refine awp_drawc follows ?_
      refine dc_cons (r := ⟨_, some [6], []⟩) (DStep.plain rfl (fun H1 hH => by exact (by first | exact opd_field_ref rfl fo28_0 rfl ((hH _ rfl).trans rfl) rfl rfl | exact opd_field_pad rfl fo28_0 rfl rfl))) rfl ?_
      refine dc_cons (r := ⟨_, some [6], []⟩) (DStep.plain rfl (fun H1 hH => by exact (by first | exact opd_load1_ref rfl Try.isAgg3 rfl ((hH _ rfl).trans rfl) rfl rfl rfl | exact opd_load1_pad rfl Try.isAgg3 rfl (by first | omega | assumption) rfl))) rfl ?_
      refine dc_cons (r := ⟨_, some [94], [_]⟩) (DStep.plain rfl (fun H1 hH => by exact x_buildSlice_own (id := 94) rfl so26 rfl rfl rfl rfl (by simp) ((hH _ rfl).trans rfl))) rfl ?_
      refine dc_cons (r := ⟨_, some [6], []⟩) (DStep.plain rfl (fun H1 hH => by exact (by first | exact opd_field_ref rfl fo28_1 rfl ((hH _ rfl).trans rfl) rfl rfl | exact opd_field_pad rfl fo28_1 rfl rfl))) rfl ?_
      refine dc_cons (r := ⟨_, some [6], []⟩) (DStep.plain rfl (fun H1 hH => by exact (by first | exact opd_load1_ref rfl Try.isAgg26 rfl ((hH _ rfl).trans rfl) rfl rfl rfl | exact opd_load1_pad rfl Try.isAgg26 rfl (by first | omega | assumption) rfl))) rfl ?_
      refine dc_cons (r := ⟨_, some [94], [_]⟩) (DStep.plain rfl (fun H1 hH => by exact (by first | exact x_append rfl so26 ei3 rfl ((hH _ rfl).trans rfl) rfl rfl rfl rfl rfl enc1 (List.length_map _) (by omega) (Nat.zero_add _) (inRows_nil _) | exact x_append_osl rfl so26 ei3 rfl ((hH _ rfl).trans rfl) rfl rfl rfl rfl rfl ((hH _ rfl).trans rfl) rfl rfl enc1 (List.length_map _) (by omega) (Nat.zero_add _) (inRows_nil _)))) rfl ?_
      refine dc_cons (r := ⟨_, some [94], []⟩) (DStep.plain rfl (fun H1 hH => by exact x_build rfl bo28 rfl rfl)) rfl ?_
      refine dc_cons (r := ⟨_, some [15], [_]⟩) (DStep.plain rfl (fun H1 hH => by exact x_alloc (id := 15) rfl zo28 rfl ((hH _ rfl).trans rfl))) rfl ?_
      refine dc_cons (r := ⟨_, some [15], [_]⟩) (DStep.plain rfl (fun H1 hH => by exact (by first | exact x_store_all rfl Try.sizeOf28 rfl rfl rfl rfl ((hH _ rfl).trans rfl) rfl rfl rfl | exact x_store rfl Try.sizeOf28 rfl rfl rfl rfl ((hH _ rfl).trans rfl) rfl rfl (by simp only [List.length_cons, List.length_nil]; omega) (by simp only [List.drop_succ_cons, List.drop_zero, List.take_succ_cons, List.take_zero, List.take_nil, List.map_cons, List.map_nil, List.set_cons_zero, List.set_cons_succ, List.cons_append, List.nil_append, encTag, encObj, encEdit]; rfl) (by simp only [List.drop_succ_cons, List.drop_zero, List.take_succ_cons, List.take_zero, List.take_nil, List.map_cons, List.map_nil, List.set_cons_zero, List.set_cons_succ, List.cons_append, List.nil_append, encTag, encObj, encEdit]; rfl)))) rfl ?_
      refine dc_nil ⟨by kernel_rfl, ?_⟩
      refine awp_seq ?_
      refine awp_region ?_
      refine al_d rfl rfl rfl (by exact (by first | exact opd_field_ref rfl fo28_1 rfl rfl rfl rfl | exact opd_field_pad rfl fo28_1 rfl rfl)) ?_
      refine al_d rfl rfl rfl (by exact (by first | exact opd_load1_ref rfl Try.isAgg26 rfl rfl rfl rfl rfl | exact opd_load1_pad rfl Try.isAgg26 rfl (by first | omega | assumption) rfl)) ?_
      refine al_d rfl rfl rfl (by exact opd_move rfl rfl) ?_
      refine al_d rfl rfl rfl (by exact opd_conv_int rfl Try.underlying5 Try.underlying3 rfl (by first | exact w64 (by omega) (by omega) | exact wu8 (by omega) (by omega) | rfl)) ?_
      refine al_d rfl rfl rfl (by exact opd_sub rfl rfl rfl (by first | exact w64 (by omega) (by omega) | exact wu8 (by omega) (by omega) | rfl)) ?_
      refine al_d rfl rfl rfl (by exact x_index_osl rfl so26 rfl rfl rfl rfl rfl (by decide) (rfl : _ = 0) (by omega) (Nat.zero_add _)) ?_
      refine al_n rfl rfl (by exact x_store1 rfl Try.sizeOf3 rfl rfl rfl rfl rfl (inRows_get hy) (by simp) rfl (inRows_set _ _ _)) ?_
      refine al_nil ?_
      refine awp_seq ?_
      refine awp_drawc follows ?_
      refine dc_cons (r := ⟨_, some [6], []⟩) (DStep.plain rfl (fun H1 hH => by exact (by first | exact opd_field_ref rfl fo28_0 rfl ((hH _ rfl).trans rfl) rfl rfl | exact opd_field_pad rfl fo28_0 rfl rfl))) rfl ?_
      refine dc_cons (r := ⟨_, some [6], []⟩) (DStep.plain rfl (fun H1 hH => by exact (by first | exact opd_load1_ref rfl Try.isAgg3 rfl ((hH _ rfl).trans rfl) rfl rfl rfl | exact opd_load1_pad rfl Try.isAgg3 rfl (by first | omega | assumption) rfl))) rfl ?_
      refine dc_cons (r := ⟨_, some [107], [_]⟩) (DStep.plain rfl (fun H1 hH => by exact x_buildSlice_own (id := 107) rfl so26 rfl rfl rfl rfl (by simp) ((hH _ rfl).trans rfl))) rfl ?_
      refine dc_cons (r := ⟨_, some [6], []⟩) (DStep.plain rfl (fun H1 hH => by exact (by first | exact opd_field_ref rfl fo28_1 rfl ((hH _ rfl).trans rfl) rfl rfl | exact opd_field_pad rfl fo28_1 rfl rfl))) rfl ?_
      refine dc_cons (r := ⟨_, some [6], []⟩) (DStep.plain rfl (fun H1 hH => by exact (by first | exact opd_load1_ref rfl Try.isAgg26 rfl ((hH _ rfl).trans rfl) rfl rfl rfl | exact opd_load1_pad rfl Try.isAgg26 rfl (by first | omega | assumption) rfl))) rfl ?_
      refine dc_cons (r := ⟨_, some [107], [_]⟩) (DStep.plain rfl (fun H1 hH => by exact (by first | exact x_append rfl so26 ei3 rfl ((hH _ rfl).trans rfl) rfl rfl rfl rfl rfl enc1 (List.length_map _) (by omega) (Nat.zero_add _) (inRows_nil _) | exact x_append_osl rfl so26 ei3 rfl ((hH _ rfl).trans rfl) rfl rfl rfl rfl rfl ((hH _ rfl).trans rfl) rfl rfl enc1 (List.length_map _) (by omega) (Nat.zero_add _) (inRows_nil _)))) rfl ?_
      refine dc_cons (r := ⟨_, some [107], []⟩) (DStep.plain rfl (fun H1 hH => by exact x_build rfl bo28 rfl rfl)) rfl ?_
      refine dc_cons (r := ⟨_, some [16], [_]⟩) (DStep.plain rfl (fun H1 hH => by exact x_alloc (id := 16) rfl zo28 rfl ((hH _ rfl).trans rfl))) rfl ?_
      refine dc_cons (r := ⟨_, some [16], [_]⟩) (DStep.plain rfl (fun H1 hH => by exact (by first | exact x_store_all rfl Try.sizeOf28 rfl rfl rfl rfl ((hH _ rfl).trans rfl) rfl rfl rfl | exact x_store rfl Try.sizeOf28 rfl rfl rfl rfl ((hH _ rfl).trans rfl) rfl rfl (by simp only [List.length_cons, List.length_nil]; omega) (by simp only [List.drop_succ_cons, List.drop_zero, List.take_succ_cons, List.take_zero, List.take_nil, List.map_cons, List.map_nil, List.set_cons_zero, List.set_cons_succ, List.cons_append, List.nil_append, encTag, encObj, encEdit]; rfl) (by simp only [List.drop_succ_cons, List.drop_zero, List.take_succ_cons, List.take_zero, List.take_nil, List.map_cons, List.map_nil, List.set_cons_zero, List.set_cons_succ, List.cons_append, List.nil_append, encTag, encObj, encEdit]; rfl)))) rfl ?_
      refine dc_nil ⟨by kernel_rfl, ?_⟩
      refine awp_seq ?_
      refine awp_region ?_
      refine al_d rfl rfl rfl (by exact opd_move rfl rfl) ?_
      refine al_d rfl rfl rfl (by exact opd_add rfl rfl rfl w3) ?_
      refine al_d rfl rfl rfl (by exact opd_move rfl rfl) ?_
      refine al_d rfl rfl rfl (by exact opd_rem rfl rfl rfl mo mj) ?_
      refine al_d rfl rfl rfl (by exact opd_assign rfl rfl) ?_
      refine al_nil ?_
      refine awp_seq ?_
      refine awp_drawc follows ?_
      refine dc_cons (r := ⟨_, some [16], []⟩) (DStep.plain rfl (fun H1 hH => by exact (by first | exact opd_field_ref rfl fo28_1 rfl ((hH _ rfl).trans rfl) rfl rfl | exact opd_field_pad rfl fo28_1 rfl rfl))) rfl ?_
      refine dc_cons (r := ⟨_, some [16], []⟩) (DStep.plain rfl (fun H1 hH => by exact (by first | exact opd_load1_ref rfl Try.isAgg26 rfl ((hH _ rfl).trans rfl) rfl rfl rfl | exact opd_load1_pad rfl Try.isAgg26 rfl (by first | omega | assumption) rfl))) rfl ?_
      refine dc_cons (r := ⟨_, some [], []⟩) (DStep.plain rfl (fun H1 hH => by exact opd_move rfl rfl)) rfl ?_
      refine dc_cons (r := ⟨_, some [6], []⟩) (DStep.plain rfl (fun H1 hH => by exact (by first | exact opd_field_ref rfl fo28_1 rfl ((hH _ rfl).trans rfl) rfl rfl | exact opd_field_pad rfl fo28_1 rfl rfl))) rfl ?_
      refine dc_cons (r := ⟨_, some [6], []⟩) (DStep.plain rfl (fun H1 hH => by exact (by first | exact opd_load1_ref rfl Try.isAgg26 rfl ((hH _ rfl).trans rfl) rfl rfl rfl | exact opd_load1_pad rfl Try.isAgg26 rfl (by first | omega | assumption) rfl))) rfl ?_
      refine dc_cons (r := ⟨_, some [], []⟩) (DStep.plain rfl (fun H1 hH => by exact opd_move rfl rfl)) rfl ?_
      refine dc_cons (r := ⟨_, some [], []⟩) (DStep.plain rfl (fun H1 hH => by exact (by first | exact x_index_pad rfl so26 rfl rfl (by omega) (by first | exact Int.toNat_natCast _ | rfl) (by assumption) rfl | exact x_index_osl rfl so26 rfl ((hH _ rfl).trans rfl) rfl rfl rfl (by omega) (by first | exact Int.toNat_natCast _ | rfl) (by first | omega | assumption) rfl))) rfl ?_
      refine dc_cons (r := ⟨_, some [], []⟩) (DStep.plain rfl (fun H1 hH => by exact (by first | exact opd_load1_ref rfl Try.isAgg3 rfl ((hH _ rfl).trans rfl) rfl rfl rfl | exact opd_load1_pad rfl Try.isAgg3 rfl (by first | omega | assumption) rfl))) rfl ?_
      refine dc_cons (r := ⟨_, some [107], []⟩) (DStep.plain rfl (fun H1 hH => by exact (by first | exact x_index_pad rfl so26 rfl rfl (by omega) (by first | exact Int.toNat_natCast _ | rfl) (by assumption) rfl | exact x_index_osl rfl so26 rfl ((hH _ rfl).trans rfl) rfl rfl rfl (by omega) (by first | exact Int.toNat_natCast _ | rfl) (by first | omega | assumption) (Nat.zero_add _)))) rfl ?_
      refine dc_cons (r := ⟨_, some [107], [_]⟩) (DStep.plain rfl (fun H1 hH => by exact x_store1 rfl Try.sizeOf3 rfl rfl rfl ((hH 107 rfl).trans rfl) rfl (inRows_get ha) (by simp) rfl (inRows_set _ _ _))) rfl ?_
      refine dc_nil ⟨by kernel_rfl, ?_⟩
      refine awp_seq ?_
      refine awp_drawc follows ?_
      refine dc_cons (r := ⟨_, some [16], []⟩) (DStep.plain rfl (fun H1 hH => by exact (by first | exact opd_field_ref rfl fo28_1 rfl ((hH _ rfl).trans rfl) rfl rfl | exact opd_field_pad rfl fo28_1 rfl rfl))) rfl ?_
      refine dc_cons (r := ⟨_, some [16], []⟩) (DStep.plain rfl (fun H1 hH => by exact (by first | exact opd_load1_ref rfl Try.isAgg26 rfl ((hH _ rfl).trans rfl) rfl rfl rfl | exact opd_load1_pad rfl Try.isAgg26 rfl (by first | omega | assumption) rfl))) rfl ?_
      refine dc_cons (r := ⟨_, some [], []⟩) (DStep.plain rfl (fun H1 hH => by exact opd_move rfl rfl)) rfl ?_
      refine dc_cons (r := ⟨_, some [6], []⟩) (DStep.plain rfl (fun H1 hH => by exact (by first | exact opd_field_ref rfl fo28_1 rfl ((hH _ rfl).trans rfl) rfl rfl | exact opd_field_pad rfl fo28_1 rfl rfl))) rfl ?_
      refine dc_cons (r := ⟨_, some [6], []⟩) (DStep.plain rfl (fun H1 hH => by exact (by first | exact opd_load1_ref rfl Try.isAgg26 rfl ((hH _ rfl).trans rfl) rfl rfl rfl | exact opd_load1_pad rfl Try.isAgg26 rfl (by first | omega | assumption) rfl))) rfl ?_
      refine dc_cons (r := ⟨_, some [], []⟩) (DStep.plain rfl (fun H1 hH => by exact opd_move rfl rfl)) rfl ?_
      refine dc_cons (r := ⟨_, some [], []⟩) (DStep.plain rfl (fun H1 hH => by exact (by first | exact x_index_pad rfl so26 rfl rfl (by omega) (by first | exact Int.toNat_natCast _ | rfl) (by assumption) rfl | exact x_index_osl rfl so26 rfl ((hH _ rfl).trans rfl) rfl rfl rfl (by omega) (by first | exact Int.toNat_natCast _ | rfl) (by first | omega | assumption) rfl))) rfl ?_
      refine dc_cons (r := ⟨_, some [], []⟩) (DStep.plain rfl (fun H1 hH => by exact (by first | exact opd_load1_ref rfl Try.isAgg3 rfl ((hH _ rfl).trans rfl) rfl rfl rfl | exact opd_load1_pad rfl Try.isAgg3 rfl (by first | omega | assumption) rfl))) rfl ?_
      refine dc_cons (r := ⟨_, some [107], []⟩) (DStep.plain rfl (fun H1 hH => by exact (by first | exact x_index_pad rfl so26 rfl rfl (by omega) (by first | exact Int.toNat_natCast _ | rfl) (by assumption) rfl | exact x_index_osl rfl so26 rfl ((hH _ rfl).trans rfl) rfl rfl rfl (by omega) (by first | exact Int.toNat_natCast _ | rfl) (by first | omega | assumption) (Nat.zero_add _)))) rfl ?_
      refine dc_cons (r := ⟨_, some [107], [_]⟩) (DStep.plain rfl (fun H1 hH => by exact x_store1 rfl Try.sizeOf3 rfl rfl rfl ((hH 107 rfl).trans rfl) rfl (inRows_get hb2) (by simp) rfl (inRows_set _ _ _))) rfl ?_
      refine dc_nil ⟨by kernel_rfl, ?_⟩
      refine awp_seq ?_
      refine awp_bool (t := 8) (n := 42) (X := true) ?_ ?_
      · all_goals (refine al_d rfl rfl rfl (by exact opd_move rfl rfl) ?_)
        all_goals (refine al_d rfl rfl rfl (by exact opd_move rfl rfl) ?_)
        all_goals (first | refine al_split (t := 135) rfl (fun h135 => ?_) (fun h135 => ?_) | skip)
        all_goals (try contradiction)
        all_goals (first | refine al_off rfl rfl rfl rfl rfl ?_ | refine al_offu rfl rfl rfl rfl ?_ | refine al_ond rfl rfl rfl rfl rfl rfl (by exact (by first | exact opd_loadn_ref rfl Try.isAgg24 Try.sizeOf24 rfl rfl rfl rfl (by simp only [List.drop_succ_cons, List.drop_zero, List.take_succ_cons, List.take_zero, List.take_nil, List.map_cons, List.map_nil, List.set_cons_zero, List.set_cons_succ, List.cons_append, List.nil_append, encTag, encObj, encEdit]; rfl) rfl | exact opd_loadn_pad rfl Try.isAgg24 Try.sizeOf24 rfl (by first | omega | assumption) (by simp only [List.drop_succ_cons, List.drop_zero, List.take_succ_cons, List.take_zero, List.take_nil, List.map_cons, List.map_nil, List.set_cons_zero, List.set_cons_succ, List.cons_append, List.nil_append, encTag, encObj, encEdit]; rfl) rfl)) ?_)
        all_goals (first | refine al_off rfl rfl rfl rfl rfl ?_ | refine al_offu rfl rfl rfl rfl ?_ | refine al_ond rfl rfl rfl rfl rfl rfl (by exact opd_move rfl rfl) ?_)
        all_goals (first | refine al_off rfl rfl rfl rfl rfl ?_ | refine al_offu rfl rfl rfl rfl ?_ | refine al_ond rfl rfl rfl rfl rfl rfl (by exact (by first | exact opd_loadn_ref rfl Try.isAgg28 Try.sizeOf28 rfl rfl rfl rfl (by simp only [List.drop_succ_cons, List.drop_zero, List.take_succ_cons, List.take_zero, List.take_nil, List.map_cons, List.map_nil, List.set_cons_zero, List.set_cons_succ, List.cons_append, List.nil_append, encTag, encObj, encEdit]; rfl) rfl | exact opd_loadn_pad rfl Try.isAgg28 Try.sizeOf28 rfl (by first | omega | assumption) (by simp only [List.drop_succ_cons, List.drop_zero, List.take_succ_cons, List.take_zero, List.take_nil, List.map_cons, List.map_nil, List.set_cons_zero, List.set_cons_succ, List.cons_append, List.nil_append, encTag, encObj, encEdit]; rfl) rfl)) ?_)
        all_goals (first | refine al_off rfl rfl rfl rfl rfl ?_ | refine al_offu rfl rfl rfl rfl ?_ | refine al_ond rfl rfl rfl rfl rfl rfl (by exact opr_call rfl rfl Try.call16 rfl (lentIdx_c m l kind (idx.take k ++ idx.drop (k + 1)) false _ 47 _ _ _ (by rfl) (by rfl) (by exact rows_of encInt _) (by rfl) hm hl (by simp; omega) b1)) ?_)
        all_goals (first | refine al_off rfl rfl rfl rfl rfl ?_ | refine al_offu rfl rfl rfl rfl ?_ | refine al_ond rfl rfl rfl rfl rfl rfl (by exact opd_not rfl rfl) ?_)
        all_goals (refine al_d rfl rfl rfl (by exact (by first | exact opd_pick_t rfl rfl rfl | exact opd_pick_f rfl rfl rfl | exact opd_pickt rfl rfl (by assumption) rfl | exact opd_pickf rfl rfl (by assumption) rfl | exact opd_pick rfl rfl rfl)) ?_)
        all_goals (refine al_d rfl rfl rfl (by exact opd_move rfl rfl) ?_)
        all_goals (first | refine al_split (t := 142) rfl (fun h142 => ?_) (fun h142 => ?_) | skip)
        all_goals (try contradiction)
        all_goals (first | refine al_off rfl rfl rfl rfl rfl ?_ | refine al_offu rfl rfl rfl rfl ?_ | refine al_ond rfl rfl rfl rfl rfl rfl (by exact (by first | exact opd_loadn_ref rfl Try.isAgg24 Try.sizeOf24 rfl rfl rfl rfl (by simp only [List.drop_succ_cons, List.drop_zero, List.take_succ_cons, List.take_zero, List.take_nil, List.map_cons, List.map_nil, List.set_cons_zero, List.set_cons_succ, List.cons_append, List.nil_append, encTag, encObj, encEdit]; rfl) rfl | exact opd_loadn_pad rfl Try.isAgg24 Try.sizeOf24 rfl (by first | omega | assumption) (by simp only [List.drop_succ_cons, List.drop_zero, List.take_succ_cons, List.take_zero, List.take_nil, List.map_cons, List.map_nil, List.set_cons_zero, List.set_cons_succ, List.cons_append, List.nil_append, encTag, encObj, encEdit]; rfl) rfl)) ?_)
        all_goals (first | refine al_off rfl rfl rfl rfl rfl ?_ | refine al_offu rfl rfl rfl rfl ?_ | refine al_ond rfl rfl rfl rfl rfl rfl (by exact opd_move rfl rfl) ?_)
        all_goals (first | refine al_off rfl rfl rfl rfl rfl ?_ | refine al_offu rfl rfl rfl rfl ?_ | refine al_ond rfl rfl rfl rfl rfl rfl (by exact (by first | exact opd_loadn_ref rfl Try.isAgg28 Try.sizeOf28 rfl rfl rfl rfl (by simp only [List.drop_succ_cons, List.drop_zero, List.take_succ_cons, List.take_zero, List.take_nil, List.map_cons, List.map_nil, List.set_cons_zero, List.set_cons_succ, List.cons_append, List.nil_append, encTag, encObj, encEdit]; rfl) rfl | exact opd_loadn_pad rfl Try.isAgg28 Try.sizeOf28 rfl (by first | omega | assumption) (by simp only [List.drop_succ_cons, List.drop_zero, List.take_succ_cons, List.take_zero, List.take_nil, List.map_cons, List.map_nil, List.set_cons_zero, List.set_cons_succ, List.cons_append, List.nil_append, encTag, encObj, encEdit]; rfl) rfl)) ?_)
        all_goals (first | refine al_off rfl rfl rfl rfl rfl ?_ | refine al_offu rfl rfl rfl rfl ?_ | refine al_ond rfl rfl rfl rfl rfl rfl (by exact opr_call rfl rfl Try.call16 rfl (lentIdx_c m l kind (idx.take (k + 1) ++ idx.drop k) false _ 62 _ _ _ (by rfl) (by rfl) (by exact rows_of encInt _) (by rfl) hm hl (by simp; omega) b2)) ?_)
        all_goals (first | refine al_off rfl rfl rfl rfl rfl ?_ | refine al_offu rfl rfl rfl rfl ?_ | refine al_ond rfl rfl rfl rfl rfl rfl (by exact opd_not rfl rfl) ?_)
        all_goals (refine al_d rfl rfl rfl (by exact (by first | exact opd_pick_t rfl rfl rfl | exact opd_pick_f rfl rfl rfl | exact opd_pickt rfl rfl (by assumption) rfl | exact opd_pickf rfl rfl (by assumption) rfl | exact opd_pick rfl rfl rfl)) ?_)
        all_goals (refine al_d rfl rfl rfl (by exact opd_move rfl rfl) ?_)
        all_goals (first | refine al_split (t := 149) rfl (fun h149 => ?_) (fun h149 => ?_) | skip)
        all_goals (try contradiction)
        all_goals (first | refine al_off rfl rfl rfl rfl rfl ?_ | refine al_offu rfl rfl rfl rfl ?_ | refine al_ond rfl rfl rfl rfl rfl rfl (by exact (by first | exact opd_loadn_ref rfl Try.isAgg24 Try.sizeOf24 rfl rfl rfl rfl (by simp only [List.drop_succ_cons, List.drop_zero, List.take_succ_cons, List.take_zero, List.take_nil, List.map_cons, List.map_nil, List.set_cons_zero, List.set_cons_succ, List.cons_append, List.nil_append, encTag, encObj, encEdit]; rfl) rfl | exact opd_loadn_pad rfl Try.isAgg24 Try.sizeOf24 rfl (by first | omega | assumption) (by simp only [List.drop_succ_cons, List.drop_zero, List.take_succ_cons, List.take_zero, List.take_nil, List.map_cons, List.map_nil, List.set_cons_zero, List.set_cons_succ, List.cons_append, List.nil_append, encTag, encObj, encEdit]; rfl) rfl)) ?_)
        all_goals (first | refine al_off rfl rfl rfl rfl rfl ?_ | refine al_offu rfl rfl rfl rfl ?_ | refine al_ond rfl rfl rfl rfl rfl rfl (by exact opd_move rfl rfl) ?_)
        all_goals (first | refine al_off rfl rfl rfl rfl rfl ?_ | refine al_offu rfl rfl rfl rfl ?_ | refine al_ond rfl rfl rfl rfl rfl rfl (by exact (by first | exact opd_loadn_ref rfl Try.isAgg28 Try.sizeOf28 rfl rfl rfl rfl (by simp only [List.drop_succ_cons, List.drop_zero, List.take_succ_cons, List.take_zero, List.take_nil, List.map_cons, List.map_nil, List.set_cons_zero, List.set_cons_succ, List.cons_append, List.nil_append, encTag, encObj, encEdit]; rfl) rfl | exact opd_loadn_pad rfl Try.isAgg28 Try.sizeOf28 rfl (by first | omega | assumption) (by simp only [List.drop_succ_cons, List.drop_zero, List.take_succ_cons, List.take_zero, List.take_nil, List.map_cons, List.map_nil, List.set_cons_zero, List.set_cons_succ, List.cons_append, List.nil_append, encTag, encObj, encEdit]; rfl) rfl)) ?_)
        all_goals (first | refine al_off rfl rfl rfl rfl rfl ?_ | refine al_offu rfl rfl rfl rfl ?_ | refine al_ond rfl rfl rfl rfl rfl rfl (by exact opr_call rfl rfl Try.call16 rfl (lentIdx_c m l kind (idx.set (idx.length - 1) ((l.length : Int) + raw)) false _ 77 _ _ _ (by rfl) (by rfl) (by exact rows_of encInt _) (by simp) hm hl (by simp; omega) b3)) ?_)
        all_goals (first | refine al_off rfl rfl rfl rfl rfl ?_ | refine al_offu rfl rfl rfl rfl ?_ | refine al_ond rfl rfl rfl rfl rfl rfl (by exact opd_not rfl rfl) ?_)
        all_goals (refine al_d rfl rfl rfl (by exact (by first | exact opd_pick_t rfl rfl rfl | exact opd_pick_f rfl rfl rfl | exact opd_pickt rfl rfl (by assumption) rfl | exact opd_pickf rfl rfl (by assumption) rfl | exact opd_pick rfl rfl rfl)) ?_)
        all_goals (refine al_d rfl rfl rfl (by exact opd_move rfl rfl) ?_)
        all_goals (first | refine al_split (t := 156) rfl (fun h156 => ?_) (fun h156 => ?_) | skip)
        all_goals (try contradiction)
        all_goals (first | refine al_off rfl rfl rfl rfl rfl ?_ | refine al_offu rfl rfl rfl rfl ?_ | refine al_ond rfl rfl rfl rfl rfl rfl (by exact (by first | exact opd_loadn_ref rfl Try.isAgg24 Try.sizeOf24 rfl rfl rfl rfl (by simp only [List.drop_succ_cons, List.drop_zero, List.take_succ_cons, List.take_zero, List.take_nil, List.map_cons, List.map_nil, List.set_cons_zero, List.set_cons_succ, List.cons_append, List.nil_append, encTag, encObj, encEdit]; rfl) rfl | exact opd_loadn_pad rfl Try.isAgg24 Try.sizeOf24 rfl (by first | omega | assumption) (by simp only [List.drop_succ_cons, List.drop_zero, List.take_succ_cons, List.take_zero, List.take_nil, List.map_cons, List.map_nil, List.set_cons_zero, List.set_cons_succ, List.cons_append, List.nil_append, encTag, encObj, encEdit]; rfl) rfl)) ?_)
        all_goals (first | refine al_off rfl rfl rfl rfl rfl ?_ | refine al_offu rfl rfl rfl rfl ?_ | refine al_ond rfl rfl rfl rfl rfl rfl (by exact opd_move rfl rfl) ?_)
        all_goals (first | refine al_off rfl rfl rfl rfl rfl ?_ | refine al_offu rfl rfl rfl rfl ?_ | refine al_ond rfl rfl rfl rfl rfl rfl (by exact (by first | exact opd_loadn_ref rfl Try.isAgg28 Try.sizeOf28 rfl rfl rfl rfl (by simp only [List.drop_succ_cons, List.drop_zero, List.take_succ_cons, List.take_zero, List.take_nil, List.map_cons, List.map_nil, List.set_cons_zero, List.set_cons_succ, List.cons_append, List.nil_append, encTag, encObj, encEdit]; rfl) rfl | exact opd_loadn_pad rfl Try.isAgg28 Try.sizeOf28 rfl (by first | omega | assumption) (by simp only [List.drop_succ_cons, List.drop_zero, List.take_succ_cons, List.take_zero, List.take_nil, List.map_cons, List.map_nil, List.set_cons_zero, List.set_cons_succ, List.cons_append, List.nil_append, encTag, encObj, encEdit]; rfl) rfl)) ?_)
        all_goals (first | refine al_off rfl rfl rfl rfl rfl ?_ | refine al_offu rfl rfl rfl rfl ?_ | refine al_ond rfl rfl rfl rfl rfl rfl (by exact opr_call rfl rfl Try.call16 rfl (lentIdx_c m l kind (idx.set 0 (-1 - raw)) false _ 94 _ _ _ (by rfl) (by rfl) (by exact rows_of encInt _) (by simp) hm hl (by simp; omega) b4)) ?_)
        all_goals (first | refine al_off rfl rfl rfl rfl rfl ?_ | refine al_offu rfl rfl rfl rfl ?_ | refine al_ond rfl rfl rfl rfl rfl rfl (by exact opd_not rfl rfl) ?_)
        all_goals (refine al_d rfl rfl rfl (by exact (by first | exact opd_pick_t rfl rfl rfl | exact opd_pick_f rfl rfl rfl | exact opd_pickt rfl rfl (by assumption) rfl | exact opd_pickf rfl rfl (by assumption) rfl | exact opd_pick rfl rfl rfl)) ?_)
        all_goals (refine al_d rfl rfl rfl (by exact opd_move rfl rfl) ?_)
        all_goals (first | refine al_split (t := 163) rfl (fun h163 => ?_) (fun h163 => ?_) | skip)
        all_goals (try contradiction)
        all_goals (first | refine al_off rfl rfl rfl rfl rfl ?_ | refine al_offu rfl rfl rfl rfl ?_ | refine al_ond rfl rfl rfl rfl rfl rfl (by exact (by first | exact opd_loadn_ref rfl Try.isAgg24 Try.sizeOf24 rfl rfl rfl rfl (by simp only [List.drop_succ_cons, List.drop_zero, List.take_succ_cons, List.take_zero, List.take_nil, List.map_cons, List.map_nil, List.set_cons_zero, List.set_cons_succ, List.cons_append, List.nil_append, encTag, encObj, encEdit]; rfl) rfl | exact opd_loadn_pad rfl Try.isAgg24 Try.sizeOf24 rfl (by first | omega | assumption) (by simp only [List.drop_succ_cons, List.drop_zero, List.take_succ_cons, List.take_zero, List.take_nil, List.map_cons, List.map_nil, List.set_cons_zero, List.set_cons_succ, List.cons_append, List.nil_append, encTag, encObj, encEdit]; rfl) rfl)) ?_)
        all_goals (first | refine al_off rfl rfl rfl rfl rfl ?_ | refine al_offu rfl rfl rfl rfl ?_ | refine al_ond rfl rfl rfl rfl rfl rfl (by exact opd_move rfl rfl) ?_)
        all_goals (first | refine al_off rfl rfl rfl rfl rfl ?_ | refine al_offu rfl rfl rfl rfl ?_ | refine al_ond rfl rfl rfl rfl rfl rfl (by exact (by first | exact opd_loadn_ref rfl Try.isAgg28 Try.sizeOf28 rfl rfl rfl rfl (by simp only [List.drop_succ_cons, List.drop_zero, List.take_succ_cons, List.take_zero, List.take_nil, List.map_cons, List.map_nil, List.set_cons_zero, List.set_cons_succ, List.cons_append, List.nil_append, encTag, encObj, encEdit]; rfl) rfl | exact opd_loadn_pad rfl Try.isAgg28 Try.sizeOf28 rfl (by first | omega | assumption) (by simp only [List.drop_succ_cons, List.drop_zero, List.take_succ_cons, List.take_zero, List.take_nil, List.map_cons, List.map_nil, List.set_cons_zero, List.set_cons_succ, List.cons_append, List.nil_append, encTag, encObj, encEdit]; rfl) rfl)) ?_)
        all_goals (first | refine al_off rfl rfl rfl rfl rfl ?_ | refine al_offu rfl rfl rfl rfl ?_ | refine al_ond rfl rfl rfl rfl rfl rfl (by exact opr_call rfl rfl Try.call16 rfl (lentIdx_c m l kind ((idx.set k b).set j a) false _ 107 _ _ _ (by rfl) (by rfl) (by exact rows_of encInt _) (by simp) hm hl (by simp; omega) b5)) ?_)
        all_goals (first | refine al_off rfl rfl rfl rfl rfl ?_ | refine al_offu rfl rfl rfl rfl ?_ | refine al_ond rfl rfl rfl rfl rfl rfl (by exact opd_not rfl rfl) ?_)
        all_goals (refine al_d rfl rfl rfl (by exact (by first | exact opd_pick_t rfl rfl rfl | exact opd_pick_f rfl rfl rfl | exact opd_pickt rfl rfl (by assumption) rfl | exact opd_pickf rfl rfl (by assumption) rfl | exact opd_pick rfl rfl rfl)) ?_)
        all_goals (refine al_d rfl rfl rfl (by exact opd_assign rfl rfl) ?_)
        all_goals (refine al_nil ?_)
        all_goals (exact ⟨⟨_, rfl, by first | rfl | (simp only [*, Bool.false_and, Bool.true_and, Bool.and_false, Bool.and_true, Bool.true_or, Bool.false_or, Bool.or_true, Bool.or_false, Bool.not_true, Bool.not_false]; done) | (simp_all; done) | (simp_all; omega)⟩, rfl, rfl, rfl⟩)
      refine awp_ret ?_
      -- return
      refine aret1 (H' := []) (by first | exact .inr rfl | exact .inl rfl) rfl (rval_tmp rfl) (Fin.wk (by simp) trivial trivial) ?_
      exact ⟨rfl, rfl⟩
end Go.Proofs.Ytljocbkebhgkoaa
