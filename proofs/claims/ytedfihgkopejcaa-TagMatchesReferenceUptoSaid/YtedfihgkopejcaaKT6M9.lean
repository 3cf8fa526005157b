/-
  CONTRACTS: planisphereref08.has, Quote, str. Conditions: lengths below 2^40.
  CONTRACTS: planisphereref08.gap. Conditions: lengths below 2^40.
  CONTRACTS: planisphereref08.next. Conditions: lengths below 2^40.
  CONTRACTS: planisphereref08.Lex: the same as lexer.Lex. Conditions: lengths below 2^40.
  CONTRACTS: planisphereref09.One, Text, Parse. Conditions: lengths below 2^36.
  CONTRACTS: planisphereref09.Parse: the same as tag.Parse. Conditions: lengths below 2^40.
-/
import Derived.Test.YtedfihgkopejcaaKT6M8
section
set_option linter.unusedVariables false
set_option linter.unusedSimpArgs false
set_option maxRecDepth 100000
namespace Go.Proofs.Ytedfihgkopejcaa
open Go.Abs
def hasU (s : ByteArray) (n : Int) : Bool := (List.range s.size).any fun j => decide (byteAt s j = n)
theorem has_c (s : ByteArray) (n : Int) (H : Heap) (hs : s.size < 4611686018427387904) : ACalls Try.prog 76 [sv s, .pv (.int .u8 n)] H (fun r H' => r = bv (hasU s n) ∧ H' = H) := by
  refine ACalls.pure ?_ (by simp) H
  refine ACalls.body Try.func76 rfl Try.ntmps76 (Nat.le_of_ble_eq_true rfl) ?_
  refine awp_seq ?_
  refine awp_region ?_
  refine al_d rfl rfl rfl (by exact opd_assign rfl rfl) ?_
  refine al_nil ?_
  refine awp_seq ?_
  refine awp_seq ?_
  refine awp_region ?_
  refine al_d rfl rfl rfl (by exact opd_assign rfl rfl) ?_
  refine al_nil ?_
  refine awp_block ?_
  -- loop
  refine awp_loop (σ := Nat) (fun k => ([(0, sv s), (1, .pv (.int .u8 n)), (5, iv (k : Int))], [])) (fun k => k ≤ s.size ∧ ∀ j, j < k → decide (byteAt s j = n) = false) (fun k => s.size - k) 0 ⟨by omega, by omega⟩ ?_ ?_
  · exact Ent.e0 ⟨⟨_, rfl, rfl⟩, ⟨_, rfl, rfl⟩, ⟨_, rfl, rfl⟩, trivial⟩
  · rintro k ⟨hk, hno⟩
    refine awp_seq ?_
    refine awp_seq ?_
    refine awp_region ?_
    refine al_d rfl rfl rfl (by exact opd_move rfl rfl) ?_
    refine al_d rfl rfl rfl (by exact opd_move rfl rfl) ?_
    refine al_d rfl rfl rfl (by exact opd_len_str rfl Try.underlying9 rfl) ?_
    refine al_d rfl rfl rfl (by exact opd_lss rfl rfl rfl) ?_
    refine al_nil ?_
    refine awp_cond rfl (fun hc1 => ?_) (fun hc1 => ?_)
    -- cond 1
    · have hlt : k < s.size := by have := of_decide_eq_true hc1; omega
      refine awp_skip ?_
      refine awp_seq ?_
      refine awp_block ?_
      refine awp_seq ?_
      refine awp_region ?_
      refine al_d rfl rfl rfl (by exact opd_move rfl rfl) ?_
      refine al_d rfl rfl rfl (by exact opd_move rfl rfl) ?_
      refine al_d rfl rfl rfl (by exact opd_index_str rfl Try.underlying9 rfl rfl (by omega) (by exact Int.toNat_natCast _) (by omega) rfl) ?_
      refine al_d rfl rfl rfl (by exact opd_move rfl rfl) ?_
      refine al_d rfl rfl rfl (by exact opd_eql rfl rfl rfl) ?_
      refine al_nil ?_
      refine awp_cond rfl (fun hc2 => ?_) (fun hc2 => ?_)
      -- cond 2
      · skip
        refine awp_seq ?_
        refine awp_region ?_
        refine al_d rfl rfl rfl (by exact opd_assign rfl rfl) ?_
        refine al_nil ?_
        refine awp_ret ?_
        -- return
        refine aret1 (H' := []) (by exact .inr rfl) rfl (rval_tmp rfl) (Fin.wk (by simp) trivial trivial) ?_
        exact ⟨by rw [hasU, range_some hlt hc2], rfl⟩
      · skip
        refine awp_skip ?_
        refine awp_region ?_
        refine al_d rfl rfl rfl (by exact opd_move rfl rfl) ?_
        refine al_d rfl rfl rfl (by exact opd_add rfl rfl rfl (by exact w64 (by omega) (by omega))) ?_
        refine al_d rfl rfl rfl (by exact opd_assign rfl rfl) ?_
        refine al_nil ?_
        -- end of a round
        refine ⟨k + 1, ⟨by omega, fun j hj => ?_⟩, by omega, Ent.e0 ⟨⟨_, rfl, rfl⟩, ⟨_, rfl, rfl⟩, ⟨_, rfl, rfl⟩, trivial⟩⟩
        by_cases e : j = k
        · subst e; exact hc2
        · exact hno j (by omega)
    · have hge : k = s.size := by have := of_decide_eq_false hc1; omega
      subst hge
      refine awp_exit ?_
      refine awp_seq ?_
      refine awp_region ?_
      refine al_d rfl rfl rfl (by exact opd_assign rfl rfl) ?_
      refine al_nil ?_
      refine awp_ret ?_
      -- return
      refine aret1 (H' := []) (by exact .inr rfl) rfl (rval_tmp rfl) (Fin.wk (by simp) trivial trivial) ?_
      exact ⟨by rw [hasU, range_any hno], rfl⟩
theorem has_all : ∀ n : Fin 256, (hasU ⟨#[32, 9, 10]⟩ (n.val : Int) = decide (cls (n.val : Int) = 1)) ∧ (decide ((n.val : Int) = 35) = decide (cls (n.val : Int) = 2)) ∧ (hasU ⟨#[59, 44, 46, 58, 40, 41, 123, 125, 91, 93, 61, 60, 62, 47, 45]⟩ (n.val : Int) = decide (cls (n.val : Int) = 6)) ∧ (decide ((n.val : Int) = 34) = decide (cls (n.val : Int) = 7)) ∧ (hasU ⟨#[92, 34, 110]⟩ (n.val : Int) = (gUnesc (UInt8.ofNat n.val)).isSome) := by decide +kernel
theorem has_at (s : ByteArray) (k : Nat) : (hasU ⟨#[32, 9, 10]⟩ (byteAt s k) = decide (cls (byteAt s k) = 1)) ∧ (decide (byteAt s k = 35) = decide (cls (byteAt s k) = 2)) ∧ (hasU ⟨#[59, 44, 46, 58, 40, 41, 123, 125, 91, 93, 61, 60, 62, 47, 45]⟩ (byteAt s k) = decide (cls (byteAt s k) = 6)) ∧ (decide (byteAt s k = 34) = decide (cls (byteAt s k) = 7)) ∧ (hasU ⟨#[92, 34, 110]⟩ (byteAt s k) = (gUnesc (bAt s k)).isSome) := by
  have h := has_all ⟨(byteAt s k).toNat, byteAt_lt s k⟩
  simp only [Int.toNat_of_nonneg (byteAt_nn s k)] at h
  have e : UInt8.ofNat (byteAt s k).toNat = bAt s k := by rw [byteAt_b, Int.toNat_natCast, UInt8.ofNat_toNat]
  rw [e] at h
  exact h
theorem szW (w : List UInt8) : (⟨w.toArray⟩ : ByteArray).size = w.length := by rw [← size_list]
theorem cat_list (w : List UInt8) (t : ByteArray) : (⟨w.toArray⟩ : ByteArray) ++ t = ⟨(w ++ t.data.toList).toArray⟩ := ba_ext (by simp)
theorem extract1 {s : ByteArray} {i : Nat} (h : i < s.size) : (s.extract i (i + 1)).data.toList = [bAt s i] := by
  rw [extract_list, Nat.add_sub_cancel_left, drop_bAt h]
  rfl
theorem str08_c (s : ByteArray) (at0 : Nat) (H : Heap) (hs : s.size < 1099511627776) (ha : at0 < s.size) : ACalls Try.prog 77 [sv s, iv (at0 : Int)] H (fun r H' => r = .tup [sv (unqAt (unqL (s.data.toList.drop (at0 + 1))) [] (at0 + 1)).1, iv (unqAt (unqL (s.data.toList.drop (at0 + 1))) [] (at0 + 1)).2, bv (unqL (s.data.toList.drop (at0 + 1))).isSome] ∧ H' = H) := by
  refine ACalls.pure ?_ (by simp) H
  obtain ⟨res, hres⟩ : ∃ res, res = unqAt (unqL (s.data.toList.drop (at0 + 1))) [] (at0 + 1) := ⟨_, rfl⟩
  obtain ⟨ok, hok⟩ : ∃ ok, ok = (unqL (s.data.toList.drop (at0 + 1))).isSome := ⟨_, rfl⟩
  rw [← hres, ← hok]
  refine ACalls.body Try.func77 rfl Try.ntmps77 (Nat.le_of_ble_eq_true rfl) ?_
  refine awp_seq ?_
  refine awp_region ?_
  refine al_d rfl rfl rfl (by exact opd_assign rfl rfl) ?_
  refine al_d rfl rfl rfl (by exact opd_assign rfl rfl) ?_
  refine al_d rfl rfl rfl (by exact opd_assign rfl rfl) ?_
  refine al_nil ?_
  refine awp_seq ?_
  refine awp_region ?_
  refine al_d rfl rfl rfl (by exact opd_assign rfl rfl) ?_
  refine al_nil ?_
  refine awp_seq ?_
  refine awp_seq ?_
  refine awp_region ?_
  refine al_d rfl rfl rfl (by exact opd_move rfl rfl) ?_
  refine al_d rfl rfl rfl (by exact opd_add rfl rfl rfl (by exact w64 (by omega) (by omega))) ?_
  refine al_d rfl rfl rfl (by exact opd_assign rfl rfl) ?_
  refine al_nil ?_
  refine awp_block ?_
  -- loop
  refine awp_loop2 (fun (i : Nat) (w : List UInt8) => ([(0, sv s), (7, sv ⟨w.toArray⟩), (8, iv (i : Int))], [])) (fun i w => w.length ≤ i ∧ i < 2199023255552 ∧ res = unqAt (unqL (s.data.toList.drop i)) w i ∧ ok = (unqL (s.data.toList.drop i)).isSome) (fun i w => s.size + 1 - i) (at0 + 1) [] ⟨Nat.zero_le _, by omega, hres, hok⟩ ?_ ?_
  · exact Ent.e0 ⟨⟨_, rfl, rfl⟩, ⟨_, rfl, rfl⟩, ⟨_, rfl, rfl⟩, trivial⟩
  · rintro i w ⟨hwl, hib, hinv, hinv2⟩
    have hsw := szW w
    refine awp_seq ?_
    refine awp_seq ?_
    refine awp_region ?_
    refine al_d rfl rfl rfl (by exact opd_move rfl rfl) ?_
    refine al_d rfl rfl rfl (by exact opd_move rfl rfl) ?_
    refine al_d rfl rfl rfl (by exact opd_len_str rfl Try.underlying9 rfl) ?_
    refine al_d rfl rfl rfl (by exact opd_lss rfl rfl rfl) ?_
    refine al_nil ?_
    refine awp_cond rfl (fun hc1 => ?_) (fun hc1 => ?_)
    -- cond 1
    · have hlt : i < s.size := by have := of_decide_eq_true hc1; omega
      have hd := drop_bAt hlt
      have hx1 := extract1 hlt
      have hcat : (⟨w.toArray⟩ : ByteArray) ++ s.extract i (i + 1) = ⟨(w ++ [bAt s i]).toArray⟩ := by rw [cat_list, hx1]
      have hxs := extract_size s i (i + 1)
      refine awp_skip ?_
      refine awp_seq ?_
      refine awp_block ?_
      refine awp_seq ?_
      refine awp_region ?_
      refine al_d rfl rfl rfl (by exact opd_move rfl rfl) ?_
      refine al_d rfl rfl rfl (by exact opd_move rfl rfl) ?_
      refine al_d rfl rfl rfl (by exact opd_index_str rfl Try.underlying9 rfl rfl (by omega) (by exact Int.toNat_natCast _) (by omega) rfl) ?_
      refine al_d rfl rfl rfl (by exact opd_assign rfl rfl) ?_
      refine al_nil ?_
      refine awp_seq ?_
      refine awp_seq ?_
      refine awp_region ?_
      refine al_d rfl rfl rfl (by exact opd_move rfl rfl) ?_
      refine al_d rfl rfl rfl (by exact opd_eql rfl rfl rfl) ?_
      refine al_nil ?_
      refine awp_cond rfl (fun hc2 => ?_) (fun hc2 => ?_)
      -- cond 2
      · have hb : bAt s i = 34 := of_decide_eq_true (b_eq (n := 34) (by decide) hc2)
        have hr : res = (⟨w.toArray⟩, ((i + 1 : Nat) : Int)) := by rw [hinv, hd, hb, unqL_quote, unqAt, List.append_nil]
        have hr2 : ok = true := by rw [hinv2, hd, hb, unqL_quote]; rfl
        rw [hr, hr2]
        refine awp_seq ?_
        refine awp_region ?_
        refine al_d rfl rfl rfl (by exact opd_move rfl rfl) ?_
        refine al_d rfl rfl rfl (by exact opd_move rfl rfl) ?_
        refine al_d rfl rfl rfl (by exact opd_add rfl rfl rfl (by exact w64 (by omega) (by omega))) ?_
        refine al_d rfl rfl rfl (by exact opd_assign rfl rfl) ?_
        refine al_d rfl rfl rfl (by exact opd_assign rfl rfl) ?_
        refine al_d rfl rfl rfl (by exact opd_assign rfl rfl) ?_
        refine al_nil ?_
        refine awp_ret ?_
        -- return
        refine aret3 (H' := []) (by exact .inr rfl) rfl (rval_tmp rfl) (rval_tmp rfl) (rval_tmp rfl) (Fin.wk (by simp) trivial trivial) ?_
        exact ⟨rfl, rfl⟩
      · have hb34 : bAt s i ≠ 34 := of_decide_eq_false (b_eq (n := 34) (by decide) hc2)
        refine awp_skip ?_
        refine awp_seq ?_
        refine awp_seq ?_
        refine awp_region ?_
        refine al_d rfl rfl rfl (by exact opd_move rfl rfl) ?_
        refine al_d rfl rfl rfl (by exact opd_eql rfl rfl rfl) ?_
        refine al_nil ?_
        refine awp_cond rfl (fun hc3 => ?_) (fun hc3 => ?_)
        -- cond 3
        · have hb : bAt s i = 10 := of_decide_eq_true (b_eq (n := 10) (by decide) hc3)
          have hr : res = (sNil, 0) := by rw [hinv, hd, hb, unqL_line, unqAt]
          have hr2 : ok = false := by rw [hinv2, hd, hb, unqL_line]; rfl
          rw [hr, hr2]
          refine awp_seq ?_
          refine awp_region ?_
          refine al_d rfl rfl rfl (by exact opd_assign rfl rfl) ?_
          refine al_d rfl rfl rfl (by exact opd_assign rfl rfl) ?_
          refine al_d rfl rfl rfl (by exact opd_assign rfl rfl) ?_
          refine al_nil ?_
          refine awp_ret ?_
          -- return
          refine aret3 (H' := []) (by exact .inr rfl) rfl (rval_tmp rfl) (rval_tmp rfl) (rval_tmp rfl) (Fin.wk (by simp) trivial trivial) ?_
          exact ⟨rfl, rfl⟩
        · have hb10 : bAt s i ≠ 10 := of_decide_eq_false (b_eq (n := 10) (by decide) hc3)
          refine awp_skip ?_
          refine awp_seq ?_
          refine awp_seq ?_
          refine awp_region ?_
          refine al_d rfl rfl rfl (by exact opd_move rfl rfl) ?_
          refine al_d rfl rfl rfl (by exact opd_neq rfl rfl rfl) ?_
          refine al_nil ?_
          refine awp_cond rfl (fun hc4 => ?_) (fun hc4 => ?_)
          -- cond 4
          · have hb92 : bAt s i ≠ 92 := by
              have h : decide (byteAt s i = 92) = false := by simpa using hc4
              exact of_decide_eq_false (b_eq (n := 92) (by decide) h)
            refine awp_seq ?_
            refine awp_region ?_
            refine al_d rfl rfl rfl (by exact opd_move rfl rfl) ?_
            refine al_d rfl rfl rfl (by exact opd_move rfl rfl) ?_
            refine al_d rfl rfl rfl (by exact opd_move rfl rfl) ?_
            refine al_d rfl rfl rfl (by exact opd_move rfl rfl) ?_
            refine al_d rfl rfl rfl (by exact opd_add rfl rfl rfl (by exact w64 (by omega) (by omega))) ?_
            refine al_d rfl rfl rfl (by exact opd_slice_str (l := i) (h := (i + 1)) rfl Try.underlying9 rfl rfl rfl (by omega) (by omega) rfl) ?_
            refine al_d rfl rfl rfl (by exact opd_sadd rfl rfl rfl (by omega) hcat) ?_
            refine al_d rfl rfl rfl (by exact opd_assign rfl rfl) ?_
            refine al_nil ?_
            refine awp_exit ?_
            refine awp_region ?_
            refine al_d rfl rfl rfl (by exact opd_move rfl rfl) ?_
            refine al_d rfl rfl rfl (by exact opd_add rfl rfl rfl (by exact w64 (by omega) (by omega))) ?_
            refine al_d rfl rfl rfl (by exact opd_assign rfl rfl) ?_
            refine al_nil ?_
            -- end of a round
            refine ⟨i + 1, w ++ [bAt s i], ⟨by rw [List.length_append, List.length_singleton]; omega, by omega, ?_, ?_⟩, by omega, Ent.e0 ⟨⟨_, rfl, rfl⟩, ⟨_, rfl, rfl⟩, ⟨_, rfl, rfl⟩, trivial⟩⟩
            · rw [hinv, hd, unqL_other hb34 hb10 hb92, unqAt_one]
            · rw [hinv2, hd, unqL_other hb34 hb10 hb92, Option.isSome_map]
          · have hb : bAt s i = 92 := by
              have h : decide (byteAt s i = 92) = true := by simpa using hc4
              exact of_decide_eq_true (b_eq (n := 92) (by decide) h)
            by_cases hl2 : i + 1 < s.size
            · have hge : decide ((s.size : Int) ≤ (i : Int) + 1) = false := decide_eq_false (by omega)
              have hd2 := drop_bAt hl2
              have hhas := (has_at s (i + 1)).2.2.2.2
              have hx2 := extract1 hl2
              have hxs2 := extract_size s (i + 1) (i + 1 + 1)
              have hcat2 : (⟨w.toArray⟩ : ByteArray) ++ s.extract (i + 1) (i + 1 + 1) = ⟨(w ++ [bAt s (i + 1)]).toArray⟩ := by rw [cat_list, hx2]
              have hcat3 : (⟨w.toArray⟩ : ByteArray) ++ ⟨#[10]⟩ = ⟨(w ++ [10]).toArray⟩ := by rw [cat_list]
              refine awp_skip ?_
              refine awp_seq ?_
              refine awp_region ?_
              refine al_d rfl rfl rfl (by exact opd_move rfl rfl) ?_
              refine al_d rfl rfl rfl (by exact opd_add rfl rfl rfl (by exact w64 (by omega) (by omega))) ?_
              refine al_d rfl rfl rfl (by exact opd_assign rfl rfl) ?_
              refine al_nil ?_
              refine awp_seq ?_
              refine awp_seq ?_
              refine awp_region ?_
              refine al_d rfl rfl rfl (by exact opd_move rfl rfl) ?_
              refine al_d rfl rfl rfl (by exact opd_move rfl rfl) ?_
              refine al_d rfl rfl rfl (by exact opd_len_str rfl Try.underlying9 rfl) ?_
              refine al_d rfl rfl rfl (by exact OpD.val (by exact opd_geq rfl rfl rfl) (hge)) ?_
              refine al_d rfl rfl rfl (by exact opd_move rfl rfl) ?_
              refine al_ond rfl rfl rfl (by rfl) rfl rfl (by exact opd_move rfl rfl) ?_
              refine al_ond rfl rfl rfl (by rfl) rfl rfl (by exact opd_move rfl rfl) ?_
              refine al_ond rfl rfl rfl (by rfl) rfl rfl (by exact opd_index_str rfl Try.underlying9 rfl rfl (by omega) (by exact Int.toNat_natCast _) (by omega) rfl) ?_
              refine al_ond rfl rfl rfl (by rfl) rfl rfl (by exact opr_call rfl rfl Try.call76 rfl (has_c ⟨#[92, 34, 110]⟩ (byteAt s (i + 1)) _ (by decide))) ?_
              refine al_ond rfl rfl rfl (by rfl) rfl rfl (by exact opd_not rfl rfl) ?_
              refine al_d rfl rfl rfl (by exact (by exact opd_pick_f rfl rfl rfl)) ?_
              refine al_nil ?_
              refine awp_cond rfl (fun hc5 => ?_) (fun hc5 => ?_)
              -- cond 5
              · have hn : gUnesc (bAt s (i + 1)) = none := by
                  rw [hhas] at hc5
                  cases hg : gUnesc (bAt s (i + 1)) with
                  | none => rfl
                  | some b => rw [hg] at hc5; cases hc5
                have hr : res = (sNil, 0) := by rw [hinv, hd, hb, hd2, unqL_bs, hn]; rfl
                have hr2 : ok = false := by rw [hinv2, hd, hb, hd2, unqL_bs, hn]; rfl
                rw [hr, hr2]
                refine awp_seq ?_
                refine awp_region ?_
                refine al_d rfl rfl rfl (by exact opd_assign rfl rfl) ?_
                refine al_d rfl rfl rfl (by exact opd_assign rfl rfl) ?_
                refine al_d rfl rfl rfl (by exact opd_assign rfl rfl) ?_
                refine al_nil ?_
                refine awp_ret ?_
                -- return
                refine aret3 (H' := []) (by exact .inr rfl) rfl (rval_tmp rfl) (rval_tmp rfl) (rval_tmp rfl) (Fin.wk (by simp) trivial trivial) ?_
                exact ⟨rfl, rfl⟩
              · obtain ⟨b, hg⟩ : ∃ b, gUnesc (bAt s (i + 1)) = some b := by
                  rw [hhas] at hc5
                  cases hg : gUnesc (bAt s (i + 1)) with
                  | none => rw [hg] at hc5; cases hc5
                  | some b => exact ⟨b, rfl⟩
                refine awp_skip ?_
                refine awp_seq ?_
                refine awp_region ?_
                refine al_d rfl rfl rfl (by exact opd_move rfl rfl) ?_
                refine al_d rfl rfl rfl (by exact opd_move rfl rfl) ?_
                refine al_d rfl rfl rfl (by exact opd_index_str rfl Try.underlying9 rfl rfl (by omega) (by exact Int.toNat_natCast _) (by omega) rfl) ?_
                refine al_d rfl rfl rfl (by exact opd_eql rfl rfl rfl) ?_
                refine al_nil ?_
                refine awp_cond rfl (fun hc6 => ?_) (fun hc6 => ?_)
                -- cond 6
                · have hb2 : bAt s (i + 1) = 110 := of_decide_eq_true (b_eq (n := 110) (by decide) hc6)
                  have hbb : b = 10 := by rw [hb2] at hg; exact (Option.some.inj hg).symm
                  refine awp_region ?_
                  refine al_d rfl rfl rfl (by exact opd_move rfl rfl) ?_
                  refine al_d rfl rfl rfl (by exact opd_sadd rfl rfl rfl (by show (⟨w.toArray⟩ : ByteArray).size + 1 ≤ _; omega) hcat3) ?_
                  refine al_d rfl rfl rfl (by exact opd_assign rfl rfl) ?_
                  refine al_nil ?_
                  refine awp_region ?_
                  refine al_d rfl rfl rfl (by exact opd_move rfl rfl) ?_
                  refine al_d rfl rfl rfl (by exact opd_add rfl rfl rfl (by exact w64 (by omega) (by omega))) ?_
                  refine al_d rfl rfl rfl (by exact opd_assign rfl rfl) ?_
                  refine al_nil ?_
                  -- end of a round
                  refine ⟨i + 1 + 1, w ++ [10], ⟨by rw [List.length_append, List.length_singleton]; omega, by omega, ?_, ?_⟩, by omega, Ent.e0 ⟨⟨_, rfl, rfl⟩, ⟨_, rfl, rfl⟩, ⟨_, rfl, rfl⟩, trivial⟩⟩
                  · rw [hinv, hd, hb, hd2, unqL_bs, hg, hbb]
                    exact unqAt_one
                  · rw [hinv2, hd, hb, hd2, unqL_bs, hg]
                    exact Option.isSome_map
                · have hb2 : bAt s (i + 1) ≠ 110 := of_decide_eq_false (b_eq (n := 110) (by decide) hc6)
                  have hbb : b = bAt s (i + 1) := by
                    rw [gUnesc] at hg
                    split at hg
                    · rename_i e; rw [e]; exact (Option.some.inj hg).symm
                    · split at hg
                      · rename_i e; rw [e]; exact (Option.some.inj hg).symm
                      · first
                        | cases hg
                        | (rw [if_neg hb2] at hg; cases hg)
                  refine awp_region ?_
                  refine al_d rfl rfl rfl (by exact opd_move rfl rfl) ?_
                  refine al_d rfl rfl rfl (by exact opd_move rfl rfl) ?_
                  refine al_d rfl rfl rfl (by exact opd_move rfl rfl) ?_
                  refine al_d rfl rfl rfl (by exact opd_move rfl rfl) ?_
                  refine al_d rfl rfl rfl (by exact opd_add rfl rfl rfl (by exact w64 (by omega) (by omega))) ?_
                  refine al_d rfl rfl rfl (by exact opd_slice_str (l := (i + 1)) (h := (i + 1 + 1)) rfl Try.underlying9 rfl rfl rfl (by omega) (by omega) rfl) ?_
                  refine al_d rfl rfl rfl (by exact opd_sadd rfl rfl rfl (by omega) hcat2) ?_
                  refine al_d rfl rfl rfl (by exact opd_assign rfl rfl) ?_
                  refine al_nil ?_
                  refine awp_region ?_
                  refine al_d rfl rfl rfl (by exact opd_move rfl rfl) ?_
                  refine al_d rfl rfl rfl (by exact opd_add rfl rfl rfl (by exact w64 (by omega) (by omega))) ?_
                  refine al_d rfl rfl rfl (by exact opd_assign rfl rfl) ?_
                  refine al_nil ?_
                  -- end of a round
                  refine ⟨i + 1 + 1, w ++ [bAt s (i + 1)], ⟨by rw [List.length_append, List.length_singleton]; omega, by omega, ?_, ?_⟩, by omega, Ent.e0 ⟨⟨_, rfl, rfl⟩, ⟨_, rfl, rfl⟩, ⟨_, rfl, rfl⟩, trivial⟩⟩
                  · rw [hinv, hd, hb, hd2, unqL_bs, hg, hbb]
                    exact unqAt_one
                  · rw [hinv2, hd, hb, hd2, unqL_bs, hg]
                    exact Option.isSome_map
            · have hge : decide ((s.size : Int) ≤ (i : Int) + 1) = true := decide_eq_true (by omega)
              have hr : res = (sNil, 0) := by rw [hinv, hd, hb, drop_end (by omega)]; rfl
              have hr2 : ok = false := by rw [hinv2, hd, hb, drop_end (by omega)]; rfl
              rw [hr, hr2]
              refine awp_skip ?_
              refine awp_seq ?_
              refine awp_region ?_
              refine al_d rfl rfl rfl (by exact opd_move rfl rfl) ?_
              refine al_d rfl rfl rfl (by exact opd_add rfl rfl rfl (by exact w64 (by omega) (by omega))) ?_
              refine al_d rfl rfl rfl (by exact opd_assign rfl rfl) ?_
              refine al_nil ?_
              refine awp_seq ?_
              refine awp_seq ?_
              refine awp_region ?_
              refine al_d rfl rfl rfl (by exact opd_move rfl rfl) ?_
              refine al_d rfl rfl rfl (by exact opd_move rfl rfl) ?_
              refine al_d rfl rfl rfl (by exact opd_len_str rfl Try.underlying9 rfl) ?_
              refine al_d rfl rfl rfl (by exact OpD.val (by exact opd_geq rfl rfl rfl) (hge)) ?_
              refine al_d rfl rfl rfl (by exact opd_move rfl rfl) ?_
              refine al_off rfl rfl rfl (by rfl) rfl ?_
              refine al_off rfl rfl rfl (by rfl) rfl ?_
              refine al_off rfl rfl rfl (by rfl) rfl ?_
              refine al_off rfl rfl rfl (by rfl) rfl ?_
              refine al_off rfl rfl rfl (by rfl) rfl ?_
              refine al_d rfl rfl rfl (by exact (by exact opd_pick_t rfl rfl rfl)) ?_
              refine al_nil ?_
              refine awp_cond rfl (fun hc7 => ?_) (fun hc7 => ?_)
              -- cond 7
              · skip
                refine awp_seq ?_
                refine awp_region ?_
                refine al_d rfl rfl rfl (by exact opd_assign rfl rfl) ?_
                refine al_d rfl rfl rfl (by exact opd_assign rfl rfl) ?_
                refine al_d rfl rfl rfl (by exact opd_assign rfl rfl) ?_
                refine al_nil ?_
                refine awp_ret ?_
                -- return
                refine aret3 (H' := []) (by exact .inr rfl) rfl (rval_tmp rfl) (rval_tmp rfl) (rval_tmp rfl) (Fin.wk (by simp) trivial trivial) ?_
                exact ⟨rfl, rfl⟩
              · skip
                ((cases hc7; done))
    · have hge : s.size ≤ i := by have := of_decide_eq_false hc1; omega
      have hr : res = (sNil, 0) := by rw [hinv, drop_end hge]; rfl
      have hr2 : ok = false := by rw [hinv2, drop_end hge]; rfl
      rw [hr, hr2]
      refine awp_exit ?_
      refine awp_seq ?_
      refine awp_region ?_
      refine al_d rfl rfl rfl (by exact opd_assign rfl rfl) ?_
      refine al_d rfl rfl rfl (by exact opd_assign rfl rfl) ?_
      refine al_d rfl rfl rfl (by exact opd_assign rfl rfl) ?_
      refine al_nil ?_
      refine awp_ret ?_
      -- return
      refine aret3 (H' := []) (by exact .inr rfl) rfl (rval_tmp rfl) (rval_tmp rfl) (rval_tmp rfl) (Fin.wk (by simp) trivial trivial) ?_
      exact ⟨rfl, rfl⟩
theorem quote08_c (s : ByteArray) (H : Heap) (hs : s.size < 17592186044416) : ACalls Try.prog 42 [sv s] H (fun r H' => r = sv ⟨(gQuote s.data.toList).toArray⟩ ∧ H' = H) := by
  refine ACalls.pure ?_ (by simp) H
  have hsl := size_list s
  refine ACalls.body Try.func42 rfl Try.ntmps42 (Nat.le_of_ble_eq_true rfl) ?_
  refine awp_seq ?_
  refine awp_region ?_
  refine al_d rfl rfl rfl (by exact opd_assign rfl rfl) ?_
  refine al_nil ?_
  refine awp_seq ?_
  refine awp_region ?_
  refine al_d rfl rfl rfl (by exact opd_assign rfl rfl) ?_
  refine al_nil ?_
  refine awp_seq ?_
  refine awp_region ?_
  refine al_d rfl rfl rfl (by exact opd_assign rfl rfl) ?_
  refine al_nil ?_
  refine awp_seq ?_
  refine awp_seq ?_
  refine awp_region ?_
  refine al_d rfl rfl rfl (by exact opd_assign rfl rfl) ?_
  refine al_nil ?_
  refine awp_block ?_
  -- loop
  refine awp_loop3 (fun (i f : Nat) (w : List UInt8) => ([(0, sv s), (3, sv ⟨w.toArray⟩), (4, iv (f : Int)), (5, iv (i : Int))], [])) (fun i f w => f ≤ i ∧ i ≤ s.size ∧ w.length ≤ (qPre s i).length ∧ w ++ (s.data.toList.drop f).take (i - f) = qPre s i) (fun i f w => s.size - i) 0 0 [34] ⟨Nat.le_refl _, Nat.zero_le _, Nat.le_refl _, rfl⟩ ?_ ?_
  · exact Ent.e0 ⟨⟨_, rfl, rfl⟩, ⟨_, rfl, rfl⟩, ⟨_, rfl, rfl⟩, ⟨_, rfl, rfl⟩, trivial⟩
  · rintro i f w ⟨hf, hi, hwl, hinv⟩
    have hq := qPre_len (s := s) (k := i) hs
    have hsw := szW w
    refine awp_seq ?_
    refine awp_seq ?_
    refine awp_region ?_
    refine al_d rfl rfl rfl (by exact opd_move rfl rfl) ?_
    refine al_d rfl rfl rfl (by exact opd_move rfl rfl) ?_
    refine al_d rfl rfl rfl (by exact opd_len_str rfl Try.underlying9 rfl) ?_
    refine al_d rfl rfl rfl (by exact opd_lss rfl rfl rfl) ?_
    refine al_nil ?_
    refine awp_cond rfl (fun hc1 => ?_) (fun hc1 => ?_)
    -- cond 1
    · have hlt : i < s.size := by have := of_decide_eq_true hc1; omega
      have hnx := qPre_next hlt
      have hexl := extract_list s f i
      have hcat : (⟨w.toArray⟩ : ByteArray) ++ s.extract f i = ⟨(qPre s i).toArray⟩ := by rw [cat_list, hexl, hinv]
      have hsq := szW (qPre s i)
      have hcat2 : (⟨(qPre s i).toArray⟩ : ByteArray) ++ ⟨#[92, 110]⟩ = ⟨(qPre s i ++ [92, 110]).toArray⟩ := by rw [cat_list]
      have hcat3 : (⟨(qPre s i).toArray⟩ : ByteArray) ++ ⟨#[92]⟩ = ⟨(qPre s i ++ [92]).toArray⟩ := by rw [cat_list]
      have hxs := extract_size s f i
      refine awp_skip ?_
      refine awp_seq ?_
      refine awp_block ?_
      refine awp_seq ?_
      refine awp_region ?_
      refine al_d rfl rfl rfl (by exact opd_move rfl rfl) ?_
      refine al_d rfl rfl rfl (by exact opd_move rfl rfl) ?_
      refine al_d rfl rfl rfl (by exact opd_index_str rfl Try.underlying9 rfl rfl (by omega) (by exact Int.toNat_natCast _) (by omega) rfl) ?_
      refine al_d rfl rfl rfl (by exact opd_eql rfl rfl rfl) ?_
      refine al_nil ?_
      refine awp_cond rfl (fun hc2 => ?_) (fun hc2 => ?_)
      -- cond 2
      · have hb : bAt s i = 10 := of_decide_eq_true (b_eq (n := 10) (by decide) hc2)
        have he : gEsc (bAt s i) = [92, 110] := by rw [gEsc, if_pos hb]
        rw [he] at hnx
        refine awp_seq ?_
        refine awp_region ?_
        refine al_d rfl rfl rfl (by exact opd_move rfl rfl) ?_
        refine al_d rfl rfl rfl (by exact opd_move rfl rfl) ?_
        refine al_d rfl rfl rfl (by exact opd_move rfl rfl) ?_
        refine al_d rfl rfl rfl (by exact opd_move rfl rfl) ?_
        refine al_d rfl rfl rfl (by exact opd_slice_str (l := f) (h := i) rfl Try.underlying9 rfl rfl rfl (by omega) (by omega) rfl) ?_
        refine al_d rfl rfl rfl (by exact opd_sadd rfl rfl rfl (by omega) hcat) ?_
        refine al_d rfl rfl rfl (by exact opd_sadd rfl rfl rfl (by show (⟨(qPre s i).toArray⟩ : ByteArray).size + 2 ≤ _; omega) hcat2) ?_
        refine al_d rfl rfl rfl (by exact opd_assign rfl rfl) ?_
        refine al_nil ?_
        refine awp_region ?_
        refine al_d rfl rfl rfl (by exact opd_move rfl rfl) ?_
        refine al_d rfl rfl rfl (by exact opd_add rfl rfl rfl (by exact w64 (by omega) (by omega))) ?_
        refine al_d rfl rfl rfl (by exact opd_assign rfl rfl) ?_
        refine al_nil ?_
        refine awp_region ?_
        refine al_d rfl rfl rfl (by exact opd_move rfl rfl) ?_
        refine al_d rfl rfl rfl (by exact opd_add rfl rfl rfl (by exact w64 (by omega) (by omega))) ?_
        refine al_d rfl rfl rfl (by exact opd_assign rfl rfl) ?_
        refine al_nil ?_
        -- end of a round
        refine ⟨i + 1, i + 1, qPre s i ++ [92, 110], ⟨Nat.le_refl _, hlt, by rw [hnx]; exact Nat.le_refl _, by rw [hnx, Nat.sub_self, List.take_zero, List.append_nil]⟩, by omega, Ent.e0 ⟨⟨_, rfl, rfl⟩, ⟨_, rfl, rfl⟩, ⟨_, rfl, rfl⟩, ⟨_, rfl, rfl⟩, trivial⟩⟩
      · have hb10 : ¬ bAt s i = 10 := of_decide_eq_false (b_eq (n := 10) (by decide) hc2)
        refine awp_seq ?_
        refine awp_bool (t := 34) (n := 11) (X := decide (byteAt s i = 34) || decide (byteAt s i = 92)) ?_ ?_
        · all_goals (refine al_d rfl rfl rfl (by exact opd_move rfl rfl) ?_)
          all_goals (refine al_d rfl rfl rfl (by exact opd_move rfl rfl) ?_)
          all_goals (refine al_d rfl rfl rfl (by exact opd_index_str rfl Try.underlying9 rfl rfl (by omega) (by exact Int.toNat_natCast _) (by omega) rfl) ?_)
          all_goals (refine al_d rfl rfl rfl (by exact opd_eql rfl rfl rfl) ?_)
          all_goals (refine al_d rfl rfl rfl (by exact opd_move rfl rfl) ?_)
          all_goals (refine al_split (t := 29) rfl (fun h29 => ?_) (fun h29 => ?_))
          all_goals (try contradiction)
          all_goals (first | refine al_off rfl rfl rfl rfl rfl ?_ | refine al_ond rfl rfl rfl rfl rfl rfl (by exact opd_move rfl rfl) ?_)
          all_goals (first | refine al_off rfl rfl rfl rfl rfl ?_ | refine al_ond rfl rfl rfl rfl rfl rfl (by exact opd_move rfl rfl) ?_)
          all_goals (first | refine al_off rfl rfl rfl rfl rfl ?_ | refine al_ond rfl rfl rfl rfl rfl rfl (by exact opd_index_str rfl Try.underlying9 rfl rfl (by omega) (by exact Int.toNat_natCast _) (by omega) rfl) ?_)
          all_goals (first | refine al_off rfl rfl rfl rfl rfl ?_ | refine al_ond rfl rfl rfl rfl rfl rfl (by exact opd_eql rfl rfl rfl) ?_)
          all_goals (refine al_d rfl rfl rfl (by exact (by first | exact opd_pick_t rfl rfl rfl | exact opd_pick_f rfl rfl rfl)) ?_)
          all_goals (refine al_nil ?_)
          all_goals (exact ⟨⟨_, rfl, by (rw [h29]; rfl)⟩, rfl, rfl, rfl⟩)
        refine awp_cond rfl (fun hc3 => ?_) (fun hc3 => ?_)
        -- cond 3
        · have hb : bAt s i = 34 ∨ bAt s i = 92 := by
            rw [Bool.or_eq_true] at hc3
            rcases hc3 with h | h
            · exact .inl (of_decide_eq_true (b_eq (n := 34) (by decide) h))
            · exact .inr (of_decide_eq_true (b_eq (n := 92) (by decide) h))
          have he : gEsc (bAt s i) = [92, bAt s i] := by rw [gEsc, if_neg hb10, if_pos hb]
          rw [he] at hnx
          refine awp_seq ?_
          refine awp_region ?_
          refine al_d rfl rfl rfl (by exact opd_move rfl rfl) ?_
          refine al_d rfl rfl rfl (by exact opd_move rfl rfl) ?_
          refine al_d rfl rfl rfl (by exact opd_move rfl rfl) ?_
          refine al_d rfl rfl rfl (by exact opd_move rfl rfl) ?_
          refine al_d rfl rfl rfl (by exact opd_slice_str (l := f) (h := i) rfl Try.underlying9 rfl rfl rfl (by omega) (by omega) rfl) ?_
          refine al_d rfl rfl rfl (by exact opd_sadd rfl rfl rfl (by omega) hcat) ?_
          refine al_d rfl rfl rfl (by exact opd_sadd rfl rfl rfl (by show (⟨(qPre s i).toArray⟩ : ByteArray).size + 1 ≤ _; omega) hcat3) ?_
          refine al_d rfl rfl rfl (by exact opd_assign rfl rfl) ?_
          refine al_nil ?_
          refine awp_region ?_
          refine al_d rfl rfl rfl (by exact opd_move rfl rfl) ?_
          refine al_d rfl rfl rfl (by exact opd_assign rfl rfl) ?_
          refine al_nil ?_
          refine awp_region ?_
          refine al_d rfl rfl rfl (by exact opd_move rfl rfl) ?_
          refine al_d rfl rfl rfl (by exact opd_add rfl rfl rfl (by exact w64 (by omega) (by omega))) ?_
          refine al_d rfl rfl rfl (by exact opd_assign rfl rfl) ?_
          refine al_nil ?_
          -- end of a round
          refine ⟨i + 1, i, qPre s i ++ [92], ⟨Nat.le_succ _, hlt, by rw [hnx, List.length_append, List.length_append]; exact Nat.add_le_add_left (by show 1 ≤ 2; omega) _, by rw [hnx, Nat.add_sub_cancel_left, drop_bAt hlt, List.append_assoc]; rfl⟩, by omega, Ent.e0 ⟨⟨_, rfl, rfl⟩, ⟨_, rfl, rfl⟩, ⟨_, rfl, rfl⟩, ⟨_, rfl, rfl⟩, trivial⟩⟩
        · have hb : ¬ (bAt s i = 34 ∨ bAt s i = 92) := by
            rw [Bool.or_eq_false_iff] at hc3
            rintro (h | h)
            · exact absurd h (of_decide_eq_false (b_eq (n := 34) (by decide) hc3.1))
            · exact absurd h (of_decide_eq_false (b_eq (n := 92) (by decide) hc3.2))
          have he : gEsc (bAt s i) = [bAt s i] := by rw [gEsc, if_neg hb10, if_neg hb]
          rw [he] at hnx
          have htk : (s.data.toList.drop f).take (i + 1 - f) = (s.data.toList.drop f).take (i - f) ++ [bAt s i] := by
            have e1 : i + 1 - f = (i - f) + 1 := by omega
            have e2 : (s.data.toList.drop f)[i - f]? = some (bAt s i) := by
              rw [List.getElem?_drop, show f + (i - f) = i by omega]
              have hd := drop_bAt hlt
              exact (head_of hd).1
            rw [e1, List.take_add_one, e2]
            rfl
          refine awp_skip ?_
          refine awp_region ?_
          refine al_d rfl rfl rfl (by exact opd_move rfl rfl) ?_
          refine al_d rfl rfl rfl (by exact opd_add rfl rfl rfl (by exact w64 (by omega) (by omega))) ?_
          refine al_d rfl rfl rfl (by exact opd_assign rfl rfl) ?_
          refine al_nil ?_
          -- end of a round
          refine ⟨i + 1, f, w, ⟨by omega, hlt, by rw [hnx, List.length_append]; omega, by rw [htk, ← List.append_assoc, hinv, hnx]⟩, by omega, Ent.e0 ⟨⟨_, rfl, rfl⟩, ⟨_, rfl, rfl⟩, ⟨_, rfl, rfl⟩, ⟨_, rfl, rfl⟩, trivial⟩⟩
    · have hge : i = s.size := by have := of_decide_eq_false hc1; omega
      subst hge
      have hexl := extract_list s f s.size
      have hcat : (⟨w.toArray⟩ : ByteArray) ++ s.extract f s.size = ⟨(qPre s s.size).toArray⟩ := by rw [cat_list, hexl, hinv]
      have hsq := szW (qPre s s.size)
      have hxs := extract_size s f s.size
      have hend : (⟨(qPre s s.size).toArray⟩ : ByteArray) ++ ⟨#[34]⟩ = ⟨(gQuote s.data.toList).toArray⟩ := by
        rw [cat_list, qPre, List.take_of_length_le (by omega), gQuote]
        rfl
      refine awp_exit ?_
      refine awp_seq ?_
      refine awp_region ?_
      refine al_d rfl rfl rfl (by exact opd_move rfl rfl) ?_
      refine al_d rfl rfl rfl (by exact opd_move rfl rfl) ?_
      refine al_d rfl rfl rfl (by exact opd_move rfl rfl) ?_
      refine al_d rfl rfl rfl (by exact opd_slice_str (l := f) (h := s.size) rfl Try.underlying9 rfl rfl rfl (by omega) (by omega) rfl) ?_
      refine al_d rfl rfl rfl (by exact opd_sadd rfl rfl rfl (by omega) hcat) ?_
      refine al_d rfl rfl rfl (by exact opd_sadd rfl rfl rfl (by show (⟨(qPre s s.size).toArray⟩ : ByteArray).size + 1 ≤ _; omega) hend) ?_
      refine al_d rfl rfl rfl (by exact opd_assign rfl rfl) ?_
      refine al_nil ?_
      refine awp_ret ?_
      -- return
      refine aret1 (H' := []) (by exact .inr rfl) rfl (rval_tmp rfl) (Fin.wk (by simp) trivial trivial) ?_
      exact ⟨rfl, rfl⟩
end Go.Proofs.Ytedfihgkopejcaa
end
section
set_option linter.unusedVariables false
set_option linter.unusedSimpArgs false
set_option maxRecDepth 100000
namespace Go.Proofs.Ytedfihgkopejcaa
open Go.Abs
theorem pLine_first {s : ByteArray} {i : Nat} (hi : i < s.size) (h : atC s i = 2) : pLine s i = true := by
  rw [atC, if_pos hi] at h
  have h2 := (has_at s i).2.1
  rw [h] at h2
  have e : byteAt s i = 35 := of_decide_eq_true (h2.trans rfl)
  rw [pLine, decide_eq_true hi, e]
  rfl
theorem step_none {s : ByteArray} {i j : Nat} (h : gStep s i = (none, j)) (hi : i < s.size) : i < j ∧ j ≤ s.size := by
  rw [gStep] at h
  split at h
  · cases h; omega
  · split at h
    · rename_i h2
      cases h
      have hp := pLine_first hi h2
      obtain ⟨l1, l2⟩ := scan_le (pLine s) (s.size - i) i
      rw [lineEnd]
      refine ⟨?_, by omega⟩
      rcases Nat.lt_or_ge i (scan (pLine s) (s.size - i) i) with h | h
      · exact h
      · have e : scan (pLine s) (s.size - i) i = i := by omega
        have := scan_stop (pLine s) (s.size - i) i (by omega)
        rw [e, hp] at this; cases this
    · split at h
      · cases h
      · split at h
        · cases h
        · split at h
          · cases h
          · split at h <;> cases h
theorem toks_fuel (s : ByteArray) : ∀ (n m i : Nat), s.size - i < n → s.size - i < m → gToks s n i = gToks s m i
  | 0, _, _, h, _ => by omega
  | _ + 1, 0, _, _, h => by omega
  | n + 1, m + 1, i, h1, h2 => by
    rw [gToks, gToks]
    by_cases hi : i < s.size
    · rw [if_pos hi, if_pos hi]
      cases hs : gStep s i with
      | mk o j =>
        cases o with
        | none =>
          have := step_none hs hi
          exact toks_fuel s n m j (by omega) (by omega)
        | some f =>
          show f :: _ = f :: _
          congr 1
          by_cases he : f.err = 0
          · have := step_go hs he hi
            rw [if_pos he, if_pos he]
            exact toks_fuel s n m j (by omega) (by omega)
          · rw [if_neg he, if_neg he]
    · rw [if_neg hi, if_neg hi]
/-- The tokens from a place on. -/
def toks (s : ByteArray) (i : Nat) : List GFound := gToks s (s.size + 1) i
theorem toks_none {s : ByteArray} {i j : Nat} (hi : i < s.size) (h : gStep s i = (none, j)) : toks s i = toks s j := by
  have := step_none h hi
  rw [toks, gToks, if_pos hi, h]
  exact toks_fuel s _ _ j (by omega) (by omega)
theorem toks_some {s : ByteArray} {i j : Nat} {f : GFound} (hi : i < s.size) (h : gStep s i = (some f, j)) (he : f.err = 0) : toks s i = f :: toks s j := by
  have := step_go h he hi
  rw [toks, gToks, if_pos hi, h]
  show f :: (if f.err = 0 then _ else _) = _
  rw [if_pos he]
  congr 1
  exact toks_fuel s _ _ j (by omega) (by omega)
theorem toks_err {s : ByteArray} {i j : Nat} {f : GFound} (hi : i < s.size) (h : gStep s i = (some f, j)) (he : f.err ≠ 0) : toks s i = [f] := by
  rw [toks, gToks, if_pos hi, h]
  show f :: (if f.err = 0 then _ else _) = _
  rw [if_neg he]
theorem toks_end {s : ByteArray} {i : Nat} (hi : ¬ i < s.size) : toks s i = [] := by rw [toks, gToks, if_neg hi]
theorem gap08_c (s : ByteArray) (i0 : Nat) (H : Heap) (hs : s.size < 1099511627776) (h0 : i0 ≤ s.size) : ACalls Try.prog 62 [sv s, iv (i0 : Int)] H (fun r H' => ∃ j, r = iv ((j : Nat) : Int) ∧ i0 ≤ j ∧ j ≤ s.size ∧ toks s i0 = toks s j ∧ (j < s.size → atC s j ≠ 1 ∧ atC s j ≠ 2) ∧ H' = H) := by
  refine ACalls.body Try.func62 rfl Try.ntmps62 (Nat.le_of_ble_eq_true rfl) ?_
  refine awp_seq ?_
  refine awp_region ?_
  refine al_d rfl rfl rfl (by exact opd_assign rfl rfl) ?_
  refine al_nil ?_
  refine awp_seq ?_
  refine awp_block ?_
  -- loop
  refine awp_loop (σ := Nat) (fun i => ([(0, sv s), (1, iv (i : Int))], H)) (fun i => i0 ≤ i ∧ i ≤ s.size ∧ toks s i0 = toks s i) (fun i => s.size - i) i0 ⟨Nat.le_refl _, h0, rfl⟩ ?_ ?_
  · exact Ent.e0 ⟨⟨_, rfl, rfl⟩, ⟨_, rfl, rfl⟩, trivial⟩
  · rintro i ⟨hge, hi, hinv⟩
    refine awp_seq ?_
    refine awp_seq ?_
    refine awp_region ?_
    refine al_d rfl rfl rfl (by exact opd_move rfl rfl) ?_
    refine al_d rfl rfl rfl (by exact opd_move rfl rfl) ?_
    refine al_d rfl rfl rfl (by exact opd_len_str rfl Try.underlying9 rfl) ?_
    refine al_d rfl rfl rfl (by exact opd_lss rfl rfl rfl) ?_
    refine al_nil ?_
    refine awp_cond rfl (fun hc1 => ?_) (fun hc1 => ?_)
    -- cond 1
    · have hlt : i < s.size := by have := of_decide_eq_true hc1; omega
      have hat : atC s i = cls (byteAt s i) := by rw [atC, if_pos hlt]
      obtain ⟨q1, q2, _⟩ := has_at s i
      rw [← hat] at q1 q2
      refine awp_skip ?_
      refine awp_block ?_
      refine awp_seq ?_
      refine awp_region ?_
      refine al_d rfl rfl rfl (by exact opd_move rfl rfl) ?_
      refine al_d rfl rfl rfl (by exact opd_move rfl rfl) ?_
      refine al_d rfl rfl rfl (by exact opd_index_str rfl Try.underlying9 rfl rfl (by omega) (by exact Int.toNat_natCast _) (by omega) rfl) ?_
      refine al_d rfl rfl rfl (by exact opr_call rfl rfl Try.call76 rfl (has_c ⟨#[32, 9, 10]⟩ (byteAt s i) _ (by decide))) ?_
      refine al_nil ?_
      refine awp_cond rfl (fun hc2 => ?_) (fun hc2 => ?_)
      -- cond 2
      · have h1 : atC s i = 1 := of_decide_eq_true (q1.symm.trans hc2)
        have hst : gStep s i = (none, i + 1) := by rw [gStep, if_pos h1]
        refine awp_region ?_
        refine al_d rfl rfl rfl (by exact opd_move rfl rfl) ?_
        refine al_d rfl rfl rfl (by exact opd_add rfl rfl rfl (by exact w64 (by omega) (by omega))) ?_
        refine al_d rfl rfl rfl (by exact opd_assign rfl rfl) ?_
        refine al_nil ?_
        -- end of a round
        exact ⟨i + 1, ⟨by omega, hlt, hinv.trans (toks_none hlt hst)⟩, by omega, Ent.e0 ⟨⟨_, rfl, rfl⟩, ⟨_, rfl, rfl⟩, trivial⟩⟩
      · have h1 : atC s i ≠ 1 := of_decide_eq_false (q1.symm.trans hc2)
        refine awp_seq ?_
        refine awp_region ?_
        refine al_d rfl rfl rfl (by exact opd_move rfl rfl) ?_
        refine al_d rfl rfl rfl (by exact opd_move rfl rfl) ?_
        refine al_d rfl rfl rfl (by exact opd_index_str rfl Try.underlying9 rfl rfl (by omega) (by exact Int.toNat_natCast _) (by omega) rfl) ?_
        refine al_d rfl rfl rfl (by exact opd_eql rfl rfl rfl) ?_
        refine al_nil ?_
        refine awp_cond rfl (fun hc3 => ?_) (fun hc3 => ?_)
        -- cond 3
        · have h2 : atC s i = 2 := of_decide_eq_true (q2.symm.trans hc3)
          have hst : gStep s i = (none, lineEnd s i) := by rw [gStep, if_neg h1, if_pos h2]
          refine awp_block ?_
          -- loop
          refine awp_loop (σ := Nat) (fun k => ([(0, sv s), (1, iv (k : Int))], H)) (fun k => i ≤ k ∧ k ≤ s.size ∧ ∀ j, i ≤ j → j < k → pLine s j = true) (fun k => s.size - k) i ⟨Nat.le_refl _, hi, fun j h1 h2 => by omega⟩ ?_ ?_
          · exact Ent.e0 ⟨⟨_, rfl, rfl⟩, ⟨_, rfl, rfl⟩, trivial⟩
          · rintro k ⟨hik, hk, hall⟩
            refine awp_seq ?_
            refine awp_seq ?_
            refine awp_bool (t := 28) (n := 11) (X := decide ((k : Int) < (s.size : Int)) && !decide (byteAt s k = 10)) ?_ ?_
            · all_goals (refine al_d rfl rfl rfl (by exact opd_move rfl rfl) ?_)
              all_goals (refine al_d rfl rfl rfl (by exact opd_move rfl rfl) ?_)
              all_goals (refine al_d rfl rfl rfl (by exact opd_len_str rfl Try.underlying9 rfl) ?_)
              all_goals (refine al_d rfl rfl rfl (by exact opd_lss rfl rfl rfl) ?_)
              all_goals (refine al_d rfl rfl rfl (by exact opd_move rfl rfl) ?_)
              all_goals (refine al_split (t := 23) rfl (fun h23 => ?_) (fun h23 => ?_))
              all_goals (try contradiction)
              all_goals (first | refine al_off rfl rfl rfl rfl rfl ?_ | refine al_ond rfl rfl rfl rfl rfl rfl (by exact opd_move rfl rfl) ?_)
              all_goals (first | refine al_off rfl rfl rfl rfl rfl ?_ | refine al_ond rfl rfl rfl rfl rfl rfl (by exact opd_move rfl rfl) ?_)
              all_goals (first | refine al_off rfl rfl rfl rfl rfl ?_ | refine al_ond rfl rfl rfl rfl rfl rfl (by exact opd_index_str rfl Try.underlying9 rfl rfl (by omega) (by exact Int.toNat_natCast _) (by have := of_decide_eq_true h23; omega) rfl) ?_)
              all_goals (first | refine al_off rfl rfl rfl rfl rfl ?_ | refine al_ond rfl rfl rfl rfl rfl rfl (by exact opd_neq rfl rfl rfl) ?_)
              all_goals (refine al_d rfl rfl rfl (by exact (by first | exact opd_pick_t rfl rfl rfl | exact opd_pick_f rfl rfl rfl)) ?_)
              all_goals (refine al_nil ?_)
              all_goals (exact ⟨⟨_, rfl, by (rw [h23]; rfl)⟩, rfl, rfl, rfl⟩)
            refine awp_cond rfl (fun hc4 => ?_) (fun hc4 => ?_)
            -- cond 4
            · have h := hc4
              rw [Bool.and_eq_true, decide_eq_true_eq] at h
              have hkl : k < s.size := by omega
              have hp : pLine s k = true := by rw [pLine, decide_eq_true hkl, Bool.true_and]; exact h.2
              refine awp_skip ?_
              refine awp_block ?_
              refine awp_region ?_
              refine al_d rfl rfl rfl (by exact opd_move rfl rfl) ?_
              refine al_d rfl rfl rfl (by exact opd_add rfl rfl rfl (by exact w64 (by omega) (by omega))) ?_
              refine al_d rfl rfl rfl (by exact opd_assign rfl rfl) ?_
              refine al_nil ?_
              -- end of a round
              refine ⟨k + 1, ⟨by omega, hkl, fun j h1 h2 => ?_⟩, by omega, Ent.e0 ⟨⟨_, rfl, rfl⟩, ⟨_, rfl, rfl⟩, trivial⟩⟩
              rcases Nat.lt_or_ge j k with h | h
              · exact hall j h1 h
              · obtain rfl : j = k := by omega
                exact hp
            · have hend : lineEnd s i = k := by
                refine scan_eq (pLine s) hik (by omega) hall ?_
                rcases Nat.lt_or_ge k s.size with h | h
                · left
                  have h' := hc4
                  rw [decide_eq_true (show (k : Int) < (s.size : Int) by omega), Bool.true_and] at h'
                  rw [pLine, h', Bool.and_false]
                · right; omega
              rw [hend] at hst
              have hgo := step_none hst hlt
              refine awp_exit ?_
              -- end of a round
              exact ⟨k, ⟨by omega, hk, hinv.trans (toks_none hlt hst)⟩, by omega, Ent.e0 ⟨⟨_, rfl, rfl⟩, ⟨_, rfl, rfl⟩, trivial⟩⟩
        · have h2 : atC s i ≠ 2 := of_decide_eq_false (q2.symm.trans hc3)
          refine awp_seq ?_
          refine awp_region ?_
          refine al_d rfl rfl rfl (by exact opd_move rfl rfl) ?_
          refine al_d rfl rfl rfl (by exact opd_assign rfl rfl) ?_
          refine al_nil ?_
          refine awp_ret ?_
          -- return
          refine aret1 (H' := H) (by exact .inr rfl) rfl (rval_tmp rfl) Fin.refl ?_
          exact ⟨i, rfl, hge, hi, hinv, fun _ => ⟨h1, h2⟩, rfl⟩
    · have hge2 : i = s.size := by have := of_decide_eq_false hc1; omega
      subst hge2
      refine awp_exit ?_
      refine awp_seq ?_
      refine awp_region ?_
      refine al_d rfl rfl rfl (by exact opd_move rfl rfl) ?_
      refine al_d rfl rfl rfl (by exact opd_assign rfl rfl) ?_
      refine al_nil ?_
      refine awp_ret ?_
      -- return
      refine aret1 (H' := H) (by exact .inr rfl) rfl (rval_tmp rfl) Fin.refl ?_
      exact ⟨s.size, rfl, hge, hi, hinv, fun h => absurd h (Nat.lt_irrefl _), rfl⟩
end Go.Proofs.Ytedfihgkopejcaa
end
section
set_option linter.unusedVariables false
set_option linter.unusedSimpArgs false
set_option maxRecDepth 100000
namespace Go.Proofs.Ytedfihgkopejcaa
open Go.Abs

def zTok : GFound := ⟨0, sNil, 0, 0⟩
/-- The token at a place, where it ends, the error. -/
def nx08 (s : ByteArray) (i : Nat) : GFound × Int × Int := match gStep s i with
  | (some f, j) => if f.err = 0 then (f, (j : Int), 0) else (zTok, 0, f.err)
  | (none, _) => (zTok, 0, 0)
theorem nx_good {s : ByteArray} {i j : Nat} {f : GFound} (h : gStep s i = (some f, j)) (he : f.err = 0) : nx08 s i = (f, (j : Int), 0) := by
  rw [nx08, h]
  exact if_pos he
theorem nx_bad {s : ByteArray} {i j : Nat} {f : GFound} (h : gStep s i = (some f, j)) (he : f.err ≠ 0) : nx08 s i = (zTok, 0, f.err) := by
  rw [nx08, h]
  exact if_neg he
theorem pWord_isW {s : ByteArray} {k : Nat} (h : k < s.size) : pWord s k = isW (byteAt s k) := by
  obtain ⟨c1, c2, c3⟩ := cls_eq s k
  have hat : atC s k = cls (byteAt s k) := by rw [atC, if_pos h]
  rw [pWord, hat, c1, c2, c3]
  rfl
theorem pDig_isD {s : ByteArray} {k : Nat} (h : k < s.size) : pDig s k = isDig (byteAt s k) := by
  obtain ⟨c1, c2, c3⟩ := cls_eq s k
  have hat : atC s k = cls (byteAt s k) := by rw [atC, if_pos h]
  rw [pDig, hat, c2]
def resN (p : GFound × Int × Int) : AV := .tup [av (encTok p.1), iv p.2.1, iv p.2.2]
theorem str08_n {s : ByteArray} {i : Nat} {H : Heap} (hs : s.size < 1099511627776) (hi : i < s.size) (hu : unqL (s.data.toList.drop (i + 1)) = none) : ACalls Try.prog 77 [sv s, iv (i : Int)] H (fun r H' => r = .tup [sv sNil, iv 0, bv false] ∧ H' = H) := by
  have := str08_c s i H hs hi
  rwa [hu] at this
theorem str08_s {s : ByteArray} {i : Nat} {H : Heap} {p : List UInt8 × Nat} (hs : s.size < 1099511627776) (hi : i < s.size) (hu : unqL (s.data.toList.drop (i + 1)) = some p) : ACalls Try.prog 77 [sv s, iv (i : Int)] H (fun r H' => r = .tup [sv ⟨p.1.toArray⟩, iv ((i + (p.2 + 1) : Nat) : Int), bv true] ∧ H' = H) := by
  have := str08_c s i H hs hi
  rw [hu] at this
  have e : unqAt (some p) [] (i + 1) = (⟨p.1.toArray⟩, ((i + (p.2 + 1) : Nat) : Int)) := by
    show ((⟨([] ++ p.1).toArray⟩ : ByteArray), ((i + 1 + p.2 : Nat) : Int)) = _
    rw [List.nil_append, show i + 1 + p.2 = i + (p.2 + 1) by omega]
  rw [e] at this
  exact this
theorem next08_c (s : ByteArray) (i : Nat) (H : Heap) (hs : s.size < 1099511627776) (hi : i < s.size) (hn1 : atC s i ≠ 1) (hn2 : atC s i ≠ 2) : ACalls Try.prog 63 [sv s, iv (i : Int)] H (fun r H' => r = resN (nx08 s i) ∧ H' = H) := by
  refine ACalls.pure ?_ (by simp [resN]) H
  have hat : atC s i = cls (byteAt s i) := by rw [atC, if_pos hi]
  obtain ⟨c1, c2, c3⟩ := cls_eq s i
  obtain ⟨q1, q2, q3, q4, q5⟩ := has_at s i
  rw [← hat] at c1 c2 c3 q1 q2 q3 q4
  refine ACalls.body Try.func63 rfl Try.ntmps63 (Nat.le_of_ble_eq_true rfl) ?_
  refine awp_seq ?_
  refine awp_region ?_
  refine al_d rfl rfl rfl (by exact x_alloc (id := 4) rfl zo78 rfl rfl) ?_
  refine al_d rfl rfl rfl (by exact opd_assign rfl rfl) ?_
  refine al_d rfl rfl rfl (by exact opd_assign rfl rfl) ?_
  refine al_nil ?_
  refine awp_seq ?_
  refine awp_region ?_
  refine al_d rfl rfl rfl (by exact opd_move rfl rfl) ?_
  refine al_d rfl rfl rfl (by exact opd_add rfl rfl rfl (by exact w64 (by omega) (by omega))) ?_
  refine al_d rfl rfl rfl (by exact opd_assign rfl rfl) ?_
  refine al_nil ?_
  refine awp_seq ?_
  refine awp_region ?_
  refine al_d rfl rfl rfl (by exact opd_move rfl rfl) ?_
  refine al_d rfl rfl rfl (by exact opd_move rfl rfl) ?_
  refine al_d rfl rfl rfl (by exact opd_index_str rfl Try.underlying9 rfl rfl (by omega) (by exact Int.toNat_natCast _) hi rfl) ?_
  refine al_d rfl rfl rfl (by exact opd_assign rfl rfl) ?_
  refine al_nil ?_
  refine awp_seq ?_
  refine awp_seq ?_
  refine awp_region ?_
  refine al_d rfl rfl rfl (by exact opd_move rfl rfl) ?_
  refine al_d rfl rfl rfl (by exact opr_call rfl rfl Try.call51 rfl (rLetter_c (byteAt s i) _)) ?_
  refine al_nil ?_
  refine awp_cond rfl (fun hc1 => ?_) (fun hc1 => ?_)
  -- cond 1
  · have h3 : atC s i = 3 := of_decide_eq_true (c1.trans hc1)
    have hst : gStep s i = (some (gWordT s i (wordEnd s i)), wordEnd s i) := by rw [gStep, if_neg hn1, if_neg hn2, if_pos h3]
    refine awp_seq ?_
    refine awp_block ?_
    -- loop
    refine awp_loop (σ := Nat) (fun k => ([(0, sv s), (1, iv (i : Int)), (4, .ref 4 0 0 0), (7, iv (k : Int))], [(4, bx 3 78 [iv 0, sv sNil, iv 0])])) (fun k => i < k ∧ k ≤ s.size ∧ ∀ j, i ≤ j → j < k → pWord s j = true) (fun k => s.size - k) (i + 1) ⟨Nat.lt_succ_self _, hi, fun j h1 h2 => ?_⟩ ?_ ?_
    · obtain rfl : j = i := by omega
      rw [pWord, h3]; rfl
    · exact (Ent.wk ⟨⟨_, rfl, rfl⟩, (by (simp; done)), ⟨_, rfl, rfl⟩, (by (simp; done)), ⟨_, rfl, rfl⟩, (by (simp; rfl)), ⟨_, rfl, rfl⟩, (by (simp; done)), trivial⟩ ⟨⟨_, rfl, rfl⟩, (by (simp; done)), trivial⟩ trivial)
    · rintro k ⟨hik, hk, hall⟩
      refine awp_seq ?_
      refine awp_seq ?_
      refine awp_bool (t := 28) (n := 11) (X := decide ((k : Int) < (s.size : Int)) && isW (byteAt s k)) ?_ ?_
      · all_goals (refine al_d rfl rfl rfl (by exact opd_move rfl rfl) ?_)
        all_goals (refine al_d rfl rfl rfl (by exact opd_move rfl rfl) ?_)
        all_goals (refine al_d rfl rfl rfl (by exact opd_len_str rfl Try.underlying9 rfl) ?_)
        all_goals (refine al_d rfl rfl rfl (by exact opd_lss rfl rfl rfl) ?_)
        all_goals (refine al_d rfl rfl rfl (by exact opd_move rfl rfl) ?_)
        all_goals (refine al_split (t := 23) rfl (fun h23 => ?_) (fun h23 => ?_))
        all_goals (try contradiction)
        all_goals (first | refine al_off rfl rfl rfl rfl rfl ?_ | refine al_ond rfl rfl rfl rfl rfl rfl (by exact opd_move rfl rfl) ?_)
        all_goals (first | refine al_off rfl rfl rfl rfl rfl ?_ | refine al_ond rfl rfl rfl rfl rfl rfl (by exact opd_move rfl rfl) ?_)
        all_goals (first | refine al_off rfl rfl rfl rfl rfl ?_ | refine al_ond rfl rfl rfl rfl rfl rfl (by exact opd_index_str rfl Try.underlying9 rfl rfl (by omega) (by exact Int.toNat_natCast _) (by have := of_decide_eq_true h23; omega) rfl) ?_)
        all_goals (first | refine al_off rfl rfl rfl rfl rfl ?_ | refine al_ond rfl rfl rfl rfl rfl rfl (by exact opr_call rfl rfl Try.call50 rfl (rWord_c (byteAt s k) _)) ?_)
        all_goals (refine al_d rfl rfl rfl (by exact (by first | exact opd_pick_t rfl rfl rfl | exact opd_pick_f rfl rfl rfl)) ?_)
        all_goals (refine al_nil ?_)
        all_goals (exact ⟨⟨_, rfl, by (rw [h23]; rfl)⟩, rfl, rfl, rfl⟩)
      refine awp_cond rfl (fun hc2 => ?_) (fun hc2 => ?_)
      -- cond 2
      · have h := hc2
        rw [Bool.and_eq_true, decide_eq_true_eq] at h
        have hkl : k < s.size := by omega
        have hp : pWord s k = true := by rw [pWord_isW hkl]; exact h.2
        refine awp_skip ?_
        refine awp_block ?_
        refine awp_region ?_
        refine al_d rfl rfl rfl (by exact opd_move rfl rfl) ?_
        refine al_d rfl rfl rfl (by exact opd_add rfl rfl rfl (by exact w64 (by omega) (by omega))) ?_
        refine al_d rfl rfl rfl (by exact opd_assign rfl rfl) ?_
        refine al_nil ?_
        -- end of a round
        refine ⟨k + 1, ⟨by omega, hkl, fun j h1 h2 => ?_⟩, by omega, (Ent.wk ⟨⟨_, rfl, rfl⟩, (by (simp; done)), ⟨_, rfl, rfl⟩, (by (simp; done)), ⟨_, rfl, rfl⟩, (by (simp; rfl)), ⟨_, rfl, rfl⟩, (by (simp; done)), trivial⟩ ⟨⟨_, rfl, rfl⟩, (by (simp; done)), trivial⟩ trivial)⟩
        rcases Nat.lt_or_ge j k with h | h
        · exact hall j h1 h
        · obtain rfl : j = k := by omega
          exact hp
      · have hend : wordEnd s i = k := by
          refine scan_eq (pWord s) (Nat.le_of_lt hik) (by omega) hall ?_
          rcases Nat.lt_or_ge k s.size with h | h
          · left
            have h' := hc2
            rw [decide_eq_true (show (k : Int) < (s.size : Int) by omega), Bool.true_and] at h'
            rw [pWord_isW h, h']
          · right; omega
        rw [hend] at hst
        have hsub : IntKind.i64.wrap ((k : Int) - (i : Int)) = ((k - i : Nat) : Int) := by rw [IntKind.wrap_i64]; omega
        refine awp_exit ?_
        refine awp_seq ?_
        refine awp_seq ?_
        refine awp_region ?_
        refine al_d rfl rfl rfl (by exact opd_move rfl rfl) ?_
        refine al_d rfl rfl rfl (by exact opd_move rfl rfl) ?_
        refine al_d rfl rfl rfl (by exact opd_sub rfl rfl rfl hsub) ?_
        refine al_d rfl rfl rfl (by exact opd_gtr rfl rfl rfl) ?_
        refine al_nil ?_
        refine awp_cond rfl (fun hc3 => ?_) (fun hc3 => ?_)
        -- cond 3
        · have h24 : 24 < k - i := by have := of_decide_eq_true hc3; omega
          have hb := nx_bad hst (by show (if 24 < k - i then (2 : Int) else 0) ≠ 0; rw [if_pos h24]; decide)
          have he : (gWordT s i k).err = 2 := if_pos h24
          rw [he] at hb
          rw [hb]
          refine awp_seq ?_
          refine awp_region ?_
          refine al_d rfl rfl rfl (by exact x_build rfl bo78 rfl rfl) ?_
          refine al_n rfl rfl (by exact (by exact x_store_all rfl Try.sizeOf78 rfl rfl rfl rfl rfl rfl rfl rfl)) ?_
          refine al_d rfl rfl rfl (by exact opd_assign rfl rfl) ?_
          refine al_d rfl rfl rfl (by exact opd_assign rfl rfl) ?_
          refine al_nil ?_
          refine awp_ret ?_
          -- return
          refine aret3 (H' := []) (by exact .inr rfl) rfl (rval_cell rfl Try.isAgg78 Try.sizeOf78 rfl rfl rfl rfl rfl) (rval_tmp rfl) (rval_tmp rfl) (Fin.wk (r := .tup [.agg [iv 0, sv sNil, iv 0], iv 0, iv 2]) (by simp) trivial trivial) ?_
          exact ⟨rfl, rfl⟩
        · have h24 : ¬ 24 < k - i := by have := of_decide_eq_false hc3; omega
          have he : (gWordT s i k).err = 0 := if_neg h24
          rw [nx_good hst he]
          refine awp_skip ?_
          refine awp_seq ?_
          refine awp_region ?_
          refine al_d rfl rfl rfl (by exact opd_move rfl rfl) ?_
          refine al_d rfl rfl rfl (by exact opd_move rfl rfl) ?_
          refine al_d rfl rfl rfl (by exact opd_move rfl rfl) ?_
          refine al_d rfl rfl rfl (by exact opd_slice_str (l := i) (h := k) rfl Try.underlying9 rfl rfl rfl (by omega) (by omega) rfl) ?_
          refine al_d rfl rfl rfl (by exact opd_move rfl rfl) ?_
          refine al_d rfl rfl rfl (by exact x_build rfl bo78 rfl rfl) ?_
          refine al_d rfl rfl rfl (by exact opd_move rfl rfl) ?_
          refine al_n rfl rfl (by exact (by exact x_store_all rfl Try.sizeOf78 rfl rfl rfl rfl rfl rfl rfl rfl)) ?_
          refine al_d rfl rfl rfl (by exact opd_assign rfl rfl) ?_
          refine al_d rfl rfl rfl (by exact opd_assign rfl rfl) ?_
          refine al_nil ?_
          refine awp_ret ?_
          -- return
          refine aret3 (H' := []) (by exact .inr rfl) rfl (rval_cell rfl Try.isAgg78 Try.sizeOf78 rfl rfl rfl rfl rfl) (rval_tmp rfl) (rval_tmp rfl) (Fin.wk (r := .tup [.agg [iv 1, sv (s.extract i k), iv (i : Int)], iv ((k : Nat) : Int), iv 0]) (by simp) trivial trivial) ?_
          exact ⟨rfl, rfl⟩
  · have h3 : atC s i ≠ 3 := of_decide_eq_false (c1.trans hc1)
    refine awp_skip ?_
    refine awp_seq ?_
    refine awp_seq ?_
    refine awp_region ?_
    refine al_d rfl rfl rfl (by exact opd_move rfl rfl) ?_
    refine al_d rfl rfl rfl (by exact opr_call rfl rfl Try.call67 rfl (rDigit_c (byteAt s i) _)) ?_
    refine al_nil ?_
    refine awp_cond rfl (fun hc4 => ?_) (fun hc4 => ?_)
    -- cond 4
    · have h4 : atC s i = 4 := of_decide_eq_true (c2.trans hc4)
      have hst : gStep s i = (some (gNum s i (digEnd s i)), digEnd s i) := by rw [gStep, if_neg hn1, if_neg hn2, if_neg h3, if_pos h4]
      refine awp_seq ?_
      refine awp_block ?_
      -- loop
      refine awp_loop (σ := Nat) (fun k => ([(0, sv s), (1, iv (i : Int)), (4, .ref 4 0 0 0), (7, iv (k : Int))], [(4, bx 3 78 [iv 0, sv sNil, iv 0])])) (fun k => i < k ∧ k ≤ s.size ∧ ∀ j, i ≤ j → j < k → pDig s j = true) (fun k => s.size - k) (i + 1) ⟨Nat.lt_succ_self _, hi, fun j h1 h2 => ?_⟩ ?_ ?_
      · obtain rfl : j = i := by omega
        rw [pDig, h4]; rfl
      · exact (Ent.wk ⟨⟨_, rfl, rfl⟩, (by (simp; done)), ⟨_, rfl, rfl⟩, (by (simp; done)), ⟨_, rfl, rfl⟩, (by (simp; rfl)), ⟨_, rfl, rfl⟩, (by (simp; done)), trivial⟩ ⟨⟨_, rfl, rfl⟩, (by (simp; done)), trivial⟩ trivial)
      · rintro k ⟨hik, hk, hall⟩
        refine awp_seq ?_
        refine awp_seq ?_
        refine awp_bool (t := 54) (n := 11) (X := decide ((k : Int) < (s.size : Int)) && isDig (byteAt s k)) ?_ ?_
        · all_goals (refine al_d rfl rfl rfl (by exact opd_move rfl rfl) ?_)
          all_goals (refine al_d rfl rfl rfl (by exact opd_move rfl rfl) ?_)
          all_goals (refine al_d rfl rfl rfl (by exact opd_len_str rfl Try.underlying9 rfl) ?_)
          all_goals (refine al_d rfl rfl rfl (by exact opd_lss rfl rfl rfl) ?_)
          all_goals (refine al_d rfl rfl rfl (by exact opd_move rfl rfl) ?_)
          all_goals (refine al_split (t := 49) rfl (fun h49 => ?_) (fun h49 => ?_))
          all_goals (try contradiction)
          all_goals (first | refine al_off rfl rfl rfl rfl rfl ?_ | refine al_ond rfl rfl rfl rfl rfl rfl (by exact opd_move rfl rfl) ?_)
          all_goals (first | refine al_off rfl rfl rfl rfl rfl ?_ | refine al_ond rfl rfl rfl rfl rfl rfl (by exact opd_move rfl rfl) ?_)
          all_goals (first | refine al_off rfl rfl rfl rfl rfl ?_ | refine al_ond rfl rfl rfl rfl rfl rfl (by exact opd_index_str rfl Try.underlying9 rfl rfl (by omega) (by exact Int.toNat_natCast _) (by have := of_decide_eq_true h49; omega) rfl) ?_)
          all_goals (first | refine al_off rfl rfl rfl rfl rfl ?_ | refine al_ond rfl rfl rfl rfl rfl rfl (by exact opr_call rfl rfl Try.call67 rfl (rDigit_c (byteAt s k) _)) ?_)
          all_goals (refine al_d rfl rfl rfl (by exact (by first | exact opd_pick_t rfl rfl rfl | exact opd_pick_f rfl rfl rfl)) ?_)
          all_goals (refine al_nil ?_)
          all_goals (exact ⟨⟨_, rfl, by (rw [h49]; rfl)⟩, rfl, rfl, rfl⟩)
        refine awp_cond rfl (fun hc5 => ?_) (fun hc5 => ?_)
        -- cond 5
        · have h := hc5
          rw [Bool.and_eq_true, decide_eq_true_eq] at h
          have hkl : k < s.size := by omega
          have hp : pDig s k = true := by rw [pDig_isD hkl]; exact h.2
          refine awp_skip ?_
          refine awp_block ?_
          refine awp_region ?_
          refine al_d rfl rfl rfl (by exact opd_move rfl rfl) ?_
          refine al_d rfl rfl rfl (by exact opd_add rfl rfl rfl (by exact w64 (by omega) (by omega))) ?_
          refine al_d rfl rfl rfl (by exact opd_assign rfl rfl) ?_
          refine al_nil ?_
          -- end of a round
          refine ⟨k + 1, ⟨by omega, hkl, fun j h1 h2 => ?_⟩, by omega, (Ent.wk ⟨⟨_, rfl, rfl⟩, (by (simp; done)), ⟨_, rfl, rfl⟩, (by (simp; done)), ⟨_, rfl, rfl⟩, (by (simp; rfl)), ⟨_, rfl, rfl⟩, (by (simp; done)), trivial⟩ ⟨⟨_, rfl, rfl⟩, (by (simp; done)), trivial⟩ trivial)⟩
          rcases Nat.lt_or_ge j k with h | h
          · exact hall j h1 h
          · obtain rfl : j = k := by omega
            exact hp
        · have hstop : k < s.size → isDig (byteAt s k) = false := fun h => by
            have h' := hc5
            rwa [decide_eq_true (show (k : Int) < (s.size : Int) by omega), Bool.true_and] at h'
          have hend : digEnd s i = k := by
            refine scan_eq (pDig s) (Nat.le_of_lt hik) (by omega) hall ?_
            rcases Nat.lt_or_ge k s.size with h | h
            · left
              rw [pDig_isD h, hstop h]
            · right; omega
          rw [hend] at hst
          have hsub : IntKind.i64.wrap ((k : Int) - (i : Int)) = ((k - i : Nat) : Int) := by rw [IntKind.wrap_i64]; omega
          have hw : (decide ((k : Int) < (s.size : Int)) && isW (byteAt s k)) = (decide (atC s k = 3) || decide (atC s k = 5)) := by
            rcases Nat.lt_or_ge k s.size with h | h
            · obtain ⟨d1, d2, d3⟩ := cls_eq s k
              rw [atC, if_pos h, d1, d3, isW, hstop h, Bool.or_false, decide_eq_true (show (k : Int) < (s.size : Int) by omega), Bool.true_and]
            · rw [atC, if_neg (by omega), decide_eq_false (show ¬ (k : Int) < (s.size : Int) by omega)]
              rfl
          refine awp_exit ?_
          refine awp_seq ?_
          refine awp_seq ?_
          refine awp_bool (t := 72) (n := 18) (X := decide (7 < ((k - i : Nat) : Int)) || (decide ((k : Int) < (s.size : Int)) && isW (byteAt s k))) ?_ ?_
          · all_goals (refine al_d rfl rfl rfl (by exact opd_move rfl rfl) ?_)
            all_goals (refine al_d rfl rfl rfl (by exact opd_move rfl rfl) ?_)
            all_goals (refine al_d rfl rfl rfl (by exact opd_sub rfl rfl rfl hsub) ?_)
            all_goals (refine al_d rfl rfl rfl (by exact opd_gtr rfl rfl rfl) ?_)
            all_goals (refine al_d rfl rfl rfl (by exact opd_move rfl rfl) ?_)
            all_goals (refine al_split (t := 61) rfl (fun h61 => ?_) (fun h61 => ?_))
            all_goals (try contradiction)
            all_goals (first | refine al_off rfl rfl rfl rfl rfl ?_ | refine al_ond rfl rfl rfl rfl rfl rfl (by exact opd_move rfl rfl) ?_)
            all_goals (first | refine al_off rfl rfl rfl rfl rfl ?_ | refine al_ond rfl rfl rfl rfl rfl rfl (by exact opd_move rfl rfl) ?_)
            all_goals (first | refine al_off rfl rfl rfl rfl rfl ?_ | refine al_ond rfl rfl rfl rfl rfl rfl (by exact opd_len_str rfl Try.underlying9 rfl) ?_)
            all_goals (first | refine al_off rfl rfl rfl rfl rfl ?_ | refine al_ond rfl rfl rfl rfl rfl rfl (by exact opd_lss rfl rfl rfl) ?_)
            all_goals (first | refine al_off rfl rfl rfl rfl rfl ?_ | refine al_ond rfl rfl rfl rfl rfl rfl (by exact opd_move rfl rfl) ?_)
            all_goals (first | refine al_split (t := 66) rfl (fun h66 => ?_) (fun h66 => ?_) | refine al_dup (t := 66) rfl ?_)
            all_goals (try contradiction)
            all_goals (first | refine al_off rfl rfl rfl rfl rfl ?_ | refine al_offu rfl rfl rfl rfl ?_ | refine al_ond rfl rfl rfl rfl rfl rfl (by exact opd_move rfl rfl) ?_)
            all_goals (first | refine al_off rfl rfl rfl rfl rfl ?_ | refine al_offu rfl rfl rfl rfl ?_ | refine al_ond rfl rfl rfl rfl rfl rfl (by exact opd_move rfl rfl) ?_)
            all_goals (first | refine al_off rfl rfl rfl rfl rfl ?_ | refine al_offu rfl rfl rfl rfl ?_ | refine al_ond rfl rfl rfl rfl rfl rfl (by exact opd_index_str rfl Try.underlying9 rfl rfl (by omega) (by exact Int.toNat_natCast _) (by have := of_decide_eq_true h66; omega) rfl) ?_)
            all_goals (first | refine al_off rfl rfl rfl rfl rfl ?_ | refine al_offu rfl rfl rfl rfl ?_ | refine al_ond rfl rfl rfl rfl rfl rfl (by exact opr_call rfl rfl Try.call50 rfl (rWord_c (byteAt s k) _)) ?_)
            all_goals (first | refine al_off rfl rfl rfl rfl rfl ?_ | refine al_ond rfl rfl rfl rfl rfl rfl (by exact (by first | exact opd_pick_t rfl rfl rfl | exact opd_pick_f rfl rfl rfl)) ?_)
            all_goals (refine al_d rfl rfl rfl (by exact (by first | exact opd_pick_t rfl rfl rfl | exact opd_pick_f rfl rfl rfl)) ?_)
            all_goals (refine al_nil ?_)
            all_goals (exact ⟨⟨_, rfl, by first | (rw [h61]; rfl) | (rw [h61, h66]; rfl)⟩, rfl, rfl, rfl⟩)
          refine awp_cond rfl (fun hc6 => ?_) (fun hc6 => ?_)
          -- cond 6
          · have hE : (gNum s i k).err = 4 := by
              have h := hc6
              rw [hw, ← Bool.or_assoc] at h
              have e7 : decide (7 < ((k - i : Nat) : Int)) = decide (7 < k - i) := by rw [Bool.eq_iff_iff, decide_eq_true_eq, decide_eq_true_eq]; omega
              rw [e7] at h
              exact if_pos h
            have hb := nx_bad hst (by rw [hE]; decide)
            rw [hE] at hb
            rw [hb]
            refine awp_seq ?_
            refine awp_region ?_
            refine al_d rfl rfl rfl (by exact x_build rfl bo78 rfl rfl) ?_
            refine al_n rfl rfl (by exact (by exact x_store_all rfl Try.sizeOf78 rfl rfl rfl rfl rfl rfl rfl rfl)) ?_
            refine al_d rfl rfl rfl (by exact opd_assign rfl rfl) ?_
            refine al_d rfl rfl rfl (by exact opd_assign rfl rfl) ?_
            refine al_nil ?_
            refine awp_ret ?_
            -- return
            refine aret3 (H' := []) (by exact .inr rfl) rfl (rval_cell rfl Try.isAgg78 Try.sizeOf78 rfl rfl rfl rfl rfl) (rval_tmp rfl) (rval_tmp rfl) (Fin.wk (r := .tup [.agg [iv 0, sv sNil, iv 0], iv 0, iv 4]) (by simp) trivial trivial) ?_
            exact ⟨rfl, rfl⟩
          · have hE : (gNum s i k).err = 0 := by
              have h := hc6
              rw [hw, ← Bool.or_assoc] at h
              have e7 : decide (7 < ((k - i : Nat) : Int)) = decide (7 < k - i) := by rw [Bool.eq_iff_iff, decide_eq_true_eq, decide_eq_true_eq]; omega
              rw [e7] at h
              exact if_neg (by rw [h]; simp)
            rw [nx_good hst hE]
            refine awp_skip ?_
            refine awp_seq ?_
            refine awp_region ?_
            refine al_d rfl rfl rfl (by exact opd_move rfl rfl) ?_
            refine al_d rfl rfl rfl (by exact opd_move rfl rfl) ?_
            refine al_d rfl rfl rfl (by exact opd_move rfl rfl) ?_
            refine al_d rfl rfl rfl (by exact opd_slice_str (l := i) (h := k) rfl Try.underlying9 rfl rfl rfl (by omega) (by omega) rfl) ?_
            refine al_d rfl rfl rfl (by exact opd_move rfl rfl) ?_
            refine al_d rfl rfl rfl (by exact x_build rfl bo78 rfl rfl) ?_
            refine al_d rfl rfl rfl (by exact opd_move rfl rfl) ?_
            refine al_n rfl rfl (by exact (by exact x_store_all rfl Try.sizeOf78 rfl rfl rfl rfl rfl rfl rfl rfl)) ?_
            refine al_d rfl rfl rfl (by exact opd_assign rfl rfl) ?_
            refine al_d rfl rfl rfl (by exact opd_assign rfl rfl) ?_
            refine al_nil ?_
            refine awp_ret ?_
            -- return
            refine aret3 (H' := []) (by exact .inr rfl) rfl (rval_cell rfl Try.isAgg78 Try.sizeOf78 rfl rfl rfl rfl rfl) (rval_tmp rfl) (rval_tmp rfl) (Fin.wk (r := .tup [.agg [iv 2, sv (s.extract i k), iv (i : Int)], iv ((k : Nat) : Int), iv 0]) (by simp) trivial trivial) ?_
            exact ⟨rfl, rfl⟩
    · have h4 : atC s i ≠ 4 := of_decide_eq_false (c2.trans hc4)
      refine awp_skip ?_
      refine awp_seq ?_
      refine awp_seq ?_
      refine awp_region ?_
      refine al_d rfl rfl rfl (by exact opd_move rfl rfl) ?_
      refine al_d rfl rfl rfl (by exact opd_eql rfl rfl rfl) ?_
      refine al_nil ?_
      refine awp_cond rfl (fun hc7 => ?_) (fun hc7 => ?_)
      -- cond 7
      · have h7 : atC s i = 7 := of_decide_eq_true (q4.symm.trans hc7)
        have hst : gStep s i = (some (gStr s i).1, (gStr s i).2) := by rw [gStep, if_neg hn1, if_neg hn2, if_neg h3, if_neg h4, if_pos h7]
        have hdr : (s.extract i s.size).data.toList.drop 1 = s.data.toList.drop (i + 1) := by rw [extract_end, List.drop_drop]
        cases hu : unqL (s.data.toList.drop (i + 1)) with
        | none =>
          have hun : gUnq (s.extract i s.size) = (sNil, 0) := by rw [gUnq, hdr, hu]
          have hg : gStr s i = (noTok i, i) := by rw [gStr, hun]; rfl
          rw [hg] at hst
          have hb := nx_bad hst (by show (3 : Int) ≠ 0; decide)
          rw [hb]
          refine awp_seq ?_
          refine awp_region ?_
          refine al_d rfl rfl rfl (by exact opd_move rfl rfl) ?_
          refine al_d rfl rfl rfl (by exact opd_move rfl rfl) ?_
          refine al_d rfl rfl rfl (by exact opr_call rfl rfl Try.call77 rfl (str08_n hs hi hu)) ?_
          refine al_d rfl rfl rfl (by exact opd_move rfl rfl) ?_
          refine al_d rfl rfl rfl (by exact opd_extract rfl rfl rfl) ?_
          refine al_d rfl rfl rfl (by exact opd_extract rfl rfl rfl) ?_
          refine al_d rfl rfl rfl (by exact opd_extract rfl rfl rfl) ?_
          refine al_d rfl rfl rfl (by exact opd_assign rfl rfl) ?_
          refine al_d rfl rfl rfl (by exact opd_assign rfl rfl) ?_
          refine al_d rfl rfl rfl (by exact opd_assign rfl rfl) ?_
          refine al_nil ?_
          refine awp_seq ?_
          refine awp_seq ?_
          refine awp_region ?_
          refine al_d rfl rfl rfl (by exact opd_move rfl rfl) ?_
          refine al_d rfl rfl rfl (by exact opd_not rfl rfl) ?_
          refine al_nil ?_
          refine awp_cond rfl (fun hc8 => ?_) (fun hc8 => ?_)
          -- cond 8
          · skip
            refine awp_seq ?_
            refine awp_region ?_
            refine al_d rfl rfl rfl (by exact x_build rfl bo78 rfl rfl) ?_
            refine al_n rfl rfl (by exact (by exact x_store_all rfl Try.sizeOf78 rfl rfl rfl rfl rfl rfl rfl rfl)) ?_
            refine al_d rfl rfl rfl (by exact opd_assign rfl rfl) ?_
            refine al_d rfl rfl rfl (by exact opd_assign rfl rfl) ?_
            refine al_nil ?_
            refine awp_ret ?_
            -- return
            refine aret3 (H' := []) (by exact .inr rfl) rfl (rval_cell rfl Try.isAgg78 Try.sizeOf78 rfl rfl rfl rfl rfl) (rval_tmp rfl) (rval_tmp rfl) (Fin.wk (r := .tup [.agg [iv 0, sv sNil, iv 0], iv 0, iv 3]) (by simp) trivial trivial) ?_
            exact ⟨rfl, rfl⟩
          · skip
            ((cases hc8; done))
        | some p =>
          have hun : gUnq (s.extract i s.size) = (⟨p.1.toArray⟩, ((p.2 + 1 : Nat) : Int)) := by rw [gUnq, hdr, hu]
          have hg : gStr s i = (⟨3, ⟨p.1.toArray⟩, i, 0⟩, i + (p.2 + 1)) := by
            rw [gStr, hun, if_pos (by show (0 : Int) < ((_ : Nat) : Int); omega)]
            rfl
          rw [hg] at hst
          rw [nx_good hst rfl]
          refine awp_seq ?_
          refine awp_region ?_
          refine al_d rfl rfl rfl (by exact opd_move rfl rfl) ?_
          refine al_d rfl rfl rfl (by exact opd_move rfl rfl) ?_
          refine al_d rfl rfl rfl (by exact opr_call rfl rfl Try.call77 rfl (str08_s hs hi hu)) ?_
          refine al_d rfl rfl rfl (by exact opd_move rfl rfl) ?_
          refine al_d rfl rfl rfl (by exact opd_extract rfl rfl rfl) ?_
          refine al_d rfl rfl rfl (by exact opd_extract rfl rfl rfl) ?_
          refine al_d rfl rfl rfl (by exact opd_extract rfl rfl rfl) ?_
          refine al_d rfl rfl rfl (by exact opd_assign rfl rfl) ?_
          refine al_d rfl rfl rfl (by exact opd_assign rfl rfl) ?_
          refine al_d rfl rfl rfl (by exact opd_assign rfl rfl) ?_
          refine al_nil ?_
          refine awp_seq ?_
          refine awp_seq ?_
          refine awp_region ?_
          refine al_d rfl rfl rfl (by exact opd_move rfl rfl) ?_
          refine al_d rfl rfl rfl (by exact opd_not rfl rfl) ?_
          refine al_nil ?_
          refine awp_cond rfl (fun hc9 => ?_) (fun hc9 => ?_)
          -- cond 9
          · skip
            ((cases hc9; done))
          · skip
            refine awp_skip ?_
            refine awp_seq ?_
            refine awp_region ?_
            refine al_d rfl rfl rfl (by exact opd_move rfl rfl) ?_
            refine al_d rfl rfl rfl (by exact opd_move rfl rfl) ?_
            refine al_d rfl rfl rfl (by exact x_build rfl bo78 rfl rfl) ?_
            refine al_d rfl rfl rfl (by exact opd_move rfl rfl) ?_
            refine al_n rfl rfl (by exact (by exact x_store_all rfl Try.sizeOf78 rfl rfl rfl rfl rfl rfl rfl rfl)) ?_
            refine al_d rfl rfl rfl (by exact opd_assign rfl rfl) ?_
            refine al_d rfl rfl rfl (by exact opd_assign rfl rfl) ?_
            refine al_nil ?_
            refine awp_ret ?_
            -- return
            refine aret3 (H' := []) (by exact .inr rfl) rfl (rval_cell rfl Try.isAgg78 Try.sizeOf78 rfl rfl rfl rfl rfl) (rval_tmp rfl) (rval_tmp rfl) (Fin.wk (r := .tup [.agg [iv 3, sv (⟨p.1.toArray⟩), iv (i : Int)], iv ((i + (p.2 + 1) : Nat) : Int), iv 0]) (by simp) trivial trivial) ?_
            exact ⟨rfl, rfl⟩
      · have h7 : atC s i ≠ 7 := of_decide_eq_false (q4.symm.trans hc7)
        refine awp_skip ?_
        refine awp_seq ?_
        refine awp_seq ?_
        refine awp_region ?_
        refine al_d rfl rfl rfl (by exact opd_move rfl rfl) ?_
        refine al_d rfl rfl rfl (by exact opr_call rfl rfl Try.call76 rfl (has_c ⟨#[59, 44, 46, 58, 40, 41, 123, 125, 91, 93, 61, 60, 62, 47, 45]⟩ (byteAt s i) _ (by decide))) ?_
        refine al_d rfl rfl rfl (by exact opd_not rfl rfl) ?_
        refine al_nil ?_
        refine awp_cond rfl (fun hc10 => ?_) (fun hc10 => ?_)
        -- cond 10
        · have h6 : atC s i ≠ 6 := by
            have h : (!hasU ⟨#[59, 44, 46, 58, 40, 41, 123, 125, 91, 93, 61, 60, 62, 47, 45]⟩ (byteAt s i)) = true := hc10
            rw [q3] at h
            simpa using h
          have hst : gStep s i = (some (noTok i), i) := by rw [gStep, if_neg hn1, if_neg hn2, if_neg h3, if_neg h4, if_neg h7, if_neg h6]
          have hb := nx_bad hst (by show (3 : Int) ≠ 0; decide)
          rw [hb]
          refine awp_seq ?_
          refine awp_region ?_
          refine al_d rfl rfl rfl (by exact x_build rfl bo78 rfl rfl) ?_
          refine al_n rfl rfl (by exact (by exact x_store_all rfl Try.sizeOf78 rfl rfl rfl rfl rfl rfl rfl rfl)) ?_
          refine al_d rfl rfl rfl (by exact opd_assign rfl rfl) ?_
          refine al_d rfl rfl rfl (by exact opd_assign rfl rfl) ?_
          refine al_nil ?_
          refine awp_ret ?_
          -- return
          refine aret3 (H' := []) (by exact .inr rfl) rfl (rval_cell rfl Try.isAgg78 Try.sizeOf78 rfl rfl rfl rfl rfl) (rval_tmp rfl) (rval_tmp rfl) (Fin.wk (r := .tup [.agg [iv 0, sv sNil, iv 0], iv 0, iv 3]) (by simp) trivial trivial) ?_
          exact ⟨rfl, rfl⟩
        · have h6 : atC s i = 6 := by
            have h : (!hasU ⟨#[59, 44, 46, 58, 40, 41, 123, 125, 91, 93, 61, 60, 62, 47, 45]⟩ (byteAt s i)) = false := hc10
            rw [q3] at h
            simpa using h
          have hst : gStep s i = (some ⟨4, s.extract i (i + 1), i, 0⟩, i + 1) := by rw [gStep, if_neg hn1, if_neg hn2, if_neg h3, if_neg h4, if_neg h7, if_pos h6]
          rw [nx_good hst rfl]
          refine awp_skip ?_
          refine awp_seq ?_
          refine awp_region ?_
          refine al_d rfl rfl rfl (by exact opd_move rfl rfl) ?_
          refine al_d rfl rfl rfl (by exact opd_move rfl rfl) ?_
          refine al_d rfl rfl rfl (by exact opd_move rfl rfl) ?_
          refine al_d rfl rfl rfl (by exact opd_slice_str (l := i) (h := (i + 1)) rfl Try.underlying9 rfl rfl rfl (by omega) (by omega) rfl) ?_
          refine al_d rfl rfl rfl (by exact opd_move rfl rfl) ?_
          refine al_d rfl rfl rfl (by exact x_build rfl bo78 rfl rfl) ?_
          refine al_d rfl rfl rfl (by exact opd_move rfl rfl) ?_
          refine al_n rfl rfl (by exact (by exact x_store_all rfl Try.sizeOf78 rfl rfl rfl rfl rfl rfl rfl rfl)) ?_
          refine al_d rfl rfl rfl (by exact opd_assign rfl rfl) ?_
          refine al_d rfl rfl rfl (by exact opd_assign rfl rfl) ?_
          refine al_nil ?_
          refine awp_ret ?_
          -- return
          refine aret3 (H' := []) (by exact .inr rfl) rfl (rval_cell rfl Try.isAgg78 Try.sizeOf78 rfl rfl rfl rfl rfl) (rval_tmp rfl) (rval_tmp rfl) (Fin.wk (r := .tup [.agg [iv 4, sv (s.extract i (i + 1)), iv (i : Int)], iv ((i + 1 : Nat) : Int), iv 0]) (by simp) trivial trivial) ?_
          exact ⟨rfl, rfl⟩
end Go.Proofs.Ytedfihgkopejcaa
end
section
set_option linter.unusedVariables false
set_option linter.unusedSimpArgs false
set_option maxRecDepth 100000
namespace Go.Proofs.Ytedfihgkopejcaa
open Go.Abs

theorem step_pos {s : ByteArray} {i j : Nat} {f : GFound} (h : gStep s i = (some f, j)) : f.pos = i := by
  rw [gStep] at h
  split at h
  · cases h
  · split at h
    · cases h
    · split at h
      · cases h; rfl
      · split at h
        · cases h; rfl
        · split at h
          · cases h
            rw [gStr]
            split <;> rfl
          · split at h <;> (cases h; rfl)
theorem step_is {s : ByteArray} {i : Nat} (hn1 : atC s i ≠ 1) (hn2 : atC s i ≠ 2) : ∃ f j, gStep s i = (some f, j) := by
  rw [gStep, if_neg hn1, if_neg hn2]
  split
  · exact ⟨_, _, rfl⟩
  · split
    · exact ⟨_, _, rfl⟩
    · split
      · exact ⟨_, _, rfl⟩
      · split <;> exact ⟨_, _, rfl⟩
theorem lex08_c (s : ByteArray) (H : Heap) (hs : s.size < 1099511627776) : ACalls Try.prog 45 [sv s] H (fun r H' => r = .tup [.pv (slToks (gLex s).1), iv (gLex s).2.1, iv (gLex s).2.2] ∧ H' = H) := by
  refine ACalls.pure ?_ (by simp) H
  refine ACalls.body Try.func45 rfl Try.ntmps45 (Nat.le_of_ble_eq_true rfl) ?_
  refine awp_seq ?_
  refine awp_region ?_
  refine al_d rfl rfl rfl (by exact opd_assign rfl rfl) ?_
  refine al_d rfl rfl rfl (by exact opd_assign rfl rfl) ?_
  refine al_d rfl rfl rfl (by exact opd_assign rfl rfl) ?_
  refine al_nil ?_
  refine awp_seq ?_
  refine awp_seq ?_
  refine awp_region ?_
  refine al_d rfl rfl rfl (by exact opd_move rfl rfl) ?_
  refine al_d rfl rfl rfl (by exact opd_len_str rfl Try.underlying9 rfl) ?_
  refine al_d rfl rfl rfl (by exact opd_gtr rfl rfl rfl) ?_
  refine al_nil ?_
  refine awp_cond rfl (fun hc1 => ?_) (fun hc1 => ?_)
  -- cond 1
  · have e : gLex s = ([], 2, -1) := by rw [gLex, if_pos (by have := of_decide_eq_true hc1; omega)]
    rw [e]
    refine awp_seq ?_
    refine awp_region ?_
    refine al_d rfl rfl rfl (by exact opd_assign rfl rfl) ?_
    refine al_d rfl rfl rfl (by exact opd_assign rfl rfl) ?_
    refine al_d rfl rfl rfl (by exact opd_assign rfl rfl) ?_
    refine al_nil ?_
    refine awp_ret ?_
    -- return
    refine aret3 (H' := []) (by exact .inr rfl) rfl (rval_tmp rfl) (rval_tmp rfl) (rval_tmp rfl) (Fin.wk (by simp) trivial trivial) ?_
    exact ⟨rfl, rfl⟩
  · have hsz : ¬ 20000 < s.size := by have := of_decide_eq_false hc1; omega
    have hG : gLex s = lexRun [] (toks s 0) := by rw [gLex, if_neg hsz]; rfl
    obtain ⟨res, hres⟩ : ∃ res, res = gLex s := ⟨_, rfl⟩
    rw [← hres] at hG ⊢
    refine awp_skip ?_
    refine awp_seq ?_
    refine awp_region ?_
    refine al_d rfl rfl rfl (by exact opd_assign_own (id := 905) (sz := 3) (ty := 78) rfl rfl rfl) ?_
    refine al_nil ?_
    refine awp_seq ?_
    refine awp_region ?_
    refine al_d rfl rfl rfl (by exact opd_move rfl rfl) ?_
    -- op at ref.go:139 slot 14 call [["rec", {"callee": ["app", "Callee.value", [["app", "Operand.func", [["num", 62]]]]], "args": ["arr", [["app", "Operand.tmp", [["num", 13]]], ["app", "Operand.
    refine al_r rfl rfl (opr_call rfl rfl Try.call62 rfl (gap08_c s 0 _ hs (Nat.zero_le _))) ?_
    rintro r H' ⟨j0, rfl, hj1, hj2, hj3, hj4, rfl⟩
    refine al_d rfl rfl rfl (by exact opd_assign rfl rfl) ?_
    refine al_nil ?_
    refine awp_seq ?_
    refine awp_block ?_
    -- loop
    refine awp_loop2 (fun (j : Nat) (L : List GFound) => ([(0, sv s), (5, .osl 905 L.length 0 L.length), (6, iv (j : Int))], [(905, ⟨L.length, 3, 78, tkRows L⟩)])) (fun j L => j ≤ s.size ∧ L.length ≤ 5000 ∧ res = lexRun L (toks s j) ∧ (j < s.size → atC s j ≠ 1 ∧ atC s j ≠ 2)) (fun j L => s.size - j) j0 [] ⟨hj2, Nat.zero_le _, by rw [hG, hj3], hj4⟩ ?_ ?_
    · exact (Ent.wk ⟨⟨_, rfl, rfl⟩, (by (simp; done)), ⟨_, rfl, rfl⟩, (by (simp; rfl)), ⟨_, rfl, rfl⟩, (by (simp; done)), trivial⟩ ⟨⟨_, rfl, rfl⟩, (by exact tkRows_clo _ _), trivial⟩ trivial)
    · rintro j L ⟨hj, hL, hinv, hcl⟩
      refine awp_seq ?_
      refine awp_seq ?_
      refine awp_region ?_
      refine al_d rfl rfl rfl (by exact opd_move rfl rfl) ?_
      refine al_d rfl rfl rfl (by exact opd_move rfl rfl) ?_
      refine al_d rfl rfl rfl (by exact opd_len_str rfl Try.underlying9 rfl) ?_
      refine al_d rfl rfl rfl (by exact opd_lss rfl rfl rfl) ?_
      refine al_nil ?_
      refine awp_cond rfl (fun hc2 => ?_) (fun hc2 => ?_)
      -- cond 2
      · have hlt : j < s.size := by have := of_decide_eq_true hc2; omega
        obtain ⟨k1, k2⟩ := hcl hlt
        obtain ⟨f, e, hst⟩ := step_is k1 k2
        have hnx := next08_c s j [(905, ⟨L.length, 3, 78, tkRows L⟩)] hs hlt k1 k2
        have hpos := step_pos hst
        by_cases he : f.err = 0
        · rw [nx_good hst he] at hnx
          have hgo := step_go hst he hlt
          have htk := toks_some hlt hst he
          rw [htk] at hinv
          refine awp_skip ?_
          refine awp_block ?_
          refine awp_seq ?_
          refine awp_region ?_
          refine al_d rfl rfl rfl (by exact opd_move rfl rfl) ?_
          refine al_d rfl rfl rfl (by exact opd_move rfl rfl) ?_
          refine al_d rfl rfl rfl (by exact opr_call rfl rfl Try.call63 rfl (hnx)) ?_
          refine al_d rfl rfl rfl (by exact opd_move rfl rfl) ?_
          refine al_d rfl rfl rfl (by exact opd_extract rfl rfl rfl) ?_
          refine al_d rfl rfl rfl (by exact opd_extract rfl rfl rfl) ?_
          refine al_d rfl rfl rfl (by exact opd_extract rfl rfl rfl) ?_
          refine al_d rfl rfl rfl (by exact x_alloc (id := 7) rfl zo78 rfl rfl) ?_
          refine al_n rfl rfl (by exact (by exact x_store_all rfl Try.sizeOf78 rfl rfl rfl rfl rfl rfl rfl rfl)) ?_
          refine al_d rfl rfl rfl (by exact opd_assign rfl rfl) ?_
          refine al_d rfl rfl rfl (by exact opd_assign rfl rfl) ?_
          refine al_nil ?_
          refine awp_seq ?_
          refine awp_seq ?_
          refine awp_region ?_
          refine al_d rfl rfl rfl (by exact opd_move rfl rfl) ?_
          refine al_d rfl rfl rfl (by exact opd_neq rfl rfl rfl) ?_
          refine al_nil ?_
          refine awp_cond rfl (fun hc3 => ?_) (fun hc3 => ?_)
          -- cond 3
          · skip
            ((cases hc3; done))
          · skip
            refine awp_skip ?_
            refine awp_seq ?_
            refine awp_seq ?_
            refine awp_region ?_
            refine al_d rfl rfl rfl (by exact opd_move rfl rfl) ?_
            refine al_d rfl rfl rfl (by exact (by exact opd_len_osl rfl Try.underlying71 rfl rfl rfl)) ?_
            refine al_d rfl rfl rfl (by exact opd_eql rfl rfl rfl) ?_
            refine al_nil ?_
            refine awp_cond rfl (fun hc4 => ?_) (fun hc4 => ?_)
            -- cond 4
            · have h5 : L.length = 5000 := by have := of_decide_eq_true hc4; omega
              have hr : res = ([], 2, (j : Int)) := by rw [hinv, lexRun, if_neg (fun h => h he), if_pos h5, hpos]
              rw [hr]
              refine awp_seq ?_
              refine awp_region ?_
              refine al_d rfl rfl rfl (by exact opd_move rfl rfl) ?_
              refine al_d rfl rfl rfl (by exact opd_assign rfl rfl) ?_
              refine al_d rfl rfl rfl (by exact opd_assign rfl rfl) ?_
              refine al_d rfl rfl rfl (by exact opd_assign rfl rfl) ?_
              refine al_nil ?_
              refine awp_ret ?_
              -- return
              refine aret3 (H' := []) (by exact .inr rfl) rfl (rval_tmp rfl) (rval_tmp rfl) (rval_tmp rfl) (Fin.wk (by simp) trivial trivial) ?_
              exact ⟨rfl, rfl⟩
            · have h5 : ¬ L.length = 5000 := by have := of_decide_eq_false hc4; omega
              rw [lexRun, if_neg (fun h => h he), if_neg h5] at hinv
              refine awp_skip ?_
              refine awp_seq ?_
              refine awp_region ?_
              refine al_d rfl rfl rfl (by exact opd_move rfl rfl) ?_
              refine al_d rfl rfl rfl (by exact (by exact opd_loadn_ref rfl Try.isAgg78 Try.sizeOf78 rfl rfl rfl rfl (by simp only [List.drop_succ_cons, List.drop_zero, List.take_succ_cons, List.take_zero, List.take_nil, List.map_cons, List.map_nil, List.set_cons_zero, List.set_cons_succ, List.cons_append, List.nil_append, encTok]; rfl) rfl)) ?_
              refine al_d rfl rfl rfl (by exact (by exact x_buildSlice [encTok f] rfl so71 rfl rfl rfl rfl rfl (by intro r hr; rw [List.mem_singleton] at hr; subst hr; rfl))) ?_
              refine al_d rfl rfl rfl (by exact x_append (ps := [encTok f]) rfl so71 ei78 rfl rfl rfl rfl rfl (tkRows_len _) rfl (by intro r hr; rw [List.mem_singleton] at hr; subst hr; rfl) (m := 1) rfl (by omega) rfl (tkRows_app L f)) ?_
              refine al_d rfl rfl rfl (by exact opd_assign rfl rfl) ?_
              refine al_nil ?_
              refine awp_region ?_
              refine al_d rfl rfl rfl (by exact opd_move rfl rfl) ?_
              refine al_d rfl rfl rfl (by exact opd_move rfl rfl) ?_
              -- op at ref.go:149 slot 40 call [["rec", {"callee": ["app", "Callee.value", [["app", "Operand.func", [["num", 62]]]]], "args": ["arr", [["app", "Operand.tmp", [["num", 38]]], ["app", "Operand.
              refine al_r rfl rfl (opr_call rfl rfl Try.call62 rfl (gap08_c s e _ hs hgo.2)) ?_
              rintro r H' ⟨j1, rfl, g1, g2, g3, g4, rfl⟩
              refine al_d rfl rfl rfl (by exact opd_assign rfl rfl) ?_
              refine al_nil ?_
              -- end of a round
              refine ⟨j1, L ++ [f], ⟨g2, by rw [List.length_append, List.length_singleton]; omega, by rw [hinv, g3], g4⟩, by omega, ?_⟩
              dsimp only
              rw [List.length_append, List.length_singleton]
              exact (Ent.wk ⟨⟨_, rfl, rfl⟩, (by (simp; done)), ⟨_, rfl, rfl⟩, (by (simp; rfl)), ⟨_, rfl, rfl⟩, (by (simp; done)), trivial⟩ ⟨⟨_, rfl, rfl⟩, (by exact tkRows_clo _ _), trivial⟩ trivial)
        · have hE : (!decide (f.err = 0)) = true := by rw [decide_eq_false he]; rfl
          rw [nx_bad hst he] at hnx
          have hr : res = ([], f.err, (j : Int)) := by rw [hinv, toks_err hlt hst he, lexRun, if_pos he, hpos]
          rw [hr]
          refine awp_skip ?_
          refine awp_block ?_
          refine awp_seq ?_
          refine awp_region ?_
          refine al_d rfl rfl rfl (by exact opd_move rfl rfl) ?_
          refine al_d rfl rfl rfl (by exact opd_move rfl rfl) ?_
          refine al_d rfl rfl rfl (by exact opr_call rfl rfl Try.call63 rfl (hnx)) ?_
          refine al_d rfl rfl rfl (by exact opd_move rfl rfl) ?_
          refine al_d rfl rfl rfl (by exact opd_extract rfl rfl rfl) ?_
          refine al_d rfl rfl rfl (by exact opd_extract rfl rfl rfl) ?_
          refine al_d rfl rfl rfl (by exact opd_extract rfl rfl rfl) ?_
          refine al_d rfl rfl rfl (by exact x_alloc (id := 7) rfl zo78 rfl rfl) ?_
          refine al_n rfl rfl (by exact (by exact x_store_all rfl Try.sizeOf78 rfl rfl rfl rfl rfl rfl rfl rfl)) ?_
          refine al_d rfl rfl rfl (by exact opd_assign rfl rfl) ?_
          refine al_d rfl rfl rfl (by exact opd_assign rfl rfl) ?_
          refine al_nil ?_
          refine awp_seq ?_
          refine awp_seq ?_
          refine awp_region ?_
          refine al_d rfl rfl rfl (by exact opd_move rfl rfl) ?_
          refine al_d rfl rfl rfl (by exact OpD.val (by exact opd_neq rfl rfl rfl) (hE)) ?_
          refine al_nil ?_
          refine awp_cond rfl (fun hc5 => ?_) (fun hc5 => ?_)
          -- cond 5
          · skip
            refine awp_seq ?_
            refine awp_region ?_
            refine al_d rfl rfl rfl (by exact opd_move rfl rfl) ?_
            refine al_d rfl rfl rfl (by exact opd_move rfl rfl) ?_
            refine al_d rfl rfl rfl (by exact opd_assign rfl rfl) ?_
            refine al_d rfl rfl rfl (by exact opd_assign rfl rfl) ?_
            refine al_d rfl rfl rfl (by exact opd_assign rfl rfl) ?_
            refine al_nil ?_
            refine awp_ret ?_
            -- return
            refine aret3 (H' := []) (by exact .inr rfl) rfl (rval_tmp rfl) (rval_tmp rfl) (rval_tmp rfl) (Fin.wk (by simp) trivial trivial) ?_
            exact ⟨rfl, rfl⟩
          · skip
            ((cases hc5; done))
      · have hge : ¬ j < s.size := by have := of_decide_eq_false hc2; omega
        rw [toks_end hge, lexRun] at hinv
        rw [hinv]
        refine awp_exit ?_
        refine awp_seq ?_
        -- before the slot
        refine AWp.ent (Ent.fz (id := 905) (E' := [(5, .pv (slToks L))]) (H' := []) (L.map encTok) rfl (by rw [List.map_map]; rfl)
          (by intro q hq; rw [List.mem_singleton] at hq; subst hq; exact ⟨_, rfl, .osl (by rw [Nat.zero_add, List.drop_zero, List.take_of_length_le (by rw [List.length_map]; exact Nat.le_refl _)])⟩) rfl trivial trivial) ?_
        refine awp_region ?_
        refine al_d rfl rfl rfl (by exact opd_move rfl rfl) ?_
        refine al_d rfl rfl rfl (by exact opd_assign rfl rfl) ?_
        refine al_d rfl rfl rfl (by exact opd_assign rfl rfl) ?_
        refine al_d rfl rfl rfl (by exact opd_assign rfl rfl) ?_
        refine al_nil ?_
        refine awp_ret ?_
        -- return
        refine aret3 (H' := []) (by exact .inr rfl) rfl (rval_tmp rfl) (rval_tmp rfl) (rval_tmp rfl) Fin.refl ?_
        exact ⟨rfl, rfl⟩
end Go.Proofs.Ytedfihgkopejcaa
end
section
set_option linter.unusedVariables false
set_option linter.unusedSimpArgs false
set_option maxRecDepth 100000
namespace Go.Proofs.Ytedfihgkopejcaa
open Go.Abs

theorem get9r {l : List GTag} (k : ByteArray) (H : Heap) (hl : l.length < 4611686018427387904) : ACalls Try.prog 20 [.pv (slTags l), sv k] H (fun r H' => r = .tup [sv (vOf l k), bv (gGet l k).isSome] ∧ H' = H) := rGet_c l k H hl
theorem one09_c (b o t : List GTag) (k : ByteArray) (H : Heap) (hb : b.length < 4611686018427387904) (ho : o.length < 4611686018427387904) (ht : t.length < 4611686018427387904) : ACalls Try.prog 38 [.pv (slTags b), .pv (slTags o), .pv (slTags t), sv k] H (fun r H' => r = .tup [sv (m1 (at3 b o t k)).1, bv (m1 (at3 b o t k)).2] ∧ H' = H) := by
  refine ACalls.pure ?_ (by simp) H
  refine ACalls.body Try.func38 rfl Try.ntmps38 (Nat.le_of_ble_eq_true rfl) ?_
  refine awp_seq ?_
  refine awp_region ?_
  refine al_d rfl rfl rfl (by exact opd_assign rfl rfl) ?_
  refine al_d rfl rfl rfl (by exact opd_assign rfl rfl) ?_
  refine al_nil ?_
  refine awp_seq ?_
  refine awp_region ?_
  refine al_d rfl rfl rfl (by exact opd_move rfl rfl) ?_
  refine al_d rfl rfl rfl (by exact opd_move rfl rfl) ?_
  refine al_d rfl rfl rfl (by exact opr_call rfl rfl Try.call20 rfl (get9r k _ hb)) ?_
  refine al_d rfl rfl rfl (by exact opd_move rfl rfl) ?_
  refine al_d rfl rfl rfl (by exact opd_extract rfl rfl rfl) ?_
  refine al_d rfl rfl rfl (by exact opd_extract rfl rfl rfl) ?_
  refine al_d rfl rfl rfl (by exact opd_assign rfl rfl) ?_
  refine al_d rfl rfl rfl (by exact opd_assign rfl rfl) ?_
  refine al_nil ?_
  refine awp_seq ?_
  refine awp_region ?_
  refine al_d rfl rfl rfl (by exact opd_move rfl rfl) ?_
  refine al_d rfl rfl rfl (by exact opd_move rfl rfl) ?_
  refine al_d rfl rfl rfl (by exact opr_call rfl rfl Try.call20 rfl (get9r k _ ho)) ?_
  refine al_d rfl rfl rfl (by exact opd_move rfl rfl) ?_
  refine al_d rfl rfl rfl (by exact opd_extract rfl rfl rfl) ?_
  refine al_d rfl rfl rfl (by exact opd_extract rfl rfl rfl) ?_
  refine al_d rfl rfl rfl (by exact opd_assign rfl rfl) ?_
  refine al_d rfl rfl rfl (by exact opd_assign rfl rfl) ?_
  refine al_nil ?_
  refine awp_seq ?_
  refine awp_region ?_
  refine al_d rfl rfl rfl (by exact opd_move rfl rfl) ?_
  refine al_d rfl rfl rfl (by exact opd_move rfl rfl) ?_
  refine al_d rfl rfl rfl (by exact opr_call rfl rfl Try.call20 rfl (get9r k _ ht)) ?_
  refine al_d rfl rfl rfl (by exact opd_move rfl rfl) ?_
  refine al_d rfl rfl rfl (by exact opd_extract rfl rfl rfl) ?_
  refine al_d rfl rfl rfl (by exact opd_extract rfl rfl rfl) ?_
  refine al_d rfl rfl rfl (by exact opd_assign rfl rfl) ?_
  refine al_d rfl rfl rfl (by exact opd_assign rfl rfl) ?_
  refine al_nil ?_
  refine awp_seq ?_
  refine awp_seq ?_
  refine awp_bool (t := 41) (n := 9) (X := decide (vOf o k = vOf t k) || decide (vOf t k = vOf b k)) ?_ ?_
  · all_goals (refine al_d rfl rfl rfl (by exact opd_move rfl rfl) ?_)
    all_goals (refine al_d rfl rfl rfl (by exact opd_move rfl rfl) ?_)
    all_goals (refine al_d rfl rfl rfl (by exact opd_seql rfl rfl rfl) ?_)
    all_goals (refine al_d rfl rfl rfl (by exact opd_move rfl rfl) ?_)
    all_goals (refine al_split (t := 37) rfl (fun h37 => ?_) (fun h37 => ?_))
    all_goals (try contradiction)
    all_goals (first | refine al_off rfl rfl rfl rfl rfl ?_ | refine al_ond rfl rfl rfl rfl rfl rfl (by exact opd_move rfl rfl) ?_)
    all_goals (first | refine al_off rfl rfl rfl rfl rfl ?_ | refine al_ond rfl rfl rfl rfl rfl rfl (by exact opd_move rfl rfl) ?_)
    all_goals (first | refine al_off rfl rfl rfl rfl rfl ?_ | refine al_ond rfl rfl rfl rfl rfl rfl (by exact opd_seql rfl rfl rfl) ?_)
    all_goals (refine al_d rfl rfl rfl (by exact (by first | exact opd_pick_t rfl rfl rfl | exact opd_pick_f rfl rfl rfl)) ?_)
    all_goals (refine al_nil ?_)
    all_goals (exact ⟨⟨_, rfl, by (rw [h37]; rfl)⟩, rfl, rfl, rfl⟩)
  refine awp_cond rfl (fun hc1 => ?_) (fun hc1 => ?_)
  -- cond 1
  · have e : m1 (at3 b o t k) = (vOf o k, false) := by
      rw [m1, at3]
      dsimp only
      rw [Bool.or_eq_true, decide_eq_true_eq, decide_eq_true_eq] at hc1
      rcases hc1 with h | h
      · rw [if_pos h.symm]
      · rw [if_pos h]
        split <;> rfl
    rw [e]
    refine awp_seq ?_
    refine awp_region ?_
    refine al_d rfl rfl rfl (by exact opd_move rfl rfl) ?_
    refine al_d rfl rfl rfl (by exact opd_assign rfl rfl) ?_
    refine al_d rfl rfl rfl (by exact opd_assign rfl rfl) ?_
    refine al_nil ?_
    refine awp_ret ?_
    -- return
    refine aret2 (H' := []) (by exact .inr rfl) rfl (rval_tmp rfl) (rval_tmp rfl) (Fin.wk (by simp) trivial trivial) ?_
    exact ⟨rfl, rfl⟩
  · rw [Bool.or_eq_false_iff, decide_eq_false_iff_not, decide_eq_false_iff_not] at hc1
    refine awp_skip ?_
    refine awp_seq ?_
    refine awp_seq ?_
    refine awp_region ?_
    refine al_d rfl rfl rfl (by exact opd_move rfl rfl) ?_
    refine al_d rfl rfl rfl (by exact opd_move rfl rfl) ?_
    refine al_d rfl rfl rfl (by exact opd_seql rfl rfl rfl) ?_
    refine al_nil ?_
    refine awp_cond rfl (fun hc2 => ?_) (fun hc2 => ?_)
    -- cond 2
    · have e : m1 (at3 b o t k) = (vOf t k, false) := by
        rw [m1, at3]
        dsimp only
        rw [if_neg (Ne.symm hc1.1), if_neg hc1.2, if_pos (of_decide_eq_true hc2)]
      rw [e]
      refine awp_seq ?_
      refine awp_region ?_
      refine al_d rfl rfl rfl (by exact opd_move rfl rfl) ?_
      refine al_d rfl rfl rfl (by exact opd_assign rfl rfl) ?_
      refine al_d rfl rfl rfl (by exact opd_assign rfl rfl) ?_
      refine al_nil ?_
      refine awp_ret ?_
      -- return
      refine aret2 (H' := []) (by exact .inr rfl) rfl (rval_tmp rfl) (rval_tmp rfl) (Fin.wk (by simp) trivial trivial) ?_
      exact ⟨rfl, rfl⟩
    · have e : m1 (at3 b o t k) = (vOf b k, true) := by
        rw [m1, at3]
        dsimp only
        rw [if_neg (Ne.symm hc1.1), if_neg hc1.2, if_neg (of_decide_eq_false hc2)]
      rw [e]
      refine awp_skip ?_
      refine awp_seq ?_
      refine awp_region ?_
      refine al_d rfl rfl rfl (by exact opd_move rfl rfl) ?_
      refine al_d rfl rfl rfl (by exact opd_assign rfl rfl) ?_
      refine al_d rfl rfl rfl (by exact opd_assign rfl rfl) ?_
      refine al_nil ?_
      refine awp_ret ?_
      -- return
      refine aret2 (H' := []) (by exact .inr rfl) rfl (rval_tmp rfl) (rval_tmp rfl) (Fin.wk (by simp) trivial trivial) ?_
      exact ⟨rfl, rfl⟩
theorem more_snoc (l : List GTag) (t : GTag) : moreL (l ++ [t]) = moreL l ++ 32 :: lineL t := by rw [moreL, List.flatMap_append, moreL]; simp
theorem tagS_snoc (l : List GTag) (t : GTag) : (gTagS (l ++ [t])).data.toList = (if l = [] then [] else (gTagS l).data.toList ++ [32]) ++ lineL t := by
  cases l with
  | nil => rw [List.nil_append, tagS_list, if_pos rfl, moreL]; simp
  | cons a l =>
    rw [List.cons_append, tagS_list, more_snoc, if_neg (by simp), tagS_list]
    simp
theorem line_small {t : GTag} (hk : t.key.size ≤ 24) (hv : t.val.size ≤ 200) : (lineL t).length ≤ 427 := by
  have := line_size hk hv
  rwa [← size_list, line_list] at this
theorem text09_c (l : List GTag) (H : Heap) (hl : okTags l) : ACalls Try.prog 16 [.pv (slTags l)] H (fun r H' => r = .tup [sv (gText l).1, iv (gText l).2] ∧ H' = H) := by
  refine ACalls.pure ?_ (by simp) H
  have hml : (l.map encTag).length = l.length := List.length_map _
  refine ACalls.body Try.func16 rfl Try.ntmps16 (Nat.le_of_ble_eq_true rfl) ?_
  refine awp_seq ?_
  refine awp_region ?_
  refine al_d rfl rfl rfl (by exact opd_assign rfl rfl) ?_
  refine al_d rfl rfl rfl (by exact opd_assign rfl rfl) ?_
  refine al_nil ?_
  refine awp_seq ?_
  refine awp_seq ?_
  refine awp_region ?_
  refine al_d rfl rfl rfl (by exact opd_move rfl rfl) ?_
  refine al_d rfl rfl rfl (by exact opr_call rfl rfl Try.call24 rfl (rValid09_c l _ hl)) ?_
  refine al_d rfl rfl rfl (by exact opd_not rfl rfl) ?_
  refine al_nil ?_
  refine awp_cond rfl (fun hc1 => ?_) (fun hc1 => ?_)
  -- cond 1
  · have e : gText l = (sNil, 1) := by rw [gText, if_neg]; intro h; rw [h] at hc1; cases hc1
    rw [e]
    refine awp_seq ?_
    refine awp_region ?_
    refine al_d rfl rfl rfl (by exact opd_assign rfl rfl) ?_
    refine al_d rfl rfl rfl (by exact opd_assign rfl rfl) ?_
    refine al_nil ?_
    refine awp_ret ?_
    -- return
    refine aret2 (H' := []) (by exact .inr rfl) rfl (rval_tmp rfl) (rval_tmp rfl) (Fin.wk (by simp) trivial trivial) ?_
    exact ⟨rfl, rfl⟩
  · have hg : gTags l = true := by have h := hc1; rwa [Bool.not_eq_false'] at h
    obtain ⟨g1, g2, g3⟩ := gTags_iff.1 hg
    refine awp_skip ?_
    refine awp_seq ?_
    refine awp_region ?_
    refine al_d rfl rfl rfl (by exact opd_assign rfl rfl) ?_
    refine al_nil ?_
    refine awp_seq ?_
    refine awp_seq ?_
    refine awp_region ?_
    refine al_d rfl rfl rfl (by exact opd_assign rfl rfl) ?_
    refine al_nil ?_
    refine awp_block ?_
    -- loop
    refine awp_loop (σ := Nat) (fun k => ([(0, .pv (slTags l)), (4, sv (gTagS (l.take k))), (5, iv (k : Int))], [])) (fun k => k ≤ l.length ∧ (gTagS (l.take k)).size ≤ 428 * k) (fun k => l.length - k) 0 ⟨Nat.zero_le _, Nat.le_refl _⟩ ?_ ?_
    · exact Ent.e0 ⟨⟨_, rfl, rfl⟩, ⟨_, rfl, rfl⟩, ⟨_, rfl, rfl⟩, trivial⟩
    · rintro k ⟨hk, hsz⟩
      refine awp_seq ?_
      refine awp_seq ?_
      refine awp_region ?_
      refine al_d rfl rfl rfl (by exact opd_move rfl rfl) ?_
      refine al_d rfl rfl rfl (by exact opd_move rfl rfl) ?_
      refine al_d rfl rfl rfl (by exact (by exact opd_len_sl rfl Try.underlying22 rfl)) ?_
      refine al_d rfl rfl rfl (by exact opd_lss rfl rfl rfl) ?_
      refine al_nil ?_
      refine awp_cond rfl (fun hc2 => ?_) (fun hc2 => ?_)
      -- cond 2
      · have hlt : k < l.length := by have := of_decide_eq_true hc2; omega
        obtain ⟨t, ht⟩ := get_of_lt hlt
        have hi := map_get (f := encTag) ht
        obtain ⟨gk, gv, gs⟩ := g1 t (List.mem_of_getElem? ht)
        have gks := gName_size gk
        have hq := quote_size t.val
        have hls := line_small gks gs
        have hsn := tagS_snoc (l.take k) t
        rw [← take_snoc ht] at hsn
        have h61 : (⟨#[61]⟩ : ByteArray).size = 1 := rfl
        have h32 : (⟨#[32]⟩ : ByteArray).size = 1 := rfl
        have hle : (gTagS (l.take (k + 1))).size ≤ 428 * (k + 1) := by
          rw [← size_list, hsn, List.length_append]
          split
          · rw [List.length_nil]; omega
          · rw [List.length_append, List.length_singleton, size_list]; omega
        by_cases hk0 : k = 0
        · have hA : gTagS (l.take (k + 1)) = gTagS (l.take k) ++ t.key ++ ⟨#[61]⟩ ++ ⟨(gQuote t.val.data.toList).toArray⟩ := by
            refine ba_ext ?_
            subst hk0
            rw [hsn, List.take_zero, if_pos rfl, lineL]
            simp [gTagS, gJoin, bs]
          refine awp_skip ?_
          refine awp_seq ?_
          refine awp_block ?_
          refine awp_seq ?_
          refine awp_seq ?_
          refine awp_region ?_
          refine al_d rfl rfl rfl (by exact opd_move rfl rfl) ?_
          refine al_d rfl rfl rfl (by exact opd_gtr rfl rfl rfl) ?_
          refine al_nil ?_
          refine awp_cond rfl (fun hc3 => ?_) (fun hc3 => ?_)
          -- cond 3
          · skip
            exact absurd (of_decide_eq_true hc3) (by omega)
          · skip
            refine awp_skip ?_
            refine awp_drawc follows ?_
            refine dc_cons (DStep.q rfl (by exact opd_move rfl rfl)) rfl ?_
            refine dc_cons (DStep.q rfl (by exact opd_move rfl rfl)) rfl ?_
            refine dc_cons (DStep.q rfl (by exact opd_move rfl rfl)) rfl ?_
            refine dc_cons (DStep.q rfl (by exact (by exact x_index_pad rfl so22 rfl rfl (by omega) (by exact Int.toNat_natCast _) hi rfl))) rfl ?_
            refine dc_cons (DStep.q rfl (by exact (by exact opd_field_pad rfl fo46_0 rfl rfl))) rfl ?_
            refine dc_cons (DStep.q rfl (by exact (by exact opd_load1_pad rfl Try.isAgg9 rfl hi rfl))) rfl ?_
            refine dc_cons (DStep.q rfl (by exact opd_sadd rfl rfl rfl (by omega) rfl)) rfl ?_
            refine dc_cons (DStep.q rfl (by exact opd_sadd rfl rfl rfl (by rw [ByteArray.size_append, h61]; omega) rfl)) rfl ?_
            refine dc_cons (DStep.q rfl (by exact opd_move rfl rfl)) rfl ?_
            refine dc_cons (DStep.q rfl (by exact opd_move rfl rfl)) rfl ?_
            refine dc_cons (DStep.q rfl (by exact (by exact x_index_pad rfl so22 rfl rfl (by omega) (by exact Int.toNat_natCast _) hi rfl))) rfl ?_
            refine dc_cons (DStep.q rfl (by exact (by exact opd_field_pad rfl fo46_1 rfl rfl))) rfl ?_
            refine dc_cons (DStep.q rfl (by exact (by exact opd_load1_pad rfl Try.isAgg9 rfl hi rfl))) rfl ?_
            refine dc_cons (DStep.q rfl (by exact opr_call rfl rfl Try.call42 rfl (quote08_c t.val _ (by omega)))) rfl ?_
            refine dc_cons (DStep.q rfl (by exact opd_sadd rfl rfl rfl (by rw [ByteArray.size_append, ByteArray.size_append, h61]; omega) hA.symm)) rfl ?_
            refine dc_cons (DStep.q rfl (by exact opd_assign rfl rfl)) rfl ?_
            refine dc_nil ⟨by kernel_rfl, ?_⟩
            refine awp_region ?_
            refine al_d rfl rfl rfl (by exact opd_move rfl rfl) ?_
            refine al_d rfl rfl rfl (by exact opd_add rfl rfl rfl (by exact w64 (by omega) (by omega))) ?_
            refine al_d rfl rfl rfl (by exact opd_assign rfl rfl) ?_
            refine al_nil ?_
            -- end of a round
            exact ⟨k + 1, ⟨hlt, hle⟩, by omega, Ent.e0 ⟨⟨_, rfl, rfl⟩, ⟨_, rfl, rfl⟩, ⟨_, rfl, rfl⟩, trivial⟩⟩
        · have hA : gTagS (l.take (k + 1)) = gTagS (l.take k) ++ ⟨#[32]⟩ ++ t.key ++ ⟨#[61]⟩ ++ ⟨(gQuote t.val.data.toList).toArray⟩ := by
            refine ba_ext ?_
            have hne : l.take k ≠ [] := fun e => by
              have := congrArg List.length e
              rw [List.length_take, List.length_nil] at this
              omega
            rw [hsn, if_neg hne, lineL]
            simp
          refine awp_skip ?_
          refine awp_seq ?_
          refine awp_block ?_
          refine awp_seq ?_
          refine awp_seq ?_
          refine awp_region ?_
          refine al_d rfl rfl rfl (by exact opd_move rfl rfl) ?_
          refine al_d rfl rfl rfl (by exact opd_gtr rfl rfl rfl) ?_
          refine al_nil ?_
          refine awp_cond rfl (fun hc4 => ?_) (fun hc4 => ?_)
          -- cond 4
          · skip
            refine awp_region ?_
            refine al_d rfl rfl rfl (by exact opd_move rfl rfl) ?_
            refine al_d rfl rfl rfl (by exact opd_sadd rfl rfl rfl (by rw [h32]; omega) rfl) ?_
            refine al_d rfl rfl rfl (by exact opd_assign rfl rfl) ?_
            refine al_nil ?_
            refine awp_drawc follows ?_
            refine dc_cons (DStep.q rfl (by exact opd_move rfl rfl)) rfl ?_
            refine dc_cons (DStep.q rfl (by exact opd_move rfl rfl)) rfl ?_
            refine dc_cons (DStep.q rfl (by exact opd_move rfl rfl)) rfl ?_
            refine dc_cons (DStep.q rfl (by exact (by exact x_index_pad rfl so22 rfl rfl (by omega) (by exact Int.toNat_natCast _) hi rfl))) rfl ?_
            refine dc_cons (DStep.q rfl (by exact (by exact opd_field_pad rfl fo46_0 rfl rfl))) rfl ?_
            refine dc_cons (DStep.q rfl (by exact (by exact opd_load1_pad rfl Try.isAgg9 rfl hi rfl))) rfl ?_
            refine dc_cons (DStep.q rfl (by exact opd_sadd rfl rfl rfl (by rw [ByteArray.size_append, h32]; omega) rfl)) rfl ?_
            refine dc_cons (DStep.q rfl (by exact opd_sadd rfl rfl rfl (by rw [ByteArray.size_append, ByteArray.size_append, h32, h61]; omega) rfl)) rfl ?_
            refine dc_cons (DStep.q rfl (by exact opd_move rfl rfl)) rfl ?_
            refine dc_cons (DStep.q rfl (by exact opd_move rfl rfl)) rfl ?_
            refine dc_cons (DStep.q rfl (by exact (by exact x_index_pad rfl so22 rfl rfl (by omega) (by exact Int.toNat_natCast _) hi rfl))) rfl ?_
            refine dc_cons (DStep.q rfl (by exact (by exact opd_field_pad rfl fo46_1 rfl rfl))) rfl ?_
            refine dc_cons (DStep.q rfl (by exact (by exact opd_load1_pad rfl Try.isAgg9 rfl hi rfl))) rfl ?_
            refine dc_cons (DStep.q rfl (by exact opr_call rfl rfl Try.call42 rfl (quote08_c t.val _ (by omega)))) rfl ?_
            refine dc_cons (DStep.q rfl (by exact opd_sadd rfl rfl rfl (by rw [ByteArray.size_append, ByteArray.size_append, ByteArray.size_append, h32, h61]; omega) hA.symm)) rfl ?_
            refine dc_cons (DStep.q rfl (by exact opd_assign rfl rfl)) rfl ?_
            refine dc_nil ⟨by kernel_rfl, ?_⟩
            refine awp_region ?_
            refine al_d rfl rfl rfl (by exact opd_move rfl rfl) ?_
            refine al_d rfl rfl rfl (by exact opd_add rfl rfl rfl (by exact w64 (by omega) (by omega))) ?_
            refine al_d rfl rfl rfl (by exact opd_assign rfl rfl) ?_
            refine al_nil ?_
            -- end of a round
            exact ⟨k + 1, ⟨hlt, hle⟩, by omega, Ent.e0 ⟨⟨_, rfl, rfl⟩, ⟨_, rfl, rfl⟩, ⟨_, rfl, rfl⟩, trivial⟩⟩
          · skip
            exact absurd (of_decide_eq_false hc4) (by omega)
      · have hge : k = l.length := by have := of_decide_eq_false hc2; omega
        subst hge
        rw [List.take_length] at hsz ⊢
        refine awp_exit ?_
        refine awp_seq ?_
        refine awp_seq ?_
        refine awp_region ?_
        refine al_d rfl rfl rfl (by exact opd_move rfl rfl) ?_
        refine al_d rfl rfl rfl (by exact opd_len_str rfl Try.underlying9 rfl) ?_
        refine al_d rfl rfl rfl (by exact opd_gtr rfl rfl rfl) ?_
        refine al_nil ?_
        refine awp_cond rfl (fun hc5 => ?_) (fun hc5 => ?_)
        -- cond 5
        · have e : gText l = (sNil, 2) := by rw [gText, if_pos hg, if_pos]; have := of_decide_eq_true hc5; omega
          rw [e]
          refine awp_seq ?_
          refine awp_region ?_
          refine al_d rfl rfl rfl (by exact opd_assign rfl rfl) ?_
          refine al_d rfl rfl rfl (by exact opd_assign rfl rfl) ?_
          refine al_nil ?_
          refine awp_ret ?_
          -- return
          refine aret2 (H' := []) (by exact .inr rfl) rfl (rval_tmp rfl) (rval_tmp rfl) (Fin.wk (by simp) trivial trivial) ?_
          exact ⟨rfl, rfl⟩
        · have e : gText l = (gTagS l, 0) := by rw [gText, if_pos hg, if_neg]; have := of_decide_eq_false hc5; omega
          rw [e]
          refine awp_skip ?_
          refine awp_seq ?_
          refine awp_region ?_
          refine al_d rfl rfl rfl (by exact opd_move rfl rfl) ?_
          refine al_d rfl rfl rfl (by exact opd_assign rfl rfl) ?_
          refine al_d rfl rfl rfl (by exact opd_assign rfl rfl) ?_
          refine al_nil ?_
          refine awp_ret ?_
          -- return
          refine aret2 (H' := []) (by exact .inr rfl) rfl (rval_tmp rfl) (rval_tmp rfl) (Fin.wk (by simp) trivial trivial) ?_
          exact ⟨rfl, rfl⟩
end Go.Proofs.Ytedfihgkopejcaa
end
section
set_option linter.unusedVariables false
set_option linter.unusedSimpArgs false
set_option maxRecDepth 100000
namespace Go.Proofs.Ytedfihgkopejcaa
open Go.Abs

/-- Names and strings at their places. -/
def kOk : List GFound → Prop
  | a :: _ :: c :: r => a.kind = 1 ∧ c.kind = 3 ∧ kOk r
  | _ => True
theorem kOk_at : ∀ (m : Nat) (T : List GFound) (a c : GFound), kOk T → T[3 * m]? = some a → T[3 * m + 2]? = some c → a.kind = 1 ∧ c.kind = 3
  | m, [], a, c, _, h, _ => by cases h
  | m, [x], a, c, _, _, h => by
    have := (List.getElem?_eq_some_iff.1 h).1
    simp only [List.length_cons, List.length_nil] at this
    omega
  | m, [x, y], a, c, _, _, h => by
    have := (List.getElem?_eq_some_iff.1 h).1
    simp only [List.length_cons, List.length_nil] at this
    omega
  | 0, x :: y :: z :: r, a, c, hk, h1, h2 => by
    have e1 : x = a := by simpa using h1
    have e2 : z = c := by simpa using h2
    subst e1 e2
    exact ⟨hk.1, hk.2.1⟩
  | m + 1, x :: y :: z :: r, a, c, hk, h1, h2 => by
    have e1 : 3 * (m + 1) = 3 * m + 1 + 1 + 1 := by omega
    have e2 : 3 * (m + 1) + 2 = 3 * m + 2 + 1 + 1 + 1 := by omega
    rw [e1, List.getElem?_cons_succ, List.getElem?_cons_succ, List.getElem?_cons_succ] at h1
    rw [e2, List.getElem?_cons_succ, List.getElem?_cons_succ, List.getElem?_cons_succ] at h2
    exact kOk_at m r a c hk.2.2 h1 h2
theorem kinds_more {s : ByteArray} : ∀ (l : List GTag) (i n : Nat), (∀ t, t ∈ l → gName t.key = true) → s.data.toList.drop i = moreL l → (moreL l).length ≤ n → kOk (gToks s n i)
  | [], i, n, _, h, _ => by
    have hge : ¬ i < s.size := by
      have := List.drop_eq_nil_iff.1 h
      rw [size_list] at this
      omega
    have e : gToks s n i = [] := by
      cases n with
      | zero => rfl
      | succ n => rw [gToks, if_neg hge]
    rw [e]
    trivial
  | t :: l, i, n, hk, h, hn => by
    have hm : moreL (t :: l) = 32 :: (lineL t ++ moreL l) := by rw [moreL, List.flatMap_cons]; rfl
    rw [hm] at h hn
    obtain ⟨l1, _, h2⟩ := at_of h
    have hp := line_pos t
    rw [List.length_cons, List.length_append] at hn
    obtain ⟨m, rfl⟩ : ∃ m, n = m + 3 + 1 := ⟨n - 4, by omega⟩
    obtain ⟨x, e⟩ := toks_line (n := m) h2 (hk t List.mem_cons_self)
    have h3 := drop_app h2
    have ih := kinds_more l _ m (fun t ht => hk t (List.mem_cons_of_mem _ ht)) h3 (by omega)
    have e1 : gToks s (m + 3 + 1) i = gToks s (m + 3) (i + 1) := by rw [gToks, if_pos l1, step_sp h]
    rw [e1, e]
    exact ⟨rfl, rfl, ih⟩
theorem kinds_tags {l : List GTag} (hk : ∀ t, t ∈ l → gName t.key = true) : kOk (gToks (gTagS l) ((gTagS l).size + 1) 0) := by
  cases l with
  | nil => trivial
  | cons t l =>
    have hs := tagS_list t l
    have hsz : (gTagS (t :: l)).size = (lineL t).length + (moreL l).length := by rw [← size_list, hs, List.length_append]
    have hp := line_pos t
    obtain ⟨m, hm⟩ : ∃ m, (gTagS (t :: l)).size + 1 = m + 3 := ⟨(gTagS (t :: l)).size - 2, by omega⟩
    have hd : (gTagS (t :: l)).data.toList.drop 0 = lineL t ++ moreL l := hs
    obtain ⟨x, e⟩ := toks_line (n := m) hd (hk t List.mem_cons_self)
    have h3 := drop_app hd
    have ih := kinds_more l _ m (fun t ht => hk t (List.mem_cons_of_mem _ ht)) h3 (by omega)
    rw [hm, e]
    exact ⟨rfl, rfl, ih⟩
theorem parse_kinds {s : ByteArray} {l : List GTag} (h : gText l = (s, 0)) : kOk (gLex s).1 ∧ tagsOf (gLex s).1 = some l ∧ (gLex s).2.1 = 0 := by
  have hg : gTags l = true := by
    rw [gText] at h
    split at h
    · assumption
    · cases h
  have hsz : ¬ 20000 < (gTagS l).size := by
    rw [gText, if_pos hg] at h
    split at h
    · cases h
    · assumption
  have ht : s = gTagS l := by
    rw [gText, if_pos hg, if_neg hsz] at h
    exact (Prod.mk.inj h).1.symm
  subst ht
  obtain ⟨g1, g2, g3⟩ := gTags_iff.1 hg
  have hk := fun t ht => (g1 t ht).1
  obtain ⟨r1, r2, r3⟩ := toks_tags hk
  have hlex : gLex (gTagS l) = (gToks (gTagS l) ((gTagS l).size + 1) 0, 0, 0) := by
    rw [gLex, if_neg hsz, lexRun_ok _ [] r2 (by rw [List.length_nil]; omega), List.nil_append]
  rw [hlex]
  exact ⟨kinds_tags hk, r1, rfl⟩
theorem parse09_c (s : ByteArray) (H : Heap) (hs : s.size < 1099511627776) : ACalls Try.prog 18 [sv s] H (fun r H' => r = .tup [.pv (slTags (gParse s).1), iv (gParse s).2] ∧ H' = H) := by
  refine ACalls.pure ?_ (by simp) H
  refine ACalls.body Try.func18 rfl Try.ntmps18 (Nat.le_of_ble_eq_true rfl) ?_
  refine awp_seq ?_
  refine awp_region ?_
  refine al_d rfl rfl rfl (by exact opd_assign rfl rfl) ?_
  refine al_d rfl rfl rfl (by exact opd_assign rfl rfl) ?_
  refine al_nil ?_
  refine awp_seq ?_
  refine awp_seq ?_
  refine awp_region ?_
  refine al_d rfl rfl rfl (by exact opd_move rfl rfl) ?_
  refine al_d rfl rfl rfl (by exact opd_len_str rfl Try.underlying9 rfl) ?_
  refine al_d rfl rfl rfl (by exact opd_gtr rfl rfl rfl) ?_
  refine al_nil ?_
  refine awp_cond rfl (fun hc1 => ?_) (fun hc1 => ?_)
  -- cond 1
  · have e : gParse s = ([], 2) := by rw [gParse, if_pos]; have := of_decide_eq_true hc1; omega
    rw [e]
    refine awp_seq ?_
    refine awp_region ?_
    refine al_d rfl rfl rfl (by exact opd_assign rfl rfl) ?_
    refine al_d rfl rfl rfl (by exact opd_assign rfl rfl) ?_
    refine al_nil ?_
    refine awp_ret ?_
    -- return
    refine aret2 (H' := []) (by exact .inr rfl) rfl (rval_tmp rfl) (rval_tmp rfl) (Fin.wk (by simp) trivial trivial) ?_
    exact ⟨rfl, rfl⟩
  · have hsz : ¬ 20000 < s.size := by have := of_decide_eq_false hc1; omega
    obtain ⟨T, e, p, hT⟩ : ∃ T e p, gLex s = (T, e, p) := ⟨_, _, _, rfl⟩
    have hlx := fun H => lex08_c s H hs
    have hTl := lex_toks_len s hs
    have hok : ∀ l, tagsOf T = some l → okTags l := fun l h => lex_ok hs (by rw [hT]; exact h)
    have hno : ∀ (h : ∀ l, gParse s = (l, 0) → gText l = (s, 0) → kOk T → tagsOf T = some l → e = 0 → False), gParse s = ([], 5) := fun h => by
      rcases parse_cases hsz with hp | ⟨l, h1, h2, _⟩
      · exact hp
      · obtain ⟨a, b, c⟩ := parse_kinds h2
        rw [hT] at a b c
        exact (h l h1 h2 a b c).elim
    rw [hT] at hTl
    simp only [hT] at hlx
    dsimp only at hTl
    have hml : (T.map encTok).length = T.length := List.length_map _
    have hrem : ((T.map encTok).length : Int).tmod 3 = ((T.length % 3 : Nat) : Int) := by rw [hml]; rfl
    by_cases he : e = 0
    · have hE : (!decide (e = 0)) = false := by rw [decide_eq_true he]; rfl
      by_cases h3 : T.length % 3 = 0
      · have h3b : (!decide (((T.length % 3 : Nat) : Int) = 0)) = false := by rw [decide_eq_true (by omega)]; rfl
        refine awp_skip ?_
        refine awp_seq ?_
        refine awp_region ?_
        refine al_d rfl rfl rfl (by exact opd_move rfl rfl) ?_
        refine al_d rfl rfl rfl (by exact opr_call rfl rfl Try.call45 rfl (hlx _)) ?_
        refine al_d rfl rfl rfl (by exact opd_move rfl rfl) ?_
        refine al_d rfl rfl rfl (by exact opd_extract rfl rfl rfl) ?_
        refine al_d rfl rfl rfl (by exact opd_extract rfl rfl rfl) ?_
        refine al_d rfl rfl rfl (by exact opd_extract rfl rfl rfl) ?_
        refine al_d rfl rfl rfl (by exact opd_assign rfl rfl) ?_
        refine al_d rfl rfl rfl (by exact opd_assign rfl rfl) ?_
        refine al_d rfl rfl rfl (by exact opd_assign rfl rfl) ?_
        refine al_nil ?_
        refine awp_seq ?_
        refine awp_seq ?_
        refine awp_region ?_
        refine al_d rfl rfl rfl (by exact opd_move rfl rfl) ?_
        refine al_d rfl rfl rfl (by exact OpD.val (by exact opd_neq rfl rfl rfl) (hE)) ?_
        refine al_d rfl rfl rfl (by exact opd_move rfl rfl) ?_
        refine al_ond rfl rfl rfl (by rfl) rfl rfl (by exact opd_move rfl rfl) ?_
        refine al_ond rfl rfl rfl (by rfl) rfl rfl (by exact (by exact opd_len_sl rfl Try.underlying71 rfl)) ?_
        refine al_ond rfl rfl rfl (by rfl) rfl rfl (by exact opd_rem rfl rfl rfl (by decide) hrem) ?_
        refine al_ond rfl rfl rfl (by rfl) rfl rfl (by exact OpD.val (by exact opd_neq rfl rfl rfl) (h3b)) ?_
        refine al_d rfl rfl rfl (by exact (by exact opd_pick_f rfl rfl rfl)) ?_
        refine al_nil ?_
        refine awp_cond rfl (fun hc2 => ?_) (fun hc2 => ?_)
        -- cond 2
        · skip
          ((cases hc2; done))
        · skip
          refine awp_skip ?_
          refine awp_seq ?_
          refine awp_region ?_
          refine al_d rfl rfl rfl (by exact opd_assign_own (id := 905) (sz := 2) (ty := 46) rfl rfl rfl) ?_
          refine al_nil ?_
          refine awp_seq ?_
          refine awp_seq ?_
          refine awp_region ?_
          refine al_d rfl rfl rfl (by exact opd_assign rfl rfl) ?_
          refine al_nil ?_
          refine awp_block ?_
          -- loop
          refine awp_loop (σ := Nat) (fun m => ([(0, sv s), (4, .pv (slToks T)), (7, .osl 905 (firstTags T m).length 0 (firstTags T m).length), (8, iv ((3 * m : Nat) : Int))], [(905, ⟨(firstTags T m).length, 2, 46, tgRows (firstTags T m)⟩)])) (fun m => 3 * m ≤ T.length) (fun m => T.length - 3 * m) 0 (Nat.zero_le _) ?_ ?_
          · exact (Ent.wk ⟨⟨_, rfl, rfl⟩, (by (simp; done)), ⟨_, rfl, rfl⟩, (by (simp; done)), ⟨_, rfl, rfl⟩, (by (simp; rfl)), ⟨_, rfl, rfl⟩, (by (simp; done)), trivial⟩ ⟨⟨_, rfl, rfl⟩, (by exact tgRows_clo _ _), trivial⟩ trivial)
          · rintro m hm
            have hfl := firstTags_len T m
            refine awp_seq ?_
            refine awp_seq ?_
            refine awp_region ?_
            refine al_d rfl rfl rfl (by exact opd_move rfl rfl) ?_
            refine al_d rfl rfl rfl (by exact opd_move rfl rfl) ?_
            refine al_d rfl rfl rfl (by exact (by exact opd_len_sl rfl Try.underlying71 rfl)) ?_
            refine al_d rfl rfl rfl (by exact opd_lss rfl rfl rfl) ?_
            refine al_nil ?_
            refine awp_cond rfl (fun hc3 => ?_) (fun hc3 => ?_)
            -- cond 3
            · have hlt : 3 * m + 2 < T.length := by have := of_decide_eq_true hc3; omega
              obtain ⟨a, ha⟩ := get_of_lt (l := T) (k := 3 * m) (by omega)
              obtain ⟨c, hc⟩ := get_of_lt hlt
              have hia := map_get (f := encTok) ha
              have hic := map_get (f := encTok) hc
              have htag : tagAt T m = ⟨a.text, c.text⟩ := by rw [tagAt, ha, hc]; rfl
              have hw2 : IntKind.i64.wrap (((3 * m : Nat) : Int) + 2) = ((3 * m + 2 : Nat) : Int) := by rw [IntKind.wrap_i64]; omega
              refine awp_skip ?_
              refine awp_seq ?_
              refine awp_block ?_
              refine awp_seq ?_
              refine awp_seq ?_
              refine awp_bool (t := 48) (n := 16) (X := !decide (a.kind = 1) || !decide (c.kind = 3)) ?_ ?_
              · all_goals (refine al_d rfl rfl rfl (by exact opd_move rfl rfl) ?_)
                all_goals (refine al_d rfl rfl rfl (by exact opd_move rfl rfl) ?_)
                all_goals (refine al_d rfl rfl rfl (by exact (by exact x_index_pad rfl so71 rfl rfl (by omega) (by exact Int.toNat_natCast _) hia rfl)) ?_)
                all_goals (refine al_d rfl rfl rfl (by exact (by exact opd_field_pad rfl fo78_0 rfl rfl)) ?_)
                all_goals (refine al_d rfl rfl rfl (by exact (by exact opd_load1_pad rfl Try.isAgg3 rfl hia rfl)) ?_)
                all_goals (refine al_d rfl rfl rfl (by exact opd_neq rfl rfl rfl) ?_)
                all_goals (refine al_d rfl rfl rfl (by exact opd_move rfl rfl) ?_)
                all_goals (refine al_split (t := 40) rfl (fun h40 => ?_) (fun h40 => ?_))
                all_goals (try contradiction)
                all_goals (first | refine al_off rfl rfl rfl rfl rfl ?_ | refine al_ond rfl rfl rfl rfl rfl rfl (by exact opd_move rfl rfl) ?_)
                all_goals (first | refine al_off rfl rfl rfl rfl rfl ?_ | refine al_ond rfl rfl rfl rfl rfl rfl (by exact opd_move rfl rfl) ?_)
                all_goals (first | refine al_off rfl rfl rfl rfl rfl ?_ | refine al_ond rfl rfl rfl rfl rfl rfl (by exact opd_add rfl rfl rfl hw2) ?_)
                all_goals (first | refine al_off rfl rfl rfl rfl rfl ?_ | refine al_ond rfl rfl rfl rfl rfl rfl (by exact (by exact x_index_pad rfl so71 rfl rfl (by omega) (by exact Int.toNat_natCast _) hic rfl)) ?_)
                all_goals (first | refine al_off rfl rfl rfl rfl rfl ?_ | refine al_ond rfl rfl rfl rfl rfl rfl (by exact (by exact opd_field_pad rfl fo78_0 rfl rfl)) ?_)
                all_goals (first | refine al_off rfl rfl rfl rfl rfl ?_ | refine al_ond rfl rfl rfl rfl rfl rfl (by exact (by exact opd_load1_pad rfl Try.isAgg3 rfl hic rfl)) ?_)
                all_goals (first | refine al_off rfl rfl rfl rfl rfl ?_ | refine al_ond rfl rfl rfl rfl rfl rfl (by exact opd_neq rfl rfl rfl) ?_)
                all_goals (refine al_d rfl rfl rfl (by exact (by first | exact opd_pick_t rfl rfl rfl | exact opd_pick_f rfl rfl rfl)) ?_)
                all_goals (refine al_nil ?_)
                all_goals (exact ⟨⟨_, rfl, by (rw [h40]; rfl)⟩, rfl, rfl, rfl⟩)
              refine awp_cond rfl (fun hc4 => ?_) (fun hc4 => ?_)
              -- cond 4
              · have hp : gParse s = ([], 5) := hno fun l _ _ hk _ _ => by
                  obtain ⟨k1, k2⟩ := kOk_at m T a c hk ha hc
                  rw [k1, k2] at hc4
                  cases hc4
                rw [hp]
                refine awp_seq ?_
                refine awp_region ?_
                refine al_d rfl rfl rfl (by exact opd_assign rfl rfl) ?_
                refine al_d rfl rfl rfl (by exact opd_assign rfl rfl) ?_
                refine al_nil ?_
                refine awp_ret ?_
                -- return
                refine aret2 (H' := []) (by exact .inr rfl) rfl (rval_tmp rfl) (rval_tmp rfl) (Fin.wk (by simp) trivial trivial) ?_
                exact ⟨rfl, rfl⟩
              · skip
                refine awp_skip ?_
                refine awp_drawc follows ?_
                refine dc_cons (r := ⟨_, some [905], []⟩) (DStep.plain rfl (fun H1 hH => by exact opd_move rfl rfl)) rfl ?_
                refine dc_cons (r := ⟨_, some [], []⟩) (DStep.plain rfl (fun H1 hH => by exact opd_move rfl rfl)) rfl ?_
                refine dc_cons (r := ⟨_, some [], []⟩) (DStep.plain rfl (fun H1 hH => by exact opd_move rfl rfl)) rfl ?_
                refine dc_cons (r := ⟨_, some [], []⟩) (DStep.plain rfl (fun H1 hH => by exact (by exact x_index_pad rfl so71 rfl rfl (by omega) (by exact Int.toNat_natCast _) hia rfl))) rfl ?_
                refine dc_cons (r := ⟨_, some [], []⟩) (DStep.plain rfl (fun H1 hH => by exact (by exact opd_field_pad rfl fo78_1 rfl rfl))) rfl ?_
                refine dc_cons (r := ⟨_, some [], []⟩) (DStep.plain rfl (fun H1 hH => by exact (by exact opd_load1_pad rfl Try.isAgg9 rfl hia rfl))) rfl ?_
                refine dc_cons (r := ⟨_, some [], []⟩) (DStep.plain rfl (fun H1 hH => by exact opd_move rfl rfl)) rfl ?_
                refine dc_cons (r := ⟨_, some [], []⟩) (DStep.plain rfl (fun H1 hH => by exact opd_move rfl rfl)) rfl ?_
                refine dc_cons (r := ⟨_, some [], []⟩) (DStep.plain rfl (fun H1 hH => by exact opd_add rfl rfl rfl hw2)) rfl ?_
                refine dc_cons (r := ⟨_, some [], []⟩) (DStep.plain rfl (fun H1 hH => by exact (by exact x_index_pad rfl so71 rfl rfl (by omega) (by exact Int.toNat_natCast _) hic rfl))) rfl ?_
                refine dc_cons (r := ⟨_, some [], []⟩) (DStep.plain rfl (fun H1 hH => by exact (by exact opd_field_pad rfl fo78_1 rfl rfl))) rfl ?_
                refine dc_cons (r := ⟨_, some [], []⟩) (DStep.plain rfl (fun H1 hH => by exact (by exact opd_load1_pad rfl Try.isAgg9 rfl hic rfl))) rfl ?_
                refine dc_cons (r := ⟨_, some [], []⟩) (DStep.plain rfl (fun H1 hH => by exact x_build rfl bo46 rfl rfl)) rfl ?_
                refine dc_cons (r := ⟨_, some [], []⟩) (DStep.plain rfl (fun H1 hH => by exact (by exact x_buildSlice [encTag ⟨a.text, c.text⟩] rfl so22 rfl rfl rfl rfl rfl (by intro r hr; rw [List.mem_singleton] at hr; subst hr; rfl)))) rfl ?_
                refine dc_cons (r := ⟨_, some [905], [_]⟩) (DStep.plain rfl (fun H1 hH => by exact x_append (ps := [encTag ⟨a.text, c.text⟩]) rfl so22 ei46 rfl ((hH _ rfl).trans rfl) rfl rfl rfl (tgRows_len _) rfl (by intro r hr; rw [List.mem_singleton] at hr; subst hr; rfl) (m := 1) rfl (by omega) rfl (tgRows_app (firstTags T m) ⟨a.text, c.text⟩))) rfl ?_
                refine dc_cons (r := ⟨_, some [905], []⟩) (DStep.plain rfl (fun H1 hH => by exact opd_assign rfl rfl)) rfl ?_
                refine dc_nil ⟨by kernel_rfl, ?_⟩
                refine awp_region ?_
                refine al_d rfl rfl rfl (by exact opd_move rfl rfl) ?_
                refine al_d rfl rfl rfl (by exact opd_add rfl rfl rfl (show IntKind.i64.wrap (((3 * m : Nat) : Int) + 3) = ((3 * (m + 1) : Nat) : Int) by rw [IntKind.wrap_i64]; omega)) ?_
                refine al_d rfl rfl rfl (by exact opd_assign rfl rfl) ?_
                refine al_nil ?_
                -- end of a round
                refine ⟨m + 1, by omega, by omega, ?_⟩
                dsimp only
                rw [firstTags_next, htag, List.length_append, List.length_singleton]
                exact (Ent.wk ⟨⟨_, rfl, rfl⟩, (by (simp; done)), ⟨_, rfl, rfl⟩, (by (simp; done)), ⟨_, rfl, rfl⟩, (by (simp; rfl)), ⟨_, rfl, rfl⟩, (by (simp; done)), trivial⟩ ⟨⟨_, rfl, rfl⟩, (by exact tgRows_clo _ _), trivial⟩ trivial)
            · have hge : m = T.length / 3 := by have := of_decide_eq_false hc3; omega
              have htg : tagsOf T = some (firstTags T m) := by rw [tagsOf_eq, if_pos h3, hge]
              have hoo := hok _ htg
              obtain ⟨out, hout⟩ : ∃ out, out = firstTags T m := ⟨_, rfl⟩
              rw [← hout] at htg hoo hfl ⊢
              obtain ⟨w, f, hw⟩ : ∃ w f, gText out = (w, f) := ⟨_, _, rfl⟩
              have htx := fun H => text09_c out H hoo
              simp only [hw] at htx
              refine awp_exit ?_
              refine awp_seq ?_
              -- before the slot
              refine AWp.ent (Ent.fz (id := 905) (E' := [(0, sv s), (7, .pv (slTags out))]) (H' := []) (out.map encTag) rfl (by rw [List.map_map]; rfl)
                (by intro q hq; simp only [List.mem_cons, List.not_mem_nil, or_false] at hq; rcases hq with rfl | rfl; exact ⟨_, rfl, .same (.pv _)⟩; exact ⟨_, rfl, .osl (by rw [Nat.zero_add, List.drop_zero, List.take_of_length_le (by rw [List.length_map]; exact Nat.le_refl _)])⟩) rfl trivial trivial) ?_
              by_cases hf : f = 0
              · have hF : (!decide (f = 0)) = false := by rw [decide_eq_true hf]; rfl
                by_cases hws : w = s
                · have hW : (!decide (w = s)) = false := by rw [decide_eq_true hws]; rfl
                  have hp : gParse s = (out, 0) := by
                    have := (parse_text (l := out) (by rw [hw]; exact hf)).1
                    rw [hw] at this
                    rw [← hws]; exact this
                  rw [hp]
                  refine awp_region ?_
                  refine al_d rfl rfl rfl (by exact opd_move rfl rfl) ?_
                  refine al_d rfl rfl rfl (by exact opr_call rfl rfl Try.call16 rfl (htx _)) ?_
                  refine al_d rfl rfl rfl (by exact opd_move rfl rfl) ?_
                  refine al_d rfl rfl rfl (by exact opd_extract rfl rfl rfl) ?_
                  refine al_d rfl rfl rfl (by exact opd_extract rfl rfl rfl) ?_
                  refine al_d rfl rfl rfl (by exact opd_assign rfl rfl) ?_
                  refine al_d rfl rfl rfl (by exact opd_assign rfl rfl) ?_
                  refine al_nil ?_
                  refine awp_seq ?_
                  refine awp_seq ?_
                  refine awp_region ?_
                  refine al_d rfl rfl rfl (by exact opd_move rfl rfl) ?_
                  refine al_d rfl rfl rfl (by exact OpD.val (by exact opd_neq rfl rfl rfl) (hF)) ?_
                  refine al_d rfl rfl rfl (by exact opd_move rfl rfl) ?_
                  refine al_ond rfl rfl rfl (by rfl) rfl rfl (by exact opd_move rfl rfl) ?_
                  refine al_ond rfl rfl rfl (by rfl) rfl rfl (by exact opd_move rfl rfl) ?_
                  refine al_ond rfl rfl rfl (by rfl) rfl rfl (by exact OpD.val (by exact opd_sneq rfl rfl rfl) (hW)) ?_
                  refine al_d rfl rfl rfl (by exact (by exact opd_pick_f rfl rfl rfl)) ?_
                  refine al_nil ?_
                  refine awp_cond rfl (fun hc5 => ?_) (fun hc5 => ?_)
                  -- cond 5
                  · skip
                    ((cases hc5; done))
                  · skip
                    refine awp_skip ?_
                    refine awp_seq ?_
                    refine awp_region ?_
                    refine al_d rfl rfl rfl (by exact opd_move rfl rfl) ?_
                    refine al_d rfl rfl rfl (by exact opd_assign rfl rfl) ?_
                    refine al_d rfl rfl rfl (by exact opd_assign rfl rfl) ?_
                    refine al_nil ?_
                    refine awp_ret ?_
                    -- return
                    refine aret2 (H' := []) (by exact .inr rfl) rfl (rval_tmp rfl) (rval_tmp rfl) (Fin.wk (by simp) trivial trivial) ?_
                    exact ⟨rfl, rfl⟩
                · have hW : (!decide (w = s)) = true := by rw [decide_eq_false hws]; rfl
                  have hp : gParse s = ([], 5) := hno fun l _ h2 _ h4 _ => by
                    rw [htg] at h4
                    cases h4
                    rw [hw] at h2
                    exact hws (Prod.mk.inj h2).1
                  rw [hp]
                  refine awp_region ?_
                  refine al_d rfl rfl rfl (by exact opd_move rfl rfl) ?_
                  refine al_d rfl rfl rfl (by exact opr_call rfl rfl Try.call16 rfl (htx _)) ?_
                  refine al_d rfl rfl rfl (by exact opd_move rfl rfl) ?_
                  refine al_d rfl rfl rfl (by exact opd_extract rfl rfl rfl) ?_
                  refine al_d rfl rfl rfl (by exact opd_extract rfl rfl rfl) ?_
                  refine al_d rfl rfl rfl (by exact opd_assign rfl rfl) ?_
                  refine al_d rfl rfl rfl (by exact opd_assign rfl rfl) ?_
                  refine al_nil ?_
                  refine awp_seq ?_
                  refine awp_seq ?_
                  refine awp_region ?_
                  refine al_d rfl rfl rfl (by exact opd_move rfl rfl) ?_
                  refine al_d rfl rfl rfl (by exact OpD.val (by exact opd_neq rfl rfl rfl) (hF)) ?_
                  refine al_d rfl rfl rfl (by exact opd_move rfl rfl) ?_
                  refine al_ond rfl rfl rfl (by rfl) rfl rfl (by exact opd_move rfl rfl) ?_
                  refine al_ond rfl rfl rfl (by rfl) rfl rfl (by exact opd_move rfl rfl) ?_
                  refine al_ond rfl rfl rfl (by rfl) rfl rfl (by exact OpD.val (by exact opd_sneq rfl rfl rfl) (hW)) ?_
                  refine al_d rfl rfl rfl (by exact (by exact opd_pick_f rfl rfl rfl)) ?_
                  refine al_nil ?_
                  refine awp_cond rfl (fun hc6 => ?_) (fun hc6 => ?_)
                  -- cond 6
                  · skip
                    refine awp_seq ?_
                    refine awp_region ?_
                    refine al_d rfl rfl rfl (by exact opd_assign rfl rfl) ?_
                    refine al_d rfl rfl rfl (by exact opd_assign rfl rfl) ?_
                    refine al_nil ?_
                    refine awp_ret ?_
                    -- return
                    refine aret2 (H' := []) (by exact .inr rfl) rfl (rval_tmp rfl) (rval_tmp rfl) (Fin.wk (by simp) trivial trivial) ?_
                    exact ⟨rfl, rfl⟩
                  · skip
                    ((cases hc6; done))
              · have hF : (!decide (f = 0)) = true := by rw [decide_eq_false hf]; rfl
                have hp : gParse s = ([], 5) := hno fun l _ h2 _ h4 _ => by
                  rw [htg] at h4
                  cases h4
                  rw [hw] at h2
                  exact hf (Prod.mk.inj h2).2
                rw [hp]
                refine awp_region ?_
                refine al_d rfl rfl rfl (by exact opd_move rfl rfl) ?_
                refine al_d rfl rfl rfl (by exact opr_call rfl rfl Try.call16 rfl (htx _)) ?_
                refine al_d rfl rfl rfl (by exact opd_move rfl rfl) ?_
                refine al_d rfl rfl rfl (by exact opd_extract rfl rfl rfl) ?_
                refine al_d rfl rfl rfl (by exact opd_extract rfl rfl rfl) ?_
                refine al_d rfl rfl rfl (by exact opd_assign rfl rfl) ?_
                refine al_d rfl rfl rfl (by exact opd_assign rfl rfl) ?_
                refine al_nil ?_
                refine awp_seq ?_
                refine awp_seq ?_
                refine awp_region ?_
                refine al_d rfl rfl rfl (by exact opd_move rfl rfl) ?_
                refine al_d rfl rfl rfl (by exact OpD.val (by exact opd_neq rfl rfl rfl) (hF)) ?_
                refine al_d rfl rfl rfl (by exact opd_move rfl rfl) ?_
                refine al_off rfl rfl rfl (by rfl) rfl ?_
                refine al_off rfl rfl rfl (by rfl) rfl ?_
                refine al_off rfl rfl rfl (by rfl) rfl ?_
                refine al_d rfl rfl rfl (by exact (by exact opd_pick_t rfl rfl rfl)) ?_
                refine al_nil ?_
                refine awp_cond rfl (fun hc7 => ?_) (fun hc7 => ?_)
                -- cond 7
                · skip
                  refine awp_seq ?_
                  refine awp_region ?_
                  refine al_d rfl rfl rfl (by exact opd_assign rfl rfl) ?_
                  refine al_d rfl rfl rfl (by exact opd_assign rfl rfl) ?_
                  refine al_nil ?_
                  refine awp_ret ?_
                  -- return
                  refine aret2 (H' := []) (by exact .inr rfl) rfl (rval_tmp rfl) (rval_tmp rfl) (Fin.wk (by simp) trivial trivial) ?_
                  exact ⟨rfl, rfl⟩
                · skip
                  ((cases hc7; done))
      · have h3b : (!decide (((T.length % 3 : Nat) : Int) = 0)) = true := by rw [decide_eq_false (by omega)]; rfl
        have hp : gParse s = ([], 5) := hno fun l _ _ _ h4 _ => by
          rw [tagsOf_eq, if_neg h3] at h4
          cases h4
        rw [hp]
        refine awp_skip ?_
        refine awp_seq ?_
        refine awp_region ?_
        refine al_d rfl rfl rfl (by exact opd_move rfl rfl) ?_
        refine al_d rfl rfl rfl (by exact opr_call rfl rfl Try.call45 rfl (hlx _)) ?_
        refine al_d rfl rfl rfl (by exact opd_move rfl rfl) ?_
        refine al_d rfl rfl rfl (by exact opd_extract rfl rfl rfl) ?_
        refine al_d rfl rfl rfl (by exact opd_extract rfl rfl rfl) ?_
        refine al_d rfl rfl rfl (by exact opd_extract rfl rfl rfl) ?_
        refine al_d rfl rfl rfl (by exact opd_assign rfl rfl) ?_
        refine al_d rfl rfl rfl (by exact opd_assign rfl rfl) ?_
        refine al_d rfl rfl rfl (by exact opd_assign rfl rfl) ?_
        refine al_nil ?_
        refine awp_seq ?_
        refine awp_seq ?_
        refine awp_region ?_
        refine al_d rfl rfl rfl (by exact opd_move rfl rfl) ?_
        refine al_d rfl rfl rfl (by exact OpD.val (by exact opd_neq rfl rfl rfl) (hE)) ?_
        refine al_d rfl rfl rfl (by exact opd_move rfl rfl) ?_
        refine al_ond rfl rfl rfl (by rfl) rfl rfl (by exact opd_move rfl rfl) ?_
        refine al_ond rfl rfl rfl (by rfl) rfl rfl (by exact (by exact opd_len_sl rfl Try.underlying71 rfl)) ?_
        refine al_ond rfl rfl rfl (by rfl) rfl rfl (by exact opd_rem rfl rfl rfl (by decide) hrem) ?_
        refine al_ond rfl rfl rfl (by rfl) rfl rfl (by exact OpD.val (by exact opd_neq rfl rfl rfl) (h3b)) ?_
        refine al_d rfl rfl rfl (by exact (by exact opd_pick_f rfl rfl rfl)) ?_
        refine al_nil ?_
        refine awp_cond rfl (fun hc8 => ?_) (fun hc8 => ?_)
        -- cond 8
        · skip
          refine awp_seq ?_
          refine awp_region ?_
          refine al_d rfl rfl rfl (by exact opd_assign rfl rfl) ?_
          refine al_d rfl rfl rfl (by exact opd_assign rfl rfl) ?_
          refine al_nil ?_
          refine awp_ret ?_
          -- return
          refine aret2 (H' := []) (by exact .inr rfl) rfl (rval_tmp rfl) (rval_tmp rfl) (Fin.wk (by simp) trivial trivial) ?_
          exact ⟨rfl, rfl⟩
        · skip
          ((cases hc8; done))
    · have hE : (!decide (e = 0)) = true := by rw [decide_eq_false he]; rfl
      have hp : gParse s = ([], 5) := hno fun l _ _ _ _ h => he h
      rw [hp]
      refine awp_skip ?_
      refine awp_seq ?_
      refine awp_region ?_
      refine al_d rfl rfl rfl (by exact opd_move rfl rfl) ?_
      refine al_d rfl rfl rfl (by exact opr_call rfl rfl Try.call45 rfl (hlx _)) ?_
      refine al_d rfl rfl rfl (by exact opd_move rfl rfl) ?_
      refine al_d rfl rfl rfl (by exact opd_extract rfl rfl rfl) ?_
      refine al_d rfl rfl rfl (by exact opd_extract rfl rfl rfl) ?_
      refine al_d rfl rfl rfl (by exact opd_extract rfl rfl rfl) ?_
      refine al_d rfl rfl rfl (by exact opd_assign rfl rfl) ?_
      refine al_d rfl rfl rfl (by exact opd_assign rfl rfl) ?_
      refine al_d rfl rfl rfl (by exact opd_assign rfl rfl) ?_
      refine al_nil ?_
      refine awp_seq ?_
      refine awp_seq ?_
      refine awp_region ?_
      refine al_d rfl rfl rfl (by exact opd_move rfl rfl) ?_
      refine al_d rfl rfl rfl (by exact OpD.val (by exact opd_neq rfl rfl rfl) (hE)) ?_
      refine al_d rfl rfl rfl (by exact opd_move rfl rfl) ?_
      refine al_off rfl rfl rfl (by rfl) rfl ?_
      refine al_off rfl rfl rfl (by rfl) rfl ?_
      refine al_off rfl rfl rfl (by rfl) rfl ?_
      refine al_off rfl rfl rfl (by rfl) rfl ?_
      refine al_d rfl rfl rfl (by exact (by exact opd_pick_t rfl rfl rfl)) ?_
      refine al_nil ?_
      refine awp_cond rfl (fun hc9 => ?_) (fun hc9 => ?_)
      -- cond 9
      · skip
        refine awp_seq ?_
        refine awp_region ?_
        refine al_d rfl rfl rfl (by exact opd_assign rfl rfl) ?_
        refine al_d rfl rfl rfl (by exact opd_assign rfl rfl) ?_
        refine al_nil ?_
        refine awp_ret ?_
        -- return
        refine aret2 (H' := []) (by exact .inr rfl) rfl (rval_tmp rfl) (rval_tmp rfl) (Fin.wk (by simp) trivial trivial) ?_
        exact ⟨rfl, rfl⟩
      · skip
        ((cases hc9; done))
end Go.Proofs.Ytedfihgkopejcaa
end
