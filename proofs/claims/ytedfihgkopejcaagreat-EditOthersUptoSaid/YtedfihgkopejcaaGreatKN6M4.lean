/-
  CONTRACTS: package object's small functions; slices.ContainsFunc with a function that writes; object.Valid. Conditions: lengths below 2^62.
  CONTRACTS: slices.IndexFunc, ContainsFunc with a function that writes; object.Valid. Conditions: lengths below 2^62.
  CONTRACTS: object.Valid. Conditions: lengths below 2^62.
  CONTRACTS: atlas.Valid. Conditions: lengths below 2^62.
  WHAT THE ARGUMENTS OF THE LAWS HOLD: shapes as plain Lean data. Conditions: none.
  WHAT ALL LAWS' CLAIMS SHARE. Conditions: none.
  WHAT THE ARGUMENTS OF THE LAWS HOLD: edits, evidence. Conditions: none.
  STATES AND RESULTS in front of a heap that is not looked into. Conditions: none.
  PLAIN LAWS of Go's order of strings, of valid maps and their parts. Conditions: none.
  CONTRACTS: slices.IndexFunc, ContainsFunc, Equal at the types of the map; package verify's small functions.
  Conditions: lengths below 2^62.
  CONTRACTS: the functions of package verify and of its reference: objects, tags, what an edit shows. Conditions: lengths below 2^62.
  CONTRACTS: what an edit shows: package verify. Conditions: lengths below 2^62.
  CONTRACTS: equal tags, edits that are alike, the closures over the edits that are shown. Conditions: lengths below 2^62.
  CONTRACT: verify.Accept. Conditions: lengths below 2^40.
  CONTRACTS: what is moderate (three references), names, membership. Conditions: lengths below 2^62.
  STATES in front of a heap that is not looked into: objects are dropped. Conditions: none.
  CONTRACTS: package edit: kinds, references, closed maps. Conditions: lengths below 2^62.
  PLAIN LAWS of a greedy choice: the places that it takes fit together, and no others come before them. Conditions: none.
-/
import Derived.Test.YtedfihgkopejcaaGreatKN6M3
import Derived.Scope
section
set_option linter.unusedVariables false
set_option linter.unusedSimpArgs false
set_option maxRecDepth 100000
namespace Go.Proofs.YtedfihgkopejcaaGreat
open Go.Abs
def gWord (k : Int) : ByteArray := if k = 1 then ⟨#[110, 111, 100, 101]⟩ else if k = 2 then ⟨#[119, 97, 121]⟩ else if k = 3 then ⟨#[97, 114, 101, 97]⟩ else if k = 4 then ⟨#[114, 111, 117, 116, 101]⟩ else if k = 5 then ⟨#[116, 117, 114, 110]⟩ else sNil
abbrev wordRow : List AV := [sv sNil, sv ⟨#[110, 111, 100, 101]⟩, sv ⟨#[119, 97, 121]⟩, sv ⟨#[97, 114, 101, 97]⟩, sv ⟨#[114, 111, 117, 116, 101]⟩, sv ⟨#[116, 117, 114, 110]⟩]
theorem six {k : Int} (h0 : 0 ≤ k) (h1 : k < 6) : k = 0 ∨ k = 1 ∨ k = 2 ∨ k = 3 ∨ k = 4 ∨ k = 5 := by omega
theorem word_at {k : Int} (h0 : 0 ≤ k) (h1 : k < 6) : wordRow[k.toNat]? = some (sv (gWord k)) := by
  rcases six h0 h1 with rfl | rfl | rfl | rfl | rfl | rfl <;> rfl
theorem word_c (k : Int) (H : Heap) : ACalls Tryz.prog 81 [iv k] H (fun r H' => r = sv (gWord k) ∧ H' = H) := by
  refine ACalls.pure ?_ (by simp) H
  refine ACalls.body Tryz.func81 rfl Tryz.ntmps81 (Nat.le_of_ble_eq_true rfl) ?_
  refine awp_seq ?_
  refine awp_region ?_
  refine al_d rfl rfl rfl (by exact opd_assign rfl rfl) ?_
  refine al_nil ?_
  refine awp_seq ?_
  refine awp_region ?_
  refine al_d rfl rfl rfl (by exact x_build_arr rfl ao154 rfl rfl) ?_
  refine al_d rfl rfl rfl (by exact x_alloc (id := 3) rfl zo154 rfl rfl) ?_
  refine al_n rfl rfl (by exact (by exact x_store_all rfl Tryz.sizeOf154 rfl rfl rfl rfl rfl rfl rfl rfl)) ?_
  refine al_nil ?_
  refine awp_seq ?_
  refine awp_seq ?_
  refine awp_bool (t := 10) (n := 7) (X := decide (k < 0) || decide (6 ≤ k)) ?_ ?_
  · all_goals (refine al_d rfl rfl rfl (by exact opd_move rfl rfl) ?_)
    all_goals (refine al_d rfl rfl rfl (by exact opd_lss rfl rfl rfl) ?_)
    all_goals (refine al_d rfl rfl rfl (by exact opd_move rfl rfl) ?_)
    all_goals (refine al_split (t := 7) rfl (fun h7 => ?_) (fun h7 => ?_))
    all_goals (try contradiction)
    all_goals (first | refine al_off rfl rfl rfl rfl rfl ?_ | refine al_ond rfl rfl rfl rfl rfl rfl (by exact opd_move rfl rfl) ?_)
    all_goals (first | refine al_off rfl rfl rfl rfl rfl ?_ | refine al_ond rfl rfl rfl rfl rfl rfl (by exact opd_geq rfl rfl rfl) ?_)
    all_goals (refine al_d rfl rfl rfl (by exact (by first | exact opd_pick_t rfl rfl rfl | exact opd_pick_f rfl rfl rfl)) ?_)
    all_goals (refine al_nil ?_)
    all_goals (exact ⟨⟨_, rfl, by (simp only [*, Bool.false_and, Bool.true_and, Bool.and_false, Bool.and_true, Bool.true_or, Bool.false_or, Bool.or_true, Bool.or_false, Bool.not_true, Bool.not_false]; done)⟩, rfl, rfl, rfl⟩)
  refine awp_cond rfl (fun hc1 => ?_) (fun hc1 => ?_)
  -- cond 1
  · have hn : ¬ (k = 1) ∧ ¬ (k = 2) ∧ ¬ (k = 3) ∧ ¬ (k = 4) ∧ ¬ (k = 5) := by
      simp only [Bool.or_eq_true, decide_eq_true_eq] at hc1
      omega
    refine awp_seq ?_
    refine awp_region ?_
    refine al_d rfl rfl rfl (by exact opd_assign rfl rfl) ?_
    refine al_nil ?_
    refine awp_ret ?_
    -- return
    refine aret1 (H' := []) (by exact .inr rfl) rfl (rval_tmp rfl) (Fin.wk (by simp) trivial trivial) ?_
    exact ⟨by simp only [gWord, hn.1, hn.2.1, hn.2.2.1, hn.2.2.2.1, hn.2.2.2.2, if_false], rfl⟩
  · have hb : 0 ≤ k ∧ k < 6 := by
      simp only [Bool.or_eq_false_iff, decide_eq_false_iff_not] at hc1
      omega
    refine awp_skip ?_
    refine awp_seq ?_
    refine awp_region ?_
    refine al_d rfl rfl rfl (by exact opd_move rfl rfl) ?_
    refine al_d rfl rfl rfl (by exact opd_index_arr (m := k.toNat) (k2 := k.toNat) rfl Tryz.underlying154 Tryz.sizeOf9 rfl rfl rfl rfl hb.1 rfl (by omega) (by omega)) ?_
    refine al_d rfl rfl rfl (by exact opd_load1_ref rfl Tryz.isAgg9 rfl rfl rfl rfl (word_at hb.1 hb.2)) ?_
    refine al_d rfl rfl rfl (by exact opd_assign rfl rfl) ?_
    refine al_nil ?_
    refine awp_ret ?_
    -- return
    refine aret1 (H' := []) (by exact .inr rfl) rfl (rval_tmp rfl) (Fin.wk (by simp) trivial trivial) ?_
    exact ⟨rfl, rfl⟩
def gLeast (k : Int) : Int := if k = 2 then 2 else if k = 3 then 3 else if k = 4 then 1 else if k = 5 then 3 else 0
theorem least_at {k : Int} (h0 : 0 ≤ k) (h1 : k < 6) : [iv 0, iv 0, iv 2, iv 3, iv 1, iv 3][k.toNat]? = some (iv (gLeast k)) := by
  rcases six h0 h1 with rfl | rfl | rfl | rfl | rfl | rfl <;> rfl
theorem least_c (k : Int) (H : Heap) (h0 : 0 ≤ k) (h1 : k < 6) : ACalls Tryz.prog 83 [iv k] H (fun r H' => r = iv (gLeast k) ∧ H' = H) := by
  refine ACalls.pure ?_ (by simp) H
  refine ACalls.body Tryz.func83 rfl Tryz.ntmps83 (Nat.le_of_ble_eq_true rfl) ?_
  refine awp_seq ?_
  refine awp_region ?_
  refine al_d rfl rfl rfl (by exact opd_assign rfl rfl) ?_
  refine al_nil ?_
  refine awp_seq ?_
  refine awp_region ?_
  refine al_d rfl rfl rfl (by exact x_build_arr rfl ao155 rfl rfl) ?_
  refine al_d rfl rfl rfl (by exact opd_move rfl rfl) ?_
  refine al_d rfl rfl rfl (by exact opd_index_agg (m := k.toNat) rfl Tryz.underlying155 Tryz.sizeOf3 Tryz.isAgg3 rfl rfl h0 rfl (by omega) (least_at h0 h1)) ?_
  refine al_d rfl rfl rfl (by exact opd_assign rfl rfl) ?_
  refine al_nil ?_
  refine awp_ret ?_
  -- return
  refine aret1 (H' := []) (by exact .inr rfl) rfl (rval_tmp rfl) (Fin.wk (by simp) trivial trivial) ?_
  exact ⟨rfl, rfl⟩
def gOn (x y : Int) : Bool := ((decide (0 ≤ x) && decide (x < 1048576)) && decide (0 ≤ y)) && decide (y < 1048576)
theorem on_c (x y : Int) (H : Heap) : ACalls Tryz.prog 85 [.agg [iv x, iv y]] H (fun r H' => r = bv (gOn x y) ∧ H' = H) := by
  refine ACalls.pure ?_ (by simp) H
  refine ACalls.body Tryz.func85 rfl Tryz.ntmps85 (Nat.le_of_ble_eq_true rfl) ?_
  refine awp_seq ?_
  refine awp_region ?_
  refine al_d rfl rfl rfl (by exact opd_box (id := 1) rfl rfl rfl rfl rfl) ?_
  refine al_d rfl rfl rfl (by exact opd_assign rfl rfl) ?_
  refine al_nil ?_
  refine awp_seq ?_
  refine awp_bool (t := 2) (n := 22) (X := gOn x y) ?_ ?_
  · all_goals (refine al_d rfl rfl rfl (by exact (by exact opd_field_ref rfl fo26_0 rfl rfl rfl rfl)) ?_)
    all_goals (refine al_d rfl rfl rfl (by exact (by exact opd_load1_ref rfl Tryz.isAgg3 rfl rfl rfl rfl rfl)) ?_)
    all_goals (refine al_d rfl rfl rfl (by exact opd_geq rfl rfl rfl) ?_)
    all_goals (refine al_d rfl rfl rfl (by exact opd_move rfl rfl) ?_)
    all_goals (refine al_split (t := 6) rfl (fun h6 => ?_) (fun h6 => ?_))
    all_goals (try contradiction)
    all_goals (first | refine al_off rfl rfl rfl rfl rfl ?_ | refine al_ond rfl rfl rfl rfl rfl rfl (by exact (by exact opd_field_ref rfl fo26_0 rfl rfl rfl rfl)) ?_)
    all_goals (first | refine al_off rfl rfl rfl rfl rfl ?_ | refine al_ond rfl rfl rfl rfl rfl rfl (by exact (by exact opd_load1_ref rfl Tryz.isAgg3 rfl rfl rfl rfl rfl)) ?_)
    all_goals (first | refine al_off rfl rfl rfl rfl rfl ?_ | refine al_ond rfl rfl rfl rfl rfl rfl (by exact opd_lss rfl rfl rfl) ?_)
    all_goals (refine al_d rfl rfl rfl (by exact (by first | exact opd_pick_t rfl rfl rfl | exact opd_pick_f rfl rfl rfl)) ?_)
    all_goals (refine al_d rfl rfl rfl (by exact opd_move rfl rfl) ?_)
    all_goals (refine al_split (t := 11) rfl (fun h11 => ?_) (fun h11 => ?_))
    all_goals (try contradiction)
    all_goals (first | refine al_off rfl rfl rfl rfl rfl ?_ | refine al_ond rfl rfl rfl rfl rfl rfl (by exact (by exact opd_field_ref rfl fo26_1 rfl rfl rfl rfl)) ?_)
    all_goals (first | refine al_off rfl rfl rfl rfl rfl ?_ | refine al_ond rfl rfl rfl rfl rfl rfl (by exact (by exact opd_load1_ref rfl Tryz.isAgg3 rfl rfl rfl rfl rfl)) ?_)
    all_goals (first | refine al_off rfl rfl rfl rfl rfl ?_ | refine al_ond rfl rfl rfl rfl rfl rfl (by exact opd_geq rfl rfl rfl) ?_)
    all_goals (refine al_d rfl rfl rfl (by exact (by first | exact opd_pick_t rfl rfl rfl | exact opd_pick_f rfl rfl rfl)) ?_)
    all_goals (refine al_d rfl rfl rfl (by exact opd_move rfl rfl) ?_)
    all_goals (refine al_split (t := 16) rfl (fun h16 => ?_) (fun h16 => ?_))
    all_goals (try contradiction)
    all_goals (first | refine al_off rfl rfl rfl rfl rfl ?_ | refine al_ond rfl rfl rfl rfl rfl rfl (by exact (by exact opd_field_ref rfl fo26_1 rfl rfl rfl rfl)) ?_)
    all_goals (first | refine al_off rfl rfl rfl rfl rfl ?_ | refine al_ond rfl rfl rfl rfl rfl rfl (by exact (by exact opd_load1_ref rfl Tryz.isAgg3 rfl rfl rfl rfl rfl)) ?_)
    all_goals (first | refine al_off rfl rfl rfl rfl rfl ?_ | refine al_ond rfl rfl rfl rfl rfl rfl (by exact opd_lss rfl rfl rfl) ?_)
    all_goals (refine al_d rfl rfl rfl (by exact (by first | exact opd_pick_t rfl rfl rfl | exact opd_pick_f rfl rfl rfl)) ?_)
    all_goals (refine al_d rfl rfl rfl (by exact opd_assign rfl rfl) ?_)
    all_goals (refine al_nil ?_)
    all_goals (exact ⟨⟨_, rfl, by (simp only [gOn, *]; rfl)⟩, rfl, rfl, rfl⟩)
  refine awp_ret ?_
  -- return
  refine aret1 (H' := []) (by exact .inr rfl) rfl (rval_tmp rfl) (Fin.wk (by simp) trivial trivial) ?_
  exact ⟨rfl, rfl⟩
end Go.Proofs.YtedfihgkopejcaaGreat
end
section
set_option linter.unusedVariables false
set_option linter.unusedSimpArgs false
set_option maxRecDepth 100000
namespace Go.Proofs.YtedfihgkopejcaaGreat
open Go.Abs
def gidxN (p : Nat → Bool) (n : Nat) : Int := match (List.range n).find? p with | some k => (k : Int) | none => -1
def stopN (p : Nat → Bool) (n : Nat) : Nat := match (List.range n).find? p with | some k => k + 1 | none => n
theorem findR_some {p : Nat → Bool} {n k : Nat} (hk : k < n) (hp : p k = true) (hno : ∀ j, j < k → p j = false) : (List.range n).find? p = some k := by
  rw [List.find?_range_eq_some]
  exact ⟨hp, by simpa using hk, fun j hj => by simp [hno j hj]⟩
theorem findR_none {p : Nat → Bool} {n : Nat} (hno : ∀ j, j < n → p j = false) : (List.range n).find? p = none := by
  rw [List.find?_eq_none]
  intro x hx
  simp [hno x (List.mem_range.1 hx)]
theorem indexFuncS (fv : AV) (l : List ByteArray) (p : Nat → Bool) (Hs : Nat → Heap) (hl : l.length < 4611686018427387904) (hf : ∀ k s, l[k]? = some s → CallsV Tryz.prog fv [sv s] (Hs k) (fun r H' => r = bv (p k) ∧ H' = Hs (k + 1))) :
    ACalls Tryz.prog 124 [.pv (slStrs l), fv] (Hs 0) (fun r H' => r = iv (gidxN p l.length) ∧ H' = Hs (stopN p l.length)) := by
  have hml : (l.map encStr).length = l.length := List.length_map _
  refine ACalls.body Tryz.func124 rfl Tryz.ntmps124 (Nat.le_of_ble_eq_true rfl) ?_
  refine awp_seq ?_
  refine awp_region ?_
  refine al_d rfl rfl rfl (by exact opd_assign rfl rfl) ?_
  refine al_nil ?_
  refine awp_seq ?_
  refine awp_seq ?_
  refine awp_region ?_
  refine al_d rfl rfl rfl (by exact opd_move rfl rfl) ?_
  refine al_d rfl rfl rfl (by exact (by exact opd_len_sl rfl Tryz.underlying27 rfl)) ?_
  refine al_d rfl rfl rfl (by exact opd_move rfl rfl) ?_
  refine al_nil ?_
  refine awp_block ?_
  -- loop
  refine awp_loop (σ := Nat) (fun k => ([(0, .pv (slStrs l)), (1, fv), (7, iv ((l.map encStr).length : Int)), (8, iv (k : Int))], Hs k)) (fun k => k ≤ l.length ∧ ∀ j, j < k → p j = false) (fun k => l.length - k) 0 ⟨by omega, by omega⟩ ?_ ?_
  · exact Ent.e0 ⟨⟨_, rfl, rfl⟩, ⟨_, rfl, rfl⟩, ⟨_, rfl, rfl⟩, ⟨_, rfl, rfl⟩, trivial⟩
  · rintro k ⟨hk, hno⟩
    refine awp_seq ?_
    refine awp_region ?_
    refine al_d rfl rfl rfl (by exact opd_lss rfl rfl rfl) ?_
    refine al_nil ?_
    refine awp_seq ?_
    refine awp_cond rfl (fun hc1 => ?_) (fun hc1 => ?_)
    -- cond 1
    · have hlt : k < l.length := by have := of_decide_eq_true hc1; omega
      obtain ⟨s, hs⟩ := get_of_lt hlt
      have hi := map_get (f := encStr) hs
      have hfo := hf k s hs
      refine awp_skip ?_
      refine awp_seq ?_
      refine awp_block ?_
      refine awp_seq ?_
      refine awp_region ?_
      refine al_d rfl rfl rfl (by exact opd_move rfl rfl) ?_
      refine al_d rfl rfl rfl (by exact opd_assign rfl rfl) ?_
      refine al_nil ?_
      refine awp_seq ?_
      refine awp_region ?_
      refine al_d rfl rfl rfl (by exact opd_move rfl rfl) ?_
      refine al_d rfl rfl rfl (by exact opd_move rfl rfl) ?_
      refine al_d rfl rfl rfl (by exact opd_move rfl rfl) ?_
      refine al_d rfl rfl rfl (by exact (by exact x_index_pad rfl so27 rfl rfl (by omega) (by exact Int.toNat_natCast _) (by assumption) rfl)) ?_
      refine al_d rfl rfl rfl (by exact (by exact opd_load1_pad rfl Tryz.isAgg9 rfl (by omega) rfl)) ?_
      refine al_d rfl rfl rfl (by exact opr_callV rfl rfl rfl (hfo)) ?_
      refine al_nil ?_
      refine awp_cond rfl (fun hc2 => ?_) (fun hc2 => ?_)
      -- cond 2
      · skip
        refine awp_seq ?_
        refine awp_region ?_
        refine al_d rfl rfl rfl (by exact opd_move rfl rfl) ?_
        refine al_d rfl rfl rfl (by exact opd_assign rfl rfl) ?_
        refine al_nil ?_
        refine awp_ret ?_
        -- return
        exact aret1 (H' := Hs (k + 1)) (.inr rfl) rfl (rval_tmp rfl) Fin.refl ⟨by rw [gidxN, findR_some hlt hc2 hno], by rw [stopN, findR_some hlt hc2 hno]⟩
      · skip
        refine awp_skip ?_
        refine awp_region ?_
        refine al_d rfl rfl rfl (by exact opd_add rfl rfl rfl (by exact w64 (by omega) (by omega))) ?_
        refine al_d rfl rfl rfl (by exact opd_move rfl rfl) ?_
        refine al_nil ?_
        -- end of a round
        refine ⟨k + 1, ⟨by omega, fun j hj => ?_⟩, by omega, Ent.e0 ⟨⟨_, rfl, rfl⟩, ⟨_, rfl, rfl⟩, ⟨_, rfl, rfl⟩, ⟨_, rfl, rfl⟩, trivial⟩⟩
        by_cases e : j = k
        · subst e; exact hc2
        · exact hno j (by omega)
    · have hge : k = l.length := by have := of_decide_eq_false hc1; omega
      subst hge
      refine awp_exit ?_
      refine awp_seq ?_
      refine awp_region ?_
      refine al_d rfl rfl rfl (by exact opd_assign rfl rfl) ?_
      refine al_nil ?_
      refine awp_ret ?_
      -- return
      exact aret1 (H' := Hs l.length) (.inr rfl) rfl (rval_tmp rfl) Fin.refl ⟨by rw [gidxN, findR_none hno], by rw [stopN, findR_none hno]⟩
theorem gidxN_any (p : Nat → Bool) (n : Nat) : decide (0 ≤ gidxN p n) = (List.range n).any p := by
  unfold gidxN
  cases h : (List.range n).find? p with
  | none =>
    have : (List.range n).any p = false := by
      rw [List.find?_eq_none] at h
      rw [List.any_eq_false]
      exact h
    simp [this]
  | some i =>
    have : (List.range n).any p = true := List.any_eq_true.2 ⟨i, List.mem_of_find?_eq_some h, List.find?_some h⟩
    simp [this]
theorem containsFuncS (fv : AV) (l : List ByteArray) (p : Nat → Bool) (Hs : Nat → Heap) (hl : l.length < 4611686018427387904) (hf : ∀ k s, l[k]? = some s → CallsV Tryz.prog fv [sv s] (Hs k) (fun r H' => r = bv (p k) ∧ H' = Hs (k + 1))) :
    ACalls Tryz.prog 78 [.pv (slStrs l), fv] (Hs 0) (fun r H' => r = bv ((List.range l.length).any p) ∧ H' = Hs (stopN p l.length)) := by
  refine ACalls.body Tryz.func78 rfl Tryz.ntmps78 (Nat.le_of_ble_eq_true rfl) ?_
  refine awp_seq ?_
  refine awp_region ?_
  refine al_d rfl rfl rfl (by exact opd_assign rfl rfl) ?_
  refine al_nil ?_
  refine awp_seq ?_
  refine awp_region ?_
  refine al_d rfl rfl rfl (by exact opd_move rfl rfl) ?_
  refine al_d rfl rfl rfl (by exact opd_move rfl rfl) ?_
  refine al_d rfl rfl rfl (by exact opr_call rfl rfl Tryz.call124 rfl (indexFuncS fv l p Hs hl hf)) ?_
  refine al_d rfl rfl rfl (by exact opd_geq rfl rfl rfl) ?_
  refine al_d rfl rfl rfl (by exact opd_assign rfl rfl) ?_
  refine al_nil ?_
  refine awp_ret ?_
  -- return
  exact aret1 (H' := Hs (stopN p l.length)) (.inr rfl) rfl (rval_tmp rfl) Fin.refl ⟨by rw [gidxN_any], rfl⟩
end Go.Proofs.YtedfihgkopejcaaGreat
end
section
set_option linter.unusedVariables false
set_option linter.unusedSimpArgs false
set_option maxRecDepth 100000
namespace Go.Proofs.YtedfihgkopejcaaGreat
open Go.Abs

theorem sob_clo (L : List ByteArray) (H : Heap) : ∀ r ∈ (sob L).rows, ∀ a ∈ r, Clo H a := by
  intro r hr a ha
  obtain ⟨i, hi⟩ := List.mem_iff_getElem?.1 hr
  obtain ⟨p, hp, rfl⟩ := mrows_get.1 hi
  simp only [sets, List.getElem?_map] at hp
  obtain ⟨q, _, rfl⟩ := Option.map_eq_some_iff.1 hp
  simp only [List.mem_cons, List.not_mem_nil, or_false] at ha
  rcases ha with rfl | rfl | rfl <;> simp
def vH (o : GObj) (last : ByteArray) (L : List ByteArray) : Heap := [(37, sob L), (4, bx 1 9 [sv last]), (3, bx 1 58 [.mp 37 0]), (1, bx 6 30 ((encObj o).map .pv))]
theorem vH_clo (o : GObj) (a : ByteArray) (L : List ByteArray) (f : Nat) : Clo (vH o a L) (.clo f [.ref 1 0 0 0, .ref 4 0 0 0, .ref 3 0 0 0]) := by
  refine .clo fun x hx => ?_
  simp only [List.mem_cons, List.not_mem_nil, or_false] at hx
  rcases hx with rfl | rfl | rfl <;> exact .ref rfl
def gTwice (o : GObj) (last : ByteArray) (L : List ByteArray) (s : ByteArray) : Bool := (decide (o.kind = 2) && decide (s = last)) || (decide (o.kind = 3) && inB L s)
def gWrong (o : GObj) (last : ByteArray) (L : List ByteArray) (s : ByteArray) : Bool := gTwice o last L s || !gName s
theorem valid1_c (o : GObj) (last s : ByteArray) (L : List ByteArray) (hs : s.size < 4611686018427387904) :
    ACalls Tryz.prog 84 [sv s, .ref 1 0 0 0, .ref 4 0 0 0, .ref 3 0 0 0] (vH o last L) (fun r H' => r = bv (gWrong o last L s) ∧ H' = vH o s (sput L s)) := by
  unfold vH
  refine ACalls.body Tryz.func84 rfl Tryz.ntmps84 (Nat.le_of_ble_eq_true rfl) ?_
  refine awp_seq ?_
  refine awp_region ?_
  refine al_d rfl rfl rfl (by exact opd_assign rfl rfl) ?_
  refine al_nil ?_
  refine awp_seq ?_
  refine awp_bool (t := 6) (n := 22) (X := gTwice o last L s) ?_ ?_
  · all_goals (refine al_d rfl rfl rfl (by exact (by exact opd_field_ref rfl fo30_1 rfl rfl rfl rfl)) ?_)
    all_goals (refine al_d rfl rfl rfl (by exact (by exact opd_load1_ref rfl Tryz.isAgg3 rfl rfl rfl rfl rfl)) ?_)
    all_goals (refine al_d rfl rfl rfl (by exact opd_eql rfl rfl rfl) ?_)
    all_goals (refine al_d rfl rfl rfl (by exact opd_move rfl rfl) ?_)
    all_goals (refine al_split (t := 10) rfl (fun h10 => ?_) (fun h10 => ?_))
    all_goals (try contradiction)
    all_goals (first | refine al_off rfl rfl rfl rfl rfl ?_ | refine al_ond rfl rfl rfl rfl rfl rfl (by exact opd_move rfl rfl) ?_)
    all_goals (first | refine al_off rfl rfl rfl rfl rfl ?_ | refine al_ond rfl rfl rfl rfl rfl rfl (by exact (by exact opd_load1_ref rfl Tryz.isAgg9 rfl rfl rfl rfl rfl)) ?_)
    all_goals (first | refine al_off rfl rfl rfl rfl rfl ?_ | refine al_ond rfl rfl rfl rfl rfl rfl (by exact opd_seql rfl rfl rfl) ?_)
    all_goals (refine al_d rfl rfl rfl (by exact (by first | exact opd_pick_t rfl rfl rfl | exact opd_pick_f rfl rfl rfl)) ?_)
    all_goals (refine al_d rfl rfl rfl (by exact opd_move rfl rfl) ?_)
    all_goals (refine al_split (t := 15) rfl (fun h15 => ?_) (fun h15 => ?_))
    all_goals (try contradiction)
    all_goals (first | refine al_off rfl rfl rfl rfl rfl ?_ | refine al_ond rfl rfl rfl rfl rfl rfl (by exact (by exact opd_field_ref rfl fo30_1 rfl rfl rfl rfl)) ?_)
    all_goals (first | refine al_off rfl rfl rfl rfl rfl ?_ | refine al_ond rfl rfl rfl rfl rfl rfl (by exact (by exact opd_load1_ref rfl Tryz.isAgg3 rfl rfl rfl rfl rfl)) ?_)
    all_goals (first | refine al_off rfl rfl rfl rfl rfl ?_ | refine al_ond rfl rfl rfl rfl rfl rfl (by exact opd_eql rfl rfl rfl) ?_)
    all_goals (first | refine al_off rfl rfl rfl rfl rfl ?_ | refine al_ond rfl rfl rfl rfl rfl rfl (by exact opd_move rfl rfl) ?_)
    all_goals (first | refine al_split (t := 19) rfl (fun h19 => ?_) (fun h19 => ?_) | refine al_dup (t := 19) rfl ?_)
    all_goals (try contradiction)
    all_goals (first | refine al_off rfl rfl rfl rfl rfl ?_ | refine al_offu rfl rfl rfl rfl ?_ | refine al_ond rfl rfl rfl rfl rfl rfl (by exact (by exact opd_load1_ref rfl Tryz.isAgg58 rfl rfl rfl rfl rfl)) ?_)
    all_goals (first | refine al_off rfl rfl rfl rfl rfl ?_ | refine al_offu rfl rfl rfl rfl ?_ | refine al_ond rfl rfl rfl rfl rfl rfl (by exact opd_move rfl rfl) ?_)
    all_goals (first | refine al_off rfl rfl rfl rfl rfl ?_ | refine al_offu rfl rfl rfl rfl ?_ | refine al_ond rfl rfl rfl rfl rfl rfl (by exact x_lookup_set rfl Tryz.underlying58 Tryz.underlying9 rfl rfl rfl rfl rfl Tryz.zeroValue4 (.inl rfl)) ?_)
    all_goals (first | refine al_off rfl rfl rfl rfl rfl ?_ | refine al_ond rfl rfl rfl rfl rfl rfl (by exact (by first | exact opd_pick_t rfl rfl rfl | exact opd_pick_f rfl rfl rfl)) ?_)
    all_goals (refine al_d rfl rfl rfl (by exact (by first | exact opd_pick_t rfl rfl rfl | exact opd_pick_f rfl rfl rfl)) ?_)
    all_goals (refine al_d rfl rfl rfl (by exact opd_assign rfl rfl) ?_)
    all_goals (refine al_nil ?_)
    all_goals (exact ⟨⟨_, rfl, by (simp only [gTwice, *]; rfl)⟩, rfl, rfl, rfl⟩)
  refine awp_seq ?_
  refine awp_region ?_
  refine al_d rfl rfl rfl (by exact (by exact opd_load1_ref rfl Tryz.isAgg58 rfl rfl rfl rfl rfl)) ?_
  refine al_d rfl rfl rfl (by exact opd_move rfl rfl) ?_
  refine al_d rfl rfl rfl (by exact opd_move rfl rfl) ?_
  refine al_n rfl rfl (by exact x_put_set (.inl rfl) Tryz.underlying58 Tryz.underlying9 rfl rfl rfl rfl rfl rfl rfl) ?_
  refine al_n rfl rfl (by exact (by exact x_store_all rfl Tryz.sizeOf9 rfl rfl rfl rfl rfl rfl rfl rfl)) ?_
  refine al_nil ?_
  refine awp_seq ?_
  -- guard at a region with tests: %bool 5 := ..
  refine awp_bool (t := 5) (n := 8) (X := gTwice o last L s || !gName s) ?_ ?_
  · all_goals (refine al_d rfl rfl rfl (by exact opd_move rfl rfl) ?_)
    all_goals (refine al_d rfl rfl rfl (by exact opd_move rfl rfl) ?_)
    all_goals (refine al_split (t := 29) rfl (fun h29 => ?_) (fun h29 => ?_))
    all_goals (try contradiction)
    all_goals (first | refine al_off rfl rfl rfl rfl rfl ?_ | refine al_ond rfl rfl rfl rfl rfl rfl (by exact opd_move rfl rfl) ?_)
    all_goals (first | refine al_off rfl rfl rfl rfl rfl ?_ | refine al_ond rfl rfl rfl rfl rfl rfl (by exact opr_call rfl rfl Tryz.call80 rfl (name_c s _ hs)) ?_)
    all_goals (first | refine al_off rfl rfl rfl rfl rfl ?_ | refine al_ond rfl rfl rfl rfl rfl rfl (by exact opd_not rfl rfl) ?_)
    all_goals (refine al_d rfl rfl rfl (by exact (by first | exact opd_pick_t rfl rfl rfl | exact opd_pick_f rfl rfl rfl)) ?_)
    all_goals (refine al_d rfl rfl rfl (by exact opd_assign rfl rfl) ?_)
    all_goals (refine al_nil ?_)
    all_goals (exact ⟨⟨_, rfl, by (simp only [*]; rfl)⟩, rfl, rfl, rfl⟩)
  refine awp_ret ?_
  -- return
  refine aret1 (H' := vH o s (sput L s)) (.inr rfl) rfl (rval_tmp rfl) (Fin.wk (by (simp; done)) ⟨⟨_, rfl, rfl⟩, (by exact sob_clo _ _), ⟨_, rfl, rfl⟩, (by (simp; done)), ⟨_, rfl, rfl⟩, (by (simp; rfl)), ⟨_, rfl, rfl⟩, (by (simp; done)), trivial⟩ ⟨rfl, rfl, rfl, rfl, trivial⟩) ?_
  exact ⟨rfl, rfl⟩
/-- The keys that have come. -/
def seenL (l : List ByteArray) : Nat → List ByteArray
  | 0 => []
  | k + 1 => sput (seenL l k) ((l[k]?).getD sNil)
def wrongAt (o : GObj) (k : Nat) : Bool := match o.refs[k]? with
  | some s => gWrong o (before id o.refs k) (seenL o.refs k) s
  | none => false
def gKind (o : GObj) : Bool := if o.kind = 1 then decide ((o.refs.length : Int) = 0) && gOn o.x o.y else if o.kind = 5 then decide ((o.refs.length : Int) = 3) && (decide (o.x = 0) && decide (o.y = 0)) else decide (o.x = 0) && decide (o.y = 0)
def gHeadN (o : GObj) (n : Int) : Bool := decide (gWord o.kind = sNil) || !gName o.id || !gTags o.tags || decide (n < gLeast o.kind) || decide (2000 < n)
def gHead (o : GObj) : Bool := gHeadN o (o.refs.length : Int)
def gObj (o : GObj) : Bool := !gHead o && (!((List.range o.refs.length).any (wrongAt o)) && gKind o)
def okO (o : GObj) : Prop := o.id.size < 4611686018427387904 ∧ okTags o.tags ∧ o.refs.length < 4611686018427387904 ∧ ∀ s ∈ o.refs, s.size < 4611686018427387904
theorem word_kind {k : Int} (h : decide (gWord k = sNil) = false) : 0 ≤ k ∧ k < 6 := by
  by_cases h0 : 0 ≤ k ∧ k < 6
  · exact h0
  · have : gWord k = sNil := by
      have hn : ¬ (k = 1) ∧ ¬ (k = 2) ∧ ¬ (k = 3) ∧ ¬ (k = 4) ∧ ¬ (k = 5) := by omega
      simp only [gWord, hn.1, hn.2.1, hn.2.2.1, hn.2.2.2.1, hn.2.2.2.2, if_false]
    rw [this] at h
    simp at h
theorem objValid_c (o : GObj) (H : Heap) (ho : okO o) : ACalls Tryz.prog 47 [av (encObj o)] H (fun r H' => r = bv (gObj o) ∧ H' = H) := by
  refine ACalls.pure ?_ (by simp) H
  obtain ⟨h1, h2, h3, h4⟩ := ho
  have hml : (o.refs.map encStr).length = o.refs.length := List.length_map _
  refine ACalls.body Tryz.func47 rfl Tryz.ntmps47 (Nat.le_of_ble_eq_true rfl) ?_
  refine awp_seq ?_
  refine awp_region ?_
  refine al_d rfl rfl rfl (by exact opd_box (id := 1) rfl rfl rfl rfl rfl) ?_
  refine al_d rfl rfl rfl (by exact opd_assign rfl rfl) ?_
  refine al_nil ?_
  refine awp_seq ?_
  refine awp_seq ?_
  refine awp_mergeR (t := 36) (n := 31) (X := gHeadN o ((o.refs.map encStr).length : Int)) ?_ ?_
  · cases hg10 : (decide (gWord o.kind = sNil) : Bool)
    · cases hg16 : (!gName o.id : Bool)
      · cases hg22 : (!gTags o.tags : Bool)
        · cases hg31 : (decide (((o.refs.map encStr).length : Int) < gLeast o.kind) : Bool)
          · refine awp_drawc follows ?_
            refine dc_cons (DStep.q rfl (by exact (by exact opd_field_ref rfl fo30_1 rfl rfl rfl rfl))) rfl ?_
            refine dc_cons (DStep.q rfl (by exact (by exact opd_load1_ref rfl Tryz.isAgg3 rfl rfl rfl rfl rfl))) rfl ?_
            refine dc_cons (DStep.q rfl (by exact opr_call rfl rfl Tryz.call81 rfl (word_c o.kind _))) rfl ?_
            refine dc_cons (DStep.q rfl (by exact opd_seql rfl rfl rfl)) rfl ?_
            refine dc_cons (DStep.q rfl (by exact opd_move rfl rfl)) rfl ?_
            refine dc_cons (q_on_f rfl rfl rfl (by assumption) (by exact (by exact opd_field_ref rfl fo30_0 rfl rfl rfl rfl))) rfl ?_
            refine dc_cons (q_on_f rfl rfl rfl (by assumption) (by exact (by exact opd_load1_ref rfl Tryz.isAgg9 rfl rfl rfl rfl rfl))) rfl ?_
            refine dc_cons (q_on_f rfl rfl rfl (by assumption) (by exact opr_call rfl rfl Tryz.call80 rfl (name_c o.id _ h1))) rfl ?_
            refine dc_cons (q_on_f rfl rfl rfl (by assumption) (by exact opd_not rfl rfl)) rfl ?_
            refine dc_cons (DStep.q rfl (by exact (by exact opd_pickf rfl rfl (by assumption) rfl))) rfl ?_
            refine dc_cons (DStep.q rfl (by exact opd_move rfl rfl)) rfl ?_
            refine dc_cons (q_on_f rfl rfl rfl (by assumption) (by exact (by exact opd_field_ref rfl fo30_4 rfl rfl rfl rfl))) rfl ?_
            refine dc_cons (q_on_f rfl rfl rfl (by assumption) (by exact (by exact opd_load1_ref rfl Tryz.isAgg28 rfl rfl rfl rfl rfl))) rfl ?_
            refine dc_cons (q_on_f rfl rfl rfl (by assumption) (by exact opr_call rfl rfl Tryz.call82 rfl (tagValid_c o.tags _ h2))) rfl ?_
            refine dc_cons (q_on_f rfl rfl rfl (by assumption) (by exact opd_not rfl rfl)) rfl ?_
            refine dc_cons (DStep.q rfl (by exact (by exact opd_pickf rfl rfl (by assumption) rfl))) rfl ?_
            refine dc_cons (DStep.q rfl (by exact opd_move rfl rfl)) rfl ?_
            refine dc_cons (q_on_f rfl rfl rfl (by assumption) (by exact (by exact opd_field_ref rfl fo30_3 rfl rfl rfl rfl))) rfl ?_
            refine dc_cons (q_on_f rfl rfl rfl (by assumption) (by exact (by exact opd_load1_ref rfl Tryz.isAgg27 rfl rfl rfl rfl rfl))) rfl ?_
            refine dc_cons (q_on_f rfl rfl rfl (by assumption) (by exact (by exact opd_len_sl rfl Tryz.underlying27 rfl))) rfl ?_
            refine dc_cons (q_on_f rfl rfl rfl (by assumption) (by exact (by exact opd_field_ref rfl fo30_1 rfl rfl rfl rfl))) rfl ?_
            refine dc_cons (q_on_f rfl rfl rfl (by assumption) (by exact (by exact opd_load1_ref rfl Tryz.isAgg3 rfl rfl rfl rfl rfl))) rfl ?_
            refine dc_cons (q_on_f rfl rfl rfl (by assumption) (by exact opr_call rfl rfl Tryz.call83 rfl (least_c o.kind _ (word_kind hg10).1 (word_kind hg10).2))) rfl ?_
            refine dc_cons (q_on_f rfl rfl rfl (by assumption) (by exact opd_lss rfl rfl rfl)) rfl ?_
            refine dc_cons (DStep.q rfl (by exact (by exact opd_pickf rfl rfl (by assumption) rfl))) rfl ?_
            refine dc_cons (DStep.q rfl (by exact opd_move rfl rfl)) rfl ?_
            refine dc_cons (q_on_f rfl rfl rfl (by assumption) (by exact (by exact opd_field_ref rfl fo30_3 rfl rfl rfl rfl))) rfl ?_
            refine dc_cons (q_on_f rfl rfl rfl (by assumption) (by exact (by exact opd_load1_ref rfl Tryz.isAgg27 rfl rfl rfl rfl rfl))) rfl ?_
            refine dc_cons (q_on_f rfl rfl rfl (by assumption) (by exact (by exact opd_len_sl rfl Tryz.underlying27 rfl))) rfl ?_
            refine dc_cons (q_on_f rfl rfl rfl (by assumption) (by exact opd_gtr rfl rfl rfl)) rfl ?_
            refine dc_cons (DStep.q rfl (by exact (by exact opd_pickf rfl rfl (by assumption) rfl))) rfl ?_
            refine dc_nil ⟨by kernel_rfl, ?_⟩
            exact ⟨rfl, ⟨_, rfl, by (simp only [gHeadN, hg10, hg16, hg22, hg31]; rfl)⟩, rfl, rfl, rfl⟩
          · refine awp_drawc follows ?_
            refine dc_cons (DStep.q rfl (by exact (by exact opd_field_ref rfl fo30_1 rfl rfl rfl rfl))) rfl ?_
            refine dc_cons (DStep.q rfl (by exact (by exact opd_load1_ref rfl Tryz.isAgg3 rfl rfl rfl rfl rfl))) rfl ?_
            refine dc_cons (DStep.q rfl (by exact opr_call rfl rfl Tryz.call81 rfl (word_c o.kind _))) rfl ?_
            refine dc_cons (DStep.q rfl (by exact opd_seql rfl rfl rfl)) rfl ?_
            refine dc_cons (DStep.q rfl (by exact opd_move rfl rfl)) rfl ?_
            refine dc_cons (q_on_f rfl rfl rfl (by assumption) (by exact (by exact opd_field_ref rfl fo30_0 rfl rfl rfl rfl))) rfl ?_
            refine dc_cons (q_on_f rfl rfl rfl (by assumption) (by exact (by exact opd_load1_ref rfl Tryz.isAgg9 rfl rfl rfl rfl rfl))) rfl ?_
            refine dc_cons (q_on_f rfl rfl rfl (by assumption) (by exact opr_call rfl rfl Tryz.call80 rfl (name_c o.id _ h1))) rfl ?_
            refine dc_cons (q_on_f rfl rfl rfl (by assumption) (by exact opd_not rfl rfl)) rfl ?_
            refine dc_cons (DStep.q rfl (by exact (by exact opd_pickf rfl rfl (by assumption) rfl))) rfl ?_
            refine dc_cons (DStep.q rfl (by exact opd_move rfl rfl)) rfl ?_
            refine dc_cons (q_on_f rfl rfl rfl (by assumption) (by exact (by exact opd_field_ref rfl fo30_4 rfl rfl rfl rfl))) rfl ?_
            refine dc_cons (q_on_f rfl rfl rfl (by assumption) (by exact (by exact opd_load1_ref rfl Tryz.isAgg28 rfl rfl rfl rfl rfl))) rfl ?_
            refine dc_cons (q_on_f rfl rfl rfl (by assumption) (by exact opr_call rfl rfl Tryz.call82 rfl (tagValid_c o.tags _ h2))) rfl ?_
            refine dc_cons (q_on_f rfl rfl rfl (by assumption) (by exact opd_not rfl rfl)) rfl ?_
            refine dc_cons (DStep.q rfl (by exact (by exact opd_pickf rfl rfl (by assumption) rfl))) rfl ?_
            refine dc_cons (DStep.q rfl (by exact opd_move rfl rfl)) rfl ?_
            refine dc_cons (q_on_f rfl rfl rfl (by assumption) (by exact (by exact opd_field_ref rfl fo30_3 rfl rfl rfl rfl))) rfl ?_
            refine dc_cons (q_on_f rfl rfl rfl (by assumption) (by exact (by exact opd_load1_ref rfl Tryz.isAgg27 rfl rfl rfl rfl rfl))) rfl ?_
            refine dc_cons (q_on_f rfl rfl rfl (by assumption) (by exact (by exact opd_len_sl rfl Tryz.underlying27 rfl))) rfl ?_
            refine dc_cons (q_on_f rfl rfl rfl (by assumption) (by exact (by exact opd_field_ref rfl fo30_1 rfl rfl rfl rfl))) rfl ?_
            refine dc_cons (q_on_f rfl rfl rfl (by assumption) (by exact (by exact opd_load1_ref rfl Tryz.isAgg3 rfl rfl rfl rfl rfl))) rfl ?_
            refine dc_cons (q_on_f rfl rfl rfl (by assumption) (by exact opr_call rfl rfl Tryz.call83 rfl (least_c o.kind _ (word_kind hg10).1 (word_kind hg10).2))) rfl ?_
            refine dc_cons (q_on_f rfl rfl rfl (by assumption) (by exact opd_lss rfl rfl rfl)) rfl ?_
            refine dc_cons (DStep.q rfl (by exact (by exact opd_pickf rfl rfl (by assumption) rfl))) rfl ?_
            refine dc_cons (DStep.q rfl (by exact opd_move rfl rfl)) rfl ?_
            refine dc_cons (q_off_f rfl rfl rfl (by assumption)) rfl ?_
            refine dc_cons (q_off_f rfl rfl rfl (by assumption)) rfl ?_
            refine dc_cons (q_off_f rfl rfl rfl (by assumption)) rfl ?_
            refine dc_cons (q_off_f rfl rfl rfl (by assumption)) rfl ?_
            refine dc_cons (DStep.q rfl (by exact (by exact opd_pickt rfl rfl (by assumption) rfl))) rfl ?_
            refine dc_nil ⟨by kernel_rfl, ?_⟩
            exact ⟨rfl, ⟨_, rfl, by (simp only [gHeadN, hg10, hg16, hg22, hg31]; rfl)⟩, rfl, rfl, rfl⟩
        · refine awp_drawc follows ?_
          refine dc_cons (DStep.q rfl (by exact (by exact opd_field_ref rfl fo30_1 rfl rfl rfl rfl))) rfl ?_
          refine dc_cons (DStep.q rfl (by exact (by exact opd_load1_ref rfl Tryz.isAgg3 rfl rfl rfl rfl rfl))) rfl ?_
          refine dc_cons (DStep.q rfl (by exact opr_call rfl rfl Tryz.call81 rfl (word_c o.kind _))) rfl ?_
          refine dc_cons (DStep.q rfl (by exact opd_seql rfl rfl rfl)) rfl ?_
          refine dc_cons (DStep.q rfl (by exact opd_move rfl rfl)) rfl ?_
          refine dc_cons (q_on_f rfl rfl rfl (by assumption) (by exact (by exact opd_field_ref rfl fo30_0 rfl rfl rfl rfl))) rfl ?_
          refine dc_cons (q_on_f rfl rfl rfl (by assumption) (by exact (by exact opd_load1_ref rfl Tryz.isAgg9 rfl rfl rfl rfl rfl))) rfl ?_
          refine dc_cons (q_on_f rfl rfl rfl (by assumption) (by exact opr_call rfl rfl Tryz.call80 rfl (name_c o.id _ h1))) rfl ?_
          refine dc_cons (q_on_f rfl rfl rfl (by assumption) (by exact opd_not rfl rfl)) rfl ?_
          refine dc_cons (DStep.q rfl (by exact (by exact opd_pickf rfl rfl (by assumption) rfl))) rfl ?_
          refine dc_cons (DStep.q rfl (by exact opd_move rfl rfl)) rfl ?_
          refine dc_cons (q_on_f rfl rfl rfl (by assumption) (by exact (by exact opd_field_ref rfl fo30_4 rfl rfl rfl rfl))) rfl ?_
          refine dc_cons (q_on_f rfl rfl rfl (by assumption) (by exact (by exact opd_load1_ref rfl Tryz.isAgg28 rfl rfl rfl rfl rfl))) rfl ?_
          refine dc_cons (q_on_f rfl rfl rfl (by assumption) (by exact opr_call rfl rfl Tryz.call82 rfl (tagValid_c o.tags _ h2))) rfl ?_
          refine dc_cons (q_on_f rfl rfl rfl (by assumption) (by exact opd_not rfl rfl)) rfl ?_
          refine dc_cons (DStep.q rfl (by exact (by exact opd_pickf rfl rfl (by assumption) rfl))) rfl ?_
          refine dc_cons (DStep.q rfl (by exact opd_move rfl rfl)) rfl ?_
          refine dc_cons (q_off_f rfl rfl rfl (by assumption)) rfl ?_
          refine dc_cons (q_off_f rfl rfl rfl (by assumption)) rfl ?_
          refine dc_cons (q_off_f rfl rfl rfl (by assumption)) rfl ?_
          refine dc_cons (q_off_f rfl rfl rfl (by assumption)) rfl ?_
          refine dc_cons (q_off_f rfl rfl rfl (by assumption)) rfl ?_
          refine dc_cons (q_off_f rfl rfl rfl (by assumption)) rfl ?_
          refine dc_cons (q_off_f rfl rfl rfl (by assumption)) rfl ?_
          refine dc_cons (DStep.q rfl (by exact (by exact opd_pickt rfl rfl (by assumption) rfl))) rfl ?_
          refine dc_cons (DStep.q rfl (by exact opd_move rfl rfl)) rfl ?_
          refine dc_cons (q_off_f rfl rfl rfl (by rfl)) rfl ?_
          refine dc_cons (q_off_f rfl rfl rfl (by rfl)) rfl ?_
          refine dc_cons (q_off_f rfl rfl rfl (by rfl)) rfl ?_
          refine dc_cons (q_off_f rfl rfl rfl (by rfl)) rfl ?_
          refine dc_cons (DStep.q rfl (by exact (by exact opd_pick_t rfl rfl rfl))) rfl ?_
          refine dc_nil ⟨by kernel_rfl, ?_⟩
          exact ⟨rfl, ⟨_, rfl, by (simp only [gHeadN, *]; rfl)⟩, rfl, rfl, rfl⟩
      · refine awp_drawc follows ?_
        refine dc_cons (DStep.q rfl (by exact (by exact opd_field_ref rfl fo30_1 rfl rfl rfl rfl))) rfl ?_
        refine dc_cons (DStep.q rfl (by exact (by exact opd_load1_ref rfl Tryz.isAgg3 rfl rfl rfl rfl rfl))) rfl ?_
        refine dc_cons (DStep.q rfl (by exact opr_call rfl rfl Tryz.call81 rfl (word_c o.kind _))) rfl ?_
        refine dc_cons (DStep.q rfl (by exact opd_seql rfl rfl rfl)) rfl ?_
        refine dc_cons (DStep.q rfl (by exact opd_move rfl rfl)) rfl ?_
        refine dc_cons (q_on_f rfl rfl rfl (by assumption) (by exact (by exact opd_field_ref rfl fo30_0 rfl rfl rfl rfl))) rfl ?_
        refine dc_cons (q_on_f rfl rfl rfl (by assumption) (by exact (by exact opd_load1_ref rfl Tryz.isAgg9 rfl rfl rfl rfl rfl))) rfl ?_
        refine dc_cons (q_on_f rfl rfl rfl (by assumption) (by exact opr_call rfl rfl Tryz.call80 rfl (name_c o.id _ h1))) rfl ?_
        refine dc_cons (q_on_f rfl rfl rfl (by assumption) (by exact opd_not rfl rfl)) rfl ?_
        refine dc_cons (DStep.q rfl (by exact (by exact opd_pickf rfl rfl (by assumption) rfl))) rfl ?_
        refine dc_cons (DStep.q rfl (by exact opd_move rfl rfl)) rfl ?_
        refine dc_cons (q_off_f rfl rfl rfl (by assumption)) rfl ?_
        refine dc_cons (q_off_f rfl rfl rfl (by assumption)) rfl ?_
        refine dc_cons (q_off_f rfl rfl rfl (by assumption)) rfl ?_
        refine dc_cons (q_off_f rfl rfl rfl (by assumption)) rfl ?_
        refine dc_cons (DStep.q rfl (by exact (by exact opd_pickt rfl rfl (by assumption) rfl))) rfl ?_
        refine dc_cons (DStep.q rfl (by exact opd_move rfl rfl)) rfl ?_
        refine dc_cons (q_off_f rfl rfl rfl (by rfl)) rfl ?_
        refine dc_cons (q_off_f rfl rfl rfl (by rfl)) rfl ?_
        refine dc_cons (q_off_f rfl rfl rfl (by rfl)) rfl ?_
        refine dc_cons (q_off_f rfl rfl rfl (by rfl)) rfl ?_
        refine dc_cons (q_off_f rfl rfl rfl (by rfl)) rfl ?_
        refine dc_cons (q_off_f rfl rfl rfl (by rfl)) rfl ?_
        refine dc_cons (q_off_f rfl rfl rfl (by rfl)) rfl ?_
        refine dc_cons (DStep.q rfl (by exact (by exact opd_pick_t rfl rfl rfl))) rfl ?_
        refine dc_cons (DStep.q rfl (by exact opd_move rfl rfl)) rfl ?_
        refine dc_cons (q_off_f rfl rfl rfl (by rfl)) rfl ?_
        refine dc_cons (q_off_f rfl rfl rfl (by rfl)) rfl ?_
        refine dc_cons (q_off_f rfl rfl rfl (by rfl)) rfl ?_
        refine dc_cons (q_off_f rfl rfl rfl (by rfl)) rfl ?_
        refine dc_cons (DStep.q rfl (by exact (by exact opd_pick_t rfl rfl rfl))) rfl ?_
        refine dc_nil ⟨by kernel_rfl, ?_⟩
        exact ⟨rfl, ⟨_, rfl, by (simp only [gHeadN, *]; rfl)⟩, rfl, rfl, rfl⟩
    · refine awp_drawc follows ?_
      refine dc_cons (DStep.q rfl (by exact (by exact opd_field_ref rfl fo30_1 rfl rfl rfl rfl))) rfl ?_
      refine dc_cons (DStep.q rfl (by exact (by exact opd_load1_ref rfl Tryz.isAgg3 rfl rfl rfl rfl rfl))) rfl ?_
      refine dc_cons (DStep.q rfl (by exact opr_call rfl rfl Tryz.call81 rfl (word_c o.kind _))) rfl ?_
      refine dc_cons (DStep.q rfl (by exact opd_seql rfl rfl rfl)) rfl ?_
      refine dc_cons (DStep.q rfl (by exact opd_move rfl rfl)) rfl ?_
      refine dc_cons (q_off_f rfl rfl rfl (by assumption)) rfl ?_
      refine dc_cons (q_off_f rfl rfl rfl (by assumption)) rfl ?_
      refine dc_cons (q_off_f rfl rfl rfl (by assumption)) rfl ?_
      refine dc_cons (q_off_f rfl rfl rfl (by assumption)) rfl ?_
      refine dc_cons (DStep.q rfl (by exact (by exact opd_pickt rfl rfl (by assumption) rfl))) rfl ?_
      refine dc_cons (DStep.q rfl (by exact opd_move rfl rfl)) rfl ?_
      refine dc_cons (q_off_f rfl rfl rfl (by rfl)) rfl ?_
      refine dc_cons (q_off_f rfl rfl rfl (by rfl)) rfl ?_
      refine dc_cons (q_off_f rfl rfl rfl (by rfl)) rfl ?_
      refine dc_cons (q_off_f rfl rfl rfl (by rfl)) rfl ?_
      refine dc_cons (DStep.q rfl (by exact (by exact opd_pick_t rfl rfl rfl))) rfl ?_
      refine dc_cons (DStep.q rfl (by exact opd_move rfl rfl)) rfl ?_
      refine dc_cons (q_off_f rfl rfl rfl (by rfl)) rfl ?_
      refine dc_cons (q_off_f rfl rfl rfl (by rfl)) rfl ?_
      refine dc_cons (q_off_f rfl rfl rfl (by rfl)) rfl ?_
      refine dc_cons (q_off_f rfl rfl rfl (by rfl)) rfl ?_
      refine dc_cons (q_off_f rfl rfl rfl (by rfl)) rfl ?_
      refine dc_cons (q_off_f rfl rfl rfl (by rfl)) rfl ?_
      refine dc_cons (q_off_f rfl rfl rfl (by rfl)) rfl ?_
      refine dc_cons (DStep.q rfl (by exact (by exact opd_pick_t rfl rfl rfl))) rfl ?_
      refine dc_cons (DStep.q rfl (by exact opd_move rfl rfl)) rfl ?_
      refine dc_cons (q_off_f rfl rfl rfl (by rfl)) rfl ?_
      refine dc_cons (q_off_f rfl rfl rfl (by rfl)) rfl ?_
      refine dc_cons (q_off_f rfl rfl rfl (by rfl)) rfl ?_
      refine dc_cons (q_off_f rfl rfl rfl (by rfl)) rfl ?_
      refine dc_cons (DStep.q rfl (by exact (by exact opd_pick_t rfl rfl rfl))) rfl ?_
      refine dc_nil ⟨by kernel_rfl, ?_⟩
      exact ⟨rfl, ⟨_, rfl, by (simp only [gHeadN, *]; rfl)⟩, rfl, rfl, rfl⟩
  refine awp_cond rfl (fun hc1 => ?_) (fun hc1 => ?_)
  -- cond 1
  · skip
    refine awp_seq ?_
    refine awp_region ?_
    refine al_d rfl rfl rfl (by exact opd_assign rfl rfl) ?_
    refine al_nil ?_
    refine awp_ret ?_
    -- return
    refine aret1 (H' := []) (by exact .inr rfl) rfl (rval_tmp rfl) (Fin.wk (by simp) trivial trivial) ?_
    exact ⟨by rw [gObj, gHead, ← hml, hc1]; rfl, rfl⟩
  · skip
    refine awp_skip ?_
    refine awp_seq ?_
    refine awp_region ?_
    refine al_d rfl rfl rfl (by exact opd_makeMap (id := 37) strK rfl rfl) ?_
    refine al_d rfl rfl rfl (by exact x_alloc (id := 3) rfl zo58 rfl rfl) ?_
    refine al_n rfl rfl (by exact (by exact x_store_all rfl Tryz.sizeOf58 rfl rfl rfl rfl rfl rfl rfl rfl)) ?_
    refine al_nil ?_
    refine awp_seq ?_
    refine awp_region ?_
    refine al_d rfl rfl rfl (by exact x_alloc (id := 4) rfl zo9 rfl rfl) ?_
    refine al_n rfl rfl (by exact (by exact x_store_all rfl Tryz.sizeOf9 rfl rfl rfl rfl rfl rfl rfl rfl)) ?_
    refine al_nil ?_
    refine awp_seq_to ([(1, .ref 1 0 0 0), (5, .clo 84 [.ref 1 0 0 0, .ref 4 0 0 0, .ref 3 0 0 0])]) (vH o sNil []) ?_ ?_
    -- seqto
    · skip
      refine awp_region ?_
      refine al_d rfl rfl rfl (by exact opd_makeFunc rfl rfl) ?_
      refine al_d rfl rfl rfl (by exact opd_assign rfl rfl) ?_
      refine al_nil ?_
      -- end of the piece
      exact (Ent.wk ⟨⟨_, rfl, rfl⟩, (by (simp; rfl)), ⟨_, rfl, rfl⟩, (by exact vH_clo _ _ _ _), trivial⟩ ⟨⟨_, rfl, rfl⟩, (by exact sob_clo _ _), ⟨_, rfl, rfl⟩, (by (simp; done)), ⟨_, rfl, rfl⟩, (by (simp; rfl)), ⟨_, rfl, rfl⟩, (by (simp; done)), trivial⟩ trivial)
    · skip
      refine awp_seq ?_
      refine awp_seq ?_
      refine awp_region ?_
      refine al_d rfl rfl rfl (by exact (by exact opd_field_ref rfl fo30_3 rfl rfl rfl rfl)) ?_
      refine al_d rfl rfl rfl (by exact (by exact opd_load1_ref rfl Tryz.isAgg27 rfl rfl rfl rfl rfl)) ?_
      refine al_d rfl rfl rfl (by exact opd_move rfl rfl) ?_
      refine al_d rfl rfl rfl (by exact opr_call rfl rfl Tryz.call78 rfl (containsFuncS _ o.refs (wrongAt o) (fun k => vH o (before id o.refs k) (seenL o.refs k)) h3 (fun k s hk => CallsV.clo Tryz.call84 (by rw [wrongAt, hk, before_succ hk]; simp only [seenL, hk]; exact valid1_c o _ s _ (h4 s (List.mem_of_getElem? hk)))))) ?_
      refine al_nil ?_
      refine awp_cond rfl (fun hc2 => ?_) (fun hc2 => ?_)
      -- cond 2
      · skip
        refine awp_seq ?_
        refine awp_region ?_
        refine al_d rfl rfl rfl (by exact opd_assign rfl rfl) ?_
        refine al_nil ?_
        refine awp_ret ?_
        -- return
        refine aret1 (H' := []) (by exact .inr rfl) rfl (rval_tmp rfl) (Fin.wk (by simp) trivial trivial) ?_
        exact ⟨by rw [gObj, hc2]; simp, rfl⟩
      · have hfin : gObj o = gKind o := by have h := hc1; rw [hml] at h; rw [gObj, gHead, h, hc2]; rfl
        rw [hfin]
        clear hfin
        generalize before id o.refs (stopN (wrongAt o) o.refs.length) = la
        generalize seenL o.refs (stopN (wrongAt o) o.refs.length) = LL
        unfold vH
        refine awp_skip ?_
        refine awp_seq ?_
        refine awp_seq ?_
        refine awp_region ?_
        refine al_d rfl rfl rfl (by exact (by exact opd_field_ref rfl fo30_1 rfl rfl rfl rfl)) ?_
        refine al_d rfl rfl rfl (by exact (by exact opd_load1_ref rfl Tryz.isAgg3 rfl rfl rfl rfl rfl)) ?_
        refine al_nil ?_
        refine awp_block ?_
        refine awp_seq ?_
        refine awp_region ?_
        refine al_d rfl rfl rfl (by exact opd_eql rfl rfl rfl) ?_
        refine al_d rfl rfl rfl (by exact opd_assign rfl rfl) ?_
        refine al_nil ?_
        refine awp_cond rfl (fun hc3 => ?_) (fun hc3 => ?_)
        -- cond 3
        · skip
          refine awp_seq ?_
          refine awp_bool (t := 2) (n := 11) (X := decide (((o.refs.map encStr).length : Int) = 0) && gOn o.x o.y) ?_ ?_
          · all_goals (refine al_d rfl rfl rfl (by exact (by exact opd_field_ref rfl fo30_3 rfl rfl rfl rfl)) ?_)
            all_goals (refine al_d rfl rfl rfl (by exact (by exact opd_load1_ref rfl Tryz.isAgg27 rfl rfl rfl rfl rfl)) ?_)
            all_goals (refine al_d rfl rfl rfl (by exact (by exact opd_len_sl rfl Tryz.underlying27 rfl)) ?_)
            all_goals (refine al_d rfl rfl rfl (by exact opd_eql rfl rfl rfl) ?_)
            all_goals (refine al_d rfl rfl rfl (by exact opd_move rfl rfl) ?_)
            all_goals (refine al_split (t := 51) rfl (fun h51 => ?_) (fun h51 => ?_))
            all_goals (try contradiction)
            all_goals (first | refine al_off rfl rfl rfl rfl rfl ?_ | refine al_ond rfl rfl rfl rfl rfl rfl (by exact (by exact opd_field_ref rfl fo30_2 rfl rfl rfl rfl)) ?_)
            all_goals (first | refine al_off rfl rfl rfl rfl rfl ?_ | refine al_ond rfl rfl rfl rfl rfl rfl (by exact (by exact opd_loadn_ref rfl Tryz.isAgg26 Tryz.sizeOf26 rfl rfl rfl rfl (by simp only [List.drop_succ_cons, List.drop_zero, List.take_succ_cons, List.take_zero, List.take_nil, List.map_cons, List.map_nil, List.set_cons_zero, List.set_cons_succ, List.cons_append, List.nil_append, encTag, encObj]; rfl) rfl)) ?_)
            all_goals (first | refine al_off rfl rfl rfl rfl rfl ?_ | refine al_ond rfl rfl rfl rfl rfl rfl (by exact opr_call rfl rfl Tryz.call85 rfl (on_c o.x o.y _)) ?_)
            all_goals (refine al_d rfl rfl rfl (by exact (by first | exact opd_pick_t rfl rfl rfl | exact opd_pick_f rfl rfl rfl)) ?_)
            all_goals (refine al_d rfl rfl rfl (by exact opd_assign rfl rfl) ?_)
            all_goals (refine al_nil ?_)
            all_goals (exact ⟨⟨_, rfl, by (simp_all; done)⟩, rfl, rfl, rfl⟩)
          refine awp_ret ?_
          -- return
          refine aret1 (H' := []) (by exact .inr rfl) rfl (rval_tmp rfl) (Fin.wk (by simp) trivial trivial) ?_
          exact ⟨by rw [gKind, if_pos (of_decide_eq_true hc3), ← hml], rfl⟩
        · skip
          refine awp_seq ?_
          refine awp_region ?_
          refine al_d rfl rfl rfl (by exact opd_eql rfl rfl rfl) ?_
          refine al_d rfl rfl rfl (by exact opd_assign rfl rfl) ?_
          refine al_nil ?_
          refine awp_cond rfl (fun hc4 => ?_) (fun hc4 => ?_)
          -- cond 4
          · skip
            refine awp_seq ?_
            refine awp_bool (t := 2) (n := 12) (X := decide (((o.refs.map encStr).length : Int) = 3) && (decide (o.x = 0) && decide (o.y = 0))) ?_ ?_
            · all_goals (refine al_d rfl rfl rfl (by exact (by exact opd_field_ref rfl fo30_3 rfl rfl rfl rfl)) ?_)
              all_goals (refine al_d rfl rfl rfl (by exact (by exact opd_load1_ref rfl Tryz.isAgg27 rfl rfl rfl rfl rfl)) ?_)
              all_goals (refine al_d rfl rfl rfl (by exact (by exact opd_len_sl rfl Tryz.underlying27 rfl)) ?_)
              all_goals (refine al_d rfl rfl rfl (by exact opd_eql rfl rfl rfl) ?_)
              all_goals (refine al_d rfl rfl rfl (by exact opd_move rfl rfl) ?_)
              all_goals (refine al_split (t := 62) rfl (fun h62 => ?_) (fun h62 => ?_))
              all_goals (try contradiction)
              all_goals (first | refine al_off rfl rfl rfl rfl rfl ?_ | refine al_ond rfl rfl rfl rfl rfl rfl (by exact (by exact opd_field_ref rfl fo30_2 rfl rfl rfl rfl)) ?_)
              all_goals (first | refine al_off rfl rfl rfl rfl rfl ?_ | refine al_ond rfl rfl rfl rfl rfl rfl (by exact (by exact opd_loadn_ref rfl Tryz.isAgg26 Tryz.sizeOf26 rfl rfl rfl rfl (by simp only [List.drop_succ_cons, List.drop_zero, List.take_succ_cons, List.take_zero, List.take_nil, List.map_cons, List.map_nil, List.set_cons_zero, List.set_cons_succ, List.cons_append, List.nil_append, encTag, encObj]; rfl) rfl)) ?_)
              all_goals (first | refine al_off rfl rfl rfl rfl rfl ?_ | refine al_ond rfl rfl rfl rfl rfl rfl (by exact x_build rfl bo26 rfl rfl) ?_)
              all_goals (first | refine al_off rfl rfl rfl rfl rfl ?_ | refine al_ond rfl rfl rfl rfl rfl rfl (by exact opd_aeql rfl rfl rfl rfl rfl Tryz.eqGuardType26 (se26 _ _ _ _)) ?_)
              all_goals (refine al_d rfl rfl rfl (by exact (by first | exact opd_pick_t rfl rfl rfl | exact opd_pick_f rfl rfl rfl)) ?_)
              all_goals (refine al_d rfl rfl rfl (by exact opd_assign rfl rfl) ?_)
              all_goals (refine al_nil ?_)
              all_goals (exact ⟨⟨_, rfl, by (simp_all; done)⟩, rfl, rfl, rfl⟩)
            refine awp_ret ?_
            -- return
            refine aret1 (H' := []) (by exact .inr rfl) rfl (rval_tmp rfl) (Fin.wk (by simp) trivial trivial) ?_
            exact ⟨by rw [gKind, if_neg (of_decide_eq_false hc3), if_pos (of_decide_eq_true hc4), ← hml], rfl⟩
          · skip
            refine awp_skip ?_
            refine awp_seq ?_
            refine awp_region ?_
            refine al_d rfl rfl rfl (by exact (by exact opd_field_ref rfl fo30_2 rfl rfl rfl rfl)) ?_
            refine al_d rfl rfl rfl (by exact (by exact opd_loadn_ref rfl Tryz.isAgg26 Tryz.sizeOf26 rfl rfl rfl rfl (by simp only [List.drop_succ_cons, List.drop_zero, List.take_succ_cons, List.take_zero, List.take_nil, List.map_cons, List.map_nil, List.set_cons_zero, List.set_cons_succ, List.cons_append, List.nil_append, encTag, encObj]; rfl) rfl)) ?_
            refine al_d rfl rfl rfl (by exact x_build rfl bo26 rfl rfl) ?_
            refine al_d rfl rfl rfl (by exact opd_aeql rfl rfl rfl rfl rfl Tryz.eqGuardType26 (se26 _ _ _ _)) ?_
            refine al_d rfl rfl rfl (by exact opd_assign rfl rfl) ?_
            refine al_nil ?_
            refine awp_ret ?_
            -- return
            refine aret1 (H' := []) (by exact .inr rfl) rfl (rval_tmp rfl) (Fin.wk (by simp) trivial trivial) ?_
            exact ⟨by rw [gKind, if_neg (of_decide_eq_false hc3), if_neg (of_decide_eq_false hc4)], rfl⟩
end Go.Proofs.YtedfihgkopejcaaGreat
end
section
set_option linter.unusedVariables false
set_option linter.unusedSimpArgs false
set_option maxRecDepth 100000
namespace Go.Proofs.YtedfihgkopejcaaGreat
open Go.Abs
def badObj (last : ByteArray) (o : GObj) : Bool := !gObj o || sle o.id last
def gMap (m : List GObj) : Bool := !((List.range m.length).any (badAt badObj GObj.id m)) && decide ((m.length : Int) ≤ 1000000)
def okM (m : List GObj) : Prop := m.length < 4611686018427387904 ∧ ∀ o ∈ m, okO o
theorem atlasValid_c (m : List GObj) (H : Heap) (hm : okM m) : ACalls Tryz.prog 58 [.agg [.pv (slObjs m)]] H (fun r H' => r = bv (gMap m) ∧ H' = H) := by
  refine ACalls.pure ?_ (by simp) H
  obtain ⟨hl, hos⟩ := hm
  have hml : (m.map encObj).length = m.length := List.length_map _
  refine ACalls.body Tryz.func58 rfl Tryz.ntmps58 (Nat.le_of_ble_eq_true rfl) ?_
  refine awp_seq ?_
  refine awp_region ?_
  refine al_d rfl rfl rfl (by exact opd_box (id := 1) rfl rfl rfl rfl rfl) ?_
  refine al_d rfl rfl rfl (by exact opd_assign rfl rfl) ?_
  refine al_nil ?_
  refine awp_seq ?_
  refine awp_region ?_
  refine al_d rfl rfl rfl (by exact opd_assign rfl rfl) ?_
  refine al_nil ?_
  refine awp_seq ?_
  refine awp_seq ?_
  refine awp_region ?_
  refine al_d rfl rfl rfl (by exact (by exact opd_field_ref rfl fo24_0 rfl rfl rfl rfl)) ?_
  refine al_d rfl rfl rfl (by exact (by exact opd_load1_ref rfl Tryz.isAgg22 rfl rfl rfl rfl rfl)) ?_
  refine al_d rfl rfl rfl (by exact (by exact opd_len_sl rfl Tryz.underlying22 rfl)) ?_
  refine al_d rfl rfl rfl (by exact opd_move rfl rfl) ?_
  refine al_nil ?_
  refine awp_block ?_
  -- loop
  refine awp_loop (σ := Nat) (fun k => ([(1, .ref 1 0 0 0), (3, sv (before GObj.id m k)), (7, .pv (slObjs m)), (8, iv ((m.map encObj).length : Int)), (9, iv (k : Int))], [(1, bx 1 24 [.pv (slObjs m)])])) (fun k => k ≤ m.length ∧ ∀ j, j < k → badAt badObj GObj.id m j = false) (fun k => m.length - k) 0 ⟨by omega, by omega⟩ ?_ ?_
  · exact (Ent.wk ⟨⟨_, rfl, rfl⟩, (by (simp; rfl)), ⟨_, rfl, rfl⟩, (by (simp; done)), ⟨_, rfl, rfl⟩, (by (simp; done)), ⟨_, rfl, rfl⟩, (by (simp; done)), ⟨_, rfl, rfl⟩, (by (simp; done)), trivial⟩ ⟨⟨_, rfl, rfl⟩, (by (simp; done)), trivial⟩ trivial)
  · rintro k ⟨hk, hno⟩
    refine awp_seq ?_
    refine awp_region ?_
    refine al_d rfl rfl rfl (by exact opd_lss rfl rfl rfl) ?_
    refine al_nil ?_
    refine awp_seq ?_
    refine awp_cond rfl (fun hc1 => ?_) (fun hc1 => ?_)
    -- cond 1
    · have hlt : k < m.length := by have := of_decide_eq_true hc1; omega
      obtain ⟨o, ho⟩ := get_of_lt hlt
      have hi := map_get (f := encObj) ho
      have hoo := hos o (List.mem_of_getElem? ho)
      refine awp_skip ?_
      refine awp_seq ?_
      refine awp_block ?_
      refine awp_seq ?_
      refine awp_region ?_
      refine al_d rfl rfl rfl (by exact (by exact x_index_pad rfl so22 rfl rfl (by omega) (by exact Int.toNat_natCast _) (by assumption) rfl)) ?_
      refine al_d rfl rfl rfl (by exact (by exact opd_loadn_pad rfl Tryz.isAgg30 Tryz.sizeOf30 rfl (by omega) (by simp only [List.drop_succ_cons, List.drop_zero, List.take_succ_cons, List.take_zero, List.take_nil, List.map_cons, List.map_nil, List.set_cons_zero, List.set_cons_succ, List.cons_append, List.nil_append, encTag, encObj]; rfl) rfl)) ?_
      refine al_d rfl rfl rfl (by exact x_alloc (id := 5) rfl zo30 rfl rfl) ?_
      refine al_n rfl rfl (by exact (by exact x_store_all rfl Tryz.sizeOf30 rfl rfl rfl rfl rfl rfl rfl rfl)) ?_
      refine al_nil ?_
      refine awp_seq ?_
      refine awp_seq ?_
      refine awp_bool (t := 21) (n := 10) (X := badObj (before GObj.id m k) o) ?_ ?_
      · all_goals (refine al_d rfl rfl rfl (by exact (by exact opd_loadn_ref rfl Tryz.isAgg30 Tryz.sizeOf30 rfl rfl rfl rfl (by simp only [List.drop_succ_cons, List.drop_zero, List.take_succ_cons, List.take_zero, List.take_nil, List.map_cons, List.map_nil, List.set_cons_zero, List.set_cons_succ, List.cons_append, List.nil_append, encTag, encObj]; rfl) rfl)) ?_)
        all_goals (refine al_d rfl rfl rfl (by exact opr_call rfl rfl Tryz.call47 rfl (objValid_c o _ hoo)) ?_)
        all_goals (refine al_d rfl rfl rfl (by exact opd_not rfl rfl) ?_)
        all_goals (refine al_d rfl rfl rfl (by exact opd_move rfl rfl) ?_)
        all_goals (refine al_split (t := 16) rfl (fun h16 => ?_) (fun h16 => ?_))
        all_goals (try contradiction)
        all_goals (first | refine al_off rfl rfl rfl rfl rfl ?_ | refine al_ond rfl rfl rfl rfl rfl rfl (by exact (by exact opd_field_ref rfl fo30_0 rfl rfl rfl rfl)) ?_)
        all_goals (first | refine al_off rfl rfl rfl rfl rfl ?_ | refine al_ond rfl rfl rfl rfl rfl rfl (by exact (by exact opd_load1_ref rfl Tryz.isAgg9 rfl rfl rfl rfl rfl)) ?_)
        all_goals (first | refine al_off rfl rfl rfl rfl rfl ?_ | refine al_ond rfl rfl rfl rfl rfl rfl (by exact opd_move rfl rfl) ?_)
        all_goals (first | refine al_off rfl rfl rfl rfl rfl ?_ | refine al_ond rfl rfl rfl rfl rfl rfl (by exact opd_sleq rfl rfl rfl) ?_)
        all_goals (refine al_d rfl rfl rfl (by exact (by first | exact opd_pick_t rfl rfl rfl | exact opd_pick_f rfl rfl rfl)) ?_)
        all_goals (refine al_nil ?_)
        all_goals (exact ⟨⟨_, rfl, by (simp only [badObj, sle, *]; rfl)⟩, rfl, rfl, rfl⟩)
      refine awp_cond rfl (fun hc2 => ?_) (fun hc2 => ?_)
      -- cond 2
      · skip
        refine awp_seq ?_
        refine awp_region ?_
        refine al_d rfl rfl rfl (by exact opd_assign rfl rfl) ?_
        refine al_nil ?_
        refine awp_ret ?_
        -- return
        refine aret1 (H' := []) (by exact .inr rfl) rfl (rval_tmp rfl) (Fin.wk (by simp) trivial trivial) ?_
        exact ⟨by rw [gMap, range_some hlt ((badAt_some ho).trans hc2)]; rfl, rfl⟩
      · skip
        refine awp_skip ?_
        refine awp_region ?_
        refine al_d rfl rfl rfl (by exact (by exact opd_field_ref rfl fo30_0 rfl rfl rfl rfl)) ?_
        refine al_d rfl rfl rfl (by exact (by exact opd_load1_ref rfl Tryz.isAgg9 rfl rfl rfl rfl rfl)) ?_
        refine al_d rfl rfl rfl (by exact opd_assign rfl rfl) ?_
        refine al_nil ?_
        refine awp_region ?_
        refine al_d rfl rfl rfl (by exact opd_add rfl rfl rfl (by exact w64 (by omega) (by omega))) ?_
        refine al_d rfl rfl rfl (by exact opd_move rfl rfl) ?_
        refine al_nil ?_
        -- end of a round
        refine ⟨k + 1, ⟨by omega, fun j hj => ?_⟩, by omega, ?_⟩
        · by_cases e : j = k
          · subst e; exact (badAt_some ho).trans hc2
          · exact hno j (by omega)
        · rw [before_succ ho]
          exact (Ent.wk ⟨⟨_, rfl, rfl⟩, (by (simp; rfl)), ⟨_, rfl, rfl⟩, (by (simp; done)), ⟨_, rfl, rfl⟩, (by (simp; done)), ⟨_, rfl, rfl⟩, (by (simp; done)), ⟨_, rfl, rfl⟩, (by (simp; done)), trivial⟩ ⟨⟨_, rfl, rfl⟩, (by (simp; done)), trivial⟩ trivial)
    · have hge : k = m.length := by have := of_decide_eq_false hc1; omega
      subst hge
      refine awp_exit ?_
      refine awp_seq ?_
      refine awp_region ?_
      refine al_d rfl rfl rfl (by exact (by exact opd_field_ref rfl fo24_0 rfl rfl rfl rfl)) ?_
      refine al_d rfl rfl rfl (by exact (by exact opd_load1_ref rfl Tryz.isAgg22 rfl rfl rfl rfl rfl)) ?_
      refine al_d rfl rfl rfl (by exact (by exact opd_len_sl rfl Tryz.underlying22 rfl)) ?_
      refine al_d rfl rfl rfl (by exact opd_leq rfl rfl rfl) ?_
      refine al_d rfl rfl rfl (by exact opd_assign rfl rfl) ?_
      refine al_nil ?_
      refine awp_ret ?_
      -- return
      refine aret1 (H' := []) (by exact .inr rfl) rfl (rval_tmp rfl) (Fin.wk (by simp) trivial trivial) ?_
      exact ⟨by rw [gMap, range_any hno, ← hml]; rfl, rfl⟩
end Go.Proofs.YtedfihgkopejcaaGreat
end
section
set_option linter.unusedVariables false
set_option linter.unusedSimpArgs false
set_option maxRecDepth 100000
namespace Go.Proofs.YtedfihgkopejcaaGreat
open Go.Abs
def wfI (n : Int) : Prop := (Lit.int .i64 n).wf = true
def szTag (B : Nat) (t : GTag) : Prop := t.key.size ≤ B ∧ t.val.size ≤ B
def szStrs (B : Nat) (l : List ByteArray) : Prop := l.length ≤ B ∧ ∀ s, s ∈ l → s.size ≤ B
def szTags (B : Nat) (l : List GTag) : Prop := l.length ≤ B ∧ ∀ s, s ∈ l → szTag B s
def szObj (B : Nat) (o : GObj) : Prop := o.id.size ≤ B ∧ wfI o.kind ∧ wfI o.x ∧ wfI o.y ∧ szStrs B o.refs ∧ szTags B o.tags
def szMap (B : Nat) (m : List GObj) : Prop := m.length ≤ B ∧ ∀ o, o ∈ m → szObj B o
def szEdit (B : Nat) (e : GEdit) : Prop := wfI e.op ∧ e.id.size ≤ B ∧ e.other.size ≤ B ∧ e.node.size ≤ B ∧ wfI e.x ∧ wfI e.y ∧ e.key.size ≤ B ∧ e.val.size ≤ B ∧ szStrs B e.refs ∧ szObj B e.obj
def szEdits (B : Nat) (l : List GEdit) : Prop := l.length ≤ B ∧ ∀ e, e ∈ l → szEdit B e
section
variable {B n : Nat} {ps : List PV}
theorem d_strs (h : Sh Tryz.prog B (n + 2) 27 ps) : ∃ l, ps = [slStrs l] ∧ szStrs B l := by
  obtain ⟨l, rfl, h1, h2⟩ := sh_rows (f := encStr) (good := fun s => s.size ≤ B) Tryz.underlying27 h (fun r hr => by
    obtain ⟨s, rfl, hs⟩ := sh_str Tryz.underlying9 hr
    exact ⟨s, rfl, hs⟩)
  exact ⟨l, rfl, h1, h2⟩
theorem d_tag (h : Sh Tryz.prog B (n + 2) 81 ps) : ∃ t, ps = encTag t ∧ szTag B t := by
  obtain ⟨a, b, rfl, _, h1, a2, b2, rfl, _, h2, rfl⟩ := sh_struct Tryz.underlying81 h
  obtain ⟨k, rfl, hk⟩ := sh_str Tryz.underlying9 h1
  obtain ⟨v, rfl, hv⟩ := sh_str Tryz.underlying9 h2
  exact ⟨⟨k, v⟩, rfl, hk, hv⟩
theorem d_tags (h : Sh Tryz.prog B (n + 3) 28 ps) : ∃ l, ps = [slTags l] ∧ szTags B l := by
  obtain ⟨l, rfl, h1, h2⟩ := sh_rows (f := encTag) (good := szTag B) Tryz.underlying28 h (fun r hr => d_tag hr)
  exact ⟨l, rfl, h1, h2⟩
theorem d_point (h : Sh Tryz.prog B (n + 2) 26 ps) : ∃ x y, ps = [.int .i64 x, .int .i64 y] ∧ wfI x ∧ wfI y := by
  obtain ⟨a, b, rfl, _, h1, a2, b2, rfl, _, h2, rfl⟩ := sh_struct Tryz.underlying26 h
  obtain ⟨x, rfl, hx⟩ := sh_int Tryz.underlying3 h1
  obtain ⟨y, rfl, hy⟩ := sh_int Tryz.underlying3 h2
  exact ⟨x, y, rfl, hx, hy⟩
theorem d_obj (h : Sh Tryz.prog B (n + 4) 30 ps) : ∃ o, ps = encObj o ∧ szObj B o := by
  obtain ⟨_, _, rfl, _, h1, _, _, rfl, _, h2, _, _, rfl, _, h3, _, _, rfl, _, h4, _, _, rfl, _, h5, rfl⟩ := sh_struct Tryz.underlying30 h
  obtain ⟨id, rfl, q1⟩ := sh_str Tryz.underlying9 h1
  obtain ⟨k, rfl, q2⟩ := sh_int Tryz.underlying3 h2
  obtain ⟨x, y, rfl, q3, q4⟩ := d_point h3
  obtain ⟨rs, rfl, q5⟩ := d_strs h4
  obtain ⟨ts, rfl, q6⟩ := d_tags h5
  exact ⟨⟨id, k, x, y, rs, ts⟩, rfl, q1, q2, q3, q4, q5, q6⟩
theorem d_objs (h : Sh Tryz.prog B (n + 5) 22 ps) : ∃ l, ps = [slObjs l] ∧ szMap B l := by
  obtain ⟨l, rfl, h1, h2⟩ := sh_rows (f := encObj) (good := szObj B) Tryz.underlying22 h (fun r hr => d_obj hr)
  exact ⟨l, rfl, h1, h2⟩
theorem d_map (h : Sh Tryz.prog B (n + 6) 24 ps) : ∃ l, ps = [slObjs l] ∧ szMap B l := by
  obtain ⟨_, _, rfl, _, h1, rfl⟩ := sh_struct Tryz.underlying24 h
  obtain ⟨l, rfl, q⟩ := d_objs h1
  exact ⟨l, rfl, q⟩
end
theorem okTags_of {B : Nat} {l : List GTag} (hB : B < 4611686018427387904) (h : szTags B l) : okTags l := ⟨by have := h.1; omega, fun t ht => ⟨by have := (h.2 t ht).1; omega, by have := (h.2 t ht).2; omega⟩⟩
theorem okO_of {B : Nat} {o : GObj} (hB : B < 4611686018427387904) (h : szObj B o) : okO o :=
  ⟨by have := h.1; omega, okTags_of hB h.2.2.2.2.2, by have := h.2.2.2.2.1.1; omega, fun s hs => by have := h.2.2.2.2.1.2 s hs; omega⟩
theorem okM_of {B : Nat} {m : List GObj} (hB : B < 4611686018427387904) (h : szMap B m) : okM m := ⟨by have := h.1; omega, fun o ho => okO_of hB (h.2 o ho)⟩
section
variable {B n : Nat} {ps : List PV}
end
end Go.Proofs.YtedfihgkopejcaaGreat
end
section
set_option linter.unusedVariables false
set_option maxRecDepth 100000
namespace Go.Proofs.YtedfihgkopejcaaGreat
open Go.Abs Go.ChangeShapes Go.WideShapes Go.ChangeAt Go.RowKit
theorem own : ownKnob Tryz.prog.godebug = none := by kernel_rfl
theorem laidOut : laidOutB Tryz.prog = true := by kernel_rfl
theorem upto_bound {H : Type} {l : List (DataW H)} (hk : Rows.uptoSmall H l = true) : Rows.uptoBulkAll l ≤ 1048576 := of_decide_eq_true hk
theorem bulk_left {H : Type} {l r : List (DataW H)} {n : Nat} (h : Rows.uptoBulkAll (l ++ r) ≤ n) : Rows.uptoBulkAll l ≤ n := by
  induction l generalizing n with
  | nil => simp [Rows.uptoBulkAll]
  | cons x l ih =>
    simp only [List.cons_append, Rows.uptoBulkAll] at h ⊢
    have := ih (n := n - Rows.uptoBulk x) (by omega)
    omega
end Go.Proofs.YtedfihgkopejcaaGreat
end
section
set_option linter.unusedVariables false
set_option linter.unusedSimpArgs false
set_option maxRecDepth 100000
namespace Go.Proofs.YtedfihgkopejcaaGreat
open Go.Abs
section
variable {B n : Nat} {ps : List PV}
theorem d_edit (h : Sh Tryz.prog B (n + 5) 32 ps) : ∃ o, ps = encEdit o ∧ szEdit B o := by
  obtain ⟨_, _, rfl, _, h1, _, _, rfl, _, h2, _, _, rfl, _, h3, _, _, rfl, _, h4, _, _, rfl, _, h5, _, _, rfl, _, h6, _, _, rfl, _, h7, _, _, rfl, _, h8, _, _, rfl, _, h9, rfl⟩ := sh_struct Tryz.underlying32 h
  obtain ⟨op, rfl, q1⟩ := sh_int Tryz.underlying3 h1
  obtain ⟨id, rfl, q2⟩ := sh_str Tryz.underlying9 h2
  obtain ⟨ot, rfl, q3⟩ := sh_str Tryz.underlying9 h3
  obtain ⟨nd, rfl, q4⟩ := sh_str Tryz.underlying9 h4
  obtain ⟨x, y, rfl, q5, q6⟩ := d_point h5
  obtain ⟨k, rfl, q7⟩ := sh_str Tryz.underlying9 h6
  obtain ⟨v, rfl, q8⟩ := sh_str Tryz.underlying9 h7
  obtain ⟨rs, rfl, q9⟩ := d_strs h8
  obtain ⟨o, rfl, q10⟩ := d_obj h9
  exact ⟨⟨op, id, ot, nd, x, y, k, v, rs, o⟩, rfl, q1, q2, q3, q4, q5, q6, q7, q8, q9, q10⟩
end
end Go.Proofs.YtedfihgkopejcaaGreat
end
section
set_option linter.unusedVariables false
set_option linter.unusedSimpArgs false
namespace Go.Abs
theorem Ent.get' {G0 : Heap} {E E' : Env} {H H' : Heap} (h : EOk0 E E') (hH : ∀ j, H'.get j = H.get j) : Ent G0 E H E' H' := (Ent.e0 h).trans (Ent.get (fun _ => rfl) hH)
theorem get_dup (id : Nat) (o o' : Ob) (H : Heap) (j : Nat) : Heap.get ((id, o) :: H) j = Heap.get ((id, o) :: (id, o') :: H) j := by
  cases e : Nat.beq id j <;> simp [Heap.get, e]
/-- The object in front was written anew. -/
theorem Ent.dup {G0 : Heap} {E E' : Env} {H : Heap} {id : Nat} {o o' : Ob} (h : EOk0 E E') : Ent G0 E ((id, o) :: (id, o') :: H) E' ((id, o) :: H) := Ent.get' h (get_dup id o o' H)
theorem Kept.app {D H G0 : Heap} (hG : ∀ p ∈ D, G0.get p.1 = none) : Kept G0 H (D ++ H) := fun id hi => by
  rw [hget_app]
  cases e : D.get id with
  | none => rfl
  | some o =>
    have := hG _ (mem_of_hget e)
    rw [this] at hi
    cases hi
/-- The result's slice is frozen. -/
theorem Fin.fzC {G0 H H' : Heap} {r r' : AV} {id : Nat} {ob : Ob} (ps : List (List PV)) (hH : H.get id = some ob) (hps : ob.rows = ps.map (·.map .pv)) (hf : Fz H' id ob.g ps r r') (hno : H'.get id = none) (hs : Sub H' H) (hc : Closed H') (hk : Kept G0 H' H) : Fin G0 H r H' r' := by
  intro G hG I ι w v h1 h2 h3
  subst hG
  exact ⟨_, ι, h1.freeze hs hc hH hno, h2.freeze hs hk hH, VRel.freeze h1 hs hH hps hf h3⟩
/-- An owned slice in front is what is returned. -/
theorem Fin.slice {G0 H : Heap} {id g n : Nat} {ob : Ob} (D : Heap) (ps : List (List PV)) (hH : Heap.get (D ++ H) id = some ob) (hg : ob.g = g) (hps : ob.rows = ps.map (·.map .pv)) (hn : ps.length = n) (hc : Closed H) (hD : ∀ p ∈ D, H.get p.1 = none) (hG : ∀ p ∈ D, G0.get p.1 = none) (hid : H.get id = none) :
    Fin G0 (D ++ H) (.osl id g 0 n) H (.pv (.sl ps)) := by
  subst hg hn
  exact Fin.fzC ps hH hps (.osl (by rw [Nat.zero_add, List.drop_zero, List.take_length])) hid (Sub.app hD) hc (Kept.app hG)
end Go.Abs
end
section
set_option linter.unusedVariables false
set_option linter.unusedSimpArgs false
namespace Go.Proofs.YtedfihgkopejcaaGreat
open Go.Abs
/-- The model's order of texts is the lexical one. -/
theorem bytesLess_eq : ∀ (x y : List UInt8), Op.bytesLess x y = decide (x < y)
  | [], [] => by simp [Op.bytesLess]
  | _ :: _, [] => by simp [Op.bytesLess]
  | [], _ :: _ => by simp [Op.bytesLess]
  | a :: x, b :: y => by
    rw [Op.bytesLess, bytesLess_eq x y]
    simp only [List.cons_lt_cons_iff]
    by_cases h1 : a < b <;> by_cases h2 : a = b <;> by_cases h3 : x < y <;> simp [h1, h2, h3]
theorem slt_irr (s : ByteArray) : slt s s = false := by
  unfold slt
  rw [bytesLess_eq]
  exact decide_eq_false (List.lt_irrefl _)
theorem slt_tri {a b : ByteArray} (h1 : slt a b = false) (h2 : slt b a = false) : a = b := by
  unfold slt at h1 h2
  rw [bytesLess_eq] at h1 h2
  have e : a.toList = b.toList := List.le_antisymm (List.not_lt.1 (of_decide_eq_false h2)) (List.not_lt.1 (of_decide_eq_false h1))
  have := list_beq a b
  rw [e] at this
  simpa using this.symm
theorem slt_trans {a b c : ByteArray} (h1 : slt a b = true) (h2 : slt b c = true) : slt a c = true := by
  unfold slt at *
  rw [bytesLess_eq] at *
  exact decide_eq_true (List.lt_trans (of_decide_eq_true h1) (of_decide_eq_true h2))
theorem slt_nil (s : ByteArray) : slt s sNil = false := by
  unfold slt
  rw [bytesLess_eq, ByteArray.toList_eq sNil]
  exact decide_eq_false (List.not_lt_nil _)
theorem sle_iff {a b : ByteArray} : sle a b = false ↔ slt b a = true := by
  unfold sle
  constructor
  · intro h
    simp only [Bool.or_eq_false_iff, decide_eq_false_iff_not] at h
    cases e : slt b a with
    | true => rfl
    | false => exact absurd (slt_tri h.1 e) h.2
  · intro h
    simp only [Bool.or_eq_false_iff, decide_eq_false_iff_not]
    refine ⟨?_, fun e => ?_⟩
    · cases e : slt a b with
      | false => rfl
      | true => have := slt_trans e h; rw [slt_irr] at this; cases this
    · subst e; rw [slt_irr] at h; cases h
/-- Ids in increasing order. -/
def ups (m : List GObj) : Prop := m.Pairwise (fun a b => slt a.id b.id = true)
theorem gObj_name {o : GObj} (h : gObj o = true) : gName o.id = true := by
  simp only [gObj, gHead, gHeadN, Bool.and_eq_true, Bool.not_eq_true', Bool.or_eq_false_iff, Bool.not_eq_false'] at h
  exact h.1.1.1.1.2
theorem gName_ne {s : ByteArray} (h : gName s = true) : s ≠ sNil := by
  simp only [gName, Bool.and_eq_true, Bool.not_eq_true', decide_eq_false_iff_not] at h
  exact h.2.1
theorem badObj_iff {last : ByteArray} {o : GObj} : badObj last o = false ↔ gObj o = true ∧ slt last o.id = true := by
  rw [badObj, Bool.or_eq_false_iff, sle_iff, Bool.not_eq_false']
theorem badAt_all {m : List GObj} : (List.range m.length).any (badAt badObj GObj.id m) = false ↔ (∀ o ∈ m, gObj o = true) ∧ ups m := by
  rw [List.any_eq_false]
  constructor
  · intro h
    have hb : ∀ k o, m[k]? = some o → gObj o = true ∧ slt (before GObj.id m k) o.id = true := fun k o ho => by
      have := h k (List.mem_range.2 (List.getElem?_eq_some_iff.1 ho).1)
      rw [badAt_some ho, Bool.not_eq_true] at this
      exact badObj_iff.1 this
    refine ⟨fun o ho => ?_, ?_⟩
    · obtain ⟨k, hk⟩ := List.mem_iff_getElem?.1 ho
      exact (hb k o hk).1
    · have key : ∀ (d i : Nat) (a b : GObj), m[i]? = some a → m[i + d + 1]? = some b → slt a.id b.id = true := by
        intro d
        induction d with
        | zero =>
          intro i a b ha hb'
          have := (hb _ _ hb').2
          rw [Nat.add_zero, before_succ ha] at this
          exact this
        | succ d ih =>
          intro i a b ha hb'
          obtain ⟨c, hc⟩ := get_of_lt (l := m) (k := i + d + 1) (by have := (List.getElem?_eq_some_iff.1 hb').1; omega)
          have h1 := ih i a c ha hc
          have h2 := (hb _ _ hb').2
          rw [show i + (d + 1) = i + d + 1 from rfl, before_succ hc] at h2
          exact slt_trans h1 h2
      rw [ups, List.pairwise_iff_getElem]
      intro i j hi hj hij
      have := key (j - i - 1) i m[i] m[j] (List.getElem?_eq_getElem hi) (by rw [show i + (j - i - 1) + 1 = j by omega]; exact List.getElem?_eq_getElem hj)
      exact this
  · rintro ⟨h1, h2⟩ k hk
    have hlt := List.mem_range.1 hk
    have ho := List.getElem?_eq_getElem hlt
    rw [badAt_some ho, Bool.not_eq_true, badObj_iff]
    refine ⟨h1 _ (List.getElem_mem hlt), ?_⟩
    cases k with
    | zero =>
      have hn := gName_ne (gObj_name (h1 _ (List.getElem_mem hlt)))
      show slt sNil _ = true
      cases e : slt sNil (m[0]).id with
      | true => rfl
      | false => exact absurd (slt_tri (slt_nil _) e) hn
    | succ k =>
      rw [before_succ (List.getElem?_eq_getElem (show k < m.length by omega))]
      rw [ups, List.pairwise_iff_getElem] at h2
      exact h2 k (k + 1) (by omega) hlt (by omega)
theorem gMap_iff {m : List GObj} : gMap m = true ↔ (∀ o ∈ m, gObj o = true) ∧ ups m ∧ (m.length : Int) ≤ 1000000 := by
  rw [gMap, Bool.and_eq_true, Bool.not_eq_true', badAt_all, decide_eq_true_iff, and_assoc]
theorem gMap_sub {m r : List GObj} (h : gMap m = true) (hs : r.Sublist m) : gMap r = true := by
  rw [gMap_iff] at *
  obtain ⟨h1, h2, h3⟩ := h
  refine ⟨fun o ho => h1 o (hs.subset ho), List.Pairwise.sublist hs h2, ?_⟩
  have := hs.length_le
  omega
theorem inB_iff {l : List ByteArray} {s : ByteArray} : inB l s = true ↔ s ∈ l := by
  unfold inB
  rw [List.any_eq_true]
  constructor
  · rintro ⟨a, h1, h2⟩
    rw [← of_decide_eq_true h2]; exact h1
  · intro h
    exact ⟨s, h, decide_eq_true rfl⟩
end Go.Proofs.YtedfihgkopejcaaGreat
end
section
set_option linter.unusedVariables false
set_option linter.unusedSimpArgs false
set_option maxRecDepth 100000
namespace Go.Proofs.YtedfihgkopejcaaGreat
open Go.Abs
/-- slices.IndexFunc at planisphere/api.Object. -/
theorem indexFunc_GObj (fv : AV) (l : List GObj) (p : GObj → Bool) (H : Heap) (hl : l.length < 4611686018427387904) (hf : ∀ o, o ∈ l → CallsV Tryz.prog fv [.agg ((encObj o).map .pv)] H (fun r H' => r = .pv (.bool (p o)) ∧ H' = H)) :
    ACalls Tryz.prog 118 [.pv (.sl (l.map encObj)), fv] H (fun r H' => r = .pv (.int .i64 (gidx p l)) ∧ H' = H) := by
  refine ACalls.body Tryz.func118 rfl Tryz.ntmps118 (Nat.le_of_ble_eq_true rfl) ?_
  refine awp_seq ?_
  refine awp_region ?_
  refine al_d rfl rfl rfl (by exact opd_assign rfl rfl) ?_
  refine al_nil ?_
  refine awp_seq ?_
  refine awp_seq ?_
  refine awp_region ?_
  refine al_d rfl rfl rfl (by exact opd_move rfl rfl) ?_
  refine al_d rfl rfl rfl (by exact (by exact opd_len_sl rfl Tryz.underlying22 rfl)) ?_
  refine al_d rfl rfl rfl (by exact opd_move rfl rfl) ?_
  refine al_nil ?_
  refine awp_block ?_
  -- loop
  refine awp_loop (σ := Nat) (fun k => ([(0, .pv (.sl (l.map encObj))), (1, fv), (7, .pv (.int .i64 (l.map encObj).length)), (8, .pv (.int .i64 (k : Int)))], H)) (fun k => k ≤ l.length ∧ ∀ j, j < k → ∀ b, l[j]? = some b → p b = false) (fun k => l.length - k) 0 ⟨by omega, by omega⟩ ?_ ?_
  · exact Ent.e0 ⟨⟨_, rfl, rfl⟩, ⟨_, rfl, rfl⟩, ⟨_, rfl, rfl⟩, ⟨_, rfl, rfl⟩, trivial⟩
  · rintro k ⟨hk, hno⟩
    refine awp_seq ?_
    refine awp_region ?_
    refine al_d rfl rfl rfl (by exact opd_lss rfl rfl rfl) ?_
    refine al_nil ?_
    refine awp_seq ?_
    refine awp_cond rfl (fun hc1 => ?_) (fun hc1 => ?_)
    -- cond 1
    · have hlt : k < l.length := by simpa using hc1
      obtain ⟨o, ho⟩ := get_of_lt hlt
      have hi := map_get (f := encObj) ho
      have hfo := hf o (List.mem_of_getElem? ho)
      refine awp_skip ?_
      refine awp_seq ?_
      refine awp_block ?_
      refine awp_seq ?_
      refine awp_region ?_
      refine al_d rfl rfl rfl (by exact opd_move rfl rfl) ?_
      refine al_d rfl rfl rfl (by exact opd_assign rfl rfl) ?_
      refine al_nil ?_
      refine awp_seq ?_
      refine awp_region ?_
      refine al_d rfl rfl rfl (by exact opd_move rfl rfl) ?_
      refine al_d rfl rfl rfl (by exact opd_move rfl rfl) ?_
      refine al_d rfl rfl rfl (by exact opd_move rfl rfl) ?_
      refine al_d rfl rfl rfl (by exact (by exact x_index_pad rfl so22 rfl rfl (by omega) (by exact Int.toNat_natCast _) (by assumption) rfl)) ?_
      refine al_d rfl rfl rfl (by exact (by exact opd_loadn_pad rfl Tryz.isAgg30 Tryz.sizeOf30 rfl (by omega) (by simp only [List.drop_succ_cons, List.drop_zero, List.take_succ_cons, List.take_zero, List.take_nil, List.map_cons, List.map_nil, List.set_cons_zero, List.set_cons_succ, List.cons_append, List.nil_append, encObj]; rfl) rfl)) ?_
      refine al_d rfl rfl rfl (by exact opr_callV rfl rfl rfl (hfo)) ?_
      refine al_nil ?_
      refine awp_cond rfl (fun hc2 => ?_) (fun hc2 => ?_)
      -- cond 2
      · skip
        refine awp_seq ?_
        refine awp_region ?_
        refine al_d rfl rfl rfl (by exact opd_move rfl rfl) ?_
        refine al_d rfl rfl rfl (by exact opd_assign rfl rfl) ?_
        refine al_nil ?_
        refine awp_ret ?_
        -- return
        exact aret1 (H' := H) (.inr rfl) rfl (rval_tmp rfl) Fin.refl ⟨by rw [gidx, fidx_some hno ho hc2], rfl⟩
      · skip
        refine awp_skip ?_
        refine awp_region ?_
        refine al_d rfl rfl rfl (by exact opd_add rfl rfl rfl (by exact w64 (by omega) (by omega))) ?_
        refine al_d rfl rfl rfl (by exact opd_move rfl rfl) ?_
        refine al_nil ?_
        -- end of a round
        refine ⟨k + 1, ⟨by omega, fun j hj b hb => ?_⟩, by omega, Ent.e0 ⟨⟨_, rfl, rfl⟩, ⟨_, rfl, rfl⟩, ⟨_, rfl, rfl⟩, ⟨_, rfl, rfl⟩, trivial⟩⟩
        by_cases e : j = k
        · subst e; rw [ho] at hb; cases hb; exact hc2
        · exact hno j (by omega) b hb
    · have hge : k = l.length := by have : l.length ≤ k := by simpa using hc1
                                    omega
      subst hge
      refine awp_exit ?_
      refine awp_seq ?_
      refine awp_region ?_
      refine al_d rfl rfl rfl (by exact opd_assign rfl rfl) ?_
      refine al_nil ?_
      refine awp_ret ?_
      -- return
      exact aret1 (H' := H) (.inr rfl) rfl (rval_tmp rfl) Fin.refl ⟨by rw [gidx, fidx_none hno], rfl⟩
end Go.Proofs.YtedfihgkopejcaaGreat
end
section
set_option linter.unusedVariables false
set_option linter.unusedSimpArgs false
set_option maxRecDepth 100000
namespace Go.Proofs.YtedfihgkopejcaaGreat
open Go.Abs
abbrev sName : ByteArray := ⟨#[110, 97, 109, 101]⟩
def idIs (id : ByteArray) (o : GObj) : Bool := decide (o.id = id)
def obOf (m : List GObj) (id : ByteArray) : GObj := (m.find? (idIs id)).getD zObj
def isOb (m : List GObj) (id : ByteArray) : Bool := (m.find? (idIs id)).isSome
def nameIs (t : GTag) : Bool := decide (t.key = sName)
def onP (x y : Int) : Bool := decide (0 ≤ min x y) && decide (max x y < 1048576)
end Go.Proofs.YtedfihgkopejcaaGreat
end
section
set_option linter.unusedVariables false
set_option linter.unusedSimpArgs false
set_option maxRecDepth 100000
namespace Go.Proofs.YtedfihgkopejcaaGreat
open Go.Abs
def gDropped (m : List GObj) (e : GEdit) : Bool := isOb m e.id && decide (e.op = 5)
def gOthers (a b : GEdit) : Bool := !decide (a.id = b.id)
def gNamed (l : List GTag) : Bool := l.any nameIs
def gBlanked (m : List GObj) (e : GEdit) : Bool := decide (e.op = 3) && decide (e.key = sName) && decide (e.val = sNil) && gNamed (obOf m e.id).tags
def gFar (o : GObj) (e : GEdit) : Bool := decide (1000000 ≤ (e.x - o.x) * (e.x - o.x) + (e.y - o.y) * (e.y - o.y))
def gMoved (m : List GObj) (e : GEdit) : Bool := decide (e.op = 2) && decide ((obOf m e.id).kind = 1) && onP (obOf m e.id).x (obOf m e.id).y && onP e.x e.y && gFar (obOf m e.id) e
def gPut (e : GEdit) : Bool := decide (e.op = 1) && decide (e.obj.kind = 1)
def tagEq (a b : GTag) : Bool := decide (a.key = b.key) && decide (a.val = b.val)
def tagsEq : List GTag → List GTag → Bool
  | [], [] => true
  | a :: l, b :: r => tagEq a b && tagsEq l r
  | _, _ => false
def gAlike (a b : GEdit) : Bool := !decide (a.obj.id = b.obj.id) && (decide (a.obj.x = b.obj.x) && decide (a.obj.y = b.obj.y)) && tagsEq a.obj.tags b.obj.tags
end Go.Proofs.YtedfihgkopejcaaGreat
end
section
set_option linter.unusedVariables false
set_option linter.unusedSimpArgs false
set_option maxRecDepth 100000
namespace Go.Proofs.YtedfihgkopejcaaGreat
open Go.Abs
theorem tagEq_iff (a b : GTag) : tagEq a b = true ↔ a = b := by
  cases a; cases b; simp [tagEq]
theorem tagsEq_ne : ∀ (a b : List GTag), a.length ≠ b.length → tagsEq a b = false
  | [], [], h => absurd rfl h
  | [], _ :: _, _ => rfl
  | _ :: _, [], _ => rfl
  | x :: a, y :: b, h => by rw [tagsEq, tagsEq_ne a b (by simpa using h)]; simp
theorem tagsEq_at : ∀ (a b : List GTag) (k : Nat) (x y : GTag), a[k]? = some x → b[k]? = some y → tagEq x y = false → tagsEq a b = false
  | [], _, k, x, y, h, _, _ => by simp at h
  | _ :: _, [], k, x, y, _, h, _ => by simp at h
  | u :: a, v :: b, 0, x, y, h1, h2, h => by cases h1; cases h2; rw [tagsEq, h]; rfl
  | u :: a, v :: b, k + 1, x, y, h1, h2, h => by rw [tagsEq, tagsEq_at a b k x y h1 h2 h]; simp
theorem tagsEq_all : ∀ (a b : List GTag), a.length = b.length → (∀ k, k < a.length → ∀ x y, a[k]? = some x → b[k]? = some y → tagEq x y = true) → tagsEq a b = true
  | [], [], _, _ => rfl
  | [], _ :: _, h, _ => by simp at h
  | _ :: _, [], h, _ => by simp at h
  | u :: a, v :: b, hl, h => by
    rw [tagsEq, h 0 (by simp) u v rfl rfl, tagsEq_all a b (by simpa using hl) (fun k hk x y h1 h2 => h (k + 1) (by simpa using hk) x y h1 h2)]; rfl
theorem equalTags_c (a b : List GTag) (H : Heap) (ha : a.length < 4611686018427387904) :
    ACalls Tryz.prog 92 [lv (a.map encTag), lv (b.map encTag)] H (fun r H' => r = bv (tagsEq a b) ∧ H' = H) := by
  refine ACalls.pure ?_ (by simp) H
  refine ACalls.body Tryz.func92 rfl Tryz.ntmps92 (Nat.le_of_ble_eq_true rfl) ?_
  refine awp_seq ?_
  refine awp_region ?_
  refine al_d rfl rfl rfl (by exact opd_assign rfl rfl) ?_
  refine al_nil ?_
  refine awp_seq ?_
  refine awp_seq ?_
  refine awp_region ?_
  refine al_d rfl rfl rfl (by exact opd_move rfl rfl) ?_
  refine al_d rfl rfl rfl (by exact (by exact opd_len_sl rfl Tryz.underlying28 rfl)) ?_
  refine al_d rfl rfl rfl (by exact opd_move rfl rfl) ?_
  refine al_d rfl rfl rfl (by exact (by exact opd_len_sl rfl Tryz.underlying28 rfl)) ?_
  refine al_d rfl rfl rfl (by exact opd_neq rfl rfl rfl) ?_
  refine al_nil ?_
  refine awp_cond rfl (fun hc1 => ?_) (fun hc1 => ?_)
  -- cond 1
  · have hne : a.length ≠ b.length := by simp at hc1; omega
    refine awp_seq ?_
    refine awp_region ?_
    refine al_d rfl rfl rfl (by exact opd_assign rfl rfl) ?_
    refine al_nil ?_
    refine awp_ret ?_
    -- return
    refine aret1 (H' := []) (by exact .inr rfl) rfl (rval_tmp rfl) (Fin.wk (by simp) trivial trivial) ?_
    exact ⟨by rw [tagsEq_ne a b hne], rfl⟩
  · have heq : a.length = b.length := by simp at hc1; omega
    refine awp_skip ?_
    refine awp_seq ?_
    refine awp_seq ?_
    refine awp_region ?_
    refine al_d rfl rfl rfl (by exact opd_move rfl rfl) ?_
    refine al_d rfl rfl rfl (by exact (by exact opd_len_sl rfl Tryz.underlying28 rfl)) ?_
    refine al_d rfl rfl rfl (by exact opd_move rfl rfl) ?_
    refine al_nil ?_
    refine awp_block ?_
    -- loop
    refine awp_loop (σ := Nat) (fun k => ([(0, lv (a.map encTag)), (1, lv (b.map encTag)), (12, iv (a.map encTag).length), (13, iv (k : Int))], [])) (fun k => k ≤ a.length ∧ ∀ j, j < k → ∀ x y, a[j]? = some x → b[j]? = some y → tagEq x y = true) (fun k => a.length - k) 0 ⟨by omega, by omega⟩ ?_ ?_
    · exact Ent.e0 ⟨⟨_, rfl, rfl⟩, ⟨_, rfl, rfl⟩, ⟨_, rfl, rfl⟩, ⟨_, rfl, rfl⟩, trivial⟩
    · rintro k ⟨hk, hall⟩
      refine awp_seq ?_
      refine awp_region ?_
      refine al_d rfl rfl rfl (by exact opd_lss rfl rfl rfl) ?_
      refine al_nil ?_
      refine awp_seq ?_
      refine awp_cond rfl (fun hc2 => ?_) (fun hc2 => ?_)
      -- cond 2
      · have hlt : k < a.length := by simpa using hc2
        obtain ⟨x, hx⟩ := get_of_lt hlt
        obtain ⟨y, hy⟩ := get_of_lt (l := b) (k := k) (by omega)
        have hi := map_get (f := encTag) hx
        have hi2 := map_get (f := encTag) hy
        refine awp_skip ?_
        refine awp_seq ?_
        refine awp_block ?_
        refine awp_seq ?_
        refine awp_region ?_
        refine al_d rfl rfl rfl (by exact opd_move rfl rfl) ?_
        refine al_d rfl rfl rfl (by exact opd_assign rfl rfl) ?_
        refine al_nil ?_
        refine awp_seq ?_
        refine awp_drawc follows ?_
        refine dc_cons (DStep.q rfl (by exact opd_move rfl rfl)) rfl ?_
        refine dc_cons (DStep.q rfl (by exact opd_move rfl rfl)) rfl ?_
        refine dc_cons (DStep.q rfl (by exact (by exact x_index_pad rfl so28 rfl rfl (by omega) (by exact Int.toNat_natCast _) (by assumption) rfl))) rfl ?_
        refine dc_cons (DStep.q rfl (by exact (by exact opd_loadn_pad rfl Tryz.isAgg81 Tryz.sizeOf81 rfl (by omega) (by simp only [List.drop_succ_cons, List.drop_zero, List.take_succ_cons, List.take_zero, List.take_nil, List.map_cons, List.map_nil, List.set_cons_zero, List.set_cons_succ, List.cons_append, List.nil_append, encTag, encObj, encEdit]; rfl) rfl))) rfl ?_
        refine dc_cons (DStep.q rfl (by exact opd_move rfl rfl)) rfl ?_
        refine dc_cons (DStep.q rfl (by exact opd_move rfl rfl)) rfl ?_
        refine dc_cons (DStep.q rfl (by exact (by exact x_index_pad rfl so28 rfl rfl (by omega) (by exact Int.toNat_natCast _) (by assumption) rfl))) rfl ?_
        refine dc_cons (DStep.q rfl (by exact (by exact opd_loadn_pad rfl Tryz.isAgg81 Tryz.sizeOf81 rfl (by omega) (by simp only [List.drop_succ_cons, List.drop_zero, List.take_succ_cons, List.take_zero, List.take_nil, List.map_cons, List.map_nil, List.set_cons_zero, List.set_cons_succ, List.cons_append, List.nil_append, encTag, encObj, encEdit]; rfl) rfl))) rfl ?_
        refine dc_cons (DStep.q rfl (by exact opd_aneq rfl rfl rfl rfl rfl Tryz.eqGuardType81 (se81 _ _ _ _))) rfl ?_
        refine dc_nil ⟨by kernel_rfl, ?_⟩
        refine awp_cond rfl (fun hc3 => ?_) (fun hc3 => ?_)
        -- cond 3
        · have ht : tagEq x y = false := by
            have h : (!tagEq x y) = true := hc3
            simpa using h
          refine awp_seq ?_
          refine awp_region ?_
          refine al_d rfl rfl rfl (by exact opd_assign rfl rfl) ?_
          refine al_nil ?_
          refine awp_ret ?_
          -- return
          refine aret1 (H' := []) (by exact .inr rfl) rfl (rval_tmp rfl) (Fin.wk (by simp) trivial trivial) ?_
          exact ⟨by rw [tagsEq_at a b k x y hx hy ht], rfl⟩
        · have ht : tagEq x y = true := by
            have h : (!tagEq x y) = false := hc3
            simpa using h
          refine awp_skip ?_
          refine awp_region ?_
          refine al_d rfl rfl rfl (by exact opd_add rfl rfl rfl (by exact w64 (by omega) (by omega))) ?_
          refine al_d rfl rfl rfl (by exact opd_move rfl rfl) ?_
          refine al_nil ?_
          -- end of a round
          refine ⟨k + 1, ⟨by omega, fun j hj x' y' h1 h2 => ?_⟩, by omega, Ent.e0 ⟨⟨_, rfl, rfl⟩, ⟨_, rfl, rfl⟩, ⟨_, rfl, rfl⟩, ⟨_, rfl, rfl⟩, trivial⟩⟩
          by_cases e : j = k
          · subst e; rw [hx] at h1; rw [hy] at h2; cases h1; cases h2; exact ht
          · exact hall j (by omega) x' y' h1 h2
      · have hge : k = a.length := by have : a.length ≤ k := by simpa using hc2
                                      omega
        subst hge
        refine awp_exit ?_
        refine awp_seq ?_
        refine awp_region ?_
        refine al_d rfl rfl rfl (by exact opd_assign rfl rfl) ?_
        refine al_nil ?_
        refine awp_ret ?_
        -- return
        refine aret1 (H' := []) (by exact .inr rfl) rfl (rval_tmp rfl) (Fin.wk (by simp) trivial trivial) ?_
        exact ⟨by rw [tagsEq_all a b heq hall], rfl⟩
end Go.Proofs.YtedfihgkopejcaaGreat
end
section
set_option linter.unusedVariables false
set_option linter.unusedSimpArgs false
set_option maxRecDepth 100000
namespace Go.Proofs.YtedfihgkopejcaaGreat
open Go.Abs
def kMany (k : Nat) : Int := match k with | 0 => 0 | 1 => 5 | 2 => 3 | 3 => 3 | _ => 4
def gShows (k : Nat) (m : List GObj) (e : GEdit) : Bool := match k with | 1 => gDropped m e | 2 => gBlanked m e | 3 => gMoved m e | _ => gPut e
def gTog (k : Nat) (a b : GEdit) : Bool := match k with | 4 => gAlike a b | _ => gOthers a b
/-- What is moderate. -/
def okTagsV (l : List GTag) : Prop := l.length < 4611686018427387904
def okMap (m : List GObj) : Prop := m.length < 4611686018427387904 ∧ ∀ o, o ∈ m → okTagsV o.tags
def okEdits (l : List GEdit) : Prop := l.length < 1099511627776 ∧ ∀ e, e ∈ l → okTagsV e.obj.tags
def gDrop (e : GEdit) : Bool := decide (e.op = 5)
def gAccLoop (k : Nat) (m : List GObj) (l : List GEdit) : List Int → List GEdit → Int → Bool
  | [], _, _ => true
  | i :: r, sh, last => if i ≤ last ∨ (l.length : Int) ≤ i then false else
      match l[i.toNat]? with
      | none => false
      | some y => gShows k m y && !(sh.any fun x => !gTog k x y) && gAccLoop k m l r (sh ++ [y]) i
def gAccept (m : List GObj) (l : List GEdit) (kind : Int) (idx : List Int) : Bool :=
  decide (1 ≤ kind) && decide (kind ≤ 4) && decide ((idx.length : Int) = kMany kind.toNat) && gAccLoop kind.toNat m l idx [] (-1) && (!decide (kind = 1) || decide ((l.length : Int) - (l.countP gDrop : Nat) < (l.countP gDrop : Nat)))
abbrev edRows (l : List GEdit) : List (List AV) := l.map (fun e => (encEdit e).map .pv)
end Go.Proofs.YtedfihgkopejcaaGreat
end
section
set_option linter.unusedVariables false
set_option linter.unusedSimpArgs false
set_option maxRecDepth 100000
namespace Go.Proofs.YtedfihgkopejcaaGreat
open Go.Abs
def longS (n : Int) (s : ByteArray) : Bool := decide (n < (s.size : Int))
def longT (n : Int) (t : GTag) : Bool := decide (n < IntKind.i64.wrap ((t.key.size : Int) + (t.val.size : Int)))
def bad13 (o : GObj) : Bool := (decide (12 < (o.refs.length : Int)) || decide (20 < (o.tags.length : Int)) || longS 60 o.id) || o.refs.any (longS 60) || o.tags.any (longT 300)
def few13 (m : List GObj) (n : Int) : Bool := !(decide (n < (m.length : Int))) && !(m.any bad13)
/-- Lengths that a loop can count. -/
def okObj (o : GObj) : Prop := o.refs.length < 4611686018427387904 ∧ o.tags.length < 4611686018427387904
def bad11 (o : GObj) (n : Int) : Bool := (longS 300 o.id || decide (n < (o.refs.length : Int)) || decide (65 < (o.tags.length : Int))) || o.refs.any (longS 300) || o.tags.any (longT 600)
theorem few11_c (o : GObj) (n : Int) (H : Heap) (hok : okObj o) :
    ACalls Tryz.prog 55 [av (encObj o), iv n] H (fun r H' => r = bv (!bad11 o n) ∧ H' = H) := by
  refine ACalls.pure ?_ (by simp) H
  have hrl : (o.refs.map encStr).length = o.refs.length := List.length_map _
  have htl : (o.tags.map encTag).length = o.tags.length := List.length_map _
  have h1 := hok.1
  have h2 := hok.2
  refine ACalls.body Tryz.func55 rfl Tryz.ntmps55 (Nat.le_of_ble_eq_true rfl) ?_
  refine awp_seq ?_
  refine awp_region ?_
  refine al_d rfl rfl rfl (by exact opd_box (id := 2) rfl rfl rfl rfl rfl) ?_
  refine al_d rfl rfl rfl (by exact opd_assign rfl rfl) ?_
  refine al_nil ?_
  refine awp_seq ?_
  refine awp_seq ?_
  refine awp_bool (t := 23) (n := 19) (X := longS 300 o.id || decide (n < ((o.refs.map encStr).length : Int)) || decide (65 < ((o.tags.map encTag).length : Int))) ?_ ?_
  · all_goals (refine al_d rfl rfl rfl (by exact (by exact opd_field_ref rfl fo30_0 rfl rfl rfl rfl)) ?_)
    all_goals (refine al_d rfl rfl rfl (by exact (by exact opd_load1_ref rfl Tryz.isAgg9 rfl rfl rfl rfl rfl)) ?_)
    all_goals (refine al_d rfl rfl rfl (by exact opd_len_str rfl Tryz.underlying9 rfl) ?_)
    all_goals (refine al_d rfl rfl rfl (by exact opd_gtr rfl rfl rfl) ?_)
    all_goals (refine al_d rfl rfl rfl (by exact opd_move rfl rfl) ?_)
    all_goals (refine al_split (t := 11) rfl (fun h11 => ?_) (fun h11 => ?_))
    all_goals (try contradiction)
    all_goals (first | refine al_off rfl rfl rfl rfl rfl ?_ | refine al_ond rfl rfl rfl rfl rfl rfl (by exact (by exact opd_field_ref rfl fo30_3 rfl rfl rfl rfl)) ?_)
    all_goals (first | refine al_off rfl rfl rfl rfl rfl ?_ | refine al_ond rfl rfl rfl rfl rfl rfl (by exact (by exact opd_load1_ref rfl Tryz.isAgg27 rfl rfl rfl rfl rfl)) ?_)
    all_goals (first | refine al_off rfl rfl rfl rfl rfl ?_ | refine al_ond rfl rfl rfl rfl rfl rfl (by exact (by exact opd_len_sl rfl Tryz.underlying27 rfl)) ?_)
    all_goals (first | refine al_off rfl rfl rfl rfl rfl ?_ | refine al_ond rfl rfl rfl rfl rfl rfl (by exact opd_move rfl rfl) ?_)
    all_goals (first | refine al_off rfl rfl rfl rfl rfl ?_ | refine al_ond rfl rfl rfl rfl rfl rfl (by exact opd_gtr rfl rfl rfl) ?_)
    all_goals (refine al_d rfl rfl rfl (by exact (by first | exact opd_pick_t rfl rfl rfl | exact opd_pick_f rfl rfl rfl)) ?_)
    all_goals (refine al_d rfl rfl rfl (by exact opd_move rfl rfl) ?_)
    all_goals (refine al_split (t := 18) rfl (fun h18 => ?_) (fun h18 => ?_))
    all_goals (try contradiction)
    all_goals (first | refine al_off rfl rfl rfl rfl rfl ?_ | refine al_ond rfl rfl rfl rfl rfl rfl (by exact (by exact opd_field_ref rfl fo30_4 rfl rfl rfl rfl)) ?_)
    all_goals (first | refine al_off rfl rfl rfl rfl rfl ?_ | refine al_ond rfl rfl rfl rfl rfl rfl (by exact (by exact opd_load1_ref rfl Tryz.isAgg28 rfl rfl rfl rfl rfl)) ?_)
    all_goals (first | refine al_off rfl rfl rfl rfl rfl ?_ | refine al_ond rfl rfl rfl rfl rfl rfl (by exact (by exact opd_len_sl rfl Tryz.underlying28 rfl)) ?_)
    all_goals (first | refine al_off rfl rfl rfl rfl rfl ?_ | refine al_ond rfl rfl rfl rfl rfl rfl (by exact opd_gtr rfl rfl rfl) ?_)
    all_goals (refine al_d rfl rfl rfl (by exact (by first | exact opd_pick_t rfl rfl rfl | exact opd_pick_f rfl rfl rfl)) ?_)
    all_goals (refine al_nil ?_)
    all_goals (exact ⟨⟨_, rfl, by first | (simp only [longS, *]; rfl) | (simp_all [longS]; done) | (simp_all [longS]; omega)⟩, rfl, rfl, rfl⟩)
  refine awp_cond rfl (fun hc1 => ?_) (fun hc1 => ?_)
  -- cond 1
  · rw [hrl, htl] at hc1
    refine awp_seq ?_
    refine awp_region ?_
    refine al_d rfl rfl rfl (by exact opd_assign rfl rfl) ?_
    refine al_nil ?_
    refine awp_ret ?_
    -- return
    refine aret1 (H' := []) (by exact .inr rfl) rfl (rval_tmp rfl) (Fin.wk (by simp) trivial trivial) ?_
    exact ⟨by rw [bad11, hc1]; rfl, rfl⟩
  · rw [hrl, htl] at hc1
    have hb1 : bad11 o n = (o.refs.any (longS 300) || o.tags.any (longT 600)) := by rw [bad11, hc1]; rfl
    refine awp_skip ?_
    refine awp_seq ?_
    refine awp_seq ?_
    refine awp_region ?_
    refine al_d rfl rfl rfl (by exact opd_assign rfl rfl) ?_
    refine al_nil ?_
    refine awp_block ?_
    -- loop
    refine awp_loop (σ := Nat) (fun q => ([(2, .ref 2 0 0 0), (5, iv (q : Int))], [(2, bx 6 30 ((encObj o).map .pv))])) (fun q => q ≤ o.refs.length ∧ ∀ j, j < q → ∀ b, o.refs[j]? = some b → longS 300 b = false) (fun q => o.refs.length - q) 0 ⟨by omega, by omega⟩ ?_ ?_
    · exact (Ent.wk ⟨⟨_, rfl, rfl⟩, (by (simp; rfl)), ⟨_, rfl, rfl⟩, (by (simp; done)), trivial⟩ ⟨⟨_, rfl, rfl⟩, (by (simp; done)), trivial⟩ trivial)
    · rintro q ⟨hq, hnr⟩
      refine awp_seq ?_
      refine awp_seq ?_
      refine awp_region ?_
      refine al_d rfl rfl rfl (by exact opd_move rfl rfl) ?_
      refine al_d rfl rfl rfl (by exact (by exact opd_field_ref rfl fo30_3 rfl rfl rfl rfl)) ?_
      refine al_d rfl rfl rfl (by exact (by exact opd_load1_ref rfl Tryz.isAgg27 rfl rfl rfl rfl rfl)) ?_
      refine al_d rfl rfl rfl (by exact (by exact opd_len_sl rfl Tryz.underlying27 rfl)) ?_
      refine al_d rfl rfl rfl (by exact opd_lss rfl rfl rfl) ?_
      refine al_nil ?_
      refine awp_cond rfl (fun hc2 => ?_) (fun hc2 => ?_)
      -- cond 2
      · have hlt2 : q < o.refs.length := by simpa using hc2
        obtain ⟨s, hs⟩ := get_of_lt hlt2
        have hse := map_get (f := encStr) hs
        refine awp_skip ?_
        refine awp_seq ?_
        refine awp_block ?_
        refine awp_seq ?_
        refine awp_region ?_
        refine al_d rfl rfl rfl (by exact (by exact opd_field_ref rfl fo30_3 rfl rfl rfl rfl)) ?_
        refine al_d rfl rfl rfl (by exact (by exact opd_load1_ref rfl Tryz.isAgg27 rfl rfl rfl rfl rfl)) ?_
        refine al_d rfl rfl rfl (by exact opd_move rfl rfl) ?_
        refine al_d rfl rfl rfl (by exact (by exact x_index_pad rfl so27 rfl rfl (by omega) (by exact Int.toNat_natCast _) (by assumption) rfl)) ?_
        refine al_d rfl rfl rfl (by exact (by exact opd_load1_pad rfl Tryz.isAgg9 rfl (by omega) rfl)) ?_
        refine al_d rfl rfl rfl (by exact opd_len_str rfl Tryz.underlying9 rfl) ?_
        refine al_d rfl rfl rfl (by exact opd_gtr rfl rfl rfl) ?_
        refine al_nil ?_
        refine awp_cond rfl (fun hc3 => ?_) (fun hc3 => ?_)
        -- cond 3
        · have hbad : bad11 o n = true := by rw [hb1, any_some hs hc3]; rfl
          refine awp_seq ?_
          refine awp_region ?_
          refine al_d rfl rfl rfl (by exact opd_assign rfl rfl) ?_
          refine al_nil ?_
          refine awp_ret ?_
          -- return
          refine aret1 (H' := []) (by exact .inr rfl) rfl (rval_tmp rfl) (Fin.wk (by simp) trivial trivial) ?_
          exact ⟨by rw [hbad]; rfl, rfl⟩
        · skip
          refine awp_skip ?_
          refine awp_region ?_
          refine al_d rfl rfl rfl (by exact opd_move rfl rfl) ?_
          refine al_d rfl rfl rfl (by exact opd_add rfl rfl rfl (by exact w64 (by omega) (by omega))) ?_
          refine al_d rfl rfl rfl (by exact opd_assign rfl rfl) ?_
          refine al_nil ?_
          -- end of a round
          exact ⟨q + 1, ⟨by omega, pre_succ hnr hs hc3⟩, by omega, (Ent.wk ⟨⟨_, rfl, rfl⟩, (by (simp; rfl)), ⟨_, rfl, rfl⟩, (by (simp; done)), trivial⟩ ⟨⟨_, rfl, rfl⟩, (by (simp; done)), trivial⟩ trivial)⟩
      · have hge : q = o.refs.length := by
          have : o.refs.length ≤ q := by simpa using hc2
          omega
        subst hge
        rw [any_none hnr, Bool.false_or] at hb1
        refine awp_exit ?_
        refine awp_seq ?_
        refine awp_seq ?_
        refine awp_region ?_
        refine al_d rfl rfl rfl (by exact opd_assign rfl rfl) ?_
        refine al_nil ?_
        refine awp_block ?_
        -- loop
        refine awp_loop (σ := Nat) (fun q => ([(2, .ref 2 0 0 0), (6, iv (q : Int))], [(2, bx 6 30 ((encObj o).map .pv))])) (fun q => q ≤ o.tags.length ∧ ∀ j, j < q → ∀ b, o.tags[j]? = some b → longT 600 b = false) (fun q => o.tags.length - q) 0 ⟨by omega, by omega⟩ ?_ ?_
        · exact (Ent.wk ⟨⟨_, rfl, rfl⟩, (by (simp; rfl)), ⟨_, rfl, rfl⟩, (by (simp; done)), trivial⟩ ⟨⟨_, rfl, rfl⟩, (by (simp; done)), trivial⟩ trivial)
        · rintro q ⟨hq, hnt⟩
          refine awp_seq ?_
          refine awp_seq ?_
          refine awp_region ?_
          refine al_d rfl rfl rfl (by exact opd_move rfl rfl) ?_
          refine al_d rfl rfl rfl (by exact (by exact opd_field_ref rfl fo30_4 rfl rfl rfl rfl)) ?_
          refine al_d rfl rfl rfl (by exact (by exact opd_load1_ref rfl Tryz.isAgg28 rfl rfl rfl rfl rfl)) ?_
          refine al_d rfl rfl rfl (by exact (by exact opd_len_sl rfl Tryz.underlying28 rfl)) ?_
          refine al_d rfl rfl rfl (by exact opd_lss rfl rfl rfl) ?_
          refine al_nil ?_
          refine awp_cond rfl (fun hc4 => ?_) (fun hc4 => ?_)
          -- cond 4
          · have hlt2 : q < o.tags.length := by simpa using hc4
            obtain ⟨s, hs⟩ := get_of_lt hlt2
            have hse := map_get (f := encTag) hs
            refine awp_skip ?_
            refine awp_seq ?_
            refine awp_block ?_
            refine awp_seq ?_
            refine awp_drawc follows ?_
            refine dc_cons (DStep.q rfl (by exact (by exact opd_field_ref rfl fo30_4 rfl rfl rfl rfl))) rfl ?_
            refine dc_cons (DStep.q rfl (by exact (by exact opd_load1_ref rfl Tryz.isAgg28 rfl rfl rfl rfl rfl))) rfl ?_
            refine dc_cons (DStep.q rfl (by exact opd_move rfl rfl)) rfl ?_
            refine dc_cons (DStep.q rfl (by exact (by exact x_index_pad rfl so28 rfl rfl (by omega) (by exact Int.toNat_natCast _) (by assumption) rfl))) rfl ?_
            refine dc_cons (DStep.q rfl (by exact (by exact opd_field_pad rfl fo81_0 rfl rfl))) rfl ?_
            refine dc_cons (DStep.q rfl (by exact (by exact opd_load1_pad rfl Tryz.isAgg9 rfl (by omega) rfl))) rfl ?_
            refine dc_cons (DStep.q rfl (by exact opd_len_str rfl Tryz.underlying9 rfl)) rfl ?_
            refine dc_cons (DStep.q rfl (by exact (by exact opd_field_ref rfl fo30_4 rfl rfl rfl rfl))) rfl ?_
            refine dc_cons (DStep.q rfl (by exact (by exact opd_load1_ref rfl Tryz.isAgg28 rfl rfl rfl rfl rfl))) rfl ?_
            refine dc_cons (DStep.q rfl (by exact opd_move rfl rfl)) rfl ?_
            refine dc_cons (DStep.q rfl (by exact (by exact x_index_pad rfl so28 rfl rfl (by omega) (by exact Int.toNat_natCast _) (by assumption) rfl))) rfl ?_
            refine dc_cons (DStep.q rfl (by exact (by exact opd_field_pad rfl fo81_1 rfl rfl))) rfl ?_
            refine dc_cons (DStep.q rfl (by exact (by exact opd_load1_pad rfl Tryz.isAgg9 rfl (by omega) rfl))) rfl ?_
            refine dc_cons (DStep.q rfl (by exact opd_len_str rfl Tryz.underlying9 rfl)) rfl ?_
            refine dc_cons (DStep.q rfl (by exact opd_add rfl rfl rfl rfl)) rfl ?_
            refine dc_cons (DStep.q rfl (by exact opd_gtr rfl rfl rfl)) rfl ?_
            refine dc_nil ⟨by kernel_rfl, ?_⟩
            refine awp_cond rfl (fun hc5 => ?_) (fun hc5 => ?_)
            -- cond 5
            · have hbad : bad11 o n = true := by rw [hb1, any_some hs hc5]
              refine awp_seq ?_
              refine awp_region ?_
              refine al_d rfl rfl rfl (by exact opd_assign rfl rfl) ?_
              refine al_nil ?_
              refine awp_ret ?_
              -- return
              refine aret1 (H' := []) (by exact .inr rfl) rfl (rval_tmp rfl) (Fin.wk (by simp) trivial trivial) ?_
              exact ⟨by rw [hbad]; rfl, rfl⟩
            · skip
              refine awp_skip ?_
              refine awp_region ?_
              refine al_d rfl rfl rfl (by exact opd_move rfl rfl) ?_
              refine al_d rfl rfl rfl (by exact opd_add rfl rfl rfl (by exact w64 (by omega) (by omega))) ?_
              refine al_d rfl rfl rfl (by exact opd_assign rfl rfl) ?_
              refine al_nil ?_
              -- end of a round
              exact ⟨q + 1, ⟨by omega, pre_succ hnt hs hc5⟩, by omega, (Ent.wk ⟨⟨_, rfl, rfl⟩, (by (simp; rfl)), ⟨_, rfl, rfl⟩, (by (simp; done)), trivial⟩ ⟨⟨_, rfl, rfl⟩, (by (simp; done)), trivial⟩ trivial)⟩
          · have hge : q = o.tags.length := by
              have : o.tags.length ≤ q := by simpa using hc4
              omega
            subst hge
            have hgood : bad11 o n = false := by rw [hb1, any_none hnt]
            refine awp_exit ?_
            refine awp_seq ?_
            refine awp_region ?_
            refine al_d rfl rfl rfl (by exact opd_assign rfl rfl) ?_
            refine al_nil ?_
            refine awp_ret ?_
            -- return
            refine aret1 (H' := []) (by exact .inr rfl) rfl (rval_tmp rfl) (Fin.wk (by simp) trivial trivial) ?_
            exact ⟨by rw [hgood]; rfl, rfl⟩
def bad22 (e : GEdit) : Bool := (longS 300 e.id || longS 300 e.other || longS 300 e.node || longS 300 e.key || longS 300 e.val || decide (20 < (e.refs.length : Int)) || bad11 e.obj 20 || decide (20 < (e.obj.tags.length : Int))) || e.refs.any (longS 300)
def few22 (l : List GEdit) (n : Int) : Bool := !(decide (n < (l.length : Int))) && !(l.any bad22)
def okEdit (e : GEdit) : Prop := e.refs.length < 4611686018427387904 ∧ okObj e.obj
def gFew (m : List GObj) (l : List GEdit) (idx : List Int) : Bool := few13 m 40 && few22 l 40 && decide ((idx.length : Int) ≤ 10)
end Go.Proofs.YtedfihgkopejcaaGreat
end
section
set_option linter.unusedVariables false
set_option linter.unusedSimpArgs false
namespace Go.Abs
theorem Clo.up {H H' : Heap} (hs : ∀ i, (H.get i).isSome = true → (H'.get i).isSome = true) {a : AV} (h : Clo H a) : Clo H' a := by
  induction h with
  | any => exact .any
  | pv p => exact .pv p
  | pad rows i k => exact .pad rows i k
  | ref h => exact .ref (hs _ h)
  | osl h => exact .osl (hs _ h)
  | clo h ih => exact .clo ih
  | agg h ih => exact .agg ih
  | tup h ih => exact .tup ih
  | mp h => exact .mp (hs _ h)
  | it h => exact .it (hs _ h)
  | yld h => exact .yld (hs _ h)
  | raw x ts => exact .raw x ts
  | osc h => exact .osc (hs _ h)
theorem Clo.app {D K : Heap} {a : AV} (h : Clo K a) : Clo (D ++ K) a := h.up fun i hi => by
  rw [hget_app]
  cases D.get i with
  | none => exact hi
  | some o => rfl
theorem Closed.app {D K : Heap} (h3 : ∀ p ∈ D, ∀ r ∈ p.2.rows, ∀ a ∈ r, Clo (D ++ K) a) (h4 : Closed K) : Closed (D ++ K) := by
  intro id o ho
  rw [hget_app] at ho
  cases e : D.get id with
  | some x =>
    rw [e] at ho
    cases ho
    exact h3 _ (mem_of_hget e)
  | none =>
    rw [e] at ho
    exact fun r hr a ha => (h4 id o ho r hr a ha).app
theorem Sub.front {D D' K : Heap} (h1 : ∀ p ∈ D, K.get p.1 = none) (h2 : ∀ p ∈ D', D.get p.1 = some p.2) : Sub (D' ++ K) (D ++ K) := by
  intro id o ho
  rw [hget_app] at ho ⊢
  cases e : D'.get id with
  | some x =>
    rw [e] at ho
    cases ho
    rw [h2 _ (mem_of_hget e)]
  | none =>
    rw [e] at ho
    cases e2 : D.get id with
    | none => exact ho
    | some x =>
      have := h1 _ (mem_of_hget e2)
      rw [this] at ho; cases ho
theorem Kept.front {G0 D D' K : Heap} (h2 : ∀ p ∈ D', D.get p.1 = some p.2) (h5 : ∀ p ∈ D, G0.get p.1 = none) : Kept G0 (D' ++ K) (D ++ K) := by
  intro id hi
  have hD : D.get id = none := by
    cases e : D.get id with
    | none => rfl
    | some x =>
      have := h5 _ (mem_of_hget e)
      rw [this] at hi; cases hi
  have hD' : D'.get id = none := by
    cases e : D'.get id with
    | none => rfl
    | some x =>
      have := h2 _ (mem_of_hget e)
      rw [hD] at this; cases this
  rw [hget_app, hget_app, hD, hD']
/-- Objects in front are dropped, the others stay. -/
theorem Ent.front {G0 : Heap} {E E' : Env} {K : Heap} (D D' : Heap) (hE : EOk E (D' ++ K) E') (h1 : ∀ p ∈ D, K.get p.1 = none) (h2 : ∀ p ∈ D', D.get p.1 = some p.2) (h3 : ∀ p ∈ D', ∀ r ∈ p.2.rows, ∀ a ∈ r, Clo (D' ++ K) a) (h4 : Closed K)
    (h5 : ∀ p ∈ D, G0.get p.1 = none) : Ent G0 E (D ++ K) E' (D' ++ K) := by
  intro G hG N a w hs
  obtain ⟨I, ι, hr, hst, he⟩ := hs.rel
  subst hG
  have hsub := Sub.front h1 h2
  refine ⟨hs.defers, hs.size, I, ι, hr.restrict hsub (Closed.app h3 h4), hst.restrict hsub (Kept.front h2 h5), fun t v ht => ?_⟩
  obtain ⟨k1, k2⟩ := hE.spec _ (mem_of_get ht)
  obtain ⟨c, hc, hv⟩ := he t v k1
  exact ⟨c, hc, hv.restrict hsub k2⟩
section
variable {F : Fence} {n : Nat} {P : Program} {b : Frame} {a : Act} {k : List Item} {cs : List Frame} {w : World} {Q : Exit → Act → World → Prop}
end
/-- A scope of labels into which nothing jumps. -/
def ANoGoto (Q : Exit → Env → Heap → Prop) : Exit → Env → Heap → Prop
  | .goto _, _, _ => False
  | e, E, H => Q e E H
/-- A region with tests, which writes: its ways join. -/
theorem awp_mergeW {P : Program} {G0 : Heap} {N : Nat} {E : Env} {H H2 : Heap} {ops : Array Oper} {id n t : Nat} {d : Bool} {X : Bool} {Q : Exit → Env → Heap → Prop} (h : AWp P G0 N (.region id ops d) (fun e E1 H1 => e = .normal ∧ Merge n t X E H2 E1 H1) E H) (hk : Q .normal ((t, .pv (.bool X)) :: E) H2) : AWp P G0 N (.region id ops d) Q E H := by
  intro G hG a w hs ro hr
  refine wpIn_mono (h G hG a w hs ro hr) ?_
  rintro e a' w' ⟨E1, H1, ⟨rfl, hm⟩, hs'⟩
  exact ⟨_, _, hk, (hm.ent (G0 := G0)) G hG N a' w' hs'⟩
/-- Each object's cells lead into the heap. -/
def ClosedL (H : Heap) : Heap → Prop
  | [] => True
  | (_, o) :: r => (∀ r ∈ o.rows, ∀ a ∈ r, Clo H a) ∧ ClosedL H r
theorem ClosedL.spec {H : Heap} : ∀ {L : Heap}, ClosedL H L → ∀ p ∈ L, ∀ r ∈ p.2.rows, ∀ a ∈ r, Clo H a
  | (i, o) :: L, h, p, hp => by
    rcases List.mem_cons.1 hp with rfl | hp
    · exact h.1
    · exact ClosedL.spec h.2 p hp
theorem Closed.ofL {H : Heap} (h : ClosedL H H) : Closed H := fun _ _ ho => h.spec _ (mem_of_hget ho)
/-- Names of objects of a front. -/
def lo (D : Heap) (n : Nat) : Prop := ∀ p ∈ D, 900 ≤ p.1 ∧ p.1 < n
/-- No names of fronts are in a heap. -/
def clear (K : Heap) : Prop := ∀ i, 900 ≤ i → i < 1000 → K.get i = none
/-- A returned value and the heap in another writing. -/
theorem Fin.of_ent {G0 H H' : Heap} {r r' : AV} (h : Ent G0 [(0, r)] H [(0, r')] H') : Fin G0 H r H' r' := by
  intro G hG I ι w v h1 h2 h3
  obtain ⟨_, _, I', ι', k1, k2, k3⟩ := h G hG 1 ⟨#[v], []⟩ w ⟨Marks.nil _ _, rfl, I, ι, h1, h2, fun t x hx => by
    simp only [Env.get] at hx
    cases e : Nat.beq 0 t with
    | true => rw [e] at hx; cases hx; rw [← Nat.eq_of_beq_eq_true e]; exact ⟨v, rfl, h3⟩
    | false => rw [e] at hx; cases hx⟩
  obtain ⟨c, hc, hv⟩ := k3 0 r' rfl
  cases hc
  exact ⟨I', ι', k1, k2, hv⟩
/-- What stands in front in both forms, or not behind. -/
theorem Sub.front' {D D' K : Heap} (h1 : ∀ p ∈ D, (D'.get p.1).isSome = true ∨ K.get p.1 = none) (h2 : ∀ p ∈ D', D.get p.1 = some p.2) : Sub (D' ++ K) (D ++ K) := by
  intro id o ho
  rw [hget_app] at ho ⊢
  cases e : D'.get id with
  | some x =>
    rw [e] at ho
    cases ho
    rw [h2 _ (mem_of_hget e)]
  | none =>
    rw [e] at ho
    cases e2 : D.get id with
    | none => exact ho
    | some x =>
      rcases h1 _ (mem_of_hget e2) with h | h
      · simp only [e] at h; cases h
      · rw [h] at ho; cases ho
theorem Kept.front' {G0 D D' K : Heap} (h2 : ∀ p ∈ D', D.get p.1 = some p.2) (h5 : ∀ p ∈ D, (D'.get p.1).isSome = true ∨ G0.get p.1 = none) : Kept G0 (D' ++ K) (D ++ K) := by
  intro id hi
  rw [hget_app, hget_app]
  cases e : D'.get id with
  | some x => rw [h2 _ (mem_of_hget e)]
  | none =>
    cases e2 : D.get id with
    | none => rfl
    | some x =>
      rcases h5 _ (mem_of_hget e2) with h | h
      · simp only [e] at h; cases h
      · rw [h] at hi; cases hi
theorem Fin.front' {G0 K : Heap} {r : AV} (D D' : Heap) (hr : Clo (D' ++ K) r) (h1 : ∀ p ∈ D, (D'.get p.1).isSome = true ∨ K.get p.1 = none) (h2 : ∀ p ∈ D', D.get p.1 = some p.2) (h3 : ∀ p ∈ D', ∀ r ∈ p.2.rows, ∀ a ∈ r, Clo (D' ++ K) a) (h4 : Closed K)
    (h5 : ∀ p ∈ D, (D'.get p.1).isSome = true ∨ G0.get p.1 = none) : Fin G0 (D ++ K) r (D' ++ K) r := by
  intro G hG I ι w v k1 k2 k3
  subst hG
  have hsub := Sub.front' h1 h2
  exact ⟨I, ι, k1.restrict hsub (Closed.app h3 h4), k2.restrict hsub (Kept.front' h2 h5), k3.restrict hsub hr⟩
theorem Fin.get' {G0 H H' : Heap} {r : AV} (hH : ∀ j, H'.get j = H.get j) : Fin G0 H r H' r := Fin.of_ent (Ent.get' ⟨⟨_, rfl, rfl⟩, trivial⟩ hH)
end Go.Abs
end
section
set_option linter.unusedVariables false
set_option linter.unusedSimpArgs false
set_option maxRecDepth 100000
namespace Go.Proofs.YtedfihgkopejcaaGreat
open Go.Abs

/-- The kinds of a map's objects, by Ids. -/
def kM (l : List GObj) : List (ByteArray × AV) := l.map fun o => (o.id, iv o.kind)
abbrev kob (l : List GObj) : Ob := ⟨0, 0, (kM l).length, mrows strK (kM l)⟩
theorem kob_clo (l : List GObj) (H : Heap) : ∀ r ∈ (kob l).rows, ∀ a ∈ r, Clo H a := by
  intro r hr a ha
  obtain ⟨i, hi⟩ := List.mem_iff_getElem?.1 hr
  obtain ⟨p, hp, rfl⟩ := mrows_get.1 hi
  simp only [kM, List.getElem?_map] at hp
  obtain ⟨q, _, rfl⟩ := Option.map_eq_some_iff.1 hp
  simp only [List.mem_cons, List.not_mem_nil, or_false] at ha
  rcases ha with rfl | rfl | rfl <;> simp
theorem kM_get : ∀ (l : List GObj) (s : ByteArray), mget (kM l) s = (l.find? (idIs s)).map (fun o => iv o.kind)
  | [], s => rfl
  | o :: l, s => by
    have ih := kM_get l s
    rw [kM, List.map_cons, mget, List.find?_cons]
    by_cases e : o.id = s
    · rw [if_pos e, show idIs s o = true from decide_eq_true e]; rfl
    · rw [if_neg e, show idIs s o = false from decide_eq_false e]; exact ih
theorem mput_new : ∀ {l : List (ByteArray × AV)} {k : ByteArray} (v : AV), mget l k = none → mput l k v = l ++ [(k, v)]
  | [], k, v, _ => rfl
  | (k', a) :: l, k, v, h => by
    rw [mget] at h
    split at h
    · cases h
    · next e => rw [mput, if_neg e, mput_new v h]; rfl
theorem kM_put {m : List GObj} {k : Nat} {o : GObj} (hu : ups m) (ho : m[k]? = some o) : mput (kM (m.take k)) o.id (iv o.kind) = kM (m.take (k + 1)) := by
  have hn : mget (kM (m.take k)) o.id = none := by
    rw [kM_get, Option.map_eq_none_iff, List.find?_eq_none]
    intro a ha he
    have he := of_decide_eq_true he
    obtain ⟨j, hj⟩ := List.mem_iff_getElem?.1 ha
    have hjk : j < k := by
      have := (List.getElem?_eq_some_iff.1 hj).1
      rw [List.length_take] at this
      omega
    rw [List.getElem?_take_of_lt hjk] at hj
    obtain ⟨jl, je⟩ := List.getElem?_eq_some_iff.1 hj
    obtain ⟨kl, ke⟩ := List.getElem?_eq_some_iff.1 ho
    rw [ups, List.pairwise_iff_getElem] at hu
    have := hu j k jl kl hjk
    rw [je, ke, he, slt_irr] at this
    cases this
  rw [mput_new _ hn, kM, kM, List.take_add_one, ho, List.map_append]
  rfl
def gWanted (kind i : Int) : Int := if (decide (kind = 4) || (decide (kind = 5) && !decide (i = 1))) then 2 else 1
theorem wanted_c (kind i : Int) (H : Heap) : ACalls Tryz.prog 104 [iv kind, iv i] H (fun r H' => r = iv (gWanted kind i) ∧ H' = H) := by
  refine ACalls.pure ?_ (by simp) H
  refine ACalls.body Tryz.func104 rfl Tryz.ntmps104 (Nat.le_of_ble_eq_true rfl) ?_
  refine awp_seq ?_
  refine awp_region ?_
  refine al_d rfl rfl rfl (by exact opd_assign rfl rfl) ?_
  refine al_nil ?_
  refine awp_seq ?_
  refine awp_seq ?_
  refine awp_bool (t := 14) (n := 12) (X := decide (kind = 4) || (decide (kind = 5) && !decide (i = 1))) ?_ ?_
  · all_goals (refine al_d rfl rfl rfl (by exact opd_move rfl rfl) ?_)
    all_goals (refine al_d rfl rfl rfl (by exact opd_eql rfl rfl rfl) ?_)
    all_goals (refine al_d rfl rfl rfl (by exact opd_move rfl rfl) ?_)
    all_goals (refine al_split (t := 7) rfl (fun h7 => ?_) (fun h7 => ?_))
    all_goals (try contradiction)
    all_goals (first | refine al_off rfl rfl rfl rfl rfl ?_ | refine al_ond rfl rfl rfl rfl rfl rfl (by exact opd_move rfl rfl) ?_)
    all_goals (first | refine al_off rfl rfl rfl rfl rfl ?_ | refine al_ond rfl rfl rfl rfl rfl rfl (by exact opd_eql rfl rfl rfl) ?_)
    all_goals (first | refine al_off rfl rfl rfl rfl rfl ?_ | refine al_ond rfl rfl rfl rfl rfl rfl (by exact opd_move rfl rfl) ?_)
    all_goals (first | refine al_split (t := 10) rfl (fun h10 => ?_) (fun h10 => ?_) | refine al_dup (t := 10) rfl ?_)
    all_goals (try contradiction)
    all_goals (first | refine al_off rfl rfl rfl rfl rfl ?_ | refine al_offu rfl rfl rfl rfl ?_ | refine al_ond rfl rfl rfl rfl rfl rfl (by exact opd_move rfl rfl) ?_)
    all_goals (first | refine al_off rfl rfl rfl rfl rfl ?_ | refine al_offu rfl rfl rfl rfl ?_ | refine al_ond rfl rfl rfl rfl rfl rfl (by exact opd_neq rfl rfl rfl) ?_)
    all_goals (first | refine al_off rfl rfl rfl rfl rfl ?_ | refine al_ond rfl rfl rfl rfl rfl rfl (by exact (by first | exact opd_pick_t rfl rfl rfl | exact opd_pick_f rfl rfl rfl)) ?_)
    all_goals (refine al_d rfl rfl rfl (by exact (by first | exact opd_pick_t rfl rfl rfl | exact opd_pick_f rfl rfl rfl)) ?_)
    all_goals (refine al_nil ?_)
    all_goals (exact ⟨⟨_, rfl, by (simp only [*, Bool.false_and, Bool.true_and, Bool.and_false, Bool.and_true, Bool.true_or, Bool.false_or, Bool.or_true, Bool.or_false, Bool.not_true, Bool.not_false]; done)⟩, rfl, rfl, rfl⟩)
  refine awp_cond rfl (fun hc1 => ?_) (fun hc1 => ?_)
  -- cond 1
  · skip
    refine awp_seq ?_
    refine awp_region ?_
    refine al_d rfl rfl rfl (by exact opd_assign rfl rfl) ?_
    refine al_nil ?_
    refine awp_ret ?_
    -- return
    refine aret1 (H' := []) (by exact .inr rfl) rfl (rval_tmp rfl) (Fin.wk (by simp) trivial trivial) ?_
    exact ⟨by rw [gWanted, if_pos hc1], rfl⟩
  · skip
    refine awp_skip ?_
    refine awp_seq ?_
    refine awp_region ?_
    refine al_d rfl rfl rfl (by exact opd_assign rfl rfl) ?_
    refine al_nil ?_
    refine awp_ret ?_
    -- return
    refine aret1 (H' := []) (by exact .inr rfl) rfl (rval_tmp rfl) (Fin.wk (by simp) trivial trivial) ?_
    exact ⟨by rw [gWanted, hc1]; rfl, rfl⟩
def kindOf (m : List GObj) (s : ByteArray) : Option Int := (m.find? (idIs s)).map (·.kind)
def refBad (m : List GObj) (kind : Int) (i : Nat) (s : ByteArray) : Int := match kindOf m s with
  | none => 14
  | some k => if k = gWanted kind (i : Int) then 0 else 13
def refErr (m : List GObj) (kind : Int) : Nat → List ByteArray → Int
  | _, [] => 0
  | i, s :: r => if refBad m kind i s = 0 then refErr m kind (i + 1) r else refBad m kind i s
theorem kM_kind (m : List GObj) (s : ByteArray) : mget (kM m) s = (kindOf m s).map iv := by
  rw [kM_get, kindOf, Option.map_map]; rfl
abbrev cRow (m : List GObj) : Ob := bx 2 91 [.pv (slObjs m), .mp 12 0]
theorem refs_c (m : List GObj) (o : GObj) (H : Heap) (h14 : H.get 14 = some (cRow m)) (h12 : H.get 12 = some (kob m)) (h63 : H.get 963 = none) (hc : Closed H) (hl : o.refs.length < 4611686018427387904) :
    ACalls Tryz.prog 59 [.ref 14 0 0 0, av (encObj o)] H (fun r H' => r = iv (refErr m o.kind 0 o.refs) ∧ H' = H) := by
  have hrl : (o.refs.map encStr).length = o.refs.length := List.length_map _
  have h14' : Heap.get ((963, bx 6 30 ((encObj o).map .pv)) :: H) 14 = some (cRow m) := h14
  have h12' : Heap.get ((963, bx 6 30 ((encObj o).map .pv)) :: H) 12 = some (kob m) := h12
  refine ACalls.body Tryz.func59 rfl Tryz.ntmps59 (Nat.le_of_ble_eq_true rfl) ?_
  refine awp_seq ?_
  refine awp_region ?_
  refine al_d rfl rfl rfl (by exact opd_box (id := 963) rfl rfl rfl rfl h63) ?_
  refine al_d rfl rfl rfl (by exact opd_assign rfl rfl) ?_
  refine al_nil ?_
  refine awp_seq ?_
  refine awp_seq ?_
  refine awp_region ?_
  refine al_d rfl rfl rfl (by exact (by exact opd_field_ref rfl fo30_3 rfl rfl rfl rfl)) ?_
  refine al_d rfl rfl rfl (by exact (by exact opd_load1_ref rfl Tryz.isAgg27 rfl rfl rfl rfl rfl)) ?_
  refine al_d rfl rfl rfl (by exact (by exact opd_len_sl rfl Tryz.underlying27 rfl)) ?_
  refine al_d rfl rfl rfl (by exact opd_move rfl rfl) ?_
  refine al_nil ?_
  refine awp_block ?_
  -- loop
  refine awp_loop (σ := Nat) (fun k => ([(0, .ref 14 0 0 0), (3, .ref 963 0 0 0), (10, .pv (slStrs o.refs)), (11, iv ((o.refs.map encStr).length : Int)), (12, iv (k : Int))], (963, bx 6 30 ((encObj o).map .pv)) :: H)) (fun k => k ≤ o.refs.length ∧ refErr m o.kind 0 o.refs = refErr m o.kind k (o.refs.drop k)) (fun k => o.refs.length - k) 0 ⟨by omega, rfl⟩ ?_ ?_
  · exact Ent.e0 ⟨⟨_, rfl, rfl⟩, ⟨_, rfl, rfl⟩, ⟨_, rfl, rfl⟩, ⟨_, rfl, rfl⟩, ⟨_, rfl, rfl⟩, trivial⟩
  · rintro k ⟨hk, hinv⟩
    refine awp_seq ?_
    refine awp_region ?_
    refine al_d rfl rfl rfl (by exact opd_lss rfl rfl rfl) ?_
    refine al_nil ?_
    refine awp_seq ?_
    refine awp_cond rfl (fun hc1 => ?_) (fun hc1 => ?_)
    -- cond 1
    · have hlt : k < o.refs.length := by have := of_decide_eq_true hc1; omega
      obtain ⟨s, hs⟩ := get_of_lt hlt
      have hi := map_get (f := encStr) hs
      have hdr : o.refs.drop k = s :: o.refs.drop (k + 1) := by
        obtain ⟨hl1, he1⟩ := List.getElem?_eq_some_iff.1 hs
        rw [List.drop_eq_getElem_cons hl1, he1]
      rw [hdr, refErr] at hinv
      refine awp_skip ?_
      refine awp_seq ?_
      refine awp_block ?_
      refine awp_seq ?_
      refine awp_region ?_
      refine al_d rfl rfl rfl (by exact opd_move rfl rfl) ?_
      refine al_d rfl rfl rfl (by exact (by exact x_index_pad rfl so27 rfl rfl (by omega) (by exact Int.toNat_natCast _) (by assumption) rfl)) ?_
      refine al_d rfl rfl rfl (by exact (by exact opd_load1_pad rfl Tryz.isAgg9 rfl (by omega) rfl)) ?_
      refine al_d rfl rfl rfl (by exact opd_assign rfl rfl) ?_
      refine al_d rfl rfl rfl (by exact opd_assign rfl rfl) ?_
      refine al_nil ?_
      refine awp_seq ?_
      refine awp_region ?_
      refine al_d rfl rfl rfl (by exact opd_move rfl rfl) ?_
      refine al_d rfl rfl rfl (by exact (by exact opd_nilCheck_ref rfl rfl h14' rfl)) ?_
      refine al_d rfl rfl rfl (by exact (by exact opd_field_ref rfl fo91_1 rfl h14' rfl rfl)) ?_
      refine al_d rfl rfl rfl (by exact (by exact opd_load1_ref rfl Tryz.isAgg89 rfl h14' rfl rfl rfl)) ?_
      refine al_d rfl rfl rfl (by exact opd_move rfl rfl) ?_
      refine al_d rfl rfl rfl (by exact opd_lookup_ok (κ := strK) rfl Tryz.underlying89 Tryz.underlying9 rfl h12' rfl rfl rfl Tryz.zeroValue3 (.inl rfl)) ?_
      refine al_d rfl rfl rfl (by exact opd_move rfl rfl) ?_
      refine al_d rfl rfl rfl (by exact opd_extract rfl rfl rfl) ?_
      refine al_d rfl rfl rfl (by exact opd_extract rfl rfl rfl) ?_
      refine al_d rfl rfl rfl (by exact opd_assign rfl rfl) ?_
      refine al_d rfl rfl rfl (by exact opd_assign rfl rfl) ?_
      refine al_nil ?_
      refine awp_block ?_
      refine awp_seq ?_
      refine awp_region ?_
      refine al_d rfl rfl rfl (by exact opd_move rfl rfl) ?_
      refine al_d rfl rfl rfl (by exact opd_not rfl rfl) ?_
      refine al_d rfl rfl rfl (by exact opd_assign rfl rfl) ?_
      refine al_nil ?_
      refine awp_cond rfl (fun hc2 => ?_) (fun hc2 => ?_)
      -- cond 2
      · have hko : kindOf m s = none := by
          rw [kM_kind] at hc2
          cases h : kindOf m s with
          | none => rfl
          | some x => rw [h] at hc2; cases hc2
        have hb : refBad m o.kind k s = 14 := by rw [refBad, hko]
        rw [hb, if_neg (by decide)] at hinv
        refine awp_seq ?_
        refine awp_region ?_
        refine al_d rfl rfl rfl (by exact opd_assign rfl rfl) ?_
        refine al_nil ?_
        refine awp_ret ?_
        -- return
        refine aret1 (H' := H) (.inr rfl) rfl (rval_tmp rfl) (Fin.pops [(963, bx 6 30 ((encObj o).map .pv))] (by simp) hc (by simp [h63])) ⟨by rw [hinv], rfl⟩
      · obtain ⟨kd, hko⟩ : ∃ kd, kindOf m s = some kd := by
          rw [kM_kind] at hc2
          cases h : kindOf m s with
          | none => rw [h] at hc2; cases hc2
          | some x => exact ⟨x, rfl⟩
        have hg : mget (kM m) s = some (iv kd) := by rw [kM_kind, hko]; rfl
        rw [hg]
        refine awp_seq ?_
        refine awp_region ?_
        refine al_d rfl rfl rfl (by exact opd_move rfl rfl) ?_
        refine al_d rfl rfl rfl (by exact (by exact opd_field_ref rfl fo30_1 rfl rfl rfl rfl)) ?_
        refine al_d rfl rfl rfl (by exact (by exact opd_load1_ref rfl Tryz.isAgg3 rfl rfl rfl rfl rfl)) ?_
        refine al_d rfl rfl rfl (by exact opd_move rfl rfl) ?_
        refine al_d rfl rfl rfl (by exact opr_call rfl rfl Tryz.call104 rfl (wanted_c o.kind (k : Int) _)) ?_
        refine al_d rfl rfl rfl (by exact opd_neq rfl rfl rfl) ?_
        refine al_d rfl rfl rfl (by exact opd_assign rfl rfl) ?_
        refine al_nil ?_
        refine awp_cond rfl (fun hc3 => ?_) (fun hc3 => ?_)
        -- cond 3
        · have hb : refBad m o.kind k s = 13 := by
            have h : (!decide (kd = gWanted o.kind (k : Int))) = true := hc3
            have h : ¬ kd = gWanted o.kind (k : Int) := by simpa using h
            rw [refBad, hko]
            exact if_neg h
          rw [hb, if_neg (by decide)] at hinv
          refine awp_seq ?_
          refine awp_region ?_
          refine al_d rfl rfl rfl (by exact opd_assign rfl rfl) ?_
          refine al_nil ?_
          refine awp_ret ?_
          -- return
          refine aret1 (H' := H) (.inr rfl) rfl (rval_tmp rfl) (Fin.pops [(963, bx 6 30 ((encObj o).map .pv))] (by simp) hc (by simp [h63])) ⟨by rw [hinv], rfl⟩
        · have hb : refBad m o.kind k s = 0 := by
            have h : (!decide (kd = gWanted o.kind (k : Int))) = false := hc3
            have h : kd = gWanted o.kind (k : Int) := by simpa using h
            rw [refBad, hko]
            exact if_pos h
          rw [if_pos hb] at hinv
          refine awp_skip ?_
          refine awp_region ?_
          refine al_d rfl rfl rfl (by exact opd_add rfl rfl rfl (by exact w64 (by omega) (by omega))) ?_
          refine al_d rfl rfl rfl (by exact opd_move rfl rfl) ?_
          refine al_nil ?_
          -- end of a round
          exact ⟨k + 1, ⟨by omega, hinv⟩, by omega, Ent.e0 ⟨⟨_, rfl, rfl⟩, ⟨_, rfl, rfl⟩, ⟨_, rfl, rfl⟩, ⟨_, rfl, rfl⟩, ⟨_, rfl, rfl⟩, trivial⟩⟩
    · have hge : k = o.refs.length := by have := of_decide_eq_false hc1; omega
      subst hge
      rw [List.drop_length, refErr] at hinv
      refine awp_exit ?_
      refine awp_seq ?_
      refine awp_region ?_
      refine al_d rfl rfl rfl (by exact opd_assign rfl rfl) ?_
      refine al_nil ?_
      refine awp_ret ?_
      -- return
      refine aret1 (H' := H) (.inr rfl) rfl (rval_tmp rfl) (Fin.pops [(963, bx 6 30 ((encObj o).map .pv))] (by simp) hc (by simp [h63])) ⟨by rw [hinv], rfl⟩
def closedB (m : List GObj) : Bool := gMap m && m.all (fun o => decide (refErr m o.kind 0 o.refs = 0))
abbrev cH (m : List GObj) : Heap := [(14, cRow m), (12, kob m)]
theorem of_c (m : List GObj) (hm : okM m) (hcl : closedB m = true) : ACalls Tryz.prog 28 [.agg [.pv (slObjs m)]] [] (fun r H' => r = .ref 14 0 0 0 ∧ H' = cH m) := by
  have hml : (m.map encObj).length = m.length := List.length_map _
  rw [closedB, Bool.and_eq_true, List.all_eq_true] at hcl
  obtain ⟨hg, hall⟩ := hcl
  have hu := (gMap_iff.1 hg).2.1
  have hl := hm.1
  refine ACalls.body Tryz.func28 rfl Tryz.ntmps28 (Nat.le_of_ble_eq_true rfl) ?_
  refine awp_seq ?_
  refine awp_region ?_
  refine al_d rfl rfl rfl (by exact opd_box (id := 1) rfl rfl rfl rfl rfl) ?_
  refine al_d rfl rfl rfl (by exact opd_assign rfl rfl) ?_
  refine al_nil ?_
  refine awp_seq ?_
  refine awp_seq ?_
  refine awp_region ?_
  refine al_d rfl rfl rfl (by exact (by exact opd_loadn_ref rfl Tryz.isAgg24 Tryz.sizeOf24 rfl rfl rfl rfl (by simp only [List.drop_succ_cons, List.drop_zero, List.take_succ_cons, List.take_zero, List.take_nil, List.map_cons, List.map_nil, List.set_cons_zero, List.set_cons_succ, List.cons_append, List.nil_append, encTag, encObj, encStr]; rfl) rfl)) ?_
  refine al_d rfl rfl rfl (by exact opr_call rfl rfl Tryz.call58 rfl (atlasValid_c m _ hm)) ?_
  refine al_d rfl rfl rfl (by exact opd_not rfl rfl) ?_
  refine al_nil ?_
  refine awp_cond rfl (fun hc1 => ?_) (fun hc1 => ?_)
  -- cond 1
  · have h : (!gMap m) = true := hc1
    rw [hg] at h; cases h
  · skip
    refine awp_skip ?_
    refine awp_seq ?_
    refine awp_region ?_
    refine al_d rfl rfl rfl (by exact (by exact opd_loadn_ref rfl Tryz.isAgg24 Tryz.sizeOf24 rfl rfl rfl rfl (by simp only [List.drop_succ_cons, List.drop_zero, List.take_succ_cons, List.take_zero, List.take_nil, List.map_cons, List.map_nil, List.set_cons_zero, List.set_cons_succ, List.cons_append, List.nil_append, encTag, encObj, encStr]; rfl) rfl)) ?_
    refine al_d rfl rfl rfl (by exact opd_makeMap (id := 12) strK rfl rfl) ?_
    refine al_d rfl rfl rfl (by exact x_build rfl bo91 rfl rfl) ?_
    refine al_d rfl rfl rfl (by exact opd_box (id := 14) rfl rfl rfl rfl rfl) ?_
    refine al_d rfl rfl rfl (by exact opd_assign rfl rfl) ?_
    refine al_nil ?_
    refine awp_seq ?_
    refine awp_seq ?_
    refine awp_region ?_
    refine al_d rfl rfl rfl (by exact (by exact opd_field_ref rfl fo24_0 rfl rfl rfl rfl)) ?_
    refine al_d rfl rfl rfl (by exact (by exact opd_load1_ref rfl Tryz.isAgg22 rfl rfl rfl rfl rfl)) ?_
    refine al_d rfl rfl rfl (by exact (by exact opd_len_sl rfl Tryz.underlying22 rfl)) ?_
    refine al_d rfl rfl rfl (by exact opd_move rfl rfl) ?_
    refine al_nil ?_
    refine awp_block ?_
    -- loop
    refine awp_loop (σ := Nat) (fun k => ([(1, .ref 1 0 0 0), (3, .ref 14 0 0 0), (16, .pv (slObjs m)), (17, iv ((m.map encObj).length : Int)), (18, iv (k : Int))], [(14, cRow m), (12, kob (m.take k)), (1, bx 1 24 [.pv (slObjs m)])])) (fun k => k ≤ m.length) (fun k => m.length - k) 0 (by omega) ?_ ?_
    · exact (Ent.wk ⟨⟨_, rfl, rfl⟩, (by (simp; rfl)), ⟨_, rfl, rfl⟩, (by (simp; rfl)), ⟨_, rfl, rfl⟩, (by (simp; done)), ⟨_, rfl, rfl⟩, (by (simp; done)), ⟨_, rfl, rfl⟩, (by (simp; done)), trivial⟩ ⟨⟨_, rfl, rfl⟩, (by (simp; rfl)), ⟨_, rfl, rfl⟩, (by exact kob_clo _ _), ⟨_, rfl, rfl⟩, (by (simp; done)), trivial⟩ trivial)
    · intro k hk
      refine awp_seq ?_
      refine awp_region ?_
      refine al_d rfl rfl rfl (by exact opd_lss rfl rfl rfl) ?_
      refine al_nil ?_
      refine awp_seq ?_
      refine awp_cond rfl (fun hc2 => ?_) (fun hc2 => ?_)
      -- cond 2
      · have hlt : k < m.length := by have := of_decide_eq_true hc2; omega
        obtain ⟨o, ho⟩ := get_of_lt hlt
        have hi := map_get (f := encObj) ho
        refine awp_skip ?_
        refine awp_seq ?_
        refine awp_block ?_
        refine awp_seq ?_
        refine awp_region ?_
        refine al_d rfl rfl rfl (by exact (by exact x_index_pad rfl so22 rfl rfl (by omega) (by exact Int.toNat_natCast _) (by assumption) rfl)) ?_
        refine al_d rfl rfl rfl (by exact (by exact opd_loadn_pad rfl Tryz.isAgg30 Tryz.sizeOf30 rfl (by omega) (by simp only [List.drop_succ_cons, List.drop_zero, List.take_succ_cons, List.take_zero, List.take_nil, List.map_cons, List.map_nil, List.set_cons_zero, List.set_cons_succ, List.cons_append, List.nil_append, encTag, encObj, encStr]; rfl) rfl)) ?_
        refine al_d rfl rfl rfl (by exact x_alloc (id := 5) rfl zo30 rfl rfl) ?_
        refine al_n rfl rfl (by exact (by exact x_store_all rfl Tryz.sizeOf30 rfl rfl rfl rfl rfl rfl rfl rfl)) ?_
        refine al_nil ?_
        refine awp_drawc follows ?_
        refine dc_cons (r := ⟨_, some [14], []⟩) (DStep.plain rfl (fun H1 hH => by exact opd_move rfl rfl)) rfl ?_
        refine dc_cons (r := ⟨_, some [14], []⟩) (DStep.plain rfl (fun H1 hH => by exact (by exact opd_nilCheck_ref rfl rfl ((hH _ rfl).trans rfl) rfl))) rfl ?_
        refine dc_cons (r := ⟨_, some [14], []⟩) (DStep.plain rfl (fun H1 hH => by exact (by exact opd_field_ref rfl fo91_1 rfl ((hH _ rfl).trans rfl) rfl rfl))) rfl ?_
        refine dc_cons (r := ⟨_, some [14], []⟩) (DStep.plain rfl (fun H1 hH => by exact (by exact opd_load1_ref rfl Tryz.isAgg89 rfl ((hH _ rfl).trans rfl) rfl rfl rfl))) rfl ?_
        refine dc_cons (r := ⟨_, some [5], []⟩) (DStep.plain rfl (fun H1 hH => by exact (by exact opd_field_ref rfl fo30_0 rfl ((hH _ rfl).trans rfl) rfl rfl))) rfl ?_
        refine dc_cons (r := ⟨_, some [5], []⟩) (DStep.plain rfl (fun H1 hH => by exact (by exact opd_load1_ref rfl Tryz.isAgg9 rfl ((hH _ rfl).trans rfl) rfl rfl rfl))) rfl ?_
        refine dc_cons (r := ⟨_, some [5], []⟩) (DStep.plain rfl (fun H1 hH => by exact (by exact opd_field_ref rfl fo30_1 rfl ((hH _ rfl).trans rfl) rfl rfl))) rfl ?_
        refine dc_cons (r := ⟨_, some [5], []⟩) (DStep.plain rfl (fun H1 hH => by exact (by exact opd_load1_ref rfl Tryz.isAgg3 rfl ((hH _ rfl).trans rfl) rfl rfl rfl))) rfl ?_
        refine dc_cons (r := ⟨_, some [12], [_]⟩) (DStep.plain rfl (fun H1 hH => by exact x_mapUpdate (κ := strK) (.inl rfl) Tryz.underlying89 Tryz.underlying9 rfl ((hH 12 rfl).trans rfl) rfl rfl rfl rfl rfl (kM_put hu ho))) rfl ?_
        refine dc_nil ⟨by kernel_rfl, ?_⟩
        refine awp_region ?_
        refine al_d rfl rfl rfl (by exact opd_add rfl rfl rfl (by exact w64 (by omega) (by omega))) ?_
        refine al_d rfl rfl rfl (by exact opd_move rfl rfl) ?_
        refine al_nil ?_
        -- end of a round
        exact ⟨k + 1, by omega, by omega, (Ent.wk ⟨⟨_, rfl, rfl⟩, (by (simp; rfl)), ⟨_, rfl, rfl⟩, (by (simp; rfl)), ⟨_, rfl, rfl⟩, (by (simp; done)), ⟨_, rfl, rfl⟩, (by (simp; done)), ⟨_, rfl, rfl⟩, (by (simp; done)), trivial⟩ ⟨⟨_, rfl, rfl⟩, (by (simp; rfl)), ⟨_, rfl, rfl⟩, (by exact kob_clo _ _), ⟨_, rfl, rfl⟩, (by (simp; done)), trivial⟩ trivial)⟩
      · have hge : k = m.length := by have := of_decide_eq_false hc2; omega
        subst hge
        rw [List.take_length]
        refine awp_exit ?_
        refine awp_seq ?_
        refine awp_seq ?_
        refine awp_region ?_
        refine al_d rfl rfl rfl (by exact (by exact opd_field_ref rfl fo24_0 rfl rfl rfl rfl)) ?_
        refine al_d rfl rfl rfl (by exact (by exact opd_load1_ref rfl Tryz.isAgg22 rfl rfl rfl rfl rfl)) ?_
        refine al_d rfl rfl rfl (by exact (by exact opd_len_sl rfl Tryz.underlying22 rfl)) ?_
        refine al_d rfl rfl rfl (by exact opd_move rfl rfl) ?_
        refine al_nil ?_
        refine awp_block ?_
        -- loop
        refine awp_loop (σ := Nat) (fun k => ([(3, .ref 14 0 0 0), (32, .pv (slObjs m)), (33, iv ((m.map encObj).length : Int)), (34, iv (k : Int))], [(14, cRow m), (12, kob m)])) (fun k => k ≤ m.length) (fun k => m.length - k) 0 (by omega) ?_ ?_
        · exact (Ent.wk ⟨⟨_, rfl, rfl⟩, (by (simp; rfl)), ⟨_, rfl, rfl⟩, (by (simp; done)), ⟨_, rfl, rfl⟩, (by (simp; done)), ⟨_, rfl, rfl⟩, (by (simp; done)), trivial⟩ ⟨⟨_, rfl, rfl⟩, (by (simp; rfl)), ⟨_, rfl, rfl⟩, (by exact kob_clo _ _), trivial⟩ trivial)
        · intro k hk
          refine awp_seq ?_
          refine awp_region ?_
          refine al_d rfl rfl rfl (by exact opd_lss rfl rfl rfl) ?_
          refine al_nil ?_
          refine awp_seq ?_
          refine awp_cond rfl (fun hc3 => ?_) (fun hc3 => ?_)
          -- cond 3
          · have hlt : k < m.length := by have := of_decide_eq_true hc3; omega
            obtain ⟨o, ho⟩ := get_of_lt hlt
            have hi := map_get (f := encObj) ho
            have hoo := hm.2 o (List.mem_of_getElem? ho)
            have hr0 : refErr m o.kind 0 o.refs = 0 := of_decide_eq_true (hall o (List.mem_of_getElem? ho))
            refine awp_skip ?_
            refine awp_seq ?_
            refine awp_block ?_
            refine awp_seq ?_
            refine awp_region ?_
            refine al_d rfl rfl rfl (by exact (by exact x_index_pad rfl so22 rfl rfl (by omega) (by exact Int.toNat_natCast _) (by assumption) rfl)) ?_
            refine al_d rfl rfl rfl (by exact (by exact opd_loadn_pad rfl Tryz.isAgg30 Tryz.sizeOf30 rfl (by omega) (by simp only [List.drop_succ_cons, List.drop_zero, List.take_succ_cons, List.take_zero, List.take_nil, List.map_cons, List.map_nil, List.set_cons_zero, List.set_cons_succ, List.cons_append, List.nil_append, encTag, encObj, encStr]; rfl) rfl)) ?_
            refine al_d rfl rfl rfl (by exact x_alloc (id := 7) rfl zo30 rfl rfl) ?_
            refine al_n rfl rfl (by exact (by exact x_store_all rfl Tryz.sizeOf30 rfl rfl rfl rfl rfl rfl rfl rfl)) ?_
            refine al_nil ?_
            refine awp_seq ?_
            refine awp_region ?_
            refine al_d rfl rfl rfl (by exact opd_move rfl rfl) ?_
            refine al_d rfl rfl rfl (by exact (by exact opd_loadn_ref rfl Tryz.isAgg30 Tryz.sizeOf30 rfl rfl rfl rfl (by simp only [List.drop_succ_cons, List.drop_zero, List.take_succ_cons, List.take_zero, List.take_nil, List.map_cons, List.map_nil, List.set_cons_zero, List.set_cons_succ, List.cons_append, List.nil_append, encTag, encObj, encStr]; rfl) rfl)) ?_
            refine al_d rfl rfl rfl (by exact opr_call rfl rfl Tryz.call59 rfl (refs_c m o _ rfl rfl rfl (Closed.ofL ⟨(by (simp; done)), (by (simp; done)), (by (simp; rfl)), (by exact kob_clo _ _), trivial⟩) hoo.2.2.1)) ?_
            refine al_d rfl rfl rfl (by exact opd_neq rfl rfl rfl) ?_
            refine al_nil ?_
            refine awp_cond rfl (fun hc4 => ?_) (fun hc4 => ?_)
            -- cond 4
            · rw [hr0] at hc4; cases hc4
            · skip
              refine awp_skip ?_
              refine awp_region ?_
              refine al_d rfl rfl rfl (by exact opd_add rfl rfl rfl (by exact w64 (by omega) (by omega))) ?_
              refine al_d rfl rfl rfl (by exact opd_move rfl rfl) ?_
              refine al_nil ?_
              -- end of a round
              exact ⟨k + 1, by omega, by omega, (Ent.wk ⟨⟨_, rfl, rfl⟩, (by (simp; rfl)), ⟨_, rfl, rfl⟩, (by (simp; done)), ⟨_, rfl, rfl⟩, (by (simp; done)), ⟨_, rfl, rfl⟩, (by (simp; done)), trivial⟩ ⟨⟨_, rfl, rfl⟩, (by (simp; rfl)), ⟨_, rfl, rfl⟩, (by exact kob_clo _ _), trivial⟩ trivial)⟩
          · skip
            refine awp_exit ?_
            refine awp_seq ?_
            refine awp_region ?_
            refine al_d rfl rfl rfl (by exact opd_move rfl rfl) ?_
            refine al_d rfl rfl rfl (by exact opd_assign rfl rfl) ?_
            refine al_nil ?_
            refine awp_ret ?_
            -- return
            refine aret1 (H' := cH m) (.inr rfl) rfl (rval_tmp rfl) (Fin.wk (by (simp; rfl)) ⟨⟨_, rfl, rfl⟩, (by (simp; rfl)), ⟨_, rfl, rfl⟩, (by exact kob_clo _ _), trivial⟩ trivial) ⟨rfl, rfl⟩
theorem ofN_c (m : List GObj) (hm : okM m) (hcl : closedB m = false) : ACalls Tryz.prog 28 [.agg [.pv (slObjs m)]] [] (fun r H' => r = .pv .nilp ∧ H' = []) := by
  have hml : (m.map encObj).length = m.length := List.length_map _
  have hl := hm.1
  refine ACalls.body Tryz.func28 rfl Tryz.ntmps28 (Nat.le_of_ble_eq_true rfl) ?_
  refine awp_seq ?_
  refine awp_region ?_
  refine al_d rfl rfl rfl (by exact opd_box (id := 1) rfl rfl rfl rfl rfl) ?_
  refine al_d rfl rfl rfl (by exact opd_assign rfl rfl) ?_
  refine al_nil ?_
  refine awp_seq ?_
  refine awp_seq ?_
  refine awp_region ?_
  refine al_d rfl rfl rfl (by exact (by exact opd_loadn_ref rfl Tryz.isAgg24 Tryz.sizeOf24 rfl rfl rfl rfl (by simp only [List.drop_succ_cons, List.drop_zero, List.take_succ_cons, List.take_zero, List.take_nil, List.map_cons, List.map_nil, List.set_cons_zero, List.set_cons_succ, List.cons_append, List.nil_append, encTag, encObj, encStr]; rfl) rfl)) ?_
  refine al_d rfl rfl rfl (by exact opr_call rfl rfl Tryz.call58 rfl (atlasValid_c m _ hm)) ?_
  refine al_d rfl rfl rfl (by exact opd_not rfl rfl) ?_
  refine al_nil ?_
  refine awp_cond rfl (fun hc1 => ?_) (fun hc1 => ?_)
  -- cond 1
  · skip
    refine awp_seq ?_
    refine awp_region ?_
    refine al_d rfl rfl rfl (by exact opd_assign rfl rfl) ?_
    refine al_nil ?_
    refine awp_ret ?_
    -- return
    refine aret1 (H' := []) (.inr rfl) rfl (rval_tmp rfl) (Fin.wk (by (simp; done)) trivial trivial) ⟨rfl, rfl⟩
  · have hg : gMap m = true := by
      have h : (!gMap m) = false := hc1
      simpa using h
    have hu := (gMap_iff.1 hg).2.1
    refine awp_skip ?_
    refine awp_seq ?_
    refine awp_region ?_
    refine al_d rfl rfl rfl (by exact (by exact opd_loadn_ref rfl Tryz.isAgg24 Tryz.sizeOf24 rfl rfl rfl rfl (by simp only [List.drop_succ_cons, List.drop_zero, List.take_succ_cons, List.take_zero, List.take_nil, List.map_cons, List.map_nil, List.set_cons_zero, List.set_cons_succ, List.cons_append, List.nil_append, encTag, encObj, encStr]; rfl) rfl)) ?_
    refine al_d rfl rfl rfl (by exact opd_makeMap (id := 12) strK rfl rfl) ?_
    refine al_d rfl rfl rfl (by exact x_build rfl bo91 rfl rfl) ?_
    refine al_d rfl rfl rfl (by exact opd_box (id := 14) rfl rfl rfl rfl rfl) ?_
    refine al_d rfl rfl rfl (by exact opd_assign rfl rfl) ?_
    refine al_nil ?_
    refine awp_seq ?_
    refine awp_seq ?_
    refine awp_region ?_
    refine al_d rfl rfl rfl (by exact (by exact opd_field_ref rfl fo24_0 rfl rfl rfl rfl)) ?_
    refine al_d rfl rfl rfl (by exact (by exact opd_load1_ref rfl Tryz.isAgg22 rfl rfl rfl rfl rfl)) ?_
    refine al_d rfl rfl rfl (by exact (by exact opd_len_sl rfl Tryz.underlying22 rfl)) ?_
    refine al_d rfl rfl rfl (by exact opd_move rfl rfl) ?_
    refine al_nil ?_
    refine awp_block ?_
    -- loop
    refine awp_loop (σ := Nat) (fun k => ([(1, .ref 1 0 0 0), (3, .ref 14 0 0 0), (16, .pv (slObjs m)), (17, iv ((m.map encObj).length : Int)), (18, iv (k : Int))], [(14, cRow m), (12, kob (m.take k)), (1, bx 1 24 [.pv (slObjs m)])])) (fun k => k ≤ m.length) (fun k => m.length - k) 0 (by omega) ?_ ?_
    · exact (Ent.wk ⟨⟨_, rfl, rfl⟩, (by (simp; rfl)), ⟨_, rfl, rfl⟩, (by (simp; rfl)), ⟨_, rfl, rfl⟩, (by (simp; done)), ⟨_, rfl, rfl⟩, (by (simp; done)), ⟨_, rfl, rfl⟩, (by (simp; done)), trivial⟩ ⟨⟨_, rfl, rfl⟩, (by (simp; rfl)), ⟨_, rfl, rfl⟩, (by exact kob_clo _ _), ⟨_, rfl, rfl⟩, (by (simp; done)), trivial⟩ trivial)
    · intro k hk
      refine awp_seq ?_
      refine awp_region ?_
      refine al_d rfl rfl rfl (by exact opd_lss rfl rfl rfl) ?_
      refine al_nil ?_
      refine awp_seq ?_
      refine awp_cond rfl (fun hc2 => ?_) (fun hc2 => ?_)
      -- cond 2
      · have hlt : k < m.length := by have := of_decide_eq_true hc2; omega
        obtain ⟨o, ho⟩ := get_of_lt hlt
        have hi := map_get (f := encObj) ho
        refine awp_skip ?_
        refine awp_seq ?_
        refine awp_block ?_
        refine awp_seq ?_
        refine awp_region ?_
        refine al_d rfl rfl rfl (by exact (by exact x_index_pad rfl so22 rfl rfl (by omega) (by exact Int.toNat_natCast _) (by assumption) rfl)) ?_
        refine al_d rfl rfl rfl (by exact (by exact opd_loadn_pad rfl Tryz.isAgg30 Tryz.sizeOf30 rfl (by omega) (by simp only [List.drop_succ_cons, List.drop_zero, List.take_succ_cons, List.take_zero, List.take_nil, List.map_cons, List.map_nil, List.set_cons_zero, List.set_cons_succ, List.cons_append, List.nil_append, encTag, encObj, encStr]; rfl) rfl)) ?_
        refine al_d rfl rfl rfl (by exact x_alloc (id := 5) rfl zo30 rfl rfl) ?_
        refine al_n rfl rfl (by exact (by exact x_store_all rfl Tryz.sizeOf30 rfl rfl rfl rfl rfl rfl rfl rfl)) ?_
        refine al_nil ?_
        refine awp_drawc follows ?_
        refine dc_cons (r := ⟨_, some [14], []⟩) (DStep.plain rfl (fun H1 hH => by exact opd_move rfl rfl)) rfl ?_
        refine dc_cons (r := ⟨_, some [14], []⟩) (DStep.plain rfl (fun H1 hH => by exact (by exact opd_nilCheck_ref rfl rfl ((hH _ rfl).trans rfl) rfl))) rfl ?_
        refine dc_cons (r := ⟨_, some [14], []⟩) (DStep.plain rfl (fun H1 hH => by exact (by exact opd_field_ref rfl fo91_1 rfl ((hH _ rfl).trans rfl) rfl rfl))) rfl ?_
        refine dc_cons (r := ⟨_, some [14], []⟩) (DStep.plain rfl (fun H1 hH => by exact (by exact opd_load1_ref rfl Tryz.isAgg89 rfl ((hH _ rfl).trans rfl) rfl rfl rfl))) rfl ?_
        refine dc_cons (r := ⟨_, some [5], []⟩) (DStep.plain rfl (fun H1 hH => by exact (by exact opd_field_ref rfl fo30_0 rfl ((hH _ rfl).trans rfl) rfl rfl))) rfl ?_
        refine dc_cons (r := ⟨_, some [5], []⟩) (DStep.plain rfl (fun H1 hH => by exact (by exact opd_load1_ref rfl Tryz.isAgg9 rfl ((hH _ rfl).trans rfl) rfl rfl rfl))) rfl ?_
        refine dc_cons (r := ⟨_, some [5], []⟩) (DStep.plain rfl (fun H1 hH => by exact (by exact opd_field_ref rfl fo30_1 rfl ((hH _ rfl).trans rfl) rfl rfl))) rfl ?_
        refine dc_cons (r := ⟨_, some [5], []⟩) (DStep.plain rfl (fun H1 hH => by exact (by exact opd_load1_ref rfl Tryz.isAgg3 rfl ((hH _ rfl).trans rfl) rfl rfl rfl))) rfl ?_
        refine dc_cons (r := ⟨_, some [12], [_]⟩) (DStep.plain rfl (fun H1 hH => by exact x_mapUpdate (κ := strK) (.inl rfl) Tryz.underlying89 Tryz.underlying9 rfl ((hH 12 rfl).trans rfl) rfl rfl rfl rfl rfl (kM_put hu ho))) rfl ?_
        refine dc_nil ⟨by kernel_rfl, ?_⟩
        refine awp_region ?_
        refine al_d rfl rfl rfl (by exact opd_add rfl rfl rfl (by exact w64 (by omega) (by omega))) ?_
        refine al_d rfl rfl rfl (by exact opd_move rfl rfl) ?_
        refine al_nil ?_
        -- end of a round
        exact ⟨k + 1, by omega, by omega, (Ent.wk ⟨⟨_, rfl, rfl⟩, (by (simp; rfl)), ⟨_, rfl, rfl⟩, (by (simp; rfl)), ⟨_, rfl, rfl⟩, (by (simp; done)), ⟨_, rfl, rfl⟩, (by (simp; done)), ⟨_, rfl, rfl⟩, (by (simp; done)), trivial⟩ ⟨⟨_, rfl, rfl⟩, (by (simp; rfl)), ⟨_, rfl, rfl⟩, (by exact kob_clo _ _), ⟨_, rfl, rfl⟩, (by (simp; done)), trivial⟩ trivial)⟩
      · have hge : k = m.length := by have := of_decide_eq_false hc2; omega
        subst hge
        rw [List.take_length]
        refine awp_exit ?_
        refine awp_seq ?_
        refine awp_seq ?_
        refine awp_region ?_
        refine al_d rfl rfl rfl (by exact (by exact opd_field_ref rfl fo24_0 rfl rfl rfl rfl)) ?_
        refine al_d rfl rfl rfl (by exact (by exact opd_load1_ref rfl Tryz.isAgg22 rfl rfl rfl rfl rfl)) ?_
        refine al_d rfl rfl rfl (by exact (by exact opd_len_sl rfl Tryz.underlying22 rfl)) ?_
        refine al_d rfl rfl rfl (by exact opd_move rfl rfl) ?_
        refine al_nil ?_
        refine awp_block ?_
        -- loop
        refine awp_loop (σ := Nat) (fun k => ([(3, .ref 14 0 0 0), (32, .pv (slObjs m)), (33, iv ((m.map encObj).length : Int)), (34, iv (k : Int))], [(14, cRow m), (12, kob m)])) (fun k => k ≤ m.length ∧ ∀ j, j < k → ∀ b, m[j]? = some b → (!decide (refErr m b.kind 0 b.refs = 0)) = false) (fun k => m.length - k) 0 ⟨by omega, by omega⟩ ?_ ?_
        · exact (Ent.wk ⟨⟨_, rfl, rfl⟩, (by (simp; rfl)), ⟨_, rfl, rfl⟩, (by (simp; done)), ⟨_, rfl, rfl⟩, (by (simp; done)), ⟨_, rfl, rfl⟩, (by (simp; done)), trivial⟩ ⟨⟨_, rfl, rfl⟩, (by (simp; rfl)), ⟨_, rfl, rfl⟩, (by exact kob_clo _ _), trivial⟩ trivial)
        · rintro k ⟨hk, hno⟩
          refine awp_seq ?_
          refine awp_region ?_
          refine al_d rfl rfl rfl (by exact opd_lss rfl rfl rfl) ?_
          refine al_nil ?_
          refine awp_seq ?_
          refine awp_cond rfl (fun hc3 => ?_) (fun hc3 => ?_)
          -- cond 3
          · have hlt : k < m.length := by have := of_decide_eq_true hc3; omega
            obtain ⟨o, ho⟩ := get_of_lt hlt
            have hi := map_get (f := encObj) ho
            have hoo := hm.2 o (List.mem_of_getElem? ho)
            refine awp_skip ?_
            refine awp_seq ?_
            refine awp_block ?_
            refine awp_seq ?_
            refine awp_region ?_
            refine al_d rfl rfl rfl (by exact (by exact x_index_pad rfl so22 rfl rfl (by omega) (by exact Int.toNat_natCast _) (by assumption) rfl)) ?_
            refine al_d rfl rfl rfl (by exact (by exact opd_loadn_pad rfl Tryz.isAgg30 Tryz.sizeOf30 rfl (by omega) (by simp only [List.drop_succ_cons, List.drop_zero, List.take_succ_cons, List.take_zero, List.take_nil, List.map_cons, List.map_nil, List.set_cons_zero, List.set_cons_succ, List.cons_append, List.nil_append, encTag, encObj, encStr]; rfl) rfl)) ?_
            refine al_d rfl rfl rfl (by exact x_alloc (id := 7) rfl zo30 rfl rfl) ?_
            refine al_n rfl rfl (by exact (by exact x_store_all rfl Tryz.sizeOf30 rfl rfl rfl rfl rfl rfl rfl rfl)) ?_
            refine al_nil ?_
            refine awp_seq ?_
            refine awp_region ?_
            refine al_d rfl rfl rfl (by exact opd_move rfl rfl) ?_
            refine al_d rfl rfl rfl (by exact (by exact opd_loadn_ref rfl Tryz.isAgg30 Tryz.sizeOf30 rfl rfl rfl rfl (by simp only [List.drop_succ_cons, List.drop_zero, List.take_succ_cons, List.take_zero, List.take_nil, List.map_cons, List.map_nil, List.set_cons_zero, List.set_cons_succ, List.cons_append, List.nil_append, encTag, encObj, encStr]; rfl) rfl)) ?_
            refine al_d rfl rfl rfl (by exact opr_call rfl rfl Tryz.call59 rfl (refs_c m o _ rfl rfl rfl (Closed.ofL ⟨(by (simp; done)), (by (simp; done)), (by (simp; rfl)), (by exact kob_clo _ _), trivial⟩) hoo.2.2.1)) ?_
            refine al_d rfl rfl rfl (by exact opd_neq rfl rfl rfl) ?_
            refine al_nil ?_
            refine awp_cond rfl (fun hc4 => ?_) (fun hc4 => ?_)
            -- cond 4
            · skip
              refine awp_seq ?_
              refine awp_region ?_
              refine al_d rfl rfl rfl (by exact opd_assign rfl rfl) ?_
              refine al_nil ?_
              refine awp_ret ?_
              -- return
              refine aret1 (H' := []) (.inr rfl) rfl (rval_tmp rfl) (Fin.wk (by (simp; done)) trivial trivial) ⟨rfl, rfl⟩
            · skip
              refine awp_skip ?_
              refine awp_region ?_
              refine al_d rfl rfl rfl (by exact opd_add rfl rfl rfl (by exact w64 (by omega) (by omega))) ?_
              refine al_d rfl rfl rfl (by exact opd_move rfl rfl) ?_
              refine al_nil ?_
              -- end of a round
              exact ⟨k + 1, ⟨by omega, pre_succ hno ho hc4⟩, by omega, (Ent.wk ⟨⟨_, rfl, rfl⟩, (by (simp; rfl)), ⟨_, rfl, rfl⟩, (by (simp; done)), ⟨_, rfl, rfl⟩, (by (simp; done)), ⟨_, rfl, rfl⟩, (by (simp; done)), trivial⟩ ⟨⟨_, rfl, rfl⟩, (by (simp; rfl)), ⟨_, rfl, rfl⟩, (by exact kob_clo _ _), trivial⟩ trivial)⟩
          · have hge : k = m.length := by have := of_decide_eq_false hc3; omega
            subst hge
            exfalso
            have : closedB m = true := by
              rw [closedB, hg, Bool.true_and, List.all_eq_true]
              intro o ho
              obtain ⟨j, hj⟩ := List.mem_iff_getElem?.1 ho
              have := hno j (List.getElem?_eq_some_iff.1 hj).1 o hj
              simpa using this
            rw [this] at hcl
            cases hcl
theorem ofF_c (m : List GObj) (H : Heap) (hm : okM m) (hcl : closedB m = true) (h14 : H.get 14 = none) (h12 : H.get 12 = none) : ACalls Tryz.prog 28 [.agg [.pv (slObjs m)]] H (fun r H' => r = .ref 14 0 0 0 ∧ H' = cH m ++ H) :=
  ACalls.frame (of_c m hm hcl) (fun _ _ h => by cases h) (fun _ _ h => by cases h) (by simp) (fun id hi => by
    right
    have : id = 14 ∨ id = 12 := by
      simp only [Heap.get] at hi
      cases e1 : Nat.beq 14 id with
      | true => exact .inl (Nat.eq_of_beq_eq_true e1).symm
      | false =>
        cases e2 : Nat.beq 12 id with
        | true => exact .inr (Nat.eq_of_beq_eq_true e2).symm
        | false => rw [e1, e2] at hi; cases hi
    rcases this with rfl | rfl
    · exact h14
    · exact h12)
end Go.Proofs.YtedfihgkopejcaaGreat
end
section
set_option linter.unusedVariables false
set_option linter.unusedSimpArgs false
namespace Go.Proofs.YtedfihgkopejcaaGreat
open Go.Abs
section
variable {α κ : Type}
/-- The places of at most n elements that are shown, each of which fits with all that were taken. -/
def gr (S : α → Bool) (T : α → α → Bool) : List α → Nat → Nat → List α → List Nat
  | [], _, _, _ => []
  | _ :: _, _, 0, _ => []
  | x :: r, i, n + 1, tk => if S x && !(tk.any fun y => !T y x) then i :: gr S T r (i + 1) n (tk ++ [x]) else gr S T r (i + 1) (n + 1) tk
/-- The first place from which there is a choice of n; 'one': only the first place that is shown is tried. -/
def kLoop (one : Bool) (S : α → Bool) (T : α → α → Bool) (n : Nat) : List α → Nat → Option (List Nat)
  | [], _ => none
  | x :: r, i => if S x then (if (gr S T (x :: r) i n []).length = n then some (gr S T (x :: r) i n []) else if one then none else kLoop one S T n r (i + 1)) else kLoop one S T n r (i + 1)
/-- Choices: n places in order, shown, that fit. -/
structure Choice (S : α → Bool) (T : α → α → Bool) (l : List α) (n : Nat) (e : List Nat) : Prop where
  len : e.length = n
  up : e.Pairwise (· < ·)
  sh : ∀ p ∈ e, ∃ x, l[p]? = some x ∧ S x = true
  fit : e.Pairwise (fun p q => ∀ x y, l[p]? = some x → l[q]? = some y → T x y = true)
/-- A list of places does not come behind another one. -/
def gBehind : List Int → List Int → Bool
  | [], _ => false
  | _ :: _, [] => true
  | a :: r, b :: s => if a = b then gBehind r s else decide (b < a)
end
end Go.Proofs.YtedfihgkopejcaaGreat
end
