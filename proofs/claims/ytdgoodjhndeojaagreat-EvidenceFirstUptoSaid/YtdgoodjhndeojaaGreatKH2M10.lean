/-
  CONTRACTS: planispherelaw31.holds: evidence that holds. Conditions: lengths below 2^62.
  CONTRACTS: package planispherelaw32: nodes, head. Conditions: none.
  A SLICE WITHOUT ROOM behind it (s[:n:n]): what is appended to it lies in a new block. Conditions: each rule's own premises.
  CONTRACT: planispherelaw31.head: the chapter's examples hold. Conditions: none.
-/
import Derived.Test.YtdgoodjhndeojaaGreatKH2M9
section
set_option linter.unusedVariables false
set_option linter.unusedSimpArgs false
set_option maxRecDepth 100000
namespace Go.Proofs.YtdgoodjhndeojaaGreat
open Go.Abs

def accH (l : List GEdit) (k : Nat) (idx : List Int) : List ByteArray := (idx.map (fun x => eKey k (edAt l x))).foldl sput []
theorem accH_succ {l : List GEdit} {k i : Nat} {idx : List Int} {x : Int} (h : idx[i]? = some x) : accH l k (idx.take (i + 1)) = sput (accH l k (idx.take i)) (eKey k (edAt l x)) := by
  rw [accH, accH, List.take_add_one, h, List.map_append, List.foldl_append]; rfl
theorem many_at {k : Nat} (h1 : 1 ≤ k) (h4 : k ≤ 4) : [encInt 0, encInt 5, encInt 3, encInt 3, encInt 4][k]? = some (encInt (nMany k : Int)) := by
  match k, h1, h4 with
  | 1, _, _ => rfl
  | 2, _, _ => rfl
  | 3, _, _ => rfl
  | 4, _, _ => rfl
  | n + 5, _, h => exact absurd h (by omega)
theorem gHolds_nat {m : List GObj} {l : List GEdit} {k : Nat} {idx : List Int} (h1 : 1 ≤ k) (h4 : k ≤ 4) : gHolds m l (k : Int) idx =
    (!(!decide (((idx.map encInt).length : Int) = (nMany k : Int)) || (decide ((k : Int) = 1) && decide ((nDrops l : Int) ≤ ((l.map encEdit).length : Int) - (nDrops l : Int)))) &&
      (!((List.range idx.length).any (badH m l k idx)) && decide ((((sets (accH l k idx)).length : Nat) : Int) = ((idx.map encInt).length : Int)))) := by
  rw [gHolds, accH, decide_eq_true (show 1 ≤ (k : Int) by omega), decide_eq_true (show (k : Int) ≤ 4 by omega), Int.toNat_natCast, sets]
  simp only [List.length_map, Bool.true_and, Bool.not_or, Bool.not_not]
  rw [show decide (idx.length = nMany k) = decide ((idx.length : Int) = (nMany k : Int)) from decide_eq_decide.2 ⟨fun h => by omega, fun h => by omega⟩]
theorem range_any_true {p : Nat → Bool} {n i : Nat} (h : i < n) (hp : p i = true) : (List.range n).any p = true := List.any_eq_true.2 ⟨i, List.mem_range.2 h, hp⟩
theorem range_any_false {p : Nat → Bool} {n : Nat} (h : ∀ i, i < n → p i = false) : (List.range n).any p = false := by
  rw [List.any_eq_false]
  intro i hi
  rw [h i (List.mem_range.1 hi)]; simp
theorem holdsK_c (k : Nat) (m : List GObj) (l : List GEdit) (idx : List Int) (H : Heap) (hm : okM m) (hl : l.length < 4611686018427387904) (hxl : idx.length < 4611686018427387904) (htl : ∀ e ∈ l, e.obj.tags.length < 4611686018427387904) (h1 : 1 ≤ k) (h4 : k ≤ 4) :
    ACalls Tryz.prog 23 [.agg [.pv (slObjs m)], .pv (slEdits l), .agg [iv (k : Int), .pv (slInts idx)]] H (fun r H' => r = bv (gHolds m l (k : Int) idx) ∧ H' = H) := by
  refine ACalls.pure ?_ (by simp) H
  rw [gHolds_nat h1 h4]
  have hmany := many_at h1 h4
  have hml : (l.map encEdit).length = l.length := List.length_map _
  have hil : (idx.map encInt).length = idx.length := List.length_map _
  have hnd := nDrops_le l
  have hk1 : decide ((k : Int) < 1) = false := decide_eq_false (by omega)
  have hk4 : decide ((4 : Int) < (k : Int)) = false := decide_eq_false (by omega)
  refine ACalls.body Tryz.func23 rfl Tryz.ntmps23 (Nat.le_of_ble_eq_true rfl) ?_
  refine awp_seq ?_
  refine awp_region ?_
  refine al_d rfl rfl rfl (by exact opd_box (id := 3) rfl rfl rfl rfl rfl) ?_
  refine al_d rfl rfl rfl (by exact opd_box (id := 5) rfl rfl rfl rfl rfl) ?_
  refine al_d rfl rfl rfl (by exact opd_assign rfl rfl) ?_
  refine al_nil ?_
  refine awp_seq ?_
  refine awp_region ?_
  refine al_d rfl rfl rfl (by exact x_buildSlice [encInt 0, encInt 5, encInt 3, encInt 3, encInt 4] rfl so29 rfl rfl rfl rfl rfl (by simp [encInt])) ?_
  refine al_d rfl rfl rfl (by exact opd_assign rfl rfl) ?_
  refine al_nil ?_
  refine awp_seq ?_
  refine awp_seq ?_
  refine awp_mergeR (t := 48) (n := 34) (X := !decide (((idx.map encInt).length : Int) = (nMany k : Int)) || (decide ((k : Int) = 1) && decide ((nDrops l : Int) ≤ ((l.map encEdit).length : Int) - (nDrops l : Int)))) ?_ ?_
  · cases hg34 : (!decide (((idx.map encInt).length : Int) = (nMany k : Int)) : Bool)
    · cases hg38 : (decide ((k : Int) = 1) : Bool)
      · refine awp_drawc follows ?_
        refine dc_cons (DStep.q rfl (by exact (by first | exact opd_field_ref rfl fo31_0 rfl rfl rfl rfl | exact opd_field_pad rfl fo31_0 rfl rfl))) rfl ?_
        refine dc_cons (DStep.q rfl (by exact (by first | exact opd_load1_ref rfl Tryz.isAgg3 rfl rfl rfl rfl rfl | exact opd_load1_pad rfl Tryz.isAgg3 rfl (by first | omega | assumption) rfl))) rfl ?_
        refine dc_cons (DStep.q rfl (by exact opd_lss rfl rfl rfl)) rfl ?_
        refine dc_cons (DStep.q rfl (by exact opd_move rfl rfl)) rfl ?_
        refine dc_cons (q_on_f rfl rfl rfl (by first | rfl | assumption) (by exact (by first | exact opd_field_ref rfl fo31_0 rfl rfl rfl rfl | exact opd_field_pad rfl fo31_0 rfl rfl))) rfl ?_
        refine dc_cons (q_on_f rfl rfl rfl (by first | rfl | assumption) (by exact (by first | exact opd_load1_ref rfl Tryz.isAgg3 rfl rfl rfl rfl rfl | exact opd_load1_pad rfl Tryz.isAgg3 rfl (by first | omega | assumption) rfl))) rfl ?_
        refine dc_cons (q_on_f rfl rfl rfl (by first | rfl | assumption) (by exact opd_gtr rfl rfl rfl)) rfl ?_
        refine dc_cons (DStep.q rfl (by exact (by first | exact opd_pick_t rfl rfl rfl | exact opd_pick_f rfl rfl rfl | exact opd_pickt rfl rfl (by assumption) rfl | exact opd_pickf rfl rfl (by assumption) rfl | exact opd_pick rfl rfl rfl))) rfl ?_
        refine dc_cons (DStep.q rfl (by exact opd_move rfl rfl)) rfl ?_
        refine dc_cons (q_on_f rfl rfl rfl (by first | rfl | assumption) (by exact (by first | exact opd_field_ref rfl fo31_1 rfl rfl rfl rfl | exact opd_field_pad rfl fo31_1 rfl rfl))) rfl ?_
        refine dc_cons (q_on_f rfl rfl rfl (by first | rfl | assumption) (by exact (by first | exact opd_load1_ref rfl Tryz.isAgg29 rfl rfl rfl rfl rfl | exact opd_load1_pad rfl Tryz.isAgg29 rfl (by first | omega | assumption) rfl))) rfl ?_
        refine dc_cons (q_on_f rfl rfl rfl (by first | rfl | assumption) (by exact (by first | exact opd_len_sl rfl Tryz.underlying29 rfl | exact opd_len_osl rfl Tryz.underlying29 rfl rfl rfl))) rfl ?_
        refine dc_cons (q_on_f rfl rfl rfl (by first | rfl | assumption) (by exact opd_move rfl rfl)) rfl ?_
        refine dc_cons (q_on_f rfl rfl rfl (by first | rfl | assumption) (by exact (by first | exact opd_field_ref rfl fo31_0 rfl rfl rfl rfl | exact opd_field_pad rfl fo31_0 rfl rfl))) rfl ?_
        refine dc_cons (q_on_f rfl rfl rfl (by first | rfl | assumption) (by exact (by first | exact opd_load1_ref rfl Tryz.isAgg3 rfl rfl rfl rfl rfl | exact opd_load1_pad rfl Tryz.isAgg3 rfl (by first | omega | assumption) rfl))) rfl ?_
        refine dc_cons (q_on_f rfl rfl rfl (by first | rfl | assumption) (by exact (by first | exact x_index_pad rfl so29 rfl rfl (by omega) (by first | exact Int.toNat_natCast _ | rfl) (by assumption) rfl | exact x_index_osl rfl so29 rfl rfl rfl rfl rfl (by omega) (by first | exact Int.toNat_natCast _ | rfl) (by first | omega | assumption) rfl))) rfl ?_
        refine dc_cons (q_on_f rfl rfl rfl (by first | rfl | assumption) (by exact (by first | exact opd_load1_ref rfl Tryz.isAgg3 rfl rfl rfl rfl rfl | exact opd_load1_pad rfl Tryz.isAgg3 rfl (by first | omega | assumption) rfl))) rfl ?_
        refine dc_cons (q_on_f rfl rfl rfl (by first | rfl | assumption) (by exact opd_neq rfl rfl rfl)) rfl ?_
        refine dc_cons (DStep.q rfl (by exact (by first | exact opd_pick_t rfl rfl rfl | exact opd_pick_f rfl rfl rfl | exact opd_pickt rfl rfl (by assumption) rfl | exact opd_pickf rfl rfl (by assumption) rfl | exact opd_pick rfl rfl rfl))) rfl ?_
        refine dc_cons (DStep.q rfl (by exact opd_move rfl rfl)) rfl ?_
        refine dc_cons (q_on_f rfl rfl rfl (by first | rfl | assumption) (by exact (by first | exact opd_field_ref rfl fo31_0 rfl rfl rfl rfl | exact opd_field_pad rfl fo31_0 rfl rfl))) rfl ?_
        refine dc_cons (q_on_f rfl rfl rfl (by first | rfl | assumption) (by exact (by first | exact opd_load1_ref rfl Tryz.isAgg3 rfl rfl rfl rfl rfl | exact opd_load1_pad rfl Tryz.isAgg3 rfl (by first | omega | assumption) rfl))) rfl ?_
        refine dc_cons (q_on_f rfl rfl rfl (by first | rfl | assumption) (by exact opd_eql rfl rfl rfl)) rfl ?_
        refine dc_cons (q_on_f rfl rfl rfl (by first | rfl | assumption) (by exact opd_move rfl rfl)) rfl ?_
        refine dc_cons (q_off_t rfl rfl rfl (by first | rfl | assumption)) rfl ?_
        refine dc_cons (q_off_t rfl rfl rfl (by first | rfl | assumption)) rfl ?_
        refine dc_cons (q_off_t rfl rfl rfl (by first | rfl | assumption)) rfl ?_
        refine dc_cons (q_off_t rfl rfl rfl (by first | rfl | assumption)) rfl ?_
        refine dc_cons (q_off_t rfl rfl rfl (by first | rfl | assumption)) rfl ?_
        refine dc_cons (q_off_t rfl rfl rfl (by first | rfl | assumption)) rfl ?_
        refine dc_cons (q_off_t rfl rfl rfl (by first | rfl | assumption)) rfl ?_
        refine dc_cons (q_off_t rfl rfl rfl (by first | rfl | assumption)) rfl ?_
        refine dc_cons (q_on_f rfl rfl rfl (by first | rfl | assumption) (by exact (by first | exact opd_pick_t rfl rfl rfl | exact opd_pick_f rfl rfl rfl | exact opd_pickt rfl rfl (by assumption) rfl | exact opd_pickf rfl rfl (by assumption) rfl | exact opd_pick rfl rfl rfl))) rfl ?_
        refine dc_cons (DStep.q rfl (by exact (by first | exact opd_pick_t rfl rfl rfl | exact opd_pick_f rfl rfl rfl | exact opd_pickt rfl rfl (by assumption) rfl | exact opd_pickf rfl rfl (by assumption) rfl | exact opd_pick rfl rfl rfl))) rfl ?_
        refine dc_nil ⟨by kernel_rfl, ?_⟩
        exact ⟨rfl, ⟨_, rfl, by first | rfl | (simp only [*]; rfl) | (simp_all; done)⟩, rfl, rfl, rfl⟩
      · refine awp_drawc follows ?_
        refine dc_cons (DStep.q rfl (by exact (by first | exact opd_field_ref rfl fo31_0 rfl rfl rfl rfl | exact opd_field_pad rfl fo31_0 rfl rfl))) rfl ?_
        refine dc_cons (DStep.q rfl (by exact (by first | exact opd_load1_ref rfl Tryz.isAgg3 rfl rfl rfl rfl rfl | exact opd_load1_pad rfl Tryz.isAgg3 rfl (by first | omega | assumption) rfl))) rfl ?_
        refine dc_cons (DStep.q rfl (by exact opd_lss rfl rfl rfl)) rfl ?_
        refine dc_cons (DStep.q rfl (by exact opd_move rfl rfl)) rfl ?_
        refine dc_cons (q_on_f rfl rfl rfl (by first | rfl | assumption) (by exact (by first | exact opd_field_ref rfl fo31_0 rfl rfl rfl rfl | exact opd_field_pad rfl fo31_0 rfl rfl))) rfl ?_
        refine dc_cons (q_on_f rfl rfl rfl (by first | rfl | assumption) (by exact (by first | exact opd_load1_ref rfl Tryz.isAgg3 rfl rfl rfl rfl rfl | exact opd_load1_pad rfl Tryz.isAgg3 rfl (by first | omega | assumption) rfl))) rfl ?_
        refine dc_cons (q_on_f rfl rfl rfl (by first | rfl | assumption) (by exact opd_gtr rfl rfl rfl)) rfl ?_
        refine dc_cons (DStep.q rfl (by exact (by first | exact opd_pick_t rfl rfl rfl | exact opd_pick_f rfl rfl rfl | exact opd_pickt rfl rfl (by assumption) rfl | exact opd_pickf rfl rfl (by assumption) rfl | exact opd_pick rfl rfl rfl))) rfl ?_
        refine dc_cons (DStep.q rfl (by exact opd_move rfl rfl)) rfl ?_
        refine dc_cons (q_on_f rfl rfl rfl (by first | rfl | assumption) (by exact (by first | exact opd_field_ref rfl fo31_1 rfl rfl rfl rfl | exact opd_field_pad rfl fo31_1 rfl rfl))) rfl ?_
        refine dc_cons (q_on_f rfl rfl rfl (by first | rfl | assumption) (by exact (by first | exact opd_load1_ref rfl Tryz.isAgg29 rfl rfl rfl rfl rfl | exact opd_load1_pad rfl Tryz.isAgg29 rfl (by first | omega | assumption) rfl))) rfl ?_
        refine dc_cons (q_on_f rfl rfl rfl (by first | rfl | assumption) (by exact (by first | exact opd_len_sl rfl Tryz.underlying29 rfl | exact opd_len_osl rfl Tryz.underlying29 rfl rfl rfl))) rfl ?_
        refine dc_cons (q_on_f rfl rfl rfl (by first | rfl | assumption) (by exact opd_move rfl rfl)) rfl ?_
        refine dc_cons (q_on_f rfl rfl rfl (by first | rfl | assumption) (by exact (by first | exact opd_field_ref rfl fo31_0 rfl rfl rfl rfl | exact opd_field_pad rfl fo31_0 rfl rfl))) rfl ?_
        refine dc_cons (q_on_f rfl rfl rfl (by first | rfl | assumption) (by exact (by first | exact opd_load1_ref rfl Tryz.isAgg3 rfl rfl rfl rfl rfl | exact opd_load1_pad rfl Tryz.isAgg3 rfl (by first | omega | assumption) rfl))) rfl ?_
        refine dc_cons (q_on_f rfl rfl rfl (by first | rfl | assumption) (by exact (by first | exact x_index_pad rfl so29 rfl rfl (by omega) (by first | exact Int.toNat_natCast _ | rfl) (by assumption) rfl | exact x_index_osl rfl so29 rfl rfl rfl rfl rfl (by omega) (by first | exact Int.toNat_natCast _ | rfl) (by first | omega | assumption) rfl))) rfl ?_
        refine dc_cons (q_on_f rfl rfl rfl (by first | rfl | assumption) (by exact (by first | exact opd_load1_ref rfl Tryz.isAgg3 rfl rfl rfl rfl rfl | exact opd_load1_pad rfl Tryz.isAgg3 rfl (by first | omega | assumption) rfl))) rfl ?_
        refine dc_cons (q_on_f rfl rfl rfl (by first | rfl | assumption) (by exact opd_neq rfl rfl rfl)) rfl ?_
        refine dc_cons (DStep.q rfl (by exact (by first | exact opd_pick_t rfl rfl rfl | exact opd_pick_f rfl rfl rfl | exact opd_pickt rfl rfl (by assumption) rfl | exact opd_pickf rfl rfl (by assumption) rfl | exact opd_pick rfl rfl rfl))) rfl ?_
        refine dc_cons (DStep.q rfl (by exact opd_move rfl rfl)) rfl ?_
        refine dc_cons (q_on_f rfl rfl rfl (by first | rfl | assumption) (by exact (by first | exact opd_field_ref rfl fo31_0 rfl rfl rfl rfl | exact opd_field_pad rfl fo31_0 rfl rfl))) rfl ?_
        refine dc_cons (q_on_f rfl rfl rfl (by first | rfl | assumption) (by exact (by first | exact opd_load1_ref rfl Tryz.isAgg3 rfl rfl rfl rfl rfl | exact opd_load1_pad rfl Tryz.isAgg3 rfl (by first | omega | assumption) rfl))) rfl ?_
        refine dc_cons (q_on_f rfl rfl rfl (by first | rfl | assumption) (by exact opd_eql rfl rfl rfl)) rfl ?_
        refine dc_cons (q_on_f rfl rfl rfl (by first | rfl | assumption) (by exact opd_move rfl rfl)) rfl ?_
        refine dc_cons (q_on_t rfl rfl rfl (by first | rfl | assumption) (by exact opd_move rfl rfl)) rfl ?_
        refine dc_cons (q_on_t rfl rfl rfl (by first | rfl | assumption) (by exact opr_call rfl rfl Tryz.call65 rfl (count_c l _ hl))) rfl ?_
        refine dc_cons (q_on_t rfl rfl rfl (by first | rfl | assumption) (by exact opd_move rfl rfl)) rfl ?_
        refine dc_cons (q_on_t rfl rfl rfl (by first | rfl | assumption) (by exact (by first | exact opd_len_sl rfl Tryz.underlying25 rfl | exact opd_len_osl rfl Tryz.underlying25 rfl rfl rfl))) rfl ?_
        refine dc_cons (q_on_t rfl rfl rfl (by first | rfl | assumption) (by exact opd_move rfl rfl)) rfl ?_
        refine dc_cons (q_on_t rfl rfl rfl (by first | rfl | assumption) (by exact opr_call rfl rfl Tryz.call65 rfl (count_c l _ hl))) rfl ?_
        refine dc_cons (q_on_t rfl rfl rfl (by first | rfl | assumption) (by exact opd_sub rfl rfl rfl (by first | exact w64 (by omega) (by omega) | exact wu8 (by omega) (by omega) | rfl))) rfl ?_
        refine dc_cons (q_on_t rfl rfl rfl (by first | rfl | assumption) (by exact opd_leq rfl rfl rfl)) rfl ?_
        refine dc_cons (q_on_f rfl rfl rfl (by first | rfl | assumption) (by exact (by first | exact opd_pick_t rfl rfl rfl | exact opd_pick_f rfl rfl rfl | exact opd_pickt rfl rfl (by assumption) rfl | exact opd_pickf rfl rfl (by assumption) rfl | exact opd_pick rfl rfl rfl))) rfl ?_
        refine dc_cons (DStep.q rfl (by exact (by first | exact opd_pick_t rfl rfl rfl | exact opd_pick_f rfl rfl rfl | exact opd_pickt rfl rfl (by assumption) rfl | exact opd_pickf rfl rfl (by assumption) rfl | exact opd_pick rfl rfl rfl))) rfl ?_
        refine dc_nil ⟨by kernel_rfl, ?_⟩
        exact ⟨rfl, ⟨_, rfl, by first | rfl | (simp only [*]; rfl) | (simp_all; done)⟩, rfl, rfl, rfl⟩
    · refine awp_drawc follows ?_
      refine dc_cons (DStep.q rfl (by exact (by first | exact opd_field_ref rfl fo31_0 rfl rfl rfl rfl | exact opd_field_pad rfl fo31_0 rfl rfl))) rfl ?_
      refine dc_cons (DStep.q rfl (by exact (by first | exact opd_load1_ref rfl Tryz.isAgg3 rfl rfl rfl rfl rfl | exact opd_load1_pad rfl Tryz.isAgg3 rfl (by first | omega | assumption) rfl))) rfl ?_
      refine dc_cons (DStep.q rfl (by exact opd_lss rfl rfl rfl)) rfl ?_
      refine dc_cons (DStep.q rfl (by exact opd_move rfl rfl)) rfl ?_
      refine dc_cons (q_on_f rfl rfl rfl (by first | rfl | assumption) (by exact (by first | exact opd_field_ref rfl fo31_0 rfl rfl rfl rfl | exact opd_field_pad rfl fo31_0 rfl rfl))) rfl ?_
      refine dc_cons (q_on_f rfl rfl rfl (by first | rfl | assumption) (by exact (by first | exact opd_load1_ref rfl Tryz.isAgg3 rfl rfl rfl rfl rfl | exact opd_load1_pad rfl Tryz.isAgg3 rfl (by first | omega | assumption) rfl))) rfl ?_
      refine dc_cons (q_on_f rfl rfl rfl (by first | rfl | assumption) (by exact opd_gtr rfl rfl rfl)) rfl ?_
      refine dc_cons (DStep.q rfl (by exact (by first | exact opd_pick_t rfl rfl rfl | exact opd_pick_f rfl rfl rfl | exact opd_pickt rfl rfl (by assumption) rfl | exact opd_pickf rfl rfl (by assumption) rfl | exact opd_pick rfl rfl rfl))) rfl ?_
      refine dc_cons (DStep.q rfl (by exact opd_move rfl rfl)) rfl ?_
      refine dc_cons (q_on_f rfl rfl rfl (by first | rfl | assumption) (by exact (by first | exact opd_field_ref rfl fo31_1 rfl rfl rfl rfl | exact opd_field_pad rfl fo31_1 rfl rfl))) rfl ?_
      refine dc_cons (q_on_f rfl rfl rfl (by first | rfl | assumption) (by exact (by first | exact opd_load1_ref rfl Tryz.isAgg29 rfl rfl rfl rfl rfl | exact opd_load1_pad rfl Tryz.isAgg29 rfl (by first | omega | assumption) rfl))) rfl ?_
      refine dc_cons (q_on_f rfl rfl rfl (by first | rfl | assumption) (by exact (by first | exact opd_len_sl rfl Tryz.underlying29 rfl | exact opd_len_osl rfl Tryz.underlying29 rfl rfl rfl))) rfl ?_
      refine dc_cons (q_on_f rfl rfl rfl (by first | rfl | assumption) (by exact opd_move rfl rfl)) rfl ?_
      refine dc_cons (q_on_f rfl rfl rfl (by first | rfl | assumption) (by exact (by first | exact opd_field_ref rfl fo31_0 rfl rfl rfl rfl | exact opd_field_pad rfl fo31_0 rfl rfl))) rfl ?_
      refine dc_cons (q_on_f rfl rfl rfl (by first | rfl | assumption) (by exact (by first | exact opd_load1_ref rfl Tryz.isAgg3 rfl rfl rfl rfl rfl | exact opd_load1_pad rfl Tryz.isAgg3 rfl (by first | omega | assumption) rfl))) rfl ?_
      refine dc_cons (q_on_f rfl rfl rfl (by first | rfl | assumption) (by exact (by first | exact x_index_pad rfl so29 rfl rfl (by omega) (by first | exact Int.toNat_natCast _ | rfl) (by assumption) rfl | exact x_index_osl rfl so29 rfl rfl rfl rfl rfl (by omega) (by first | exact Int.toNat_natCast _ | rfl) (by first | omega | assumption) rfl))) rfl ?_
      refine dc_cons (q_on_f rfl rfl rfl (by first | rfl | assumption) (by exact (by first | exact opd_load1_ref rfl Tryz.isAgg3 rfl rfl rfl rfl rfl | exact opd_load1_pad rfl Tryz.isAgg3 rfl (by first | omega | assumption) rfl))) rfl ?_
      refine dc_cons (q_on_f rfl rfl rfl (by first | rfl | assumption) (by exact opd_neq rfl rfl rfl)) rfl ?_
      refine dc_cons (DStep.q rfl (by exact (by first | exact opd_pick_t rfl rfl rfl | exact opd_pick_f rfl rfl rfl | exact opd_pickt rfl rfl (by assumption) rfl | exact opd_pickf rfl rfl (by assumption) rfl | exact opd_pick rfl rfl rfl))) rfl ?_
      refine dc_cons (DStep.q rfl (by exact opd_move rfl rfl)) rfl ?_
      refine dc_cons (q_off_f rfl rfl rfl (by first | rfl | assumption)) rfl ?_
      refine dc_cons (q_off_f rfl rfl rfl (by first | rfl | assumption)) rfl ?_
      refine dc_cons (q_off_f rfl rfl rfl (by first | rfl | assumption)) rfl ?_
      refine dc_cons (q_off_f rfl rfl rfl (by first | rfl | assumption)) rfl ?_
      refine dc_cons (q_off_u rfl rfl rfl) rfl ?_
      refine dc_cons (q_off_u rfl rfl rfl) rfl ?_
      refine dc_cons (q_off_u rfl rfl rfl) rfl ?_
      refine dc_cons (q_off_u rfl rfl rfl) rfl ?_
      refine dc_cons (q_off_u rfl rfl rfl) rfl ?_
      refine dc_cons (q_off_u rfl rfl rfl) rfl ?_
      refine dc_cons (q_off_u rfl rfl rfl) rfl ?_
      refine dc_cons (q_off_u rfl rfl rfl) rfl ?_
      refine dc_cons (q_off_f rfl rfl rfl (by first | rfl | assumption)) rfl ?_
      refine dc_cons (DStep.q rfl (by exact (by first | exact opd_pick_t rfl rfl rfl | exact opd_pick_f rfl rfl rfl | exact opd_pickt rfl rfl (by assumption) rfl | exact opd_pickf rfl rfl (by assumption) rfl | exact opd_pick rfl rfl rfl))) rfl ?_
      refine dc_nil ⟨by kernel_rfl, ?_⟩
      exact ⟨rfl, ⟨_, rfl, by first | rfl | (simp only [*]; rfl) | (simp_all; done)⟩, rfl, rfl, rfl⟩
  refine awp_cond rfl (fun hc1 => ?_) (fun hc1 => ?_)
  -- cond 1
  · skip
    refine awp_seq ?_
    refine awp_region ?_
    refine al_d rfl rfl rfl (by exact opd_assign rfl rfl) ?_
    refine al_nil ?_
    refine awp_ret ?_
    -- return
    refine aret1 (H' := []) (by first | exact .inr rfl | exact .inl rfl) rfl (rval_tmp rfl) (Fin.wk (by simp) trivial trivial) ?_
    exact ⟨by rw [hc1]; rfl, rfl⟩
  · rw [hc1, Bool.not_false, Bool.true_and]
    refine awp_skip ?_
    refine awp_seq ?_
    refine awp_region ?_
    refine al_d rfl rfl rfl (by exact opd_makeMap (id := 49) strK rfl rfl) ?_
    refine al_d rfl rfl rfl (by exact opd_assign rfl rfl) ?_
    refine al_nil ?_
    refine awp_seq ?_
    refine awp_seq ?_
    refine awp_region ?_
    refine al_d rfl rfl rfl (by exact opd_assign rfl rfl) ?_
    refine al_nil ?_
    refine awp_block ?_
    -- loop
    refine awp_loop (σ := Nat) (fun i => ([(1, .pv (slEdits l)), (3, .ref 3 0 0 0), (5, .ref 5 0 0 0), (8, .mp 49 0), (9, iv (i : Int))], [(49, sob (accH l k (idx.take i))), (5, bx 2 31 [iv (k : Int), .pv (slInts idx)]), (3, bx 1 24 [.pv (slObjs m)])])) (fun i => i ≤ idx.length ∧ ∀ j, j < i → badH m l k idx j = false) (fun i => idx.length - i) 0 ⟨by omega, by omega⟩ ?_ ?_
    · exact (Ent.wk ⟨⟨_, rfl, rfl⟩, (by first | (simp; done) | (simp; rfl) | exact clo_map _ _ _ | exact sob_clo _ _), ⟨_, rfl, rfl⟩, (by first | (simp; done) | (simp; rfl) | exact clo_map _ _ _ | exact sob_clo _ _), ⟨_, rfl, rfl⟩, (by first | (simp; done) | (simp; rfl) | exact clo_map _ _ _ | exact sob_clo _ _), ⟨_, rfl, rfl⟩, (by first | (simp; done) | (simp; rfl) | exact clo_map _ _ _ | exact sob_clo _ _), ⟨_, rfl, rfl⟩, (by first | (simp; done) | (simp; rfl) | exact clo_map _ _ _ | exact sob_clo _ _), trivial⟩ ⟨⟨_, rfl, rfl⟩, (by first | (simp; done) | (simp; rfl) | exact clo_map _ _ _ | exact sob_clo _ _), ⟨_, rfl, rfl⟩, (by first | (simp; done) | (simp; rfl) | exact clo_map _ _ _ | exact sob_clo _ _), ⟨_, rfl, rfl⟩, (by first | (simp; done) | (simp; rfl) | exact clo_map _ _ _ | exact sob_clo _ _), trivial⟩ trivial)
    · rintro i ⟨hi, hno⟩
      refine awp_seq ?_
      refine awp_seq ?_
      refine awp_region ?_
      refine al_d rfl rfl rfl (by exact opd_move rfl rfl) ?_
      refine al_d rfl rfl rfl (by exact (by first | exact opd_field_ref rfl fo31_1 rfl rfl rfl rfl | exact opd_field_pad rfl fo31_1 rfl rfl)) ?_
      refine al_d rfl rfl rfl (by exact (by first | exact opd_load1_ref rfl Tryz.isAgg29 rfl rfl rfl rfl rfl | exact opd_load1_pad rfl Tryz.isAgg29 rfl (by first | omega | assumption) rfl)) ?_
      refine al_d rfl rfl rfl (by exact (by first | exact opd_len_sl rfl Tryz.underlying29 rfl | exact opd_len_osl rfl Tryz.underlying29 rfl rfl rfl)) ?_
      refine al_d rfl rfl rfl (by exact opd_lss rfl rfl rfl) ?_
      refine al_nil ?_
      refine awp_cond rfl (fun hc2 => ?_) (fun hc2 => ?_)
      -- cond 2
      · have hlt : i < idx.length := by have := of_decide_eq_true hc2; omega
        obtain ⟨x, hx⟩ := get_of_lt hlt
        have hxi := map_get (f := encInt) hx
        by_cases hx0 : x < 0
        · have hbad : badH m l k idx i = true := by simp only [badH, hx, decide_eq_true hx0, Bool.true_or]
          have d0 := decide_eq_true hx0
          refine awp_skip ?_
          refine awp_seq ?_
          refine awp_block ?_
          refine awp_seq ?_
          refine awp_region ?_
          refine al_d rfl rfl rfl (by exact (by first | exact opd_field_ref rfl fo31_1 rfl rfl rfl rfl | exact opd_field_pad rfl fo31_1 rfl rfl)) ?_
          refine al_d rfl rfl rfl (by exact (by first | exact opd_load1_ref rfl Tryz.isAgg29 rfl rfl rfl rfl rfl | exact opd_load1_pad rfl Tryz.isAgg29 rfl (by first | omega | assumption) rfl)) ?_
          refine al_d rfl rfl rfl (by exact opd_move rfl rfl) ?_
          refine al_d rfl rfl rfl (by exact (by first | exact x_index_pad rfl so29 rfl rfl (by omega) (by first | exact Int.toNat_natCast _ | rfl) (by assumption) rfl | exact x_index_osl rfl so29 rfl rfl rfl rfl rfl (by omega) (by first | exact Int.toNat_natCast _ | rfl) (by first | omega | assumption) rfl)) ?_
          refine al_d rfl rfl rfl (by exact (by first | exact opd_load1_ref rfl Tryz.isAgg3 rfl rfl rfl rfl rfl | exact opd_load1_pad rfl Tryz.isAgg3 rfl (by first | omega | assumption) rfl)) ?_
          refine al_d rfl rfl rfl (by exact opd_assign rfl rfl) ?_
          refine al_nil ?_
          refine awp_seq ?_
          refine awp_seq ?_
          refine awp_drawc follows ?_
          refine dc_cons (DStep.q rfl (by exact opd_move rfl rfl)) rfl ?_
          refine dc_cons (DStep.q rfl (by exact opd_lss rfl rfl rfl)) rfl ?_
          refine dc_cons (DStep.q rfl (by exact opd_move rfl rfl)) rfl ?_
          refine dc_cons (q_off_f rfl rfl rfl (by first | rfl | assumption)) rfl ?_
          refine dc_cons (q_off_f rfl rfl rfl (by first | rfl | assumption)) rfl ?_
          refine dc_cons (q_off_f rfl rfl rfl (by first | rfl | assumption)) rfl ?_
          refine dc_cons (q_off_f rfl rfl rfl (by first | rfl | assumption)) rfl ?_
          refine dc_cons (DStep.q rfl (by exact (by first | exact opd_pick_t rfl rfl rfl | exact opd_pick_f rfl rfl rfl | exact opd_pickt rfl rfl (by assumption) rfl | exact opd_pickf rfl rfl (by assumption) rfl | exact opd_pick rfl rfl rfl))) rfl ?_
          refine dc_cons (DStep.q rfl (by exact opd_move rfl rfl)) rfl ?_
          refine dc_cons (q_off_f rfl rfl rfl (by first | rfl | assumption)) rfl ?_
          refine dc_cons (q_off_f rfl rfl rfl (by first | rfl | assumption)) rfl ?_
          refine dc_cons (q_off_f rfl rfl rfl (by first | rfl | assumption)) rfl ?_
          refine dc_cons (q_off_u rfl rfl rfl) rfl ?_
          refine dc_cons (q_off_u rfl rfl rfl) rfl ?_
          refine dc_cons (q_off_u rfl rfl rfl) rfl ?_
          refine dc_cons (q_off_u rfl rfl rfl) rfl ?_
          refine dc_cons (q_off_u rfl rfl rfl) rfl ?_
          refine dc_cons (q_off_u rfl rfl rfl) rfl ?_
          refine dc_cons (q_off_u rfl rfl rfl) rfl ?_
          refine dc_cons (q_off_u rfl rfl rfl) rfl ?_
          refine dc_cons (q_off_f rfl rfl rfl (by first | rfl | assumption)) rfl ?_
          refine dc_cons (DStep.q rfl (by exact (by first | exact opd_pick_t rfl rfl rfl | exact opd_pick_f rfl rfl rfl | exact opd_pickt rfl rfl (by assumption) rfl | exact opd_pickf rfl rfl (by assumption) rfl | exact opd_pick rfl rfl rfl))) rfl ?_
          refine dc_cons (DStep.q rfl (by exact opd_move rfl rfl)) rfl ?_
          refine dc_cons (q_off_f rfl rfl rfl (by first | rfl | assumption)) rfl ?_
          refine dc_cons (q_off_f rfl rfl rfl (by first | rfl | assumption)) rfl ?_
          refine dc_cons (q_off_f rfl rfl rfl (by first | rfl | assumption)) rfl ?_
          refine dc_cons (q_off_f rfl rfl rfl (by first | rfl | assumption)) rfl ?_
          refine dc_cons (q_off_f rfl rfl rfl (by first | rfl | assumption)) rfl ?_
          refine dc_cons (q_off_f rfl rfl rfl (by first | rfl | assumption)) rfl ?_
          refine dc_cons (q_off_f rfl rfl rfl (by first | rfl | assumption)) rfl ?_
          refine dc_cons (q_off_f rfl rfl rfl (by first | rfl | assumption)) rfl ?_
          refine dc_cons (q_off_f rfl rfl rfl (by first | rfl | assumption)) rfl ?_
          refine dc_cons (DStep.q rfl (by exact (by first | exact opd_pick_t rfl rfl rfl | exact opd_pick_f rfl rfl rfl | exact opd_pickt rfl rfl (by assumption) rfl | exact opd_pickf rfl rfl (by assumption) rfl | exact opd_pick rfl rfl rfl))) rfl ?_
          refine dc_nil ⟨by kernel_rfl, ?_⟩
          refine awp_cond rfl (fun hc3 => ?_) (fun hc3 => ?_)
          -- cond 3
          · skip
            refine awp_seq ?_
            refine awp_region ?_
            refine al_d rfl rfl rfl (by exact opd_assign rfl rfl) ?_
            refine al_nil ?_
            refine awp_ret ?_
            -- return
            refine aret1 (H' := []) (by first | exact .inr rfl | exact .inl rfl) rfl (rval_tmp rfl) (Fin.wk (by simp) trivial trivial) ?_
            exact ⟨by rw [range_any_true hlt hbad]; rfl, rfl⟩
          · cases hc3
        · have d0 := decide_eq_false hx0
          by_cases hx1 : (l.length : Int) ≤ x
          · have d1 := decide_eq_true hx1
            have hbad : badH m l k idx i = true := by simp only [badH, hx, d1, Bool.true_or, Bool.or_true]
            rw [← hml] at d1
            refine awp_skip ?_
            refine awp_seq ?_
            refine awp_block ?_
            refine awp_seq ?_
            refine awp_region ?_
            refine al_d rfl rfl rfl (by exact (by first | exact opd_field_ref rfl fo31_1 rfl rfl rfl rfl | exact opd_field_pad rfl fo31_1 rfl rfl)) ?_
            refine al_d rfl rfl rfl (by exact (by first | exact opd_load1_ref rfl Tryz.isAgg29 rfl rfl rfl rfl rfl | exact opd_load1_pad rfl Tryz.isAgg29 rfl (by first | omega | assumption) rfl)) ?_
            refine al_d rfl rfl rfl (by exact opd_move rfl rfl) ?_
            refine al_d rfl rfl rfl (by exact (by first | exact x_index_pad rfl so29 rfl rfl (by omega) (by first | exact Int.toNat_natCast _ | rfl) (by assumption) rfl | exact x_index_osl rfl so29 rfl rfl rfl rfl rfl (by omega) (by first | exact Int.toNat_natCast _ | rfl) (by first | omega | assumption) rfl)) ?_
            refine al_d rfl rfl rfl (by exact (by first | exact opd_load1_ref rfl Tryz.isAgg3 rfl rfl rfl rfl rfl | exact opd_load1_pad rfl Tryz.isAgg3 rfl (by first | omega | assumption) rfl)) ?_
            refine al_d rfl rfl rfl (by exact opd_assign rfl rfl) ?_
            refine al_nil ?_
            refine awp_seq ?_
            refine awp_seq ?_
            refine awp_drawc follows ?_
            refine dc_cons (DStep.q rfl (by exact opd_move rfl rfl)) rfl ?_
            refine dc_cons (DStep.q rfl (by exact opd_lss rfl rfl rfl)) rfl ?_
            refine dc_cons (DStep.q rfl (by exact opd_move rfl rfl)) rfl ?_
            refine dc_cons (q_on_f rfl rfl rfl (by first | rfl | assumption) (by exact opd_move rfl rfl)) rfl ?_
            refine dc_cons (q_on_f rfl rfl rfl (by first | rfl | assumption) (by exact opd_move rfl rfl)) rfl ?_
            refine dc_cons (q_on_f rfl rfl rfl (by first | rfl | assumption) (by exact (by first | exact opd_len_sl rfl Tryz.underlying25 rfl | exact opd_len_osl rfl Tryz.underlying25 rfl rfl rfl))) rfl ?_
            refine dc_cons (q_on_f rfl rfl rfl (by first | rfl | assumption) (by exact opd_geq rfl rfl rfl)) rfl ?_
            refine dc_cons (DStep.q rfl (by exact (by first | exact opd_pick_t rfl rfl rfl | exact opd_pick_f rfl rfl rfl | exact opd_pickt rfl rfl (by assumption) rfl | exact opd_pickf rfl rfl (by assumption) rfl | exact opd_pick rfl rfl rfl))) rfl ?_
            refine dc_cons (DStep.q rfl (by exact opd_move rfl rfl)) rfl ?_
            refine dc_cons (q_off_f rfl rfl rfl (by first | rfl | assumption)) rfl ?_
            refine dc_cons (q_off_f rfl rfl rfl (by first | rfl | assumption)) rfl ?_
            refine dc_cons (q_off_f rfl rfl rfl (by first | rfl | assumption)) rfl ?_
            refine dc_cons (q_off_u rfl rfl rfl) rfl ?_
            refine dc_cons (q_off_u rfl rfl rfl) rfl ?_
            refine dc_cons (q_off_u rfl rfl rfl) rfl ?_
            refine dc_cons (q_off_u rfl rfl rfl) rfl ?_
            refine dc_cons (q_off_u rfl rfl rfl) rfl ?_
            refine dc_cons (q_off_u rfl rfl rfl) rfl ?_
            refine dc_cons (q_off_u rfl rfl rfl) rfl ?_
            refine dc_cons (q_off_u rfl rfl rfl) rfl ?_
            refine dc_cons (q_off_f rfl rfl rfl (by first | rfl | assumption)) rfl ?_
            refine dc_cons (DStep.q rfl (by exact (by first | exact opd_pick_t rfl rfl rfl | exact opd_pick_f rfl rfl rfl | exact opd_pickt rfl rfl (by assumption) rfl | exact opd_pickf rfl rfl (by assumption) rfl | exact opd_pick rfl rfl rfl))) rfl ?_
            refine dc_cons (DStep.q rfl (by exact opd_move rfl rfl)) rfl ?_
            refine dc_cons (q_off_f rfl rfl rfl (by first | rfl | assumption)) rfl ?_
            refine dc_cons (q_off_f rfl rfl rfl (by first | rfl | assumption)) rfl ?_
            refine dc_cons (q_off_f rfl rfl rfl (by first | rfl | assumption)) rfl ?_
            refine dc_cons (q_off_f rfl rfl rfl (by first | rfl | assumption)) rfl ?_
            refine dc_cons (q_off_f rfl rfl rfl (by first | rfl | assumption)) rfl ?_
            refine dc_cons (q_off_f rfl rfl rfl (by first | rfl | assumption)) rfl ?_
            refine dc_cons (q_off_f rfl rfl rfl (by first | rfl | assumption)) rfl ?_
            refine dc_cons (q_off_f rfl rfl rfl (by first | rfl | assumption)) rfl ?_
            refine dc_cons (q_off_f rfl rfl rfl (by first | rfl | assumption)) rfl ?_
            refine dc_cons (DStep.q rfl (by exact (by first | exact opd_pick_t rfl rfl rfl | exact opd_pick_f rfl rfl rfl | exact opd_pickt rfl rfl (by assumption) rfl | exact opd_pickf rfl rfl (by assumption) rfl | exact opd_pick rfl rfl rfl))) rfl ?_
            refine dc_nil ⟨by kernel_rfl, ?_⟩
            refine awp_cond rfl (fun hc4 => ?_) (fun hc4 => ?_)
            -- cond 4
            · skip
              refine awp_seq ?_
              refine awp_region ?_
              refine al_d rfl rfl rfl (by exact opd_assign rfl rfl) ?_
              refine al_nil ?_
              refine awp_ret ?_
              -- return
              refine aret1 (H' := []) (by first | exact .inr rfl | exact .inl rfl) rfl (rval_tmp rfl) (Fin.wk (by simp) trivial trivial) ?_
              exact ⟨by rw [range_any_true hlt hbad]; rfl, rfl⟩
            · cases hc4
          · have d1 := decide_eq_false hx1
            obtain ⟨p, rfl⟩ : ∃ p : Nat, x = (p : Int) := ⟨x.toNat, by omega⟩
            obtain ⟨e, he⟩ := get_of_lt (l := l) (k := p) (by omega)
            have hee := map_get (f := encEdit) he
            have hea := edAt_nat he
            have hte := htl e (List.mem_of_getElem? he)
            have hpv : 0 < i → (idx.map encInt)[i - 1]? = some (encInt (prevI idx i)) := fun h => by
              obtain ⟨q, rfl⟩ : ∃ q, i = q + 1 := ⟨i - 1, by omega⟩
              obtain ⟨y, hy⟩ := get_of_lt (l := idx) (k := q) (by omega)
              rw [show q + 1 - 1 = q from rfl, prevI, hy]
              exact map_get (f := encInt) hy
            have hbe : badH m l k idx i = (((decide ((0 : Int) < (i : Int)) && decide ((p : Int) ≤ prevI idx i)) || !eShows k m e) || (decide (k = 4) && !eSame e (edAt l ((idx[0]?).getD 0)))) := by
              simp only [badH, hx, hea, d0, d1, Bool.false_or]
            rw [← hml] at d1
            refine awp_skip ?_
            refine awp_seq ?_
            refine awp_block ?_
            refine awp_seq ?_
            refine awp_region ?_
            refine al_d rfl rfl rfl (by exact (by first | exact opd_field_ref rfl fo31_1 rfl rfl rfl rfl | exact opd_field_pad rfl fo31_1 rfl rfl)) ?_
            refine al_d rfl rfl rfl (by exact (by first | exact opd_load1_ref rfl Tryz.isAgg29 rfl rfl rfl rfl rfl | exact opd_load1_pad rfl Tryz.isAgg29 rfl (by first | omega | assumption) rfl)) ?_
            refine al_d rfl rfl rfl (by exact opd_move rfl rfl) ?_
            refine al_d rfl rfl rfl (by exact (by first | exact x_index_pad rfl so29 rfl rfl (by omega) (by first | exact Int.toNat_natCast _ | rfl) (by assumption) rfl | exact x_index_osl rfl so29 rfl rfl rfl rfl rfl (by omega) (by first | exact Int.toNat_natCast _ | rfl) (by first | omega | assumption) rfl)) ?_
            refine al_d rfl rfl rfl (by exact (by first | exact opd_load1_ref rfl Tryz.isAgg3 rfl rfl rfl rfl rfl | exact opd_load1_pad rfl Tryz.isAgg3 rfl (by first | omega | assumption) rfl)) ?_
            refine al_d rfl rfl rfl (by exact opd_assign rfl rfl) ?_
            refine al_nil ?_
            refine awp_seq ?_
            refine awp_seq ?_
            refine awp_mergeR (t := 94) (n := 33) (X := (decide ((0 : Int) < (i : Int)) && decide ((p : Int) ≤ prevI idx i)) || !eShows k m e) ?_ ?_
            · cases hg73 : (decide ((0 : Int) < (i : Int)) : Bool)
              · refine awp_drawc follows ?_
                refine dc_cons (DStep.q rfl (by exact opd_move rfl rfl)) rfl ?_
                refine dc_cons (DStep.q rfl (by exact opd_lss rfl rfl rfl)) rfl ?_
                refine dc_cons (DStep.q rfl (by exact opd_move rfl rfl)) rfl ?_
                refine dc_cons (q_on_f rfl rfl rfl (by first | rfl | assumption) (by exact opd_move rfl rfl)) rfl ?_
                refine dc_cons (q_on_f rfl rfl rfl (by first | rfl | assumption) (by exact opd_move rfl rfl)) rfl ?_
                refine dc_cons (q_on_f rfl rfl rfl (by first | rfl | assumption) (by exact (by first | exact opd_len_sl rfl Tryz.underlying25 rfl | exact opd_len_osl rfl Tryz.underlying25 rfl rfl rfl))) rfl ?_
                refine dc_cons (q_on_f rfl rfl rfl (by first | rfl | assumption) (by exact opd_geq rfl rfl rfl)) rfl ?_
                refine dc_cons (DStep.q rfl (by exact (by first | exact opd_pick_t rfl rfl rfl | exact opd_pick_f rfl rfl rfl | exact opd_pickt rfl rfl (by assumption) rfl | exact opd_pickf rfl rfl (by assumption) rfl | exact opd_pick rfl rfl rfl))) rfl ?_
                refine dc_cons (DStep.q rfl (by exact opd_move rfl rfl)) rfl ?_
                refine dc_cons (q_on_f rfl rfl rfl (by first | rfl | assumption) (by exact opd_move rfl rfl)) rfl ?_
                refine dc_cons (q_on_f rfl rfl rfl (by first | rfl | assumption) (by exact opd_gtr rfl rfl rfl)) rfl ?_
                refine dc_cons (q_on_f rfl rfl rfl (by first | rfl | assumption) (by exact opd_move rfl rfl)) rfl ?_
                refine dc_cons (q_off_t rfl rfl rfl (by first | rfl | assumption)) rfl ?_
                refine dc_cons (q_off_t rfl rfl rfl (by first | rfl | assumption)) rfl ?_
                refine dc_cons (q_off_t rfl rfl rfl (by first | rfl | assumption)) rfl ?_
                refine dc_cons (q_off_t rfl rfl rfl (by first | rfl | assumption)) rfl ?_
                refine dc_cons (q_off_t rfl rfl rfl (by first | rfl | assumption)) rfl ?_
                refine dc_cons (q_off_t rfl rfl rfl (by first | rfl | assumption)) rfl ?_
                refine dc_cons (q_off_t rfl rfl rfl (by first | rfl | assumption)) rfl ?_
                refine dc_cons (q_off_t rfl rfl rfl (by first | rfl | assumption)) rfl ?_
                refine dc_cons (q_on_f rfl rfl rfl (by first | rfl | assumption) (by exact (by first | exact opd_pick_t rfl rfl rfl | exact opd_pick_f rfl rfl rfl | exact opd_pickt rfl rfl (by assumption) rfl | exact opd_pickf rfl rfl (by assumption) rfl | exact opd_pick rfl rfl rfl))) rfl ?_
                refine dc_cons (DStep.q rfl (by exact (by first | exact opd_pick_t rfl rfl rfl | exact opd_pick_f rfl rfl rfl | exact opd_pickt rfl rfl (by assumption) rfl | exact opd_pickf rfl rfl (by assumption) rfl | exact opd_pick rfl rfl rfl))) rfl ?_
                refine dc_cons (DStep.q rfl (by exact opd_move rfl rfl)) rfl ?_
                refine dc_cons (q_on_f rfl rfl rfl (by first | rfl | assumption) (by exact (by first | exact opd_loadn_ref rfl Tryz.isAgg24 Tryz.sizeOf24 rfl rfl rfl rfl (by simp only [List.drop_succ_cons, List.drop_zero, List.take_succ_cons, List.take_zero, List.take_nil, List.map_cons, List.map_nil, List.set_cons_zero, List.set_cons_succ, List.cons_append, List.nil_append, encTag, encObj, encStr, encEdit, encInt]; rfl) rfl | exact opd_loadn_pad rfl Tryz.isAgg24 Tryz.sizeOf24 rfl (by first | omega | assumption) (by simp only [List.drop_succ_cons, List.drop_zero, List.take_succ_cons, List.take_zero, List.take_nil, List.map_cons, List.map_nil, List.set_cons_zero, List.set_cons_succ, List.cons_append, List.nil_append, encTag, encObj, encStr, encEdit, encInt]; rfl) rfl))) rfl ?_
                refine dc_cons (q_on_f rfl rfl rfl (by first | rfl | assumption) (by exact opd_move rfl rfl)) rfl ?_
                refine dc_cons (q_on_f rfl rfl rfl (by first | rfl | assumption) (by exact opd_move rfl rfl)) rfl ?_
                refine dc_cons (q_on_f rfl rfl rfl (by first | rfl | assumption) (by exact (by first | exact x_index_pad rfl so25 rfl rfl (by omega) (by first | exact Int.toNat_natCast _ | rfl) (by assumption) rfl | exact x_index_osl rfl so25 rfl rfl rfl rfl rfl (by omega) (by first | exact Int.toNat_natCast _ | rfl) (by first | omega | assumption) rfl))) rfl ?_
                refine dc_cons (q_on_f rfl rfl rfl (by first | rfl | assumption) (by exact (by first | exact opd_loadn_ref rfl Tryz.isAgg44 Tryz.sizeOf44 rfl rfl rfl rfl (by simp only [List.drop_succ_cons, List.drop_zero, List.take_succ_cons, List.take_zero, List.take_nil, List.map_cons, List.map_nil, List.set_cons_zero, List.set_cons_succ, List.cons_append, List.nil_append, encTag, encObj, encStr, encEdit, encInt]; rfl) rfl | exact opd_loadn_pad rfl Tryz.isAgg44 Tryz.sizeOf44 rfl (by first | omega | assumption) (by simp only [List.drop_succ_cons, List.drop_zero, List.take_succ_cons, List.take_zero, List.take_nil, List.map_cons, List.map_nil, List.set_cons_zero, List.set_cons_succ, List.cons_append, List.nil_append, encTag, encObj, encStr, encEdit, encInt]; rfl) rfl))) rfl ?_
                refine dc_cons (q_on_f rfl rfl rfl (by first | rfl | assumption) (by exact (by first | exact opd_field_ref rfl fo31_0 rfl rfl rfl rfl | exact opd_field_pad rfl fo31_0 rfl rfl))) rfl ?_
                refine dc_cons (q_on_f rfl rfl rfl (by first | rfl | assumption) (by exact (by first | exact opd_load1_ref rfl Tryz.isAgg3 rfl rfl rfl rfl rfl | exact opd_load1_pad rfl Tryz.isAgg3 rfl (by first | omega | assumption) rfl))) rfl ?_
                refine dc_cons (q_on_f rfl rfl rfl (by first | rfl | assumption) (by exact opr_call rfl rfl Tryz.call66 rfl (one_c k m e _ hm h1 h4))) rfl ?_
                refine dc_cons (q_on_f rfl rfl rfl (by first | rfl | assumption) (by exact opd_not rfl rfl)) rfl ?_
                refine dc_cons (DStep.q rfl (by exact (by first | exact opd_pick_t rfl rfl rfl | exact opd_pick_f rfl rfl rfl | exact opd_pickt rfl rfl (by assumption) rfl | exact opd_pickf rfl rfl (by assumption) rfl | exact opd_pick rfl rfl rfl))) rfl ?_
                refine dc_nil ⟨by kernel_rfl, ?_⟩
                exact ⟨rfl, ⟨_, rfl, by first | rfl | (simp only [*]; rfl) | (simp_all; done)⟩, rfl, rfl, rfl⟩
              · cases hg84 : (decide ((p : Int) ≤ prevI idx i) : Bool)
                · refine awp_drawc follows ?_
                  refine dc_cons (DStep.q rfl (by exact opd_move rfl rfl)) rfl ?_
                  refine dc_cons (DStep.q rfl (by exact opd_lss rfl rfl rfl)) rfl ?_
                  refine dc_cons (DStep.q rfl (by exact opd_move rfl rfl)) rfl ?_
                  refine dc_cons (q_on_f rfl rfl rfl (by first | rfl | assumption) (by exact opd_move rfl rfl)) rfl ?_
                  refine dc_cons (q_on_f rfl rfl rfl (by first | rfl | assumption) (by exact opd_move rfl rfl)) rfl ?_
                  refine dc_cons (q_on_f rfl rfl rfl (by first | rfl | assumption) (by exact (by first | exact opd_len_sl rfl Tryz.underlying25 rfl | exact opd_len_osl rfl Tryz.underlying25 rfl rfl rfl))) rfl ?_
                  refine dc_cons (q_on_f rfl rfl rfl (by first | rfl | assumption) (by exact opd_geq rfl rfl rfl)) rfl ?_
                  refine dc_cons (DStep.q rfl (by exact (by first | exact opd_pick_t rfl rfl rfl | exact opd_pick_f rfl rfl rfl | exact opd_pickt rfl rfl (by assumption) rfl | exact opd_pickf rfl rfl (by assumption) rfl | exact opd_pick rfl rfl rfl))) rfl ?_
                  refine dc_cons (DStep.q rfl (by exact opd_move rfl rfl)) rfl ?_
                  refine dc_cons (q_on_f rfl rfl rfl (by first | rfl | assumption) (by exact opd_move rfl rfl)) rfl ?_
                  refine dc_cons (q_on_f rfl rfl rfl (by first | rfl | assumption) (by exact opd_gtr rfl rfl rfl)) rfl ?_
                  refine dc_cons (q_on_f rfl rfl rfl (by first | rfl | assumption) (by exact opd_move rfl rfl)) rfl ?_
                  refine dc_cons (q_on_t rfl rfl rfl (by first | rfl | assumption) (by exact opd_move rfl rfl)) rfl ?_
                  refine dc_cons (q_on_t rfl rfl rfl (by first | rfl | assumption) (by exact (by first | exact opd_field_ref rfl fo31_1 rfl rfl rfl rfl | exact opd_field_pad rfl fo31_1 rfl rfl))) rfl ?_
                  refine dc_cons (q_on_t rfl rfl rfl (by first | rfl | assumption) (by exact (by first | exact opd_load1_ref rfl Tryz.isAgg29 rfl rfl rfl rfl rfl | exact opd_load1_pad rfl Tryz.isAgg29 rfl (by first | omega | assumption) rfl))) rfl ?_
                  refine dc_cons (q_on_t rfl rfl rfl (by first | rfl | assumption) (by exact opd_move rfl rfl)) rfl ?_
                  refine dc_cons (q_on_t rfl rfl rfl (by first | rfl | assumption) (by exact opd_sub rfl rfl rfl (by first | exact w64 (by omega) (by omega) | exact wu8 (by omega) (by omega) | rfl))) rfl ?_
                  refine dc_cons (q_on_t rfl rfl rfl (by first | rfl | assumption) (by exact x_index_pad rfl so29 rfl rfl (by have := of_decide_eq_true hg73; omega) (show ((i : Int) - 1).toNat = i - 1 by omega) (hpv (by have := of_decide_eq_true hg73; omega)) rfl)) rfl ?_
                  refine dc_cons (q_on_t rfl rfl rfl (by first | rfl | assumption) (by exact opd_load1_pad rfl Tryz.isAgg3 rfl (hpv (by have := of_decide_eq_true hg73; omega)) rfl)) rfl ?_
                  refine dc_cons (q_on_t rfl rfl rfl (by first | rfl | assumption) (by exact opd_leq rfl rfl rfl)) rfl ?_
                  refine dc_cons (q_on_f rfl rfl rfl (by first | rfl | assumption) (by exact (by first | exact opd_pick_t rfl rfl rfl | exact opd_pick_f rfl rfl rfl | exact opd_pickt rfl rfl (by assumption) rfl | exact opd_pickf rfl rfl (by assumption) rfl | exact opd_pick rfl rfl rfl))) rfl ?_
                  refine dc_cons (DStep.q rfl (by exact (by first | exact opd_pick_t rfl rfl rfl | exact opd_pick_f rfl rfl rfl | exact opd_pickt rfl rfl (by assumption) rfl | exact opd_pickf rfl rfl (by assumption) rfl | exact opd_pick rfl rfl rfl))) rfl ?_
                  refine dc_cons (DStep.q rfl (by exact opd_move rfl rfl)) rfl ?_
                  refine dc_cons (q_on_f rfl rfl rfl (by first | rfl | assumption) (by exact (by first | exact opd_loadn_ref rfl Tryz.isAgg24 Tryz.sizeOf24 rfl rfl rfl rfl (by simp only [List.drop_succ_cons, List.drop_zero, List.take_succ_cons, List.take_zero, List.take_nil, List.map_cons, List.map_nil, List.set_cons_zero, List.set_cons_succ, List.cons_append, List.nil_append, encTag, encObj, encStr, encEdit, encInt]; rfl) rfl | exact opd_loadn_pad rfl Tryz.isAgg24 Tryz.sizeOf24 rfl (by first | omega | assumption) (by simp only [List.drop_succ_cons, List.drop_zero, List.take_succ_cons, List.take_zero, List.take_nil, List.map_cons, List.map_nil, List.set_cons_zero, List.set_cons_succ, List.cons_append, List.nil_append, encTag, encObj, encStr, encEdit, encInt]; rfl) rfl))) rfl ?_
                  refine dc_cons (q_on_f rfl rfl rfl (by first | rfl | assumption) (by exact opd_move rfl rfl)) rfl ?_
                  refine dc_cons (q_on_f rfl rfl rfl (by first | rfl | assumption) (by exact opd_move rfl rfl)) rfl ?_
                  refine dc_cons (q_on_f rfl rfl rfl (by first | rfl | assumption) (by exact (by first | exact x_index_pad rfl so25 rfl rfl (by omega) (by first | exact Int.toNat_natCast _ | rfl) (by assumption) rfl | exact x_index_osl rfl so25 rfl rfl rfl rfl rfl (by omega) (by first | exact Int.toNat_natCast _ | rfl) (by first | omega | assumption) rfl))) rfl ?_
                  refine dc_cons (q_on_f rfl rfl rfl (by first | rfl | assumption) (by exact (by first | exact opd_loadn_ref rfl Tryz.isAgg44 Tryz.sizeOf44 rfl rfl rfl rfl (by simp only [List.drop_succ_cons, List.drop_zero, List.take_succ_cons, List.take_zero, List.take_nil, List.map_cons, List.map_nil, List.set_cons_zero, List.set_cons_succ, List.cons_append, List.nil_append, encTag, encObj, encStr, encEdit, encInt]; rfl) rfl | exact opd_loadn_pad rfl Tryz.isAgg44 Tryz.sizeOf44 rfl (by first | omega | assumption) (by simp only [List.drop_succ_cons, List.drop_zero, List.take_succ_cons, List.take_zero, List.take_nil, List.map_cons, List.map_nil, List.set_cons_zero, List.set_cons_succ, List.cons_append, List.nil_append, encTag, encObj, encStr, encEdit, encInt]; rfl) rfl))) rfl ?_
                  refine dc_cons (q_on_f rfl rfl rfl (by first | rfl | assumption) (by exact (by first | exact opd_field_ref rfl fo31_0 rfl rfl rfl rfl | exact opd_field_pad rfl fo31_0 rfl rfl))) rfl ?_
                  refine dc_cons (q_on_f rfl rfl rfl (by first | rfl | assumption) (by exact (by first | exact opd_load1_ref rfl Tryz.isAgg3 rfl rfl rfl rfl rfl | exact opd_load1_pad rfl Tryz.isAgg3 rfl (by first | omega | assumption) rfl))) rfl ?_
                  refine dc_cons (q_on_f rfl rfl rfl (by first | rfl | assumption) (by exact opr_call rfl rfl Tryz.call66 rfl (one_c k m e _ hm h1 h4))) rfl ?_
                  refine dc_cons (q_on_f rfl rfl rfl (by first | rfl | assumption) (by exact opd_not rfl rfl)) rfl ?_
                  refine dc_cons (DStep.q rfl (by exact (by first | exact opd_pick_t rfl rfl rfl | exact opd_pick_f rfl rfl rfl | exact opd_pickt rfl rfl (by assumption) rfl | exact opd_pickf rfl rfl (by assumption) rfl | exact opd_pick rfl rfl rfl))) rfl ?_
                  refine dc_nil ⟨by kernel_rfl, ?_⟩
                  exact ⟨rfl, ⟨_, rfl, by first | rfl | (simp only [*]; rfl) | (simp_all; done)⟩, rfl, rfl, rfl⟩
                · refine awp_drawc follows ?_
                  refine dc_cons (DStep.q rfl (by exact opd_move rfl rfl)) rfl ?_
                  refine dc_cons (DStep.q rfl (by exact opd_lss rfl rfl rfl)) rfl ?_
                  refine dc_cons (DStep.q rfl (by exact opd_move rfl rfl)) rfl ?_
                  refine dc_cons (q_on_f rfl rfl rfl (by first | rfl | assumption) (by exact opd_move rfl rfl)) rfl ?_
                  refine dc_cons (q_on_f rfl rfl rfl (by first | rfl | assumption) (by exact opd_move rfl rfl)) rfl ?_
                  refine dc_cons (q_on_f rfl rfl rfl (by first | rfl | assumption) (by exact (by first | exact opd_len_sl rfl Tryz.underlying25 rfl | exact opd_len_osl rfl Tryz.underlying25 rfl rfl rfl))) rfl ?_
                  refine dc_cons (q_on_f rfl rfl rfl (by first | rfl | assumption) (by exact opd_geq rfl rfl rfl)) rfl ?_
                  refine dc_cons (DStep.q rfl (by exact (by first | exact opd_pick_t rfl rfl rfl | exact opd_pick_f rfl rfl rfl | exact opd_pickt rfl rfl (by assumption) rfl | exact opd_pickf rfl rfl (by assumption) rfl | exact opd_pick rfl rfl rfl))) rfl ?_
                  refine dc_cons (DStep.q rfl (by exact opd_move rfl rfl)) rfl ?_
                  refine dc_cons (q_on_f rfl rfl rfl (by first | rfl | assumption) (by exact opd_move rfl rfl)) rfl ?_
                  refine dc_cons (q_on_f rfl rfl rfl (by first | rfl | assumption) (by exact opd_gtr rfl rfl rfl)) rfl ?_
                  refine dc_cons (q_on_f rfl rfl rfl (by first | rfl | assumption) (by exact opd_move rfl rfl)) rfl ?_
                  refine dc_cons (q_on_t rfl rfl rfl (by first | rfl | assumption) (by exact opd_move rfl rfl)) rfl ?_
                  refine dc_cons (q_on_t rfl rfl rfl (by first | rfl | assumption) (by exact (by first | exact opd_field_ref rfl fo31_1 rfl rfl rfl rfl | exact opd_field_pad rfl fo31_1 rfl rfl))) rfl ?_
                  refine dc_cons (q_on_t rfl rfl rfl (by first | rfl | assumption) (by exact (by first | exact opd_load1_ref rfl Tryz.isAgg29 rfl rfl rfl rfl rfl | exact opd_load1_pad rfl Tryz.isAgg29 rfl (by first | omega | assumption) rfl))) rfl ?_
                  refine dc_cons (q_on_t rfl rfl rfl (by first | rfl | assumption) (by exact opd_move rfl rfl)) rfl ?_
                  refine dc_cons (q_on_t rfl rfl rfl (by first | rfl | assumption) (by exact opd_sub rfl rfl rfl (by first | exact w64 (by omega) (by omega) | exact wu8 (by omega) (by omega) | rfl))) rfl ?_
                  refine dc_cons (q_on_t rfl rfl rfl (by first | rfl | assumption) (by exact x_index_pad rfl so29 rfl rfl (by have := of_decide_eq_true hg73; omega) (show ((i : Int) - 1).toNat = i - 1 by omega) (hpv (by have := of_decide_eq_true hg73; omega)) rfl)) rfl ?_
                  refine dc_cons (q_on_t rfl rfl rfl (by first | rfl | assumption) (by exact opd_load1_pad rfl Tryz.isAgg3 rfl (hpv (by have := of_decide_eq_true hg73; omega)) rfl)) rfl ?_
                  refine dc_cons (q_on_t rfl rfl rfl (by first | rfl | assumption) (by exact opd_leq rfl rfl rfl)) rfl ?_
                  refine dc_cons (q_on_f rfl rfl rfl (by first | rfl | assumption) (by exact (by first | exact opd_pick_t rfl rfl rfl | exact opd_pick_f rfl rfl rfl | exact opd_pickt rfl rfl (by assumption) rfl | exact opd_pickf rfl rfl (by assumption) rfl | exact opd_pick rfl rfl rfl))) rfl ?_
                  refine dc_cons (DStep.q rfl (by exact (by first | exact opd_pick_t rfl rfl rfl | exact opd_pick_f rfl rfl rfl | exact opd_pickt rfl rfl (by assumption) rfl | exact opd_pickf rfl rfl (by assumption) rfl | exact opd_pick rfl rfl rfl))) rfl ?_
                  refine dc_cons (DStep.q rfl (by exact opd_move rfl rfl)) rfl ?_
                  refine dc_cons (q_off_f rfl rfl rfl (by first | rfl | assumption)) rfl ?_
                  refine dc_cons (q_off_f rfl rfl rfl (by first | rfl | assumption)) rfl ?_
                  refine dc_cons (q_off_f rfl rfl rfl (by first | rfl | assumption)) rfl ?_
                  refine dc_cons (q_off_f rfl rfl rfl (by first | rfl | assumption)) rfl ?_
                  refine dc_cons (q_off_f rfl rfl rfl (by first | rfl | assumption)) rfl ?_
                  refine dc_cons (q_off_f rfl rfl rfl (by first | rfl | assumption)) rfl ?_
                  refine dc_cons (q_off_f rfl rfl rfl (by first | rfl | assumption)) rfl ?_
                  refine dc_cons (q_off_f rfl rfl rfl (by first | rfl | assumption)) rfl ?_
                  refine dc_cons (q_off_f rfl rfl rfl (by first | rfl | assumption)) rfl ?_
                  refine dc_cons (DStep.q rfl (by exact (by first | exact opd_pick_t rfl rfl rfl | exact opd_pick_f rfl rfl rfl | exact opd_pickt rfl rfl (by assumption) rfl | exact opd_pickf rfl rfl (by assumption) rfl | exact opd_pick rfl rfl rfl))) rfl ?_
                  refine dc_nil ⟨by kernel_rfl, ?_⟩
                  exact ⟨rfl, ⟨_, rfl, by first | rfl | (simp only [*]; rfl) | (simp_all; done)⟩, rfl, rfl, rfl⟩
            refine awp_cond rfl (fun hc5 => ?_) (fun hc5 => ?_)
            -- cond 5
            · rw [hc5, Bool.true_or] at hbe
              refine awp_seq ?_
              refine awp_region ?_
              refine al_d rfl rfl rfl (by exact opd_assign rfl rfl) ?_
              refine al_nil ?_
              refine awp_ret ?_
              -- return
              refine aret1 (H' := []) (by first | exact .inr rfl | exact .inl rfl) rfl (rval_tmp rfl) (Fin.wk (by simp) trivial trivial) ?_
              exact ⟨by rw [range_any_true hlt hbe]; rfl, rfl⟩
            · rw [hc5, Bool.false_or] at hbe
              refine awp_skip ?_
              refine awp_seq ?_
              refine awp_seq ?_
              refine awp_region ?_
              refine al_d rfl rfl rfl (by exact (by first | exact opd_field_ref rfl fo31_0 rfl rfl rfl rfl | exact opd_field_pad rfl fo31_0 rfl rfl)) ?_
              refine al_d rfl rfl rfl (by exact (by first | exact opd_load1_ref rfl Tryz.isAgg3 rfl rfl rfl rfl rfl | exact opd_load1_pad rfl Tryz.isAgg3 rfl (by first | omega | assumption) rfl)) ?_
              refine al_d rfl rfl rfl (by exact opd_neq rfl rfl rfl) ?_
              refine al_nil ?_
              refine awp_cond rfl (fun hc6 => ?_) (fun hc6 => ?_)
              -- cond 6
              · have hk : ¬ k = 4 := by
                  have h : (!decide ((k : Int) = 4)) = true := hc6
                  simp at h
                  omega
                rw [decide_eq_false hk, Bool.false_and] at hbe
                have hac := accH_succ (l := l) (k := k) hx
                rw [hea, eKey, if_neg hk] at hac
                refine awp_seq ?_
                refine awp_region ?_
                refine al_d rfl rfl rfl (by exact opd_move rfl rfl) ?_
                refine al_d rfl rfl rfl (by exact opd_move rfl rfl) ?_
                refine al_d rfl rfl rfl (by exact opd_move rfl rfl) ?_
                refine al_d rfl rfl rfl (by exact (by first | exact x_index_pad rfl so25 rfl rfl (by omega) (by first | exact Int.toNat_natCast _ | rfl) (by assumption) rfl | exact x_index_osl rfl so25 rfl rfl rfl rfl rfl (by omega) (by first | exact Int.toNat_natCast _ | rfl) (by first | omega | assumption) rfl)) ?_
                refine al_d rfl rfl rfl (by exact (by first | exact opd_field_ref rfl fo44_1 rfl rfl rfl rfl | exact opd_field_pad rfl fo44_1 rfl rfl)) ?_
                refine al_d rfl rfl rfl (by exact (by first | exact opd_load1_ref rfl Tryz.isAgg9 rfl rfl rfl rfl rfl | exact opd_load1_pad rfl Tryz.isAgg9 rfl (by first | omega | assumption) rfl)) ?_
                refine al_n rfl rfl (by exact x_put_set (.inl rfl) Tryz.underlying67 Tryz.underlying9 rfl rfl rfl rfl rfl rfl rfl) ?_
                refine al_nil ?_
                refine awp_exit ?_
                refine awp_region ?_
                refine al_d rfl rfl rfl (by exact opd_move rfl rfl) ?_
                refine al_d rfl rfl rfl (by exact opd_add rfl rfl rfl (by first | exact w64 (by omega) (by omega) | exact wu8 (by omega) (by omega) | rfl)) ?_
                refine al_d rfl rfl rfl (by exact opd_assign rfl rfl) ?_
                refine al_nil ?_
                -- end of a round
                refine ⟨i + 1, ⟨by omega, fun j hj => ?_⟩, by omega, ?_⟩
                · by_cases ej : j = i
                  · subst ej; exact hbe
                  · exact hno j (by omega)
                · rw [hac]
                  exact (Ent.wk ⟨⟨_, rfl, rfl⟩, (by first | (simp; done) | (simp; rfl) | exact clo_map _ _ _ | exact sob_clo _ _), ⟨_, rfl, rfl⟩, (by first | (simp; done) | (simp; rfl) | exact clo_map _ _ _ | exact sob_clo _ _), ⟨_, rfl, rfl⟩, (by first | (simp; done) | (simp; rfl) | exact clo_map _ _ _ | exact sob_clo _ _), ⟨_, rfl, rfl⟩, (by first | (simp; done) | (simp; rfl) | exact clo_map _ _ _ | exact sob_clo _ _), ⟨_, rfl, rfl⟩, (by first | (simp; done) | (simp; rfl) | exact clo_map _ _ _ | exact sob_clo _ _), trivial⟩ ⟨⟨_, rfl, rfl⟩, (by first | (simp; done) | (simp; rfl) | exact clo_map _ _ _ | exact sob_clo _ _), ⟨_, rfl, rfl⟩, (by first | (simp; done) | (simp; rfl) | exact clo_map _ _ _ | exact sob_clo _ _), ⟨_, rfl, rfl⟩, (by first | (simp; done) | (simp; rfl) | exact clo_map _ _ _ | exact sob_clo _ _), trivial⟩ trivial)
              · have hk : k = 4 := by
                  have h : (!decide ((k : Int) = 4)) = false := hc6
                  simp at h
                  omega
                subst hk
                have hac := accH_succ (l := l) (k := 4) hx
                rw [hea, eKey, if_pos rfl] at hac
                obtain ⟨p0, e0, hi0, he0⟩ : ∃ (p0 : Nat) (e0 : GEdit), idx[0]? = some (p0 : Int) ∧ l[p0]? = some e0 := by
                  by_cases e0 : i = 0
                  · subst e0
                    exact ⟨p, e, hx, he⟩
                  · obtain ⟨x0, hx0⟩ := get_of_lt (l := idx) (k := 0) (by omega)
                    have := ((badH_iff hx0).1 (hno 0 (by omega))).1.1
                    obtain ⟨p0, rfl⟩ : ∃ p0 : Nat, x0 = (p0 : Int) := ⟨x0.toNat, by omega⟩
                    obtain ⟨e0, he0⟩ := get_of_lt (l := l) (k := p0) (by omega)
                    exact ⟨p0, e0, hx0, he0⟩
                rw [hi0, show (some (p0 : Int)).getD 0 = (p0 : Int) from rfl, edAt_nat he0, show decide (4 = 4) = true from rfl, Bool.true_and] at hbe
                have hxi0 := map_get (f := encInt) hi0
                have hee0 := map_get (f := encEdit) he0
                refine awp_skip ?_
                refine awp_seq ?_
                refine awp_drawc follows ?_
                refine dc_cons (r := ⟨_, some [], []⟩) (DStep.plain rfl (fun H1 hH => by exact opd_move rfl rfl)) rfl ?_
                refine dc_cons (r := ⟨_, some [], []⟩) (DStep.plain rfl (fun H1 hH => by exact opd_move rfl rfl)) rfl ?_
                refine dc_cons (r := ⟨_, some [], []⟩) (DStep.plain rfl (fun H1 hH => by exact (by first | exact x_index_pad rfl so25 rfl rfl (by omega) (by first | exact Int.toNat_natCast _ | rfl) (by assumption) rfl | exact x_index_osl rfl so25 rfl ((hH _ rfl).trans rfl) rfl rfl rfl (by omega) (by first | exact Int.toNat_natCast _ | rfl) (by first | omega | assumption) rfl))) rfl ?_
                refine dc_cons (r := ⟨_, some [], []⟩) (DStep.plain rfl (fun H1 hH => by exact (by first | exact opd_field_ref rfl fo44_8 rfl ((hH _ rfl).trans rfl) rfl rfl | exact opd_field_pad rfl fo44_8 rfl rfl))) rfl ?_
                refine dc_cons (r := ⟨_, some [], []⟩) (DStep.plain rfl (fun H1 hH => by exact (by first | exact opd_loadn_ref rfl Tryz.isAgg42 Tryz.sizeOf42 rfl ((hH _ rfl).trans rfl) rfl rfl (by simp only [List.drop_succ_cons, List.drop_zero, List.take_succ_cons, List.take_zero, List.take_nil, List.map_cons, List.map_nil, List.set_cons_zero, List.set_cons_succ, List.cons_append, List.nil_append, encTag, encObj, encStr, encEdit, encInt]; rfl) rfl | exact opd_loadn_pad rfl Tryz.isAgg42 Tryz.sizeOf42 rfl (by first | omega | assumption) (by simp only [List.drop_succ_cons, List.drop_zero, List.take_succ_cons, List.take_zero, List.take_nil, List.map_cons, List.map_nil, List.set_cons_zero, List.set_cons_succ, List.cons_append, List.nil_append, encTag, encObj, encStr, encEdit, encInt]; rfl) rfl))) rfl ?_
                refine dc_cons (r := ⟨_, some [], []⟩) (DStep.plain rfl (fun H1 hH => by exact opd_move rfl rfl)) rfl ?_
                refine dc_cons (r := ⟨_, some [5], []⟩) (DStep.plain rfl (fun H1 hH => by exact (by first | exact opd_field_ref rfl fo31_1 rfl ((hH _ rfl).trans rfl) rfl rfl | exact opd_field_pad rfl fo31_1 rfl rfl))) rfl ?_
                refine dc_cons (r := ⟨_, some [5], []⟩) (DStep.plain rfl (fun H1 hH => by exact (by first | exact opd_load1_ref rfl Tryz.isAgg29 rfl ((hH _ rfl).trans rfl) rfl rfl rfl | exact opd_load1_pad rfl Tryz.isAgg29 rfl (by first | omega | assumption) rfl))) rfl ?_
                refine dc_cons (r := ⟨_, some [], []⟩) (DStep.plain rfl (fun H1 hH => by exact (by first | exact x_index_pad rfl so29 rfl rfl (by omega) (by first | exact Int.toNat_natCast _ | rfl) (by assumption) rfl | exact x_index_osl rfl so29 rfl ((hH _ rfl).trans rfl) rfl rfl rfl (by omega) (by first | exact Int.toNat_natCast _ | rfl) (by first | omega | assumption) rfl))) rfl ?_
                refine dc_cons (r := ⟨_, some [], []⟩) (DStep.plain rfl (fun H1 hH => by exact (by first | exact opd_load1_ref rfl Tryz.isAgg3 rfl ((hH _ rfl).trans rfl) rfl rfl rfl | exact opd_load1_pad rfl Tryz.isAgg3 rfl (by first | omega | assumption) rfl))) rfl ?_
                refine dc_cons (r := ⟨_, some [], []⟩) (DStep.plain rfl (fun H1 hH => by exact (by first | exact x_index_pad rfl so25 rfl rfl (by omega) (by first | exact Int.toNat_natCast _ | rfl) (by assumption) rfl | exact x_index_osl rfl so25 rfl ((hH _ rfl).trans rfl) rfl rfl rfl (by omega) (by first | exact Int.toNat_natCast _ | rfl) (by first | omega | assumption) rfl))) rfl ?_
                refine dc_cons (r := ⟨_, some [], []⟩) (DStep.plain rfl (fun H1 hH => by exact (by first | exact opd_field_ref rfl fo44_8 rfl ((hH _ rfl).trans rfl) rfl rfl | exact opd_field_pad rfl fo44_8 rfl rfl))) rfl ?_
                refine dc_cons (r := ⟨_, some [], []⟩) (DStep.plain rfl (fun H1 hH => by exact (by first | exact opd_loadn_ref rfl Tryz.isAgg42 Tryz.sizeOf42 rfl ((hH _ rfl).trans rfl) rfl rfl (by simp only [List.drop_succ_cons, List.drop_zero, List.take_succ_cons, List.take_zero, List.take_nil, List.map_cons, List.map_nil, List.set_cons_zero, List.set_cons_succ, List.cons_append, List.nil_append, encTag, encObj, encStr, encEdit, encInt]; rfl) rfl | exact opd_loadn_pad rfl Tryz.isAgg42 Tryz.sizeOf42 rfl (by first | omega | assumption) (by simp only [List.drop_succ_cons, List.drop_zero, List.take_succ_cons, List.take_zero, List.take_nil, List.map_cons, List.map_nil, List.set_cons_zero, List.set_cons_succ, List.cons_append, List.nil_append, encTag, encObj, encStr, encEdit, encInt]; rfl) rfl))) rfl ?_
                refine dc_cons (r := ⟨_, some [11], [_]⟩) (DStep.plain rfl (fun H1 hH => by exact x_alloc (id := 11) rfl zo42 rfl ((hH _ rfl).trans rfl))) rfl ?_
                refine dc_cons (r := ⟨_, some [12], [_]⟩) (DStep.plain rfl (fun H1 hH => by exact x_alloc (id := 12) rfl zo42 rfl ((hH _ rfl).trans rfl))) rfl ?_
                refine dc_cons (r := ⟨_, some [11], [_]⟩) (DStep.plain rfl (fun H1 hH => by exact (by first | exact x_store_all rfl Tryz.sizeOf42 rfl rfl rfl rfl ((hH _ rfl).trans rfl) rfl rfl rfl | exact x_store rfl Tryz.sizeOf42 rfl rfl rfl rfl ((hH _ rfl).trans rfl) rfl rfl (by simp only [List.length_cons, List.length_nil]; omega) (by simp only [List.drop_succ_cons, List.drop_zero, List.take_succ_cons, List.take_zero, List.take_nil, List.map_cons, List.map_nil, List.set_cons_zero, List.set_cons_succ, List.cons_append, List.nil_append, encTag, encObj, encStr, encEdit, encInt]; rfl) (by simp only [List.drop_succ_cons, List.drop_zero, List.take_succ_cons, List.take_zero, List.take_nil, List.map_cons, List.map_nil, List.set_cons_zero, List.set_cons_succ, List.cons_append, List.nil_append, encTag, encObj, encStr, encEdit, encInt]; rfl) | exact x_store rfl Tryz.sizeOf42 rfl rfl rfl rfl ((hH _ rfl).trans rfl) rfl rfl (Nat.le_of_ble_eq_true rfl) rfl rfl))) rfl ?_
                refine dc_cons (r := ⟨_, some [12], [_]⟩) (DStep.plain rfl (fun H1 hH => by exact (by first | exact x_store_all rfl Tryz.sizeOf42 rfl rfl rfl rfl ((hH _ rfl).trans rfl) rfl rfl rfl | exact x_store rfl Tryz.sizeOf42 rfl rfl rfl rfl ((hH _ rfl).trans rfl) rfl rfl (by simp only [List.length_cons, List.length_nil]; omega) (by simp only [List.drop_succ_cons, List.drop_zero, List.take_succ_cons, List.take_zero, List.take_nil, List.map_cons, List.map_nil, List.set_cons_zero, List.set_cons_succ, List.cons_append, List.nil_append, encTag, encObj, encStr, encEdit, encInt]; rfl) (by simp only [List.drop_succ_cons, List.drop_zero, List.take_succ_cons, List.take_zero, List.take_nil, List.map_cons, List.map_nil, List.set_cons_zero, List.set_cons_succ, List.cons_append, List.nil_append, encTag, encObj, encStr, encEdit, encInt]; rfl) | exact x_store rfl Tryz.sizeOf42 rfl rfl rfl rfl ((hH _ rfl).trans rfl) rfl rfl (Nat.le_of_ble_eq_true rfl) rfl rfl))) rfl ?_
                refine dc_nil ⟨by kernel_rfl, ?_⟩
                refine awp_seq ?_
                refine awp_region ?_
                refine al_d rfl rfl rfl (by exact opd_move rfl rfl) ?_
                refine al_d rfl rfl rfl (by exact (by first | exact opd_field_ref rfl fo42_0 rfl rfl rfl rfl | exact opd_field_pad rfl fo42_0 rfl rfl)) ?_
                refine al_d rfl rfl rfl (by exact (by first | exact opd_load1_ref rfl Tryz.isAgg9 rfl rfl rfl rfl rfl | exact opd_load1_pad rfl Tryz.isAgg9 rfl (by first | omega | assumption) rfl)) ?_
                refine al_n rfl rfl (by exact x_put_set (.inl rfl) Tryz.underlying67 Tryz.underlying9 rfl rfl rfl rfl rfl rfl rfl) ?_
                refine al_nil ?_
                refine awp_seq ?_
                refine awp_seq ?_
                refine awp_bool (t := 133) (n := 15) (X := !(decide (e.obj.x = e0.obj.x) && decide (e.obj.y = e0.obj.y)) || !decide (((e.obj.tags.map encTag).length : Int) = ((e0.obj.tags.map encTag).length : Int))) ?_ ?_
                · all_goals (refine al_d rfl rfl rfl (by exact (by first | exact opd_field_ref rfl fo42_2 rfl rfl rfl rfl | exact opd_field_pad rfl fo42_2 rfl rfl)) ?_)
                  all_goals (refine al_d rfl rfl rfl (by exact (by first | exact opd_loadn_ref rfl Tryz.isAgg38 Tryz.sizeOf38 rfl rfl rfl rfl (by simp only [List.drop_succ_cons, List.drop_zero, List.take_succ_cons, List.take_zero, List.take_nil, List.map_cons, List.map_nil, List.set_cons_zero, List.set_cons_succ, List.cons_append, List.nil_append, encTag, encObj, encStr, encEdit, encInt]; rfl) rfl | exact opd_loadn_pad rfl Tryz.isAgg38 Tryz.sizeOf38 rfl (by first | omega | assumption) (by simp only [List.drop_succ_cons, List.drop_zero, List.take_succ_cons, List.take_zero, List.take_nil, List.map_cons, List.map_nil, List.set_cons_zero, List.set_cons_succ, List.cons_append, List.nil_append, encTag, encObj, encStr, encEdit, encInt]; rfl) rfl)) ?_)
                  all_goals (refine al_d rfl rfl rfl (by exact (by first | exact opd_field_ref rfl fo42_2 rfl rfl rfl rfl | exact opd_field_pad rfl fo42_2 rfl rfl)) ?_)
                  all_goals (refine al_d rfl rfl rfl (by exact (by first | exact opd_loadn_ref rfl Tryz.isAgg38 Tryz.sizeOf38 rfl rfl rfl rfl (by simp only [List.drop_succ_cons, List.drop_zero, List.take_succ_cons, List.take_zero, List.take_nil, List.map_cons, List.map_nil, List.set_cons_zero, List.set_cons_succ, List.cons_append, List.nil_append, encTag, encObj, encStr, encEdit, encInt]; rfl) rfl | exact opd_loadn_pad rfl Tryz.isAgg38 Tryz.sizeOf38 rfl (by first | omega | assumption) (by simp only [List.drop_succ_cons, List.drop_zero, List.take_succ_cons, List.take_zero, List.take_nil, List.map_cons, List.map_nil, List.set_cons_zero, List.set_cons_succ, List.cons_append, List.nil_append, encTag, encObj, encStr, encEdit, encInt]; rfl) rfl)) ?_)
                  all_goals (refine al_d rfl rfl rfl (by exact opd_aneq rfl rfl rfl rfl rfl Tryz.eqGuardType38 (se38 _ _ _ _)) ?_)
                  all_goals (refine al_d rfl rfl rfl (by exact opd_move rfl rfl) ?_)
                  all_goals (first | refine al_split (t := 125) rfl (fun h125 => ?_) (fun h125 => ?_) | refine al_dup (t := 125) rfl ?_ | skip)
                  all_goals (try contradiction)
                  all_goals (first | refine al_off rfl rfl rfl rfl rfl ?_ | refine al_offu rfl rfl rfl rfl ?_ | refine al_ond rfl rfl rfl rfl rfl rfl (by exact (by first | exact opd_field_ref rfl fo42_4 rfl rfl rfl rfl | exact opd_field_pad rfl fo42_4 rfl rfl)) ?_)
                  all_goals (first | refine al_off rfl rfl rfl rfl rfl ?_ | refine al_offu rfl rfl rfl rfl ?_ | refine al_ond rfl rfl rfl rfl rfl rfl (by exact (by first | exact opd_load1_ref rfl Tryz.isAgg40 rfl rfl rfl rfl rfl | exact opd_load1_pad rfl Tryz.isAgg40 rfl (by first | omega | assumption) rfl)) ?_)
                  all_goals (first | refine al_off rfl rfl rfl rfl rfl ?_ | refine al_offu rfl rfl rfl rfl ?_ | refine al_ond rfl rfl rfl rfl rfl rfl (by exact (by first | exact opd_len_sl rfl Tryz.underlying40 rfl | exact opd_len_osl rfl Tryz.underlying40 rfl rfl rfl)) ?_)
                  all_goals (first | refine al_off rfl rfl rfl rfl rfl ?_ | refine al_offu rfl rfl rfl rfl ?_ | refine al_ond rfl rfl rfl rfl rfl rfl (by exact (by first | exact opd_field_ref rfl fo42_4 rfl rfl rfl rfl | exact opd_field_pad rfl fo42_4 rfl rfl)) ?_)
                  all_goals (first | refine al_off rfl rfl rfl rfl rfl ?_ | refine al_offu rfl rfl rfl rfl ?_ | refine al_ond rfl rfl rfl rfl rfl rfl (by exact (by first | exact opd_load1_ref rfl Tryz.isAgg40 rfl rfl rfl rfl rfl | exact opd_load1_pad rfl Tryz.isAgg40 rfl (by first | omega | assumption) rfl)) ?_)
                  all_goals (first | refine al_off rfl rfl rfl rfl rfl ?_ | refine al_offu rfl rfl rfl rfl ?_ | refine al_ond rfl rfl rfl rfl rfl rfl (by exact (by first | exact opd_len_sl rfl Tryz.underlying40 rfl | exact opd_len_osl rfl Tryz.underlying40 rfl rfl rfl)) ?_)
                  all_goals (first | refine al_off rfl rfl rfl rfl rfl ?_ | refine al_offu rfl rfl rfl rfl ?_ | refine al_ond rfl rfl rfl rfl rfl rfl (by exact opd_neq rfl rfl rfl) ?_)
                  all_goals (refine al_d rfl rfl rfl (by exact (by first | exact opd_pick_t rfl rfl rfl | exact opd_pick_f rfl rfl rfl | exact opd_pickt rfl rfl (by assumption) rfl | exact opd_pickf rfl rfl (by assumption) rfl | exact opd_pick rfl rfl rfl)) ?_)
                  all_goals (refine al_nil ?_)
                  all_goals (exact ⟨⟨_, rfl, by first | rfl | (simp only [*]; rfl) | (simp_all; done)⟩, rfl, rfl, rfl⟩)
                refine awp_cond rfl (fun hc7 => ?_) (fun hc7 => ?_)
                -- cond 7
                · have hs : eSame e e0 = false := by
                    rw [eSame]
                    by_cases hq : (decide (e.obj.x = e0.obj.x) && decide (e.obj.y = e0.obj.y)) = true
                    · rw [hq, Bool.not_true, Bool.false_or] at hc7
                      rw [tagsEq_ne _ _ (fun h => by rw [List.length_map, List.length_map, h] at hc7; simp at hc7), Bool.and_false]
                    · rw [Bool.not_eq_true] at hq
                      rw [hq, Bool.false_and]
                  rw [hs] at hbe
                  refine awp_seq ?_
                  refine awp_region ?_
                  refine al_d rfl rfl rfl (by exact opd_assign rfl rfl) ?_
                  refine al_nil ?_
                  refine awp_ret ?_
                  -- return
                  refine aret1 (H' := []) (by first | exact .inr rfl | exact .inl rfl) rfl (rval_tmp rfl) (Fin.wk (by simp) trivial trivial) ?_
                  exact ⟨by rw [range_any_true hlt hbe]; rfl, rfl⟩
                · have hxy : (decide (e.obj.x = e0.obj.x) && decide (e.obj.y = e0.obj.y)) = true := by
                    rw [Bool.or_eq_false_iff] at hc7
                    simpa using hc7.1
                  have heq : e.obj.tags.length = e0.obj.tags.length := by
                    rw [Bool.or_eq_false_iff] at hc7
                    have := hc7.2
                    simp only [List.length_map, Bool.not_eq_false', decide_eq_true_eq] at this
                    omega
                  have htt : (e.obj.tags.map encTag).length = e.obj.tags.length := List.length_map _
                  refine awp_skip ?_
                  refine awp_seq ?_
                  refine awp_region ?_
                  refine al_d rfl rfl rfl (by exact opd_assign rfl rfl) ?_
                  refine al_nil ?_
                  refine awp_block ?_
                  -- loop
                  refine awp_loop (σ := Nat) (fun q => ([(1, .pv (slEdits l)), (3, .ref 3 0 0 0), (5, .ref 5 0 0 0), (8, .mp 49 0), (9, iv (i : Int)), (11, .ref 11 0 0 0), (12, .ref 12 0 0 0), (13, iv (q : Int))], [(49, sob (sput (accH l 4 (idx.take i)) e.obj.id)), (12, bx 6 42 ((encObj e0.obj).map .pv)), (11, bx 6 42 ((encObj e.obj).map .pv)), (5, bx 2 31 [iv ((4 : Nat) : Int), .pv (slInts idx)]), (3, bx 1 24 [.pv (slObjs m)])])) (fun q => q ≤ e.obj.tags.length ∧ ∀ j, j < q → ∀ x y, e.obj.tags[j]? = some x → e0.obj.tags[j]? = some y → tagEq x y = true) (fun q => e.obj.tags.length - q) 0 ⟨by omega, by omega⟩ ?_ ?_
                  · exact (Ent.wk ⟨⟨_, rfl, rfl⟩, (by first | (simp; done) | (simp; rfl) | exact clo_map _ _ _ | exact sob_clo _ _), ⟨_, rfl, rfl⟩, (by first | (simp; done) | (simp; rfl) | exact clo_map _ _ _ | exact sob_clo _ _), ⟨_, rfl, rfl⟩, (by first | (simp; done) | (simp; rfl) | exact clo_map _ _ _ | exact sob_clo _ _), ⟨_, rfl, rfl⟩, (by first | (simp; done) | (simp; rfl) | exact clo_map _ _ _ | exact sob_clo _ _), ⟨_, rfl, rfl⟩, (by first | (simp; done) | (simp; rfl) | exact clo_map _ _ _ | exact sob_clo _ _), ⟨_, rfl, rfl⟩, (by first | (simp; done) | (simp; rfl) | exact clo_map _ _ _ | exact sob_clo _ _), ⟨_, rfl, rfl⟩, (by first | (simp; done) | (simp; rfl) | exact clo_map _ _ _ | exact sob_clo _ _), ⟨_, rfl, rfl⟩, (by first | (simp; done) | (simp; rfl) | exact clo_map _ _ _ | exact sob_clo _ _), trivial⟩ ⟨⟨_, rfl, rfl⟩, (by first | (simp; done) | (simp; rfl) | exact clo_map _ _ _ | exact sob_clo _ _), ⟨_, rfl, rfl⟩, (by first | (simp; done) | (simp; rfl) | exact clo_map _ _ _ | exact sob_clo _ _), ⟨_, rfl, rfl⟩, (by first | (simp; done) | (simp; rfl) | exact clo_map _ _ _ | exact sob_clo _ _), ⟨_, rfl, rfl⟩, (by first | (simp; done) | (simp; rfl) | exact clo_map _ _ _ | exact sob_clo _ _), ⟨_, rfl, rfl⟩, (by first | (simp; done) | (simp; rfl) | exact clo_map _ _ _ | exact sob_clo _ _), trivial⟩ trivial)
                  · rintro q ⟨hq, hall⟩
                    refine awp_seq ?_
                    refine awp_seq ?_
                    refine awp_region ?_
                    refine al_d rfl rfl rfl (by exact opd_move rfl rfl) ?_
                    refine al_d rfl rfl rfl (by exact (by first | exact opd_field_ref rfl fo42_4 rfl rfl rfl rfl | exact opd_field_pad rfl fo42_4 rfl rfl)) ?_
                    refine al_d rfl rfl rfl (by exact (by first | exact opd_load1_ref rfl Tryz.isAgg40 rfl rfl rfl rfl rfl | exact opd_load1_pad rfl Tryz.isAgg40 rfl (by first | omega | assumption) rfl)) ?_
                    refine al_d rfl rfl rfl (by exact (by first | exact opd_len_sl rfl Tryz.underlying40 rfl | exact opd_len_osl rfl Tryz.underlying40 rfl rfl rfl)) ?_
                    refine al_d rfl rfl rfl (by exact opd_lss rfl rfl rfl) ?_
                    refine al_nil ?_
                    refine awp_cond rfl (fun hc8 => ?_) (fun hc8 => ?_)
                    -- cond 8
                    · have hltq : q < e.obj.tags.length := by have := of_decide_eq_true hc8; omega
                      obtain ⟨x, hx⟩ := get_of_lt hltq
                      obtain ⟨y, hy⟩ := get_of_lt (l := e0.obj.tags) (k := q) (by omega)
                      have hti := map_get (f := encTag) hx
                      have hti2 := map_get (f := encTag) hy
                      refine awp_skip ?_
                      refine awp_seq ?_
                      refine awp_block ?_
                      refine awp_seq ?_
                      refine awp_drawc follows ?_
                      refine dc_cons (DStep.q rfl (by exact (by first | exact opd_field_ref rfl fo42_4 rfl rfl rfl rfl | exact opd_field_pad rfl fo42_4 rfl rfl))) rfl ?_
                      refine dc_cons (DStep.q rfl (by exact (by first | exact opd_load1_ref rfl Tryz.isAgg40 rfl rfl rfl rfl rfl | exact opd_load1_pad rfl Tryz.isAgg40 rfl (by first | omega | assumption) rfl))) rfl ?_
                      refine dc_cons (DStep.q rfl (by exact opd_move rfl rfl)) rfl ?_
                      refine dc_cons (DStep.q rfl (by exact (by first | exact x_index_pad rfl so40 rfl rfl (by omega) (by first | exact Int.toNat_natCast _ | rfl) (by assumption) rfl | exact x_index_osl rfl so40 rfl rfl rfl rfl rfl (by omega) (by first | exact Int.toNat_natCast _ | rfl) (by first | omega | assumption) rfl))) rfl ?_
                      refine dc_cons (DStep.q rfl (by exact (by first | exact opd_loadn_ref rfl Tryz.isAgg62 Tryz.sizeOf62 rfl rfl rfl rfl (by simp only [List.drop_succ_cons, List.drop_zero, List.take_succ_cons, List.take_zero, List.take_nil, List.map_cons, List.map_nil, List.set_cons_zero, List.set_cons_succ, List.cons_append, List.nil_append, encTag, encObj, encStr, encEdit, encInt]; rfl) rfl | exact opd_loadn_pad rfl Tryz.isAgg62 Tryz.sizeOf62 rfl (by first | omega | assumption) (by simp only [List.drop_succ_cons, List.drop_zero, List.take_succ_cons, List.take_zero, List.take_nil, List.map_cons, List.map_nil, List.set_cons_zero, List.set_cons_succ, List.cons_append, List.nil_append, encTag, encObj, encStr, encEdit, encInt]; rfl) rfl))) rfl ?_
                      refine dc_cons (DStep.q rfl (by exact (by first | exact opd_field_ref rfl fo42_4 rfl rfl rfl rfl | exact opd_field_pad rfl fo42_4 rfl rfl))) rfl ?_
                      refine dc_cons (DStep.q rfl (by exact (by first | exact opd_load1_ref rfl Tryz.isAgg40 rfl rfl rfl rfl rfl | exact opd_load1_pad rfl Tryz.isAgg40 rfl (by first | omega | assumption) rfl))) rfl ?_
                      refine dc_cons (DStep.q rfl (by exact opd_move rfl rfl)) rfl ?_
                      refine dc_cons (DStep.q rfl (by exact (by first | exact x_index_pad rfl so40 rfl rfl (by omega) (by first | exact Int.toNat_natCast _ | rfl) (by assumption) rfl | exact x_index_osl rfl so40 rfl rfl rfl rfl rfl (by omega) (by first | exact Int.toNat_natCast _ | rfl) (by first | omega | assumption) rfl))) rfl ?_
                      refine dc_cons (DStep.q rfl (by exact (by first | exact opd_loadn_ref rfl Tryz.isAgg62 Tryz.sizeOf62 rfl rfl rfl rfl (by simp only [List.drop_succ_cons, List.drop_zero, List.take_succ_cons, List.take_zero, List.take_nil, List.map_cons, List.map_nil, List.set_cons_zero, List.set_cons_succ, List.cons_append, List.nil_append, encTag, encObj, encStr, encEdit, encInt]; rfl) rfl | exact opd_loadn_pad rfl Tryz.isAgg62 Tryz.sizeOf62 rfl (by first | omega | assumption) (by simp only [List.drop_succ_cons, List.drop_zero, List.take_succ_cons, List.take_zero, List.take_nil, List.map_cons, List.map_nil, List.set_cons_zero, List.set_cons_succ, List.cons_append, List.nil_append, encTag, encObj, encStr, encEdit, encInt]; rfl) rfl))) rfl ?_
                      refine dc_cons (DStep.q rfl (by exact opd_aneq rfl rfl rfl rfl rfl Tryz.eqGuardType62 (se62 _ _ _ _))) rfl ?_
                      refine dc_nil ⟨by kernel_rfl, ?_⟩
                      refine awp_cond rfl (fun hc9 => ?_) (fun hc9 => ?_)
                      -- cond 9
                      · have ht : tagEq x y = false := by
                          have h : (!tagEq x y) = true := hc9
                          simpa using h
                        have hs : eSame e e0 = false := by rw [eSame, tagsEq_at _ _ q x y hx hy ht, Bool.and_false]
                        rw [hs] at hbe
                        refine awp_seq ?_
                        refine awp_region ?_
                        refine al_d rfl rfl rfl (by exact opd_assign rfl rfl) ?_
                        refine al_nil ?_
                        refine awp_ret ?_
                        -- return
                        refine aret1 (H' := []) (by first | exact .inr rfl | exact .inl rfl) rfl (rval_tmp rfl) (Fin.wk (by simp) trivial trivial) ?_
                        exact ⟨by rw [range_any_true hlt hbe]; rfl, rfl⟩
                      · have ht : tagEq x y = true := by
                          have h : (!tagEq x y) = false := hc9
                          simpa using h
                        refine awp_skip ?_
                        refine awp_region ?_
                        refine al_d rfl rfl rfl (by exact opd_move rfl rfl) ?_
                        refine al_d rfl rfl rfl (by exact opd_add rfl rfl rfl (by first | exact w64 (by omega) (by omega) | exact wu8 (by omega) (by omega) | rfl)) ?_
                        refine al_d rfl rfl rfl (by exact opd_assign rfl rfl) ?_
                        refine al_nil ?_
                        -- end of a round
                        refine ⟨q + 1, ⟨by omega, fun j hj x' y' h1 h2 => ?_⟩, by omega, (Ent.wk ⟨⟨_, rfl, rfl⟩, (by first | (simp; done) | (simp; rfl) | exact clo_map _ _ _ | exact sob_clo _ _), ⟨_, rfl, rfl⟩, (by first | (simp; done) | (simp; rfl) | exact clo_map _ _ _ | exact sob_clo _ _), ⟨_, rfl, rfl⟩, (by first | (simp; done) | (simp; rfl) | exact clo_map _ _ _ | exact sob_clo _ _), ⟨_, rfl, rfl⟩, (by first | (simp; done) | (simp; rfl) | exact clo_map _ _ _ | exact sob_clo _ _), ⟨_, rfl, rfl⟩, (by first | (simp; done) | (simp; rfl) | exact clo_map _ _ _ | exact sob_clo _ _), ⟨_, rfl, rfl⟩, (by first | (simp; done) | (simp; rfl) | exact clo_map _ _ _ | exact sob_clo _ _), ⟨_, rfl, rfl⟩, (by first | (simp; done) | (simp; rfl) | exact clo_map _ _ _ | exact sob_clo _ _), ⟨_, rfl, rfl⟩, (by first | (simp; done) | (simp; rfl) | exact clo_map _ _ _ | exact sob_clo _ _), trivial⟩ ⟨⟨_, rfl, rfl⟩, (by first | (simp; done) | (simp; rfl) | exact clo_map _ _ _ | exact sob_clo _ _), ⟨_, rfl, rfl⟩, (by first | (simp; done) | (simp; rfl) | exact clo_map _ _ _ | exact sob_clo _ _), ⟨_, rfl, rfl⟩, (by first | (simp; done) | (simp; rfl) | exact clo_map _ _ _ | exact sob_clo _ _), ⟨_, rfl, rfl⟩, (by first | (simp; done) | (simp; rfl) | exact clo_map _ _ _ | exact sob_clo _ _), ⟨_, rfl, rfl⟩, (by first | (simp; done) | (simp; rfl) | exact clo_map _ _ _ | exact sob_clo _ _), trivial⟩ trivial)⟩
                        by_cases e : j = q
                        · subst e; rw [hx] at h1; rw [hy] at h2; cases h1; cases h2; exact ht
                        · exact hall j (by omega) x' y' h1 h2
                    · have hge : q = e.obj.tags.length := by have := of_decide_eq_false hc8; omega
                      subst hge
                      have hs : eSame e e0 = true := by rw [eSame, hxy, tagsEq_all _ _ heq hall]; rfl
                      rw [hs] at hbe
                      refine awp_exit ?_
                      refine awp_region ?_
                      refine al_d rfl rfl rfl (by exact opd_move rfl rfl) ?_
                      refine al_d rfl rfl rfl (by exact opd_add rfl rfl rfl (by first | exact w64 (by omega) (by omega) | exact wu8 (by omega) (by omega) | rfl)) ?_
                      refine al_d rfl rfl rfl (by exact opd_assign rfl rfl) ?_
                      refine al_nil ?_
                      -- end of a round
                      refine ⟨i + 1, ⟨by omega, fun j hj => ?_⟩, by omega, ?_⟩
                      · by_cases ej : j = i
                        · subst ej; exact hbe
                        · exact hno j (by omega)
                      · rw [hac]
                        exact (Ent.wk ⟨⟨_, rfl, rfl⟩, (by first | (simp; done) | (simp; rfl) | exact clo_map _ _ _ | exact sob_clo _ _), ⟨_, rfl, rfl⟩, (by first | (simp; done) | (simp; rfl) | exact clo_map _ _ _ | exact sob_clo _ _), ⟨_, rfl, rfl⟩, (by first | (simp; done) | (simp; rfl) | exact clo_map _ _ _ | exact sob_clo _ _), ⟨_, rfl, rfl⟩, (by first | (simp; done) | (simp; rfl) | exact clo_map _ _ _ | exact sob_clo _ _), ⟨_, rfl, rfl⟩, (by first | (simp; done) | (simp; rfl) | exact clo_map _ _ _ | exact sob_clo _ _), trivial⟩ ⟨⟨_, rfl, rfl⟩, (by first | (simp; done) | (simp; rfl) | exact clo_map _ _ _ | exact sob_clo _ _), ⟨_, rfl, rfl⟩, (by first | (simp; done) | (simp; rfl) | exact clo_map _ _ _ | exact sob_clo _ _), ⟨_, rfl, rfl⟩, (by first | (simp; done) | (simp; rfl) | exact clo_map _ _ _ | exact sob_clo _ _), trivial⟩ trivial)
      · have hge : i = idx.length := by have := of_decide_eq_false hc2; omega
        subst hge
        rw [List.take_length, range_any_false hno]
        refine awp_exit ?_
        refine awp_seq ?_
        refine awp_region ?_
        refine al_d rfl rfl rfl (by exact opd_move rfl rfl) ?_
        refine al_d rfl rfl rfl (by exact opd_len_mp (κ := strK) rfl Tryz.underlying67 rfl rfl rfl rfl) ?_
        refine al_d rfl rfl rfl (by exact (by first | exact opd_field_ref rfl fo31_1 rfl rfl rfl rfl | exact opd_field_pad rfl fo31_1 rfl rfl)) ?_
        refine al_d rfl rfl rfl (by exact (by first | exact opd_load1_ref rfl Tryz.isAgg29 rfl rfl rfl rfl rfl | exact opd_load1_pad rfl Tryz.isAgg29 rfl (by first | omega | assumption) rfl)) ?_
        refine al_d rfl rfl rfl (by exact (by first | exact opd_len_sl rfl Tryz.underlying29 rfl | exact opd_len_osl rfl Tryz.underlying29 rfl rfl rfl)) ?_
        refine al_d rfl rfl rfl (by exact opd_eql rfl rfl rfl) ?_
        refine al_d rfl rfl rfl (by exact opd_assign rfl rfl) ?_
        refine al_nil ?_
        refine awp_ret ?_
        -- return
        refine aret1 (H' := []) (by first | exact .inr rfl | exact .inl rfl) rfl (rval_tmp rfl) (Fin.wk (by simp) trivial trivial) ?_
        exact ⟨rfl, rfl⟩
theorem holdsN_c (m : List GObj) (l : List GEdit) (kind : Int) (idx : List Int) (H : Heap) (hk : ¬ (1 ≤ kind ∧ kind ≤ 4)) :
    ACalls Tryz.prog 23 [.agg [.pv (slObjs m)], .pv (slEdits l), .agg [iv kind, .pv (slInts idx)]] H (fun r H' => r = bv (gHolds m l kind idx) ∧ H' = H) := by
  refine ACalls.pure ?_ (by simp) H
  have hs : gHolds m l kind idx = false := by
    rw [gHolds]
    by_cases h1 : 1 ≤ kind
    · rw [decide_eq_false (show ¬ kind ≤ 4 from fun h => hk ⟨h1, h⟩)]; simp
    · rw [decide_eq_false h1]; simp
  refine ACalls.body Tryz.func23 rfl Tryz.ntmps23 (Nat.le_of_ble_eq_true rfl) ?_
  by_cases h1 : kind < 1
  · have d0 := decide_eq_true h1
    refine awp_seq ?_
    refine awp_region ?_
    refine al_d rfl rfl rfl (by exact opd_box (id := 3) rfl rfl rfl rfl rfl) ?_
    refine al_d rfl rfl rfl (by exact opd_box (id := 5) rfl rfl rfl rfl rfl) ?_
    refine al_d rfl rfl rfl (by exact opd_assign rfl rfl) ?_
    refine al_nil ?_
    refine awp_seq ?_
    refine awp_region ?_
    refine al_d rfl rfl rfl (by exact x_buildSlice [encInt 0, encInt 5, encInt 3, encInt 3, encInt 4] rfl so29 rfl rfl rfl rfl rfl (by simp [encInt])) ?_
    refine al_d rfl rfl rfl (by exact opd_assign rfl rfl) ?_
    refine al_nil ?_
    refine awp_seq ?_
    refine awp_seq ?_
    refine awp_drawc follows ?_
    refine dc_cons (DStep.q rfl (by exact (by first | exact opd_field_ref rfl fo31_0 rfl rfl rfl rfl | exact opd_field_pad rfl fo31_0 rfl rfl))) rfl ?_
    refine dc_cons (DStep.q rfl (by exact (by first | exact opd_load1_ref rfl Tryz.isAgg3 rfl rfl rfl rfl rfl | exact opd_load1_pad rfl Tryz.isAgg3 rfl (by first | omega | assumption) rfl))) rfl ?_
    refine dc_cons (DStep.q rfl (by exact opd_lss rfl rfl rfl)) rfl ?_
    refine dc_cons (DStep.q rfl (by exact opd_move rfl rfl)) rfl ?_
    refine dc_cons (q_off_f rfl rfl rfl (by first | rfl | assumption)) rfl ?_
    refine dc_cons (q_off_f rfl rfl rfl (by first | rfl | assumption)) rfl ?_
    refine dc_cons (q_off_f rfl rfl rfl (by first | rfl | assumption)) rfl ?_
    refine dc_cons (DStep.q rfl (by exact (by first | exact opd_pick_t rfl rfl rfl | exact opd_pick_f rfl rfl rfl | exact opd_pickt rfl rfl (by assumption) rfl | exact opd_pickf rfl rfl (by assumption) rfl | exact opd_pick rfl rfl rfl))) rfl ?_
    refine dc_cons (DStep.q rfl (by exact opd_move rfl rfl)) rfl ?_
    refine dc_cons (q_off_f rfl rfl rfl (by first | rfl | assumption)) rfl ?_
    refine dc_cons (q_off_f rfl rfl rfl (by first | rfl | assumption)) rfl ?_
    refine dc_cons (q_off_f rfl rfl rfl (by first | rfl | assumption)) rfl ?_
    refine dc_cons (q_off_f rfl rfl rfl (by first | rfl | assumption)) rfl ?_
    refine dc_cons (q_off_f rfl rfl rfl (by first | rfl | assumption)) rfl ?_
    refine dc_cons (q_off_f rfl rfl rfl (by first | rfl | assumption)) rfl ?_
    refine dc_cons (q_off_f rfl rfl rfl (by first | rfl | assumption)) rfl ?_
    refine dc_cons (q_off_f rfl rfl rfl (by first | rfl | assumption)) rfl ?_
    refine dc_cons (q_off_f rfl rfl rfl (by first | rfl | assumption)) rfl ?_
    refine dc_cons (DStep.q rfl (by exact (by first | exact opd_pick_t rfl rfl rfl | exact opd_pick_f rfl rfl rfl | exact opd_pickt rfl rfl (by assumption) rfl | exact opd_pickf rfl rfl (by assumption) rfl | exact opd_pick rfl rfl rfl))) rfl ?_
    refine dc_cons (DStep.q rfl (by exact opd_move rfl rfl)) rfl ?_
    refine dc_cons (q_off_f rfl rfl rfl (by first | rfl | assumption)) rfl ?_
    refine dc_cons (q_off_f rfl rfl rfl (by first | rfl | assumption)) rfl ?_
    refine dc_cons (q_off_f rfl rfl rfl (by first | rfl | assumption)) rfl ?_
    refine dc_cons (q_off_f rfl rfl rfl (by first | rfl | assumption)) rfl ?_
    refine dc_cons (q_off_u rfl rfl rfl) rfl ?_
    refine dc_cons (q_off_u rfl rfl rfl) rfl ?_
    refine dc_cons (q_off_u rfl rfl rfl) rfl ?_
    refine dc_cons (q_off_u rfl rfl rfl) rfl ?_
    refine dc_cons (q_off_u rfl rfl rfl) rfl ?_
    refine dc_cons (q_off_u rfl rfl rfl) rfl ?_
    refine dc_cons (q_off_u rfl rfl rfl) rfl ?_
    refine dc_cons (q_off_u rfl rfl rfl) rfl ?_
    refine dc_cons (q_off_f rfl rfl rfl (by first | rfl | assumption)) rfl ?_
    refine dc_cons (DStep.q rfl (by exact (by first | exact opd_pick_t rfl rfl rfl | exact opd_pick_f rfl rfl rfl | exact opd_pickt rfl rfl (by assumption) rfl | exact opd_pickf rfl rfl (by assumption) rfl | exact opd_pick rfl rfl rfl))) rfl ?_
    refine dc_nil ⟨by kernel_rfl, ?_⟩
    refine awp_cond rfl (fun hc1 => ?_) (fun hc1 => ?_)
    -- cond 1
    · skip
      refine awp_seq ?_
      refine awp_region ?_
      refine al_d rfl rfl rfl (by exact opd_assign rfl rfl) ?_
      refine al_nil ?_
      refine awp_ret ?_
      -- return
      refine aret1 (H' := []) (by first | exact .inr rfl | exact .inl rfl) rfl (rval_tmp rfl) (Fin.wk (by simp) trivial trivial) ?_
      exact ⟨by rw [hs], rfl⟩
    · cases hc1
  · have d0 := decide_eq_false h1
    have d1 : decide ((4 : Int) < kind) = true := decide_eq_true (by omega)
    refine awp_seq ?_
    refine awp_region ?_
    refine al_d rfl rfl rfl (by exact opd_box (id := 3) rfl rfl rfl rfl rfl) ?_
    refine al_d rfl rfl rfl (by exact opd_box (id := 5) rfl rfl rfl rfl rfl) ?_
    refine al_d rfl rfl rfl (by exact opd_assign rfl rfl) ?_
    refine al_nil ?_
    refine awp_seq ?_
    refine awp_region ?_
    refine al_d rfl rfl rfl (by exact x_buildSlice [encInt 0, encInt 5, encInt 3, encInt 3, encInt 4] rfl so29 rfl rfl rfl rfl rfl (by simp [encInt])) ?_
    refine al_d rfl rfl rfl (by exact opd_assign rfl rfl) ?_
    refine al_nil ?_
    refine awp_seq ?_
    refine awp_seq ?_
    refine awp_drawc follows ?_
    refine dc_cons (DStep.q rfl (by exact (by first | exact opd_field_ref rfl fo31_0 rfl rfl rfl rfl | exact opd_field_pad rfl fo31_0 rfl rfl))) rfl ?_
    refine dc_cons (DStep.q rfl (by exact (by first | exact opd_load1_ref rfl Tryz.isAgg3 rfl rfl rfl rfl rfl | exact opd_load1_pad rfl Tryz.isAgg3 rfl (by first | omega | assumption) rfl))) rfl ?_
    refine dc_cons (DStep.q rfl (by exact opd_lss rfl rfl rfl)) rfl ?_
    refine dc_cons (DStep.q rfl (by exact opd_move rfl rfl)) rfl ?_
    refine dc_cons (q_on_f rfl rfl rfl (by first | rfl | assumption) (by exact (by first | exact opd_field_ref rfl fo31_0 rfl rfl rfl rfl | exact opd_field_pad rfl fo31_0 rfl rfl))) rfl ?_
    refine dc_cons (q_on_f rfl rfl rfl (by first | rfl | assumption) (by exact (by first | exact opd_load1_ref rfl Tryz.isAgg3 rfl rfl rfl rfl rfl | exact opd_load1_pad rfl Tryz.isAgg3 rfl (by first | omega | assumption) rfl))) rfl ?_
    refine dc_cons (q_on_f rfl rfl rfl (by first | rfl | assumption) (by exact opd_gtr rfl rfl rfl)) rfl ?_
    refine dc_cons (DStep.q rfl (by exact (by first | exact opd_pick_t rfl rfl rfl | exact opd_pick_f rfl rfl rfl | exact opd_pickt rfl rfl (by assumption) rfl | exact opd_pickf rfl rfl (by assumption) rfl | exact opd_pick rfl rfl rfl))) rfl ?_
    refine dc_cons (DStep.q rfl (by exact opd_move rfl rfl)) rfl ?_
    refine dc_cons (q_off_f rfl rfl rfl (by first | rfl | assumption)) rfl ?_
    refine dc_cons (q_off_f rfl rfl rfl (by first | rfl | assumption)) rfl ?_
    refine dc_cons (q_off_f rfl rfl rfl (by first | rfl | assumption)) rfl ?_
    refine dc_cons (q_off_f rfl rfl rfl (by first | rfl | assumption)) rfl ?_
    refine dc_cons (q_off_f rfl rfl rfl (by first | rfl | assumption)) rfl ?_
    refine dc_cons (q_off_f rfl rfl rfl (by first | rfl | assumption)) rfl ?_
    refine dc_cons (q_off_f rfl rfl rfl (by first | rfl | assumption)) rfl ?_
    refine dc_cons (q_off_f rfl rfl rfl (by first | rfl | assumption)) rfl ?_
    refine dc_cons (q_off_f rfl rfl rfl (by first | rfl | assumption)) rfl ?_
    refine dc_cons (DStep.q rfl (by exact (by first | exact opd_pick_t rfl rfl rfl | exact opd_pick_f rfl rfl rfl | exact opd_pickt rfl rfl (by assumption) rfl | exact opd_pickf rfl rfl (by assumption) rfl | exact opd_pick rfl rfl rfl))) rfl ?_
    refine dc_cons (DStep.q rfl (by exact opd_move rfl rfl)) rfl ?_
    refine dc_cons (q_off_f rfl rfl rfl (by first | rfl | assumption)) rfl ?_
    refine dc_cons (q_off_f rfl rfl rfl (by first | rfl | assumption)) rfl ?_
    refine dc_cons (q_off_f rfl rfl rfl (by first | rfl | assumption)) rfl ?_
    refine dc_cons (q_off_f rfl rfl rfl (by first | rfl | assumption)) rfl ?_
    refine dc_cons (q_off_u rfl rfl rfl) rfl ?_
    refine dc_cons (q_off_u rfl rfl rfl) rfl ?_
    refine dc_cons (q_off_u rfl rfl rfl) rfl ?_
    refine dc_cons (q_off_u rfl rfl rfl) rfl ?_
    refine dc_cons (q_off_u rfl rfl rfl) rfl ?_
    refine dc_cons (q_off_u rfl rfl rfl) rfl ?_
    refine dc_cons (q_off_u rfl rfl rfl) rfl ?_
    refine dc_cons (q_off_u rfl rfl rfl) rfl ?_
    refine dc_cons (q_off_f rfl rfl rfl (by first | rfl | assumption)) rfl ?_
    refine dc_cons (DStep.q rfl (by exact (by first | exact opd_pick_t rfl rfl rfl | exact opd_pick_f rfl rfl rfl | exact opd_pickt rfl rfl (by assumption) rfl | exact opd_pickf rfl rfl (by assumption) rfl | exact opd_pick rfl rfl rfl))) rfl ?_
    refine dc_nil ⟨by kernel_rfl, ?_⟩
    refine awp_cond rfl (fun hc2 => ?_) (fun hc2 => ?_)
    -- cond 2
    · skip
      refine awp_seq ?_
      refine awp_region ?_
      refine al_d rfl rfl rfl (by exact opd_assign rfl rfl) ?_
      refine al_nil ?_
      refine awp_ret ?_
      -- return
      refine aret1 (H' := []) (by first | exact .inr rfl | exact .inl rfl) rfl (rval_tmp rfl) (Fin.wk (by simp) trivial trivial) ?_
      exact ⟨by rw [hs], rfl⟩
    · cases hc2
theorem holds_c (m : List GObj) (l : List GEdit) (kind : Int) (idx : List Int) (H : Heap) (hm : okM m) (hl : l.length < 4611686018427387904) (hxl : idx.length < 4611686018427387904) (htl : ∀ e ∈ l, e.obj.tags.length < 4611686018427387904) :
    ACalls Tryz.prog 23 [.agg [.pv (slObjs m)], .pv (slEdits l), .agg [iv kind, .pv (slInts idx)]] H (fun r H' => r = bv (gHolds m l kind idx) ∧ H' = H) := by
  by_cases hk : 1 ≤ kind ∧ kind ≤ 4
  · obtain ⟨k, rfl⟩ : ∃ k : Nat, kind = (k : Int) := ⟨kind.toNat, by omega⟩
    exact holdsK_c k m l idx H hm hl hxl htl (by omega) (by omega)
  · exact holdsN_c m l kind idx H hk
end Go.Proofs.YtdgoodjhndeojaaGreat
end
section
set_option linter.unusedVariables false
set_option linter.unusedSimpArgs false
set_option maxRecDepth 100000
namespace Go.Proofs.YtdgoodjhndeojaaGreat
open Go.Abs
def nm (i : Nat) : ByteArray := ⟨#[110, 49 + UInt8.ofNat i]⟩
def nodeO (i : Nat) : GObj := ⟨nm i, 1, (i : Int), 0, [], []⟩
def names5 : List ByteArray := (List.range 5).map nm
def nodes5 : List GObj := (List.range 5).map nodeO
abbrev obRows (l : List GObj) : List (List AV) := l.map (fun e => (encObj e).map .pv)
end Go.Proofs.YtdgoodjhndeojaaGreat
end
section
set_option linter.unusedVariables false
set_option linter.unusedSimpArgs false
namespace Go.Abs
section
variable {P : Program} {N : Nat} {o : Oper} {E : Env} {H : Heap} {T : TypeId} {x y hi mx : Operand}
theorem slf_inv {w : World} {I : Nat → Prop} {ι : Plc} {v : Value} {rows : List (List PV)} (h : VRel w I ι H v (.pv (.slf rows))) : ∃ a n, v = .slice (some a) n n ∧ PRep w I v (.sl rows) := by
  cases h with
  | pv h => cases h with
    | slf a n _ h => exact ⟨a, n, rfl, h⟩
theorem x_slice_full {e : TypeId} {rows : List (List PV)} {sz n : Nat} (ho : o.op = .slice T x none (some hi) (some mx)) (hS : SliceOf P T e sz) (hx : aeval E x = some (.pv (.sl rows))) (hrows : ∀ r ∈ rows, r.length = sz) (hne : rows ≠ []) (hn : rows.length = n)
    (hhi : aeval E hi = some (.pv (.int .i64 n))) (hmx : aeval E mx = some (.pv (.int .i64 n))) : OpD P N o E H (.pv (.slf rows)) H := by
  subst hn
  exact .of_run fun a w I ι _ he => by
    have hv := (aeval_rel he hx).pv_inv
    have e1 := (aeval_rel he hhi).int_inv
    have e2 := (aeval_rel he hmx).int_inv
    generalize hc : a.eval x = c at hv
    have hT := hS.1
    have hTe : P.elem T = e := by simp [Program.elem, hT]
    have hT' : P.underlying T = some (.slice (P.elem T)) := by rw [hTe, hT]
    cases hv with
    | nilsl => exact absurd rfl hne
    | empsl a0 => exact absurd rfl hne
    | sl b off cap sz' _ cs hI hsz hlen hcap hcc hpp =>
      have hb : (Instr.sliceBounds true rows.length cap none (some (.int .i64 rows.length)) (some (.int .i64 rows.length))).run P w = .ok (0, rows.length, rows.length) w := by
        have hsb : ∀ (n y : Nat) (c : BoundsCode), n ≤ y → (Instr.sliceBound (.int .i64 n) y c).run P w = .ok n w := fun n y c hn => by
          have := run_sliceBound (P := P) w .i64 n y c (by omega) (by omega)
          simpa using this
        simp [Instr.sliceBounds, hsb _ _ _ hcap, hsb _ _ _ (Nat.le_refl rows.length)]
      have hlt : 0 < rows.length := List.length_pos_iff.2 hne
      refine ⟨.slice (some ⟨b, off, none⟩) rows.length rows.length, ?_, .pv (.slf _ _ _ (.sl b off rows.length sz' rows cs hI hsz hlen (Nat.le_refl _) hcc hpp))⟩
      simp only [execOp, ho, hc]
      have := run_slice_any (P := P) w T (some ⟨b, off, none⟩) rows.length cap hT' none (some (.int .i64 rows.length)) (some (.int .i64 rows.length))
      have hsz2 := hS.2.1
      have hne0 : ¬ rows.length = 0 := by omega
      simp [run_sliceAt_slice w T _ _ _ _ hT', e1, e2, this, hb, hTe, hsz2, sliced, Addr.add_zero', hne0]
theorem opd_append_full {e : TypeId} {id n m sz bytes : Nat} {rows : List (List PV)} {rows2 : List (List AV)} (ho : o.op = .call { callee := .builtin .append, args := #[x, y], argTypes := #[T, T] }) (hT : P.underlying T = some (.slice e)) (hinf : EInfo P e sz bytes)
    (hx : aeval E x = some (.pv (.slf rows))) (hne : rows ≠ []) (hrl : ∀ r ∈ rows, r.length = sz) (hn : rows.length = n) (hid : H.get id = none)
    (hsrc : ∀ (a : Act) (w : World) (I : Nat → Prop) (ι : Plc), Rel I ι H w → ERel w I ι H E a → Src w I ι H sz (a.eval y) rows2) (hrl2 : ∀ r ∈ rows2, r.length = sz) (hm : rows2.length = m) (hpos : 0 < m) (hbytes : (n + m) * bytes ≤ 140737488355328) (hmax : n + m ≤ 9223372036854775807) :
    OpD P N o E H (.osl id 0 0 (n + m)) ((id, ⟨0, sz, e, rows.map (·.map .pv) ++ rows2⟩) :: H) := by
  intro a w I ι _ _ hr he K Q hk
  obtain ⟨i, z, hi, hz, hsize, hby, hzs, hsz0⟩ := hinf
  subst hn hm
  obtain ⟨ad, n, hv, hp⟩ := slf_inv (aeval_rel he hx)
  have hml : rows.length + rows2.length ≤ maxLen := by simp only [maxLen]; omega
  rcases src_pure (ι := ι) (H := H) (.pv hp) hsz0 hrl with ⟨ad1, c1, olds, s1, s2, s3, s4, s5⟩ | ⟨s1, _⟩
  · rw [hv] at s1
    injection s1 with q1 q2 q3
    injection q1 with q1
    subst q1
    simp only [List.length_map] at q2 s2
    subst q2
    rcases hsrc a w I ι hr he with ⟨ad2, c2, news, t1, t2, t3, t4, t5⟩ | ⟨_, t2⟩
    · have hrun := run_append_grow (P := P) w T o.type e i z hT hi hz ad rows.length rows.length olds (by rw [hsize]; exact s2) s3 ad2 rows2.length c2 news (by rw [hsize]; exact t2) t3 (by omega) (by omega) (growslice_fits (by omega) (by rw [hby]; exact hbytes))
      have hge := grownCap_ge w (rows.length + rows2.length) rows.length e
      have hcm := grownCap_le_maxLen w (rows.length + rows2.length) rows.length e hml
      have h1 : Heap.get ((id, (⟨0, sz, e, rows.map (·.map .pv) ++ rows2⟩ : Ob)) :: H) id = some ⟨0, sz, e, rows.map (·.map .pv) ++ rows2⟩ := by simp [Heap.get, beq_self]
      have h2 : ∀ j, j ≠ id → Heap.get ((id, (⟨0, sz, e, rows.map (·.map .pv) ++ rows2⟩ : Ob)) :: H) j = H.get j := fun j hj => by simp [Heap.get, beq_ne (Ne.symm hj)]
      have hrl3 : ∀ r ∈ rows.map (·.map AV.pv) ++ rows2, r.length = sz := fun r hr' => by
        rcases List.mem_append.1 hr' with h | h
        · obtain ⟨q, hq, rfl⟩ := List.mem_map.1 h
          rw [List.length_map]; exact hrl q hq
        · exact hrl2 r h
      obtain ⟨k2, k3⟩ := Rel.place (H' := (id, ⟨0, sz, e, rows.map (·.map .pv) ++ rows2⟩) :: H) (id := id) (cap := grownCap w (rows.length + rows2.length) rows.length e) (ob' := ⟨0, sz, e, rows.map (·.map .pv) ++ rows2⟩)
        (cs' := olds.toArray ++ news.toArray ++ Builtin.zeroCells z.cells (grownCap w (rows.length + rows2.length) rows.length e - (rows.length + rows2.length)))
        (w' := w.drew.alloc (.cells (olds.toArray ++ news.toArray ++ Builtin.zeroCells z.cells (grownCap w (rows.length + rows2.length) rows.length e - (rows.length + rows2.length))) e)) hr rfl rfl rfl rfl
        (fun o' ho' => by rw [hid] at ho'; cases ho') hsz0 (by
          simp only [Array.size_append, List.size_toArray, size_zeroCells, hzs, s2, t2, ← Nat.add_mul]
          congr 1
          omega) (by simpa using hge) hcm hrl3 (fun i' r hi' k a' hk' => by
            obtain ⟨u, q1, q2, q3⟩ := LRel.app (l3 := (Builtin.zeroCells z.cells (grownCap w (rows.length + rows2.length) rows.length e - (rows.length + rows2.length))).toList) s5 (by simpa using s2) t5 i' r hi' k a' hk'
            refine ⟨u, ?_, q2, q3⟩
            rw [← Array.getElem?_toList]
            simpa [List.append_assoc] using q1) h1 h2
      unfold Oper.wp execOp
      simp only [ho, resolve, invoke, builtin, Sem.run_bind, Sem.run_pure, Result.andThen_ok, List.map_toArray, List.map_cons, List.map_nil, hv, t1, hrun]
      exact hk _ _ I _ _ _ ⟨rfl, rfl⟩ (.osl _ h1 (Nat.le_refl _) rfl fun _ => ⟨hsz0, by simp, .inl ⟨w.heap.size, _, 0, by simp; rfl, by simp, fun _ => by simp⟩⟩) k2 k3
    · rw [t2] at hpos; simp at hpos
  · rw [hv] at s1; cases s1
theorem x_append_full {e : TypeId} {id id' g' off' n m k sz bytes : Nat} {ob' : Ob} {rows : List (List PV)} {rows' : List (List AV)} (ho : o.op = .call { callee := .builtin .append, args := #[x, y], argTypes := #[T, T] }) (hS : SliceOf P T e sz) (hinf : EI P e sz bytes)
    (hx : aeval E x = some (.pv (.slf rows))) (hne : rows ≠ []) (hrl : ∀ r ∈ rows, r.length = sz) (hn : rows.length = n) (hid : H.get id = none)
    (hy : aeval E y = some (.osl id' g' off' m)) (hH' : H.get id' = some ob') (hg' : ob'.g = g') (hsz' : ob'.sz = sz) (hrl2 : ∀ r ∈ ob'.rows, r.length = sz) (hm : off' + m ≤ ob'.rows.length) (hpos : 0 < m) (hbytes : (n + m) * bytes ≤ 140737488355328) (hk : n + m = k)
    (hrows : rows.map (·.map .pv) ++ (ob'.rows.drop off').take m = rows') : OpD P N o E H (.osl id 0 0 k) ((id, ⟨0, sz, e, rows'⟩) :: H) := by
  subst hk hrows
  refine opd_append_full ho hS.1 hinf.1 hx hne hrl hn hid (fun a w I ι hr he => src_osl hr (aeval_rel he hy) hH' hg' hsz') (fun r hr => hrl2 r (List.mem_of_mem_drop (List.mem_of_mem_take hr))) (by rw [List.length_take, List.length_drop]; omega) hpos hbytes (small_of hinf.2 hbytes)
end
end Go.Abs
end
section
set_option linter.unusedVariables false
set_option linter.unusedSimpArgs false
set_option maxRecDepth 100000
namespace Go.Proofs.YtdgoodjhndeojaaGreat
open Go.Abs
theorem slt_data (a b : ByteArray) : slt a b = decide (a.data.toList < b.data.toList) := by
  unfold slt
  rw [bytesLess_eq, ByteArray.toList_eq, ByteArray.toList_eq]
abbrev nA : ByteArray := ⟨#[97]⟩
abbrev nB : ByteArray := ⟨#[98]⟩
abbrev nC : ByteArray := ⟨#[99]⟩
abbrev nD : ByteArray := ⟨#[100]⟩
abbrev nE : ByteArray := ⟨#[101]⟩
abbrev nX : ByteArray := ⟨#[120]⟩
def nodeN (id v : ByteArray) : GObj := ⟨id, 1, 0, 0, [], if v = sNil then [] else [⟨sName, v⟩]⟩
def m5 : List GObj := [nodeN nA nX, nodeN nB nX, nodeN nC nX, nodeN nD sNil, nodeN nE sNil]
def dropN (id : ByteArray) : GEdit := ⟨5, id, sNil, sNil, 0, 0, sNil, sNil, [], zObj⟩
def moveN (id : ByteArray) : GEdit := ⟨2, id, sNil, sNil, 0, 0, sNil, sNil, [], zObj⟩
def blankN (id : ByteArray) : GEdit := ⟨3, id, sNil, sNil, 0, 0, sName, sNil, [], zObj⟩
def ids5 : List ByteArray := [nA, nB, nC, nD, nE]
abbrev dropsN : List GEdit := ids5.map dropN
abbrev movesN : List GEdit := ids5.map moveN
abbrev blanksN : List GEdit := [blankN nC, blankN nA, blankN nB]
theorem tagsN {t : GTag} (h1 : gName t.key = true) (h2 : t.val ≠ sNil) (h3 : t.val.size ≤ 200) : gTags [t] = true := by
  simp only [gTags, List.length_cons, List.length_nil, List.range_succ, List.range_zero, List.nil_append, List.any_cons, List.any_nil, badAt, before, List.getElem?_cons_zero, badTag, sle, slt_nil, Bool.or_false, Bool.false_or, h1, Bool.not_true]
  have h4 := gName_ne h1
  simp [h4, h2]
  omega
theorem gObj_nodeN {id v : ByteArray} (h1 : gName id = true) (h2 : v.size ≤ 200) : gObj (nodeN id v) = true := by
  have ht : gTags (nodeN id v).tags = true := by
    rw [nodeN]
    by_cases e : v = sNil
    · simp only [if_pos e]; kernel_rfl
    · simp only [if_neg e]
      exact tagsN (by kernel_rfl) e h2
  simp only [gObj, gHead, gHeadN, ht]
  simp only [nodeN, h1]
  rfl
theorem map5 : gMap m5 = true := by
  rw [gMap_iff]
  refine ⟨?_, ?_, by decide⟩
  · intro o ho
    simp only [m5, List.mem_cons, List.not_mem_nil, or_false] at ho
    rcases ho with rfl | rfl | rfl | rfl | rfl <;> exact gObj_nodeN (by kernel_rfl) (by decide)
  · rw [ups, m5]
    simp only [slt_data, nodeN]
    decide
theorem closed5 : closedB m5 = true := by rw [closedB, map5]; kernel_rfl
theorem ok5 : okM m5 := by
  refine ⟨by decide, fun o ho => ?_⟩
  simp only [m5, List.mem_cons, List.not_mem_nil, or_false] at ho
  have key : ∀ id v : ByteArray, id.size < 10 → v.size < 10 → okO (nodeN id v) := fun id v h1 h2 => by
    refine ⟨by show id.size < _; omega, ?_, by show 0 < _; omega, fun s hs => by cases hs⟩
    rw [nodeN]
    by_cases e : v = sNil
    · simp only [if_pos e]
      exact ⟨by decide, fun t ht => by cases ht⟩
    · simp only [if_neg e]
      refine ⟨by show 1 < _; omega, fun t ht => ?_⟩
      rw [List.mem_singleton] at ht
      subst ht
      exact ⟨by show 4 < _; omega, by show v.size < _; omega⟩
  rcases ho with rfl | rfl | rfl | rfl | rfl <;> exact key _ _ (by decide) (by decide)
theorem fnd_of {m : List GObj} {l : List GEdit} (hc : closedB m = true) (hg : gChange l = true) : gFind m l = ((((gFind0 m l).1 : Nat) : Int), toI (gFind0 m l).2) := by rw [gFind, hc, hg]; rfl
theorem fnd1 : gFind m5 dropsN = (1, [0, 1, 2, 3, 4]) := by rw [fnd_of closed5 (by kernel_rfl)]; kernel_rfl
theorem fnd2 : gFind m5 (dropsN ++ movesN) = (0, []) := by rw [fnd_of closed5 (by kernel_rfl)]; kernel_rfl
theorem fnd3 : gFind m5 blanksN = (2, [0, 1, 2]) := by rw [fnd_of closed5 (by kernel_rfl)]; kernel_rfl
theorem okE_plain {e : GEdit} (h1 : e.id.size < 10) (h2 : e.other.size < 10) (h3 : e.node.size < 10) (h4 : e.key.size < 10) (h5 : e.refs = []) (h6 : e.obj = zObj) : okE e :=
  ⟨⟨by omega, by omega, by omega, by omega⟩, by rw [h5]; exact ⟨by decide, fun s hs => by cases hs⟩, by rw [h6]; exact okO_z⟩
theorem ids5_small : ∀ s ∈ ids5, s.size < 10 := by decide
theorem okN (f : ByteArray → GEdit) (h : ∀ s, s.size < 10 → okE (f s)) : ∀ e ∈ ids5.map f, okE e := fun e he => by
  obtain ⟨s, hs, rfl⟩ := List.mem_map.1 he
  exact h s (ids5_small s hs)
theorem find_v {m : List GObj} {l : List GEdit} {k : Int} {e : List Int} (h : gFind m l = (k, e)) (H : Heap) (hm : okM m) (hl : l.length < 1099511627776) (he : ∀ e ∈ l, okE e) : ACalls Tryz.prog 19 [.agg [.pv (slObjs m)], .pv (slEdits l)] H (fun r H' => r = .agg [iv k, .pv (slInts e)] ∧ H' = H) := by
  have h2 := evFind_c m l H hm hl he
  rw [h] at h2
  exact h2
theorem same_v {k1 k2 : Int} {a b : List Int} (h1 : k1 = k2) (h2 : a = b) (H : Heap) (ha : a.length < 4611686018427387904) : ACalls Tryz.prog 18 [.agg [iv k1, .pv (slInts a)], .agg [iv k2, .pv (slInts b)]] H (fun r H' => r = bv true ∧ H' = H) := by
  have h := same31_c k1 k2 a b H ha
  rw [decide_eq_true h1, decide_eq_true h2] at h
  exact h
theorem nodeN_c (id v : ByteArray) (H : Heap) : ACalls Tryz.prog 51 [sv id, sv v] H (fun r H' => r = av (encObj (nodeN id v)) ∧ H' = H) := by
  refine ACalls.pure ?_ (by simp) H
  refine ACalls.body Tryz.func51 rfl Tryz.ntmps51 (Nat.le_of_ble_eq_true rfl) ?_
  refine awp_seq ?_
  refine awp_region ?_
  refine al_d rfl rfl rfl (by exact x_alloc (id := 4) rfl zo42 rfl rfl) ?_
  refine al_nil ?_
  refine awp_seq ?_
  refine awp_region ?_
  refine al_d rfl rfl rfl (by exact opd_move rfl rfl) ?_
  refine al_d rfl rfl rfl (by exact x_build rfl bo42 rfl rfl) ?_
  refine al_d rfl rfl rfl (by exact x_alloc (id := 5) rfl zo42 rfl rfl) ?_
  refine al_n rfl rfl (by exact (by first | exact x_store_all rfl Tryz.sizeOf42 rfl rfl rfl rfl rfl rfl rfl rfl | exact x_store rfl Tryz.sizeOf42 rfl rfl rfl rfl rfl rfl rfl (by simp only [List.length_cons, List.length_nil]; omega) (by simp only [List.drop_succ_cons, List.drop_zero, List.take_succ_cons, List.take_zero, List.take_nil, List.map_cons, List.map_nil, List.set_cons_zero, List.set_cons_succ, List.cons_append, List.nil_append, encTag, encObj, encStr, encEdit, encInt]; rfl) (by simp only [List.drop_succ_cons, List.drop_zero, List.take_succ_cons, List.take_zero, List.take_nil, List.map_cons, List.map_nil, List.set_cons_zero, List.set_cons_succ, List.cons_append, List.nil_append, encTag, encObj, encStr, encEdit, encInt]; rfl) | exact x_store rfl Tryz.sizeOf42 rfl rfl rfl rfl rfl rfl rfl (Nat.le_of_ble_eq_true rfl) rfl rfl)) ?_
  refine al_nil ?_
  refine awp_seq ?_
  refine awp_seq ?_
  refine awp_region ?_
  refine al_d rfl rfl rfl (by exact opd_move rfl rfl) ?_
  refine al_d rfl rfl rfl (by exact opd_sneq rfl rfl rfl) ?_
  refine al_nil ?_
  refine awp_cond rfl (fun hc1 => ?_) (fun hc1 => ?_)
  -- cond 1
  · have hv : ¬ v = sNil := by
      have h : (!decide (v = sNil)) = true := hc1
      simpa using h
    have e : nodeN id v = ⟨id, 1, 0, 0, [], [⟨sName, v⟩]⟩ := by rw [nodeN, if_neg hv]
    rw [e]
    refine awp_region ?_
    refine al_d rfl rfl rfl (by exact opd_move rfl rfl) ?_
    refine al_d rfl rfl rfl (by exact x_build rfl bo62 rfl rfl) ?_
    refine al_d rfl rfl rfl (by exact x_buildSlice [encTag ⟨sName, v⟩] rfl so40 rfl rfl rfl rfl rfl (by simp [encTag])) ?_
    refine al_d rfl rfl rfl (by exact (by first | exact opd_field_ref rfl fo42_4 rfl rfl rfl rfl | exact opd_field_pad rfl fo42_4 rfl rfl)) ?_
    refine al_n rfl rfl (by exact x_store1 rfl Tryz.sizeOf40 rfl rfl rfl rfl rfl rfl (Nat.lt_succ_self 5) rfl rfl) ?_
    refine al_nil ?_
    refine awp_seq ?_
    refine awp_region ?_
    refine al_d rfl rfl rfl (by exact (by first | exact opd_loadn_ref rfl Tryz.isAgg42 Tryz.sizeOf42 rfl rfl rfl rfl (by simp only [List.drop_succ_cons, List.drop_zero, List.take_succ_cons, List.take_zero, List.take_nil, List.map_cons, List.map_nil, List.set_cons_zero, List.set_cons_succ, List.cons_append, List.nil_append, encTag, encObj, encStr, encEdit, encInt]; rfl) rfl | exact opd_loadn_pad rfl Tryz.isAgg42 Tryz.sizeOf42 rfl (by first | omega | assumption) (by simp only [List.drop_succ_cons, List.drop_zero, List.take_succ_cons, List.take_zero, List.take_nil, List.map_cons, List.map_nil, List.set_cons_zero, List.set_cons_succ, List.cons_append, List.nil_append, encTag, encObj, encStr, encEdit, encInt]; rfl) rfl)) ?_
    refine al_n rfl rfl (by exact (by first | exact x_store_all rfl Tryz.sizeOf42 rfl rfl rfl rfl rfl rfl rfl rfl | exact x_store rfl Tryz.sizeOf42 rfl rfl rfl rfl rfl rfl rfl (by simp only [List.length_cons, List.length_nil]; omega) (by simp only [List.drop_succ_cons, List.drop_zero, List.take_succ_cons, List.take_zero, List.take_nil, List.map_cons, List.map_nil, List.set_cons_zero, List.set_cons_succ, List.cons_append, List.nil_append, encTag, encObj, encStr, encEdit, encInt]; rfl) (by simp only [List.drop_succ_cons, List.drop_zero, List.take_succ_cons, List.take_zero, List.take_nil, List.map_cons, List.map_nil, List.set_cons_zero, List.set_cons_succ, List.cons_append, List.nil_append, encTag, encObj, encStr, encEdit, encInt]; rfl) | exact x_store rfl Tryz.sizeOf42 rfl rfl rfl rfl rfl rfl rfl (Nat.le_of_ble_eq_true rfl) rfl rfl)) ?_
    refine al_nil ?_
    refine awp_ret ?_
    -- return
    refine aret1 (H' := []) (by first | exact .inr rfl | exact .inl rfl) rfl (rval_cell rfl Tryz.isAgg42 Tryz.sizeOf42 rfl rfl rfl (by simp only [List.drop_succ_cons, List.drop_zero, List.take_succ_cons, List.take_zero, List.take_nil, List.map_cons, List.map_nil, List.set_cons_zero, List.set_cons_succ, List.cons_append, List.nil_append, encTag, encObj, encStr, encEdit, encInt]; rfl) rfl) (Fin.wk (r := av (encObj ⟨id, 1, 0, 0, [], [⟨sName, v⟩]⟩)) (by simp [encObj]) trivial trivial) ?_
    exact ⟨rfl, rfl⟩
  · have hv : v = sNil := by
      have h : (!decide (v = sNil)) = false := hc1
      simpa using h
    have e : nodeN id v = ⟨id, 1, 0, 0, [], []⟩ := by rw [nodeN, if_pos hv]
    rw [e]
    refine awp_skip ?_
    refine awp_seq ?_
    refine awp_region ?_
    refine al_d rfl rfl rfl (by exact (by first | exact opd_loadn_ref rfl Tryz.isAgg42 Tryz.sizeOf42 rfl rfl rfl rfl (by simp only [List.drop_succ_cons, List.drop_zero, List.take_succ_cons, List.take_zero, List.take_nil, List.map_cons, List.map_nil, List.set_cons_zero, List.set_cons_succ, List.cons_append, List.nil_append, encTag, encObj, encStr, encEdit, encInt]; rfl) rfl | exact opd_loadn_pad rfl Tryz.isAgg42 Tryz.sizeOf42 rfl (by first | omega | assumption) (by simp only [List.drop_succ_cons, List.drop_zero, List.take_succ_cons, List.take_zero, List.take_nil, List.map_cons, List.map_nil, List.set_cons_zero, List.set_cons_succ, List.cons_append, List.nil_append, encTag, encObj, encStr, encEdit, encInt]; rfl) rfl)) ?_
    refine al_n rfl rfl (by exact (by first | exact x_store_all rfl Tryz.sizeOf42 rfl rfl rfl rfl rfl rfl rfl rfl | exact x_store rfl Tryz.sizeOf42 rfl rfl rfl rfl rfl rfl rfl (by simp only [List.length_cons, List.length_nil]; omega) (by simp only [List.drop_succ_cons, List.drop_zero, List.take_succ_cons, List.take_zero, List.take_nil, List.map_cons, List.map_nil, List.set_cons_zero, List.set_cons_succ, List.cons_append, List.nil_append, encTag, encObj, encStr, encEdit, encInt]; rfl) (by simp only [List.drop_succ_cons, List.drop_zero, List.take_succ_cons, List.take_zero, List.take_nil, List.map_cons, List.map_nil, List.set_cons_zero, List.set_cons_succ, List.cons_append, List.nil_append, encTag, encObj, encStr, encEdit, encInt]; rfl) | exact x_store rfl Tryz.sizeOf42 rfl rfl rfl rfl rfl rfl rfl (Nat.le_of_ble_eq_true rfl) rfl rfl)) ?_
    refine al_nil ?_
    refine awp_ret ?_
    -- return
    refine aret1 (H' := []) (by first | exact .inr rfl | exact .inl rfl) rfl (rval_cell rfl Tryz.isAgg42 Tryz.sizeOf42 rfl rfl rfl (by simp only [List.drop_succ_cons, List.drop_zero, List.take_succ_cons, List.take_zero, List.take_nil, List.map_cons, List.map_nil, List.set_cons_zero, List.set_cons_succ, List.cons_append, List.nil_append, encTag, encObj, encStr, encEdit, encInt]; rfl) rfl) (Fin.wk (r := av (encObj ⟨id, 1, 0, 0, [], []⟩)) (by simp [encObj]) trivial trivial) ?_
    exact ⟨rfl, rfl⟩
theorem blank_c (id : ByteArray) (H : Heap) : ACalls Tryz.prog 52 [sv id] H (fun r H' => r = av (encEdit (blankN id)) ∧ H' = H) := by
  refine ACalls.pure ?_ (by simp) H
  refine ACalls.body Tryz.func52 rfl Tryz.ntmps52 (Nat.le_of_ble_eq_true rfl) ?_
  refine awp_seq ?_
  refine awp_region ?_
  refine al_d rfl rfl rfl (by exact x_alloc (id := 2) rfl zo44 rfl rfl) ?_
  refine al_nil ?_
  refine awp_seq ?_
  refine awp_region ?_
  refine al_d rfl rfl rfl (by exact opd_move rfl rfl) ?_
  refine al_d rfl rfl rfl (by exact x_build rfl bo44 rfl rfl) ?_
  refine al_n rfl rfl (by exact (by first | exact x_store_all rfl Tryz.sizeOf44 rfl rfl rfl rfl rfl rfl rfl rfl | exact x_store rfl Tryz.sizeOf44 rfl rfl rfl rfl rfl rfl rfl (by simp only [List.length_cons, List.length_nil]; omega) (by simp only [List.drop_succ_cons, List.drop_zero, List.take_succ_cons, List.take_zero, List.take_nil, List.map_cons, List.map_nil, List.set_cons_zero, List.set_cons_succ, List.cons_append, List.nil_append, encTag, encObj, encStr, encEdit, encInt]; rfl) (by simp only [List.drop_succ_cons, List.drop_zero, List.take_succ_cons, List.take_zero, List.take_nil, List.map_cons, List.map_nil, List.set_cons_zero, List.set_cons_succ, List.cons_append, List.nil_append, encTag, encObj, encStr, encEdit, encInt]; rfl) | exact x_store rfl Tryz.sizeOf44 rfl rfl rfl rfl rfl rfl rfl (Nat.le_of_ble_eq_true rfl) rfl rfl)) ?_
  refine al_nil ?_
  refine awp_ret ?_
  -- return
  refine aret1 (H' := []) (by first | exact .inr rfl | exact .inl rfl) rfl (rval_cell rfl Tryz.isAgg44 Tryz.sizeOf44 rfl rfl rfl (by simp only [List.drop_succ_cons, List.drop_zero, List.take_succ_cons, List.take_zero, List.take_nil, List.map_cons, List.map_nil, List.set_cons_zero, List.set_cons_succ, List.cons_append, List.nil_append, encTag, encObj, encStr, encEdit, encInt]; rfl) rfl) (Fin.wk (r := av (encEdit (blankN id))) (by simp [encEdit]) trivial trivial) ?_
  exact ⟨rfl, rfl⟩
theorem m5_at {i : Nat} (h : i < 5) : ∃ o, (m5.map encObj)[i]? = some (encObj o) ∧ ids5.take (i + 1) = ids5.take i ++ [o.id] := by
  match i, h with
  | 0, _ => exact ⟨_, rfl, rfl⟩
  | 1, _ => exact ⟨_, rfl, rfl⟩
  | 2, _ => exact ⟨_, rfl, rfl⟩
  | 3, _ => exact ⟨_, rfl, rfl⟩
  | 4, _ => exact ⟨_, rfl, rfl⟩
  | n + 5, h => exact absurd h (by omega)
theorem len15 (l : List GEdit) : ∀ r ∈ l.map encEdit, r.length = 15 := fun r hr => by
  obtain ⟨o, _, rfl⟩ := List.mem_map.1 hr; rfl
theorem len15' (l : List GEdit) : ∀ r ∈ edRows l, r.length = 15 := fun r hr => by
  obtain ⟨o, _, rfl⟩ := List.mem_map.1 hr; rfl
theorem head31_c (H : Heap) : ACalls Tryz.prog 16 [] H (fun r H' => r = bv true ∧ H' = H) := by
  refine ACalls.pure ?_ (by simp) H
  have q1 : ∀ e ∈ dropsN, okE e := okN dropN (fun s h => okE_plain h (show (0 : Nat) < 10 by decide) (show (0 : Nat) < 10 by decide) (show (0 : Nat) < 10 by decide) rfl rfl)
  have q2 : ∀ e ∈ movesN, okE e := okN moveN (fun s h => okE_plain h (show (0 : Nat) < 10 by decide) (show (0 : Nat) < 10 by decide) (show (0 : Nat) < 10 by decide) rfl rfl)
  have q3 : ∀ e ∈ dropsN ++ movesN, okE e := fun e he => by
    rcases List.mem_append.1 he with h | h
    · exact q1 e h
    · exact q2 e h
  have q4 : ∀ e ∈ blanksN, okE e := fun e he => by
    simp only [List.mem_cons, List.not_mem_nil, or_false] at he
    rcases he with rfl | rfl | rfl <;> exact okE_plain (by decide) (by decide) (by decide) (by decide) rfl rfl
  have hml : (m5.map encObj).length = 5 := rfl
  refine ACalls.body Tryz.func16 rfl Tryz.ntmps16 (Nat.le_of_ble_eq_true rfl) ?_
  refine awp_seq ?_
  refine awp_region ?_
  refine al_d rfl rfl rfl (by exact opd_assign rfl rfl) ?_
  refine al_nil ?_
  refine awp_seq ?_
  refine awp_region ?_
  refine al_d rfl rfl rfl (by exact opr_call rfl rfl Tryz.call51 rfl (nodeN_c nA nX _)) ?_
  refine al_d rfl rfl rfl (by exact opr_call rfl rfl Tryz.call51 rfl (nodeN_c nB nX _)) ?_
  refine al_d rfl rfl rfl (by exact opr_call rfl rfl Tryz.call51 rfl (nodeN_c nC nX _)) ?_
  refine al_d rfl rfl rfl (by exact opr_call rfl rfl Tryz.call51 rfl (nodeN_c nD sNil _)) ?_
  refine al_d rfl rfl rfl (by exact opr_call rfl rfl Tryz.call51 rfl (nodeN_c nE sNil _)) ?_
  refine al_d rfl rfl rfl (by exact x_buildSlice (m5.map encObj) rfl so22 rfl rfl rfl rfl rfl (by intro r hr; obtain ⟨o, _, rfl⟩ := List.mem_map.1 hr; rfl)) ?_
  refine al_d rfl rfl rfl (by exact x_build rfl bo24 rfl rfl) ?_
  refine al_d rfl rfl rfl (by exact x_alloc (id := 1) rfl zo24 rfl rfl) ?_
  refine al_n rfl rfl (by exact (by first | exact x_store_all rfl Tryz.sizeOf24 rfl rfl rfl rfl rfl rfl rfl rfl | exact x_store1 rfl Tryz.sizeOf24 rfl rfl rfl rfl rfl rfl (by simp only [List.length_cons, List.length_nil]; omega) (by simp only [List.drop_succ_cons, List.drop_zero, List.take_succ_cons, List.take_zero, List.take_nil, List.map_cons, List.map_nil, List.set_cons_zero, List.set_cons_succ, List.cons_append, List.nil_append, encTag, encObj, encStr, encEdit, encInt]; rfl) (by simp only [List.drop_succ_cons, List.drop_zero, List.take_succ_cons, List.take_zero, List.take_nil, List.map_cons, List.map_nil, List.set_cons_zero, List.set_cons_succ, List.cons_append, List.nil_append, encTag, encObj, encStr, encEdit, encInt]; rfl) | exact x_store1 rfl Tryz.sizeOf24 rfl rfl rfl rfl rfl rfl (Nat.le_of_ble_eq_true rfl) rfl rfl)) ?_
  refine al_nil ?_
  refine awp_seq ?_
  refine awp_region ?_
  refine al_d rfl rfl rfl (by exact opd_assign_own (id := 2) (sz := 15) (ty := 44) rfl rfl rfl) ?_
  refine al_d rfl rfl rfl (by exact opd_assign_own (id := 3) (sz := 15) (ty := 44) rfl rfl rfl) ?_
  refine al_nil ?_
  refine awp_seq ?_
  refine awp_seq ?_
  refine awp_region ?_
  refine al_d rfl rfl rfl (by exact opd_assign rfl rfl) ?_
  refine al_nil ?_
  refine awp_block ?_
  -- loop
  refine awp_loop (σ := Nat) (fun i => ([(1, .ref 1 0 0 0), (2, .osl 2 i 0 i), (3, .osl 3 i 0 i), (4, iv (i : Int))],
    [(2, ⟨i, 15, 44, edRows ((ids5.take i).map dropN)⟩), (3, ⟨i, 15, 44, edRows ((ids5.take i).map moveN)⟩), (1, bx 1 24 [.pv (slObjs m5)])])) (fun i => i ≤ 5) (fun i => 5 - i) 0 (by omega) ?_ ?_
  · exact (Ent.wk ⟨⟨_, rfl, rfl⟩, (by first | (simp; done) | (simp; rfl) | exact clo_map _ _ _), ⟨_, rfl, rfl⟩, (by first | (simp; done) | (simp; rfl) | exact clo_map _ _ _), ⟨_, rfl, rfl⟩, (by first | (simp; done) | (simp; rfl) | exact clo_map _ _ _), ⟨_, rfl, rfl⟩, (by first | (simp; done) | (simp; rfl) | exact clo_map _ _ _), trivial⟩ ⟨⟨_, rfl, rfl⟩, (by first | (simp; done) | (simp; rfl) | exact clo_map _ _ _), ⟨_, rfl, rfl⟩, (by first | (simp; done) | (simp; rfl) | exact clo_map _ _ _), ⟨_, rfl, rfl⟩, (by first | (simp; done) | (simp; rfl) | exact clo_map _ _ _), trivial⟩ trivial)
  · intro i hi
    refine awp_seq ?_
    refine awp_seq ?_
    refine awp_region ?_
    refine al_d rfl rfl rfl (by exact opd_move rfl rfl) ?_
    refine al_d rfl rfl rfl (by exact (by first | exact opd_field_ref rfl fo24_0 rfl rfl rfl rfl | exact opd_field_pad rfl fo24_0 rfl rfl)) ?_
    refine al_d rfl rfl rfl (by exact (by first | exact opd_load1_ref rfl Tryz.isAgg22 rfl rfl rfl rfl rfl | exact opd_load1_pad rfl Tryz.isAgg22 rfl (by first | omega | assumption) rfl)) ?_
    refine al_d rfl rfl rfl (by exact (by first | exact opd_len_sl rfl Tryz.underlying22 rfl | exact opd_len_osl rfl Tryz.underlying22 rfl rfl rfl)) ?_
    refine al_d rfl rfl rfl (by exact opd_lss rfl rfl rfl) ?_
    refine al_nil ?_
    refine awp_cond rfl (fun hc1 => ?_) (fun hc1 => ?_)
    -- cond 1
    · have hlt : i < 5 := by
        have h : decide ((i : Int) < 5) = true := hc1
        simp at h; omega
      obtain ⟨o, hoi, hid⟩ := m5_at hlt
      have hdn : (ids5.take (i + 1)).map dropN = (ids5.take i).map dropN ++ [dropN o.id] := by rw [hid, List.map_append]; rfl
      have hmn : (ids5.take (i + 1)).map moveN = (ids5.take i).map moveN ++ [moveN o.id] := by rw [hid, List.map_append]; rfl
      have htl : (ids5.take i).length = i := by rw [List.length_take]; show min i 5 = i; omega
      refine awp_skip ?_
      refine awp_seq ?_
      refine awp_block ?_
      refine awp_seq ?_
      refine awp_region ?_
      refine al_d rfl rfl rfl (by exact opd_move rfl rfl) ?_
      refine al_d rfl rfl rfl (by exact (by first | exact opd_field_ref rfl fo24_0 rfl rfl rfl rfl | exact opd_field_pad rfl fo24_0 rfl rfl)) ?_
      refine al_d rfl rfl rfl (by exact (by first | exact opd_load1_ref rfl Tryz.isAgg22 rfl rfl rfl rfl rfl | exact opd_load1_pad rfl Tryz.isAgg22 rfl (by first | omega | assumption) rfl)) ?_
      refine al_d rfl rfl rfl (by exact opd_move rfl rfl) ?_
      refine al_d rfl rfl rfl (by exact (by first | exact x_index_pad rfl so22 rfl rfl (by omega) (by first | exact Int.toNat_natCast _ | rfl) (by assumption) rfl | exact x_index_osl rfl so22 rfl rfl rfl rfl rfl (by omega) (by first | exact Int.toNat_natCast _ | rfl) (by first | omega | assumption) rfl)) ?_
      refine al_d rfl rfl rfl (by exact (by first | exact opd_field_ref rfl fo42_0 rfl rfl rfl rfl | exact opd_field_pad rfl fo42_0 rfl rfl)) ?_
      refine al_d rfl rfl rfl (by exact (by first | exact opd_load1_ref rfl Tryz.isAgg9 rfl rfl rfl rfl rfl | exact opd_load1_pad rfl Tryz.isAgg9 rfl (by first | omega | assumption) rfl)) ?_
      refine al_d rfl rfl rfl (by exact x_build rfl bo44 rfl rfl) ?_
      refine al_d rfl rfl rfl (by exact x_buildSlice [encEdit (dropN o.id)] rfl so25 rfl rfl rfl rfl rfl (by simp [encEdit])) ?_
      refine al_d rfl rfl rfl (by exact (by first | exact x_append rfl so25 ei44 rfl rfl rfl rfl rfl (by rw [List.length_map, List.length_map]; exact htl) rfl (by simp [encEdit]) (rfl : _ = 1) (by omega) (rfl : _ = i + 1) (List.map_append (l₂ := [dropN o.id])).symm | exact x_append_osl rfl so25 ei44 rfl rfl rfl rfl rfl (by rw [List.length_map, List.length_map]; exact htl) rfl rfl rfl rfl (by simp [encEdit]) (rfl : _ = 1) (by omega) (rfl : _ = i + 1) (List.map_append (l₂ := [dropN o.id])).symm)) ?_
      refine al_d rfl rfl rfl (by exact opd_assign rfl rfl) ?_
      refine al_nil ?_
      refine awp_region ?_
      refine al_d rfl rfl rfl (by exact opd_move rfl rfl) ?_
      refine al_d rfl rfl rfl (by exact (by first | exact opd_field_ref rfl fo24_0 rfl rfl rfl rfl | exact opd_field_pad rfl fo24_0 rfl rfl)) ?_
      refine al_d rfl rfl rfl (by exact (by first | exact opd_load1_ref rfl Tryz.isAgg22 rfl rfl rfl rfl rfl | exact opd_load1_pad rfl Tryz.isAgg22 rfl (by first | omega | assumption) rfl)) ?_
      refine al_d rfl rfl rfl (by exact opd_move rfl rfl) ?_
      refine al_d rfl rfl rfl (by exact (by first | exact x_index_pad rfl so22 rfl rfl (by omega) (by first | exact Int.toNat_natCast _ | rfl) (by assumption) rfl | exact x_index_osl rfl so22 rfl rfl rfl rfl rfl (by omega) (by first | exact Int.toNat_natCast _ | rfl) (by first | omega | assumption) rfl)) ?_
      refine al_d rfl rfl rfl (by exact (by first | exact opd_field_ref rfl fo42_0 rfl rfl rfl rfl | exact opd_field_pad rfl fo42_0 rfl rfl)) ?_
      refine al_d rfl rfl rfl (by exact (by first | exact opd_load1_ref rfl Tryz.isAgg9 rfl rfl rfl rfl rfl | exact opd_load1_pad rfl Tryz.isAgg9 rfl (by first | omega | assumption) rfl)) ?_
      refine al_d rfl rfl rfl (by exact x_build rfl bo44 rfl rfl) ?_
      refine al_d rfl rfl rfl (by exact x_buildSlice [encEdit (moveN o.id)] rfl so25 rfl rfl rfl rfl rfl (by simp [encEdit])) ?_
      refine al_d rfl rfl rfl (by exact (by first | exact x_append rfl so25 ei44 rfl rfl rfl rfl rfl (by rw [List.length_map, List.length_map]; exact htl) rfl (by simp [encEdit]) (rfl : _ = 1) (by omega) (rfl : _ = i + 1) (List.map_append (l₂ := [moveN o.id])).symm | exact x_append_osl rfl so25 ei44 rfl rfl rfl rfl rfl (by rw [List.length_map, List.length_map]; exact htl) rfl rfl rfl rfl (by simp [encEdit]) (rfl : _ = 1) (by omega) (rfl : _ = i + 1) (List.map_append (l₂ := [moveN o.id])).symm)) ?_
      refine al_d rfl rfl rfl (by exact opd_assign rfl rfl) ?_
      refine al_nil ?_
      refine awp_region ?_
      refine al_d rfl rfl rfl (by exact opd_move rfl rfl) ?_
      refine al_d rfl rfl rfl (by exact opd_add rfl rfl rfl (by first | exact w64 (by omega) (by omega) | exact wu8 (by omega) (by omega) | rfl)) ?_
      refine al_d rfl rfl rfl (by exact opd_assign rfl rfl) ?_
      refine al_nil ?_
      -- end of a round
      refine ⟨i + 1, by omega, by omega, ?_⟩
      rw [hdn, hmn]
      exact (Ent.wk ⟨⟨_, rfl, rfl⟩, (by first | (simp; done) | (simp; rfl) | exact clo_map _ _ _), ⟨_, rfl, rfl⟩, (by first | (simp; done) | (simp; rfl) | exact clo_map _ _ _), ⟨_, rfl, rfl⟩, (by first | (simp; done) | (simp; rfl) | exact clo_map _ _ _), ⟨_, rfl, rfl⟩, (by first | (simp; done) | (simp; rfl) | exact clo_map _ _ _), trivial⟩ ⟨⟨_, rfl, rfl⟩, (by first | (simp; done) | (simp; rfl) | exact clo_map _ _ _), ⟨_, rfl, rfl⟩, (by first | (simp; done) | (simp; rfl) | exact clo_map _ _ _), ⟨_, rfl, rfl⟩, (by first | (simp; done) | (simp; rfl) | exact clo_map _ _ _), trivial⟩ trivial)
    · have hge : i = 5 := by
        have h : decide ((i : Int) < 5) = false := hc1
        simp at h; omega
      subst hge
      refine awp_exit ?_
      refine awp_seq ?_
      -- before the slot
      refine AWp.ent (Ent.fz (id := 2) (E' := [(1, .ref 1 0 0 0), (2, .pv (slEdits dropsN)), (3, .osl 3 5 0 5)]) (H' := [(3, ⟨5, 15, 44, edRows movesN⟩), (1, bx 1 24 [.pv (slObjs m5)])]) (dropsN.map encEdit) rfl (rows_of encEdit dropsN)
        (by intro p hp; simp only [List.mem_cons, List.not_mem_nil, or_false] at hp; rcases hp with rfl | rfl | rfl; exact ⟨_, rfl, .same (.ref rfl)⟩; exact ⟨_, rfl, .osl rfl⟩; exact ⟨_, rfl, .same (.osl rfl)⟩) rfl ⟨⟨_, rfl, rfl⟩, (by first | (simp; done) | (simp; rfl) | exact clo_map _ _ _), ⟨_, rfl, rfl⟩, (by first | (simp; done) | (simp; rfl) | exact clo_map _ _ _), trivial⟩ trivial) ?_
      refine awp_region ?_
      refine al_d rfl rfl rfl (by exact opd_move rfl rfl) ?_
      refine al_d rfl rfl rfl (by exact opd_move rfl rfl) ?_
      refine al_d rfl rfl rfl (by exact (by first | exact opd_len_sl rfl Tryz.underlying25 rfl | exact opd_len_osl rfl Tryz.underlying25 rfl rfl rfl)) ?_
      refine al_d rfl rfl rfl (by exact opd_move rfl rfl) ?_
      refine al_d rfl rfl rfl (by exact (by first | exact opd_len_sl rfl Tryz.underlying25 rfl | exact opd_len_osl rfl Tryz.underlying25 rfl rfl rfl)) ?_
      refine al_d rfl rfl rfl (by exact x_slice_full rfl so25 rfl (len15 dropsN) (by simp [ids5]) rfl rfl rfl) ?_
      refine al_d rfl rfl rfl (by exact opd_move rfl rfl) ?_
      refine al_d rfl rfl rfl (by exact x_append_full (id := 50) (rows' := edRows (dropsN ++ movesN)) rfl so25 ei44 rfl (by simp [ids5]) (len15 dropsN) rfl rfl rfl rfl rfl rfl (len15' movesN) (by decide) (by decide) (by decide) (rfl : _ = 10) (by rfl)) ?_
      refine al_d rfl rfl rfl (by exact opd_assign rfl rfl) ?_
      refine al_nil ?_
      refine awp_seq ?_
      refine awp_region ?_
      refine al_d rfl rfl rfl (by exact opd_assign rfl rfl) ?_
      refine al_nil ?_
      refine awp_seq ?_
      refine awp_region ?_
      refine al_d rfl rfl rfl (by exact (by first | exact opd_loadn_ref rfl Tryz.isAgg24 Tryz.sizeOf24 rfl rfl rfl rfl (by simp only [List.drop_succ_cons, List.drop_zero, List.take_succ_cons, List.take_zero, List.take_nil, List.map_cons, List.map_nil, List.set_cons_zero, List.set_cons_succ, List.cons_append, List.nil_append, encTag, encObj, encStr, encEdit, encInt]; rfl) rfl | exact opd_loadn_pad rfl Tryz.isAgg24 Tryz.sizeOf24 rfl (by first | omega | assumption) (by simp only [List.drop_succ_cons, List.drop_zero, List.take_succ_cons, List.take_zero, List.take_nil, List.map_cons, List.map_nil, List.set_cons_zero, List.set_cons_succ, List.cons_append, List.nil_append, encTag, encObj, encStr, encEdit, encInt]; rfl) rfl)) ?_
      refine al_d rfl rfl rfl (by exact opd_move rfl rfl) ?_
      refine al_d rfl rfl rfl (by exact opr_call rfl rfl Tryz.call19 rfl (find_v fnd1 _ ok5 (by decide) q1)) ?_
      refine al_d rfl rfl rfl (by exact x_alloc (id := 6) rfl zo31 rfl rfl) ?_
      refine al_n rfl rfl (by exact (by first | exact x_store_all rfl Tryz.sizeOf31 rfl rfl rfl rfl rfl rfl rfl rfl | exact x_store rfl Tryz.sizeOf31 rfl rfl rfl rfl rfl rfl rfl (by simp only [List.length_cons, List.length_nil]; omega) (by simp only [List.drop_succ_cons, List.drop_zero, List.take_succ_cons, List.take_zero, List.take_nil, List.map_cons, List.map_nil, List.set_cons_zero, List.set_cons_succ, List.cons_append, List.nil_append, encTag, encObj, encStr, encEdit, encInt]; rfl) (by simp only [List.drop_succ_cons, List.drop_zero, List.take_succ_cons, List.take_zero, List.take_nil, List.map_cons, List.map_nil, List.set_cons_zero, List.set_cons_succ, List.cons_append, List.nil_append, encTag, encObj, encStr, encEdit, encInt]; rfl) | exact x_store rfl Tryz.sizeOf31 rfl rfl rfl rfl rfl rfl rfl (Nat.le_of_ble_eq_true rfl) rfl rfl)) ?_
      refine al_nil ?_
      refine awp_seq ?_
      -- before the slot
      refine AWp.ent (Ent.fz (id := 50) (E' := [(1, .ref 1 0 0 0), (3, .pv (slEdits (dropsN ++ movesN))), (5, .pv (.fn 52)), (6, .ref 6 0 0 0)]) (H' := [(6, bx 2 31 [iv 1, .pv (slInts [0, 1, 2, 3, 4])]), (1, bx 1 24 [.pv (slObjs m5)])]) ((dropsN ++ movesN).map encEdit) rfl (rows_of encEdit _)
        (by intro p hp; simp only [List.mem_cons, List.not_mem_nil, or_false] at hp; rcases hp with rfl | rfl | rfl | rfl; exact ⟨_, rfl, .same (.ref rfl)⟩; exact ⟨_, rfl, .osl rfl⟩; exact ⟨_, rfl, .same (by simp)⟩; exact ⟨_, rfl, .same (.ref rfl)⟩) rfl ⟨⟨_, rfl, rfl⟩, (by first | (simp; done) | (simp; rfl) | exact clo_map _ _ _), ⟨_, rfl, rfl⟩, (by first | (simp; done) | (simp; rfl) | exact clo_map _ _ _), trivial⟩ trivial) ?_
      refine awp_region ?_
      refine al_d rfl rfl rfl (by exact (by first | exact opd_loadn_ref rfl Tryz.isAgg24 Tryz.sizeOf24 rfl rfl rfl rfl (by simp only [List.drop_succ_cons, List.drop_zero, List.take_succ_cons, List.take_zero, List.take_nil, List.map_cons, List.map_nil, List.set_cons_zero, List.set_cons_succ, List.cons_append, List.nil_append, encTag, encObj, encStr, encEdit, encInt]; rfl) rfl | exact opd_loadn_pad rfl Tryz.isAgg24 Tryz.sizeOf24 rfl (by first | omega | assumption) (by simp only [List.drop_succ_cons, List.drop_zero, List.take_succ_cons, List.take_zero, List.take_nil, List.map_cons, List.map_nil, List.set_cons_zero, List.set_cons_succ, List.cons_append, List.nil_append, encTag, encObj, encStr, encEdit, encInt]; rfl) rfl)) ?_
      refine al_d rfl rfl rfl (by exact opd_move rfl rfl) ?_
      refine al_d rfl rfl rfl (by exact opr_call rfl rfl Tryz.call19 rfl (find_v fnd2 _ ok5 (by decide) q3)) ?_
      refine al_d rfl rfl rfl (by exact x_alloc (id := 7) rfl zo31 rfl rfl) ?_
      refine al_n rfl rfl (by exact (by first | exact x_store_all rfl Tryz.sizeOf31 rfl rfl rfl rfl rfl rfl rfl rfl | exact x_store rfl Tryz.sizeOf31 rfl rfl rfl rfl rfl rfl rfl (by simp only [List.length_cons, List.length_nil]; omega) (by simp only [List.drop_succ_cons, List.drop_zero, List.take_succ_cons, List.take_zero, List.take_nil, List.map_cons, List.map_nil, List.set_cons_zero, List.set_cons_succ, List.cons_append, List.nil_append, encTag, encObj, encStr, encEdit, encInt]; rfl) (by simp only [List.drop_succ_cons, List.drop_zero, List.take_succ_cons, List.take_zero, List.take_nil, List.map_cons, List.map_nil, List.set_cons_zero, List.set_cons_succ, List.cons_append, List.nil_append, encTag, encObj, encStr, encEdit, encInt]; rfl) | exact x_store rfl Tryz.sizeOf31 rfl rfl rfl rfl rfl rfl rfl (Nat.le_of_ble_eq_true rfl) rfl rfl)) ?_
      refine al_nil ?_
      refine awp_seq ?_
      refine awp_drawc follows ?_
      refine dc_cons (r := ⟨_, some [1], []⟩) (DStep.plain rfl (fun H1 hH => by exact (by first | exact opd_loadn_ref rfl Tryz.isAgg24 Tryz.sizeOf24 rfl ((hH _ rfl).trans rfl) rfl rfl (by simp only [List.drop_succ_cons, List.drop_zero, List.take_succ_cons, List.take_zero, List.take_nil, List.map_cons, List.map_nil, List.set_cons_zero, List.set_cons_succ, List.cons_append, List.nil_append, encTag, encObj, encStr, encEdit, encInt]; rfl) rfl | exact opd_loadn_pad rfl Tryz.isAgg24 Tryz.sizeOf24 rfl (by first | omega | assumption) (by simp only [List.drop_succ_cons, List.drop_zero, List.take_succ_cons, List.take_zero, List.take_nil, List.map_cons, List.map_nil, List.set_cons_zero, List.set_cons_succ, List.cons_append, List.nil_append, encTag, encObj, encStr, encEdit, encInt]; rfl) rfl))) rfl ?_
      refine dc_cons (r := ⟨_, some [], []⟩) (DStep.plain rfl (fun H1 hH => by exact opd_move rfl rfl)) rfl ?_
      refine dc_cons (r := ⟨_, some [], []⟩) (DStep.plain rfl (fun H1 hH => by exact opr_callV rfl rfl rfl (CallsV.fn Tryz.call52 (blank_c nC _)))) rfl ?_
      refine dc_cons (r := ⟨_, some [], []⟩) (DStep.plain rfl (fun H1 hH => by exact opd_move rfl rfl)) rfl ?_
      refine dc_cons (r := ⟨_, some [], []⟩) (DStep.plain rfl (fun H1 hH => by exact opr_callV rfl rfl rfl (CallsV.fn Tryz.call52 (blank_c nA _)))) rfl ?_
      refine dc_cons (r := ⟨_, some [], []⟩) (DStep.plain rfl (fun H1 hH => by exact opd_move rfl rfl)) rfl ?_
      refine dc_cons (r := ⟨_, some [], []⟩) (DStep.plain rfl (fun H1 hH => by exact opr_callV rfl rfl rfl (CallsV.fn Tryz.call52 (blank_c nB _)))) rfl ?_
      refine dc_cons (r := ⟨_, some [], []⟩) (DStep.plain rfl (fun H1 hH => by exact x_buildSlice (blanksN.map encEdit) rfl so25 rfl rfl rfl rfl rfl (len15 blanksN))) rfl ?_
      refine dc_cons (r := ⟨_, some [], []⟩) (DStep.plain rfl (fun H1 hH => by exact opr_call rfl rfl Tryz.call19 rfl (find_v fnd3 _ ok5 (by decide) q4))) rfl ?_
      refine dc_cons (r := ⟨_, some [8], [_]⟩) (DStep.plain rfl (fun H1 hH => by exact x_alloc (id := 8) rfl zo31 rfl ((hH _ rfl).trans rfl))) rfl ?_
      refine dc_cons (r := ⟨_, some [8], [_]⟩) (DStep.plain rfl (fun H1 hH => by exact (by first | exact x_store_all rfl Tryz.sizeOf31 rfl rfl rfl rfl ((hH _ rfl).trans rfl) rfl rfl rfl | exact x_store rfl Tryz.sizeOf31 rfl rfl rfl rfl ((hH _ rfl).trans rfl) rfl rfl (by simp only [List.length_cons, List.length_nil]; omega) (by simp only [List.drop_succ_cons, List.drop_zero, List.take_succ_cons, List.take_zero, List.take_nil, List.map_cons, List.map_nil, List.set_cons_zero, List.set_cons_succ, List.cons_append, List.nil_append, encTag, encObj, encStr, encEdit, encInt]; rfl) (by simp only [List.drop_succ_cons, List.drop_zero, List.take_succ_cons, List.take_zero, List.take_nil, List.map_cons, List.map_nil, List.set_cons_zero, List.set_cons_succ, List.cons_append, List.nil_append, encTag, encObj, encStr, encEdit, encInt]; rfl) | exact x_store rfl Tryz.sizeOf31 rfl rfl rfl rfl ((hH _ rfl).trans rfl) rfl rfl (Nat.le_of_ble_eq_true rfl) rfl rfl))) rfl ?_
      refine dc_nil ⟨by kernel_rfl, ?_⟩
      refine awp_seq ?_
      refine awp_region ?_
      refine al_d rfl rfl rfl (by exact (by first | exact opd_loadn_ref rfl Tryz.isAgg31 Tryz.sizeOf31 rfl rfl rfl rfl (by simp only [List.drop_succ_cons, List.drop_zero, List.take_succ_cons, List.take_zero, List.take_nil, List.map_cons, List.map_nil, List.set_cons_zero, List.set_cons_succ, List.cons_append, List.nil_append, encTag, encObj, encStr, encEdit, encInt]; rfl) rfl | exact opd_loadn_pad rfl Tryz.isAgg31 Tryz.sizeOf31 rfl (by first | omega | assumption) (by simp only [List.drop_succ_cons, List.drop_zero, List.take_succ_cons, List.take_zero, List.take_nil, List.map_cons, List.map_nil, List.set_cons_zero, List.set_cons_succ, List.cons_append, List.nil_append, encTag, encObj, encStr, encEdit, encInt]; rfl) rfl)) ?_
      refine al_d rfl rfl rfl (by exact x_buildSlice ([0, 1, 2, 3, 4].map encInt) rfl so29 rfl rfl rfl rfl rfl (by simp [encInt])) ?_
      refine al_d rfl rfl rfl (by exact x_build rfl bo31 rfl rfl) ?_
      refine al_d rfl rfl rfl (by exact opr_call rfl rfl Tryz.call18 rfl (same_v rfl rfl _ (by decide))) ?_
      refine al_d rfl rfl rfl (by exact opd_move rfl rfl) ?_
      refine al_ond rfl rfl rfl (by first | rfl | assumption) rfl rfl (by exact (by first | exact opd_loadn_ref rfl Tryz.isAgg31 Tryz.sizeOf31 rfl rfl rfl rfl (by simp only [List.drop_succ_cons, List.drop_zero, List.take_succ_cons, List.take_zero, List.take_nil, List.map_cons, List.map_nil, List.set_cons_zero, List.set_cons_succ, List.cons_append, List.nil_append, encTag, encObj, encStr, encEdit, encInt]; rfl) rfl | exact opd_loadn_pad rfl Tryz.isAgg31 Tryz.sizeOf31 rfl (by first | omega | assumption) (by simp only [List.drop_succ_cons, List.drop_zero, List.take_succ_cons, List.take_zero, List.take_nil, List.map_cons, List.map_nil, List.set_cons_zero, List.set_cons_succ, List.cons_append, List.nil_append, encTag, encObj, encStr, encEdit, encInt]; rfl) rfl)) ?_
      refine al_ond rfl rfl rfl (by first | rfl | assumption) rfl rfl (by exact x_build rfl bo31 rfl rfl) ?_
      refine al_ond rfl rfl rfl (by first | rfl | assumption) rfl rfl (by exact opr_call rfl rfl Tryz.call18 rfl (same_v rfl rfl _ (by decide))) ?_
      refine al_d rfl rfl rfl (by exact (by first | exact opd_pick_t rfl rfl rfl | exact opd_pick_f rfl rfl rfl | exact opd_pickt rfl rfl (by assumption) rfl | exact opd_pickf rfl rfl (by assumption) rfl | exact opd_pick rfl rfl rfl)) ?_
      refine al_d rfl rfl rfl (by exact opd_move rfl rfl) ?_
      refine al_ond rfl rfl rfl (by first | rfl | assumption) rfl rfl (by exact (by first | exact opd_loadn_ref rfl Tryz.isAgg31 Tryz.sizeOf31 rfl rfl rfl rfl (by simp only [List.drop_succ_cons, List.drop_zero, List.take_succ_cons, List.take_zero, List.take_nil, List.map_cons, List.map_nil, List.set_cons_zero, List.set_cons_succ, List.cons_append, List.nil_append, encTag, encObj, encStr, encEdit, encInt]; rfl) rfl | exact opd_loadn_pad rfl Tryz.isAgg31 Tryz.sizeOf31 rfl (by first | omega | assumption) (by simp only [List.drop_succ_cons, List.drop_zero, List.take_succ_cons, List.take_zero, List.take_nil, List.map_cons, List.map_nil, List.set_cons_zero, List.set_cons_succ, List.cons_append, List.nil_append, encTag, encObj, encStr, encEdit, encInt]; rfl) rfl)) ?_
      refine al_ond rfl rfl rfl (by first | rfl | assumption) rfl rfl (by exact x_buildSlice ([0, 1, 2].map encInt) rfl so29 rfl rfl rfl rfl rfl (by simp [encInt])) ?_
      refine al_ond rfl rfl rfl (by first | rfl | assumption) rfl rfl (by exact x_build rfl bo31 rfl rfl) ?_
      refine al_ond rfl rfl rfl (by first | rfl | assumption) rfl rfl (by exact opr_call rfl rfl Tryz.call18 rfl (same_v rfl rfl _ (by decide))) ?_
      refine al_d rfl rfl rfl (by exact (by first | exact opd_pick_t rfl rfl rfl | exact opd_pick_f rfl rfl rfl | exact opd_pickt rfl rfl (by assumption) rfl | exact opd_pickf rfl rfl (by assumption) rfl | exact opd_pick rfl rfl rfl)) ?_
      refine al_d rfl rfl rfl (by exact opd_assign rfl rfl) ?_
      refine al_nil ?_
      refine awp_ret ?_
      -- return
      refine aret1 (H' := []) (by first | exact .inr rfl | exact .inl rfl) rfl (rval_tmp rfl) (Fin.wk (by simp) trivial trivial) ?_
      exact ⟨rfl, rfl⟩
end Go.Proofs.YtdgoodjhndeojaaGreat
end
