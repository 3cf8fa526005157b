/-
  CONTRACTS: what is moderate (planisphereref13.Few); objects and maps compared (planisphereref11.Same, 12.Same). Conditions: lengths below 2^62.
  CONTRACTS: the reference: tags found, points, distances, objects found by halving, evidence of a kind. Conditions: lengths below 2^62.
  CONTRACTS: the reference: sound objects, closed maps. Conditions: lengths below 2^40.
  PLAIN: the reference's valid edits are the package's. Conditions: none.
-/
import Derived.Test.YtdgoodjhndeojaaGreatKL1M7
section
set_option linter.unusedVariables false
set_option linter.unusedSimpArgs false
set_option maxRecDepth 100000
namespace Go.Proofs.YtdgoodjhndeojaaGreat
open Go.Abs
/-- The k-th elements are equal, for all k below n. -/
def eqTo {α : Type} (e : α → α → Bool) (a b : List α) : Bool := decide (a.length = b.length) && (List.range a.length).all fun k => match a[k]?, b[k]? with | some x, some y => e x y | _, _ => true
theorem eqTo_iff {α : Type} {e : α → α → Bool} (he : ∀ x y, e x y = true ↔ x = y) {a b : List α} : eqTo e a b = true ↔ a = b := by
  constructor
  · intro h
    simp only [eqTo, Bool.and_eq_true, decide_eq_true_eq, List.all_eq_true, List.mem_range] at h
    apply List.ext_getElem h.1
    intro k h1 h2
    have := h.2 k h1
    rw [List.getElem?_eq_getElem h1, List.getElem?_eq_getElem h2] at this
    exact (he _ _).1 this
  · rintro rfl
    simp only [eqTo, Bool.and_eq_true, decide_eq_true_eq, List.all_eq_true, List.mem_range, true_and]
    intro k hk
    rw [List.getElem?_eq_getElem hk]
    exact (he _ _).2 rfl
theorem eqTo_bad {α : Type} {e : α → α → Bool} {a b : List α} {k : Nat} {x y : α} (hx : a[k]? = some x) (hy : b[k]? = some y) (h : e x y = false) : eqTo e a b = false := by
  have hk := (List.getElem?_eq_some_iff.1 hx).1
  rw [eqTo, Bool.and_eq_false_iff]
  right
  rw [List.all_eq_false]
  exact ⟨k, List.mem_range.2 hk, by rw [hx, hy]; simp [h]⟩
theorem eqTo_good {α : Type} {e : α → α → Bool} {a b : List α} (hl : a.length = b.length) (h : ∀ k, k < a.length → ∀ x y, a[k]? = some x → b[k]? = some y → e x y = true) : eqTo e a b = true := by
  simp only [eqTo, Bool.and_eq_true, decide_eq_true_eq, List.all_eq_true, List.mem_range]
  refine ⟨hl, fun k hk => ?_⟩
  rw [List.getElem?_eq_getElem hk, List.getElem?_eq_getElem (by omega)]
  exact h k hk _ _ (List.getElem?_eq_getElem hk) (List.getElem?_eq_getElem (by omega))
def strEq (a b : ByteArray) : Bool := decide (a = b)
theorem strEq_iff (a b : ByteArray) : strEq a b = true ↔ a = b := by simp [strEq]
def headEq (a b : GObj) : Bool := decide (a.id = b.id) && decide (a.kind = b.kind) && (decide (a.x = b.x) && decide (a.y = b.y)) && decide (a.refs.length = b.refs.length) && decide (a.tags.length = b.tags.length)
def gSameR (a b : GObj) : Bool := headEq a b && (eqTo strEq a.refs b.refs && eqTo tagEq a.tags b.tags)
theorem gSameR_iff {a b : GObj} : gSameR a b = true ↔ a = b := by
  rw [gSameR, Bool.and_eq_true, Bool.and_eq_true, eqTo_iff strEq_iff, eqTo_iff tagEq_iff]
  cases a; cases b
  simp only [headEq, Bool.and_eq_true, decide_eq_true_eq, GObj.mk.injEq]
  constructor
  · rintro ⟨⟨⟨⟨⟨a1, a2⟩, a3, a4⟩, a5⟩, a6⟩, a7, a8⟩
    exact ⟨a1, a2, a3, a4, a7, a8⟩
  · rintro ⟨a1, a2, a3, a4, a7, a8⟩
    exact ⟨⟨⟨⟨⟨a1, a2⟩, a3, a4⟩, by rw [a7]⟩, by rw [a8]⟩, a7, a8⟩
def headNe (a b : GObj) (n1 n2 n3 n4 : Int) : Bool := !decide (a.id = b.id) || !decide (a.kind = b.kind) || !(decide (a.x = b.x) && decide (a.y = b.y)) || !decide (n1 = n2) || !decide (n3 = n4)
theorem headNe_eq (a b : GObj) : headNe a b ((a.refs.map encStr).length : Int) ((b.refs.map encStr).length : Int) ((a.tags.map encTag).length : Int) ((b.tags.map encTag).length : Int) = !headEq a b := by
  simp only [headNe, headEq, List.length_map, Bool.not_and, Int.natCast_inj]
theorem same11_c (a b : GObj) (H : Heap) (ha : a.refs.length < 4611686018427387904) (ha2 : a.tags.length < 4611686018427387904) : ACalls Tryz.prog 85 [av (encObj a), av (encObj b)] H (fun r H' => r = bv (gSameR a b) ∧ H' = H) := by
  refine ACalls.pure ?_ (by simp) H
  have hra : (a.refs.map encStr).length = a.refs.length := List.length_map _
  have hta : (a.tags.map encTag).length = a.tags.length := List.length_map _
  refine ACalls.body Tryz.func85 rfl Tryz.ntmps85 (Nat.le_of_ble_eq_true rfl) ?_
  refine awp_seq ?_
  refine awp_region ?_
  refine al_d rfl rfl rfl (by exact opd_box (id := 2) rfl rfl rfl rfl rfl) ?_
  refine al_d rfl rfl rfl (by exact opd_box (id := 3) rfl rfl rfl rfl rfl) ?_
  refine al_d rfl rfl rfl (by exact opd_assign rfl rfl) ?_
  refine al_nil ?_
  refine awp_seq ?_
  refine awp_seq ?_
  refine awp_bool (t := 43) (n := 41) (X := headNe a b ((a.refs.map encStr).length : Int) ((b.refs.map encStr).length : Int) ((a.tags.map encTag).length : Int) ((b.tags.map encTag).length : Int)) ?_ ?_
  · all_goals (refine al_d rfl rfl rfl (by exact (by exact opd_field_ref rfl fo42_0 rfl rfl rfl rfl)) ?_)
    all_goals (refine al_d rfl rfl rfl (by exact (by exact opd_load1_ref rfl Tryz.isAgg9 rfl rfl rfl rfl rfl)) ?_)
    all_goals (refine al_d rfl rfl rfl (by exact (by exact opd_field_ref rfl fo42_0 rfl rfl rfl rfl)) ?_)
    all_goals (refine al_d rfl rfl rfl (by exact (by exact opd_load1_ref rfl Tryz.isAgg9 rfl rfl rfl rfl rfl)) ?_)
    all_goals (refine al_d rfl rfl rfl (by exact opd_sneq rfl rfl rfl) ?_)
    all_goals (refine al_d rfl rfl rfl (by exact opd_move rfl rfl) ?_)
    all_goals (refine al_split (t := 12) rfl (fun h12 => ?_) (fun h12 => ?_))
    all_goals (try contradiction)
    all_goals (first | refine al_off rfl rfl rfl rfl rfl ?_ | refine al_ond rfl rfl rfl rfl rfl rfl (by exact (by exact opd_field_ref rfl fo42_1 rfl rfl rfl rfl)) ?_)
    all_goals (first | refine al_off rfl rfl rfl rfl rfl ?_ | refine al_ond rfl rfl rfl rfl rfl rfl (by exact (by exact opd_load1_ref rfl Tryz.isAgg3 rfl rfl rfl rfl rfl)) ?_)
    all_goals (first | refine al_off rfl rfl rfl rfl rfl ?_ | refine al_ond rfl rfl rfl rfl rfl rfl (by exact (by exact opd_field_ref rfl fo42_1 rfl rfl rfl rfl)) ?_)
    all_goals (first | refine al_off rfl rfl rfl rfl rfl ?_ | refine al_ond rfl rfl rfl rfl rfl rfl (by exact (by exact opd_load1_ref rfl Tryz.isAgg3 rfl rfl rfl rfl rfl)) ?_)
    all_goals (first | refine al_off rfl rfl rfl rfl rfl ?_ | refine al_ond rfl rfl rfl rfl rfl rfl (by exact opd_neq rfl rfl rfl) ?_)
    all_goals (refine al_d rfl rfl rfl (by exact (by first | exact opd_pick_t rfl rfl rfl | exact opd_pick_f rfl rfl rfl)) ?_)
    all_goals (refine al_d rfl rfl rfl (by exact opd_move rfl rfl) ?_)
    all_goals (refine al_split (t := 19) rfl (fun h19 => ?_) (fun h19 => ?_))
    all_goals (try contradiction)
    all_goals (first | refine al_off rfl rfl rfl rfl rfl ?_ | refine al_ond rfl rfl rfl rfl rfl rfl (by exact (by exact opd_field_ref rfl fo42_2 rfl rfl rfl rfl)) ?_)
    all_goals (first | refine al_off rfl rfl rfl rfl rfl ?_ | refine al_ond rfl rfl rfl rfl rfl rfl (by exact (by exact opd_loadn_ref rfl Tryz.isAgg38 Tryz.sizeOf38 rfl rfl rfl rfl (by simp only [List.drop_succ_cons, List.drop_zero, List.take_succ_cons, List.take_zero, List.take_nil, List.map_cons, List.map_nil, List.set_cons_zero, List.set_cons_succ, List.cons_append, List.nil_append, encTag, encObj, encStr]; rfl) rfl)) ?_)
    all_goals (first | refine al_off rfl rfl rfl rfl rfl ?_ | refine al_ond rfl rfl rfl rfl rfl rfl (by exact (by exact opd_field_ref rfl fo42_2 rfl rfl rfl rfl)) ?_)
    all_goals (first | refine al_off rfl rfl rfl rfl rfl ?_ | refine al_ond rfl rfl rfl rfl rfl rfl (by exact (by exact opd_loadn_ref rfl Tryz.isAgg38 Tryz.sizeOf38 rfl rfl rfl rfl (by simp only [List.drop_succ_cons, List.drop_zero, List.take_succ_cons, List.take_zero, List.take_nil, List.map_cons, List.map_nil, List.set_cons_zero, List.set_cons_succ, List.cons_append, List.nil_append, encTag, encObj, encStr]; rfl) rfl)) ?_)
    all_goals (first | refine al_off rfl rfl rfl rfl rfl ?_ | refine al_ond rfl rfl rfl rfl rfl rfl (by exact opd_aneq rfl rfl rfl rfl rfl Tryz.eqGuardType38 (se38 _ _ _ _)) ?_)
    all_goals (refine al_d rfl rfl rfl (by exact (by first | exact opd_pick_t rfl rfl rfl | exact opd_pick_f rfl rfl rfl)) ?_)
    all_goals (refine al_d rfl rfl rfl (by exact opd_move rfl rfl) ?_)
    all_goals (refine al_split (t := 26) rfl (fun h26 => ?_) (fun h26 => ?_))
    all_goals (try contradiction)
    all_goals (first | refine al_off rfl rfl rfl rfl rfl ?_ | refine al_ond rfl rfl rfl rfl rfl rfl (by exact (by exact opd_field_ref rfl fo42_3 rfl rfl rfl rfl)) ?_)
    all_goals (first | refine al_off rfl rfl rfl rfl rfl ?_ | refine al_ond rfl rfl rfl rfl rfl rfl (by exact (by exact opd_load1_ref rfl Tryz.isAgg39 rfl rfl rfl rfl rfl)) ?_)
    all_goals (first | refine al_off rfl rfl rfl rfl rfl ?_ | refine al_ond rfl rfl rfl rfl rfl rfl (by exact (by exact opd_len_sl rfl Tryz.underlying39 rfl)) ?_)
    all_goals (first | refine al_off rfl rfl rfl rfl rfl ?_ | refine al_ond rfl rfl rfl rfl rfl rfl (by exact (by exact opd_field_ref rfl fo42_3 rfl rfl rfl rfl)) ?_)
    all_goals (first | refine al_off rfl rfl rfl rfl rfl ?_ | refine al_ond rfl rfl rfl rfl rfl rfl (by exact (by exact opd_load1_ref rfl Tryz.isAgg39 rfl rfl rfl rfl rfl)) ?_)
    all_goals (first | refine al_off rfl rfl rfl rfl rfl ?_ | refine al_ond rfl rfl rfl rfl rfl rfl (by exact (by exact opd_len_sl rfl Tryz.underlying39 rfl)) ?_)
    all_goals (first | refine al_off rfl rfl rfl rfl rfl ?_ | refine al_ond rfl rfl rfl rfl rfl rfl (by exact opd_neq rfl rfl rfl) ?_)
    all_goals (refine al_d rfl rfl rfl (by exact (by first | exact opd_pick_t rfl rfl rfl | exact opd_pick_f rfl rfl rfl)) ?_)
    all_goals (refine al_d rfl rfl rfl (by exact opd_move rfl rfl) ?_)
    all_goals (refine al_split (t := 35) rfl (fun h35 => ?_) (fun h35 => ?_))
    all_goals (try contradiction)
    all_goals (first | refine al_off rfl rfl rfl rfl rfl ?_ | refine al_ond rfl rfl rfl rfl rfl rfl (by exact (by exact opd_field_ref rfl fo42_4 rfl rfl rfl rfl)) ?_)
    all_goals (first | refine al_off rfl rfl rfl rfl rfl ?_ | refine al_ond rfl rfl rfl rfl rfl rfl (by exact (by exact opd_load1_ref rfl Tryz.isAgg40 rfl rfl rfl rfl rfl)) ?_)
    all_goals (first | refine al_off rfl rfl rfl rfl rfl ?_ | refine al_ond rfl rfl rfl rfl rfl rfl (by exact (by exact opd_len_sl rfl Tryz.underlying40 rfl)) ?_)
    all_goals (first | refine al_off rfl rfl rfl rfl rfl ?_ | refine al_ond rfl rfl rfl rfl rfl rfl (by exact (by exact opd_field_ref rfl fo42_4 rfl rfl rfl rfl)) ?_)
    all_goals (first | refine al_off rfl rfl rfl rfl rfl ?_ | refine al_ond rfl rfl rfl rfl rfl rfl (by exact (by exact opd_load1_ref rfl Tryz.isAgg40 rfl rfl rfl rfl rfl)) ?_)
    all_goals (first | refine al_off rfl rfl rfl rfl rfl ?_ | refine al_ond rfl rfl rfl rfl rfl rfl (by exact (by exact opd_len_sl rfl Tryz.underlying40 rfl)) ?_)
    all_goals (first | refine al_off rfl rfl rfl rfl rfl ?_ | refine al_ond rfl rfl rfl rfl rfl rfl (by exact opd_neq rfl rfl rfl) ?_)
    all_goals (refine al_d rfl rfl rfl (by exact (by first | exact opd_pick_t rfl rfl rfl | exact opd_pick_f rfl rfl rfl)) ?_)
    all_goals (refine al_nil ?_)
    all_goals (exact ⟨⟨_, rfl, by first | (simp only [headNe, *]; rfl) | (simp_all [headNe]; done)⟩, rfl, rfl, rfl⟩)
  refine awp_cond rfl (fun hc1 => ?_) (fun hc1 => ?_)
  -- cond 1
  · rw [headNe_eq] at hc1
    refine awp_seq ?_
    refine awp_region ?_
    refine al_d rfl rfl rfl (by exact opd_assign rfl rfl) ?_
    refine al_nil ?_
    refine awp_ret ?_
    -- return
    refine aret1 (H' := []) (by exact .inr rfl) rfl (rval_tmp rfl) (Fin.wk (by simp) trivial trivial) ?_
    refine ⟨?_, rfl⟩
    have : headEq a b = false := by simpa using hc1
    rw [gSameR, this]; rfl
  · rw [headNe_eq] at hc1
    have hh : headEq a b = true := by simpa using hc1
    have hlens : a.refs.length = b.refs.length ∧ a.tags.length = b.tags.length := by
      simp only [headEq, Bool.and_eq_true, decide_eq_true_eq] at hh
      exact ⟨hh.1.2, hh.2⟩
    obtain ⟨hl1, hl2⟩ := hlens
    rw [gSameR, hh, Bool.true_and]
    refine awp_skip ?_
    refine awp_seq ?_
    refine awp_seq ?_
    refine awp_region ?_
    refine al_d rfl rfl rfl (by exact opd_assign rfl rfl) ?_
    refine al_nil ?_
    refine awp_block ?_
    -- loop
    refine awp_loop (σ := Nat) (fun k => ([(2, .ref 2 0 0 0), (3, .ref 3 0 0 0), (5, iv (k : Int))], [(3, bx 6 42 ((encObj b).map .pv)), (2, bx 6 42 ((encObj a).map .pv))])) (fun k => k ≤ a.refs.length ∧ ∀ j, j < k → ∀ x y, a.refs[j]? = some x → b.refs[j]? = some y → strEq x y = true) (fun k => a.refs.length - k) 0 ⟨by omega, by omega⟩ ?_ ?_
    · exact (Ent.wk ⟨⟨_, rfl, rfl⟩, (by (simp; rfl)), ⟨_, rfl, rfl⟩, (by (simp; rfl)), ⟨_, rfl, rfl⟩, (by (simp; done)), trivial⟩ ⟨⟨_, rfl, rfl⟩, (by (simp; done)), ⟨_, rfl, rfl⟩, (by (simp; done)), trivial⟩ trivial)
    · rintro k ⟨hk, hall⟩
      refine awp_seq ?_
      refine awp_seq ?_
      refine awp_region ?_
      refine al_d rfl rfl rfl (by exact opd_move rfl rfl) ?_
      refine al_d rfl rfl rfl (by exact (by exact opd_field_ref rfl fo42_3 rfl rfl rfl rfl)) ?_
      refine al_d rfl rfl rfl (by exact (by exact opd_load1_ref rfl Tryz.isAgg39 rfl rfl rfl rfl rfl)) ?_
      refine al_d rfl rfl rfl (by exact (by exact opd_len_sl rfl Tryz.underlying39 rfl)) ?_
      refine al_d rfl rfl rfl (by exact opd_lss rfl rfl rfl) ?_
      refine al_nil ?_
      refine awp_cond rfl (fun hc2 => ?_) (fun hc2 => ?_)
      -- cond 2
      · have hlt : k < a.refs.length := by have := of_decide_eq_true hc2; omega
        obtain ⟨x, hx⟩ := get_of_lt hlt
        obtain ⟨y, hy⟩ := get_of_lt (l := b.refs) (k := k) (by omega)
        have hi := map_get (f := encStr) hx
        have hi2 := map_get (f := encStr) hy
        refine awp_skip ?_
        refine awp_seq ?_
        refine awp_block ?_
        refine awp_seq ?_
        refine awp_drawc follows ?_
        refine dc_cons (DStep.q rfl (by exact (by exact opd_field_ref rfl fo42_3 rfl rfl rfl rfl))) rfl ?_
        refine dc_cons (DStep.q rfl (by exact (by exact opd_load1_ref rfl Tryz.isAgg39 rfl rfl rfl rfl rfl))) rfl ?_
        refine dc_cons (DStep.q rfl (by exact opd_move rfl rfl)) rfl ?_
        refine dc_cons (DStep.q rfl (by exact (by exact x_index_pad rfl so39 rfl rfl (by omega) (by exact Int.toNat_natCast _) (by assumption) rfl))) rfl ?_
        refine dc_cons (DStep.q rfl (by exact (by exact opd_load1_pad rfl Tryz.isAgg9 rfl (by omega) rfl))) rfl ?_
        refine dc_cons (DStep.q rfl (by exact (by exact opd_field_ref rfl fo42_3 rfl rfl rfl rfl))) rfl ?_
        refine dc_cons (DStep.q rfl (by exact (by exact opd_load1_ref rfl Tryz.isAgg39 rfl rfl rfl rfl rfl))) rfl ?_
        refine dc_cons (DStep.q rfl (by exact opd_move rfl rfl)) rfl ?_
        refine dc_cons (DStep.q rfl (by exact (by exact x_index_pad rfl so39 rfl rfl (by omega) (by exact Int.toNat_natCast _) (by assumption) rfl))) rfl ?_
        refine dc_cons (DStep.q rfl (by exact (by exact opd_load1_pad rfl Tryz.isAgg9 rfl (by omega) rfl))) rfl ?_
        refine dc_cons (DStep.q rfl (by exact opd_sneq rfl rfl rfl)) rfl ?_
        refine dc_nil ⟨by kernel_rfl, ?_⟩
        refine awp_cond rfl (fun hc3 => ?_) (fun hc3 => ?_)
        -- cond 3
        · have ht : strEq x y = false := by
            have h : (!strEq x y) = true := hc3
            simpa using h
          refine awp_seq ?_
          refine awp_region ?_
          refine al_d rfl rfl rfl (by exact opd_assign rfl rfl) ?_
          refine al_nil ?_
          refine awp_ret ?_
          -- return
          refine aret1 (H' := []) (by exact .inr rfl) rfl (rval_tmp rfl) (Fin.wk (by simp) trivial trivial) ?_
          exact ⟨by rw [eqTo_bad hx hy ht]; rfl, rfl⟩
        · have ht : strEq x y = true := by
            have h : (!strEq x y) = false := hc3
            simpa using h
          refine awp_skip ?_
          refine awp_region ?_
          refine al_d rfl rfl rfl (by exact opd_move rfl rfl) ?_
          refine al_d rfl rfl rfl (by exact opd_add rfl rfl rfl (by exact w64 (by omega) (by omega))) ?_
          refine al_d rfl rfl rfl (by exact opd_assign rfl rfl) ?_
          refine al_nil ?_
          -- end of a round
          refine ⟨k + 1, ⟨by omega, fun j hj x' y' h1 h2 => ?_⟩, by omega, (Ent.wk ⟨⟨_, rfl, rfl⟩, (by (simp; rfl)), ⟨_, rfl, rfl⟩, (by (simp; rfl)), ⟨_, rfl, rfl⟩, (by (simp; done)), trivial⟩ ⟨⟨_, rfl, rfl⟩, (by (simp; done)), ⟨_, rfl, rfl⟩, (by (simp; done)), trivial⟩ trivial)⟩
          by_cases e : j = k
          · subst e; rw [hx] at h1; rw [hy] at h2; cases h1; cases h2; exact ht
          · exact hall j (by omega) x' y' h1 h2
      · have hge : k = a.refs.length := by have := of_decide_eq_false hc2; omega
        subst hge
        rw [eqTo_good hl1 hall, Bool.true_and]
        refine awp_exit ?_
        refine awp_seq ?_
        refine awp_seq ?_
        refine awp_region ?_
        refine al_d rfl rfl rfl (by exact opd_assign rfl rfl) ?_
        refine al_nil ?_
        refine awp_block ?_
        -- loop
        refine awp_loop (σ := Nat) (fun k => ([(2, .ref 2 0 0 0), (3, .ref 3 0 0 0), (6, iv (k : Int))], [(3, bx 6 42 ((encObj b).map .pv)), (2, bx 6 42 ((encObj a).map .pv))])) (fun k => k ≤ a.tags.length ∧ ∀ j, j < k → ∀ x y, a.tags[j]? = some x → b.tags[j]? = some y → tagEq x y = true) (fun k => a.tags.length - k) 0 ⟨by omega, by omega⟩ ?_ ?_
        · exact (Ent.wk ⟨⟨_, rfl, rfl⟩, (by (simp; rfl)), ⟨_, rfl, rfl⟩, (by (simp; rfl)), ⟨_, rfl, rfl⟩, (by (simp; done)), trivial⟩ ⟨⟨_, rfl, rfl⟩, (by (simp; done)), ⟨_, rfl, rfl⟩, (by (simp; done)), trivial⟩ trivial)
        · rintro k ⟨hk, hall2⟩
          refine awp_seq ?_
          refine awp_seq ?_
          refine awp_region ?_
          refine al_d rfl rfl rfl (by exact opd_move rfl rfl) ?_
          refine al_d rfl rfl rfl (by exact (by exact opd_field_ref rfl fo42_4 rfl rfl rfl rfl)) ?_
          refine al_d rfl rfl rfl (by exact (by exact opd_load1_ref rfl Tryz.isAgg40 rfl rfl rfl rfl rfl)) ?_
          refine al_d rfl rfl rfl (by exact (by exact opd_len_sl rfl Tryz.underlying40 rfl)) ?_
          refine al_d rfl rfl rfl (by exact opd_lss rfl rfl rfl) ?_
          refine al_nil ?_
          refine awp_cond rfl (fun hc4 => ?_) (fun hc4 => ?_)
          -- cond 4
          · have hlt : k < a.tags.length := by have := of_decide_eq_true hc4; omega
            obtain ⟨x, hx⟩ := get_of_lt hlt
            obtain ⟨y, hy⟩ := get_of_lt (l := b.tags) (k := k) (by omega)
            have hi := map_get (f := encTag) hx
            have hi2 := map_get (f := encTag) hy
            refine awp_skip ?_
            refine awp_seq ?_
            refine awp_block ?_
            refine awp_seq ?_
            refine awp_drawc follows ?_
            refine dc_cons (DStep.q rfl (by exact (by exact opd_field_ref rfl fo42_4 rfl rfl rfl rfl))) rfl ?_
            refine dc_cons (DStep.q rfl (by exact (by exact opd_load1_ref rfl Tryz.isAgg40 rfl rfl rfl rfl rfl))) rfl ?_
            refine dc_cons (DStep.q rfl (by exact opd_move rfl rfl)) rfl ?_
            refine dc_cons (DStep.q rfl (by exact (by exact x_index_pad rfl so40 rfl rfl (by omega) (by exact Int.toNat_natCast _) (by assumption) rfl))) rfl ?_
            refine dc_cons (DStep.q rfl (by exact (by exact opd_loadn_pad rfl Tryz.isAgg62 Tryz.sizeOf62 rfl (by omega) (by simp only [List.drop_succ_cons, List.drop_zero, List.take_succ_cons, List.take_zero, List.take_nil, List.map_cons, List.map_nil, List.set_cons_zero, List.set_cons_succ, List.cons_append, List.nil_append, encTag, encObj, encStr]; rfl) rfl))) rfl ?_
            refine dc_cons (DStep.q rfl (by exact (by exact opd_field_ref rfl fo42_4 rfl rfl rfl rfl))) rfl ?_
            refine dc_cons (DStep.q rfl (by exact (by exact opd_load1_ref rfl Tryz.isAgg40 rfl rfl rfl rfl rfl))) rfl ?_
            refine dc_cons (DStep.q rfl (by exact opd_move rfl rfl)) rfl ?_
            refine dc_cons (DStep.q rfl (by exact (by exact x_index_pad rfl so40 rfl rfl (by omega) (by exact Int.toNat_natCast _) (by assumption) rfl))) rfl ?_
            refine dc_cons (DStep.q rfl (by exact (by exact opd_loadn_pad rfl Tryz.isAgg62 Tryz.sizeOf62 rfl (by omega) (by simp only [List.drop_succ_cons, List.drop_zero, List.take_succ_cons, List.take_zero, List.take_nil, List.map_cons, List.map_nil, List.set_cons_zero, List.set_cons_succ, List.cons_append, List.nil_append, encTag, encObj, encStr]; rfl) rfl))) rfl ?_
            refine dc_cons (DStep.q rfl (by exact opd_aneq rfl rfl rfl rfl rfl Tryz.eqGuardType62 (se62 _ _ _ _))) rfl ?_
            refine dc_nil ⟨by kernel_rfl, ?_⟩
            refine awp_cond rfl (fun hc5 => ?_) (fun hc5 => ?_)
            -- cond 5
            · have ht : tagEq x y = false := by
                have h : (!tagEq x y) = true := hc5
                simpa using h
              refine awp_seq ?_
              refine awp_region ?_
              refine al_d rfl rfl rfl (by exact opd_assign rfl rfl) ?_
              refine al_nil ?_
              refine awp_ret ?_
              -- return
              refine aret1 (H' := []) (by exact .inr rfl) rfl (rval_tmp rfl) (Fin.wk (by simp) trivial trivial) ?_
              exact ⟨by rw [eqTo_bad hx hy ht], rfl⟩
            · have ht : tagEq x y = true := by
                have h : (!tagEq x y) = false := hc5
                simpa using h
              refine awp_skip ?_
              refine awp_region ?_
              refine al_d rfl rfl rfl (by exact opd_move rfl rfl) ?_
              refine al_d rfl rfl rfl (by exact opd_add rfl rfl rfl (by exact w64 (by omega) (by omega))) ?_
              refine al_d rfl rfl rfl (by exact opd_assign rfl rfl) ?_
              refine al_nil ?_
              -- end of a round
              refine ⟨k + 1, ⟨by omega, fun j hj x' y' h1 h2 => ?_⟩, by omega, (Ent.wk ⟨⟨_, rfl, rfl⟩, (by (simp; rfl)), ⟨_, rfl, rfl⟩, (by (simp; rfl)), ⟨_, rfl, rfl⟩, (by (simp; done)), trivial⟩ ⟨⟨_, rfl, rfl⟩, (by (simp; done)), ⟨_, rfl, rfl⟩, (by (simp; done)), trivial⟩ trivial)⟩
              by_cases e : j = k
              · subst e; rw [hx] at h1; rw [hy] at h2; cases h1; cases h2; exact ht
              · exact hall2 j (by omega) x' y' h1 h2
          · have hge : k = a.tags.length := by have := of_decide_eq_false hc4; omega
            subst hge
            refine awp_exit ?_
            refine awp_seq ?_
            refine awp_region ?_
            refine al_d rfl rfl rfl (by exact opd_assign rfl rfl) ?_
            refine al_nil ?_
            refine awp_ret ?_
            -- return
            refine aret1 (H' := []) (by exact .inr rfl) rfl (rval_tmp rfl) (Fin.wk (by simp) trivial trivial) ?_
            exact ⟨by rw [eqTo_good hl2 hall2], rfl⟩
def gSameM (a b : List GObj) : Bool := eqTo gSameR a b
def okL (m : List GObj) : Prop := m.length < 4611686018427387904 ∧ ∀ o ∈ m, o.refs.length < 4611686018427387904 ∧ o.tags.length < 4611686018427387904
theorem gSameR_eq (a b : GObj) : gSameR a b = gSameO a b := by rw [Bool.eq_iff_iff, gSameR_iff, gSameO_iff]
theorem rSame_c (a b : GObj) (H : Heap) (ha : a.refs.length < 4611686018427387904) (ha2 : a.tags.length < 4611686018427387904) : ACalls Tryz.prog 85 [av (encObj a), av (encObj b)] H (fun r H' => r = bv (gSameO a b) ∧ H' = H) := by
  rw [← gSameR_eq]
  exact same11_c a b H ha ha2
end Go.Proofs.YtdgoodjhndeojaaGreat
end
section
set_option linter.unusedVariables false
set_option linter.unusedSimpArgs false
set_option maxRecDepth 100000
namespace Go.Proofs.YtdgoodjhndeojaaGreat
open Go.Abs
theorem rGet_c (l : List GTag) (key : ByteArray) (H : Heap) (hl : l.length < 4611686018427387904) : ACalls Tryz.prog 97 [.pv (slTags l), sv key] H (fun r H' => r = .tup [sv ((gGet l key).getD sNil), bv (gGet l key).isSome] ∧ H' = H) := by
  refine ACalls.pure ?_ (by simp) H
  have hml : (l.map encTag).length = l.length := List.length_map _
  refine ACalls.body Tryz.func97 rfl Tryz.ntmps97 (Nat.le_of_ble_eq_true rfl) ?_
  refine awp_seq ?_
  refine awp_region ?_
  refine al_d rfl rfl rfl (by exact opd_assign rfl rfl) ?_
  refine al_d rfl rfl rfl (by exact opd_assign rfl rfl) ?_
  refine al_nil ?_
  refine awp_seq ?_
  refine awp_seq ?_
  refine awp_region ?_
  refine al_d rfl rfl rfl (by exact opd_assign rfl rfl) ?_
  refine al_nil ?_
  refine awp_block ?_
  -- loop
  refine awp_loop (σ := Nat) (fun k => ([(0, .pv (slTags l)), (1, sv key), (6, iv (k : Int))], [])) (fun k => k ≤ l.length ∧ ∀ j, j < k → ∀ b, l[j]? = some b → decide (b.key = key) = false) (fun k => l.length - k) 0 ⟨by omega, by omega⟩ ?_ ?_
  · exact Ent.e0 ⟨⟨_, rfl, rfl⟩, ⟨_, rfl, rfl⟩, ⟨_, rfl, rfl⟩, trivial⟩
  · rintro k ⟨hk, hno⟩
    refine awp_seq ?_
    refine awp_seq ?_
    refine awp_region ?_
    refine al_d rfl rfl rfl (by exact opd_move rfl rfl) ?_
    refine al_d rfl rfl rfl (by exact opd_move rfl rfl) ?_
    refine al_d rfl rfl rfl (by exact (by exact opd_len_sl rfl Tryz.underlying40 rfl)) ?_
    refine al_d rfl rfl rfl (by exact opd_lss rfl rfl rfl) ?_
    refine al_nil ?_
    refine awp_cond rfl (fun hc1 => ?_) (fun hc1 => ?_)
    -- cond 1
    · have hlt : k < l.length := by have := of_decide_eq_true hc1; omega
      obtain ⟨o, ho⟩ := get_of_lt hlt
      have hi := map_get (f := encTag) ho
      refine awp_skip ?_
      refine awp_seq ?_
      refine awp_block ?_
      refine awp_seq ?_
      refine awp_region ?_
      refine al_d rfl rfl rfl (by exact opd_move rfl rfl) ?_
      refine al_d rfl rfl rfl (by exact opd_move rfl rfl) ?_
      refine al_d rfl rfl rfl (by exact (by exact x_index_pad rfl so40 rfl rfl (by omega) (by exact Int.toNat_natCast _) (by assumption) rfl)) ?_
      refine al_d rfl rfl rfl (by exact (by exact opd_field_pad rfl fo62_0 rfl rfl)) ?_
      refine al_d rfl rfl rfl (by exact (by exact opd_load1_pad rfl Tryz.isAgg9 rfl (by omega) rfl)) ?_
      refine al_d rfl rfl rfl (by exact opd_move rfl rfl) ?_
      refine al_d rfl rfl rfl (by exact opd_seql rfl rfl rfl) ?_
      refine al_nil ?_
      refine awp_cond rfl (fun hc2 => ?_) (fun hc2 => ?_)
      -- cond 2
      · skip
        refine awp_seq ?_
        refine awp_region ?_
        refine al_d rfl rfl rfl (by exact opd_move rfl rfl) ?_
        refine al_d rfl rfl rfl (by exact opd_move rfl rfl) ?_
        refine al_d rfl rfl rfl (by exact (by exact x_index_pad rfl so40 rfl rfl (by omega) (by exact Int.toNat_natCast _) (by assumption) rfl)) ?_
        refine al_d rfl rfl rfl (by exact (by exact opd_field_pad rfl fo62_1 rfl rfl)) ?_
        refine al_d rfl rfl rfl (by exact (by exact opd_load1_pad rfl Tryz.isAgg9 rfl (by omega) rfl)) ?_
        refine al_d rfl rfl rfl (by exact opd_assign rfl rfl) ?_
        refine al_d rfl rfl rfl (by exact opd_assign rfl rfl) ?_
        refine al_nil ?_
        refine awp_ret ?_
        -- return
        refine aret2 (H' := []) (by exact .inr rfl) rfl (rval_tmp rfl) (rval_tmp rfl) (Fin.wk (by simp) trivial trivial) ?_
        exact ⟨by rw [gGet, find_some hno ho hc2]; rfl, rfl⟩
      · skip
        refine awp_skip ?_
        refine awp_region ?_
        refine al_d rfl rfl rfl (by exact opd_move rfl rfl) ?_
        refine al_d rfl rfl rfl (by exact opd_add rfl rfl rfl (by exact w64 (by omega) (by omega))) ?_
        refine al_d rfl rfl rfl (by exact opd_assign rfl rfl) ?_
        refine al_nil ?_
        -- end of a round
        exact ⟨k + 1, ⟨by omega, pre_succ hno ho hc2⟩, by omega, Ent.e0 ⟨⟨_, rfl, rfl⟩, ⟨_, rfl, rfl⟩, ⟨_, rfl, rfl⟩, trivial⟩⟩
    · have hge : k = l.length := by have := of_decide_eq_false hc1; omega
      subst hge
      refine awp_exit ?_
      refine awp_seq ?_
      refine awp_region ?_
      refine al_d rfl rfl rfl (by exact opd_assign rfl rfl) ?_
      refine al_d rfl rfl rfl (by exact opd_assign rfl rfl) ?_
      refine al_nil ?_
      refine awp_ret ?_
      -- return
      refine aret2 (H' := []) (by exact .inr rfl) rfl (rval_tmp rfl) (rval_tmp rfl) (Fin.wk (by simp) trivial trivial) ?_
      exact ⟨by rw [gGet, find_none hno]; rfl, rfl⟩
def rIs (x y : Int) : Bool := ((decide (-2097152 ≤ x) && decide (x ≤ 2097152)) && decide (-2097152 ≤ y)) && decide (y ≤ 2097152)
theorem rIs_eq (x y : Int) : rIs x y = nearP x y := by
  rw [Bool.eq_iff_iff]
  simp only [rIs, nearP, Bool.and_eq_true, decide_eq_true_eq, Bool.not_eq_true', Bool.or_eq_false_iff, decide_eq_false_iff_not]
  omega
theorem rIs_c (x y : Int) (H : Heap) : ACalls Tryz.prog 202 [.agg [iv x, iv y]] H (fun r H' => r = bv (nearP x y) ∧ H' = H) := by
  rw [← rIs_eq]
  refine ACalls.pure ?_ (by simp) H
  refine ACalls.body Tryz.func202 rfl Tryz.ntmps202 (Nat.le_of_ble_eq_true rfl) ?_
  refine awp_seq ?_
  refine awp_region ?_
  refine al_d rfl rfl rfl (by exact opd_box (id := 1) rfl rfl rfl rfl rfl) ?_
  refine al_d rfl rfl rfl (by exact opd_assign rfl rfl) ?_
  refine al_nil ?_
  refine awp_seq ?_
  refine awp_bool (t := 2) (n := 22) (X := rIs x y) ?_ ?_
  · all_goals (refine al_d rfl rfl rfl (by exact (by exact opd_field_ref rfl fo38_0 rfl rfl rfl rfl)) ?_)
    all_goals (refine al_d rfl rfl rfl (by exact (by exact opd_load1_ref rfl Tryz.isAgg3 rfl rfl rfl rfl rfl)) ?_)
    all_goals (refine al_d rfl rfl rfl (by exact opd_geq rfl rfl rfl) ?_)
    all_goals (refine al_d rfl rfl rfl (by exact opd_move rfl rfl) ?_)
    all_goals (refine al_split (t := 6) rfl (fun h6 => ?_) (fun h6 => ?_))
    all_goals (try contradiction)
    all_goals (first | refine al_off rfl rfl rfl rfl rfl ?_ | refine al_ond rfl rfl rfl rfl rfl rfl (by exact (by exact opd_field_ref rfl fo38_0 rfl rfl rfl rfl)) ?_)
    all_goals (first | refine al_off rfl rfl rfl rfl rfl ?_ | refine al_ond rfl rfl rfl rfl rfl rfl (by exact (by exact opd_load1_ref rfl Tryz.isAgg3 rfl rfl rfl rfl rfl)) ?_)
    all_goals (first | refine al_off rfl rfl rfl rfl rfl ?_ | refine al_ond rfl rfl rfl rfl rfl rfl (by exact opd_leq rfl rfl rfl) ?_)
    all_goals (refine al_d rfl rfl rfl (by exact (by first | exact opd_pick_t rfl rfl rfl | exact opd_pick_f rfl rfl rfl)) ?_)
    all_goals (refine al_d rfl rfl rfl (by exact opd_move rfl rfl) ?_)
    all_goals (refine al_split (t := 11) rfl (fun h11 => ?_) (fun h11 => ?_))
    all_goals (try contradiction)
    all_goals (first | refine al_off rfl rfl rfl rfl rfl ?_ | refine al_ond rfl rfl rfl rfl rfl rfl (by exact (by exact opd_field_ref rfl fo38_1 rfl rfl rfl rfl)) ?_)
    all_goals (first | refine al_off rfl rfl rfl rfl rfl ?_ | refine al_ond rfl rfl rfl rfl rfl rfl (by exact (by exact opd_load1_ref rfl Tryz.isAgg3 rfl rfl rfl rfl rfl)) ?_)
    all_goals (first | refine al_off rfl rfl rfl rfl rfl ?_ | refine al_ond rfl rfl rfl rfl rfl rfl (by exact opd_geq rfl rfl rfl) ?_)
    all_goals (refine al_d rfl rfl rfl (by exact (by first | exact opd_pick_t rfl rfl rfl | exact opd_pick_f rfl rfl rfl)) ?_)
    all_goals (refine al_d rfl rfl rfl (by exact opd_move rfl rfl) ?_)
    all_goals (refine al_split (t := 16) rfl (fun h16 => ?_) (fun h16 => ?_))
    all_goals (try contradiction)
    all_goals (first | refine al_off rfl rfl rfl rfl rfl ?_ | refine al_ond rfl rfl rfl rfl rfl rfl (by exact (by exact opd_field_ref rfl fo38_1 rfl rfl rfl rfl)) ?_)
    all_goals (first | refine al_off rfl rfl rfl rfl rfl ?_ | refine al_ond rfl rfl rfl rfl rfl rfl (by exact (by exact opd_load1_ref rfl Tryz.isAgg3 rfl rfl rfl rfl rfl)) ?_)
    all_goals (first | refine al_off rfl rfl rfl rfl rfl ?_ | refine al_ond rfl rfl rfl rfl rfl rfl (by exact opd_leq rfl rfl rfl) ?_)
    all_goals (refine al_d rfl rfl rfl (by exact (by first | exact opd_pick_t rfl rfl rfl | exact opd_pick_f rfl rfl rfl)) ?_)
    all_goals (refine al_d rfl rfl rfl (by exact opd_assign rfl rfl) ?_)
    all_goals (refine al_nil ?_)
    all_goals (exact ⟨⟨_, rfl, by (simp only [rIs, *]; rfl)⟩, rfl, rfl, rfl⟩)
  refine awp_ret ?_
  -- return
  refine aret1 (H' := []) (by exact .inr rfl) rfl (rval_tmp rfl) (Fin.wk (by simp) trivial trivial) ?_
  exact ⟨rfl, rfl⟩
theorem sq_neg (a b : Int) : (a - b) * (a - b) = (b - a) * (b - a) := by
  rw [show a - b = -(b - a) by omega, Int.neg_mul_neg]
theorem rDist_c (x y u v : Int) (H : Heap) : ACalls Tryz.prog 165 [.agg [iv x, iv y], .agg [iv u, iv v]] H (fun r H' => r = iv (gDist x y u v) ∧ H' = H) := by
  refine ACalls.pure ?_ (by simp) H
  refine ACalls.body Tryz.func165 rfl Tryz.ntmps165 (Nat.le_of_ble_eq_true rfl) ?_
  refine awp_seq ?_
  refine awp_region ?_
  refine al_d rfl rfl rfl (by exact opd_box (id := 2) rfl rfl rfl rfl rfl) ?_
  refine al_d rfl rfl rfl (by exact opd_box (id := 3) rfl rfl rfl rfl rfl) ?_
  refine al_d rfl rfl rfl (by exact opd_assign rfl rfl) ?_
  refine al_nil ?_
  refine awp_seq ?_
  refine awp_seq ?_
  refine awp_bool (t := 12) (n := 9) (X := !nearP x y || !nearP u v) ?_ ?_
  · all_goals (refine al_d rfl rfl rfl (by exact (by exact opd_loadn_ref rfl Tryz.isAgg38 Tryz.sizeOf38 rfl rfl rfl rfl (by simp only [List.drop_succ_cons, List.drop_zero, List.take_succ_cons, List.take_zero, List.take_nil, List.map_cons, List.map_nil, List.set_cons_zero, List.set_cons_succ, List.cons_append, List.nil_append, encTag, encObj, encStr, encEdit, encInt]; rfl) rfl)) ?_)
    all_goals (refine al_d rfl rfl rfl (by exact opr_call rfl rfl Tryz.call202 rfl (rIs_c x y _)) ?_)
    all_goals (refine al_d rfl rfl rfl (by exact opd_not rfl rfl) ?_)
    all_goals (refine al_d rfl rfl rfl (by exact opd_move rfl rfl) ?_)
    all_goals (refine al_split (t := 8) rfl (fun h8 => ?_) (fun h8 => ?_))
    all_goals (try contradiction)
    all_goals (first | refine al_off rfl rfl rfl rfl rfl ?_ | refine al_ond rfl rfl rfl rfl rfl rfl (by exact (by exact opd_loadn_ref rfl Tryz.isAgg38 Tryz.sizeOf38 rfl rfl rfl rfl (by simp only [List.drop_succ_cons, List.drop_zero, List.take_succ_cons, List.take_zero, List.take_nil, List.map_cons, List.map_nil, List.set_cons_zero, List.set_cons_succ, List.cons_append, List.nil_append, encTag, encObj, encStr, encEdit, encInt]; rfl) rfl)) ?_)
    all_goals (first | refine al_off rfl rfl rfl rfl rfl ?_ | refine al_ond rfl rfl rfl rfl rfl rfl (by exact opr_call rfl rfl Tryz.call202 rfl (rIs_c u v _)) ?_)
    all_goals (first | refine al_off rfl rfl rfl rfl rfl ?_ | refine al_ond rfl rfl rfl rfl rfl rfl (by exact opd_not rfl rfl) ?_)
    all_goals (refine al_d rfl rfl rfl (by exact (by first | exact opd_pick_t rfl rfl rfl | exact opd_pick_f rfl rfl rfl)) ?_)
    all_goals (refine al_nil ?_)
    all_goals (exact ⟨⟨_, rfl, by (simp only [*, Bool.false_and, Bool.true_and, Bool.and_false, Bool.and_true, Bool.true_or, Bool.false_or, Bool.or_true, Bool.or_false, Bool.not_true, Bool.not_false]; done)⟩, rfl, rfl, rfl⟩)
  refine awp_cond rfl (fun hc1 => ?_) (fun hc1 => ?_)
  -- cond 1
  · have hb : (nearP x y && nearP u v) = false := by
      simp only [Bool.or_eq_true, Bool.not_eq_true'] at hc1
      rw [Bool.and_eq_false_iff]
      exact hc1
    refine awp_seq ?_
    refine awp_region ?_
    refine al_d rfl rfl rfl (by exact opd_assign rfl rfl) ?_
    refine al_nil ?_
    refine awp_ret ?_
    -- return
    refine aret1 (H' := []) (by exact .inr rfl) rfl (rval_tmp rfl) (Fin.wk (by simp) trivial trivial) ?_
    exact ⟨by rw [gDist, hb]; rfl, rfl⟩
  · have hb : nearP x y = true ∧ nearP u v = true := by
      rw [Bool.or_eq_false_iff] at hc1
      simpa using hc1
    have b1 := nearP_lo hb.1
    have b2 := nearP_lo hb.2
    have q1 := sq_bd (d := x - u) (by omega) (by omega)
    have q2 := sq_bd (d := y - v) (by omega) (by omega)
    refine awp_skip ?_
    refine awp_seq ?_
    refine awp_region ?_
    refine al_d rfl rfl rfl (by exact (by exact opd_field_ref rfl fo38_0 rfl rfl rfl rfl)) ?_
    refine al_d rfl rfl rfl (by exact (by exact opd_load1_ref rfl Tryz.isAgg3 rfl rfl rfl rfl rfl)) ?_
    refine al_d rfl rfl rfl (by exact (by exact opd_field_ref rfl fo38_0 rfl rfl rfl rfl)) ?_
    refine al_d rfl rfl rfl (by exact (by exact opd_load1_ref rfl Tryz.isAgg3 rfl rfl rfl rfl rfl)) ?_
    refine al_d rfl rfl rfl (by exact opd_sub rfl rfl rfl (by exact w64 (by omega) (by omega))) ?_
    refine al_d rfl rfl rfl (by exact (by exact opd_field_ref rfl fo38_0 rfl rfl rfl rfl)) ?_
    refine al_d rfl rfl rfl (by exact (by exact opd_load1_ref rfl Tryz.isAgg3 rfl rfl rfl rfl rfl)) ?_
    refine al_d rfl rfl rfl (by exact (by exact opd_field_ref rfl fo38_0 rfl rfl rfl rfl)) ?_
    refine al_d rfl rfl rfl (by exact (by exact opd_load1_ref rfl Tryz.isAgg3 rfl rfl rfl rfl rfl)) ?_
    refine al_d rfl rfl rfl (by exact opd_sub rfl rfl rfl (by exact w64 (by omega) (by omega))) ?_
    refine al_d rfl rfl rfl (by exact opd_mul rfl rfl rfl (by exact w64 (by omega) (by omega))) ?_
    refine al_d rfl rfl rfl (by exact (by exact opd_field_ref rfl fo38_1 rfl rfl rfl rfl)) ?_
    refine al_d rfl rfl rfl (by exact (by exact opd_load1_ref rfl Tryz.isAgg3 rfl rfl rfl rfl rfl)) ?_
    refine al_d rfl rfl rfl (by exact (by exact opd_field_ref rfl fo38_1 rfl rfl rfl rfl)) ?_
    refine al_d rfl rfl rfl (by exact (by exact opd_load1_ref rfl Tryz.isAgg3 rfl rfl rfl rfl rfl)) ?_
    refine al_d rfl rfl rfl (by exact opd_sub rfl rfl rfl (by exact w64 (by omega) (by omega))) ?_
    refine al_d rfl rfl rfl (by exact (by exact opd_field_ref rfl fo38_1 rfl rfl rfl rfl)) ?_
    refine al_d rfl rfl rfl (by exact (by exact opd_load1_ref rfl Tryz.isAgg3 rfl rfl rfl rfl rfl)) ?_
    refine al_d rfl rfl rfl (by exact (by exact opd_field_ref rfl fo38_1 rfl rfl rfl rfl)) ?_
    refine al_d rfl rfl rfl (by exact (by exact opd_load1_ref rfl Tryz.isAgg3 rfl rfl rfl rfl rfl)) ?_
    refine al_d rfl rfl rfl (by exact opd_sub rfl rfl rfl (by exact w64 (by omega) (by omega))) ?_
    refine al_d rfl rfl rfl (by exact opd_mul rfl rfl rfl (by exact w64 (by omega) (by omega))) ?_
    refine al_d rfl rfl rfl (by exact opd_add rfl rfl rfl (by exact w64 (by omega) (by omega))) ?_
    refine al_d rfl rfl rfl (by exact opd_assign rfl rfl) ?_
    refine al_nil ?_
    refine awp_ret ?_
    -- return
    refine aret1 (H' := []) (by exact .inr rfl) rfl (rval_tmp rfl) (Fin.wk (by simp) trivial trivial) ?_
    refine ⟨?_, rfl⟩
    rw [gDist, hb.1, hb.2, sq_neg u x, sq_neg v y]
    rfl
theorem rFind13_c (m : List GObj) (id : ByteArray) (H : Heap) (hm : m.length < 1099511627776) (hu : ups m) : ACalls Tryz.prog 162 [.agg [.pv (slObjs m)], sv id] H (fun r H' => r = iv (gidx (idIs id) m) ∧ H' = H) := by
  refine ACalls.pure ?_ (by simp) H
  have hml : (m.map encObj).length = m.length := List.length_map _
  have hlt' : ∀ (i j : Nat) (a b : GObj), i < j → m[i]? = some a → m[j]? = some b → slt a.id b.id = true := fun i j a b hij ha hb => by
    obtain ⟨h1, e1⟩ := List.getElem?_eq_some_iff.1 ha
    obtain ⟨h2, e2⟩ := List.getElem?_eq_some_iff.1 hb
    rw [ups, List.pairwise_iff_getElem] at hu
    rw [← e1, ← e2]
    exact hu i j h1 h2 hij
  refine ACalls.body Tryz.func162 rfl Tryz.ntmps162 (Nat.le_of_ble_eq_true rfl) ?_
  refine awp_seq ?_
  refine awp_region ?_
  refine al_d rfl rfl rfl (by exact opd_box (id := 2) rfl rfl rfl rfl rfl) ?_
  refine al_d rfl rfl rfl (by exact opd_assign rfl rfl) ?_
  refine al_nil ?_
  refine awp_seq ?_
  refine awp_region ?_
  refine al_d rfl rfl rfl (by exact opd_assign rfl rfl) ?_
  refine al_nil ?_
  refine awp_seq ?_
  refine awp_region ?_
  refine al_d rfl rfl rfl (by exact (by exact opd_field_ref rfl fo24_0 rfl rfl rfl rfl)) ?_
  refine al_d rfl rfl rfl (by exact (by exact opd_load1_ref rfl Tryz.isAgg22 rfl rfl rfl rfl rfl)) ?_
  refine al_d rfl rfl rfl (by exact (by exact opd_len_sl rfl Tryz.underlying22 rfl)) ?_
  refine al_d rfl rfl rfl (by exact opd_assign rfl rfl) ?_
  refine al_nil ?_
  refine awp_seq ?_
  refine awp_block ?_
  -- loop
  refine awp_loop2 (fun (f t : Nat) => ([(1, sv id), (2, .ref 2 0 0 0), (5, iv (f : Int)), (6, iv (t : Int))], [(2, bx 1 24 [.pv (slObjs m)])])) (fun f t => (f ≤ t ∧ t ≤ m.length) ∧ (∀ j a, j < f → m[j]? = some a → slt a.id id = true) ∧ (∀ j a, t ≤ j → m[j]? = some a → slt a.id id = false)) (fun f t => t - f) 0 m.length ⟨⟨by omega, by omega⟩, fun j a h => absurd h (by omega), fun j a h ha => by have := (List.getElem?_eq_some_iff.1 ha).1; omega⟩ ?_ ?_
  · rw [← hml]
    exact (Ent.wk ⟨⟨_, rfl, rfl⟩, (by (simp; done)), ⟨_, rfl, rfl⟩, (by (simp; rfl)), ⟨_, rfl, rfl⟩, (by (simp; done)), ⟨_, rfl, rfl⟩, (by (simp; done)), trivial⟩ ⟨⟨_, rfl, rfl⟩, (by (simp; done)), trivial⟩ trivial)
  · rintro f t ⟨⟨hft, htl⟩, hlo, hhi⟩
    refine awp_seq ?_
    refine awp_seq ?_
    refine awp_region ?_
    refine al_d rfl rfl rfl (by exact opd_move rfl rfl) ?_
    refine al_d rfl rfl rfl (by exact opd_move rfl rfl) ?_
    refine al_d rfl rfl rfl (by exact opd_lss rfl rfl rfl) ?_
    refine al_nil ?_
    refine awp_cond rfl (fun hc1 => ?_) (fun hc1 => ?_)
    -- cond 1
    · have hlt : f < t := by have := of_decide_eq_true hc1; omega
      obtain ⟨i, hi0⟩ : ∃ i, i = (f + t) / 2 := ⟨_, rfl⟩
      have hib : f ≤ i ∧ i < t := by omega
      obtain ⟨o, ho⟩ := get_of_lt (l := m) (k := i) (by omega)
      have hi := map_get (f := encObj) ho
      have hq : IntKind.i64.wrap (((f : Int) + (t : Int)).tdiv 2) = (i : Int) := by
        rw [Int.tdiv_eq_ediv_of_nonneg (by omega)]
        exact w64 (by omega) (by omega) |>.trans (by omega)
      refine awp_skip ?_
      refine awp_block ?_
      refine awp_seq ?_
      refine awp_region ?_
      refine al_d rfl rfl rfl (by exact opd_move rfl rfl) ?_
      refine al_d rfl rfl rfl (by exact opd_move rfl rfl) ?_
      refine al_d rfl rfl rfl (by exact opd_add rfl rfl rfl (by exact w64 (by omega) (by omega))) ?_
      refine al_d rfl rfl rfl (by exact opd_quo rfl rfl rfl (by decide) hq) ?_
      refine al_d rfl rfl rfl (by exact opd_assign rfl rfl) ?_
      refine al_nil ?_
      refine awp_seq ?_
      refine awp_region ?_
      refine al_d rfl rfl rfl (by exact (by exact opd_field_ref rfl fo24_0 rfl rfl rfl rfl)) ?_
      refine al_d rfl rfl rfl (by exact (by exact opd_load1_ref rfl Tryz.isAgg22 rfl rfl rfl rfl rfl)) ?_
      refine al_d rfl rfl rfl (by exact opd_move rfl rfl) ?_
      refine al_d rfl rfl rfl (by exact (by exact x_index_pad rfl so22 rfl rfl (by omega) (by exact Int.toNat_natCast _) (by assumption) rfl)) ?_
      refine al_d rfl rfl rfl (by exact (by exact opd_field_pad rfl fo42_0 rfl rfl)) ?_
      refine al_d rfl rfl rfl (by exact (by exact opd_load1_pad rfl Tryz.isAgg9 rfl (by omega) rfl)) ?_
      refine al_d rfl rfl rfl (by exact opd_move rfl rfl) ?_
      refine al_d rfl rfl rfl (by exact opd_slss rfl rfl rfl) ?_
      refine al_nil ?_
      refine awp_cond rfl (fun hc2 => ?_) (fun hc2 => ?_)
      -- cond 2
      · have hs : slt o.id id = true := hc2
        refine awp_region ?_
        refine al_d rfl rfl rfl (by exact opd_move rfl rfl) ?_
        refine al_d rfl rfl rfl (by exact opd_add rfl rfl rfl (by exact w64 (by omega) (by omega))) ?_
        refine al_d rfl rfl rfl (by exact opd_assign rfl rfl) ?_
        refine al_nil ?_
        -- end of a round
        refine ⟨i + 1, t, ⟨⟨by omega, htl⟩, fun j a hj ha => ?_, hhi⟩, by omega, (Ent.wk ⟨⟨_, rfl, rfl⟩, (by (simp; done)), ⟨_, rfl, rfl⟩, (by (simp; rfl)), ⟨_, rfl, rfl⟩, (by (simp; done)), ⟨_, rfl, rfl⟩, (by (simp; done)), trivial⟩ ⟨⟨_, rfl, rfl⟩, (by (simp; done)), trivial⟩ trivial)⟩
        by_cases e : j = i
        · subst e; rw [ho] at ha; cases ha; exact hs
        · exact slt_trans (hlt' j i a o (by omega) ha ho) hs
      · have hs : slt o.id id = false := hc2
        refine awp_region ?_
        refine al_d rfl rfl rfl (by exact opd_move rfl rfl) ?_
        refine al_d rfl rfl rfl (by exact opd_assign rfl rfl) ?_
        refine al_nil ?_
        -- end of a round
        refine ⟨f, i, ⟨⟨by omega, by omega⟩, hlo, fun j a hj ha => ?_⟩, by omega, (Ent.wk ⟨⟨_, rfl, rfl⟩, (by (simp; done)), ⟨_, rfl, rfl⟩, (by (simp; rfl)), ⟨_, rfl, rfl⟩, (by (simp; done)), ⟨_, rfl, rfl⟩, (by (simp; done)), trivial⟩ ⟨⟨_, rfl, rfl⟩, (by (simp; done)), trivial⟩ trivial)⟩
        by_cases e : j = i
        · subst e; rw [ho] at ha; cases ha; exact hs
        · cases e2 : slt a.id id with
          | false => rfl
          | true => rw [slt_trans (hlt' i j o a (by omega) ho ha) e2] at hs; cases hs
    · have hge : f = t := by have := of_decide_eq_false hc1; omega
      subst hge
      by_cases hfl : f < m.length
      · obtain ⟨o, ho⟩ := get_of_lt hfl
        have hi := map_get (f := encObj) ho
        have d0 : decide ((f : Int) < ((m.map encObj).length : Int)) = true := decide_eq_true (by omega)
        refine awp_exit ?_
        refine awp_seq ?_
        refine awp_seq ?_
        refine awp_region ?_
        refine al_d rfl rfl rfl (by exact opd_move rfl rfl) ?_
        refine al_d rfl rfl rfl (by exact (by exact opd_field_ref rfl fo24_0 rfl rfl rfl rfl)) ?_
        refine al_d rfl rfl rfl (by exact (by exact opd_load1_ref rfl Tryz.isAgg22 rfl rfl rfl rfl rfl)) ?_
        refine al_d rfl rfl rfl (by exact (by exact opd_len_sl rfl Tryz.underlying22 rfl)) ?_
        refine al_d rfl rfl rfl (by exact opd_lss rfl rfl rfl) ?_
        refine al_d rfl rfl rfl (by exact opd_move rfl rfl) ?_
        refine al_ond rfl rfl rfl (by assumption) rfl rfl (by exact (by exact opd_field_ref rfl fo24_0 rfl rfl rfl rfl)) ?_
        refine al_ond rfl rfl rfl (by assumption) rfl rfl (by exact (by exact opd_load1_ref rfl Tryz.isAgg22 rfl rfl rfl rfl rfl)) ?_
        refine al_ond rfl rfl rfl (by assumption) rfl rfl (by exact opd_move rfl rfl) ?_
        refine al_ond rfl rfl rfl (by assumption) rfl rfl (by exact (by exact x_index_pad rfl so22 rfl rfl (by omega) (by exact Int.toNat_natCast _) (by assumption) rfl)) ?_
        refine al_ond rfl rfl rfl (by assumption) rfl rfl (by exact (by exact opd_field_pad rfl fo42_0 rfl rfl)) ?_
        refine al_ond rfl rfl rfl (by assumption) rfl rfl (by exact (by exact opd_load1_pad rfl Tryz.isAgg9 rfl (by omega) rfl)) ?_
        refine al_ond rfl rfl rfl (by assumption) rfl rfl (by exact opd_move rfl rfl) ?_
        refine al_ond rfl rfl rfl (by assumption) rfl rfl (by exact opd_seql rfl rfl rfl) ?_
        refine al_d rfl rfl rfl (by exact (by exact opd_pickt rfl rfl (by assumption) rfl)) ?_
        refine al_nil ?_
        refine awp_cond rfl (fun hc3 => ?_) (fun hc3 => ?_)
        -- cond 3
        · have he : o.id = id := of_decide_eq_true hc3
          have hno : ∀ j, j < f → ∀ b, m[j]? = some b → idIs id b = false := fun j hj b hb => by
            refine decide_eq_false (fun e => ?_)
            have := hlo j b hj hb
            rw [e, slt_irr] at this
            cases this
          refine awp_seq ?_
          refine awp_region ?_
          refine al_d rfl rfl rfl (by exact opd_move rfl rfl) ?_
          refine al_d rfl rfl rfl (by exact opd_assign rfl rfl) ?_
          refine al_nil ?_
          refine awp_ret ?_
          -- return
          refine aret1 (H' := []) (by exact .inr rfl) rfl (rval_tmp rfl) (Fin.wk (by simp) trivial trivial) ?_
          exact ⟨by rw [gidx, fidx_some hno ho (decide_eq_true he)], rfl⟩
        · have he : ¬ o.id = id := of_decide_eq_false hc3
          have hno : ∀ j, j < m.length → ∀ b, m[j]? = some b → idIs id b = false := fun j hj b hb => by
            refine decide_eq_false (fun e => ?_)
            rcases Nat.lt_trichotomy j f with h | h | h
            · have := hlo j b h hb
              rw [e, slt_irr] at this
              cases this
            · subst h; rw [ho] at hb; cases hb; exact he e
            · have h1 := hlt' f j o b h ho hb
              rw [e] at h1
              rw [hhi f o (by omega) ho] at h1
              cases h1
          refine awp_skip ?_
          refine awp_seq ?_
          refine awp_region ?_
          refine al_d rfl rfl rfl (by exact opd_assign rfl rfl) ?_
          refine al_nil ?_
          refine awp_ret ?_
          -- return
          refine aret1 (H' := []) (by exact .inr rfl) rfl (rval_tmp rfl) (Fin.wk (by simp) trivial trivial) ?_
          exact ⟨by rw [gidx, fidx_none hno], rfl⟩
      · have d0 : decide ((f : Int) < ((m.map encObj).length : Int)) = false := decide_eq_false (by omega)
        have hno : ∀ j, j < m.length → ∀ b, m[j]? = some b → idIs id b = false := fun j hj b hb => by
          refine decide_eq_false (fun e => ?_)
          have := hlo j b (by omega) hb
          rw [e, slt_irr] at this
          cases this
        refine awp_exit ?_
        refine awp_seq ?_
        refine awp_seq ?_
        refine awp_region ?_
        refine al_d rfl rfl rfl (by exact opd_move rfl rfl) ?_
        refine al_d rfl rfl rfl (by exact (by exact opd_field_ref rfl fo24_0 rfl rfl rfl rfl)) ?_
        refine al_d rfl rfl rfl (by exact (by exact opd_load1_ref rfl Tryz.isAgg22 rfl rfl rfl rfl rfl)) ?_
        refine al_d rfl rfl rfl (by exact (by exact opd_len_sl rfl Tryz.underlying22 rfl)) ?_
        refine al_d rfl rfl rfl (by exact opd_lss rfl rfl rfl) ?_
        refine al_d rfl rfl rfl (by exact opd_move rfl rfl) ?_
        refine al_off rfl rfl rfl (by assumption) rfl ?_
        refine al_off rfl rfl rfl (by assumption) rfl ?_
        refine al_off rfl rfl rfl (by assumption) rfl ?_
        refine al_off rfl rfl rfl (by assumption) rfl ?_
        refine al_off rfl rfl rfl (by assumption) rfl ?_
        refine al_off rfl rfl rfl (by assumption) rfl ?_
        refine al_off rfl rfl rfl (by assumption) rfl ?_
        refine al_off rfl rfl rfl (by assumption) rfl ?_
        refine al_d rfl rfl rfl (by exact (by exact opd_pickf rfl rfl (by assumption) rfl)) ?_
        refine al_nil ?_
        refine awp_cond rfl (fun hc4 => ?_) (fun hc4 => ?_)
        -- cond 4
        · cases hc4
        · skip
          refine awp_skip ?_
          refine awp_seq ?_
          refine awp_region ?_
          refine al_d rfl rfl rfl (by exact opd_assign rfl rfl) ?_
          refine al_nil ?_
          refine awp_ret ?_
          -- return
          refine aret1 (H' := []) (by exact .inr rfl) rfl (rval_tmp rfl) (Fin.wk (by simp) trivial trivial) ?_
          exact ⟨by rw [gidx, fidx_none hno], rfl⟩
theorem rKind_c (o : GObj) (i : Int) (H : Heap) : ACalls Tryz.prog 163 [av (encObj o), iv i] H (fun r H' => r = iv (gWanted o.kind i) ∧ H' = H) := by
  refine ACalls.pure ?_ (by simp) H
  refine ACalls.body Tryz.func163 rfl Tryz.ntmps163 (Nat.le_of_ble_eq_true rfl) ?_
  refine awp_seq ?_
  refine awp_region ?_
  refine al_d rfl rfl rfl (by exact opd_box (id := 2) rfl rfl rfl rfl rfl) ?_
  refine al_d rfl rfl rfl (by exact opd_assign rfl rfl) ?_
  refine al_nil ?_
  refine awp_seq ?_
  refine awp_seq ?_
  refine awp_bool (t := 16) (n := 14) (X := decide (o.kind = 4) || (decide (o.kind = 5) && !decide (i = 1))) ?_ ?_
  · all_goals (refine al_d rfl rfl rfl (by exact (by exact opd_field_ref rfl fo42_1 rfl rfl rfl rfl)) ?_)
    all_goals (refine al_d rfl rfl rfl (by exact (by exact opd_load1_ref rfl Tryz.isAgg3 rfl rfl rfl rfl rfl)) ?_)
    all_goals (refine al_d rfl rfl rfl (by exact opd_eql rfl rfl rfl) ?_)
    all_goals (refine al_d rfl rfl rfl (by exact opd_move rfl rfl) ?_)
    all_goals (refine al_split (t := 8) rfl (fun h8 => ?_) (fun h8 => ?_))
    all_goals (try contradiction)
    all_goals (first | refine al_off rfl rfl rfl rfl rfl ?_ | refine al_ond rfl rfl rfl rfl rfl rfl (by exact (by exact opd_field_ref rfl fo42_1 rfl rfl rfl rfl)) ?_)
    all_goals (first | refine al_off rfl rfl rfl rfl rfl ?_ | refine al_ond rfl rfl rfl rfl rfl rfl (by exact (by exact opd_load1_ref rfl Tryz.isAgg3 rfl rfl rfl rfl rfl)) ?_)
    all_goals (first | refine al_off rfl rfl rfl rfl rfl ?_ | refine al_ond rfl rfl rfl rfl rfl rfl (by exact opd_eql rfl rfl rfl) ?_)
    all_goals (first | refine al_off rfl rfl rfl rfl rfl ?_ | refine al_ond rfl rfl rfl rfl rfl rfl (by exact opd_move rfl rfl) ?_)
    all_goals (first | refine al_split (t := 12) rfl (fun h12 => ?_) (fun h12 => ?_) | refine al_dup (t := 12) rfl ?_)
    all_goals (try contradiction)
    all_goals (first | refine al_off rfl rfl rfl rfl rfl ?_ | refine al_offu rfl rfl rfl rfl ?_ | refine al_ond rfl rfl rfl rfl rfl rfl (by exact opd_move rfl rfl) ?_)
    all_goals (first | refine al_off rfl rfl rfl rfl rfl ?_ | refine al_offu rfl rfl rfl rfl ?_ | refine al_ond rfl rfl rfl rfl rfl rfl (by exact opd_neq rfl rfl rfl) ?_)
    all_goals (first | refine al_off rfl rfl rfl rfl rfl ?_ | refine al_ond rfl rfl rfl rfl rfl rfl (by exact (by first | exact opd_pick_t rfl rfl rfl | exact opd_pick_f rfl rfl rfl)) ?_)
    all_goals (refine al_d rfl rfl rfl (by exact (by first | exact opd_pick_t rfl rfl rfl | exact opd_pick_f rfl rfl rfl)) ?_)
    all_goals (refine al_nil ?_)
    all_goals (exact ⟨⟨_, rfl, by (simp only [*, Bool.false_and, Bool.true_and, Bool.and_false, Bool.and_true, Bool.true_or, Bool.false_or, Bool.or_true, Bool.or_false, Bool.not_true, Bool.not_false]; done)⟩, rfl, rfl, rfl⟩)
  refine awp_cond rfl (fun hc1 => ?_) (fun hc1 => ?_)
  -- cond 1
  · skip
    refine awp_seq ?_
    refine awp_region ?_
    refine al_d rfl rfl rfl (by exact opd_assign rfl rfl) ?_
    refine al_nil ?_
    refine awp_ret ?_
    -- return
    refine aret1 (H' := []) (by exact .inr rfl) rfl (rval_tmp rfl) (Fin.wk (by simp) trivial trivial) ?_
    exact ⟨by rw [gWanted, if_pos hc1], rfl⟩
  · skip
    refine awp_skip ?_
    refine awp_seq ?_
    refine awp_region ?_
    refine al_d rfl rfl rfl (by exact opd_assign rfl rfl) ?_
    refine al_nil ?_
    refine awp_ret ?_
    -- return
    refine aret1 (H' := []) (by exact .inr rfl) rfl (rval_tmp rfl) (Fin.wk (by simp) trivial trivial) ?_
    exact ⟨by rw [gWanted, hc1]; rfl, rfl⟩
theorem rMany_c (k : Nat) (H : Heap) (h1 : 1 ≤ k) (h4 : k ≤ 4) : ACalls Tryz.prog 116 [iv (k : Int)] H (fun r H' => r = iv (nMany k : Int) ∧ H' = H) := by
  refine ACalls.pure ?_ (by simp) H
  refine ACalls.body Tryz.func116 rfl Tryz.ntmps116 (Nat.le_of_ble_eq_true rfl) ?_
  refine awp_seq ?_
  refine awp_region ?_
  refine al_d rfl rfl rfl (by exact opd_assign rfl rfl) ?_
  refine al_nil ?_
  refine awp_seq ?_
  refine awp_seq ?_
  refine awp_region ?_
  refine al_d rfl rfl rfl (by exact opd_move rfl rfl) ?_
  refine al_d rfl rfl rfl (by exact opd_eql rfl rfl rfl) ?_
  refine al_nil ?_
  refine awp_cond rfl (fun hc1 => ?_) (fun hc1 => ?_)
  -- cond 1
  · have hk : k = 1 := by have := of_decide_eq_true hc1; omega
    subst hk
    refine awp_seq ?_
    refine awp_region ?_
    refine al_d rfl rfl rfl (by exact opd_assign rfl rfl) ?_
    refine al_nil ?_
    refine awp_ret ?_
    -- return
    refine aret1 (H' := []) (by exact .inr rfl) rfl (rval_tmp rfl) (Fin.wk (by simp) trivial trivial) ?_
    exact ⟨rfl, rfl⟩
  · have hk : ¬ k = 1 := by have := of_decide_eq_false hc1; omega
    refine awp_skip ?_
    refine awp_seq ?_
    refine awp_seq ?_
    refine awp_region ?_
    refine al_d rfl rfl rfl (by exact opd_move rfl rfl) ?_
    refine al_d rfl rfl rfl (by exact opd_eql rfl rfl rfl) ?_
    refine al_nil ?_
    refine awp_cond rfl (fun hc2 => ?_) (fun hc2 => ?_)
    -- cond 2
    · have hk : k = 4 := by have := of_decide_eq_true hc2; omega
      subst hk
      refine awp_seq ?_
      refine awp_region ?_
      refine al_d rfl rfl rfl (by exact opd_assign rfl rfl) ?_
      refine al_nil ?_
      refine awp_ret ?_
      -- return
      refine aret1 (H' := []) (by exact .inr rfl) rfl (rval_tmp rfl) (Fin.wk (by simp) trivial trivial) ?_
      exact ⟨rfl, rfl⟩
    · have hk4 : ¬ k = 4 := by have := of_decide_eq_false hc2; omega
      have hn : nMany k = 3 := by
        rcases (by omega : k = 2 ∨ k = 3) with rfl | rfl <;> rfl
      rw [hn]
      refine awp_skip ?_
      refine awp_seq ?_
      refine awp_region ?_
      refine al_d rfl rfl rfl (by exact opd_assign rfl rfl) ?_
      refine al_nil ?_
      refine awp_ret ?_
      -- return
      refine aret1 (H' := []) (by exact .inr rfl) rfl (rval_tmp rfl) (Fin.wk (by simp) trivial trivial) ?_
      exact ⟨rfl, rfl⟩
theorem rDrops_c (l : List GEdit) (H : Heap) (hl : l.length < 1099511627776) : ACalls Tryz.prog 119 [.pv (slEdits l)] H (fun r H' => r = bv (decide ((l.length : Int) < 2 * (nDrops l : Int))) ∧ H' = H) := by
  refine ACalls.pure ?_ (by simp) H
  have hml : (l.map encEdit).length = l.length := List.length_map _
  refine ACalls.body Tryz.func119 rfl Tryz.ntmps119 (Nat.le_of_ble_eq_true rfl) ?_
  refine awp_seq ?_
  refine awp_region ?_
  refine al_d rfl rfl rfl (by exact opd_assign rfl rfl) ?_
  refine al_nil ?_
  refine awp_seq ?_
  refine awp_region ?_
  refine al_d rfl rfl rfl (by exact opd_assign rfl rfl) ?_
  refine al_nil ?_
  refine awp_seq ?_
  refine awp_seq ?_
  refine awp_region ?_
  refine al_d rfl rfl rfl (by exact opd_assign rfl rfl) ?_
  refine al_nil ?_
  refine awp_block ?_
  -- loop
  refine awp_loop (σ := Nat) (fun k => ([(0, .pv (slEdits l)), (3, iv (nDrops (l.take k) : Int)), (4, iv (k : Int))], [])) (fun k => k ≤ l.length) (fun k => l.length - k) 0 (by omega) ?_ ?_
  · exact Ent.e0 ⟨⟨_, rfl, rfl⟩, ⟨_, rfl, rfl⟩, ⟨_, rfl, rfl⟩, trivial⟩
  · intro k hk
    have hnk := nDrops_le (l.take k)
    have hnl : (l.take k).length ≤ l.length := by rw [List.length_take]; omega
    refine awp_seq ?_
    refine awp_seq ?_
    refine awp_region ?_
    refine al_d rfl rfl rfl (by exact opd_move rfl rfl) ?_
    refine al_d rfl rfl rfl (by exact opd_move rfl rfl) ?_
    refine al_d rfl rfl rfl (by exact (by exact opd_len_sl rfl Tryz.underlying25 rfl)) ?_
    refine al_d rfl rfl rfl (by exact opd_lss rfl rfl rfl) ?_
    refine al_nil ?_
    refine awp_cond rfl (fun hc1 => ?_) (fun hc1 => ?_)
    -- cond 1
    · have hlt : k < l.length := by have := of_decide_eq_true hc1; omega
      obtain ⟨e, hx⟩ := get_of_lt hlt
      have hi := map_get (f := encEdit) hx
      have hn1 := nDrops_take hx
      refine awp_skip ?_
      refine awp_seq ?_
      refine awp_block ?_
      refine awp_seq ?_
      refine awp_region ?_
      refine al_d rfl rfl rfl (by exact opd_move rfl rfl) ?_
      refine al_d rfl rfl rfl (by exact opd_move rfl rfl) ?_
      refine al_d rfl rfl rfl (by exact (by exact x_index_pad rfl so25 rfl rfl (by omega) (by exact Int.toNat_natCast _) (by assumption) rfl)) ?_
      refine al_d rfl rfl rfl (by exact (by exact opd_field_pad rfl fo44_0 rfl rfl)) ?_
      refine al_d rfl rfl rfl (by exact (by exact opd_load1_pad rfl Tryz.isAgg3 rfl (by omega) rfl)) ?_
      refine al_d rfl rfl rfl (by exact opd_eql rfl rfl rfl) ?_
      refine al_nil ?_
      refine awp_cond rfl (fun hc2 => ?_) (fun hc2 => ?_)
      -- cond 2
      · have h5 : e.op = 5 := of_decide_eq_true hc2
        rw [if_pos h5] at hn1
        refine awp_region ?_
        refine al_d rfl rfl rfl (by exact opd_move rfl rfl) ?_
        refine al_d rfl rfl rfl (by exact opd_add rfl rfl rfl (by exact w64 (by omega) (by omega))) ?_
        refine al_d rfl rfl rfl (by exact opd_assign rfl rfl) ?_
        refine al_nil ?_
        refine awp_region ?_
        refine al_d rfl rfl rfl (by exact opd_move rfl rfl) ?_
        refine al_d rfl rfl rfl (by exact opd_add rfl rfl rfl (by exact w64 (by omega) (by omega))) ?_
        refine al_d rfl rfl rfl (by exact opd_assign rfl rfl) ?_
        refine al_nil ?_
        -- end of a round
        refine ⟨k + 1, by omega, by omega, ?_⟩
        rw [hn1]
        exact Ent.e0 ⟨⟨_, rfl, rfl⟩, ⟨_, rfl, rfl⟩, ⟨_, rfl, rfl⟩, trivial⟩
      · have h5 : ¬ e.op = 5 := of_decide_eq_false hc2
        rw [if_neg h5] at hn1
        refine awp_skip ?_
        refine awp_region ?_
        refine al_d rfl rfl rfl (by exact opd_move rfl rfl) ?_
        refine al_d rfl rfl rfl (by exact opd_add rfl rfl rfl (by exact w64 (by omega) (by omega))) ?_
        refine al_d rfl rfl rfl (by exact opd_assign rfl rfl) ?_
        refine al_nil ?_
        -- end of a round
        refine ⟨k + 1, by omega, by omega, ?_⟩
        rw [hn1]
        exact Ent.e0 ⟨⟨_, rfl, rfl⟩, ⟨_, rfl, rfl⟩, ⟨_, rfl, rfl⟩, trivial⟩
    · have hge : k = l.length := by have := of_decide_eq_false hc1; omega
      subst hge
      rw [List.take_length] at *
      refine awp_exit ?_
      refine awp_seq ?_
      refine awp_region ?_
      refine al_d rfl rfl rfl (by exact opd_move rfl rfl) ?_
      refine al_d rfl rfl rfl (by exact opd_mul rfl rfl rfl (by exact w64 (by omega) (by omega))) ?_
      refine al_d rfl rfl rfl (by exact opd_move rfl rfl) ?_
      refine al_d rfl rfl rfl (by exact (by exact opd_len_sl rfl Tryz.underlying25 rfl)) ?_
      refine al_d rfl rfl rfl (by exact opd_gtr rfl rfl rfl) ?_
      refine al_d rfl rfl rfl (by exact opd_assign rfl rfl) ?_
      refine al_nil ?_
      refine awp_ret ?_
      -- return
      refine aret1 (H' := []) (by exact .inr rfl) rfl (rval_tmp rfl) (Fin.wk (by simp) trivial trivial) ?_
      exact ⟨by rw [hml], rfl⟩
theorem rOld_c (m : List GObj) (id : ByteArray) (H : Heap) (hm : m.length < 4611686018427387904) : ACalls Tryz.prog 164 [.agg [.pv (slObjs m)], sv id] H (fun r H' => r = .tup [av (encObj (obOf m id)), bv (isOb m id)] ∧ H' = H) := by
  refine ACalls.pure ?_ (by simp) H
  have hF := fun H => rFind_c m id H hm
  refine ACalls.body Tryz.func164 rfl Tryz.ntmps164 (Nat.le_of_ble_eq_true rfl) ?_
  rcases gidx_cases (idIs id) m with ⟨hg, hf⟩ | ⟨j, o, hg, ho, hf⟩
  · rw [hg] at hF
    rw [(obOf_none hf).1, (obOf_none hf).2]
    refine awp_seq ?_
    refine awp_region ?_
    refine al_d rfl rfl rfl (by exact opd_box (id := 2) rfl rfl rfl rfl rfl) ?_
    refine al_d rfl rfl rfl (by exact x_alloc (id := 4) rfl zo42 rfl rfl) ?_
    refine al_d rfl rfl rfl (by exact opd_assign rfl rfl) ?_
    refine al_nil ?_
    refine awp_seq ?_
    refine awp_region ?_
    refine al_d rfl rfl rfl (by exact (by exact opd_loadn_ref rfl Tryz.isAgg24 Tryz.sizeOf24 rfl rfl rfl rfl (by simp only [List.drop_succ_cons, List.drop_zero, List.take_succ_cons, List.take_zero, List.take_nil, List.map_cons, List.map_nil, List.set_cons_zero, List.set_cons_succ, List.cons_append, List.nil_append, encTag, encObj, encStr, encEdit, encInt]; rfl) rfl)) ?_
    refine al_d rfl rfl rfl (by exact opd_move rfl rfl) ?_
    refine al_d rfl rfl rfl (by exact opr_call rfl rfl Tryz.call91 rfl (hF _)) ?_
    refine al_d rfl rfl rfl (by exact opd_assign rfl rfl) ?_
    refine al_nil ?_
    refine awp_seq ?_
    refine awp_seq ?_
    refine awp_region ?_
    refine al_d rfl rfl rfl (by exact opd_move rfl rfl) ?_
    refine al_d rfl rfl rfl (by exact opd_lss rfl rfl rfl) ?_
    refine al_nil ?_
    refine awp_cond rfl (fun hc1 => ?_) (fun hc1 => ?_)
    -- cond 1
    · skip
      refine awp_seq ?_
      refine awp_region ?_
      refine al_d rfl rfl rfl (by exact x_build rfl bo42 rfl rfl) ?_
      refine al_n rfl rfl (by exact (by exact x_store_all rfl Tryz.sizeOf42 rfl rfl rfl rfl rfl rfl rfl rfl)) ?_
      refine al_d rfl rfl rfl (by exact opd_assign rfl rfl) ?_
      refine al_nil ?_
      refine awp_ret ?_
      -- return
      refine aret2 (H' := []) (by exact .inr rfl) rfl (rval_cell rfl Tryz.isAgg42 Tryz.sizeOf42 rfl rfl rfl (by simp only [List.drop_succ_cons, List.drop_zero, List.take_succ_cons, List.take_zero, List.take_nil, List.map_cons, List.map_nil, List.set_cons_zero, List.set_cons_succ, List.cons_append, List.nil_append, encTag, encObj, encStr, encEdit, encInt]; rfl) rfl) (rval_tmp rfl) (Fin.wk (r := .tup [av (encObj zObj), bv false]) (by simp [encObj, zObj]) trivial trivial) ?_
      exact ⟨rfl, rfl⟩
    · cases hc1
  · rw [hg] at hF
    rw [(obOf_some hf).1, (obOf_some hf).2]
    have hi := map_get (f := encObj) ho
    have hkl := (List.getElem?_eq_some_iff.1 ho).1
    have hml : (m.map encObj).length = m.length := List.length_map _
    refine awp_seq ?_
    refine awp_region ?_
    refine al_d rfl rfl rfl (by exact opd_box (id := 2) rfl rfl rfl rfl rfl) ?_
    refine al_d rfl rfl rfl (by exact x_alloc (id := 4) rfl zo42 rfl rfl) ?_
    refine al_d rfl rfl rfl (by exact opd_assign rfl rfl) ?_
    refine al_nil ?_
    refine awp_seq ?_
    refine awp_region ?_
    refine al_d rfl rfl rfl (by exact (by exact opd_loadn_ref rfl Tryz.isAgg24 Tryz.sizeOf24 rfl rfl rfl rfl (by simp only [List.drop_succ_cons, List.drop_zero, List.take_succ_cons, List.take_zero, List.take_nil, List.map_cons, List.map_nil, List.set_cons_zero, List.set_cons_succ, List.cons_append, List.nil_append, encTag, encObj, encStr, encEdit, encInt]; rfl) rfl)) ?_
    refine al_d rfl rfl rfl (by exact opd_move rfl rfl) ?_
    refine al_d rfl rfl rfl (by exact opr_call rfl rfl Tryz.call91 rfl (hF _)) ?_
    refine al_d rfl rfl rfl (by exact opd_assign rfl rfl) ?_
    refine al_nil ?_
    refine awp_seq ?_
    refine awp_seq ?_
    refine awp_region ?_
    refine al_d rfl rfl rfl (by exact opd_move rfl rfl) ?_
    refine al_d rfl rfl rfl (by exact opd_lss rfl rfl rfl) ?_
    refine al_nil ?_
    refine awp_cond rfl (fun hc2 => ?_) (fun hc2 => ?_)
    -- cond 2
    · have := of_decide_eq_true hc2
      omega
    · skip
      refine awp_skip ?_
      refine awp_seq ?_
      refine awp_region ?_
      refine al_d rfl rfl rfl (by exact (by exact opd_field_ref rfl fo24_0 rfl rfl rfl rfl)) ?_
      refine al_d rfl rfl rfl (by exact (by exact opd_load1_ref rfl Tryz.isAgg22 rfl rfl rfl rfl rfl)) ?_
      refine al_d rfl rfl rfl (by exact opd_move rfl rfl) ?_
      refine al_d rfl rfl rfl (by exact (by exact x_index_pad rfl so22 rfl rfl (by omega) (by exact Int.toNat_natCast _) (by assumption) rfl)) ?_
      refine al_d rfl rfl rfl (by exact (by exact opd_loadn_pad rfl Tryz.isAgg42 Tryz.sizeOf42 rfl (by omega) (by simp only [List.drop_succ_cons, List.drop_zero, List.take_succ_cons, List.take_zero, List.take_nil, List.map_cons, List.map_nil, List.set_cons_zero, List.set_cons_succ, List.cons_append, List.nil_append, encTag, encObj, encStr, encEdit, encInt]; rfl) rfl)) ?_
      refine al_n rfl rfl (by exact (by exact x_store_all rfl Tryz.sizeOf42 rfl rfl rfl rfl rfl rfl rfl rfl)) ?_
      refine al_d rfl rfl rfl (by exact opd_assign rfl rfl) ?_
      refine al_nil ?_
      refine awp_ret ?_
      -- return
      refine aret2 (H' := []) (by exact .inr rfl) rfl (rval_cell rfl Tryz.isAgg42 Tryz.sizeOf42 rfl rfl rfl rfl rfl) (rval_tmp rfl) (Fin.wk (r := .tup [av (encObj o), bv true]) (by simp [encObj]) trivial trivial) ?_
      exact ⟨rfl, rfl⟩
end Go.Proofs.YtdgoodjhndeojaaGreat
end
section
set_option linter.unusedVariables false
set_option linter.unusedSimpArgs false
set_option maxRecDepth 100000
namespace Go.Proofs.YtdgoodjhndeojaaGreat
open Go.Abs
def sndBad (m : List GObj) (snd : GObj → Bool) (kind : Int) (i : Nat) (s : ByteArray) : Bool := match m.find? (idIs s) with
  | none => true
  | some ob => !decide (ob.kind = gWanted kind (i : Int)) || !snd ob
def sndL (m : List GObj) (snd : GObj → Bool) (kind : Int) : Nat → List ByteArray → Bool
  | _, [] => true
  | i, s :: r => !sndBad m snd kind i s && sndL m snd kind (i + 1) r
def gSnd (m : List GObj) : Nat → GObj → Bool
  | 0, _ => true
  | n + 1, o => sndL m (gSnd m n) o.kind 0 o.refs
theorem soundStep_c (m : List GObj) (o : GObj) (snd : GObj → Bool) (H : Heap) (hm : m.length < 1099511627776) (hu : ups m) (hl : o.refs.length < 4611686018427387904)
    (hrec : ∀ (i : Nat) (ob : GObj), i < o.refs.length → ob ∈ m → ob.kind = gWanted o.kind (i : Int) → ∀ H, ACalls Tryz.prog 115 [.agg [.pv (slObjs m)], av (encObj ob)] H (fun r H' => r = bv (snd ob) ∧ H' = H)) :
    ACalls Tryz.prog 115 [.agg [.pv (slObjs m)], av (encObj o)] H (fun r H' => r = bv (sndL m snd o.kind 0 o.refs) ∧ H' = H) := by
  refine ACalls.pure ?_ (by simp) H
  have hml : (m.map encObj).length = m.length := List.length_map _
  have hrl : (o.refs.map encStr).length = o.refs.length := List.length_map _
  refine ACalls.body Tryz.func115 rfl Tryz.ntmps115 (Nat.le_of_ble_eq_true rfl) ?_
  refine awp_seq ?_
  refine awp_region ?_
  refine al_d rfl rfl rfl (by exact opd_box (id := 2) rfl rfl rfl rfl rfl) ?_
  refine al_d rfl rfl rfl (by exact opd_box (id := 3) rfl rfl rfl rfl rfl) ?_
  refine al_d rfl rfl rfl (by exact opd_assign rfl rfl) ?_
  refine al_nil ?_
  refine awp_seq ?_
  refine awp_seq ?_
  refine awp_region ?_
  refine al_d rfl rfl rfl (by exact opd_assign rfl rfl) ?_
  refine al_nil ?_
  refine awp_block ?_
  -- loop
  refine awp_loop (σ := Nat) (fun k => ([(2, .ref 2 0 0 0), (3, .ref 3 0 0 0), (5, iv (k : Int))], [(3, bx 6 42 ((encObj o).map .pv)), (2, bx 1 24 [.pv (slObjs m)])])) (fun k => k ≤ o.refs.length ∧ sndL m snd o.kind 0 o.refs = sndL m snd o.kind k (o.refs.drop k)) (fun k => o.refs.length - k) 0 ⟨by omega, rfl⟩ ?_ ?_
  · exact (Ent.wk ⟨⟨_, rfl, rfl⟩, (by (simp; rfl)), ⟨_, rfl, rfl⟩, (by (simp; rfl)), ⟨_, rfl, rfl⟩, (by (simp; done)), trivial⟩ ⟨⟨_, rfl, rfl⟩, (by (simp; done)), ⟨_, rfl, rfl⟩, (by (simp; done)), trivial⟩ trivial)
  · rintro k ⟨hk, hinv⟩
    refine awp_seq ?_
    refine awp_seq ?_
    refine awp_region ?_
    refine al_d rfl rfl rfl (by exact opd_move rfl rfl) ?_
    refine al_d rfl rfl rfl (by exact (by exact opd_field_ref rfl fo42_3 rfl rfl rfl rfl)) ?_
    refine al_d rfl rfl rfl (by exact (by exact opd_load1_ref rfl Tryz.isAgg39 rfl rfl rfl rfl rfl)) ?_
    refine al_d rfl rfl rfl (by exact (by exact opd_len_sl rfl Tryz.underlying39 rfl)) ?_
    refine al_d rfl rfl rfl (by exact opd_lss rfl rfl rfl) ?_
    refine al_nil ?_
    refine awp_cond rfl (fun hc1 => ?_) (fun hc1 => ?_)
    -- cond 1
    · have hlt : k < o.refs.length := by have := of_decide_eq_true hc1; omega
      obtain ⟨s, hs⟩ := get_of_lt hlt
      have hi := map_get (f := encStr) hs
      have hdr : o.refs.drop k = s :: o.refs.drop (k + 1) := by
        obtain ⟨hl1, he1⟩ := List.getElem?_eq_some_iff.1 hs
        rw [List.drop_eq_getElem_cons hl1, he1]
      rw [hdr, sndL] at hinv
      have hF := fun H => rFind13_c m s H hm hu
      rcases gidx_cases (idIs s) m with ⟨hg, hf⟩ | ⟨j, ob, hg, hob, hf⟩
      · have hb : sndBad m snd o.kind k s = true := by rw [sndBad, hf]
        rw [hb] at hinv
        rw [hg] at hF
        refine awp_skip ?_
        refine awp_seq ?_
        refine awp_block ?_
        refine awp_seq ?_
        refine awp_drawc follows ?_
        refine dc_cons (DStep.q rfl (by exact (by exact opd_loadn_ref rfl Tryz.isAgg24 Tryz.sizeOf24 rfl rfl rfl rfl (by simp only [List.drop_succ_cons, List.drop_zero, List.take_succ_cons, List.take_zero, List.take_nil, List.map_cons, List.map_nil, List.set_cons_zero, List.set_cons_succ, List.cons_append, List.nil_append, encTag, encObj, encStr, encInt]; rfl) rfl))) rfl ?_
        refine dc_cons (DStep.q rfl (by exact (by exact opd_field_ref rfl fo42_3 rfl rfl rfl rfl))) rfl ?_
        refine dc_cons (DStep.q rfl (by exact (by exact opd_load1_ref rfl Tryz.isAgg39 rfl rfl rfl rfl rfl))) rfl ?_
        refine dc_cons (DStep.q rfl (by exact opd_move rfl rfl)) rfl ?_
        refine dc_cons (DStep.q rfl (by exact (by exact x_index_pad rfl so39 rfl rfl (by omega) (by exact Int.toNat_natCast _) (by assumption) rfl))) rfl ?_
        refine dc_cons (DStep.q rfl (by exact (by exact opd_load1_pad rfl Tryz.isAgg9 rfl (by omega) rfl))) rfl ?_
        refine dc_cons (DStep.q rfl (by exact opr_call rfl rfl Tryz.call162 rfl (hF _))) rfl ?_
        refine dc_cons (DStep.q rfl (by exact opd_assign rfl rfl)) rfl ?_
        refine dc_nil ⟨by kernel_rfl, ?_⟩
        refine awp_seq ?_
        refine awp_drawc follows ?_
        refine dc_cons (DStep.q rfl (by exact opd_move rfl rfl)) rfl ?_
        refine dc_cons (DStep.q rfl (by exact opd_lss rfl rfl rfl)) rfl ?_
        refine dc_cons (DStep.q rfl (by exact opd_move rfl rfl)) rfl ?_
        refine dc_cons (q_off_f rfl rfl rfl (by rfl)) rfl ?_
        refine dc_cons (q_off_f rfl rfl rfl (by rfl)) rfl ?_
        refine dc_cons (q_off_f rfl rfl rfl (by rfl)) rfl ?_
        refine dc_cons (q_off_f rfl rfl rfl (by rfl)) rfl ?_
        refine dc_cons (q_off_f rfl rfl rfl (by rfl)) rfl ?_
        refine dc_cons (q_off_f rfl rfl rfl (by rfl)) rfl ?_
        refine dc_cons (q_off_f rfl rfl rfl (by rfl)) rfl ?_
        refine dc_cons (q_off_f rfl rfl rfl (by rfl)) rfl ?_
        refine dc_cons (q_off_f rfl rfl rfl (by rfl)) rfl ?_
        refine dc_cons (q_off_f rfl rfl rfl (by rfl)) rfl ?_
        refine dc_cons (DStep.q rfl (by exact (by exact opd_pick_t rfl rfl rfl))) rfl ?_
        refine dc_cons (DStep.q rfl (by exact opd_move rfl rfl)) rfl ?_
        refine dc_cons (q_off_f rfl rfl rfl (by rfl)) rfl ?_
        refine dc_cons (q_off_f rfl rfl rfl (by rfl)) rfl ?_
        refine dc_cons (q_off_f rfl rfl rfl (by rfl)) rfl ?_
        refine dc_cons (q_off_f rfl rfl rfl (by rfl)) rfl ?_
        refine dc_cons (q_off_f rfl rfl rfl (by rfl)) rfl ?_
        refine dc_cons (q_off_f rfl rfl rfl (by rfl)) rfl ?_
        refine dc_cons (q_off_f rfl rfl rfl (by rfl)) rfl ?_
        refine dc_cons (q_off_f rfl rfl rfl (by rfl)) rfl ?_
        refine dc_cons (DStep.q rfl (by exact (by exact opd_pick_t rfl rfl rfl))) rfl ?_
        refine dc_nil ⟨by kernel_rfl, ?_⟩
        refine awp_cond rfl (fun hc2 => ?_) (fun hc2 => ?_)
        -- cond 2
        · skip
          refine awp_seq ?_
          refine awp_region ?_
          refine al_d rfl rfl rfl (by exact opd_assign rfl rfl) ?_
          refine al_nil ?_
          refine awp_ret ?_
          -- return
          refine aret1 (H' := []) (by exact .inr rfl) rfl (rval_tmp rfl) (Fin.wk (by simp) trivial trivial) ?_
          exact ⟨by rw [hinv]; rfl, rfl⟩
        · cases hc2
      · rw [hg] at hF
        have hio := map_get (f := encObj) hob
        have hj0 : decide ((j : Int) < 0) = false := decide_eq_false (by omega)
        have hb : sndBad m snd o.kind k s = (!decide (ob.kind = gWanted o.kind (k : Int)) || !snd ob) := by rw [sndBad, hf]
        by_cases hk2 : ob.kind = gWanted o.kind (k : Int)
        · have d1 : (!decide (ob.kind = gWanted o.kind (k : Int))) = false := by rw [decide_eq_true hk2]; rfl
          rw [d1, Bool.false_or] at hb
          have hR := hrec k ob hlt (List.mem_of_getElem? hob) hk2
          refine awp_skip ?_
          refine awp_seq ?_
          refine awp_block ?_
          refine awp_seq ?_
          refine awp_drawc follows ?_
          refine dc_cons (DStep.q rfl (by exact (by exact opd_loadn_ref rfl Tryz.isAgg24 Tryz.sizeOf24 rfl rfl rfl rfl (by simp only [List.drop_succ_cons, List.drop_zero, List.take_succ_cons, List.take_zero, List.take_nil, List.map_cons, List.map_nil, List.set_cons_zero, List.set_cons_succ, List.cons_append, List.nil_append, encTag, encObj, encStr, encInt]; rfl) rfl))) rfl ?_
          refine dc_cons (DStep.q rfl (by exact (by exact opd_field_ref rfl fo42_3 rfl rfl rfl rfl))) rfl ?_
          refine dc_cons (DStep.q rfl (by exact (by exact opd_load1_ref rfl Tryz.isAgg39 rfl rfl rfl rfl rfl))) rfl ?_
          refine dc_cons (DStep.q rfl (by exact opd_move rfl rfl)) rfl ?_
          refine dc_cons (DStep.q rfl (by exact (by exact x_index_pad rfl so39 rfl rfl (by omega) (by exact Int.toNat_natCast _) (by assumption) rfl))) rfl ?_
          refine dc_cons (DStep.q rfl (by exact (by exact opd_load1_pad rfl Tryz.isAgg9 rfl (by omega) rfl))) rfl ?_
          refine dc_cons (DStep.q rfl (by exact opr_call rfl rfl Tryz.call162 rfl (hF _))) rfl ?_
          refine dc_cons (DStep.q rfl (by exact opd_assign rfl rfl)) rfl ?_
          refine dc_nil ⟨by kernel_rfl, ?_⟩
          refine awp_seq ?_
          refine awp_drawc follows ?_
          refine dc_cons (DStep.q rfl (by exact opd_move rfl rfl)) rfl ?_
          refine dc_cons (DStep.q rfl (by exact opd_lss rfl rfl rfl)) rfl ?_
          refine dc_cons (DStep.q rfl (by exact opd_move rfl rfl)) rfl ?_
          refine dc_cons (q_on_f rfl rfl rfl (by rfl) (by exact (by exact opd_field_ref rfl fo24_0 rfl rfl rfl rfl))) rfl ?_
          refine dc_cons (q_on_f rfl rfl rfl (by rfl) (by exact (by exact opd_load1_ref rfl Tryz.isAgg22 rfl rfl rfl rfl rfl))) rfl ?_
          refine dc_cons (q_on_f rfl rfl rfl (by rfl) (by exact opd_move rfl rfl)) rfl ?_
          refine dc_cons (q_on_f rfl rfl rfl (by rfl) (by exact (by exact x_index_pad rfl so22 rfl rfl (by omega) (by exact Int.toNat_natCast _) (by assumption) rfl))) rfl ?_
          refine dc_cons (q_on_f rfl rfl rfl (by rfl) (by exact (by exact opd_field_pad rfl fo42_1 rfl rfl))) rfl ?_
          refine dc_cons (q_on_f rfl rfl rfl (by rfl) (by exact (by exact opd_load1_pad rfl Tryz.isAgg3 rfl (by omega) rfl))) rfl ?_
          refine dc_cons (q_on_f rfl rfl rfl (by rfl) (by exact (by exact opd_loadn_ref rfl Tryz.isAgg42 Tryz.sizeOf42 rfl rfl rfl rfl (by simp only [List.drop_succ_cons, List.drop_zero, List.take_succ_cons, List.take_zero, List.take_nil, List.map_cons, List.map_nil, List.set_cons_zero, List.set_cons_succ, List.cons_append, List.nil_append, encTag, encObj, encStr, encInt]; rfl) rfl))) rfl ?_
          refine dc_cons (q_on_f rfl rfl rfl (by rfl) (by exact opd_move rfl rfl)) rfl ?_
          refine dc_cons (q_on_f rfl rfl rfl (by rfl) (by exact opr_call rfl rfl Tryz.call163 rfl (rKind_c o (k : Int) _))) rfl ?_
          refine dc_cons (q_on_f rfl rfl rfl (by rfl) (by exact opd_neq rfl rfl rfl)) rfl ?_
          refine dc_cons (DStep.q rfl (by exact (by exact opd_pick_f rfl rfl rfl))) rfl ?_
          refine dc_cons (DStep.q rfl (by exact opd_move rfl rfl)) rfl ?_
          refine dc_cons (q_on_f rfl rfl rfl (by assumption) (by exact (by exact opd_loadn_ref rfl Tryz.isAgg24 Tryz.sizeOf24 rfl rfl rfl rfl (by simp only [List.drop_succ_cons, List.drop_zero, List.take_succ_cons, List.take_zero, List.take_nil, List.map_cons, List.map_nil, List.set_cons_zero, List.set_cons_succ, List.cons_append, List.nil_append, encTag, encObj, encStr, encInt]; rfl) rfl))) rfl ?_
          refine dc_cons (q_on_f rfl rfl rfl (by assumption) (by exact (by exact opd_field_ref rfl fo24_0 rfl rfl rfl rfl))) rfl ?_
          refine dc_cons (q_on_f rfl rfl rfl (by assumption) (by exact (by exact opd_load1_ref rfl Tryz.isAgg22 rfl rfl rfl rfl rfl))) rfl ?_
          refine dc_cons (q_on_f rfl rfl rfl (by assumption) (by exact opd_move rfl rfl)) rfl ?_
          refine dc_cons (q_on_f rfl rfl rfl (by assumption) (by exact (by exact x_index_pad rfl so22 rfl rfl (by omega) (by exact Int.toNat_natCast _) (by assumption) rfl))) rfl ?_
          refine dc_cons (q_on_f rfl rfl rfl (by assumption) (by exact (by exact opd_loadn_pad rfl Tryz.isAgg42 Tryz.sizeOf42 rfl (by omega) (by simp only [List.drop_succ_cons, List.drop_zero, List.take_succ_cons, List.take_zero, List.take_nil, List.map_cons, List.map_nil, List.set_cons_zero, List.set_cons_succ, List.cons_append, List.nil_append, encTag, encObj, encStr, encInt]; rfl) rfl))) rfl ?_
          refine dc_cons (q_on_f rfl rfl rfl (by assumption) (by exact opr_call rfl rfl Tryz.call115 rfl (hR _))) rfl ?_
          refine dc_cons (q_on_f rfl rfl rfl (by assumption) (by exact opd_not rfl rfl)) rfl ?_
          refine dc_cons (DStep.q rfl (by exact (by exact opd_pickf rfl rfl (by assumption) rfl))) rfl ?_
          refine dc_nil ⟨by kernel_rfl, ?_⟩
          refine awp_cond rfl (fun hc3 => ?_) (fun hc3 => ?_)
          -- cond 3
          · have h : (!snd ob) = true := hc3
            rw [← hb] at h
            rw [h] at hinv
            refine awp_seq ?_
            refine awp_region ?_
            refine al_d rfl rfl rfl (by exact opd_assign rfl rfl) ?_
            refine al_nil ?_
            refine awp_ret ?_
            -- return
            refine aret1 (H' := []) (by exact .inr rfl) rfl (rval_tmp rfl) (Fin.wk (by simp) trivial trivial) ?_
            exact ⟨by rw [hinv]; rfl, rfl⟩
          · have h : (!snd ob) = false := hc3
            rw [← hb] at h
            rw [h, Bool.not_false, Bool.true_and] at hinv
            refine awp_skip ?_
            refine awp_region ?_
            refine al_d rfl rfl rfl (by exact opd_move rfl rfl) ?_
            refine al_d rfl rfl rfl (by exact opd_add rfl rfl rfl (by exact w64 (by omega) (by omega))) ?_
            refine al_d rfl rfl rfl (by exact opd_assign rfl rfl) ?_
            refine al_nil ?_
            -- end of a round
            exact ⟨k + 1, ⟨by omega, hinv⟩, by omega, (Ent.wk ⟨⟨_, rfl, rfl⟩, (by (simp; rfl)), ⟨_, rfl, rfl⟩, (by (simp; rfl)), ⟨_, rfl, rfl⟩, (by (simp; done)), trivial⟩ ⟨⟨_, rfl, rfl⟩, (by (simp; done)), ⟨_, rfl, rfl⟩, (by (simp; done)), trivial⟩ trivial)⟩
        · have d1 : (!decide (ob.kind = gWanted o.kind (k : Int))) = true := by rw [decide_eq_false hk2]; rfl
          rw [d1, Bool.true_or] at hb
          rw [hb] at hinv
          refine awp_skip ?_
          refine awp_seq ?_
          refine awp_block ?_
          refine awp_seq ?_
          refine awp_drawc follows ?_
          refine dc_cons (DStep.q rfl (by exact (by exact opd_loadn_ref rfl Tryz.isAgg24 Tryz.sizeOf24 rfl rfl rfl rfl (by simp only [List.drop_succ_cons, List.drop_zero, List.take_succ_cons, List.take_zero, List.take_nil, List.map_cons, List.map_nil, List.set_cons_zero, List.set_cons_succ, List.cons_append, List.nil_append, encTag, encObj, encStr, encInt]; rfl) rfl))) rfl ?_
          refine dc_cons (DStep.q rfl (by exact (by exact opd_field_ref rfl fo42_3 rfl rfl rfl rfl))) rfl ?_
          refine dc_cons (DStep.q rfl (by exact (by exact opd_load1_ref rfl Tryz.isAgg39 rfl rfl rfl rfl rfl))) rfl ?_
          refine dc_cons (DStep.q rfl (by exact opd_move rfl rfl)) rfl ?_
          refine dc_cons (DStep.q rfl (by exact (by exact x_index_pad rfl so39 rfl rfl (by omega) (by exact Int.toNat_natCast _) (by assumption) rfl))) rfl ?_
          refine dc_cons (DStep.q rfl (by exact (by exact opd_load1_pad rfl Tryz.isAgg9 rfl (by omega) rfl))) rfl ?_
          refine dc_cons (DStep.q rfl (by exact opr_call rfl rfl Tryz.call162 rfl (hF _))) rfl ?_
          refine dc_cons (DStep.q rfl (by exact opd_assign rfl rfl)) rfl ?_
          refine dc_nil ⟨by kernel_rfl, ?_⟩
          refine awp_seq ?_
          refine awp_drawc follows ?_
          refine dc_cons (DStep.q rfl (by exact opd_move rfl rfl)) rfl ?_
          refine dc_cons (DStep.q rfl (by exact opd_lss rfl rfl rfl)) rfl ?_
          refine dc_cons (DStep.q rfl (by exact opd_move rfl rfl)) rfl ?_
          refine dc_cons (q_on_f rfl rfl rfl (by rfl) (by exact (by exact opd_field_ref rfl fo24_0 rfl rfl rfl rfl))) rfl ?_
          refine dc_cons (q_on_f rfl rfl rfl (by rfl) (by exact (by exact opd_load1_ref rfl Tryz.isAgg22 rfl rfl rfl rfl rfl))) rfl ?_
          refine dc_cons (q_on_f rfl rfl rfl (by rfl) (by exact opd_move rfl rfl)) rfl ?_
          refine dc_cons (q_on_f rfl rfl rfl (by rfl) (by exact (by exact x_index_pad rfl so22 rfl rfl (by omega) (by exact Int.toNat_natCast _) (by assumption) rfl))) rfl ?_
          refine dc_cons (q_on_f rfl rfl rfl (by rfl) (by exact (by exact opd_field_pad rfl fo42_1 rfl rfl))) rfl ?_
          refine dc_cons (q_on_f rfl rfl rfl (by rfl) (by exact (by exact opd_load1_pad rfl Tryz.isAgg3 rfl (by omega) rfl))) rfl ?_
          refine dc_cons (q_on_f rfl rfl rfl (by rfl) (by exact (by exact opd_loadn_ref rfl Tryz.isAgg42 Tryz.sizeOf42 rfl rfl rfl rfl (by simp only [List.drop_succ_cons, List.drop_zero, List.take_succ_cons, List.take_zero, List.take_nil, List.map_cons, List.map_nil, List.set_cons_zero, List.set_cons_succ, List.cons_append, List.nil_append, encTag, encObj, encStr, encInt]; rfl) rfl))) rfl ?_
          refine dc_cons (q_on_f rfl rfl rfl (by rfl) (by exact opd_move rfl rfl)) rfl ?_
          refine dc_cons (q_on_f rfl rfl rfl (by rfl) (by exact opr_call rfl rfl Tryz.call163 rfl (rKind_c o (k : Int) _))) rfl ?_
          refine dc_cons (q_on_f rfl rfl rfl (by rfl) (by exact opd_neq rfl rfl rfl)) rfl ?_
          refine dc_cons (DStep.q rfl (by exact (by exact opd_pick_f rfl rfl rfl))) rfl ?_
          refine dc_cons (DStep.q rfl (by exact opd_move rfl rfl)) rfl ?_
          refine dc_cons (q_off_f rfl rfl rfl (by assumption)) rfl ?_
          refine dc_cons (q_off_f rfl rfl rfl (by assumption)) rfl ?_
          refine dc_cons (q_off_f rfl rfl rfl (by assumption)) rfl ?_
          refine dc_cons (q_off_f rfl rfl rfl (by assumption)) rfl ?_
          refine dc_cons (q_off_f rfl rfl rfl (by assumption)) rfl ?_
          refine dc_cons (q_off_f rfl rfl rfl (by assumption)) rfl ?_
          refine dc_cons (q_off_f rfl rfl rfl (by assumption)) rfl ?_
          refine dc_cons (q_off_f rfl rfl rfl (by assumption)) rfl ?_
          refine dc_cons (DStep.q rfl (by exact (by exact opd_pickt rfl rfl (by assumption) rfl))) rfl ?_
          refine dc_nil ⟨by kernel_rfl, ?_⟩
          refine awp_cond rfl (fun hc4 => ?_) (fun hc4 => ?_)
          -- cond 4
          · skip
            refine awp_seq ?_
            refine awp_region ?_
            refine al_d rfl rfl rfl (by exact opd_assign rfl rfl) ?_
            refine al_nil ?_
            refine awp_ret ?_
            -- return
            refine aret1 (H' := []) (by exact .inr rfl) rfl (rval_tmp rfl) (Fin.wk (by simp) trivial trivial) ?_
            exact ⟨by rw [hinv]; rfl, rfl⟩
          · skip
            (cases hc4)
    · have hge : k = o.refs.length := by have := of_decide_eq_false hc1; omega
      subst hge
      rw [List.drop_length, sndL] at hinv
      refine awp_exit ?_
      refine awp_seq ?_
      refine awp_region ?_
      refine al_d rfl rfl rfl (by exact opd_assign rfl rfl) ?_
      refine al_nil ?_
      refine awp_ret ?_
      -- return
      refine aret1 (H' := []) (by exact .inr rfl) rfl (rval_tmp rfl) (Fin.wk (by simp) trivial trivial) ?_
      exact ⟨by rw [hinv], rfl⟩
/-- Nodes, ways and areas, routes and turns. -/
def lev (k : Int) : Nat := if k = 1 then 0 else if k = 4 ∨ k = 5 then 2 else 1
theorem obj_kind {o : GObj} (h : gObj o = true) : 1 ≤ o.kind ∧ o.kind ≤ 5 ∧ (o.kind = 1 → o.refs = []) := by
  simp only [gObj, Bool.and_eq_true, Bool.not_eq_true'] at h
  obtain ⟨h1, _, h3⟩ := h
  have hw : decide (gWord o.kind = sNil) = false := by
    simp only [gHead, gHeadN, Bool.or_eq_false_iff] at h1
    exact h1.1.1.1.1
  have hk := word_kind hw
  have hk0 : ¬ o.kind = 0 := fun e => by rw [e] at hw; simp [gWord] at hw
  refine ⟨by omega, by omega, fun e => ?_⟩
  rw [gKind, if_pos e, Bool.and_eq_true] at h3
  have := of_decide_eq_true h3.1
  exact List.eq_nil_of_length_eq_zero (by omega)
theorem lev_down {k i : Int} (h1 : 1 ≤ k) (h5 : k ≤ 5) (h : ¬ k = 1) : lev (gWanted k i) < lev k := by
  rcases (by omega : k = 2 ∨ k = 3 ∨ k = 4 ∨ k = 5) with rfl | rfl | rfl | rfl
  · exact Nat.lt_of_lt_of_le (by decide : lev 1 < 1) (by decide)
  · exact Nat.lt_of_lt_of_le (by decide : lev 1 < 1) (by decide)
  · exact Nat.lt_of_lt_of_le (by decide : lev 2 < 2) (by decide)
  · have : gWanted 5 i = 1 ∨ gWanted 5 i = 2 := by
      unfold gWanted
      split
      · exact .inr rfl
      · exact .inl rfl
    rcases this with e | e <;> rw [e] <;> decide
theorem sound_c (m : List GObj) (hm : okM m) (hml : m.length < 1099511627776) (hg : gMap m = true) : ∀ (n : Nat) (o : GObj), o ∈ m → lev o.kind ≤ n → ∀ H, ACalls Tryz.prog 115 [.agg [.pv (slObjs m)], av (encObj o)] H (fun r H' => r = bv (gSnd m n o) ∧ H' = H)
  | 0, o, ho, hn, H => by
    have hk := obj_kind ((gMap_iff.1 hg).1 o ho)
    have h1 : o.kind = 1 := by
      have h0 : lev o.kind = 0 := by omega
      unfold lev at h0
      split at h0
      · assumption
      · split at h0 <;> cases h0
    have hr := hk.2.2 h1
    have h := soundStep_c m o (fun _ => true) H hml (gMap_iff.1 hg).2.1 (hm.2 o ho).2.2.1 (fun i ob hi _ _ => by rw [hr] at hi; cases hi)
    rw [hr] at h
    exact h
  | n + 1, o, ho, hn, H => by
    have hk := obj_kind ((gMap_iff.1 hg).1 o ho)
    refine soundStep_c m o (gSnd m n) H hml (gMap_iff.1 hg).2.1 (hm.2 o ho).2.2.1 (fun i ob hi hob he => ?_)
    have hk1 : ¬ o.kind = 1 := fun e => by rw [hk.2.2 e] at hi; cases hi
    have := lev_down (i := (i : Int)) hk.1 hk.2.1 hk1
    exact sound_c m hm hml hg n ob hob (by rw [he]; omega)
theorem lev_le (k : Int) : lev k ≤ 2 := by
  unfold lev
  split
  · omega
  · split <;> omega
theorem sndL_err {m : List GObj} {snd : GObj → Bool} {kind : Int} : ∀ (l : List ByteArray) (i : Nat), sndL m snd kind i l = true → refErr m kind i l = 0
  | [], i, _ => rfl
  | s :: r, i, h => by
    rw [sndL, Bool.and_eq_true, Bool.not_eq_true'] at h
    have hb : refBad m kind i s = 0 := by
      have h1 := h.1
      rw [sndBad] at h1
      rw [refBad, kindOf]
      cases hf : m.find? (idIs s) with
      | none => rw [hf] at h1; cases h1
      | some ob =>
        rw [hf] at h1
        simp only [Bool.or_eq_false_iff, Bool.not_eq_false', decide_eq_true_eq] at h1
        exact if_pos h1.1
    rw [refErr, if_pos hb]
    exact sndL_err r (i + 1) h.2
theorem err_sndL {m : List GObj} {snd : GObj → Bool} {kind : Int} (hs : ∀ ob ∈ m, snd ob = true) : ∀ (l : List ByteArray) (i : Nat), refErr m kind i l = 0 → sndL m snd kind i l = true
  | [], i, _ => rfl
  | s :: r, i, h => by
    rw [refErr] at h
    split at h
    · next hb =>
      rw [sndL, err_sndL hs r (i + 1) h, Bool.and_true, sndBad]
      rw [refBad, kindOf] at hb
      cases hf : m.find? (idIs s) with
      | none => rw [hf] at hb; cases hb
      | some ob =>
        rw [hf] at hb
        simp only [Option.map_some] at hb
        split at hb
        · next he => simp only [decide_eq_true he, hs ob (List.mem_of_find?_eq_some hf)]; rfl
        · cases hb
    · next hb => exact absurd h hb
theorem gSnd_all {m : List GObj} (h : ∀ o ∈ m, refErr m o.kind 0 o.refs = 0) : ∀ (n : Nat) (o : GObj), o ∈ m → gSnd m n o = true
  | 0, _, _ => rfl
  | n + 1, o, ho => err_sndL (gSnd_all h n) o.refs 0 (h o ho)
theorem closed22_eq (m : List GObj) : m.all (gSnd m 2) = m.all (fun o => decide (refErr m o.kind 0 o.refs = 0)) := by
  rw [Bool.eq_iff_iff, List.all_eq_true, List.all_eq_true]
  constructor
  · intro h o ho
    exact decide_eq_true (sndL_err o.refs 0 (h o ho))
  · intro h o ho
    exact gSnd_all (fun o ho => of_decide_eq_true (h o ho)) 2 o ho
theorem rClosed22_c (m : List GObj) (H : Heap) (hm : okM m) (hmm : m.length < 1099511627776) : ACalls Tryz.prog 60 [.agg [.pv (slObjs m)]] H (fun r H' => r = bv (closedB m) ∧ H' = H) := by
  refine ACalls.pure ?_ (by simp) H
  have hml : (m.map encObj).length = m.length := List.length_map _
  have hl := hm.1
  refine ACalls.body Tryz.func60 rfl Tryz.ntmps60 (Nat.le_of_ble_eq_true rfl) ?_
  refine awp_seq ?_
  refine awp_region ?_
  refine al_d rfl rfl rfl (by exact opd_box (id := 1) rfl rfl rfl rfl rfl) ?_
  refine al_d rfl rfl rfl (by exact opd_assign rfl rfl) ?_
  refine al_nil ?_
  refine awp_seq ?_
  refine awp_seq ?_
  refine awp_region ?_
  refine al_d rfl rfl rfl (by exact (by exact opd_loadn_ref rfl Tryz.isAgg24 Tryz.sizeOf24 rfl rfl rfl rfl (by simp only [List.drop_succ_cons, List.drop_zero, List.take_succ_cons, List.take_zero, List.take_nil, List.map_cons, List.map_nil, List.set_cons_zero, List.set_cons_succ, List.cons_append, List.nil_append, encTag, encObj, encStr, encInt]; rfl) rfl)) ?_
  refine al_d rfl rfl rfl (by exact opr_call rfl rfl Tryz.call73 rfl (rMap_c m _ hm)) ?_
  refine al_d rfl rfl rfl (by exact opd_not rfl rfl) ?_
  refine al_nil ?_
  refine awp_cond rfl (fun hc1 => ?_) (fun hc1 => ?_)
  -- cond 1
  · have hg : gMap m = false := by
      have h : (!gMap m) = true := hc1
      simpa using h
    refine awp_seq ?_
    refine awp_region ?_
    refine al_d rfl rfl rfl (by exact opd_assign rfl rfl) ?_
    refine al_nil ?_
    refine awp_ret ?_
    -- return
    refine aret1 (H' := []) (by exact .inr rfl) rfl (rval_tmp rfl) (Fin.wk (by simp) trivial trivial) ?_
    exact ⟨by rw [closedB, hg, Bool.false_and], rfl⟩
  · have hg : gMap m = true := by
      have h : (!gMap m) = false := hc1
      simpa using h
    rw [closedB, hg, Bool.true_and, ← closed22_eq]
    refine awp_skip ?_
    refine awp_seq ?_
    refine awp_seq ?_
    refine awp_region ?_
    refine al_d rfl rfl rfl (by exact opd_assign rfl rfl) ?_
    refine al_nil ?_
    refine awp_block ?_
    -- loop
    refine awp_loop (σ := Nat) (fun k => ([(1, .ref 1 0 0 0), (3, iv (k : Int))], [(1, bx 1 24 [.pv (slObjs m)])])) (fun k => k ≤ m.length ∧ ∀ j, j < k → ∀ b, m[j]? = some b → (!gSnd m 2 b) = false) (fun k => m.length - k) 0 ⟨by omega, by omega⟩ ?_ ?_
    · exact (Ent.wk ⟨⟨_, rfl, rfl⟩, (by (simp; rfl)), ⟨_, rfl, rfl⟩, (by (simp; done)), trivial⟩ ⟨⟨_, rfl, rfl⟩, (by (simp; done)), trivial⟩ trivial)
    · rintro k ⟨hk, hno⟩
      refine awp_seq ?_
      refine awp_seq ?_
      refine awp_region ?_
      refine al_d rfl rfl rfl (by exact opd_move rfl rfl) ?_
      refine al_d rfl rfl rfl (by exact (by exact opd_field_ref rfl fo24_0 rfl rfl rfl rfl)) ?_
      refine al_d rfl rfl rfl (by exact (by exact opd_load1_ref rfl Tryz.isAgg22 rfl rfl rfl rfl rfl)) ?_
      refine al_d rfl rfl rfl (by exact (by exact opd_len_sl rfl Tryz.underlying22 rfl)) ?_
      refine al_d rfl rfl rfl (by exact opd_lss rfl rfl rfl) ?_
      refine al_nil ?_
      refine awp_cond rfl (fun hc2 => ?_) (fun hc2 => ?_)
      -- cond 2
      · have hlt : k < m.length := by have := of_decide_eq_true hc2; omega
        obtain ⟨o, ho⟩ := get_of_lt hlt
        have hi := map_get (f := encObj) ho
        refine awp_skip ?_
        refine awp_seq ?_
        refine awp_block ?_
        refine awp_seq ?_
        refine awp_drawc follows ?_
        refine dc_cons (DStep.q rfl (by exact (by exact opd_loadn_ref rfl Tryz.isAgg24 Tryz.sizeOf24 rfl rfl rfl rfl (by simp only [List.drop_succ_cons, List.drop_zero, List.take_succ_cons, List.take_zero, List.take_nil, List.map_cons, List.map_nil, List.set_cons_zero, List.set_cons_succ, List.cons_append, List.nil_append, encTag, encObj, encStr, encInt]; rfl) rfl))) rfl ?_
        refine dc_cons (DStep.q rfl (by exact (by exact opd_field_ref rfl fo24_0 rfl rfl rfl rfl))) rfl ?_
        refine dc_cons (DStep.q rfl (by exact (by exact opd_load1_ref rfl Tryz.isAgg22 rfl rfl rfl rfl rfl))) rfl ?_
        refine dc_cons (DStep.q rfl (by exact opd_move rfl rfl)) rfl ?_
        refine dc_cons (DStep.q rfl (by exact (by exact x_index_pad rfl so22 rfl rfl (by omega) (by exact Int.toNat_natCast _) (by assumption) rfl))) rfl ?_
        refine dc_cons (DStep.q rfl (by exact (by exact opd_loadn_pad rfl Tryz.isAgg42 Tryz.sizeOf42 rfl (by omega) (by simp only [List.drop_succ_cons, List.drop_zero, List.take_succ_cons, List.take_zero, List.take_nil, List.map_cons, List.map_nil, List.set_cons_zero, List.set_cons_succ, List.cons_append, List.nil_append, encTag, encObj, encStr, encInt]; rfl) rfl))) rfl ?_
        refine dc_cons (DStep.q rfl (by exact opr_call rfl rfl Tryz.call115 rfl (sound_c m hm hmm hg 2 o (List.mem_of_getElem? ho) (lev_le _) _))) rfl ?_
        refine dc_cons (DStep.q rfl (by exact opd_not rfl rfl)) rfl ?_
        refine dc_nil ⟨by kernel_rfl, ?_⟩
        refine awp_cond rfl (fun hc3 => ?_) (fun hc3 => ?_)
        -- cond 3
        · have hf : m.all (gSnd m 2) = false := by
            rw [List.all_eq_false]
            exact ⟨o, List.mem_of_getElem? ho, by simpa using hc3⟩
          refine awp_seq ?_
          refine awp_region ?_
          refine al_d rfl rfl rfl (by exact opd_assign rfl rfl) ?_
          refine al_nil ?_
          refine awp_ret ?_
          -- return
          refine aret1 (H' := []) (by exact .inr rfl) rfl (rval_tmp rfl) (Fin.wk (by simp) trivial trivial) ?_
          exact ⟨by rw [hf], rfl⟩
        · skip
          refine awp_skip ?_
          refine awp_region ?_
          refine al_d rfl rfl rfl (by exact opd_move rfl rfl) ?_
          refine al_d rfl rfl rfl (by exact opd_add rfl rfl rfl (by exact w64 (by omega) (by omega))) ?_
          refine al_d rfl rfl rfl (by exact opd_assign rfl rfl) ?_
          refine al_nil ?_
          -- end of a round
          exact ⟨k + 1, ⟨by omega, pre_succ hno ho hc3⟩, by omega, (Ent.wk ⟨⟨_, rfl, rfl⟩, (by (simp; rfl)), ⟨_, rfl, rfl⟩, (by (simp; done)), trivial⟩ ⟨⟨_, rfl, rfl⟩, (by (simp; done)), trivial⟩ trivial)⟩
      · have hge : k = m.length := by have := of_decide_eq_false hc2; omega
        subst hge
        have hf : m.all (gSnd m 2) = true := by
          rw [List.all_eq_true]
          intro o ho
          obtain ⟨j, hj⟩ := List.mem_iff_getElem?.1 ho
          have := hno j (List.getElem?_eq_some_iff.1 hj).1 o hj
          simpa using this
        refine awp_exit ?_
        refine awp_seq ?_
        refine awp_region ?_
        refine al_d rfl rfl rfl (by exact opd_assign rfl rfl) ?_
        refine al_nil ?_
        refine awp_ret ?_
        -- return
        refine aret1 (H' := []) (by exact .inr rfl) rfl (rval_tmp rfl) (Fin.wk (by simp) trivial trivial) ?_
        exact ⟨by rw [hf], rfl⟩
end Go.Proofs.YtdgoodjhndeojaaGreat
end
section
set_option linter.unusedVariables false
set_option linter.unusedSimpArgs false
set_option maxRecDepth 100000
namespace Go.Proofs.YtdgoodjhndeojaaGreat
open Go.Abs
def rb (b : GEdit) : Bool := ((((((!decide (b.id = sNil) || !decide (b.other = sNil)) || !decide (b.node = sNil)) || !(decide (b.x = 0) && decide (b.y = 0))) || !decide (b.key = sNil)) || !decide (b.val = sNil)) || decide ((0 : Int) < ((b.refs.map encStr).length : Int))) || !gSameO b.obj zObj
theorem rb_iff (b : GEdit) : rb b = false ↔ (b.id = sNil ∧ b.other = sNil ∧ b.node = sNil ∧ (b.x = 0 ∧ b.y = 0) ∧ b.key = sNil ∧ b.val = sNil ∧ b.refs = [] ∧ b.obj = zObj) := by
  have hr : decide ((0 : Int) < ((b.refs.map encStr).length : Int)) = false ↔ b.refs = [] := by
    rw [decide_eq_false_iff_not, List.length_map]
    constructor
    · intro h; exact List.eq_nil_of_length_eq_zero (by omega)
    · intro h; rw [h]; simp
  simp only [rb, Bool.or_eq_false_iff, Bool.not_eq_false', Bool.and_eq_true, decide_eq_true_eq, hr, gSameO_iff]
  constructor
  · rintro ⟨⟨⟨⟨⟨⟨⟨a, b⟩, c⟩, d⟩, e⟩, f⟩, g⟩, i⟩; exact ⟨a, b, c, d, e, f, g, i⟩
  · rintro ⟨a, b, c, d, e, f, g, i⟩; exact ⟨⟨⟨⟨⟨⟨⟨a, b⟩, c⟩, d⟩, e⟩, f⟩, g⟩, i⟩
theorem onP_eq (x y : Int) : onP x y = gOn x y := by
  rw [Bool.eq_iff_iff]
  simp only [onP, gOn, Bool.and_eq_true, decide_eq_true_eq]
  omega
theorem nil_size : (sNil.size : Int) ≤ 200 := by decide
def bare1 (e : GEdit) : GEdit := ⟨e.op, e.id, e.other, e.node, e.x, e.y, e.key, e.val, e.refs, zObj⟩
theorem ed1 (e : GEdit) (ho : e.op = 1) : gEditV e = (!rb (bare1 e) && gObj e.obj) := by
  obtain ⟨op, id, other, node, x, y, key, val, refs, obj⟩ := e
  simp only at ho
  subst ho
  have hb := rb_iff (bare1 ⟨1, id, other, node, x, y, key, val, refs, obj⟩)
  rw [Bool.eq_iff_iff]
  simp only [bare1] at hb ⊢
  simp only [gEditV, Bool.and_eq_true, Bool.not_eq_true', hb, gSameE_iff, onP_eq, okOf, xOf]
  simp only [Int.reduceEq, if_true, if_false, reduceIte, Int.reduceLE, decide_true, GEdit.mk.injEq, true_and, and_true, List.all_cons, List.all_nil, Bool.and_true, Bool.and_eq_true, onP_eq, decide_eq_true_eq, Bool.not_eq_true', Bool.or_eq_false_iff, decide_eq_false_iff_not, List.length_map, eq_comm (a := sNil), eq_comm (a := (0 : Int)), eq_comm (a := zObj), eq_comm (a := ([] : List ByteArray))]
  constructor
  · intro h
    have hs := nil_size
    simp_all
    try omega
  · intro h
    simp_all
    try omega
def bare2 (e : GEdit) : GEdit := ⟨e.op, sNil, e.other, e.node, 0, 0, e.key, e.val, e.refs, e.obj⟩
theorem ed2 (e : GEdit) (ho : e.op = 2) : gEditV e = (!rb (bare2 e) && ([e.id].all gName && (decide ((e.val.size : Int) ≤ 200) && gOn e.x e.y))) := by
  obtain ⟨op, id, other, node, x, y, key, val, refs, obj⟩ := e
  simp only at ho
  subst ho
  have hb := rb_iff (bare2 ⟨2, id, other, node, x, y, key, val, refs, obj⟩)
  rw [Bool.eq_iff_iff]
  simp only [bare2] at hb ⊢
  simp only [gEditV, Bool.and_eq_true, Bool.not_eq_true', hb, gSameE_iff, onP_eq, okOf, xOf]
  simp only [Int.reduceEq, if_true, if_false, reduceIte, Int.reduceLE, decide_true, GEdit.mk.injEq, true_and, and_true, List.all_cons, List.all_nil, Bool.and_true, Bool.and_eq_true, onP_eq, decide_eq_true_eq, Bool.not_eq_true', Bool.or_eq_false_iff, decide_eq_false_iff_not, List.length_map, eq_comm (a := sNil), eq_comm (a := (0 : Int)), eq_comm (a := zObj), eq_comm (a := ([] : List ByteArray))]
  constructor
  · intro h
    have hs := nil_size
    simp_all
    try omega
  · intro h
    simp_all
    try omega
def bare3 (e : GEdit) : GEdit := ⟨e.op, sNil, e.other, e.node, e.x, e.y, sNil, sNil, e.refs, e.obj⟩
theorem ed3 (e : GEdit) (ho : e.op = 3) : gEditV e = (!rb (bare3 e) && ([e.id, e.key].all gName && decide ((e.val.size : Int) ≤ 200))) := by
  obtain ⟨op, id, other, node, x, y, key, val, refs, obj⟩ := e
  simp only at ho
  subst ho
  have hb := rb_iff (bare3 ⟨3, id, other, node, x, y, key, val, refs, obj⟩)
  rw [Bool.eq_iff_iff]
  simp only [bare3] at hb ⊢
  simp only [gEditV, Bool.and_eq_true, Bool.not_eq_true', hb, gSameE_iff, onP_eq, okOf, xOf]
  simp only [Int.reduceEq, if_true, if_false, reduceIte, Int.reduceLE, decide_true, GEdit.mk.injEq, true_and, and_true, List.all_cons, List.all_nil, Bool.and_true, Bool.and_eq_true, onP_eq, decide_eq_true_eq, Bool.not_eq_true', Bool.or_eq_false_iff, decide_eq_false_iff_not, List.length_map, eq_comm (a := sNil), eq_comm (a := (0 : Int)), eq_comm (a := zObj), eq_comm (a := ([] : List ByteArray))]
  constructor
  · intro h
    have hs := nil_size
    simp_all
    try omega
  · intro h
    simp_all
    try omega
def bare4 (e : GEdit) : GEdit := ⟨e.op, sNil, e.other, e.node, e.x, e.y, e.key, e.val, [], e.obj⟩
theorem ed4 (e : GEdit) (ho : e.op = 4) : gEditV e = (!rb (bare4 e) && ((e.id :: e.refs).all gName && (!(decide (((e.refs.map encStr).length : Int) < 1) || decide (2000 < ((e.refs.map encStr).length : Int))) && decide ((e.val.size : Int) ≤ 200)))) := by
  obtain ⟨op, id, other, node, x, y, key, val, refs, obj⟩ := e
  simp only at ho
  subst ho
  have hb := rb_iff (bare4 ⟨4, id, other, node, x, y, key, val, refs, obj⟩)
  rw [Bool.eq_iff_iff]
  simp only [bare4] at hb ⊢
  simp only [gEditV, Bool.and_eq_true, Bool.not_eq_true', hb, gSameE_iff, onP_eq, okOf, xOf]
  simp only [Int.reduceEq, if_true, if_false, reduceIte, Int.reduceLE, decide_true, GEdit.mk.injEq, true_and, and_true, List.all_cons, List.all_nil, Bool.and_true, Bool.and_eq_true, onP_eq, decide_eq_true_eq, Bool.not_eq_true', Bool.or_eq_false_iff, decide_eq_false_iff_not, List.length_map, eq_comm (a := sNil), eq_comm (a := (0 : Int)), eq_comm (a := zObj), eq_comm (a := ([] : List ByteArray))]
  constructor
  · intro h
    have hs := nil_size
    simp_all
    try omega
  · intro h
    simp_all
    try omega
def bare5 (e : GEdit) : GEdit := ⟨e.op, sNil, e.other, e.node, e.x, e.y, e.key, e.val, e.refs, e.obj⟩
theorem ed5 (e : GEdit) (ho : e.op = 5) : gEditV e = (!rb (bare5 e) && ([e.id].all gName && decide ((e.val.size : Int) ≤ 200))) := by
  obtain ⟨op, id, other, node, x, y, key, val, refs, obj⟩ := e
  simp only at ho
  subst ho
  have hb := rb_iff (bare5 ⟨5, id, other, node, x, y, key, val, refs, obj⟩)
  rw [Bool.eq_iff_iff]
  simp only [bare5] at hb ⊢
  simp only [gEditV, Bool.and_eq_true, Bool.not_eq_true', hb, gSameE_iff, onP_eq, okOf, xOf]
  simp only [Int.reduceEq, if_true, if_false, reduceIte, Int.reduceLE, decide_true, GEdit.mk.injEq, true_and, and_true, List.all_cons, List.all_nil, Bool.and_true, Bool.and_eq_true, onP_eq, decide_eq_true_eq, Bool.not_eq_true', Bool.or_eq_false_iff, decide_eq_false_iff_not, List.length_map, eq_comm (a := sNil), eq_comm (a := (0 : Int)), eq_comm (a := zObj), eq_comm (a := ([] : List ByteArray))]
  constructor
  · intro h
    have hs := nil_size
    simp_all
    try omega
  · intro h
    simp_all
    try omega
def bare6 (e : GEdit) : GEdit := ⟨e.op, sNil, sNil, sNil, e.x, e.y, e.key, e.val, e.refs, e.obj⟩
theorem ed6 (e : GEdit) (ho : e.op = 6) : gEditV e = (!rb (bare6 e) && ([e.id, e.node, e.other].all gName && decide ((e.val.size : Int) ≤ 200))) := by
  obtain ⟨op, id, other, node, x, y, key, val, refs, obj⟩ := e
  simp only at ho
  subst ho
  have hb := rb_iff (bare6 ⟨6, id, other, node, x, y, key, val, refs, obj⟩)
  rw [Bool.eq_iff_iff]
  simp only [bare6] at hb ⊢
  simp only [gEditV, Bool.and_eq_true, Bool.not_eq_true', hb, gSameE_iff, onP_eq, okOf, xOf]
  simp only [Int.reduceEq, if_true, if_false, reduceIte, Int.reduceLE, decide_true, GEdit.mk.injEq, true_and, and_true, List.all_cons, List.all_nil, Bool.and_true, Bool.and_eq_true, onP_eq, decide_eq_true_eq, Bool.not_eq_true', Bool.or_eq_false_iff, decide_eq_false_iff_not, List.length_map, eq_comm (a := sNil), eq_comm (a := (0 : Int)), eq_comm (a := zObj), eq_comm (a := ([] : List ByteArray))]
  constructor
  · intro h
    have hs := nil_size
    simp_all
    try omega
  · intro h
    simp_all
    try omega
def bare7 (e : GEdit) : GEdit := ⟨e.op, sNil, sNil, e.node, e.x, e.y, e.key, e.val, e.refs, e.obj⟩
theorem ed7 (e : GEdit) (ho : e.op = 7) : gEditV e = (!rb (bare7 e) && ([e.id, e.other].all gName && decide ((e.val.size : Int) ≤ 200))) := by
  obtain ⟨op, id, other, node, x, y, key, val, refs, obj⟩ := e
  simp only at ho
  subst ho
  have hb := rb_iff (bare7 ⟨7, id, other, node, x, y, key, val, refs, obj⟩)
  rw [Bool.eq_iff_iff]
  simp only [bare7] at hb ⊢
  simp only [gEditV, Bool.and_eq_true, Bool.not_eq_true', hb, gSameE_iff, onP_eq, okOf, xOf]
  simp only [Int.reduceEq, if_true, if_false, reduceIte, Int.reduceLE, decide_true, GEdit.mk.injEq, true_and, and_true, List.all_cons, List.all_nil, Bool.and_true, Bool.and_eq_true, onP_eq, decide_eq_true_eq, Bool.not_eq_true', Bool.or_eq_false_iff, decide_eq_false_iff_not, List.length_map, eq_comm (a := sNil), eq_comm (a := (0 : Int)), eq_comm (a := zObj), eq_comm (a := ([] : List ByteArray))]
  constructor
  · intro h
    have hs := nil_size
    simp_all
    try omega
  · intro h
    simp_all
    try omega
end Go.Proofs.YtdgoodjhndeojaaGreat
end
