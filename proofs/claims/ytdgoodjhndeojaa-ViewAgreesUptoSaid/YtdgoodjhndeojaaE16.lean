/-
  CONTRACTS: what is moderate (planisphereref13.Few); objects and maps compared (planisphereref11.Same, 12.Same). Conditions: lengths below 2^62.
-/
import Derived.Test.YtdgoodjhndeojaaE15
set_option linter.unusedVariables false
set_option linter.unusedSimpArgs false
set_option maxRecDepth 100000
namespace Go.Proofs.Ytdgoodjhndeojaa
open Go.Abs
def tagEq (a b : GTag) : Bool := decide (a.key = b.key) && decide (a.val = b.val)
theorem tagEq_iff (a b : GTag) : tagEq a b = true ↔ a = b := by
  cases a; cases b; simp [tagEq]
/-- The k-th elements are equal, for all k below n. -/
def eqTo {α : Type} (e : α → α → Bool) (a b : List α) : Bool := decide (a.length = b.length) && (List.range a.length).all fun k => match a[k]?, b[k]? with | some x, some y => e x y | _, _ => true
theorem eqTo_iff {α : Type} {e : α → α → Bool} (he : ∀ x y, e x y = true ↔ x = y) {a b : List α} : eqTo e a b = true ↔ a = b := by
  constructor
  · intro h
    simp only [eqTo, Bool.and_eq_true, decide_eq_true_eq, List.all_eq_true, List.mem_range] at h
    apply List.ext_getElem h.1
    intro k h1 h2
    have := h.2 k h1
    rw [List.getElem?_eq_getElem h1, List.getElem?_eq_getElem h2] at this
    exact (he _ _).1 this
  · rintro rfl
    simp only [eqTo, Bool.and_eq_true, decide_eq_true_eq, List.all_eq_true, List.mem_range, true_and]
    intro k hk
    rw [List.getElem?_eq_getElem hk]
    exact (he _ _).2 rfl
theorem eqTo_bad {α : Type} {e : α → α → Bool} {a b : List α} {k : Nat} {x y : α} (hx : a[k]? = some x) (hy : b[k]? = some y) (h : e x y = false) : eqTo e a b = false := by
  have hk := (List.getElem?_eq_some_iff.1 hx).1
  rw [eqTo, Bool.and_eq_false_iff]
  right
  rw [List.all_eq_false]
  exact ⟨k, List.mem_range.2 hk, by rw [hx, hy]; simp [h]⟩
theorem eqTo_len {α : Type} {e : α → α → Bool} {a b : List α} (h : ¬ a.length = b.length) : eqTo e a b = false := by simp [eqTo, h]
theorem eqTo_good {α : Type} {e : α → α → Bool} {a b : List α} (hl : a.length = b.length) (h : ∀ k, k < a.length → ∀ x y, a[k]? = some x → b[k]? = some y → e x y = true) : eqTo e a b = true := by
  simp only [eqTo, Bool.and_eq_true, decide_eq_true_eq, List.all_eq_true, List.mem_range]
  refine ⟨hl, fun k hk => ?_⟩
  rw [List.getElem?_eq_getElem hk, List.getElem?_eq_getElem (by omega)]
  exact h k hk _ _ (List.getElem?_eq_getElem hk) (List.getElem?_eq_getElem (by omega))
def strEq (a b : ByteArray) : Bool := decide (a = b)
theorem strEq_iff (a b : ByteArray) : strEq a b = true ↔ a = b := by simp [strEq]
def headEq (a b : GObj) : Bool := decide (a.id = b.id) && decide (a.kind = b.kind) && (decide (a.x = b.x) && decide (a.y = b.y)) && decide (a.refs.length = b.refs.length) && decide (a.tags.length = b.tags.length)
def gSameO (a b : GObj) : Bool := headEq a b && (eqTo strEq a.refs b.refs && eqTo tagEq a.tags b.tags)
theorem gSameO_iff {a b : GObj} : gSameO a b = true ↔ a = b := by
  rw [gSameO, Bool.and_eq_true, Bool.and_eq_true, eqTo_iff strEq_iff, eqTo_iff tagEq_iff]
  cases a; cases b
  simp only [headEq, Bool.and_eq_true, decide_eq_true_eq, GObj.mk.injEq]
  constructor
  · rintro ⟨⟨⟨⟨⟨a1, a2⟩, a3, a4⟩, a5⟩, a6⟩, a7, a8⟩
    exact ⟨a1, a2, a3, a4, a7, a8⟩
  · rintro ⟨a1, a2, a3, a4, a7, a8⟩
    exact ⟨⟨⟨⟨⟨a1, a2⟩, a3, a4⟩, by rw [a7]⟩, by rw [a8]⟩, a7, a8⟩
def headNe (a b : GObj) (n1 n2 n3 n4 : Int) : Bool := !decide (a.id = b.id) || !decide (a.kind = b.kind) || !(decide (a.x = b.x) && decide (a.y = b.y)) || !decide (n1 = n2) || !decide (n3 = n4)
theorem headNe_eq (a b : GObj) : headNe a b ((a.refs.map encStr).length : Int) ((b.refs.map encStr).length : Int) ((a.tags.map encTag).length : Int) ((b.tags.map encTag).length : Int) = !headEq a b := by
  simp only [headNe, headEq, List.length_map, Bool.not_and, Int.natCast_inj]
theorem same11_c (a b : GObj) (H : Heap) (ha : a.refs.length < 4611686018427387904) (ha2 : a.tags.length < 4611686018427387904) : ACalls Try.prog 48 [av (encObj a), av (encObj b)] H (fun r H' => r = bv (gSameO a b) ∧ H' = H) := by
  refine ACalls.pure ?_ (by simp) H
  have hra : (a.refs.map encStr).length = a.refs.length := List.length_map _
  have hta : (a.tags.map encTag).length = a.tags.length := List.length_map _
  refine ACalls.body Try.func48 rfl Try.ntmps48 (Nat.le_of_ble_eq_true rfl) ?_
  refine awp_seq ?_
  refine awp_region ?_
  refine al_d rfl rfl rfl (by exact opd_box (id := 2) rfl rfl rfl rfl rfl) ?_
  refine al_d rfl rfl rfl (by exact opd_box (id := 3) rfl rfl rfl rfl rfl) ?_
  refine al_d rfl rfl rfl (by exact opd_assign rfl rfl) ?_
  refine al_nil ?_
  refine awp_seq ?_
  refine awp_seq ?_
  refine awp_bool (t := 43) (n := 41) (X := headNe a b ((a.refs.map encStr).length : Int) ((b.refs.map encStr).length : Int) ((a.tags.map encTag).length : Int) ((b.tags.map encTag).length : Int)) ?_ ?_
  · all_goals (refine al_d rfl rfl rfl (by exact (by first | exact opd_field_ref rfl fo38_0 rfl rfl rfl rfl | exact opd_field_pad rfl fo38_0 rfl rfl)) ?_)
    all_goals (refine al_d rfl rfl rfl (by exact (by first | exact opd_load1_ref rfl Try.isAgg9 rfl rfl rfl rfl rfl | exact opd_load1_pad rfl Try.isAgg9 rfl (by first | omega | assumption) rfl)) ?_)
    all_goals (refine al_d rfl rfl rfl (by exact (by first | exact opd_field_ref rfl fo38_0 rfl rfl rfl rfl | exact opd_field_pad rfl fo38_0 rfl rfl)) ?_)
    all_goals (refine al_d rfl rfl rfl (by exact (by first | exact opd_load1_ref rfl Try.isAgg9 rfl rfl rfl rfl rfl | exact opd_load1_pad rfl Try.isAgg9 rfl (by first | omega | assumption) rfl)) ?_)
    all_goals (refine al_d rfl rfl rfl (by exact opd_sneq rfl rfl rfl) ?_)
    all_goals (refine al_d rfl rfl rfl (by exact opd_move rfl rfl) ?_)
    all_goals (first | refine al_split (t := 12) rfl (fun h12 => ?_) (fun h12 => ?_) | refine al_dup (t := 12) rfl ?_ | skip)
    all_goals (try contradiction)
    all_goals (first | refine al_off rfl rfl rfl rfl rfl ?_ | refine al_offu rfl rfl rfl rfl ?_ | refine al_ond rfl rfl rfl rfl rfl rfl (by exact (by first | exact opd_field_ref rfl fo38_1 rfl rfl rfl rfl | exact opd_field_pad rfl fo38_1 rfl rfl)) ?_)
    all_goals (first | refine al_off rfl rfl rfl rfl rfl ?_ | refine al_offu rfl rfl rfl rfl ?_ | refine al_ond rfl rfl rfl rfl rfl rfl (by exact (by first | exact opd_load1_ref rfl Try.isAgg3 rfl rfl rfl rfl rfl | exact opd_load1_pad rfl Try.isAgg3 rfl (by first | omega | assumption) rfl)) ?_)
    all_goals (first | refine al_off rfl rfl rfl rfl rfl ?_ | refine al_offu rfl rfl rfl rfl ?_ | refine al_ond rfl rfl rfl rfl rfl rfl (by exact (by first | exact opd_field_ref rfl fo38_1 rfl rfl rfl rfl | exact opd_field_pad rfl fo38_1 rfl rfl)) ?_)
    all_goals (first | refine al_off rfl rfl rfl rfl rfl ?_ | refine al_offu rfl rfl rfl rfl ?_ | refine al_ond rfl rfl rfl rfl rfl rfl (by exact (by first | exact opd_load1_ref rfl Try.isAgg3 rfl rfl rfl rfl rfl | exact opd_load1_pad rfl Try.isAgg3 rfl (by first | omega | assumption) rfl)) ?_)
    all_goals (first | refine al_off rfl rfl rfl rfl rfl ?_ | refine al_offu rfl rfl rfl rfl ?_ | refine al_ond rfl rfl rfl rfl rfl rfl (by exact opd_neq rfl rfl rfl) ?_)
    all_goals (refine al_d rfl rfl rfl (by exact (by first | exact opd_pick_t rfl rfl rfl | exact opd_pick_f rfl rfl rfl | exact opd_pickt rfl rfl (by assumption) rfl | exact opd_pickf rfl rfl (by assumption) rfl | exact opd_pick rfl rfl rfl)) ?_)
    all_goals (refine al_d rfl rfl rfl (by exact opd_move rfl rfl) ?_)
    all_goals (first | refine al_split (t := 19) rfl (fun h19 => ?_) (fun h19 => ?_) | refine al_dup (t := 19) rfl ?_ | skip)
    all_goals (try contradiction)
    all_goals (first | refine al_off rfl rfl rfl rfl rfl ?_ | refine al_offu rfl rfl rfl rfl ?_ | refine al_ond rfl rfl rfl rfl rfl rfl (by exact (by first | exact opd_field_ref rfl fo38_2 rfl rfl rfl rfl | exact opd_field_pad rfl fo38_2 rfl rfl)) ?_)
    all_goals (first | refine al_off rfl rfl rfl rfl rfl ?_ | refine al_offu rfl rfl rfl rfl ?_ | refine al_ond rfl rfl rfl rfl rfl rfl (by exact (by first | exact opd_loadn_ref rfl Try.isAgg35 Try.sizeOf35 rfl rfl rfl rfl (by simp only [List.drop_succ_cons, List.drop_zero, List.take_succ_cons, List.take_zero, List.take_nil, List.map_cons, List.map_nil, List.set_cons_zero, List.set_cons_succ, List.cons_append, List.nil_append, encTag, encObj, encStr]; rfl) rfl | exact opd_loadn_pad rfl Try.isAgg35 Try.sizeOf35 rfl (by first | omega | assumption) (by simp only [List.drop_succ_cons, List.drop_zero, List.take_succ_cons, List.take_zero, List.take_nil, List.map_cons, List.map_nil, List.set_cons_zero, List.set_cons_succ, List.cons_append, List.nil_append, encTag, encObj, encStr]; rfl) rfl)) ?_)
    all_goals (first | refine al_off rfl rfl rfl rfl rfl ?_ | refine al_offu rfl rfl rfl rfl ?_ | refine al_ond rfl rfl rfl rfl rfl rfl (by exact (by first | exact opd_field_ref rfl fo38_2 rfl rfl rfl rfl | exact opd_field_pad rfl fo38_2 rfl rfl)) ?_)
    all_goals (first | refine al_off rfl rfl rfl rfl rfl ?_ | refine al_offu rfl rfl rfl rfl ?_ | refine al_ond rfl rfl rfl rfl rfl rfl (by exact (by first | exact opd_loadn_ref rfl Try.isAgg35 Try.sizeOf35 rfl rfl rfl rfl (by simp only [List.drop_succ_cons, List.drop_zero, List.take_succ_cons, List.take_zero, List.take_nil, List.map_cons, List.map_nil, List.set_cons_zero, List.set_cons_succ, List.cons_append, List.nil_append, encTag, encObj, encStr]; rfl) rfl | exact opd_loadn_pad rfl Try.isAgg35 Try.sizeOf35 rfl (by first | omega | assumption) (by simp only [List.drop_succ_cons, List.drop_zero, List.take_succ_cons, List.take_zero, List.take_nil, List.map_cons, List.map_nil, List.set_cons_zero, List.set_cons_succ, List.cons_append, List.nil_append, encTag, encObj, encStr]; rfl) rfl)) ?_)
    all_goals (first | refine al_off rfl rfl rfl rfl rfl ?_ | refine al_offu rfl rfl rfl rfl ?_ | refine al_ond rfl rfl rfl rfl rfl rfl (by exact opd_aneq rfl rfl rfl rfl rfl Try.eqGuardType35 (se35 _ _ _ _)) ?_)
    all_goals (refine al_d rfl rfl rfl (by exact (by first | exact opd_pick_t rfl rfl rfl | exact opd_pick_f rfl rfl rfl | exact opd_pickt rfl rfl (by assumption) rfl | exact opd_pickf rfl rfl (by assumption) rfl | exact opd_pick rfl rfl rfl)) ?_)
    all_goals (refine al_d rfl rfl rfl (by exact opd_move rfl rfl) ?_)
    all_goals (first | refine al_split (t := 26) rfl (fun h26 => ?_) (fun h26 => ?_) | refine al_dup (t := 26) rfl ?_ | skip)
    all_goals (try contradiction)
    all_goals (first | refine al_off rfl rfl rfl rfl rfl ?_ | refine al_offu rfl rfl rfl rfl ?_ | refine al_ond rfl rfl rfl rfl rfl rfl (by exact (by first | exact opd_field_ref rfl fo38_3 rfl rfl rfl rfl | exact opd_field_pad rfl fo38_3 rfl rfl)) ?_)
    all_goals (first | refine al_off rfl rfl rfl rfl rfl ?_ | refine al_offu rfl rfl rfl rfl ?_ | refine al_ond rfl rfl rfl rfl rfl rfl (by exact (by first | exact opd_load1_ref rfl Try.isAgg28 rfl rfl rfl rfl rfl | exact opd_load1_pad rfl Try.isAgg28 rfl (by first | omega | assumption) rfl)) ?_)
    all_goals (first | refine al_off rfl rfl rfl rfl rfl ?_ | refine al_offu rfl rfl rfl rfl ?_ | refine al_ond rfl rfl rfl rfl rfl rfl (by exact (by first | exact opd_len_sl rfl Try.underlying28 rfl | exact opd_len_osl rfl Try.underlying28 rfl rfl rfl)) ?_)
    all_goals (first | refine al_off rfl rfl rfl rfl rfl ?_ | refine al_offu rfl rfl rfl rfl ?_ | refine al_ond rfl rfl rfl rfl rfl rfl (by exact (by first | exact opd_field_ref rfl fo38_3 rfl rfl rfl rfl | exact opd_field_pad rfl fo38_3 rfl rfl)) ?_)
    all_goals (first | refine al_off rfl rfl rfl rfl rfl ?_ | refine al_offu rfl rfl rfl rfl ?_ | refine al_ond rfl rfl rfl rfl rfl rfl (by exact (by first | exact opd_load1_ref rfl Try.isAgg28 rfl rfl rfl rfl rfl | exact opd_load1_pad rfl Try.isAgg28 rfl (by first | omega | assumption) rfl)) ?_)
    all_goals (first | refine al_off rfl rfl rfl rfl rfl ?_ | refine al_offu rfl rfl rfl rfl ?_ | refine al_ond rfl rfl rfl rfl rfl rfl (by exact (by first | exact opd_len_sl rfl Try.underlying28 rfl | exact opd_len_osl rfl Try.underlying28 rfl rfl rfl)) ?_)
    all_goals (first | refine al_off rfl rfl rfl rfl rfl ?_ | refine al_offu rfl rfl rfl rfl ?_ | refine al_ond rfl rfl rfl rfl rfl rfl (by exact opd_neq rfl rfl rfl) ?_)
    all_goals (refine al_d rfl rfl rfl (by exact (by first | exact opd_pick_t rfl rfl rfl | exact opd_pick_f rfl rfl rfl | exact opd_pickt rfl rfl (by assumption) rfl | exact opd_pickf rfl rfl (by assumption) rfl | exact opd_pick rfl rfl rfl)) ?_)
    all_goals (refine al_d rfl rfl rfl (by exact opd_move rfl rfl) ?_)
    all_goals (first | refine al_split (t := 35) rfl (fun h35 => ?_) (fun h35 => ?_) | refine al_dup (t := 35) rfl ?_ | skip)
    all_goals (try contradiction)
    all_goals (first | refine al_off rfl rfl rfl rfl rfl ?_ | refine al_offu rfl rfl rfl rfl ?_ | refine al_ond rfl rfl rfl rfl rfl rfl (by exact (by first | exact opd_field_ref rfl fo38_4 rfl rfl rfl rfl | exact opd_field_pad rfl fo38_4 rfl rfl)) ?_)
    all_goals (first | refine al_off rfl rfl rfl rfl rfl ?_ | refine al_offu rfl rfl rfl rfl ?_ | refine al_ond rfl rfl rfl rfl rfl rfl (by exact (by first | exact opd_load1_ref rfl Try.isAgg36 rfl rfl rfl rfl rfl | exact opd_load1_pad rfl Try.isAgg36 rfl (by first | omega | assumption) rfl)) ?_)
    all_goals (first | refine al_off rfl rfl rfl rfl rfl ?_ | refine al_offu rfl rfl rfl rfl ?_ | refine al_ond rfl rfl rfl rfl rfl rfl (by exact (by first | exact opd_len_sl rfl Try.underlying36 rfl | exact opd_len_osl rfl Try.underlying36 rfl rfl rfl)) ?_)
    all_goals (first | refine al_off rfl rfl rfl rfl rfl ?_ | refine al_offu rfl rfl rfl rfl ?_ | refine al_ond rfl rfl rfl rfl rfl rfl (by exact (by first | exact opd_field_ref rfl fo38_4 rfl rfl rfl rfl | exact opd_field_pad rfl fo38_4 rfl rfl)) ?_)
    all_goals (first | refine al_off rfl rfl rfl rfl rfl ?_ | refine al_offu rfl rfl rfl rfl ?_ | refine al_ond rfl rfl rfl rfl rfl rfl (by exact (by first | exact opd_load1_ref rfl Try.isAgg36 rfl rfl rfl rfl rfl | exact opd_load1_pad rfl Try.isAgg36 rfl (by first | omega | assumption) rfl)) ?_)
    all_goals (first | refine al_off rfl rfl rfl rfl rfl ?_ | refine al_offu rfl rfl rfl rfl ?_ | refine al_ond rfl rfl rfl rfl rfl rfl (by exact (by first | exact opd_len_sl rfl Try.underlying36 rfl | exact opd_len_osl rfl Try.underlying36 rfl rfl rfl)) ?_)
    all_goals (first | refine al_off rfl rfl rfl rfl rfl ?_ | refine al_offu rfl rfl rfl rfl ?_ | refine al_ond rfl rfl rfl rfl rfl rfl (by exact opd_neq rfl rfl rfl) ?_)
    all_goals (refine al_d rfl rfl rfl (by exact (by first | exact opd_pick_t rfl rfl rfl | exact opd_pick_f rfl rfl rfl | exact opd_pickt rfl rfl (by assumption) rfl | exact opd_pickf rfl rfl (by assumption) rfl | exact opd_pick rfl rfl rfl)) ?_)
    all_goals (refine al_nil ?_)
    all_goals (exact ⟨⟨_, rfl, by first | rfl | (simp only [headNe, *]; rfl) | (simp_all [headNe]; done)⟩, rfl, rfl, rfl⟩)
  refine awp_cond rfl (fun hc1 => ?_) (fun hc1 => ?_)
  -- cond 1
  · rw [headNe_eq] at hc1
    refine awp_seq ?_
    refine awp_region ?_
    refine al_d rfl rfl rfl (by exact opd_assign rfl rfl) ?_
    refine al_nil ?_
    refine awp_ret ?_
    -- return
    refine aret1 (H' := []) (by first | exact .inr rfl | exact .inl rfl) rfl (rval_tmp rfl) (Fin.wk (by simp) trivial trivial) ?_
    refine ⟨?_, rfl⟩
    have : headEq a b = false := by simpa using hc1
    rw [gSameO, this]; rfl
  · rw [headNe_eq] at hc1
    have hh : headEq a b = true := by simpa using hc1
    have hlens : a.refs.length = b.refs.length ∧ a.tags.length = b.tags.length := by
      simp only [headEq, Bool.and_eq_true, decide_eq_true_eq] at hh
      exact ⟨hh.1.2, hh.2⟩
    obtain ⟨hl1, hl2⟩ := hlens
    rw [gSameO, hh, Bool.true_and]
    refine awp_skip ?_
    refine awp_seq ?_
    refine awp_seq ?_
    refine awp_region ?_
    refine al_d rfl rfl rfl (by exact opd_assign rfl rfl) ?_
    refine al_nil ?_
    refine awp_block ?_
    -- loop
    refine awp_loop (σ := Nat) (fun k => ([(2, .ref 2 0 0 0), (3, .ref 3 0 0 0), (5, iv (k : Int))], [(3, bx 6 38 ((encObj b).map .pv)), (2, bx 6 38 ((encObj a).map .pv))])) (fun k => k ≤ a.refs.length ∧ ∀ j, j < k → ∀ x y, a.refs[j]? = some x → b.refs[j]? = some y → strEq x y = true) (fun k => a.refs.length - k) 0 ⟨by omega, by omega⟩ ?_ ?_
    · exact (Ent.wk ⟨⟨_, rfl, rfl⟩, (by first | (simp; done) | (simp; rfl) | exact clo_map _ _ _), ⟨_, rfl, rfl⟩, (by first | (simp; done) | (simp; rfl) | exact clo_map _ _ _), ⟨_, rfl, rfl⟩, (by first | (simp; done) | (simp; rfl) | exact clo_map _ _ _), trivial⟩ ⟨⟨_, rfl, rfl⟩, (by first | (simp; done) | (simp; rfl) | exact clo_map _ _ _), ⟨_, rfl, rfl⟩, (by first | (simp; done) | (simp; rfl) | exact clo_map _ _ _), trivial⟩ trivial)
    · rintro k ⟨hk, hall⟩
      refine awp_seq ?_
      refine awp_seq ?_
      refine awp_region ?_
      refine al_d rfl rfl rfl (by exact opd_move rfl rfl) ?_
      refine al_d rfl rfl rfl (by exact (by first | exact opd_field_ref rfl fo38_3 rfl rfl rfl rfl | exact opd_field_pad rfl fo38_3 rfl rfl)) ?_
      refine al_d rfl rfl rfl (by exact (by first | exact opd_load1_ref rfl Try.isAgg28 rfl rfl rfl rfl rfl | exact opd_load1_pad rfl Try.isAgg28 rfl (by first | omega | assumption) rfl)) ?_
      refine al_d rfl rfl rfl (by exact (by first | exact opd_len_sl rfl Try.underlying28 rfl | exact opd_len_osl rfl Try.underlying28 rfl rfl rfl)) ?_
      refine al_d rfl rfl rfl (by exact opd_lss rfl rfl rfl) ?_
      refine al_nil ?_
      refine awp_cond rfl (fun hc2 => ?_) (fun hc2 => ?_)
      -- cond 2
      · have hlt : k < a.refs.length := by have := of_decide_eq_true hc2; omega
        obtain ⟨x, hx⟩ := get_of_lt hlt
        obtain ⟨y, hy⟩ := get_of_lt (l := b.refs) (k := k) (by omega)
        have hi := map_get (f := encStr) hx
        have hi2 := map_get (f := encStr) hy
        refine awp_skip ?_
        refine awp_seq ?_
        refine awp_block ?_
        refine awp_seq ?_
        refine awp_drawc follows ?_
        refine dc_cons (DStep.q rfl (by exact (by first | exact opd_field_ref rfl fo38_3 rfl rfl rfl rfl | exact opd_field_pad rfl fo38_3 rfl rfl))) rfl ?_
        refine dc_cons (DStep.q rfl (by exact (by first | exact opd_load1_ref rfl Try.isAgg28 rfl rfl rfl rfl rfl | exact opd_load1_pad rfl Try.isAgg28 rfl (by first | omega | assumption) rfl))) rfl ?_
        refine dc_cons (DStep.q rfl (by exact opd_move rfl rfl)) rfl ?_
        refine dc_cons (DStep.q rfl (by exact (by first | exact x_index_pad rfl so28 rfl rfl (by omega) (by first | exact Int.toNat_natCast _ | rfl) (by assumption) rfl | exact x_index_osl rfl so28 rfl rfl rfl rfl rfl (by omega) (by first | exact Int.toNat_natCast _ | rfl) (by first | omega | assumption) rfl))) rfl ?_
        refine dc_cons (DStep.q rfl (by exact (by first | exact opd_load1_ref rfl Try.isAgg9 rfl rfl rfl rfl rfl | exact opd_load1_pad rfl Try.isAgg9 rfl (by first | omega | assumption) rfl))) rfl ?_
        refine dc_cons (DStep.q rfl (by exact (by first | exact opd_field_ref rfl fo38_3 rfl rfl rfl rfl | exact opd_field_pad rfl fo38_3 rfl rfl))) rfl ?_
        refine dc_cons (DStep.q rfl (by exact (by first | exact opd_load1_ref rfl Try.isAgg28 rfl rfl rfl rfl rfl | exact opd_load1_pad rfl Try.isAgg28 rfl (by first | omega | assumption) rfl))) rfl ?_
        refine dc_cons (DStep.q rfl (by exact opd_move rfl rfl)) rfl ?_
        refine dc_cons (DStep.q rfl (by exact (by first | exact x_index_pad rfl so28 rfl rfl (by omega) (by first | exact Int.toNat_natCast _ | rfl) (by assumption) rfl | exact x_index_osl rfl so28 rfl rfl rfl rfl rfl (by omega) (by first | exact Int.toNat_natCast _ | rfl) (by first | omega | assumption) rfl))) rfl ?_
        refine dc_cons (DStep.q rfl (by exact (by first | exact opd_load1_ref rfl Try.isAgg9 rfl rfl rfl rfl rfl | exact opd_load1_pad rfl Try.isAgg9 rfl (by first | omega | assumption) rfl))) rfl ?_
        refine dc_cons (DStep.q rfl (by exact opd_sneq rfl rfl rfl)) rfl ?_
        refine dc_nil ⟨by kernel_rfl, ?_⟩
        refine awp_cond rfl (fun hc3 => ?_) (fun hc3 => ?_)
        -- cond 3
        · have ht : strEq x y = false := by
            have h : (!strEq x y) = true := hc3
            simpa using h
          refine awp_seq ?_
          refine awp_region ?_
          refine al_d rfl rfl rfl (by exact opd_assign rfl rfl) ?_
          refine al_nil ?_
          refine awp_ret ?_
          -- return
          refine aret1 (H' := []) (by first | exact .inr rfl | exact .inl rfl) rfl (rval_tmp rfl) (Fin.wk (by simp) trivial trivial) ?_
          exact ⟨by rw [eqTo_bad hx hy ht]; rfl, rfl⟩
        · have ht : strEq x y = true := by
            have h : (!strEq x y) = false := hc3
            simpa using h
          refine awp_skip ?_
          refine awp_region ?_
          refine al_d rfl rfl rfl (by exact opd_move rfl rfl) ?_
          refine al_d rfl rfl rfl (by exact opd_add rfl rfl rfl (by first | exact w64 (by omega) (by omega) | exact wu8 (by omega) (by omega) | rfl)) ?_
          refine al_d rfl rfl rfl (by exact opd_assign rfl rfl) ?_
          refine al_nil ?_
          -- end of a round
          refine ⟨k + 1, ⟨by omega, fun j hj x' y' h1 h2 => ?_⟩, by omega, (Ent.wk ⟨⟨_, rfl, rfl⟩, (by first | (simp; done) | (simp; rfl) | exact clo_map _ _ _), ⟨_, rfl, rfl⟩, (by first | (simp; done) | (simp; rfl) | exact clo_map _ _ _), ⟨_, rfl, rfl⟩, (by first | (simp; done) | (simp; rfl) | exact clo_map _ _ _), trivial⟩ ⟨⟨_, rfl, rfl⟩, (by first | (simp; done) | (simp; rfl) | exact clo_map _ _ _), ⟨_, rfl, rfl⟩, (by first | (simp; done) | (simp; rfl) | exact clo_map _ _ _), trivial⟩ trivial)⟩
          by_cases e : j = k
          · subst e; rw [hx] at h1; rw [hy] at h2; cases h1; cases h2; exact ht
          · exact hall j (by omega) x' y' h1 h2
      · have hge : k = a.refs.length := by have := of_decide_eq_false hc2; omega
        subst hge
        rw [eqTo_good hl1 hall, Bool.true_and]
        refine awp_exit ?_
        refine awp_seq ?_
        refine awp_seq ?_
        refine awp_region ?_
        refine al_d rfl rfl rfl (by exact opd_assign rfl rfl) ?_
        refine al_nil ?_
        refine awp_block ?_
        -- loop
        refine awp_loop (σ := Nat) (fun k => ([(2, .ref 2 0 0 0), (3, .ref 3 0 0 0), (6, iv (k : Int))], [(3, bx 6 38 ((encObj b).map .pv)), (2, bx 6 38 ((encObj a).map .pv))])) (fun k => k ≤ a.tags.length ∧ ∀ j, j < k → ∀ x y, a.tags[j]? = some x → b.tags[j]? = some y → tagEq x y = true) (fun k => a.tags.length - k) 0 ⟨by omega, by omega⟩ ?_ ?_
        · exact (Ent.wk ⟨⟨_, rfl, rfl⟩, (by first | (simp; done) | (simp; rfl) | exact clo_map _ _ _), ⟨_, rfl, rfl⟩, (by first | (simp; done) | (simp; rfl) | exact clo_map _ _ _), ⟨_, rfl, rfl⟩, (by first | (simp; done) | (simp; rfl) | exact clo_map _ _ _), trivial⟩ ⟨⟨_, rfl, rfl⟩, (by first | (simp; done) | (simp; rfl) | exact clo_map _ _ _), ⟨_, rfl, rfl⟩, (by first | (simp; done) | (simp; rfl) | exact clo_map _ _ _), trivial⟩ trivial)
        · rintro k ⟨hk, hall2⟩
          refine awp_seq ?_
          refine awp_seq ?_
          refine awp_region ?_
          refine al_d rfl rfl rfl (by exact opd_move rfl rfl) ?_
          refine al_d rfl rfl rfl (by exact (by first | exact opd_field_ref rfl fo38_4 rfl rfl rfl rfl | exact opd_field_pad rfl fo38_4 rfl rfl)) ?_
          refine al_d rfl rfl rfl (by exact (by first | exact opd_load1_ref rfl Try.isAgg36 rfl rfl rfl rfl rfl | exact opd_load1_pad rfl Try.isAgg36 rfl (by first | omega | assumption) rfl)) ?_
          refine al_d rfl rfl rfl (by exact (by first | exact opd_len_sl rfl Try.underlying36 rfl | exact opd_len_osl rfl Try.underlying36 rfl rfl rfl)) ?_
          refine al_d rfl rfl rfl (by exact opd_lss rfl rfl rfl) ?_
          refine al_nil ?_
          refine awp_cond rfl (fun hc4 => ?_) (fun hc4 => ?_)
          -- cond 4
          · have hlt : k < a.tags.length := by have := of_decide_eq_true hc4; omega
            obtain ⟨x, hx⟩ := get_of_lt hlt
            obtain ⟨y, hy⟩ := get_of_lt (l := b.tags) (k := k) (by omega)
            have hi := map_get (f := encTag) hx
            have hi2 := map_get (f := encTag) hy
            refine awp_skip ?_
            refine awp_seq ?_
            refine awp_block ?_
            refine awp_seq ?_
            refine awp_drawc follows ?_
            refine dc_cons (DStep.q rfl (by exact (by first | exact opd_field_ref rfl fo38_4 rfl rfl rfl rfl | exact opd_field_pad rfl fo38_4 rfl rfl))) rfl ?_
            refine dc_cons (DStep.q rfl (by exact (by first | exact opd_load1_ref rfl Try.isAgg36 rfl rfl rfl rfl rfl | exact opd_load1_pad rfl Try.isAgg36 rfl (by first | omega | assumption) rfl))) rfl ?_
            refine dc_cons (DStep.q rfl (by exact opd_move rfl rfl)) rfl ?_
            refine dc_cons (DStep.q rfl (by exact (by first | exact x_index_pad rfl so36 rfl rfl (by omega) (by first | exact Int.toNat_natCast _ | rfl) (by assumption) rfl | exact x_index_osl rfl so36 rfl rfl rfl rfl rfl (by omega) (by first | exact Int.toNat_natCast _ | rfl) (by first | omega | assumption) rfl))) rfl ?_
            refine dc_cons (DStep.q rfl (by exact (by first | exact opd_loadn_ref rfl Try.isAgg72 Try.sizeOf72 rfl rfl rfl rfl (by simp only [List.drop_succ_cons, List.drop_zero, List.take_succ_cons, List.take_zero, List.take_nil, List.map_cons, List.map_nil, List.set_cons_zero, List.set_cons_succ, List.cons_append, List.nil_append, encTag, encObj, encStr]; rfl) rfl | exact opd_loadn_pad rfl Try.isAgg72 Try.sizeOf72 rfl (by first | omega | assumption) (by simp only [List.drop_succ_cons, List.drop_zero, List.take_succ_cons, List.take_zero, List.take_nil, List.map_cons, List.map_nil, List.set_cons_zero, List.set_cons_succ, List.cons_append, List.nil_append, encTag, encObj, encStr]; rfl) rfl))) rfl ?_
            refine dc_cons (DStep.q rfl (by exact (by first | exact opd_field_ref rfl fo38_4 rfl rfl rfl rfl | exact opd_field_pad rfl fo38_4 rfl rfl))) rfl ?_
            refine dc_cons (DStep.q rfl (by exact (by first | exact opd_load1_ref rfl Try.isAgg36 rfl rfl rfl rfl rfl | exact opd_load1_pad rfl Try.isAgg36 rfl (by first | omega | assumption) rfl))) rfl ?_
            refine dc_cons (DStep.q rfl (by exact opd_move rfl rfl)) rfl ?_
            refine dc_cons (DStep.q rfl (by exact (by first | exact x_index_pad rfl so36 rfl rfl (by omega) (by first | exact Int.toNat_natCast _ | rfl) (by assumption) rfl | exact x_index_osl rfl so36 rfl rfl rfl rfl rfl (by omega) (by first | exact Int.toNat_natCast _ | rfl) (by first | omega | assumption) rfl))) rfl ?_
            refine dc_cons (DStep.q rfl (by exact (by first | exact opd_loadn_ref rfl Try.isAgg72 Try.sizeOf72 rfl rfl rfl rfl (by simp only [List.drop_succ_cons, List.drop_zero, List.take_succ_cons, List.take_zero, List.take_nil, List.map_cons, List.map_nil, List.set_cons_zero, List.set_cons_succ, List.cons_append, List.nil_append, encTag, encObj, encStr]; rfl) rfl | exact opd_loadn_pad rfl Try.isAgg72 Try.sizeOf72 rfl (by first | omega | assumption) (by simp only [List.drop_succ_cons, List.drop_zero, List.take_succ_cons, List.take_zero, List.take_nil, List.map_cons, List.map_nil, List.set_cons_zero, List.set_cons_succ, List.cons_append, List.nil_append, encTag, encObj, encStr]; rfl) rfl))) rfl ?_
            refine dc_cons (DStep.q rfl (by exact opd_aneq rfl rfl rfl rfl rfl Try.eqGuardType72 (se72 _ _ _ _))) rfl ?_
            refine dc_nil ⟨by kernel_rfl, ?_⟩
            refine awp_cond rfl (fun hc5 => ?_) (fun hc5 => ?_)
            -- cond 5
            · have ht : tagEq x y = false := by
                have h : (!tagEq x y) = true := hc5
                simpa using h
              refine awp_seq ?_
              refine awp_region ?_
              refine al_d rfl rfl rfl (by exact opd_assign rfl rfl) ?_
              refine al_nil ?_
              refine awp_ret ?_
              -- return
              refine aret1 (H' := []) (by first | exact .inr rfl | exact .inl rfl) rfl (rval_tmp rfl) (Fin.wk (by simp) trivial trivial) ?_
              exact ⟨by rw [eqTo_bad hx hy ht], rfl⟩
            · have ht : tagEq x y = true := by
                have h : (!tagEq x y) = false := hc5
                simpa using h
              refine awp_skip ?_
              refine awp_region ?_
              refine al_d rfl rfl rfl (by exact opd_move rfl rfl) ?_
              refine al_d rfl rfl rfl (by exact opd_add rfl rfl rfl (by first | exact w64 (by omega) (by omega) | exact wu8 (by omega) (by omega) | rfl)) ?_
              refine al_d rfl rfl rfl (by exact opd_assign rfl rfl) ?_
              refine al_nil ?_
              -- end of a round
              refine ⟨k + 1, ⟨by omega, fun j hj x' y' h1 h2 => ?_⟩, by omega, (Ent.wk ⟨⟨_, rfl, rfl⟩, (by first | (simp; done) | (simp; rfl) | exact clo_map _ _ _), ⟨_, rfl, rfl⟩, (by first | (simp; done) | (simp; rfl) | exact clo_map _ _ _), ⟨_, rfl, rfl⟩, (by first | (simp; done) | (simp; rfl) | exact clo_map _ _ _), trivial⟩ ⟨⟨_, rfl, rfl⟩, (by first | (simp; done) | (simp; rfl) | exact clo_map _ _ _), ⟨_, rfl, rfl⟩, (by first | (simp; done) | (simp; rfl) | exact clo_map _ _ _), trivial⟩ trivial)⟩
              by_cases e : j = k
              · subst e; rw [hx] at h1; rw [hy] at h2; cases h1; cases h2; exact ht
              · exact hall2 j (by omega) x' y' h1 h2
          · have hge : k = a.tags.length := by have := of_decide_eq_false hc4; omega
            subst hge
            refine awp_exit ?_
            refine awp_seq ?_
            refine awp_region ?_
            refine al_d rfl rfl rfl (by exact opd_assign rfl rfl) ?_
            refine al_nil ?_
            refine awp_ret ?_
            -- return
            refine aret1 (H' := []) (by first | exact .inr rfl | exact .inl rfl) rfl (rval_tmp rfl) (Fin.wk (by simp) trivial trivial) ?_
            exact ⟨by rw [eqTo_good hl2 hall2], rfl⟩
def gSameM (a b : List GObj) : Bool := eqTo gSameO a b
theorem gSameM_iff {a b : List GObj} : gSameM a b = true ↔ a = b := eqTo_iff (fun _ _ => gSameO_iff)
def okL (m : List GObj) : Prop := m.length < 4611686018427387904 ∧ ∀ o ∈ m, o.refs.length < 4611686018427387904 ∧ o.tags.length < 4611686018427387904
theorem same12_c (a b : List GObj) (H : Heap) (ha : okL a) : ACalls Try.prog 17 [.agg [.pv (slObjs a)], .agg [.pv (slObjs b)]] H (fun r H' => r = bv (gSameM a b) ∧ H' = H) := by
  refine ACalls.pure ?_ (by simp) H
  have hma : (a.map encObj).length = a.length := List.length_map _
  have hmb : (b.map encObj).length = b.length := List.length_map _
  have hl := ha.1
  rw [gSameM]
  refine ACalls.body Try.func17 rfl Try.ntmps17 (Nat.le_of_ble_eq_true rfl) ?_
  refine awp_seq ?_
  refine awp_region ?_
  refine al_d rfl rfl rfl (by exact opd_box (id := 2) rfl rfl rfl rfl rfl) ?_
  refine al_d rfl rfl rfl (by exact opd_box (id := 3) rfl rfl rfl rfl rfl) ?_
  refine al_d rfl rfl rfl (by exact opd_assign rfl rfl) ?_
  refine al_nil ?_
  refine awp_seq ?_
  refine awp_seq ?_
  refine awp_region ?_
  refine al_d rfl rfl rfl (by exact (by first | exact opd_field_ref rfl fo24_0 rfl rfl rfl rfl | exact opd_field_pad rfl fo24_0 rfl rfl)) ?_
  refine al_d rfl rfl rfl (by exact (by first | exact opd_load1_ref rfl Try.isAgg22 rfl rfl rfl rfl rfl | exact opd_load1_pad rfl Try.isAgg22 rfl (by first | omega | assumption) rfl)) ?_
  refine al_d rfl rfl rfl (by exact (by first | exact opd_len_sl rfl Try.underlying22 rfl | exact opd_len_osl rfl Try.underlying22 rfl rfl rfl)) ?_
  refine al_d rfl rfl rfl (by exact (by first | exact opd_field_ref rfl fo24_0 rfl rfl rfl rfl | exact opd_field_pad rfl fo24_0 rfl rfl)) ?_
  refine al_d rfl rfl rfl (by exact (by first | exact opd_load1_ref rfl Try.isAgg22 rfl rfl rfl rfl rfl | exact opd_load1_pad rfl Try.isAgg22 rfl (by first | omega | assumption) rfl)) ?_
  refine al_d rfl rfl rfl (by exact (by first | exact opd_len_sl rfl Try.underlying22 rfl | exact opd_len_osl rfl Try.underlying22 rfl rfl rfl)) ?_
  refine al_d rfl rfl rfl (by exact opd_neq rfl rfl rfl) ?_
  refine al_nil ?_
  refine awp_cond rfl (fun hc1 => ?_) (fun hc1 => ?_)
  -- cond 1
  · have hne : ¬ a.length = b.length := by
      simp only [hma, hmb, Bool.not_eq_true', decide_eq_false_iff_not] at hc1
      omega
    refine awp_seq ?_
    refine awp_region ?_
    refine al_d rfl rfl rfl (by exact opd_assign rfl rfl) ?_
    refine al_nil ?_
    refine awp_ret ?_
    -- return
    refine aret1 (H' := []) (by first | exact .inr rfl | exact .inl rfl) rfl (rval_tmp rfl) (Fin.wk (by simp) trivial trivial) ?_
    exact ⟨by rw [eqTo_len hne], rfl⟩
  · have heq : a.length = b.length := by
      simp only [hma, hmb, Bool.not_eq_false', decide_eq_true_eq] at hc1
      omega
    refine awp_skip ?_
    refine awp_seq ?_
    refine awp_seq ?_
    refine awp_region ?_
    refine al_d rfl rfl rfl (by exact opd_assign rfl rfl) ?_
    refine al_nil ?_
    refine awp_block ?_
    -- loop
    refine awp_loop (σ := Nat) (fun k => ([(2, .ref 2 0 0 0), (3, .ref 3 0 0 0), (5, iv (k : Int))], [(3, bx 1 24 [.pv (slObjs b)]), (2, bx 1 24 [.pv (slObjs a)])])) (fun k => k ≤ a.length ∧ ∀ j, j < k → ∀ x y, a[j]? = some x → b[j]? = some y → gSameO x y = true) (fun k => a.length - k) 0 ⟨by omega, by omega⟩ ?_ ?_
    · exact (Ent.wk ⟨⟨_, rfl, rfl⟩, (by first | (simp; done) | (simp; rfl) | exact clo_map _ _ _), ⟨_, rfl, rfl⟩, (by first | (simp; done) | (simp; rfl) | exact clo_map _ _ _), ⟨_, rfl, rfl⟩, (by first | (simp; done) | (simp; rfl) | exact clo_map _ _ _), trivial⟩ ⟨⟨_, rfl, rfl⟩, (by first | (simp; done) | (simp; rfl) | exact clo_map _ _ _), ⟨_, rfl, rfl⟩, (by first | (simp; done) | (simp; rfl) | exact clo_map _ _ _), trivial⟩ trivial)
    · rintro k ⟨hk, hall⟩
      refine awp_seq ?_
      refine awp_seq ?_
      refine awp_region ?_
      refine al_d rfl rfl rfl (by exact opd_move rfl rfl) ?_
      refine al_d rfl rfl rfl (by exact (by first | exact opd_field_ref rfl fo24_0 rfl rfl rfl rfl | exact opd_field_pad rfl fo24_0 rfl rfl)) ?_
      refine al_d rfl rfl rfl (by exact (by first | exact opd_load1_ref rfl Try.isAgg22 rfl rfl rfl rfl rfl | exact opd_load1_pad rfl Try.isAgg22 rfl (by first | omega | assumption) rfl)) ?_
      refine al_d rfl rfl rfl (by exact (by first | exact opd_len_sl rfl Try.underlying22 rfl | exact opd_len_osl rfl Try.underlying22 rfl rfl rfl)) ?_
      refine al_d rfl rfl rfl (by exact opd_lss rfl rfl rfl) ?_
      refine al_nil ?_
      refine awp_cond rfl (fun hc2 => ?_) (fun hc2 => ?_)
      -- cond 2
      · have hlt : k < a.length := by have := of_decide_eq_true hc2; omega
        obtain ⟨x, hx⟩ := get_of_lt hlt
        obtain ⟨y, hy⟩ := get_of_lt (l := b) (k := k) (by omega)
        have hi := map_get (f := encObj) hx
        have hi2 := map_get (f := encObj) hy
        have hox := ha.2 x (List.mem_of_getElem? hx)
        refine awp_skip ?_
        refine awp_seq ?_
        refine awp_block ?_
        refine awp_seq ?_
        refine awp_drawc follows ?_
        refine dc_cons (DStep.q rfl (by exact (by first | exact opd_field_ref rfl fo24_0 rfl rfl rfl rfl | exact opd_field_pad rfl fo24_0 rfl rfl))) rfl ?_
        refine dc_cons (DStep.q rfl (by exact (by first | exact opd_load1_ref rfl Try.isAgg22 rfl rfl rfl rfl rfl | exact opd_load1_pad rfl Try.isAgg22 rfl (by first | omega | assumption) rfl))) rfl ?_
        refine dc_cons (DStep.q rfl (by exact opd_move rfl rfl)) rfl ?_
        refine dc_cons (DStep.q rfl (by exact (by first | exact x_index_pad rfl so22 rfl rfl (by omega) (by first | exact Int.toNat_natCast _ | rfl) (by assumption) rfl | exact x_index_osl rfl so22 rfl rfl rfl rfl rfl (by omega) (by first | exact Int.toNat_natCast _ | rfl) (by first | omega | assumption) rfl))) rfl ?_
        refine dc_cons (DStep.q rfl (by exact (by first | exact opd_loadn_ref rfl Try.isAgg38 Try.sizeOf38 rfl rfl rfl rfl (by simp only [List.drop_succ_cons, List.drop_zero, List.take_succ_cons, List.take_zero, List.take_nil, List.map_cons, List.map_nil, List.set_cons_zero, List.set_cons_succ, List.cons_append, List.nil_append, encTag, encObj, encStr]; rfl) rfl | exact opd_loadn_pad rfl Try.isAgg38 Try.sizeOf38 rfl (by first | omega | assumption) (by simp only [List.drop_succ_cons, List.drop_zero, List.take_succ_cons, List.take_zero, List.take_nil, List.map_cons, List.map_nil, List.set_cons_zero, List.set_cons_succ, List.cons_append, List.nil_append, encTag, encObj, encStr]; rfl) rfl))) rfl ?_
        refine dc_cons (DStep.q rfl (by exact (by first | exact opd_field_ref rfl fo24_0 rfl rfl rfl rfl | exact opd_field_pad rfl fo24_0 rfl rfl))) rfl ?_
        refine dc_cons (DStep.q rfl (by exact (by first | exact opd_load1_ref rfl Try.isAgg22 rfl rfl rfl rfl rfl | exact opd_load1_pad rfl Try.isAgg22 rfl (by first | omega | assumption) rfl))) rfl ?_
        refine dc_cons (DStep.q rfl (by exact opd_move rfl rfl)) rfl ?_
        refine dc_cons (DStep.q rfl (by exact (by first | exact x_index_pad rfl so22 rfl rfl (by omega) (by first | exact Int.toNat_natCast _ | rfl) (by assumption) rfl | exact x_index_osl rfl so22 rfl rfl rfl rfl rfl (by omega) (by first | exact Int.toNat_natCast _ | rfl) (by first | omega | assumption) rfl))) rfl ?_
        refine dc_cons (DStep.q rfl (by exact (by first | exact opd_loadn_ref rfl Try.isAgg38 Try.sizeOf38 rfl rfl rfl rfl (by simp only [List.drop_succ_cons, List.drop_zero, List.take_succ_cons, List.take_zero, List.take_nil, List.map_cons, List.map_nil, List.set_cons_zero, List.set_cons_succ, List.cons_append, List.nil_append, encTag, encObj, encStr]; rfl) rfl | exact opd_loadn_pad rfl Try.isAgg38 Try.sizeOf38 rfl (by first | omega | assumption) (by simp only [List.drop_succ_cons, List.drop_zero, List.take_succ_cons, List.take_zero, List.take_nil, List.map_cons, List.map_nil, List.set_cons_zero, List.set_cons_succ, List.cons_append, List.nil_append, encTag, encObj, encStr]; rfl) rfl))) rfl ?_
        refine dc_cons (DStep.q rfl (by exact opr_call rfl rfl Try.call48 rfl (same11_c x y _ hox.1 hox.2))) rfl ?_
        refine dc_cons (DStep.q rfl (by exact opd_not rfl rfl)) rfl ?_
        refine dc_nil ⟨by kernel_rfl, ?_⟩
        refine awp_cond rfl (fun hc3 => ?_) (fun hc3 => ?_)
        -- cond 3
        · have ht : gSameO x y = false := by
            have h : (!gSameO x y) = true := hc3
            simpa using h
          refine awp_seq ?_
          refine awp_region ?_
          refine al_d rfl rfl rfl (by exact opd_assign rfl rfl) ?_
          refine al_nil ?_
          refine awp_ret ?_
          -- return
          refine aret1 (H' := []) (by first | exact .inr rfl | exact .inl rfl) rfl (rval_tmp rfl) (Fin.wk (by simp) trivial trivial) ?_
          exact ⟨by rw [eqTo_bad hx hy ht], rfl⟩
        · have ht : gSameO x y = true := by
            have h : (!gSameO x y) = false := hc3
            simpa using h
          refine awp_skip ?_
          refine awp_region ?_
          refine al_d rfl rfl rfl (by exact opd_move rfl rfl) ?_
          refine al_d rfl rfl rfl (by exact opd_add rfl rfl rfl (by first | exact w64 (by omega) (by omega) | exact wu8 (by omega) (by omega) | rfl)) ?_
          refine al_d rfl rfl rfl (by exact opd_assign rfl rfl) ?_
          refine al_nil ?_
          -- end of a round
          refine ⟨k + 1, ⟨by omega, fun j hj x' y' h1 h2 => ?_⟩, by omega, (Ent.wk ⟨⟨_, rfl, rfl⟩, (by first | (simp; done) | (simp; rfl) | exact clo_map _ _ _), ⟨_, rfl, rfl⟩, (by first | (simp; done) | (simp; rfl) | exact clo_map _ _ _), ⟨_, rfl, rfl⟩, (by first | (simp; done) | (simp; rfl) | exact clo_map _ _ _), trivial⟩ ⟨⟨_, rfl, rfl⟩, (by first | (simp; done) | (simp; rfl) | exact clo_map _ _ _), ⟨_, rfl, rfl⟩, (by first | (simp; done) | (simp; rfl) | exact clo_map _ _ _), trivial⟩ trivial)⟩
          by_cases e : j = k
          · subst e; rw [hx] at h1; rw [hy] at h2; cases h1; cases h2; exact ht
          · exact hall j (by omega) x' y' h1 h2
      · have hge : k = a.length := by have := of_decide_eq_false hc2; omega
        subst hge
        refine awp_exit ?_
        refine awp_seq ?_
        refine awp_region ?_
        refine al_d rfl rfl rfl (by exact opd_assign rfl rfl) ?_
        refine al_nil ?_
        refine awp_ret ?_
        -- return
        refine aret1 (H' := []) (by first | exact .inr rfl | exact .inl rfl) rfl (rval_tmp rfl) (Fin.wk (by simp) trivial trivial) ?_
        exact ⟨by rw [eqTo_good heq hall], rfl⟩
end Go.Proofs.Ytdgoodjhndeojaa
