/-
  CONTRACTS: object.Valid. Conditions: lengths below 2^62.
-/
import Derived.Test.YtdgoodjhndeojaaE5
set_option linter.unusedVariables false
set_option linter.unusedSimpArgs false
set_option maxRecDepth 100000
namespace Go.Proofs.Ytdgoodjhndeojaa
open Go.Abs

theorem sob_clo (L : List ByteArray) (H : Heap) : ∀ r ∈ (sob L).rows, ∀ a ∈ r, Clo H a := by
  intro r hr a ha
  obtain ⟨i, hi⟩ := List.mem_iff_getElem?.1 hr
  obtain ⟨p, hp, rfl⟩ := mrows_get.1 hi
  simp only [sets, List.getElem?_map] at hp
  obtain ⟨q, _, rfl⟩ := Option.map_eq_some_iff.1 hp
  simp only [List.mem_cons, List.not_mem_nil, or_false] at ha
  rcases ha with rfl | rfl | rfl <;> simp
def vH (o : GObj) (last : ByteArray) (L : List ByteArray) : Heap := [(37, sob L), (4, bx 1 9 [sv last]), (3, bx 1 110 [.mp 37 0]), (1, bx 6 38 ((encObj o).map .pv))]
theorem vH_clo (o : GObj) (a : ByteArray) (L : List ByteArray) (f : Nat) : Clo (vH o a L) (.clo f [.ref 1 0 0 0, .ref 4 0 0 0, .ref 3 0 0 0]) := by
  refine .clo fun x hx => ?_
  simp only [List.mem_cons, List.not_mem_nil, or_false] at hx
  rcases hx with rfl | rfl | rfl <;> exact .ref rfl
def gTwice (o : GObj) (last : ByteArray) (L : List ByteArray) (s : ByteArray) : Bool := (decide (o.kind = 2) && decide (s = last)) || (decide (o.kind = 3) && inB L s)
def gWrong (o : GObj) (last : ByteArray) (L : List ByteArray) (s : ByteArray) : Bool := gTwice o last L s || !gName s
theorem valid1_c (o : GObj) (last s : ByteArray) (L : List ByteArray) (hs : s.size < 4611686018427387904) :
    ACalls Try.prog 82 [sv s, .ref 1 0 0 0, .ref 4 0 0 0, .ref 3 0 0 0] (vH o last L) (fun r H' => r = bv (gWrong o last L s) ∧ H' = vH o s (sput L s)) := by
  unfold vH
  refine ACalls.body Try.func82 rfl Try.ntmps82 (Nat.le_of_ble_eq_true rfl) ?_
  refine awp_seq ?_
  refine awp_region ?_
  refine al_d rfl rfl rfl (by exact opd_assign rfl rfl) ?_
  refine al_nil ?_
  refine awp_seq ?_
  refine awp_bool (t := 6) (n := 22) (X := gTwice o last L s) ?_ ?_
  · all_goals (refine al_d rfl rfl rfl (by exact (by first | exact opd_field_ref rfl fo38_1 rfl rfl rfl rfl | exact opd_field_pad rfl fo38_1 rfl rfl)) ?_)
    all_goals (refine al_d rfl rfl rfl (by exact (by first | exact opd_load1_ref rfl Try.isAgg3 rfl rfl rfl rfl rfl | exact opd_load1_pad rfl Try.isAgg3 rfl (by first | omega | assumption) rfl)) ?_)
    all_goals (refine al_d rfl rfl rfl (by exact opd_eql rfl rfl rfl) ?_)
    all_goals (refine al_d rfl rfl rfl (by exact opd_move rfl rfl) ?_)
    all_goals (first | refine al_split (t := 10) rfl (fun h10 => ?_) (fun h10 => ?_) | refine al_dup (t := 10) rfl ?_ | skip)
    all_goals (try contradiction)
    all_goals (first | refine al_off rfl rfl rfl rfl rfl ?_ | refine al_offu rfl rfl rfl rfl ?_ | refine al_ond rfl rfl rfl rfl rfl rfl (by exact opd_move rfl rfl) ?_)
    all_goals (first | refine al_off rfl rfl rfl rfl rfl ?_ | refine al_offu rfl rfl rfl rfl ?_ | refine al_ond rfl rfl rfl rfl rfl rfl (by exact (by first | exact opd_load1_ref rfl Try.isAgg9 rfl rfl rfl rfl rfl | exact opd_load1_pad rfl Try.isAgg9 rfl (by first | omega | assumption) rfl)) ?_)
    all_goals (first | refine al_off rfl rfl rfl rfl rfl ?_ | refine al_offu rfl rfl rfl rfl ?_ | refine al_ond rfl rfl rfl rfl rfl rfl (by exact opd_seql rfl rfl rfl) ?_)
    all_goals (refine al_d rfl rfl rfl (by exact (by first | exact opd_pick_t rfl rfl rfl | exact opd_pick_f rfl rfl rfl | exact opd_pickt rfl rfl (by assumption) rfl | exact opd_pickf rfl rfl (by assumption) rfl | exact opd_pick rfl rfl rfl)) ?_)
    all_goals (refine al_d rfl rfl rfl (by exact opd_move rfl rfl) ?_)
    all_goals (first | refine al_split (t := 15) rfl (fun h15 => ?_) (fun h15 => ?_) | refine al_dup (t := 15) rfl ?_ | skip)
    all_goals (try contradiction)
    all_goals (first | refine al_off rfl rfl rfl rfl rfl ?_ | refine al_offu rfl rfl rfl rfl ?_ | refine al_ond rfl rfl rfl rfl rfl rfl (by exact (by first | exact opd_field_ref rfl fo38_1 rfl rfl rfl rfl | exact opd_field_pad rfl fo38_1 rfl rfl)) ?_)
    all_goals (first | refine al_off rfl rfl rfl rfl rfl ?_ | refine al_offu rfl rfl rfl rfl ?_ | refine al_ond rfl rfl rfl rfl rfl rfl (by exact (by first | exact opd_load1_ref rfl Try.isAgg3 rfl rfl rfl rfl rfl | exact opd_load1_pad rfl Try.isAgg3 rfl (by first | omega | assumption) rfl)) ?_)
    all_goals (first | refine al_off rfl rfl rfl rfl rfl ?_ | refine al_offu rfl rfl rfl rfl ?_ | refine al_ond rfl rfl rfl rfl rfl rfl (by exact opd_eql rfl rfl rfl) ?_)
    all_goals (first | refine al_off rfl rfl rfl rfl rfl ?_ | refine al_offu rfl rfl rfl rfl ?_ | refine al_ond rfl rfl rfl rfl rfl rfl (by exact opd_move rfl rfl) ?_)
    all_goals (first | refine al_split (t := 19) rfl (fun h19 => ?_) (fun h19 => ?_) | refine al_dup (t := 19) rfl ?_ | skip)
    all_goals (try contradiction)
    all_goals (first | refine al_off rfl rfl rfl rfl rfl ?_ | refine al_offu rfl rfl rfl rfl ?_ | refine al_ond rfl rfl rfl rfl rfl rfl (by exact (by first | exact opd_load1_ref rfl Try.isAgg110 rfl rfl rfl rfl rfl | exact opd_load1_pad rfl Try.isAgg110 rfl (by first | omega | assumption) rfl)) ?_)
    all_goals (first | refine al_off rfl rfl rfl rfl rfl ?_ | refine al_offu rfl rfl rfl rfl ?_ | refine al_ond rfl rfl rfl rfl rfl rfl (by exact opd_move rfl rfl) ?_)
    all_goals (first | refine al_off rfl rfl rfl rfl rfl ?_ | refine al_offu rfl rfl rfl rfl ?_ | refine al_ond rfl rfl rfl rfl rfl rfl (by exact x_lookup_set rfl Try.underlying110 Try.underlying9 rfl rfl rfl rfl rfl Try.zeroValue4 (.inl rfl)) ?_)
    all_goals (first | refine al_off rfl rfl rfl rfl rfl ?_ | refine al_offu rfl rfl rfl rfl ?_ | refine al_ond rfl rfl rfl rfl rfl rfl (by exact (by first | exact opd_pick_t rfl rfl rfl | exact opd_pick_f rfl rfl rfl | exact opd_pickt rfl rfl (by assumption) rfl | exact opd_pickf rfl rfl (by assumption) rfl | exact opd_pick rfl rfl rfl)) ?_)
    all_goals (refine al_d rfl rfl rfl (by exact (by first | exact opd_pick_t rfl rfl rfl | exact opd_pick_f rfl rfl rfl | exact opd_pickt rfl rfl (by assumption) rfl | exact opd_pickf rfl rfl (by assumption) rfl | exact opd_pick rfl rfl rfl)) ?_)
    all_goals (refine al_d rfl rfl rfl (by exact opd_assign rfl rfl) ?_)
    all_goals (refine al_nil ?_)
    all_goals (exact ⟨⟨_, rfl, by first | rfl | (simp only [gTwice, *]; rfl) | (simp_all [gTwice]; done) | (simp only [*, Bool.false_and, Bool.true_and, Bool.and_false, Bool.and_true, Bool.true_or, Bool.false_or, Bool.or_true, Bool.or_false, Bool.not_true, Bool.not_false]; done) | (simp_all; omega) | (simp_all [gTwice]; omega)⟩, rfl, rfl, rfl⟩)
  refine awp_seq ?_
  refine awp_region ?_
  refine al_d rfl rfl rfl (by exact (by first | exact opd_load1_ref rfl Try.isAgg110 rfl rfl rfl rfl rfl | exact opd_load1_pad rfl Try.isAgg110 rfl (by first | omega | assumption) rfl)) ?_
  refine al_d rfl rfl rfl (by exact opd_move rfl rfl) ?_
  refine al_d rfl rfl rfl (by exact opd_move rfl rfl) ?_
  refine al_n rfl rfl (by exact x_put_set (.inl rfl) Try.underlying110 Try.underlying9 rfl rfl rfl rfl rfl rfl rfl) ?_
  refine al_n rfl rfl (by exact (by first | exact x_store_all rfl Try.sizeOf9 rfl rfl rfl rfl rfl rfl rfl rfl | exact x_store1 rfl Try.sizeOf9 rfl rfl rfl rfl rfl rfl (by simp only [List.length_cons, List.length_nil]; omega) (by simp only [List.drop_succ_cons, List.drop_zero, List.take_succ_cons, List.take_zero, List.take_nil, List.map_cons, List.map_nil, List.set_cons_zero, List.set_cons_succ, List.cons_append, List.nil_append, encTag, encObj]; rfl) (by simp only [List.drop_succ_cons, List.drop_zero, List.take_succ_cons, List.take_zero, List.take_nil, List.map_cons, List.map_nil, List.set_cons_zero, List.set_cons_succ, List.cons_append, List.nil_append, encTag, encObj]; rfl))) ?_
  refine al_nil ?_
  refine awp_seq ?_
  -- guard at a region with tests: %bool 5 := ..
  refine awp_bool (t := 5) (n := 8) (X := gTwice o last L s || !gName s) ?_ ?_
  · all_goals (refine al_d rfl rfl rfl (by exact opd_move rfl rfl) ?_)
    all_goals (refine al_d rfl rfl rfl (by exact opd_move rfl rfl) ?_)
    all_goals (first | refine al_split (t := 29) rfl (fun h29 => ?_) (fun h29 => ?_) | refine al_dup (t := 29) rfl ?_ | skip)
    all_goals (try contradiction)
    all_goals (first | refine al_off rfl rfl rfl rfl rfl ?_ | refine al_offu rfl rfl rfl rfl ?_ | refine al_ond rfl rfl rfl rfl rfl rfl (by exact opd_move rfl rfl) ?_)
    all_goals (first | refine al_off rfl rfl rfl rfl rfl ?_ | refine al_offu rfl rfl rfl rfl ?_ | refine al_ond rfl rfl rfl rfl rfl rfl (by exact opr_call rfl rfl Try.call22 rfl (name_c s _ hs)) ?_)
    all_goals (first | refine al_off rfl rfl rfl rfl rfl ?_ | refine al_offu rfl rfl rfl rfl ?_ | refine al_ond rfl rfl rfl rfl rfl rfl (by exact opd_not rfl rfl) ?_)
    all_goals (refine al_d rfl rfl rfl (by exact (by first | exact opd_pick_t rfl rfl rfl | exact opd_pick_f rfl rfl rfl | exact opd_pickt rfl rfl (by assumption) rfl | exact opd_pickf rfl rfl (by assumption) rfl | exact opd_pick rfl rfl rfl)) ?_)
    all_goals (refine al_d rfl rfl rfl (by exact opd_assign rfl rfl) ?_)
    all_goals (refine al_nil ?_)
    all_goals (exact ⟨⟨_, rfl, by first | rfl | (simp only [*]; rfl) | (simp_all; done)⟩, rfl, rfl, rfl⟩)
  refine awp_ret ?_
  -- return
  refine aret1 (H' := vH o s (sput L s)) (.inr rfl) rfl (rval_tmp rfl) (Fin.wk (by first | (simp; done) | (simp; rfl)) ⟨⟨_, rfl, rfl⟩, (by first | (simp; done) | (simp; rfl) | exact clo_map _ _ _ | exact sob_clo _ _ | exact vH_clo _ _ _ _), ⟨_, rfl, rfl⟩, (by first | (simp; done) | (simp; rfl) | exact clo_map _ _ _ | exact sob_clo _ _ | exact vH_clo _ _ _ _), ⟨_, rfl, rfl⟩, (by first | (simp; done) | (simp; rfl) | exact clo_map _ _ _ | exact sob_clo _ _ | exact vH_clo _ _ _ _), ⟨_, rfl, rfl⟩, (by first | (simp; done) | (simp; rfl) | exact clo_map _ _ _ | exact sob_clo _ _ | exact vH_clo _ _ _ _), trivial⟩ ⟨rfl, rfl, rfl, rfl, trivial⟩) ?_
  exact ⟨rfl, rfl⟩
/-- The keys that have come. -/
def seenL (l : List ByteArray) : Nat → List ByteArray
  | 0 => []
  | k + 1 => sput (seenL l k) ((l[k]?).getD sNil)
def wrongAt (o : GObj) (k : Nat) : Bool := match o.refs[k]? with
  | some s => gWrong o (before id o.refs k) (seenL o.refs k) s
  | none => false
def gKind (o : GObj) : Bool := if o.kind = 1 then decide ((o.refs.length : Int) = 0) && gOn o.x o.y else if o.kind = 5 then decide ((o.refs.length : Int) = 3) && (decide (o.x = 0) && decide (o.y = 0)) else decide (o.x = 0) && decide (o.y = 0)
def gHeadN (o : GObj) (n : Int) : Bool := decide (gWord o.kind = sNil) || !gName o.id || !gTags o.tags || decide (n < gLeast o.kind) || decide (2000 < n)
def gHead (o : GObj) : Bool := gHeadN o (o.refs.length : Int)
def gObj (o : GObj) : Bool := !gHead o && (!((List.range o.refs.length).any (wrongAt o)) && gKind o)
def okO (o : GObj) : Prop := o.id.size < 4611686018427387904 ∧ okTags o.tags ∧ o.refs.length < 4611686018427387904 ∧ ∀ s ∈ o.refs, s.size < 4611686018427387904
theorem word_kind {k : Int} (h : decide (gWord k = sNil) = false) : 0 ≤ k ∧ k < 6 := by
  by_cases h0 : 0 ≤ k ∧ k < 6
  · exact h0
  · have : gWord k = sNil := by
      have hn : ¬ (k = 1) ∧ ¬ (k = 2) ∧ ¬ (k = 3) ∧ ¬ (k = 4) ∧ ¬ (k = 5) := by omega
      simp only [gWord, hn.1, hn.2.1, hn.2.2.1, hn.2.2.2.1, hn.2.2.2.2, if_false]
    rw [this] at h
    simp at h
theorem objValid_c (o : GObj) (H : Heap) (ho : okO o) : ACalls Try.prog 43 [av (encObj o)] H (fun r H' => r = bv (gObj o) ∧ H' = H) := by
  refine ACalls.pure ?_ (by simp) H
  obtain ⟨h1, h2, h3, h4⟩ := ho
  have hml : (o.refs.map encStr).length = o.refs.length := List.length_map _
  refine ACalls.body Try.func43 rfl Try.ntmps43 (Nat.le_of_ble_eq_true rfl) ?_
  refine awp_seq ?_
  refine awp_region ?_
  refine al_d rfl rfl rfl (by exact opd_box (id := 1) rfl rfl rfl rfl rfl) ?_
  refine al_d rfl rfl rfl (by exact opd_assign rfl rfl) ?_
  refine al_nil ?_
  refine awp_seq ?_
  refine awp_seq ?_
  refine awp_mergeR (t := 36) (n := 31) (X := gHeadN o ((o.refs.map encStr).length : Int)) ?_ ?_
  · cases hg10 : (decide (gWord o.kind = sNil) : Bool)
    · cases hg16 : (!gName o.id : Bool)
      · cases hg22 : (!gTags o.tags : Bool)
        · cases hg31 : (decide (((o.refs.map encStr).length : Int) < gLeast o.kind) : Bool)
          · refine awp_drawc follows ?_
            refine dc_cons (DStep.q rfl (by exact (by first | exact opd_field_ref rfl fo38_1 rfl rfl rfl rfl | exact opd_field_pad rfl fo38_1 rfl rfl))) rfl ?_
            refine dc_cons (DStep.q rfl (by exact (by first | exact opd_load1_ref rfl Try.isAgg3 rfl rfl rfl rfl rfl | exact opd_load1_pad rfl Try.isAgg3 rfl (by first | omega | assumption) rfl))) rfl ?_
            refine dc_cons (DStep.q rfl (by exact opr_call rfl rfl Try.call80 rfl (word_c o.kind _))) rfl ?_
            refine dc_cons (DStep.q rfl (by exact opd_seql rfl rfl rfl)) rfl ?_
            refine dc_cons (DStep.q rfl (by exact opd_move rfl rfl)) rfl ?_
            refine dc_cons (q_on_f rfl rfl rfl (by first | rfl | assumption) (by exact (by first | exact opd_field_ref rfl fo38_0 rfl rfl rfl rfl | exact opd_field_pad rfl fo38_0 rfl rfl))) rfl ?_
            refine dc_cons (q_on_f rfl rfl rfl (by first | rfl | assumption) (by exact (by first | exact opd_load1_ref rfl Try.isAgg9 rfl rfl rfl rfl rfl | exact opd_load1_pad rfl Try.isAgg9 rfl (by first | omega | assumption) rfl))) rfl ?_
            refine dc_cons (q_on_f rfl rfl rfl (by first | rfl | assumption) (by exact opr_call rfl rfl Try.call22 rfl (name_c o.id _ h1))) rfl ?_
            refine dc_cons (q_on_f rfl rfl rfl (by first | rfl | assumption) (by exact opd_not rfl rfl)) rfl ?_
            refine dc_cons (DStep.q rfl (by exact (by first | exact opd_pick_t rfl rfl rfl | exact opd_pick_f rfl rfl rfl | exact opd_pickt rfl rfl (by assumption) rfl | exact opd_pickf rfl rfl (by assumption) rfl | exact opd_pick rfl rfl rfl))) rfl ?_
            refine dc_cons (DStep.q rfl (by exact opd_move rfl rfl)) rfl ?_
            refine dc_cons (q_on_f rfl rfl rfl (by first | rfl | assumption) (by exact (by first | exact opd_field_ref rfl fo38_4 rfl rfl rfl rfl | exact opd_field_pad rfl fo38_4 rfl rfl))) rfl ?_
            refine dc_cons (q_on_f rfl rfl rfl (by first | rfl | assumption) (by exact (by first | exact opd_load1_ref rfl Try.isAgg36 rfl rfl rfl rfl rfl | exact opd_load1_pad rfl Try.isAgg36 rfl (by first | omega | assumption) rfl))) rfl ?_
            refine dc_cons (q_on_f rfl rfl rfl (by first | rfl | assumption) (by exact opr_call rfl rfl Try.call37 rfl (tagValid_c o.tags _ h2))) rfl ?_
            refine dc_cons (q_on_f rfl rfl rfl (by first | rfl | assumption) (by exact opd_not rfl rfl)) rfl ?_
            refine dc_cons (DStep.q rfl (by exact (by first | exact opd_pick_t rfl rfl rfl | exact opd_pick_f rfl rfl rfl | exact opd_pickt rfl rfl (by assumption) rfl | exact opd_pickf rfl rfl (by assumption) rfl | exact opd_pick rfl rfl rfl))) rfl ?_
            refine dc_cons (DStep.q rfl (by exact opd_move rfl rfl)) rfl ?_
            refine dc_cons (q_on_f rfl rfl rfl (by first | rfl | assumption) (by exact (by first | exact opd_field_ref rfl fo38_3 rfl rfl rfl rfl | exact opd_field_pad rfl fo38_3 rfl rfl))) rfl ?_
            refine dc_cons (q_on_f rfl rfl rfl (by first | rfl | assumption) (by exact (by first | exact opd_load1_ref rfl Try.isAgg28 rfl rfl rfl rfl rfl | exact opd_load1_pad rfl Try.isAgg28 rfl (by first | omega | assumption) rfl))) rfl ?_
            refine dc_cons (q_on_f rfl rfl rfl (by first | rfl | assumption) (by exact (by first | exact opd_len_sl rfl Try.underlying28 rfl | exact opd_len_osl rfl Try.underlying28 rfl rfl rfl))) rfl ?_
            refine dc_cons (q_on_f rfl rfl rfl (by first | rfl | assumption) (by exact (by first | exact opd_field_ref rfl fo38_1 rfl rfl rfl rfl | exact opd_field_pad rfl fo38_1 rfl rfl))) rfl ?_
            refine dc_cons (q_on_f rfl rfl rfl (by first | rfl | assumption) (by exact (by first | exact opd_load1_ref rfl Try.isAgg3 rfl rfl rfl rfl rfl | exact opd_load1_pad rfl Try.isAgg3 rfl (by first | omega | assumption) rfl))) rfl ?_
            refine dc_cons (q_on_f rfl rfl rfl (by first | rfl | assumption) (by exact opr_call rfl rfl Try.call81 rfl (least_c o.kind _ (word_kind hg10).1 (word_kind hg10).2))) rfl ?_
            refine dc_cons (q_on_f rfl rfl rfl (by first | rfl | assumption) (by exact opd_lss rfl rfl rfl)) rfl ?_
            refine dc_cons (DStep.q rfl (by exact (by first | exact opd_pick_t rfl rfl rfl | exact opd_pick_f rfl rfl rfl | exact opd_pickt rfl rfl (by assumption) rfl | exact opd_pickf rfl rfl (by assumption) rfl | exact opd_pick rfl rfl rfl))) rfl ?_
            refine dc_cons (DStep.q rfl (by exact opd_move rfl rfl)) rfl ?_
            refine dc_cons (q_on_f rfl rfl rfl (by first | rfl | assumption) (by exact (by first | exact opd_field_ref rfl fo38_3 rfl rfl rfl rfl | exact opd_field_pad rfl fo38_3 rfl rfl))) rfl ?_
            refine dc_cons (q_on_f rfl rfl rfl (by first | rfl | assumption) (by exact (by first | exact opd_load1_ref rfl Try.isAgg28 rfl rfl rfl rfl rfl | exact opd_load1_pad rfl Try.isAgg28 rfl (by first | omega | assumption) rfl))) rfl ?_
            refine dc_cons (q_on_f rfl rfl rfl (by first | rfl | assumption) (by exact (by first | exact opd_len_sl rfl Try.underlying28 rfl | exact opd_len_osl rfl Try.underlying28 rfl rfl rfl))) rfl ?_
            refine dc_cons (q_on_f rfl rfl rfl (by first | rfl | assumption) (by exact opd_gtr rfl rfl rfl)) rfl ?_
            refine dc_cons (DStep.q rfl (by exact (by first | exact opd_pick_t rfl rfl rfl | exact opd_pick_f rfl rfl rfl | exact opd_pickt rfl rfl (by assumption) rfl | exact opd_pickf rfl rfl (by assumption) rfl | exact opd_pick rfl rfl rfl))) rfl ?_
            refine dc_nil ⟨by kernel_rfl, ?_⟩
            exact ⟨rfl, ⟨_, rfl, by first | rfl | (simp only [gHeadN, *]; rfl) | (simp only [gHeadN, hg10, hg16, hg22, hg31]; rfl)⟩, rfl, rfl, rfl⟩
          · refine awp_drawc follows ?_
            refine dc_cons (DStep.q rfl (by exact (by first | exact opd_field_ref rfl fo38_1 rfl rfl rfl rfl | exact opd_field_pad rfl fo38_1 rfl rfl))) rfl ?_
            refine dc_cons (DStep.q rfl (by exact (by first | exact opd_load1_ref rfl Try.isAgg3 rfl rfl rfl rfl rfl | exact opd_load1_pad rfl Try.isAgg3 rfl (by first | omega | assumption) rfl))) rfl ?_
            refine dc_cons (DStep.q rfl (by exact opr_call rfl rfl Try.call80 rfl (word_c o.kind _))) rfl ?_
            refine dc_cons (DStep.q rfl (by exact opd_seql rfl rfl rfl)) rfl ?_
            refine dc_cons (DStep.q rfl (by exact opd_move rfl rfl)) rfl ?_
            refine dc_cons (q_on_f rfl rfl rfl (by first | rfl | assumption) (by exact (by first | exact opd_field_ref rfl fo38_0 rfl rfl rfl rfl | exact opd_field_pad rfl fo38_0 rfl rfl))) rfl ?_
            refine dc_cons (q_on_f rfl rfl rfl (by first | rfl | assumption) (by exact (by first | exact opd_load1_ref rfl Try.isAgg9 rfl rfl rfl rfl rfl | exact opd_load1_pad rfl Try.isAgg9 rfl (by first | omega | assumption) rfl))) rfl ?_
            refine dc_cons (q_on_f rfl rfl rfl (by first | rfl | assumption) (by exact opr_call rfl rfl Try.call22 rfl (name_c o.id _ h1))) rfl ?_
            refine dc_cons (q_on_f rfl rfl rfl (by first | rfl | assumption) (by exact opd_not rfl rfl)) rfl ?_
            refine dc_cons (DStep.q rfl (by exact (by first | exact opd_pick_t rfl rfl rfl | exact opd_pick_f rfl rfl rfl | exact opd_pickt rfl rfl (by assumption) rfl | exact opd_pickf rfl rfl (by assumption) rfl | exact opd_pick rfl rfl rfl))) rfl ?_
            refine dc_cons (DStep.q rfl (by exact opd_move rfl rfl)) rfl ?_
            refine dc_cons (q_on_f rfl rfl rfl (by first | rfl | assumption) (by exact (by first | exact opd_field_ref rfl fo38_4 rfl rfl rfl rfl | exact opd_field_pad rfl fo38_4 rfl rfl))) rfl ?_
            refine dc_cons (q_on_f rfl rfl rfl (by first | rfl | assumption) (by exact (by first | exact opd_load1_ref rfl Try.isAgg36 rfl rfl rfl rfl rfl | exact opd_load1_pad rfl Try.isAgg36 rfl (by first | omega | assumption) rfl))) rfl ?_
            refine dc_cons (q_on_f rfl rfl rfl (by first | rfl | assumption) (by exact opr_call rfl rfl Try.call37 rfl (tagValid_c o.tags _ h2))) rfl ?_
            refine dc_cons (q_on_f rfl rfl rfl (by first | rfl | assumption) (by exact opd_not rfl rfl)) rfl ?_
            refine dc_cons (DStep.q rfl (by exact (by first | exact opd_pick_t rfl rfl rfl | exact opd_pick_f rfl rfl rfl | exact opd_pickt rfl rfl (by assumption) rfl | exact opd_pickf rfl rfl (by assumption) rfl | exact opd_pick rfl rfl rfl))) rfl ?_
            refine dc_cons (DStep.q rfl (by exact opd_move rfl rfl)) rfl ?_
            refine dc_cons (q_on_f rfl rfl rfl (by first | rfl | assumption) (by exact (by first | exact opd_field_ref rfl fo38_3 rfl rfl rfl rfl | exact opd_field_pad rfl fo38_3 rfl rfl))) rfl ?_
            refine dc_cons (q_on_f rfl rfl rfl (by first | rfl | assumption) (by exact (by first | exact opd_load1_ref rfl Try.isAgg28 rfl rfl rfl rfl rfl | exact opd_load1_pad rfl Try.isAgg28 rfl (by first | omega | assumption) rfl))) rfl ?_
            refine dc_cons (q_on_f rfl rfl rfl (by first | rfl | assumption) (by exact (by first | exact opd_len_sl rfl Try.underlying28 rfl | exact opd_len_osl rfl Try.underlying28 rfl rfl rfl))) rfl ?_
            refine dc_cons (q_on_f rfl rfl rfl (by first | rfl | assumption) (by exact (by first | exact opd_field_ref rfl fo38_1 rfl rfl rfl rfl | exact opd_field_pad rfl fo38_1 rfl rfl))) rfl ?_
            refine dc_cons (q_on_f rfl rfl rfl (by first | rfl | assumption) (by exact (by first | exact opd_load1_ref rfl Try.isAgg3 rfl rfl rfl rfl rfl | exact opd_load1_pad rfl Try.isAgg3 rfl (by first | omega | assumption) rfl))) rfl ?_
            refine dc_cons (q_on_f rfl rfl rfl (by first | rfl | assumption) (by exact opr_call rfl rfl Try.call81 rfl (least_c o.kind _ (word_kind hg10).1 (word_kind hg10).2))) rfl ?_
            refine dc_cons (q_on_f rfl rfl rfl (by first | rfl | assumption) (by exact opd_lss rfl rfl rfl)) rfl ?_
            refine dc_cons (DStep.q rfl (by exact (by first | exact opd_pick_t rfl rfl rfl | exact opd_pick_f rfl rfl rfl | exact opd_pickt rfl rfl (by assumption) rfl | exact opd_pickf rfl rfl (by assumption) rfl | exact opd_pick rfl rfl rfl))) rfl ?_
            refine dc_cons (DStep.q rfl (by exact opd_move rfl rfl)) rfl ?_
            refine dc_cons (q_off_f rfl rfl rfl (by first | rfl | assumption)) rfl ?_
            refine dc_cons (q_off_f rfl rfl rfl (by first | rfl | assumption)) rfl ?_
            refine dc_cons (q_off_f rfl rfl rfl (by first | rfl | assumption)) rfl ?_
            refine dc_cons (q_off_f rfl rfl rfl (by first | rfl | assumption)) rfl ?_
            refine dc_cons (DStep.q rfl (by exact (by first | exact opd_pick_t rfl rfl rfl | exact opd_pick_f rfl rfl rfl | exact opd_pickt rfl rfl (by assumption) rfl | exact opd_pickf rfl rfl (by assumption) rfl | exact opd_pick rfl rfl rfl))) rfl ?_
            refine dc_nil ⟨by kernel_rfl, ?_⟩
            exact ⟨rfl, ⟨_, rfl, by first | rfl | (simp only [gHeadN, *]; rfl) | (simp only [gHeadN, hg10, hg16, hg22, hg31]; rfl)⟩, rfl, rfl, rfl⟩
        · refine awp_drawc follows ?_
          refine dc_cons (DStep.q rfl (by exact (by first | exact opd_field_ref rfl fo38_1 rfl rfl rfl rfl | exact opd_field_pad rfl fo38_1 rfl rfl))) rfl ?_
          refine dc_cons (DStep.q rfl (by exact (by first | exact opd_load1_ref rfl Try.isAgg3 rfl rfl rfl rfl rfl | exact opd_load1_pad rfl Try.isAgg3 rfl (by first | omega | assumption) rfl))) rfl ?_
          refine dc_cons (DStep.q rfl (by exact opr_call rfl rfl Try.call80 rfl (word_c o.kind _))) rfl ?_
          refine dc_cons (DStep.q rfl (by exact opd_seql rfl rfl rfl)) rfl ?_
          refine dc_cons (DStep.q rfl (by exact opd_move rfl rfl)) rfl ?_
          refine dc_cons (q_on_f rfl rfl rfl (by first | rfl | assumption) (by exact (by first | exact opd_field_ref rfl fo38_0 rfl rfl rfl rfl | exact opd_field_pad rfl fo38_0 rfl rfl))) rfl ?_
          refine dc_cons (q_on_f rfl rfl rfl (by first | rfl | assumption) (by exact (by first | exact opd_load1_ref rfl Try.isAgg9 rfl rfl rfl rfl rfl | exact opd_load1_pad rfl Try.isAgg9 rfl (by first | omega | assumption) rfl))) rfl ?_
          refine dc_cons (q_on_f rfl rfl rfl (by first | rfl | assumption) (by exact opr_call rfl rfl Try.call22 rfl (name_c o.id _ h1))) rfl ?_
          refine dc_cons (q_on_f rfl rfl rfl (by first | rfl | assumption) (by exact opd_not rfl rfl)) rfl ?_
          refine dc_cons (DStep.q rfl (by exact (by first | exact opd_pick_t rfl rfl rfl | exact opd_pick_f rfl rfl rfl | exact opd_pickt rfl rfl (by assumption) rfl | exact opd_pickf rfl rfl (by assumption) rfl | exact opd_pick rfl rfl rfl))) rfl ?_
          refine dc_cons (DStep.q rfl (by exact opd_move rfl rfl)) rfl ?_
          refine dc_cons (q_on_f rfl rfl rfl (by first | rfl | assumption) (by exact (by first | exact opd_field_ref rfl fo38_4 rfl rfl rfl rfl | exact opd_field_pad rfl fo38_4 rfl rfl))) rfl ?_
          refine dc_cons (q_on_f rfl rfl rfl (by first | rfl | assumption) (by exact (by first | exact opd_load1_ref rfl Try.isAgg36 rfl rfl rfl rfl rfl | exact opd_load1_pad rfl Try.isAgg36 rfl (by first | omega | assumption) rfl))) rfl ?_
          refine dc_cons (q_on_f rfl rfl rfl (by first | rfl | assumption) (by exact opr_call rfl rfl Try.call37 rfl (tagValid_c o.tags _ h2))) rfl ?_
          refine dc_cons (q_on_f rfl rfl rfl (by first | rfl | assumption) (by exact opd_not rfl rfl)) rfl ?_
          refine dc_cons (DStep.q rfl (by exact (by first | exact opd_pick_t rfl rfl rfl | exact opd_pick_f rfl rfl rfl | exact opd_pickt rfl rfl (by assumption) rfl | exact opd_pickf rfl rfl (by assumption) rfl | exact opd_pick rfl rfl rfl))) rfl ?_
          refine dc_cons (DStep.q rfl (by exact opd_move rfl rfl)) rfl ?_
          refine dc_cons (q_off_f rfl rfl rfl (by first | rfl | assumption)) rfl ?_
          refine dc_cons (q_off_f rfl rfl rfl (by first | rfl | assumption)) rfl ?_
          refine dc_cons (q_off_f rfl rfl rfl (by first | rfl | assumption)) rfl ?_
          refine dc_cons (q_off_f rfl rfl rfl (by first | rfl | assumption)) rfl ?_
          refine dc_cons (q_off_f rfl rfl rfl (by first | rfl | assumption)) rfl ?_
          refine dc_cons (q_off_f rfl rfl rfl (by first | rfl | assumption)) rfl ?_
          refine dc_cons (q_off_f rfl rfl rfl (by first | rfl | assumption)) rfl ?_
          refine dc_cons (DStep.q rfl (by exact (by first | exact opd_pick_t rfl rfl rfl | exact opd_pick_f rfl rfl rfl | exact opd_pickt rfl rfl (by assumption) rfl | exact opd_pickf rfl rfl (by assumption) rfl | exact opd_pick rfl rfl rfl))) rfl ?_
          refine dc_cons (DStep.q rfl (by exact opd_move rfl rfl)) rfl ?_
          refine dc_cons (q_off_f rfl rfl rfl (by first | rfl | assumption)) rfl ?_
          refine dc_cons (q_off_f rfl rfl rfl (by first | rfl | assumption)) rfl ?_
          refine dc_cons (q_off_f rfl rfl rfl (by first | rfl | assumption)) rfl ?_
          refine dc_cons (q_off_f rfl rfl rfl (by first | rfl | assumption)) rfl ?_
          refine dc_cons (DStep.q rfl (by exact (by first | exact opd_pick_t rfl rfl rfl | exact opd_pick_f rfl rfl rfl | exact opd_pickt rfl rfl (by assumption) rfl | exact opd_pickf rfl rfl (by assumption) rfl | exact opd_pick rfl rfl rfl))) rfl ?_
          refine dc_nil ⟨by kernel_rfl, ?_⟩
          exact ⟨rfl, ⟨_, rfl, by first | rfl | (simp only [gHeadN, *]; rfl) | (simp only [gHeadN, hg10, hg16, hg22, hg31]; rfl)⟩, rfl, rfl, rfl⟩
      · refine awp_drawc follows ?_
        refine dc_cons (DStep.q rfl (by exact (by first | exact opd_field_ref rfl fo38_1 rfl rfl rfl rfl | exact opd_field_pad rfl fo38_1 rfl rfl))) rfl ?_
        refine dc_cons (DStep.q rfl (by exact (by first | exact opd_load1_ref rfl Try.isAgg3 rfl rfl rfl rfl rfl | exact opd_load1_pad rfl Try.isAgg3 rfl (by first | omega | assumption) rfl))) rfl ?_
        refine dc_cons (DStep.q rfl (by exact opr_call rfl rfl Try.call80 rfl (word_c o.kind _))) rfl ?_
        refine dc_cons (DStep.q rfl (by exact opd_seql rfl rfl rfl)) rfl ?_
        refine dc_cons (DStep.q rfl (by exact opd_move rfl rfl)) rfl ?_
        refine dc_cons (q_on_f rfl rfl rfl (by first | rfl | assumption) (by exact (by first | exact opd_field_ref rfl fo38_0 rfl rfl rfl rfl | exact opd_field_pad rfl fo38_0 rfl rfl))) rfl ?_
        refine dc_cons (q_on_f rfl rfl rfl (by first | rfl | assumption) (by exact (by first | exact opd_load1_ref rfl Try.isAgg9 rfl rfl rfl rfl rfl | exact opd_load1_pad rfl Try.isAgg9 rfl (by first | omega | assumption) rfl))) rfl ?_
        refine dc_cons (q_on_f rfl rfl rfl (by first | rfl | assumption) (by exact opr_call rfl rfl Try.call22 rfl (name_c o.id _ h1))) rfl ?_
        refine dc_cons (q_on_f rfl rfl rfl (by first | rfl | assumption) (by exact opd_not rfl rfl)) rfl ?_
        refine dc_cons (DStep.q rfl (by exact (by first | exact opd_pick_t rfl rfl rfl | exact opd_pick_f rfl rfl rfl | exact opd_pickt rfl rfl (by assumption) rfl | exact opd_pickf rfl rfl (by assumption) rfl | exact opd_pick rfl rfl rfl))) rfl ?_
        refine dc_cons (DStep.q rfl (by exact opd_move rfl rfl)) rfl ?_
        refine dc_cons (q_off_f rfl rfl rfl (by first | rfl | assumption)) rfl ?_
        refine dc_cons (q_off_f rfl rfl rfl (by first | rfl | assumption)) rfl ?_
        refine dc_cons (q_off_f rfl rfl rfl (by first | rfl | assumption)) rfl ?_
        refine dc_cons (q_off_f rfl rfl rfl (by first | rfl | assumption)) rfl ?_
        refine dc_cons (DStep.q rfl (by exact (by first | exact opd_pick_t rfl rfl rfl | exact opd_pick_f rfl rfl rfl | exact opd_pickt rfl rfl (by assumption) rfl | exact opd_pickf rfl rfl (by assumption) rfl | exact opd_pick rfl rfl rfl))) rfl ?_
        refine dc_cons (DStep.q rfl (by exact opd_move rfl rfl)) rfl ?_
        refine dc_cons (q_off_f rfl rfl rfl (by first | rfl | assumption)) rfl ?_
        refine dc_cons (q_off_f rfl rfl rfl (by first | rfl | assumption)) rfl ?_
        refine dc_cons (q_off_f rfl rfl rfl (by first | rfl | assumption)) rfl ?_
        refine dc_cons (q_off_f rfl rfl rfl (by first | rfl | assumption)) rfl ?_
        refine dc_cons (q_off_f rfl rfl rfl (by first | rfl | assumption)) rfl ?_
        refine dc_cons (q_off_f rfl rfl rfl (by first | rfl | assumption)) rfl ?_
        refine dc_cons (q_off_f rfl rfl rfl (by first | rfl | assumption)) rfl ?_
        refine dc_cons (DStep.q rfl (by exact (by first | exact opd_pick_t rfl rfl rfl | exact opd_pick_f rfl rfl rfl | exact opd_pickt rfl rfl (by assumption) rfl | exact opd_pickf rfl rfl (by assumption) rfl | exact opd_pick rfl rfl rfl))) rfl ?_
        refine dc_cons (DStep.q rfl (by exact opd_move rfl rfl)) rfl ?_
        refine dc_cons (q_off_f rfl rfl rfl (by first | rfl | assumption)) rfl ?_
        refine dc_cons (q_off_f rfl rfl rfl (by first | rfl | assumption)) rfl ?_
        refine dc_cons (q_off_f rfl rfl rfl (by first | rfl | assumption)) rfl ?_
        refine dc_cons (q_off_f rfl rfl rfl (by first | rfl | assumption)) rfl ?_
        refine dc_cons (DStep.q rfl (by exact (by first | exact opd_pick_t rfl rfl rfl | exact opd_pick_f rfl rfl rfl | exact opd_pickt rfl rfl (by assumption) rfl | exact opd_pickf rfl rfl (by assumption) rfl | exact opd_pick rfl rfl rfl))) rfl ?_
        refine dc_nil ⟨by kernel_rfl, ?_⟩
        exact ⟨rfl, ⟨_, rfl, by first | rfl | (simp only [gHeadN, *]; rfl) | (simp only [gHeadN, hg10, hg16, hg22, hg31]; rfl)⟩, rfl, rfl, rfl⟩
    · refine awp_drawc follows ?_
      refine dc_cons (DStep.q rfl (by exact (by first | exact opd_field_ref rfl fo38_1 rfl rfl rfl rfl | exact opd_field_pad rfl fo38_1 rfl rfl))) rfl ?_
      refine dc_cons (DStep.q rfl (by exact (by first | exact opd_load1_ref rfl Try.isAgg3 rfl rfl rfl rfl rfl | exact opd_load1_pad rfl Try.isAgg3 rfl (by first | omega | assumption) rfl))) rfl ?_
      refine dc_cons (DStep.q rfl (by exact opr_call rfl rfl Try.call80 rfl (word_c o.kind _))) rfl ?_
      refine dc_cons (DStep.q rfl (by exact opd_seql rfl rfl rfl)) rfl ?_
      refine dc_cons (DStep.q rfl (by exact opd_move rfl rfl)) rfl ?_
      refine dc_cons (q_off_f rfl rfl rfl (by first | rfl | assumption)) rfl ?_
      refine dc_cons (q_off_f rfl rfl rfl (by first | rfl | assumption)) rfl ?_
      refine dc_cons (q_off_f rfl rfl rfl (by first | rfl | assumption)) rfl ?_
      refine dc_cons (q_off_f rfl rfl rfl (by first | rfl | assumption)) rfl ?_
      refine dc_cons (DStep.q rfl (by exact (by first | exact opd_pick_t rfl rfl rfl | exact opd_pick_f rfl rfl rfl | exact opd_pickt rfl rfl (by assumption) rfl | exact opd_pickf rfl rfl (by assumption) rfl | exact opd_pick rfl rfl rfl))) rfl ?_
      refine dc_cons (DStep.q rfl (by exact opd_move rfl rfl)) rfl ?_
      refine dc_cons (q_off_f rfl rfl rfl (by first | rfl | assumption)) rfl ?_
      refine dc_cons (q_off_f rfl rfl rfl (by first | rfl | assumption)) rfl ?_
      refine dc_cons (q_off_f rfl rfl rfl (by first | rfl | assumption)) rfl ?_
      refine dc_cons (q_off_f rfl rfl rfl (by first | rfl | assumption)) rfl ?_
      refine dc_cons (DStep.q rfl (by exact (by first | exact opd_pick_t rfl rfl rfl | exact opd_pick_f rfl rfl rfl | exact opd_pickt rfl rfl (by assumption) rfl | exact opd_pickf rfl rfl (by assumption) rfl | exact opd_pick rfl rfl rfl))) rfl ?_
      refine dc_cons (DStep.q rfl (by exact opd_move rfl rfl)) rfl ?_
      refine dc_cons (q_off_f rfl rfl rfl (by first | rfl | assumption)) rfl ?_
      refine dc_cons (q_off_f rfl rfl rfl (by first | rfl | assumption)) rfl ?_
      refine dc_cons (q_off_f rfl rfl rfl (by first | rfl | assumption)) rfl ?_
      refine dc_cons (q_off_f rfl rfl rfl (by first | rfl | assumption)) rfl ?_
      refine dc_cons (q_off_f rfl rfl rfl (by first | rfl | assumption)) rfl ?_
      refine dc_cons (q_off_f rfl rfl rfl (by first | rfl | assumption)) rfl ?_
      refine dc_cons (q_off_f rfl rfl rfl (by first | rfl | assumption)) rfl ?_
      refine dc_cons (DStep.q rfl (by exact (by first | exact opd_pick_t rfl rfl rfl | exact opd_pick_f rfl rfl rfl | exact opd_pickt rfl rfl (by assumption) rfl | exact opd_pickf rfl rfl (by assumption) rfl | exact opd_pick rfl rfl rfl))) rfl ?_
      refine dc_cons (DStep.q rfl (by exact opd_move rfl rfl)) rfl ?_
      refine dc_cons (q_off_f rfl rfl rfl (by first | rfl | assumption)) rfl ?_
      refine dc_cons (q_off_f rfl rfl rfl (by first | rfl | assumption)) rfl ?_
      refine dc_cons (q_off_f rfl rfl rfl (by first | rfl | assumption)) rfl ?_
      refine dc_cons (q_off_f rfl rfl rfl (by first | rfl | assumption)) rfl ?_
      refine dc_cons (DStep.q rfl (by exact (by first | exact opd_pick_t rfl rfl rfl | exact opd_pick_f rfl rfl rfl | exact opd_pickt rfl rfl (by assumption) rfl | exact opd_pickf rfl rfl (by assumption) rfl | exact opd_pick rfl rfl rfl))) rfl ?_
      refine dc_nil ⟨by kernel_rfl, ?_⟩
      exact ⟨rfl, ⟨_, rfl, by first | rfl | (simp only [gHeadN, *]; rfl) | (simp only [gHeadN, hg10, hg16, hg22, hg31]; rfl)⟩, rfl, rfl, rfl⟩
  refine awp_cond rfl (fun hc1 => ?_) (fun hc1 => ?_)
  -- cond 1
  · skip
    refine awp_seq ?_
    refine awp_region ?_
    refine al_d rfl rfl rfl (by exact opd_assign rfl rfl) ?_
    refine al_nil ?_
    refine awp_ret ?_
    -- return
    refine aret1 (H' := []) (by first | exact .inr rfl | exact .inl rfl) rfl (rval_tmp rfl) (Fin.wk (by simp) trivial trivial) ?_
    exact ⟨by rw [gObj, gHead, ← hml, hc1]; rfl, rfl⟩
  · skip
    refine awp_skip ?_
    refine awp_seq ?_
    refine awp_region ?_
    refine al_d rfl rfl rfl (by exact opd_makeMap (id := 37) strK rfl rfl) ?_
    refine al_d rfl rfl rfl (by exact x_alloc (id := 3) rfl zo110 rfl rfl) ?_
    refine al_n rfl rfl (by exact (by first | exact x_store_all rfl Try.sizeOf110 rfl rfl rfl rfl rfl rfl rfl rfl | exact x_store1 rfl Try.sizeOf110 rfl rfl rfl rfl rfl rfl (by simp only [List.length_cons, List.length_nil]; omega) (by simp only [List.drop_succ_cons, List.drop_zero, List.take_succ_cons, List.take_zero, List.take_nil, List.map_cons, List.map_nil, List.set_cons_zero, List.set_cons_succ, List.cons_append, List.nil_append, encTag, encObj]; rfl) (by simp only [List.drop_succ_cons, List.drop_zero, List.take_succ_cons, List.take_zero, List.take_nil, List.map_cons, List.map_nil, List.set_cons_zero, List.set_cons_succ, List.cons_append, List.nil_append, encTag, encObj]; rfl))) ?_
    refine al_nil ?_
    refine awp_seq ?_
    refine awp_region ?_
    refine al_d rfl rfl rfl (by exact x_alloc (id := 4) rfl zo9 rfl rfl) ?_
    refine al_n rfl rfl (by exact (by first | exact x_store_all rfl Try.sizeOf9 rfl rfl rfl rfl rfl rfl rfl rfl | exact x_store1 rfl Try.sizeOf9 rfl rfl rfl rfl rfl rfl (by simp only [List.length_cons, List.length_nil]; omega) (by simp only [List.drop_succ_cons, List.drop_zero, List.take_succ_cons, List.take_zero, List.take_nil, List.map_cons, List.map_nil, List.set_cons_zero, List.set_cons_succ, List.cons_append, List.nil_append, encTag, encObj]; rfl) (by simp only [List.drop_succ_cons, List.drop_zero, List.take_succ_cons, List.take_zero, List.take_nil, List.map_cons, List.map_nil, List.set_cons_zero, List.set_cons_succ, List.cons_append, List.nil_append, encTag, encObj]; rfl))) ?_
    refine al_nil ?_
    refine awp_seq_to ([(1, .ref 1 0 0 0), (5, .clo 82 [.ref 1 0 0 0, .ref 4 0 0 0, .ref 3 0 0 0])]) (vH o sNil []) ?_ ?_
    -- seqto
    · skip
      refine awp_region ?_
      refine al_d rfl rfl rfl (by exact opd_makeFunc rfl rfl) ?_
      refine al_d rfl rfl rfl (by exact opd_assign rfl rfl) ?_
      refine al_nil ?_
      -- end of the piece
      exact (Ent.wk ⟨⟨_, rfl, rfl⟩, (by first | (simp; done) | (simp; rfl) | exact clo_map _ _ _ | exact sob_clo _ _ | exact vH_clo _ _ _ _), ⟨_, rfl, rfl⟩, (by first | (simp; done) | (simp; rfl) | exact clo_map _ _ _ | exact sob_clo _ _ | exact vH_clo _ _ _ _), trivial⟩ ⟨⟨_, rfl, rfl⟩, (by first | (simp; done) | (simp; rfl) | exact clo_map _ _ _ | exact sob_clo _ _ | exact vH_clo _ _ _ _), ⟨_, rfl, rfl⟩, (by first | (simp; done) | (simp; rfl) | exact clo_map _ _ _ | exact sob_clo _ _ | exact vH_clo _ _ _ _), ⟨_, rfl, rfl⟩, (by first | (simp; done) | (simp; rfl) | exact clo_map _ _ _ | exact sob_clo _ _ | exact vH_clo _ _ _ _), ⟨_, rfl, rfl⟩, (by first | (simp; done) | (simp; rfl) | exact clo_map _ _ _ | exact sob_clo _ _ | exact vH_clo _ _ _ _), trivial⟩ trivial)
    · skip
      refine awp_seq ?_
      refine awp_seq ?_
      refine awp_region ?_
      refine al_d rfl rfl rfl (by exact (by first | exact opd_field_ref rfl fo38_3 rfl rfl rfl rfl | exact opd_field_pad rfl fo38_3 rfl rfl)) ?_
      refine al_d rfl rfl rfl (by exact (by first | exact opd_load1_ref rfl Try.isAgg28 rfl rfl rfl rfl rfl | exact opd_load1_pad rfl Try.isAgg28 rfl (by first | omega | assumption) rfl)) ?_
      refine al_d rfl rfl rfl (by exact opd_move rfl rfl) ?_
      refine al_d rfl rfl rfl (by exact opr_call rfl rfl Try.call83 rfl (containsFuncS _ o.refs (wrongAt o) (fun k => vH o (before id o.refs k) (seenL o.refs k)) h3 (fun k s hk => CallsV.clo Try.call82 (by rw [wrongAt, hk, before_succ hk]; simp only [seenL, hk]; exact valid1_c o _ s _ (h4 s (List.mem_of_getElem? hk)))))) ?_
      refine al_nil ?_
      refine awp_cond rfl (fun hc2 => ?_) (fun hc2 => ?_)
      -- cond 2
      · skip
        refine awp_seq ?_
        refine awp_region ?_
        refine al_d rfl rfl rfl (by exact opd_assign rfl rfl) ?_
        refine al_nil ?_
        refine awp_ret ?_
        -- return
        refine aret1 (H' := []) (by first | exact .inr rfl | exact .inl rfl) rfl (rval_tmp rfl) (Fin.wk (by simp) trivial trivial) ?_
        exact ⟨by rw [gObj, hc2]; simp, rfl⟩
      · have hfin : gObj o = gKind o := by have h := hc1; rw [hml] at h; rw [gObj, gHead, h, hc2]; rfl
        rw [hfin]
        clear hfin
        generalize before id o.refs (stopN (wrongAt o) o.refs.length) = la
        generalize seenL o.refs (stopN (wrongAt o) o.refs.length) = LL
        unfold vH
        refine awp_skip ?_
        refine awp_seq ?_
        refine awp_seq ?_
        refine awp_region ?_
        refine al_d rfl rfl rfl (by exact (by first | exact opd_field_ref rfl fo38_1 rfl rfl rfl rfl | exact opd_field_pad rfl fo38_1 rfl rfl)) ?_
        refine al_d rfl rfl rfl (by exact (by first | exact opd_load1_ref rfl Try.isAgg3 rfl rfl rfl rfl rfl | exact opd_load1_pad rfl Try.isAgg3 rfl (by first | omega | assumption) rfl)) ?_
        refine al_nil ?_
        refine awp_block ?_
        refine awp_seq ?_
        refine awp_region ?_
        refine al_d rfl rfl rfl (by exact opd_eql rfl rfl rfl) ?_
        refine al_d rfl rfl rfl (by exact opd_assign rfl rfl) ?_
        refine al_nil ?_
        refine awp_cond rfl (fun hc3 => ?_) (fun hc3 => ?_)
        -- cond 3
        · skip
          refine awp_seq ?_
          refine awp_bool (t := 2) (n := 11) (X := decide (((o.refs.map encStr).length : Int) = 0) && gOn o.x o.y) ?_ ?_
          · all_goals (refine al_d rfl rfl rfl (by exact (by first | exact opd_field_ref rfl fo38_3 rfl rfl rfl rfl | exact opd_field_pad rfl fo38_3 rfl rfl)) ?_)
            all_goals (refine al_d rfl rfl rfl (by exact (by first | exact opd_load1_ref rfl Try.isAgg28 rfl rfl rfl rfl rfl | exact opd_load1_pad rfl Try.isAgg28 rfl (by first | omega | assumption) rfl)) ?_)
            all_goals (refine al_d rfl rfl rfl (by exact (by first | exact opd_len_sl rfl Try.underlying28 rfl | exact opd_len_osl rfl Try.underlying28 rfl rfl rfl)) ?_)
            all_goals (refine al_d rfl rfl rfl (by exact opd_eql rfl rfl rfl) ?_)
            all_goals (refine al_d rfl rfl rfl (by exact opd_move rfl rfl) ?_)
            all_goals (first | refine al_split (t := 51) rfl (fun h51 => ?_) (fun h51 => ?_) | refine al_dup (t := 51) rfl ?_ | skip)
            all_goals (try contradiction)
            all_goals (first | refine al_off rfl rfl rfl rfl rfl ?_ | refine al_offu rfl rfl rfl rfl ?_ | refine al_ond rfl rfl rfl rfl rfl rfl (by exact (by first | exact opd_field_ref rfl fo38_2 rfl rfl rfl rfl | exact opd_field_pad rfl fo38_2 rfl rfl)) ?_)
            all_goals (first | refine al_off rfl rfl rfl rfl rfl ?_ | refine al_offu rfl rfl rfl rfl ?_ | refine al_ond rfl rfl rfl rfl rfl rfl (by exact (by first | exact opd_loadn_ref rfl Try.isAgg35 Try.sizeOf35 rfl rfl rfl rfl (by simp only [List.drop_succ_cons, List.drop_zero, List.take_succ_cons, List.take_zero, List.take_nil, List.map_cons, List.map_nil, List.set_cons_zero, List.set_cons_succ, List.cons_append, List.nil_append, encTag, encObj]; rfl) rfl | exact opd_loadn_pad rfl Try.isAgg35 Try.sizeOf35 rfl (by first | omega | assumption) (by simp only [List.drop_succ_cons, List.drop_zero, List.take_succ_cons, List.take_zero, List.take_nil, List.map_cons, List.map_nil, List.set_cons_zero, List.set_cons_succ, List.cons_append, List.nil_append, encTag, encObj]; rfl) rfl)) ?_)
            all_goals (first | refine al_off rfl rfl rfl rfl rfl ?_ | refine al_offu rfl rfl rfl rfl ?_ | refine al_ond rfl rfl rfl rfl rfl rfl (by exact opr_call rfl rfl Try.call84 rfl (on_c o.x o.y _)) ?_)
            all_goals (refine al_d rfl rfl rfl (by exact (by first | exact opd_pick_t rfl rfl rfl | exact opd_pick_f rfl rfl rfl | exact opd_pickt rfl rfl (by assumption) rfl | exact opd_pickf rfl rfl (by assumption) rfl | exact opd_pick rfl rfl rfl)) ?_)
            all_goals (refine al_d rfl rfl rfl (by exact opd_assign rfl rfl) ?_)
            all_goals (refine al_nil ?_)
            all_goals (exact ⟨⟨_, rfl, by first | rfl | (simp only [*, Bool.false_and, Bool.true_and, Bool.and_false, Bool.and_true]; done) | (simp_all; done)⟩, rfl, rfl, rfl⟩)
          refine awp_ret ?_
          -- return
          refine aret1 (H' := []) (by first | exact .inr rfl | exact .inl rfl) rfl (rval_tmp rfl) (Fin.wk (by simp) trivial trivial) ?_
          exact ⟨by rw [gKind, if_pos (of_decide_eq_true hc3), ← hml], rfl⟩
        · skip
          refine awp_seq ?_
          refine awp_region ?_
          refine al_d rfl rfl rfl (by exact opd_eql rfl rfl rfl) ?_
          refine al_d rfl rfl rfl (by exact opd_assign rfl rfl) ?_
          refine al_nil ?_
          refine awp_cond rfl (fun hc4 => ?_) (fun hc4 => ?_)
          -- cond 4
          · skip
            refine awp_seq ?_
            refine awp_bool (t := 2) (n := 12) (X := decide (((o.refs.map encStr).length : Int) = 3) && (decide (o.x = 0) && decide (o.y = 0))) ?_ ?_
            · all_goals (refine al_d rfl rfl rfl (by exact (by first | exact opd_field_ref rfl fo38_3 rfl rfl rfl rfl | exact opd_field_pad rfl fo38_3 rfl rfl)) ?_)
              all_goals (refine al_d rfl rfl rfl (by exact (by first | exact opd_load1_ref rfl Try.isAgg28 rfl rfl rfl rfl rfl | exact opd_load1_pad rfl Try.isAgg28 rfl (by first | omega | assumption) rfl)) ?_)
              all_goals (refine al_d rfl rfl rfl (by exact (by first | exact opd_len_sl rfl Try.underlying28 rfl | exact opd_len_osl rfl Try.underlying28 rfl rfl rfl)) ?_)
              all_goals (refine al_d rfl rfl rfl (by exact opd_eql rfl rfl rfl) ?_)
              all_goals (refine al_d rfl rfl rfl (by exact opd_move rfl rfl) ?_)
              all_goals (first | refine al_split (t := 62) rfl (fun h62 => ?_) (fun h62 => ?_) | refine al_dup (t := 62) rfl ?_ | skip)
              all_goals (try contradiction)
              all_goals (first | refine al_off rfl rfl rfl rfl rfl ?_ | refine al_offu rfl rfl rfl rfl ?_ | refine al_ond rfl rfl rfl rfl rfl rfl (by exact (by first | exact opd_field_ref rfl fo38_2 rfl rfl rfl rfl | exact opd_field_pad rfl fo38_2 rfl rfl)) ?_)
              all_goals (first | refine al_off rfl rfl rfl rfl rfl ?_ | refine al_offu rfl rfl rfl rfl ?_ | refine al_ond rfl rfl rfl rfl rfl rfl (by exact (by first | exact opd_loadn_ref rfl Try.isAgg35 Try.sizeOf35 rfl rfl rfl rfl (by simp only [List.drop_succ_cons, List.drop_zero, List.take_succ_cons, List.take_zero, List.take_nil, List.map_cons, List.map_nil, List.set_cons_zero, List.set_cons_succ, List.cons_append, List.nil_append, encTag, encObj]; rfl) rfl | exact opd_loadn_pad rfl Try.isAgg35 Try.sizeOf35 rfl (by first | omega | assumption) (by simp only [List.drop_succ_cons, List.drop_zero, List.take_succ_cons, List.take_zero, List.take_nil, List.map_cons, List.map_nil, List.set_cons_zero, List.set_cons_succ, List.cons_append, List.nil_append, encTag, encObj]; rfl) rfl)) ?_)
              all_goals (first | refine al_off rfl rfl rfl rfl rfl ?_ | refine al_offu rfl rfl rfl rfl ?_ | refine al_ond rfl rfl rfl rfl rfl rfl (by exact x_build rfl bo35 rfl rfl) ?_)
              all_goals (first | refine al_off rfl rfl rfl rfl rfl ?_ | refine al_offu rfl rfl rfl rfl ?_ | refine al_ond rfl rfl rfl rfl rfl rfl (by exact opd_aeql rfl rfl rfl rfl rfl Try.eqGuardType35 (se35 _ _ _ _)) ?_)
              all_goals (refine al_d rfl rfl rfl (by exact (by first | exact opd_pick_t rfl rfl rfl | exact opd_pick_f rfl rfl rfl | exact opd_pickt rfl rfl (by assumption) rfl | exact opd_pickf rfl rfl (by assumption) rfl | exact opd_pick rfl rfl rfl)) ?_)
              all_goals (refine al_d rfl rfl rfl (by exact opd_assign rfl rfl) ?_)
              all_goals (refine al_nil ?_)
              all_goals (exact ⟨⟨_, rfl, by first | rfl | (simp only [*, Bool.false_and, Bool.true_and, Bool.and_false, Bool.and_true]; done) | (simp_all; done)⟩, rfl, rfl, rfl⟩)
            refine awp_ret ?_
            -- return
            refine aret1 (H' := []) (by first | exact .inr rfl | exact .inl rfl) rfl (rval_tmp rfl) (Fin.wk (by simp) trivial trivial) ?_
            exact ⟨by rw [gKind, if_neg (of_decide_eq_false hc3), if_pos (of_decide_eq_true hc4), ← hml], rfl⟩
          · skip
            refine awp_skip ?_
            refine awp_seq ?_
            refine awp_region ?_
            refine al_d rfl rfl rfl (by exact (by first | exact opd_field_ref rfl fo38_2 rfl rfl rfl rfl | exact opd_field_pad rfl fo38_2 rfl rfl)) ?_
            refine al_d rfl rfl rfl (by exact (by first | exact opd_loadn_ref rfl Try.isAgg35 Try.sizeOf35 rfl rfl rfl rfl (by simp only [List.drop_succ_cons, List.drop_zero, List.take_succ_cons, List.take_zero, List.take_nil, List.map_cons, List.map_nil, List.set_cons_zero, List.set_cons_succ, List.cons_append, List.nil_append, encTag, encObj]; rfl) rfl | exact opd_loadn_pad rfl Try.isAgg35 Try.sizeOf35 rfl (by first | omega | assumption) (by simp only [List.drop_succ_cons, List.drop_zero, List.take_succ_cons, List.take_zero, List.take_nil, List.map_cons, List.map_nil, List.set_cons_zero, List.set_cons_succ, List.cons_append, List.nil_append, encTag, encObj]; rfl) rfl)) ?_
            refine al_d rfl rfl rfl (by exact x_build rfl bo35 rfl rfl) ?_
            refine al_d rfl rfl rfl (by exact opd_aeql rfl rfl rfl rfl rfl Try.eqGuardType35 (se35 _ _ _ _)) ?_
            refine al_d rfl rfl rfl (by exact opd_assign rfl rfl) ?_
            refine al_nil ?_
            refine awp_ret ?_
            -- return
            refine aret1 (H' := []) (by first | exact .inr rfl | exact .inl rfl) rfl (rval_tmp rfl) (Fin.wk (by simp) trivial trivial) ?_
            exact ⟨by rw [gKind, if_neg (of_decide_eq_false hc3), if_neg (of_decide_eq_false hc4)], rfl⟩
end Go.Proofs.Ytdgoodjhndeojaa
