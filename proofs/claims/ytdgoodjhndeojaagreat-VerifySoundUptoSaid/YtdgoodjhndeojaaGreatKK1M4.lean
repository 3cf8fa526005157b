/-
  CONTRACTS: object.Valid. Conditions: lengths below 2^62.
  CONTRACTS: atlas.Valid. Conditions: lengths below 2^62.
  WHAT THE ARGUMENTS OF THE LAWS HOLD: shapes as plain Lean data. Conditions: none.
  WHAT ALL LAWS' CLAIMS SHARE. Conditions: none.
  WHAT THE ARGUMENTS OF THE LAWS HOLD: edits, evidence. Conditions: none.
  STATES AND RESULTS in front of a heap that is not looked into. Conditions: none.
  PLAIN LAWS of Go's order of strings, of valid maps and their parts. Conditions: none.
  CONTRACTS: slices.IndexFunc, ContainsFunc, Equal at the types of the map; package verify's small functions.
  Conditions: lengths below 2^62.
  CONTRACTS: the functions of package verify and of its reference: objects, tags, what an edit shows. Conditions: lengths below 2^62.
  CONTRACTS: what an edit shows: package verify. Conditions: lengths below 2^62.
-/
import Derived.Test.YtdgoodjhndeojaaGreatKK1M3
section
set_option linter.unusedVariables false
set_option linter.unusedSimpArgs false
set_option maxRecDepth 100000
namespace Go.Proofs.YtdgoodjhndeojaaGreat
open Go.Abs

theorem sob_clo (L : List ByteArray) (H : Heap) : ∀ r ∈ (sob L).rows, ∀ a ∈ r, Clo H a := by
  intro r hr a ha
  obtain ⟨i, hi⟩ := List.mem_iff_getElem?.1 hr
  obtain ⟨p, hp, rfl⟩ := mrows_get.1 hi
  simp only [sets, List.getElem?_map] at hp
  obtain ⟨q, _, rfl⟩ := Option.map_eq_some_iff.1 hp
  simp only [List.mem_cons, List.not_mem_nil, or_false] at ha
  rcases ha with rfl | rfl | rfl <;> simp
def vH (o : GObj) (last : ByteArray) (L : List ByteArray) : Heap := [(37, sob L), (4, bx 1 9 [sv last]), (3, bx 1 67 [.mp 37 0]), (1, bx 6 42 ((encObj o).map .pv))]
theorem vH_clo (o : GObj) (a : ByteArray) (L : List ByteArray) (f : Nat) : Clo (vH o a L) (.clo f [.ref 1 0 0 0, .ref 4 0 0 0, .ref 3 0 0 0]) := by
  refine .clo fun x hx => ?_
  simp only [List.mem_cons, List.not_mem_nil, or_false] at hx
  rcases hx with rfl | rfl | rfl <;> exact .ref rfl
def gTwice (o : GObj) (last : ByteArray) (L : List ByteArray) (s : ByteArray) : Bool := (decide (o.kind = 2) && decide (s = last)) || (decide (o.kind = 3) && inB L s)
def gWrong (o : GObj) (last : ByteArray) (L : List ByteArray) (s : ByteArray) : Bool := gTwice o last L s || !gName s
theorem valid1_c (o : GObj) (last s : ByteArray) (L : List ByteArray) (hs : s.size < 4611686018427387904) :
    ACalls Tryz.prog 126 [sv s, .ref 1 0 0 0, .ref 4 0 0 0, .ref 3 0 0 0] (vH o last L) (fun r H' => r = bv (gWrong o last L s) ∧ H' = vH o s (sput L s)) := by
  unfold vH
  refine ACalls.body Tryz.func126 rfl Tryz.ntmps126 (Nat.le_of_ble_eq_true rfl) ?_
  refine awp_seq ?_
  refine awp_region ?_
  refine al_d rfl rfl rfl (by exact opd_assign rfl rfl) ?_
  refine al_nil ?_
  refine awp_seq ?_
  refine awp_bool (t := 6) (n := 22) (X := gTwice o last L s) ?_ ?_
  · all_goals (refine al_d rfl rfl rfl (by exact (by first | exact opd_field_ref rfl fo42_1 rfl rfl rfl rfl | exact opd_field_pad rfl fo42_1 rfl rfl)) ?_)
    all_goals (refine al_d rfl rfl rfl (by exact (by first | exact opd_load1_ref rfl Tryz.isAgg3 rfl rfl rfl rfl rfl | exact opd_load1_pad rfl Tryz.isAgg3 rfl (by first | omega | assumption) rfl)) ?_)
    all_goals (refine al_d rfl rfl rfl (by exact opd_eql rfl rfl rfl) ?_)
    all_goals (refine al_d rfl rfl rfl (by exact opd_move rfl rfl) ?_)
    all_goals (first | refine al_split (t := 10) rfl (fun h10 => ?_) (fun h10 => ?_) | refine al_dup (t := 10) rfl ?_ | skip)
    all_goals (try contradiction)
    all_goals (first | refine al_off rfl rfl rfl rfl rfl ?_ | refine al_offu rfl rfl rfl rfl ?_ | refine al_ond rfl rfl rfl rfl rfl rfl (by exact opd_move rfl rfl) ?_)
    all_goals (first | refine al_off rfl rfl rfl rfl rfl ?_ | refine al_offu rfl rfl rfl rfl ?_ | refine al_ond rfl rfl rfl rfl rfl rfl (by exact (by first | exact opd_load1_ref rfl Tryz.isAgg9 rfl rfl rfl rfl rfl | exact opd_load1_pad rfl Tryz.isAgg9 rfl (by first | omega | assumption) rfl)) ?_)
    all_goals (first | refine al_off rfl rfl rfl rfl rfl ?_ | refine al_offu rfl rfl rfl rfl ?_ | refine al_ond rfl rfl rfl rfl rfl rfl (by exact opd_seql rfl rfl rfl) ?_)
    all_goals (refine al_d rfl rfl rfl (by exact (by first | exact opd_pick_t rfl rfl rfl | exact opd_pick_f rfl rfl rfl | exact opd_pickt rfl rfl (by assumption) rfl | exact opd_pickf rfl rfl (by assumption) rfl | exact opd_pick rfl rfl rfl)) ?_)
    all_goals (refine al_d rfl rfl rfl (by exact opd_move rfl rfl) ?_)
    all_goals (first | refine al_split (t := 15) rfl (fun h15 => ?_) (fun h15 => ?_) | refine al_dup (t := 15) rfl ?_ | skip)
    all_goals (try contradiction)
    all_goals (first | refine al_off rfl rfl rfl rfl rfl ?_ | refine al_offu rfl rfl rfl rfl ?_ | refine al_ond rfl rfl rfl rfl rfl rfl (by exact (by first | exact opd_field_ref rfl fo42_1 rfl rfl rfl rfl | exact opd_field_pad rfl fo42_1 rfl rfl)) ?_)
    all_goals (first | refine al_off rfl rfl rfl rfl rfl ?_ | refine al_offu rfl rfl rfl rfl ?_ | refine al_ond rfl rfl rfl rfl rfl rfl (by exact (by first | exact opd_load1_ref rfl Tryz.isAgg3 rfl rfl rfl rfl rfl | exact opd_load1_pad rfl Tryz.isAgg3 rfl (by first | omega | assumption) rfl)) ?_)
    all_goals (first | refine al_off rfl rfl rfl rfl rfl ?_ | refine al_offu rfl rfl rfl rfl ?_ | refine al_ond rfl rfl rfl rfl rfl rfl (by exact opd_eql rfl rfl rfl) ?_)
    all_goals (first | refine al_off rfl rfl rfl rfl rfl ?_ | refine al_offu rfl rfl rfl rfl ?_ | refine al_ond rfl rfl rfl rfl rfl rfl (by exact opd_move rfl rfl) ?_)
    all_goals (first | refine al_split (t := 19) rfl (fun h19 => ?_) (fun h19 => ?_) | refine al_dup (t := 19) rfl ?_ | skip)
    all_goals (try contradiction)
    all_goals (first | refine al_off rfl rfl rfl rfl rfl ?_ | refine al_offu rfl rfl rfl rfl ?_ | refine al_ond rfl rfl rfl rfl rfl rfl (by exact (by first | exact opd_load1_ref rfl Tryz.isAgg67 rfl rfl rfl rfl rfl | exact opd_load1_pad rfl Tryz.isAgg67 rfl (by first | omega | assumption) rfl)) ?_)
    all_goals (first | refine al_off rfl rfl rfl rfl rfl ?_ | refine al_offu rfl rfl rfl rfl ?_ | refine al_ond rfl rfl rfl rfl rfl rfl (by exact opd_move rfl rfl) ?_)
    all_goals (first | refine al_off rfl rfl rfl rfl rfl ?_ | refine al_offu rfl rfl rfl rfl ?_ | refine al_ond rfl rfl rfl rfl rfl rfl (by exact x_lookup_set rfl Tryz.underlying67 Tryz.underlying9 rfl rfl rfl rfl rfl Tryz.zeroValue4 (.inl rfl)) ?_)
    all_goals (first | refine al_off rfl rfl rfl rfl rfl ?_ | refine al_offu rfl rfl rfl rfl ?_ | refine al_ond rfl rfl rfl rfl rfl rfl (by exact (by first | exact opd_pick_t rfl rfl rfl | exact opd_pick_f rfl rfl rfl | exact opd_pickt rfl rfl (by assumption) rfl | exact opd_pickf rfl rfl (by assumption) rfl | exact opd_pick rfl rfl rfl)) ?_)
    all_goals (refine al_d rfl rfl rfl (by exact (by first | exact opd_pick_t rfl rfl rfl | exact opd_pick_f rfl rfl rfl | exact opd_pickt rfl rfl (by assumption) rfl | exact opd_pickf rfl rfl (by assumption) rfl | exact opd_pick rfl rfl rfl)) ?_)
    all_goals (refine al_d rfl rfl rfl (by exact opd_assign rfl rfl) ?_)
    all_goals (refine al_nil ?_)
    all_goals (exact ⟨⟨_, rfl, by first | rfl | (simp only [gTwice, *]; rfl) | (simp_all [gTwice]; done) | (simp only [*, Bool.false_and, Bool.true_and, Bool.and_false, Bool.and_true, Bool.true_or, Bool.false_or, Bool.or_true, Bool.or_false, Bool.not_true, Bool.not_false]; done) | (simp_all; omega) | (simp_all [gTwice]; omega)⟩, rfl, rfl, rfl⟩)
  refine awp_seq ?_
  refine awp_region ?_
  refine al_d rfl rfl rfl (by exact (by first | exact opd_load1_ref rfl Tryz.isAgg67 rfl rfl rfl rfl rfl | exact opd_load1_pad rfl Tryz.isAgg67 rfl (by first | omega | assumption) rfl)) ?_
  refine al_d rfl rfl rfl (by exact opd_move rfl rfl) ?_
  refine al_d rfl rfl rfl (by exact opd_move rfl rfl) ?_
  refine al_n rfl rfl (by exact x_put_set (.inl rfl) Tryz.underlying67 Tryz.underlying9 rfl rfl rfl rfl rfl rfl rfl) ?_
  refine al_n rfl rfl (by exact (by first | exact x_store_all rfl Tryz.sizeOf9 rfl rfl rfl rfl rfl rfl rfl rfl | exact x_store1 rfl Tryz.sizeOf9 rfl rfl rfl rfl rfl rfl (by simp only [List.length_cons, List.length_nil]; omega) (by simp only [List.drop_succ_cons, List.drop_zero, List.take_succ_cons, List.take_zero, List.take_nil, List.map_cons, List.map_nil, List.set_cons_zero, List.set_cons_succ, List.cons_append, List.nil_append, encTag, encObj]; rfl) (by simp only [List.drop_succ_cons, List.drop_zero, List.take_succ_cons, List.take_zero, List.take_nil, List.map_cons, List.map_nil, List.set_cons_zero, List.set_cons_succ, List.cons_append, List.nil_append, encTag, encObj]; rfl) | exact x_store1 rfl Tryz.sizeOf9 rfl rfl rfl rfl rfl rfl (Nat.le_of_ble_eq_true rfl) rfl rfl)) ?_
  refine al_nil ?_
  refine awp_seq ?_
  -- guard at a region with tests: %bool 5 := ..
  refine awp_bool (t := 5) (n := 8) (X := gTwice o last L s || !gName s) ?_ ?_
  · all_goals (refine al_d rfl rfl rfl (by exact opd_move rfl rfl) ?_)
    all_goals (refine al_d rfl rfl rfl (by exact opd_move rfl rfl) ?_)
    all_goals (first | refine al_split (t := 29) rfl (fun h29 => ?_) (fun h29 => ?_) | refine al_dup (t := 29) rfl ?_ | skip)
    all_goals (try contradiction)
    all_goals (first | refine al_off rfl rfl rfl rfl rfl ?_ | refine al_offu rfl rfl rfl rfl ?_ | refine al_ond rfl rfl rfl rfl rfl rfl (by exact opd_move rfl rfl) ?_)
    all_goals (first | refine al_off rfl rfl rfl rfl rfl ?_ | refine al_offu rfl rfl rfl rfl ?_ | refine al_ond rfl rfl rfl rfl rfl rfl (by exact opr_call rfl rfl Tryz.call122 rfl (name_c s _ hs)) ?_)
    all_goals (first | refine al_off rfl rfl rfl rfl rfl ?_ | refine al_offu rfl rfl rfl rfl ?_ | refine al_ond rfl rfl rfl rfl rfl rfl (by exact opd_not rfl rfl) ?_)
    all_goals (refine al_d rfl rfl rfl (by exact (by first | exact opd_pick_t rfl rfl rfl | exact opd_pick_f rfl rfl rfl | exact opd_pickt rfl rfl (by assumption) rfl | exact opd_pickf rfl rfl (by assumption) rfl | exact opd_pick rfl rfl rfl)) ?_)
    all_goals (refine al_d rfl rfl rfl (by exact opd_assign rfl rfl) ?_)
    all_goals (refine al_nil ?_)
    all_goals (exact ⟨⟨_, rfl, by first | rfl | (simp only [*]; rfl) | (simp_all; done)⟩, rfl, rfl, rfl⟩)
  refine awp_ret ?_
  -- return
  refine aret1 (H' := vH o s (sput L s)) (.inr rfl) rfl (rval_tmp rfl) (Fin.wk (by first | (simp; done) | (simp; rfl)) ⟨⟨_, rfl, rfl⟩, (by first | (simp; done) | (simp; rfl) | exact clo_map _ _ _ | exact sob_clo _ _ | exact vH_clo _ _ _ _), ⟨_, rfl, rfl⟩, (by first | (simp; done) | (simp; rfl) | exact clo_map _ _ _ | exact sob_clo _ _ | exact vH_clo _ _ _ _), ⟨_, rfl, rfl⟩, (by first | (simp; done) | (simp; rfl) | exact clo_map _ _ _ | exact sob_clo _ _ | exact vH_clo _ _ _ _), ⟨_, rfl, rfl⟩, (by first | (simp; done) | (simp; rfl) | exact clo_map _ _ _ | exact sob_clo _ _ | exact vH_clo _ _ _ _), trivial⟩ ⟨rfl, rfl, rfl, rfl, trivial⟩) ?_
  exact ⟨rfl, rfl⟩
/-- The keys that have come. -/
def seenL (l : List ByteArray) : Nat → List ByteArray
  | 0 => []
  | k + 1 => sput (seenL l k) ((l[k]?).getD sNil)
def wrongAt (o : GObj) (k : Nat) : Bool := match o.refs[k]? with
  | some s => gWrong o (before id o.refs k) (seenL o.refs k) s
  | none => false
def gKind (o : GObj) : Bool := if o.kind = 1 then decide ((o.refs.length : Int) = 0) && gOn o.x o.y else if o.kind = 5 then decide ((o.refs.length : Int) = 3) && (decide (o.x = 0) && decide (o.y = 0)) else decide (o.x = 0) && decide (o.y = 0)
def gHeadN (o : GObj) (n : Int) : Bool := decide (gWord o.kind = sNil) || !gName o.id || !gTags o.tags || decide (n < gLeast o.kind) || decide (2000 < n)
def gHead (o : GObj) : Bool := gHeadN o (o.refs.length : Int)
def gObj (o : GObj) : Bool := !gHead o && (!((List.range o.refs.length).any (wrongAt o)) && gKind o)
def okO (o : GObj) : Prop := o.id.size < 4611686018427387904 ∧ okTags o.tags ∧ o.refs.length < 4611686018427387904 ∧ ∀ s ∈ o.refs, s.size < 4611686018427387904
theorem word_kind {k : Int} (h : decide (gWord k = sNil) = false) : 0 ≤ k ∧ k < 6 := by
  by_cases h0 : 0 ≤ k ∧ k < 6
  · exact h0
  · have : gWord k = sNil := by
      have hn : ¬ (k = 1) ∧ ¬ (k = 2) ∧ ¬ (k = 3) ∧ ¬ (k = 4) ∧ ¬ (k = 5) := by omega
      simp only [gWord, hn.1, hn.2.1, hn.2.2.1, hn.2.2.2.1, hn.2.2.2.2, if_false]
    rw [this] at h
    simp at h
theorem objValid_c (o : GObj) (H : Heap) (ho : okO o) : ACalls Tryz.prog 68 [av (encObj o)] H (fun r H' => r = bv (gObj o) ∧ H' = H) := by
  refine ACalls.pure ?_ (by simp) H
  obtain ⟨h1, h2, h3, h4⟩ := ho
  have hml : (o.refs.map encStr).length = o.refs.length := List.length_map _
  refine ACalls.body Tryz.func68 rfl Tryz.ntmps68 (Nat.le_of_ble_eq_true rfl) ?_
  refine awp_seq ?_
  refine awp_region ?_
  refine al_d rfl rfl rfl (by exact opd_box (id := 1) rfl rfl rfl rfl rfl) ?_
  refine al_d rfl rfl rfl (by exact opd_assign rfl rfl) ?_
  refine al_nil ?_
  refine awp_seq ?_
  refine awp_seq ?_
  refine awp_mergeR (t := 36) (n := 31) (X := gHeadN o ((o.refs.map encStr).length : Int)) ?_ ?_
  · cases hg10 : (decide (gWord o.kind = sNil) : Bool)
    · cases hg16 : (!gName o.id : Bool)
      · cases hg22 : (!gTags o.tags : Bool)
        · cases hg31 : (decide (((o.refs.map encStr).length : Int) < gLeast o.kind) : Bool)
          · refine awp_drawc follows ?_
            refine dc_cons (DStep.q rfl (by exact (by first | exact opd_field_ref rfl fo42_1 rfl rfl rfl rfl | exact opd_field_pad rfl fo42_1 rfl rfl))) rfl ?_
            refine dc_cons (DStep.q rfl (by exact (by first | exact opd_load1_ref rfl Tryz.isAgg3 rfl rfl rfl rfl rfl | exact opd_load1_pad rfl Tryz.isAgg3 rfl (by first | omega | assumption) rfl))) rfl ?_
            refine dc_cons (DStep.q rfl (by exact opr_call rfl rfl Tryz.call123 rfl (word_c o.kind _))) rfl ?_
            refine dc_cons (DStep.q rfl (by exact opd_seql rfl rfl rfl)) rfl ?_
            refine dc_cons (DStep.q rfl (by exact opd_move rfl rfl)) rfl ?_
            refine dc_cons (q_on_f rfl rfl rfl (by first | rfl | assumption) (by exact (by first | exact opd_field_ref rfl fo42_0 rfl rfl rfl rfl | exact opd_field_pad rfl fo42_0 rfl rfl))) rfl ?_
            refine dc_cons (q_on_f rfl rfl rfl (by first | rfl | assumption) (by exact (by first | exact opd_load1_ref rfl Tryz.isAgg9 rfl rfl rfl rfl rfl | exact opd_load1_pad rfl Tryz.isAgg9 rfl (by first | omega | assumption) rfl))) rfl ?_
            refine dc_cons (q_on_f rfl rfl rfl (by first | rfl | assumption) (by exact opr_call rfl rfl Tryz.call122 rfl (name_c o.id _ h1))) rfl ?_
            refine dc_cons (q_on_f rfl rfl rfl (by first | rfl | assumption) (by exact opd_not rfl rfl)) rfl ?_
            refine dc_cons (DStep.q rfl (by exact (by first | exact opd_pick_t rfl rfl rfl | exact opd_pick_f rfl rfl rfl | exact opd_pickt rfl rfl (by assumption) rfl | exact opd_pickf rfl rfl (by assumption) rfl | exact opd_pick rfl rfl rfl))) rfl ?_
            refine dc_cons (DStep.q rfl (by exact opd_move rfl rfl)) rfl ?_
            refine dc_cons (q_on_f rfl rfl rfl (by first | rfl | assumption) (by exact (by first | exact opd_field_ref rfl fo42_4 rfl rfl rfl rfl | exact opd_field_pad rfl fo42_4 rfl rfl))) rfl ?_
            refine dc_cons (q_on_f rfl rfl rfl (by first | rfl | assumption) (by exact (by first | exact opd_load1_ref rfl Tryz.isAgg40 rfl rfl rfl rfl rfl | exact opd_load1_pad rfl Tryz.isAgg40 rfl (by first | omega | assumption) rfl))) rfl ?_
            refine dc_cons (q_on_f rfl rfl rfl (by first | rfl | assumption) (by exact opr_call rfl rfl Tryz.call124 rfl (tagValid_c o.tags _ h2))) rfl ?_
            refine dc_cons (q_on_f rfl rfl rfl (by first | rfl | assumption) (by exact opd_not rfl rfl)) rfl ?_
            refine dc_cons (DStep.q rfl (by exact (by first | exact opd_pick_t rfl rfl rfl | exact opd_pick_f rfl rfl rfl | exact opd_pickt rfl rfl (by assumption) rfl | exact opd_pickf rfl rfl (by assumption) rfl | exact opd_pick rfl rfl rfl))) rfl ?_
            refine dc_cons (DStep.q rfl (by exact opd_move rfl rfl)) rfl ?_
            refine dc_cons (q_on_f rfl rfl rfl (by first | rfl | assumption) (by exact (by first | exact opd_field_ref rfl fo42_3 rfl rfl rfl rfl | exact opd_field_pad rfl fo42_3 rfl rfl))) rfl ?_
            refine dc_cons (q_on_f rfl rfl rfl (by first | rfl | assumption) (by exact (by first | exact opd_load1_ref rfl Tryz.isAgg39 rfl rfl rfl rfl rfl | exact opd_load1_pad rfl Tryz.isAgg39 rfl (by first | omega | assumption) rfl))) rfl ?_
            refine dc_cons (q_on_f rfl rfl rfl (by first | rfl | assumption) (by exact (by first | exact opd_len_sl rfl Tryz.underlying39 rfl | exact opd_len_osl rfl Tryz.underlying39 rfl rfl rfl))) rfl ?_
            refine dc_cons (q_on_f rfl rfl rfl (by first | rfl | assumption) (by exact (by first | exact opd_field_ref rfl fo42_1 rfl rfl rfl rfl | exact opd_field_pad rfl fo42_1 rfl rfl))) rfl ?_
            refine dc_cons (q_on_f rfl rfl rfl (by first | rfl | assumption) (by exact (by first | exact opd_load1_ref rfl Tryz.isAgg3 rfl rfl rfl rfl rfl | exact opd_load1_pad rfl Tryz.isAgg3 rfl (by first | omega | assumption) rfl))) rfl ?_
            refine dc_cons (q_on_f rfl rfl rfl (by first | rfl | assumption) (by exact opr_call rfl rfl Tryz.call125 rfl (least_c o.kind _ (word_kind hg10).1 (word_kind hg10).2))) rfl ?_
            refine dc_cons (q_on_f rfl rfl rfl (by first | rfl | assumption) (by exact opd_lss rfl rfl rfl)) rfl ?_
            refine dc_cons (DStep.q rfl (by exact (by first | exact opd_pick_t rfl rfl rfl | exact opd_pick_f rfl rfl rfl | exact opd_pickt rfl rfl (by assumption) rfl | exact opd_pickf rfl rfl (by assumption) rfl | exact opd_pick rfl rfl rfl))) rfl ?_
            refine dc_cons (DStep.q rfl (by exact opd_move rfl rfl)) rfl ?_
            refine dc_cons (q_on_f rfl rfl rfl (by first | rfl | assumption) (by exact (by first | exact opd_field_ref rfl fo42_3 rfl rfl rfl rfl | exact opd_field_pad rfl fo42_3 rfl rfl))) rfl ?_
            refine dc_cons (q_on_f rfl rfl rfl (by first | rfl | assumption) (by exact (by first | exact opd_load1_ref rfl Tryz.isAgg39 rfl rfl rfl rfl rfl | exact opd_load1_pad rfl Tryz.isAgg39 rfl (by first | omega | assumption) rfl))) rfl ?_
            refine dc_cons (q_on_f rfl rfl rfl (by first | rfl | assumption) (by exact (by first | exact opd_len_sl rfl Tryz.underlying39 rfl | exact opd_len_osl rfl Tryz.underlying39 rfl rfl rfl))) rfl ?_
            refine dc_cons (q_on_f rfl rfl rfl (by first | rfl | assumption) (by exact opd_gtr rfl rfl rfl)) rfl ?_
            refine dc_cons (DStep.q rfl (by exact (by first | exact opd_pick_t rfl rfl rfl | exact opd_pick_f rfl rfl rfl | exact opd_pickt rfl rfl (by assumption) rfl | exact opd_pickf rfl rfl (by assumption) rfl | exact opd_pick rfl rfl rfl))) rfl ?_
            refine dc_nil ⟨by kernel_rfl, ?_⟩
            exact ⟨rfl, ⟨_, rfl, by first | rfl | (simp only [gHeadN, *]; rfl) | (simp only [gHeadN, hg10, hg16, hg22, hg31]; rfl)⟩, rfl, rfl, rfl⟩
          · refine awp_drawc follows ?_
            refine dc_cons (DStep.q rfl (by exact (by first | exact opd_field_ref rfl fo42_1 rfl rfl rfl rfl | exact opd_field_pad rfl fo42_1 rfl rfl))) rfl ?_
            refine dc_cons (DStep.q rfl (by exact (by first | exact opd_load1_ref rfl Tryz.isAgg3 rfl rfl rfl rfl rfl | exact opd_load1_pad rfl Tryz.isAgg3 rfl (by first | omega | assumption) rfl))) rfl ?_
            refine dc_cons (DStep.q rfl (by exact opr_call rfl rfl Tryz.call123 rfl (word_c o.kind _))) rfl ?_
            refine dc_cons (DStep.q rfl (by exact opd_seql rfl rfl rfl)) rfl ?_
            refine dc_cons (DStep.q rfl (by exact opd_move rfl rfl)) rfl ?_
            refine dc_cons (q_on_f rfl rfl rfl (by first | rfl | assumption) (by exact (by first | exact opd_field_ref rfl fo42_0 rfl rfl rfl rfl | exact opd_field_pad rfl fo42_0 rfl rfl))) rfl ?_
            refine dc_cons (q_on_f rfl rfl rfl (by first | rfl | assumption) (by exact (by first | exact opd_load1_ref rfl Tryz.isAgg9 rfl rfl rfl rfl rfl | exact opd_load1_pad rfl Tryz.isAgg9 rfl (by first | omega | assumption) rfl))) rfl ?_
            refine dc_cons (q_on_f rfl rfl rfl (by first | rfl | assumption) (by exact opr_call rfl rfl Tryz.call122 rfl (name_c o.id _ h1))) rfl ?_
            refine dc_cons (q_on_f rfl rfl rfl (by first | rfl | assumption) (by exact opd_not rfl rfl)) rfl ?_
            refine dc_cons (DStep.q rfl (by exact (by first | exact opd_pick_t rfl rfl rfl | exact opd_pick_f rfl rfl rfl | exact opd_pickt rfl rfl (by assumption) rfl | exact opd_pickf rfl rfl (by assumption) rfl | exact opd_pick rfl rfl rfl))) rfl ?_
            refine dc_cons (DStep.q rfl (by exact opd_move rfl rfl)) rfl ?_
            refine dc_cons (q_on_f rfl rfl rfl (by first | rfl | assumption) (by exact (by first | exact opd_field_ref rfl fo42_4 rfl rfl rfl rfl | exact opd_field_pad rfl fo42_4 rfl rfl))) rfl ?_
            refine dc_cons (q_on_f rfl rfl rfl (by first | rfl | assumption) (by exact (by first | exact opd_load1_ref rfl Tryz.isAgg40 rfl rfl rfl rfl rfl | exact opd_load1_pad rfl Tryz.isAgg40 rfl (by first | omega | assumption) rfl))) rfl ?_
            refine dc_cons (q_on_f rfl rfl rfl (by first | rfl | assumption) (by exact opr_call rfl rfl Tryz.call124 rfl (tagValid_c o.tags _ h2))) rfl ?_
            refine dc_cons (q_on_f rfl rfl rfl (by first | rfl | assumption) (by exact opd_not rfl rfl)) rfl ?_
            refine dc_cons (DStep.q rfl (by exact (by first | exact opd_pick_t rfl rfl rfl | exact opd_pick_f rfl rfl rfl | exact opd_pickt rfl rfl (by assumption) rfl | exact opd_pickf rfl rfl (by assumption) rfl | exact opd_pick rfl rfl rfl))) rfl ?_
            refine dc_cons (DStep.q rfl (by exact opd_move rfl rfl)) rfl ?_
            refine dc_cons (q_on_f rfl rfl rfl (by first | rfl | assumption) (by exact (by first | exact opd_field_ref rfl fo42_3 rfl rfl rfl rfl | exact opd_field_pad rfl fo42_3 rfl rfl))) rfl ?_
            refine dc_cons (q_on_f rfl rfl rfl (by first | rfl | assumption) (by exact (by first | exact opd_load1_ref rfl Tryz.isAgg39 rfl rfl rfl rfl rfl | exact opd_load1_pad rfl Tryz.isAgg39 rfl (by first | omega | assumption) rfl))) rfl ?_
            refine dc_cons (q_on_f rfl rfl rfl (by first | rfl | assumption) (by exact (by first | exact opd_len_sl rfl Tryz.underlying39 rfl | exact opd_len_osl rfl Tryz.underlying39 rfl rfl rfl))) rfl ?_
            refine dc_cons (q_on_f rfl rfl rfl (by first | rfl | assumption) (by exact (by first | exact opd_field_ref rfl fo42_1 rfl rfl rfl rfl | exact opd_field_pad rfl fo42_1 rfl rfl))) rfl ?_
            refine dc_cons (q_on_f rfl rfl rfl (by first | rfl | assumption) (by exact (by first | exact opd_load1_ref rfl Tryz.isAgg3 rfl rfl rfl rfl rfl | exact opd_load1_pad rfl Tryz.isAgg3 rfl (by first | omega | assumption) rfl))) rfl ?_
            refine dc_cons (q_on_f rfl rfl rfl (by first | rfl | assumption) (by exact opr_call rfl rfl Tryz.call125 rfl (least_c o.kind _ (word_kind hg10).1 (word_kind hg10).2))) rfl ?_
            refine dc_cons (q_on_f rfl rfl rfl (by first | rfl | assumption) (by exact opd_lss rfl rfl rfl)) rfl ?_
            refine dc_cons (DStep.q rfl (by exact (by first | exact opd_pick_t rfl rfl rfl | exact opd_pick_f rfl rfl rfl | exact opd_pickt rfl rfl (by assumption) rfl | exact opd_pickf rfl rfl (by assumption) rfl | exact opd_pick rfl rfl rfl))) rfl ?_
            refine dc_cons (DStep.q rfl (by exact opd_move rfl rfl)) rfl ?_
            refine dc_cons (q_off_f rfl rfl rfl (by first | rfl | assumption)) rfl ?_
            refine dc_cons (q_off_f rfl rfl rfl (by first | rfl | assumption)) rfl ?_
            refine dc_cons (q_off_f rfl rfl rfl (by first | rfl | assumption)) rfl ?_
            refine dc_cons (q_off_f rfl rfl rfl (by first | rfl | assumption)) rfl ?_
            refine dc_cons (DStep.q rfl (by exact (by first | exact opd_pick_t rfl rfl rfl | exact opd_pick_f rfl rfl rfl | exact opd_pickt rfl rfl (by assumption) rfl | exact opd_pickf rfl rfl (by assumption) rfl | exact opd_pick rfl rfl rfl))) rfl ?_
            refine dc_nil ⟨by kernel_rfl, ?_⟩
            exact ⟨rfl, ⟨_, rfl, by first | rfl | (simp only [gHeadN, *]; rfl) | (simp only [gHeadN, hg10, hg16, hg22, hg31]; rfl)⟩, rfl, rfl, rfl⟩
        · refine awp_drawc follows ?_
          refine dc_cons (DStep.q rfl (by exact (by first | exact opd_field_ref rfl fo42_1 rfl rfl rfl rfl | exact opd_field_pad rfl fo42_1 rfl rfl))) rfl ?_
          refine dc_cons (DStep.q rfl (by exact (by first | exact opd_load1_ref rfl Tryz.isAgg3 rfl rfl rfl rfl rfl | exact opd_load1_pad rfl Tryz.isAgg3 rfl (by first | omega | assumption) rfl))) rfl ?_
          refine dc_cons (DStep.q rfl (by exact opr_call rfl rfl Tryz.call123 rfl (word_c o.kind _))) rfl ?_
          refine dc_cons (DStep.q rfl (by exact opd_seql rfl rfl rfl)) rfl ?_
          refine dc_cons (DStep.q rfl (by exact opd_move rfl rfl)) rfl ?_
          refine dc_cons (q_on_f rfl rfl rfl (by first | rfl | assumption) (by exact (by first | exact opd_field_ref rfl fo42_0 rfl rfl rfl rfl | exact opd_field_pad rfl fo42_0 rfl rfl))) rfl ?_
          refine dc_cons (q_on_f rfl rfl rfl (by first | rfl | assumption) (by exact (by first | exact opd_load1_ref rfl Tryz.isAgg9 rfl rfl rfl rfl rfl | exact opd_load1_pad rfl Tryz.isAgg9 rfl (by first | omega | assumption) rfl))) rfl ?_
          refine dc_cons (q_on_f rfl rfl rfl (by first | rfl | assumption) (by exact opr_call rfl rfl Tryz.call122 rfl (name_c o.id _ h1))) rfl ?_
          refine dc_cons (q_on_f rfl rfl rfl (by first | rfl | assumption) (by exact opd_not rfl rfl)) rfl ?_
          refine dc_cons (DStep.q rfl (by exact (by first | exact opd_pick_t rfl rfl rfl | exact opd_pick_f rfl rfl rfl | exact opd_pickt rfl rfl (by assumption) rfl | exact opd_pickf rfl rfl (by assumption) rfl | exact opd_pick rfl rfl rfl))) rfl ?_
          refine dc_cons (DStep.q rfl (by exact opd_move rfl rfl)) rfl ?_
          refine dc_cons (q_on_f rfl rfl rfl (by first | rfl | assumption) (by exact (by first | exact opd_field_ref rfl fo42_4 rfl rfl rfl rfl | exact opd_field_pad rfl fo42_4 rfl rfl))) rfl ?_
          refine dc_cons (q_on_f rfl rfl rfl (by first | rfl | assumption) (by exact (by first | exact opd_load1_ref rfl Tryz.isAgg40 rfl rfl rfl rfl rfl | exact opd_load1_pad rfl Tryz.isAgg40 rfl (by first | omega | assumption) rfl))) rfl ?_
          refine dc_cons (q_on_f rfl rfl rfl (by first | rfl | assumption) (by exact opr_call rfl rfl Tryz.call124 rfl (tagValid_c o.tags _ h2))) rfl ?_
          refine dc_cons (q_on_f rfl rfl rfl (by first | rfl | assumption) (by exact opd_not rfl rfl)) rfl ?_
          refine dc_cons (DStep.q rfl (by exact (by first | exact opd_pick_t rfl rfl rfl | exact opd_pick_f rfl rfl rfl | exact opd_pickt rfl rfl (by assumption) rfl | exact opd_pickf rfl rfl (by assumption) rfl | exact opd_pick rfl rfl rfl))) rfl ?_
          refine dc_cons (DStep.q rfl (by exact opd_move rfl rfl)) rfl ?_
          refine dc_cons (q_off_f rfl rfl rfl (by first | rfl | assumption)) rfl ?_
          refine dc_cons (q_off_f rfl rfl rfl (by first | rfl | assumption)) rfl ?_
          refine dc_cons (q_off_f rfl rfl rfl (by first | rfl | assumption)) rfl ?_
          refine dc_cons (q_off_f rfl rfl rfl (by first | rfl | assumption)) rfl ?_
          refine dc_cons (q_off_f rfl rfl rfl (by first | rfl | assumption)) rfl ?_
          refine dc_cons (q_off_f rfl rfl rfl (by first | rfl | assumption)) rfl ?_
          refine dc_cons (q_off_f rfl rfl rfl (by first | rfl | assumption)) rfl ?_
          refine dc_cons (DStep.q rfl (by exact (by first | exact opd_pick_t rfl rfl rfl | exact opd_pick_f rfl rfl rfl | exact opd_pickt rfl rfl (by assumption) rfl | exact opd_pickf rfl rfl (by assumption) rfl | exact opd_pick rfl rfl rfl))) rfl ?_
          refine dc_cons (DStep.q rfl (by exact opd_move rfl rfl)) rfl ?_
          refine dc_cons (q_off_f rfl rfl rfl (by first | rfl | assumption)) rfl ?_
          refine dc_cons (q_off_f rfl rfl rfl (by first | rfl | assumption)) rfl ?_
          refine dc_cons (q_off_f rfl rfl rfl (by first | rfl | assumption)) rfl ?_
          refine dc_cons (q_off_f rfl rfl rfl (by first | rfl | assumption)) rfl ?_
          refine dc_cons (DStep.q rfl (by exact (by first | exact opd_pick_t rfl rfl rfl | exact opd_pick_f rfl rfl rfl | exact opd_pickt rfl rfl (by assumption) rfl | exact opd_pickf rfl rfl (by assumption) rfl | exact opd_pick rfl rfl rfl))) rfl ?_
          refine dc_nil ⟨by kernel_rfl, ?_⟩
          exact ⟨rfl, ⟨_, rfl, by first | rfl | (simp only [gHeadN, *]; rfl) | (simp only [gHeadN, hg10, hg16, hg22, hg31]; rfl)⟩, rfl, rfl, rfl⟩
      · refine awp_drawc follows ?_
        refine dc_cons (DStep.q rfl (by exact (by first | exact opd_field_ref rfl fo42_1 rfl rfl rfl rfl | exact opd_field_pad rfl fo42_1 rfl rfl))) rfl ?_
        refine dc_cons (DStep.q rfl (by exact (by first | exact opd_load1_ref rfl Tryz.isAgg3 rfl rfl rfl rfl rfl | exact opd_load1_pad rfl Tryz.isAgg3 rfl (by first | omega | assumption) rfl))) rfl ?_
        refine dc_cons (DStep.q rfl (by exact opr_call rfl rfl Tryz.call123 rfl (word_c o.kind _))) rfl ?_
        refine dc_cons (DStep.q rfl (by exact opd_seql rfl rfl rfl)) rfl ?_
        refine dc_cons (DStep.q rfl (by exact opd_move rfl rfl)) rfl ?_
        refine dc_cons (q_on_f rfl rfl rfl (by first | rfl | assumption) (by exact (by first | exact opd_field_ref rfl fo42_0 rfl rfl rfl rfl | exact opd_field_pad rfl fo42_0 rfl rfl))) rfl ?_
        refine dc_cons (q_on_f rfl rfl rfl (by first | rfl | assumption) (by exact (by first | exact opd_load1_ref rfl Tryz.isAgg9 rfl rfl rfl rfl rfl | exact opd_load1_pad rfl Tryz.isAgg9 rfl (by first | omega | assumption) rfl))) rfl ?_
        refine dc_cons (q_on_f rfl rfl rfl (by first | rfl | assumption) (by exact opr_call rfl rfl Tryz.call122 rfl (name_c o.id _ h1))) rfl ?_
        refine dc_cons (q_on_f rfl rfl rfl (by first | rfl | assumption) (by exact opd_not rfl rfl)) rfl ?_
        refine dc_cons (DStep.q rfl (by exact (by first | exact opd_pick_t rfl rfl rfl | exact opd_pick_f rfl rfl rfl | exact opd_pickt rfl rfl (by assumption) rfl | exact opd_pickf rfl rfl (by assumption) rfl | exact opd_pick rfl rfl rfl))) rfl ?_
        refine dc_cons (DStep.q rfl (by exact opd_move rfl rfl)) rfl ?_
        refine dc_cons (q_off_f rfl rfl rfl (by first | rfl | assumption)) rfl ?_
        refine dc_cons (q_off_f rfl rfl rfl (by first | rfl | assumption)) rfl ?_
        refine dc_cons (q_off_f rfl rfl rfl (by first | rfl | assumption)) rfl ?_
        refine dc_cons (q_off_f rfl rfl rfl (by first | rfl | assumption)) rfl ?_
        refine dc_cons (DStep.q rfl (by exact (by first | exact opd_pick_t rfl rfl rfl | exact opd_pick_f rfl rfl rfl | exact opd_pickt rfl rfl (by assumption) rfl | exact opd_pickf rfl rfl (by assumption) rfl | exact opd_pick rfl rfl rfl))) rfl ?_
        refine dc_cons (DStep.q rfl (by exact opd_move rfl rfl)) rfl ?_
        refine dc_cons (q_off_f rfl rfl rfl (by first | rfl | assumption)) rfl ?_
        refine dc_cons (q_off_f rfl rfl rfl (by first | rfl | assumption)) rfl ?_
        refine dc_cons (q_off_f rfl rfl rfl (by first | rfl | assumption)) rfl ?_
        refine dc_cons (q_off_f rfl rfl rfl (by first | rfl | assumption)) rfl ?_
        refine dc_cons (q_off_f rfl rfl rfl (by first | rfl | assumption)) rfl ?_
        refine dc_cons (q_off_f rfl rfl rfl (by first | rfl | assumption)) rfl ?_
        refine dc_cons (q_off_f rfl rfl rfl (by first | rfl | assumption)) rfl ?_
        refine dc_cons (DStep.q rfl (by exact (by first | exact opd_pick_t rfl rfl rfl | exact opd_pick_f rfl rfl rfl | exact opd_pickt rfl rfl (by assumption) rfl | exact opd_pickf rfl rfl (by assumption) rfl | exact opd_pick rfl rfl rfl))) rfl ?_
        refine dc_cons (DStep.q rfl (by exact opd_move rfl rfl)) rfl ?_
        refine dc_cons (q_off_f rfl rfl rfl (by first | rfl | assumption)) rfl ?_
        refine dc_cons (q_off_f rfl rfl rfl (by first | rfl | assumption)) rfl ?_
        refine dc_cons (q_off_f rfl rfl rfl (by first | rfl | assumption)) rfl ?_
        refine dc_cons (q_off_f rfl rfl rfl (by first | rfl | assumption)) rfl ?_
        refine dc_cons (DStep.q rfl (by exact (by first | exact opd_pick_t rfl rfl rfl | exact opd_pick_f rfl rfl rfl | exact opd_pickt rfl rfl (by assumption) rfl | exact opd_pickf rfl rfl (by assumption) rfl | exact opd_pick rfl rfl rfl))) rfl ?_
        refine dc_nil ⟨by kernel_rfl, ?_⟩
        exact ⟨rfl, ⟨_, rfl, by first | rfl | (simp only [gHeadN, *]; rfl) | (simp only [gHeadN, hg10, hg16, hg22, hg31]; rfl)⟩, rfl, rfl, rfl⟩
    · refine awp_drawc follows ?_
      refine dc_cons (DStep.q rfl (by exact (by first | exact opd_field_ref rfl fo42_1 rfl rfl rfl rfl | exact opd_field_pad rfl fo42_1 rfl rfl))) rfl ?_
      refine dc_cons (DStep.q rfl (by exact (by first | exact opd_load1_ref rfl Tryz.isAgg3 rfl rfl rfl rfl rfl | exact opd_load1_pad rfl Tryz.isAgg3 rfl (by first | omega | assumption) rfl))) rfl ?_
      refine dc_cons (DStep.q rfl (by exact opr_call rfl rfl Tryz.call123 rfl (word_c o.kind _))) rfl ?_
      refine dc_cons (DStep.q rfl (by exact opd_seql rfl rfl rfl)) rfl ?_
      refine dc_cons (DStep.q rfl (by exact opd_move rfl rfl)) rfl ?_
      refine dc_cons (q_off_f rfl rfl rfl (by first | rfl | assumption)) rfl ?_
      refine dc_cons (q_off_f rfl rfl rfl (by first | rfl | assumption)) rfl ?_
      refine dc_cons (q_off_f rfl rfl rfl (by first | rfl | assumption)) rfl ?_
      refine dc_cons (q_off_f rfl rfl rfl (by first | rfl | assumption)) rfl ?_
      refine dc_cons (DStep.q rfl (by exact (by first | exact opd_pick_t rfl rfl rfl | exact opd_pick_f rfl rfl rfl | exact opd_pickt rfl rfl (by assumption) rfl | exact opd_pickf rfl rfl (by assumption) rfl | exact opd_pick rfl rfl rfl))) rfl ?_
      refine dc_cons (DStep.q rfl (by exact opd_move rfl rfl)) rfl ?_
      refine dc_cons (q_off_f rfl rfl rfl (by first | rfl | assumption)) rfl ?_
      refine dc_cons (q_off_f rfl rfl rfl (by first | rfl | assumption)) rfl ?_
      refine dc_cons (q_off_f rfl rfl rfl (by first | rfl | assumption)) rfl ?_
      refine dc_cons (q_off_f rfl rfl rfl (by first | rfl | assumption)) rfl ?_
      refine dc_cons (DStep.q rfl (by exact (by first | exact opd_pick_t rfl rfl rfl | exact opd_pick_f rfl rfl rfl | exact opd_pickt rfl rfl (by assumption) rfl | exact opd_pickf rfl rfl (by assumption) rfl | exact opd_pick rfl rfl rfl))) rfl ?_
      refine dc_cons (DStep.q rfl (by exact opd_move rfl rfl)) rfl ?_
      refine dc_cons (q_off_f rfl rfl rfl (by first | rfl | assumption)) rfl ?_
      refine dc_cons (q_off_f rfl rfl rfl (by first | rfl | assumption)) rfl ?_
      refine dc_cons (q_off_f rfl rfl rfl (by first | rfl | assumption)) rfl ?_
      refine dc_cons (q_off_f rfl rfl rfl (by first | rfl | assumption)) rfl ?_
      refine dc_cons (q_off_f rfl rfl rfl (by first | rfl | assumption)) rfl ?_
      refine dc_cons (q_off_f rfl rfl rfl (by first | rfl | assumption)) rfl ?_
      refine dc_cons (q_off_f rfl rfl rfl (by first | rfl | assumption)) rfl ?_
      refine dc_cons (DStep.q rfl (by exact (by first | exact opd_pick_t rfl rfl rfl | exact opd_pick_f rfl rfl rfl | exact opd_pickt rfl rfl (by assumption) rfl | exact opd_pickf rfl rfl (by assumption) rfl | exact opd_pick rfl rfl rfl))) rfl ?_
      refine dc_cons (DStep.q rfl (by exact opd_move rfl rfl)) rfl ?_
      refine dc_cons (q_off_f rfl rfl rfl (by first | rfl | assumption)) rfl ?_
      refine dc_cons (q_off_f rfl rfl rfl (by first | rfl | assumption)) rfl ?_
      refine dc_cons (q_off_f rfl rfl rfl (by first | rfl | assumption)) rfl ?_
      refine dc_cons (q_off_f rfl rfl rfl (by first | rfl | assumption)) rfl ?_
      refine dc_cons (DStep.q rfl (by exact (by first | exact opd_pick_t rfl rfl rfl | exact opd_pick_f rfl rfl rfl | exact opd_pickt rfl rfl (by assumption) rfl | exact opd_pickf rfl rfl (by assumption) rfl | exact opd_pick rfl rfl rfl))) rfl ?_
      refine dc_nil ⟨by kernel_rfl, ?_⟩
      exact ⟨rfl, ⟨_, rfl, by first | rfl | (simp only [gHeadN, *]; rfl) | (simp only [gHeadN, hg10, hg16, hg22, hg31]; rfl)⟩, rfl, rfl, rfl⟩
  refine awp_cond rfl (fun hc1 => ?_) (fun hc1 => ?_)
  -- cond 1
  · skip
    refine awp_seq ?_
    refine awp_region ?_
    refine al_d rfl rfl rfl (by exact opd_assign rfl rfl) ?_
    refine al_nil ?_
    refine awp_ret ?_
    -- return
    refine aret1 (H' := []) (by first | exact .inr rfl | exact .inl rfl) rfl (rval_tmp rfl) (Fin.wk (by simp) trivial trivial) ?_
    exact ⟨by rw [gObj, gHead, ← hml, hc1]; rfl, rfl⟩
  · skip
    refine awp_skip ?_
    refine awp_seq ?_
    refine awp_region ?_
    refine al_d rfl rfl rfl (by exact opd_makeMap (id := 37) strK rfl rfl) ?_
    refine al_d rfl rfl rfl (by exact x_alloc (id := 3) rfl zo67 rfl rfl) ?_
    refine al_n rfl rfl (by exact (by first | exact x_store_all rfl Tryz.sizeOf67 rfl rfl rfl rfl rfl rfl rfl rfl | exact x_store1 rfl Tryz.sizeOf67 rfl rfl rfl rfl rfl rfl (by simp only [List.length_cons, List.length_nil]; omega) (by simp only [List.drop_succ_cons, List.drop_zero, List.take_succ_cons, List.take_zero, List.take_nil, List.map_cons, List.map_nil, List.set_cons_zero, List.set_cons_succ, List.cons_append, List.nil_append, encTag, encObj]; rfl) (by simp only [List.drop_succ_cons, List.drop_zero, List.take_succ_cons, List.take_zero, List.take_nil, List.map_cons, List.map_nil, List.set_cons_zero, List.set_cons_succ, List.cons_append, List.nil_append, encTag, encObj]; rfl) | exact x_store1 rfl Tryz.sizeOf67 rfl rfl rfl rfl rfl rfl (Nat.le_of_ble_eq_true rfl) rfl rfl)) ?_
    refine al_nil ?_
    refine awp_seq ?_
    refine awp_region ?_
    refine al_d rfl rfl rfl (by exact x_alloc (id := 4) rfl zo9 rfl rfl) ?_
    refine al_n rfl rfl (by exact (by first | exact x_store_all rfl Tryz.sizeOf9 rfl rfl rfl rfl rfl rfl rfl rfl | exact x_store1 rfl Tryz.sizeOf9 rfl rfl rfl rfl rfl rfl (by simp only [List.length_cons, List.length_nil]; omega) (by simp only [List.drop_succ_cons, List.drop_zero, List.take_succ_cons, List.take_zero, List.take_nil, List.map_cons, List.map_nil, List.set_cons_zero, List.set_cons_succ, List.cons_append, List.nil_append, encTag, encObj]; rfl) (by simp only [List.drop_succ_cons, List.drop_zero, List.take_succ_cons, List.take_zero, List.take_nil, List.map_cons, List.map_nil, List.set_cons_zero, List.set_cons_succ, List.cons_append, List.nil_append, encTag, encObj]; rfl) | exact x_store1 rfl Tryz.sizeOf9 rfl rfl rfl rfl rfl rfl (Nat.le_of_ble_eq_true rfl) rfl rfl)) ?_
    refine al_nil ?_
    refine awp_seq_to ([(1, .ref 1 0 0 0), (5, .clo 126 [.ref 1 0 0 0, .ref 4 0 0 0, .ref 3 0 0 0])]) (vH o sNil []) ?_ ?_
    -- seqto
    · skip
      refine awp_region ?_
      refine al_d rfl rfl rfl (by exact opd_makeFunc rfl rfl) ?_
      refine al_d rfl rfl rfl (by exact opd_assign rfl rfl) ?_
      refine al_nil ?_
      -- end of the piece
      exact (Ent.wk ⟨⟨_, rfl, rfl⟩, (by first | (simp; done) | (simp; rfl) | exact clo_map _ _ _ | exact sob_clo _ _ | exact vH_clo _ _ _ _), ⟨_, rfl, rfl⟩, (by first | (simp; done) | (simp; rfl) | exact clo_map _ _ _ | exact sob_clo _ _ | exact vH_clo _ _ _ _), trivial⟩ ⟨⟨_, rfl, rfl⟩, (by first | (simp; done) | (simp; rfl) | exact clo_map _ _ _ | exact sob_clo _ _ | exact vH_clo _ _ _ _), ⟨_, rfl, rfl⟩, (by first | (simp; done) | (simp; rfl) | exact clo_map _ _ _ | exact sob_clo _ _ | exact vH_clo _ _ _ _), ⟨_, rfl, rfl⟩, (by first | (simp; done) | (simp; rfl) | exact clo_map _ _ _ | exact sob_clo _ _ | exact vH_clo _ _ _ _), ⟨_, rfl, rfl⟩, (by first | (simp; done) | (simp; rfl) | exact clo_map _ _ _ | exact sob_clo _ _ | exact vH_clo _ _ _ _), trivial⟩ trivial)
    · skip
      refine awp_seq ?_
      refine awp_seq ?_
      refine awp_region ?_
      refine al_d rfl rfl rfl (by exact (by first | exact opd_field_ref rfl fo42_3 rfl rfl rfl rfl | exact opd_field_pad rfl fo42_3 rfl rfl)) ?_
      refine al_d rfl rfl rfl (by exact (by first | exact opd_load1_ref rfl Tryz.isAgg39 rfl rfl rfl rfl rfl | exact opd_load1_pad rfl Tryz.isAgg39 rfl (by first | omega | assumption) rfl)) ?_
      refine al_d rfl rfl rfl (by exact opd_move rfl rfl) ?_
      refine al_d rfl rfl rfl (by exact opr_call rfl rfl Tryz.call120 rfl (containsFuncS _ o.refs (wrongAt o) (fun k => vH o (before id o.refs k) (seenL o.refs k)) h3 (fun k s hk => CallsV.clo Tryz.call126 (by rw [wrongAt, hk, before_succ hk]; simp only [seenL, hk]; exact valid1_c o _ s _ (h4 s (List.mem_of_getElem? hk)))))) ?_
      refine al_nil ?_
      refine awp_cond rfl (fun hc2 => ?_) (fun hc2 => ?_)
      -- cond 2
      · skip
        refine awp_seq ?_
        refine awp_region ?_
        refine al_d rfl rfl rfl (by exact opd_assign rfl rfl) ?_
        refine al_nil ?_
        refine awp_ret ?_
        -- return
        refine aret1 (H' := []) (by first | exact .inr rfl | exact .inl rfl) rfl (rval_tmp rfl) (Fin.wk (by simp) trivial trivial) ?_
        exact ⟨by rw [gObj, hc2]; simp, rfl⟩
      · have hfin : gObj o = gKind o := by have h := hc1; rw [hml] at h; rw [gObj, gHead, h, hc2]; rfl
        rw [hfin]
        clear hfin
        generalize before id o.refs (stopN (wrongAt o) o.refs.length) = la
        generalize seenL o.refs (stopN (wrongAt o) o.refs.length) = LL
        unfold vH
        refine awp_skip ?_
        refine awp_seq ?_
        refine awp_seq ?_
        refine awp_region ?_
        refine al_d rfl rfl rfl (by exact (by first | exact opd_field_ref rfl fo42_1 rfl rfl rfl rfl | exact opd_field_pad rfl fo42_1 rfl rfl)) ?_
        refine al_d rfl rfl rfl (by exact (by first | exact opd_load1_ref rfl Tryz.isAgg3 rfl rfl rfl rfl rfl | exact opd_load1_pad rfl Tryz.isAgg3 rfl (by first | omega | assumption) rfl)) ?_
        refine al_nil ?_
        refine awp_block ?_
        refine awp_seq ?_
        refine awp_region ?_
        refine al_d rfl rfl rfl (by exact opd_eql rfl rfl rfl) ?_
        refine al_d rfl rfl rfl (by exact opd_assign rfl rfl) ?_
        refine al_nil ?_
        refine awp_cond rfl (fun hc3 => ?_) (fun hc3 => ?_)
        -- cond 3
        · skip
          refine awp_seq ?_
          refine awp_bool (t := 2) (n := 11) (X := decide (((o.refs.map encStr).length : Int) = 0) && gOn o.x o.y) ?_ ?_
          · all_goals (refine al_d rfl rfl rfl (by exact (by first | exact opd_field_ref rfl fo42_3 rfl rfl rfl rfl | exact opd_field_pad rfl fo42_3 rfl rfl)) ?_)
            all_goals (refine al_d rfl rfl rfl (by exact (by first | exact opd_load1_ref rfl Tryz.isAgg39 rfl rfl rfl rfl rfl | exact opd_load1_pad rfl Tryz.isAgg39 rfl (by first | omega | assumption) rfl)) ?_)
            all_goals (refine al_d rfl rfl rfl (by exact (by first | exact opd_len_sl rfl Tryz.underlying39 rfl | exact opd_len_osl rfl Tryz.underlying39 rfl rfl rfl)) ?_)
            all_goals (refine al_d rfl rfl rfl (by exact opd_eql rfl rfl rfl) ?_)
            all_goals (refine al_d rfl rfl rfl (by exact opd_move rfl rfl) ?_)
            all_goals (first | refine al_split (t := 51) rfl (fun h51 => ?_) (fun h51 => ?_) | refine al_dup (t := 51) rfl ?_ | skip)
            all_goals (try contradiction)
            all_goals (first | refine al_off rfl rfl rfl rfl rfl ?_ | refine al_offu rfl rfl rfl rfl ?_ | refine al_ond rfl rfl rfl rfl rfl rfl (by exact (by first | exact opd_field_ref rfl fo42_2 rfl rfl rfl rfl | exact opd_field_pad rfl fo42_2 rfl rfl)) ?_)
            all_goals (first | refine al_off rfl rfl rfl rfl rfl ?_ | refine al_offu rfl rfl rfl rfl ?_ | refine al_ond rfl rfl rfl rfl rfl rfl (by exact (by first | exact opd_loadn_ref rfl Tryz.isAgg38 Tryz.sizeOf38 rfl rfl rfl rfl (by simp only [List.drop_succ_cons, List.drop_zero, List.take_succ_cons, List.take_zero, List.take_nil, List.map_cons, List.map_nil, List.set_cons_zero, List.set_cons_succ, List.cons_append, List.nil_append, encTag, encObj]; rfl) rfl | exact opd_loadn_pad rfl Tryz.isAgg38 Tryz.sizeOf38 rfl (by first | omega | assumption) (by simp only [List.drop_succ_cons, List.drop_zero, List.take_succ_cons, List.take_zero, List.take_nil, List.map_cons, List.map_nil, List.set_cons_zero, List.set_cons_succ, List.cons_append, List.nil_append, encTag, encObj]; rfl) rfl)) ?_)
            all_goals (first | refine al_off rfl rfl rfl rfl rfl ?_ | refine al_offu rfl rfl rfl rfl ?_ | refine al_ond rfl rfl rfl rfl rfl rfl (by exact opr_call rfl rfl Tryz.call127 rfl (on_c o.x o.y _)) ?_)
            all_goals (refine al_d rfl rfl rfl (by exact (by first | exact opd_pick_t rfl rfl rfl | exact opd_pick_f rfl rfl rfl | exact opd_pickt rfl rfl (by assumption) rfl | exact opd_pickf rfl rfl (by assumption) rfl | exact opd_pick rfl rfl rfl)) ?_)
            all_goals (refine al_d rfl rfl rfl (by exact opd_assign rfl rfl) ?_)
            all_goals (refine al_nil ?_)
            all_goals (exact ⟨⟨_, rfl, by first | rfl | (simp only [*, Bool.false_and, Bool.true_and, Bool.and_false, Bool.and_true]; done) | (simp_all; done)⟩, rfl, rfl, rfl⟩)
          refine awp_ret ?_
          -- return
          refine aret1 (H' := []) (by first | exact .inr rfl | exact .inl rfl) rfl (rval_tmp rfl) (Fin.wk (by simp) trivial trivial) ?_
          exact ⟨by rw [gKind, if_pos (of_decide_eq_true hc3), ← hml], rfl⟩
        · skip
          refine awp_seq ?_
          refine awp_region ?_
          refine al_d rfl rfl rfl (by exact opd_eql rfl rfl rfl) ?_
          refine al_d rfl rfl rfl (by exact opd_assign rfl rfl) ?_
          refine al_nil ?_
          refine awp_cond rfl (fun hc4 => ?_) (fun hc4 => ?_)
          -- cond 4
          · skip
            refine awp_seq ?_
            refine awp_bool (t := 2) (n := 12) (X := decide (((o.refs.map encStr).length : Int) = 3) && (decide (o.x = 0) && decide (o.y = 0))) ?_ ?_
            · all_goals (refine al_d rfl rfl rfl (by exact (by first | exact opd_field_ref rfl fo42_3 rfl rfl rfl rfl | exact opd_field_pad rfl fo42_3 rfl rfl)) ?_)
              all_goals (refine al_d rfl rfl rfl (by exact (by first | exact opd_load1_ref rfl Tryz.isAgg39 rfl rfl rfl rfl rfl | exact opd_load1_pad rfl Tryz.isAgg39 rfl (by first | omega | assumption) rfl)) ?_)
              all_goals (refine al_d rfl rfl rfl (by exact (by first | exact opd_len_sl rfl Tryz.underlying39 rfl | exact opd_len_osl rfl Tryz.underlying39 rfl rfl rfl)) ?_)
              all_goals (refine al_d rfl rfl rfl (by exact opd_eql rfl rfl rfl) ?_)
              all_goals (refine al_d rfl rfl rfl (by exact opd_move rfl rfl) ?_)
              all_goals (first | refine al_split (t := 62) rfl (fun h62 => ?_) (fun h62 => ?_) | refine al_dup (t := 62) rfl ?_ | skip)
              all_goals (try contradiction)
              all_goals (first | refine al_off rfl rfl rfl rfl rfl ?_ | refine al_offu rfl rfl rfl rfl ?_ | refine al_ond rfl rfl rfl rfl rfl rfl (by exact (by first | exact opd_field_ref rfl fo42_2 rfl rfl rfl rfl | exact opd_field_pad rfl fo42_2 rfl rfl)) ?_)
              all_goals (first | refine al_off rfl rfl rfl rfl rfl ?_ | refine al_offu rfl rfl rfl rfl ?_ | refine al_ond rfl rfl rfl rfl rfl rfl (by exact (by first | exact opd_loadn_ref rfl Tryz.isAgg38 Tryz.sizeOf38 rfl rfl rfl rfl (by simp only [List.drop_succ_cons, List.drop_zero, List.take_succ_cons, List.take_zero, List.take_nil, List.map_cons, List.map_nil, List.set_cons_zero, List.set_cons_succ, List.cons_append, List.nil_append, encTag, encObj]; rfl) rfl | exact opd_loadn_pad rfl Tryz.isAgg38 Tryz.sizeOf38 rfl (by first | omega | assumption) (by simp only [List.drop_succ_cons, List.drop_zero, List.take_succ_cons, List.take_zero, List.take_nil, List.map_cons, List.map_nil, List.set_cons_zero, List.set_cons_succ, List.cons_append, List.nil_append, encTag, encObj]; rfl) rfl)) ?_)
              all_goals (first | refine al_off rfl rfl rfl rfl rfl ?_ | refine al_offu rfl rfl rfl rfl ?_ | refine al_ond rfl rfl rfl rfl rfl rfl (by exact x_build rfl bo38 rfl rfl) ?_)
              all_goals (first | refine al_off rfl rfl rfl rfl rfl ?_ | refine al_offu rfl rfl rfl rfl ?_ | refine al_ond rfl rfl rfl rfl rfl rfl (by exact opd_aeql rfl rfl rfl rfl rfl Tryz.eqGuardType38 (se38 _ _ _ _)) ?_)
              all_goals (refine al_d rfl rfl rfl (by exact (by first | exact opd_pick_t rfl rfl rfl | exact opd_pick_f rfl rfl rfl | exact opd_pickt rfl rfl (by assumption) rfl | exact opd_pickf rfl rfl (by assumption) rfl | exact opd_pick rfl rfl rfl)) ?_)
              all_goals (refine al_d rfl rfl rfl (by exact opd_assign rfl rfl) ?_)
              all_goals (refine al_nil ?_)
              all_goals (exact ⟨⟨_, rfl, by first | rfl | (simp only [*, Bool.false_and, Bool.true_and, Bool.and_false, Bool.and_true]; done) | (simp_all; done)⟩, rfl, rfl, rfl⟩)
            refine awp_ret ?_
            -- return
            refine aret1 (H' := []) (by first | exact .inr rfl | exact .inl rfl) rfl (rval_tmp rfl) (Fin.wk (by simp) trivial trivial) ?_
            exact ⟨by rw [gKind, if_neg (of_decide_eq_false hc3), if_pos (of_decide_eq_true hc4), ← hml], rfl⟩
          · skip
            refine awp_skip ?_
            refine awp_seq ?_
            refine awp_region ?_
            refine al_d rfl rfl rfl (by exact (by first | exact opd_field_ref rfl fo42_2 rfl rfl rfl rfl | exact opd_field_pad rfl fo42_2 rfl rfl)) ?_
            refine al_d rfl rfl rfl (by exact (by first | exact opd_loadn_ref rfl Tryz.isAgg38 Tryz.sizeOf38 rfl rfl rfl rfl (by simp only [List.drop_succ_cons, List.drop_zero, List.take_succ_cons, List.take_zero, List.take_nil, List.map_cons, List.map_nil, List.set_cons_zero, List.set_cons_succ, List.cons_append, List.nil_append, encTag, encObj]; rfl) rfl | exact opd_loadn_pad rfl Tryz.isAgg38 Tryz.sizeOf38 rfl (by first | omega | assumption) (by simp only [List.drop_succ_cons, List.drop_zero, List.take_succ_cons, List.take_zero, List.take_nil, List.map_cons, List.map_nil, List.set_cons_zero, List.set_cons_succ, List.cons_append, List.nil_append, encTag, encObj]; rfl) rfl)) ?_
            refine al_d rfl rfl rfl (by exact x_build rfl bo38 rfl rfl) ?_
            refine al_d rfl rfl rfl (by exact opd_aeql rfl rfl rfl rfl rfl Tryz.eqGuardType38 (se38 _ _ _ _)) ?_
            refine al_d rfl rfl rfl (by exact opd_assign rfl rfl) ?_
            refine al_nil ?_
            refine awp_ret ?_
            -- return
            refine aret1 (H' := []) (by first | exact .inr rfl | exact .inl rfl) rfl (rval_tmp rfl) (Fin.wk (by simp) trivial trivial) ?_
            exact ⟨by rw [gKind, if_neg (of_decide_eq_false hc3), if_neg (of_decide_eq_false hc4)], rfl⟩
end Go.Proofs.YtdgoodjhndeojaaGreat
end
section
set_option linter.unusedVariables false
set_option linter.unusedSimpArgs false
set_option maxRecDepth 100000
namespace Go.Proofs.YtdgoodjhndeojaaGreat
open Go.Abs
def badObj (last : ByteArray) (o : GObj) : Bool := !gObj o || sle o.id last
def gMap (m : List GObj) : Bool := !((List.range m.length).any (badAt badObj GObj.id m)) && decide ((m.length : Int) ≤ 1000000)
def okM (m : List GObj) : Prop := m.length < 4611686018427387904 ∧ ∀ o ∈ m, okO o
theorem atlasValid_c (m : List GObj) (H : Heap) (hm : okM m) : ACalls Tryz.prog 35 [.agg [.pv (slObjs m)]] H (fun r H' => r = bv (gMap m) ∧ H' = H) := by
  refine ACalls.pure ?_ (by simp) H
  obtain ⟨hl, hos⟩ := hm
  have hml : (m.map encObj).length = m.length := List.length_map _
  refine ACalls.body Tryz.func35 rfl Tryz.ntmps35 (Nat.le_of_ble_eq_true rfl) ?_
  refine awp_seq ?_
  refine awp_region ?_
  refine al_d rfl rfl rfl (by exact opd_box (id := 1) rfl rfl rfl rfl rfl) ?_
  refine al_d rfl rfl rfl (by exact opd_assign rfl rfl) ?_
  refine al_nil ?_
  refine awp_seq ?_
  refine awp_region ?_
  refine al_d rfl rfl rfl (by exact opd_assign rfl rfl) ?_
  refine al_nil ?_
  refine awp_seq ?_
  refine awp_seq ?_
  refine awp_region ?_
  refine al_d rfl rfl rfl (by exact (by first | exact opd_field_ref rfl fo24_0 rfl rfl rfl rfl | exact opd_field_pad rfl fo24_0 rfl rfl)) ?_
  refine al_d rfl rfl rfl (by exact (by first | exact opd_load1_ref rfl Tryz.isAgg22 rfl rfl rfl rfl rfl | exact opd_load1_pad rfl Tryz.isAgg22 rfl (by first | omega | assumption) rfl)) ?_
  refine al_d rfl rfl rfl (by exact (by first | exact opd_len_sl rfl Tryz.underlying22 rfl | exact opd_len_osl rfl Tryz.underlying22 rfl rfl rfl)) ?_
  refine al_d rfl rfl rfl (by exact opd_move rfl rfl) ?_
  refine al_nil ?_
  refine awp_block ?_
  -- loop
  refine awp_loop (σ := Nat) (fun k => ([(1, .ref 1 0 0 0), (3, sv (before GObj.id m k)), (7, .pv (slObjs m)), (8, iv ((m.map encObj).length : Int)), (9, iv (k : Int))], [(1, bx 1 24 [.pv (slObjs m)])])) (fun k => k ≤ m.length ∧ ∀ j, j < k → badAt badObj GObj.id m j = false) (fun k => m.length - k) 0 ⟨by omega, by omega⟩ ?_ ?_
  · exact (Ent.wk ⟨⟨_, rfl, rfl⟩, (by first | (simp; done) | (simp; rfl) | exact clo_map _ _ _), ⟨_, rfl, rfl⟩, (by first | (simp; done) | (simp; rfl) | exact clo_map _ _ _), ⟨_, rfl, rfl⟩, (by first | (simp; done) | (simp; rfl) | exact clo_map _ _ _), ⟨_, rfl, rfl⟩, (by first | (simp; done) | (simp; rfl) | exact clo_map _ _ _), ⟨_, rfl, rfl⟩, (by first | (simp; done) | (simp; rfl) | exact clo_map _ _ _), trivial⟩ ⟨⟨_, rfl, rfl⟩, (by first | (simp; done) | (simp; rfl) | exact clo_map _ _ _), trivial⟩ trivial)
  · rintro k ⟨hk, hno⟩
    refine awp_seq ?_
    refine awp_region ?_
    refine al_d rfl rfl rfl (by exact opd_lss rfl rfl rfl) ?_
    refine al_nil ?_
    refine awp_seq ?_
    refine awp_cond rfl (fun hc1 => ?_) (fun hc1 => ?_)
    -- cond 1
    · have hlt : k < m.length := by have := of_decide_eq_true hc1; omega
      obtain ⟨o, ho⟩ := get_of_lt hlt
      have hi := map_get (f := encObj) ho
      have hoo := hos o (List.mem_of_getElem? ho)
      refine awp_skip ?_
      refine awp_seq ?_
      refine awp_block ?_
      refine awp_seq ?_
      refine awp_region ?_
      refine al_d rfl rfl rfl (by exact (by first | exact x_index_pad rfl so22 rfl rfl (by omega) (by first | exact Int.toNat_natCast _ | rfl) (by assumption) rfl | exact x_index_osl rfl so22 rfl rfl rfl rfl rfl (by omega) (by first | exact Int.toNat_natCast _ | rfl) (by first | omega | assumption) rfl)) ?_
      refine al_d rfl rfl rfl (by exact (by first | exact opd_loadn_ref rfl Tryz.isAgg42 Tryz.sizeOf42 rfl rfl rfl rfl (by simp only [List.drop_succ_cons, List.drop_zero, List.take_succ_cons, List.take_zero, List.take_nil, List.map_cons, List.map_nil, List.set_cons_zero, List.set_cons_succ, List.cons_append, List.nil_append, encTag, encObj]; rfl) rfl | exact opd_loadn_pad rfl Tryz.isAgg42 Tryz.sizeOf42 rfl (by first | omega | assumption) (by simp only [List.drop_succ_cons, List.drop_zero, List.take_succ_cons, List.take_zero, List.take_nil, List.map_cons, List.map_nil, List.set_cons_zero, List.set_cons_succ, List.cons_append, List.nil_append, encTag, encObj]; rfl) rfl)) ?_
      refine al_d rfl rfl rfl (by exact x_alloc (id := 5) rfl zo42 rfl rfl) ?_
      refine al_n rfl rfl (by exact (by first | exact x_store_all rfl Tryz.sizeOf42 rfl rfl rfl rfl rfl rfl rfl rfl | exact x_store rfl Tryz.sizeOf42 rfl rfl rfl rfl rfl rfl rfl (by simp only [List.length_cons, List.length_nil]; omega) (by simp only [List.drop_succ_cons, List.drop_zero, List.take_succ_cons, List.take_zero, List.take_nil, List.map_cons, List.map_nil, List.set_cons_zero, List.set_cons_succ, List.cons_append, List.nil_append, encTag, encObj]; rfl) (by simp only [List.drop_succ_cons, List.drop_zero, List.take_succ_cons, List.take_zero, List.take_nil, List.map_cons, List.map_nil, List.set_cons_zero, List.set_cons_succ, List.cons_append, List.nil_append, encTag, encObj]; rfl) | exact x_store rfl Tryz.sizeOf42 rfl rfl rfl rfl rfl rfl rfl (Nat.le_of_ble_eq_true rfl) rfl rfl)) ?_
      refine al_nil ?_
      refine awp_seq ?_
      refine awp_seq ?_
      refine awp_bool (t := 21) (n := 10) (X := badObj (before GObj.id m k) o) ?_ ?_
      · all_goals (refine al_d rfl rfl rfl (by exact (by first | exact opd_loadn_ref rfl Tryz.isAgg42 Tryz.sizeOf42 rfl rfl rfl rfl (by simp only [List.drop_succ_cons, List.drop_zero, List.take_succ_cons, List.take_zero, List.take_nil, List.map_cons, List.map_nil, List.set_cons_zero, List.set_cons_succ, List.cons_append, List.nil_append, encTag, encObj]; rfl) rfl | exact opd_loadn_pad rfl Tryz.isAgg42 Tryz.sizeOf42 rfl (by first | omega | assumption) (by simp only [List.drop_succ_cons, List.drop_zero, List.take_succ_cons, List.take_zero, List.take_nil, List.map_cons, List.map_nil, List.set_cons_zero, List.set_cons_succ, List.cons_append, List.nil_append, encTag, encObj]; rfl) rfl)) ?_)
        all_goals (refine al_d rfl rfl rfl (by exact opr_call rfl rfl Tryz.call68 rfl (objValid_c o _ hoo)) ?_)
        all_goals (refine al_d rfl rfl rfl (by exact opd_not rfl rfl) ?_)
        all_goals (refine al_d rfl rfl rfl (by exact opd_move rfl rfl) ?_)
        all_goals (first | refine al_split (t := 16) rfl (fun h16 => ?_) (fun h16 => ?_) | refine al_dup (t := 16) rfl ?_ | skip)
        all_goals (try contradiction)
        all_goals (first | refine al_off rfl rfl rfl rfl rfl ?_ | refine al_offu rfl rfl rfl rfl ?_ | refine al_ond rfl rfl rfl rfl rfl rfl (by exact (by first | exact opd_field_ref rfl fo42_0 rfl rfl rfl rfl | exact opd_field_pad rfl fo42_0 rfl rfl)) ?_)
        all_goals (first | refine al_off rfl rfl rfl rfl rfl ?_ | refine al_offu rfl rfl rfl rfl ?_ | refine al_ond rfl rfl rfl rfl rfl rfl (by exact (by first | exact opd_load1_ref rfl Tryz.isAgg9 rfl rfl rfl rfl rfl | exact opd_load1_pad rfl Tryz.isAgg9 rfl (by first | omega | assumption) rfl)) ?_)
        all_goals (first | refine al_off rfl rfl rfl rfl rfl ?_ | refine al_offu rfl rfl rfl rfl ?_ | refine al_ond rfl rfl rfl rfl rfl rfl (by exact opd_move rfl rfl) ?_)
        all_goals (first | refine al_off rfl rfl rfl rfl rfl ?_ | refine al_offu rfl rfl rfl rfl ?_ | refine al_ond rfl rfl rfl rfl rfl rfl (by exact opd_sleq rfl rfl rfl) ?_)
        all_goals (refine al_d rfl rfl rfl (by exact (by first | exact opd_pick_t rfl rfl rfl | exact opd_pick_f rfl rfl rfl | exact opd_pickt rfl rfl (by assumption) rfl | exact opd_pickf rfl rfl (by assumption) rfl | exact opd_pick rfl rfl rfl)) ?_)
        all_goals (refine al_nil ?_)
        all_goals (exact ⟨⟨_, rfl, by first | rfl | (simp only [badObj, sle, *]; rfl) | (simp_all [badObj, sle]; done)⟩, rfl, rfl, rfl⟩)
      refine awp_cond rfl (fun hc2 => ?_) (fun hc2 => ?_)
      -- cond 2
      · skip
        refine awp_seq ?_
        refine awp_region ?_
        refine al_d rfl rfl rfl (by exact opd_assign rfl rfl) ?_
        refine al_nil ?_
        refine awp_ret ?_
        -- return
        refine aret1 (H' := []) (by first | exact .inr rfl | exact .inl rfl) rfl (rval_tmp rfl) (Fin.wk (by simp) trivial trivial) ?_
        exact ⟨by rw [gMap, range_some hlt ((badAt_some ho).trans hc2)]; rfl, rfl⟩
      · skip
        refine awp_skip ?_
        refine awp_region ?_
        refine al_d rfl rfl rfl (by exact (by first | exact opd_field_ref rfl fo42_0 rfl rfl rfl rfl | exact opd_field_pad rfl fo42_0 rfl rfl)) ?_
        refine al_d rfl rfl rfl (by exact (by first | exact opd_load1_ref rfl Tryz.isAgg9 rfl rfl rfl rfl rfl | exact opd_load1_pad rfl Tryz.isAgg9 rfl (by first | omega | assumption) rfl)) ?_
        refine al_d rfl rfl rfl (by exact opd_assign rfl rfl) ?_
        refine al_nil ?_
        refine awp_region ?_
        refine al_d rfl rfl rfl (by exact opd_add rfl rfl rfl (by first | exact w64 (by omega) (by omega) | exact wu8 (by omega) (by omega) | rfl)) ?_
        refine al_d rfl rfl rfl (by exact opd_move rfl rfl) ?_
        refine al_nil ?_
        -- end of a round
        refine ⟨k + 1, ⟨by omega, fun j hj => ?_⟩, by omega, ?_⟩
        · by_cases e : j = k
          · subst e; exact (badAt_some ho).trans hc2
          · exact hno j (by omega)
        · rw [before_succ ho]
          exact (Ent.wk ⟨⟨_, rfl, rfl⟩, (by first | (simp; done) | (simp; rfl) | exact clo_map _ _ _), ⟨_, rfl, rfl⟩, (by first | (simp; done) | (simp; rfl) | exact clo_map _ _ _), ⟨_, rfl, rfl⟩, (by first | (simp; done) | (simp; rfl) | exact clo_map _ _ _), ⟨_, rfl, rfl⟩, (by first | (simp; done) | (simp; rfl) | exact clo_map _ _ _), ⟨_, rfl, rfl⟩, (by first | (simp; done) | (simp; rfl) | exact clo_map _ _ _), trivial⟩ ⟨⟨_, rfl, rfl⟩, (by first | (simp; done) | (simp; rfl) | exact clo_map _ _ _), trivial⟩ trivial)
    · have hge : k = m.length := by have := of_decide_eq_false hc1; omega
      subst hge
      refine awp_exit ?_
      refine awp_seq ?_
      refine awp_region ?_
      refine al_d rfl rfl rfl (by exact (by first | exact opd_field_ref rfl fo24_0 rfl rfl rfl rfl | exact opd_field_pad rfl fo24_0 rfl rfl)) ?_
      refine al_d rfl rfl rfl (by exact (by first | exact opd_load1_ref rfl Tryz.isAgg22 rfl rfl rfl rfl rfl | exact opd_load1_pad rfl Tryz.isAgg22 rfl (by first | omega | assumption) rfl)) ?_
      refine al_d rfl rfl rfl (by exact (by first | exact opd_len_sl rfl Tryz.underlying22 rfl | exact opd_len_osl rfl Tryz.underlying22 rfl rfl rfl)) ?_
      refine al_d rfl rfl rfl (by exact opd_leq rfl rfl rfl) ?_
      refine al_d rfl rfl rfl (by exact opd_assign rfl rfl) ?_
      refine al_nil ?_
      refine awp_ret ?_
      -- return
      refine aret1 (H' := []) (by first | exact .inr rfl | exact .inl rfl) rfl (rval_tmp rfl) (Fin.wk (by simp) trivial trivial) ?_
      exact ⟨by rw [gMap, range_any hno, ← hml]; rfl, rfl⟩
end Go.Proofs.YtdgoodjhndeojaaGreat
end
section
set_option linter.unusedVariables false
set_option linter.unusedSimpArgs false
set_option maxRecDepth 100000
namespace Go.Proofs.YtdgoodjhndeojaaGreat
open Go.Abs
def wfI (n : Int) : Prop := (Lit.int .i64 n).wf = true
def szTag (B : Nat) (t : GTag) : Prop := t.key.size ≤ B ∧ t.val.size ≤ B
def szStrs (B : Nat) (l : List ByteArray) : Prop := l.length ≤ B ∧ ∀ s, s ∈ l → s.size ≤ B
def szTags (B : Nat) (l : List GTag) : Prop := l.length ≤ B ∧ ∀ s, s ∈ l → szTag B s
def szObj (B : Nat) (o : GObj) : Prop := o.id.size ≤ B ∧ wfI o.kind ∧ wfI o.x ∧ wfI o.y ∧ szStrs B o.refs ∧ szTags B o.tags
def szMap (B : Nat) (m : List GObj) : Prop := m.length ≤ B ∧ ∀ o, o ∈ m → szObj B o
def szEdit (B : Nat) (e : GEdit) : Prop := wfI e.op ∧ e.id.size ≤ B ∧ e.other.size ≤ B ∧ e.node.size ≤ B ∧ wfI e.x ∧ wfI e.y ∧ e.key.size ≤ B ∧ e.val.size ≤ B ∧ szStrs B e.refs ∧ szObj B e.obj
def szEdits (B : Nat) (l : List GEdit) : Prop := l.length ≤ B ∧ ∀ e, e ∈ l → szEdit B e
section
variable {B n : Nat} {ps : List PV}
theorem d_strs (h : Sh Tryz.prog B (n + 2) 39 ps) : ∃ l, ps = [slStrs l] ∧ szStrs B l := by
  obtain ⟨l, rfl, h1, h2⟩ := sh_rows (f := encStr) (good := fun s => s.size ≤ B) Tryz.underlying39 h (fun r hr => by
    obtain ⟨s, rfl, hs⟩ := sh_str Tryz.underlying9 hr
    exact ⟨s, rfl, hs⟩)
  exact ⟨l, rfl, h1, h2⟩
theorem d_tag (h : Sh Tryz.prog B (n + 2) 62 ps) : ∃ t, ps = encTag t ∧ szTag B t := by
  obtain ⟨a, b, rfl, _, h1, a2, b2, rfl, _, h2, rfl⟩ := sh_struct Tryz.underlying62 h
  obtain ⟨k, rfl, hk⟩ := sh_str Tryz.underlying9 h1
  obtain ⟨v, rfl, hv⟩ := sh_str Tryz.underlying9 h2
  exact ⟨⟨k, v⟩, rfl, hk, hv⟩
theorem d_tags (h : Sh Tryz.prog B (n + 3) 40 ps) : ∃ l, ps = [slTags l] ∧ szTags B l := by
  obtain ⟨l, rfl, h1, h2⟩ := sh_rows (f := encTag) (good := szTag B) Tryz.underlying40 h (fun r hr => d_tag hr)
  exact ⟨l, rfl, h1, h2⟩
theorem d_point (h : Sh Tryz.prog B (n + 2) 38 ps) : ∃ x y, ps = [.int .i64 x, .int .i64 y] ∧ wfI x ∧ wfI y := by
  obtain ⟨a, b, rfl, _, h1, a2, b2, rfl, _, h2, rfl⟩ := sh_struct Tryz.underlying38 h
  obtain ⟨x, rfl, hx⟩ := sh_int Tryz.underlying3 h1
  obtain ⟨y, rfl, hy⟩ := sh_int Tryz.underlying3 h2
  exact ⟨x, y, rfl, hx, hy⟩
theorem d_obj (h : Sh Tryz.prog B (n + 4) 42 ps) : ∃ o, ps = encObj o ∧ szObj B o := by
  obtain ⟨_, _, rfl, _, h1, _, _, rfl, _, h2, _, _, rfl, _, h3, _, _, rfl, _, h4, _, _, rfl, _, h5, rfl⟩ := sh_struct Tryz.underlying42 h
  obtain ⟨id, rfl, q1⟩ := sh_str Tryz.underlying9 h1
  obtain ⟨k, rfl, q2⟩ := sh_int Tryz.underlying3 h2
  obtain ⟨x, y, rfl, q3, q4⟩ := d_point h3
  obtain ⟨rs, rfl, q5⟩ := d_strs h4
  obtain ⟨ts, rfl, q6⟩ := d_tags h5
  exact ⟨⟨id, k, x, y, rs, ts⟩, rfl, q1, q2, q3, q4, q5, q6⟩
theorem d_objs (h : Sh Tryz.prog B (n + 5) 22 ps) : ∃ l, ps = [slObjs l] ∧ szMap B l := by
  obtain ⟨l, rfl, h1, h2⟩ := sh_rows (f := encObj) (good := szObj B) Tryz.underlying22 h (fun r hr => d_obj hr)
  exact ⟨l, rfl, h1, h2⟩
theorem d_map (h : Sh Tryz.prog B (n + 6) 24 ps) : ∃ l, ps = [slObjs l] ∧ szMap B l := by
  obtain ⟨_, _, rfl, _, h1, rfl⟩ := sh_struct Tryz.underlying24 h
  obtain ⟨l, rfl, q⟩ := d_objs h1
  exact ⟨l, rfl, q⟩
end
theorem okTags_of {B : Nat} {l : List GTag} (hB : B < 4611686018427387904) (h : szTags B l) : okTags l := ⟨by have := h.1; omega, fun t ht => ⟨by have := (h.2 t ht).1; omega, by have := (h.2 t ht).2; omega⟩⟩
theorem okO_of {B : Nat} {o : GObj} (hB : B < 4611686018427387904) (h : szObj B o) : okO o :=
  ⟨by have := h.1; omega, okTags_of hB h.2.2.2.2.2, by have := h.2.2.2.2.1.1; omega, fun s hs => by have := h.2.2.2.2.1.2 s hs; omega⟩
theorem okM_of {B : Nat} {m : List GObj} (hB : B < 4611686018427387904) (h : szMap B m) : okM m := ⟨by have := h.1; omega, fun o ho => okO_of hB (h.2 o ho)⟩
section
variable {B n : Nat} {ps : List PV}
end
end Go.Proofs.YtdgoodjhndeojaaGreat
end
section
set_option linter.unusedVariables false
set_option maxRecDepth 100000
namespace Go.Proofs.YtdgoodjhndeojaaGreat
open Go.Abs Go.ChangeShapes Go.WideShapes Go.ChangeAt Go.RowKit
theorem own : ownKnob Tryz.prog.godebug = none := by kernel_rfl
theorem laidOut : laidOutB Tryz.prog = true := by kernel_rfl
theorem upto_bound {H : Type} {l : List (DataW H)} (hk : Rows.uptoSmall H l = true) : Rows.uptoBulkAll l ≤ 1048576 := of_decide_eq_true hk
theorem bulk_left {H : Type} {l r : List (DataW H)} {n : Nat} (h : Rows.uptoBulkAll (l ++ r) ≤ n) : Rows.uptoBulkAll l ≤ n := by
  induction l generalizing n with
  | nil => simp [Rows.uptoBulkAll]
  | cons x l ih =>
    simp only [List.cons_append, Rows.uptoBulkAll] at h ⊢
    have := ih (n := n - Rows.uptoBulk x) (by omega)
    omega
end Go.Proofs.YtdgoodjhndeojaaGreat
end
section
set_option linter.unusedVariables false
set_option linter.unusedSimpArgs false
set_option maxRecDepth 100000
namespace Go.Proofs.YtdgoodjhndeojaaGreat
open Go.Abs
section
variable {B n : Nat} {ps : List PV}
theorem d_ints (h : Sh Tryz.prog B (n + 2) 29 ps) : ∃ l, ps = [slInts l] ∧ l.length ≤ B ∧ ∀ i, i ∈ l → wfI i := by
  obtain ⟨l, rfl, h1, h2⟩ := sh_rows (f := encInt) (good := wfI) Tryz.underlying29 h (fun r hr => by
    obtain ⟨s, rfl, hs⟩ := sh_int Tryz.underlying3 hr
    exact ⟨s, rfl, hs⟩)
  exact ⟨l, rfl, h1, h2⟩
theorem d_edit (h : Sh Tryz.prog B (n + 5) 44 ps) : ∃ o, ps = encEdit o ∧ szEdit B o := by
  obtain ⟨_, _, rfl, _, h1, _, _, rfl, _, h2, _, _, rfl, _, h3, _, _, rfl, _, h4, _, _, rfl, _, h5, _, _, rfl, _, h6, _, _, rfl, _, h7, _, _, rfl, _, h8, _, _, rfl, _, h9, rfl⟩ := sh_struct Tryz.underlying44 h
  obtain ⟨op, rfl, q1⟩ := sh_int Tryz.underlying3 h1
  obtain ⟨id, rfl, q2⟩ := sh_str Tryz.underlying9 h2
  obtain ⟨ot, rfl, q3⟩ := sh_str Tryz.underlying9 h3
  obtain ⟨nd, rfl, q4⟩ := sh_str Tryz.underlying9 h4
  obtain ⟨x, y, rfl, q5, q6⟩ := d_point h5
  obtain ⟨k, rfl, q7⟩ := sh_str Tryz.underlying9 h6
  obtain ⟨v, rfl, q8⟩ := sh_str Tryz.underlying9 h7
  obtain ⟨rs, rfl, q9⟩ := d_strs h8
  obtain ⟨o, rfl, q10⟩ := d_obj h9
  exact ⟨⟨op, id, ot, nd, x, y, k, v, rs, o⟩, rfl, q1, q2, q3, q4, q5, q6, q7, q8, q9, q10⟩
theorem d_edits (h : Sh Tryz.prog B (n + 6) 25 ps) : ∃ l, ps = [slEdits l] ∧ szEdits B l := by
  obtain ⟨l, rfl, h1, h2⟩ := sh_rows (f := encEdit) (good := szEdit B) Tryz.underlying25 h (fun r hr => d_edit hr)
  exact ⟨l, rfl, h1, h2⟩
theorem d_ev (h : Sh Tryz.prog B (n + 3) 31 ps) : ∃ k l, ps = [.int .i64 k, slInts l] ∧ wfI k ∧ l.length ≤ B ∧ ∀ i, i ∈ l → wfI i := by
  obtain ⟨_, _, rfl, _, h1, _, _, rfl, _, h2, rfl⟩ := sh_struct Tryz.underlying31 h
  obtain ⟨k, rfl, q1⟩ := sh_int Tryz.underlying3 h1
  obtain ⟨l, rfl, q2, q3⟩ := d_ints h2
  exact ⟨k, l, rfl, q1, q2, q3⟩
end
end Go.Proofs.YtdgoodjhndeojaaGreat
end
section
set_option linter.unusedVariables false
set_option linter.unusedSimpArgs false
namespace Go.Abs
theorem Kept.app {D H G0 : Heap} (hG : ∀ p ∈ D, G0.get p.1 = none) : Kept G0 H (D ++ H) := fun id hi => by
  rw [hget_app]
  cases e : D.get id with
  | none => rfl
  | some o =>
    have := hG _ (mem_of_hget e)
    rw [this] at hi
    cases hi
/-- The result's slice is frozen. -/
theorem Fin.fzC {G0 H H' : Heap} {r r' : AV} {id : Nat} {ob : Ob} (ps : List (List PV)) (hH : H.get id = some ob) (hps : ob.rows = ps.map (·.map .pv)) (hf : Fz H' id ob.g ps r r') (hno : H'.get id = none) (hs : Sub H' H) (hc : Closed H') (hk : Kept G0 H' H) : Fin G0 H r H' r' := by
  intro G hG I ι w v h1 h2 h3
  subst hG
  exact ⟨_, ι, h1.freeze hs hc hH hno, h2.freeze hs hk hH, VRel.freeze h1 hs hH hps hf h3⟩
/-- An owned slice in front is what is returned. -/
theorem Fin.slice {G0 H : Heap} {id g n : Nat} {ob : Ob} (D : Heap) (ps : List (List PV)) (hH : Heap.get (D ++ H) id = some ob) (hg : ob.g = g) (hps : ob.rows = ps.map (·.map .pv)) (hn : ps.length = n) (hc : Closed H) (hD : ∀ p ∈ D, H.get p.1 = none) (hG : ∀ p ∈ D, G0.get p.1 = none) (hid : H.get id = none) :
    Fin G0 (D ++ H) (.osl id g 0 n) H (.pv (.sl ps)) := by
  subst hg hn
  exact Fin.fzC ps hH hps (.osl (by rw [Nat.zero_add, List.drop_zero, List.take_length])) hid (Sub.app hD) hc (Kept.app hG)
end Go.Abs
end
section
set_option linter.unusedVariables false
set_option linter.unusedSimpArgs false
namespace Go.Proofs.YtdgoodjhndeojaaGreat
open Go.Abs
/-- The model's order of texts is the lexical one. -/
theorem bytesLess_eq : ∀ (x y : List UInt8), Op.bytesLess x y = decide (x < y)
  | [], [] => by simp [Op.bytesLess]
  | _ :: _, [] => by simp [Op.bytesLess]
  | [], _ :: _ => by simp [Op.bytesLess]
  | a :: x, b :: y => by
    rw [Op.bytesLess, bytesLess_eq x y]
    simp only [List.cons_lt_cons_iff]
    by_cases h1 : a < b <;> by_cases h2 : a = b <;> by_cases h3 : x < y <;> simp [h1, h2, h3]
theorem slt_irr (s : ByteArray) : slt s s = false := by
  unfold slt
  rw [bytesLess_eq]
  exact decide_eq_false (List.lt_irrefl _)
theorem slt_tri {a b : ByteArray} (h1 : slt a b = false) (h2 : slt b a = false) : a = b := by
  unfold slt at h1 h2
  rw [bytesLess_eq] at h1 h2
  have e : a.toList = b.toList := List.le_antisymm (List.not_lt.1 (of_decide_eq_false h2)) (List.not_lt.1 (of_decide_eq_false h1))
  have := list_beq a b
  rw [e] at this
  simpa using this.symm
theorem slt_trans {a b c : ByteArray} (h1 : slt a b = true) (h2 : slt b c = true) : slt a c = true := by
  unfold slt at *
  rw [bytesLess_eq] at *
  exact decide_eq_true (List.lt_trans (of_decide_eq_true h1) (of_decide_eq_true h2))
theorem slt_nil (s : ByteArray) : slt s sNil = false := by
  unfold slt
  rw [bytesLess_eq, ByteArray.toList_eq sNil]
  exact decide_eq_false (List.not_lt_nil _)
theorem sle_iff {a b : ByteArray} : sle a b = false ↔ slt b a = true := by
  unfold sle
  constructor
  · intro h
    simp only [Bool.or_eq_false_iff, decide_eq_false_iff_not] at h
    cases e : slt b a with
    | true => rfl
    | false => exact absurd (slt_tri h.1 e) h.2
  · intro h
    simp only [Bool.or_eq_false_iff, decide_eq_false_iff_not]
    refine ⟨?_, fun e => ?_⟩
    · cases e : slt a b with
      | false => rfl
      | true => have := slt_trans e h; rw [slt_irr] at this; cases this
    · subst e; rw [slt_irr] at h; cases h
/-- Ids in increasing order. -/
def ups (m : List GObj) : Prop := m.Pairwise (fun a b => slt a.id b.id = true)
theorem gObj_name {o : GObj} (h : gObj o = true) : gName o.id = true := by
  simp only [gObj, gHead, gHeadN, Bool.and_eq_true, Bool.not_eq_true', Bool.or_eq_false_iff, Bool.not_eq_false'] at h
  exact h.1.1.1.1.2
theorem gName_ne {s : ByteArray} (h : gName s = true) : s ≠ sNil := by
  simp only [gName, Bool.and_eq_true, Bool.not_eq_true', decide_eq_false_iff_not] at h
  exact h.2.1
theorem badObj_iff {last : ByteArray} {o : GObj} : badObj last o = false ↔ gObj o = true ∧ slt last o.id = true := by
  rw [badObj, Bool.or_eq_false_iff, sle_iff, Bool.not_eq_false']
theorem badAt_all {m : List GObj} : (List.range m.length).any (badAt badObj GObj.id m) = false ↔ (∀ o ∈ m, gObj o = true) ∧ ups m := by
  rw [List.any_eq_false]
  constructor
  · intro h
    have hb : ∀ k o, m[k]? = some o → gObj o = true ∧ slt (before GObj.id m k) o.id = true := fun k o ho => by
      have := h k (List.mem_range.2 (List.getElem?_eq_some_iff.1 ho).1)
      rw [badAt_some ho, Bool.not_eq_true] at this
      exact badObj_iff.1 this
    refine ⟨fun o ho => ?_, ?_⟩
    · obtain ⟨k, hk⟩ := List.mem_iff_getElem?.1 ho
      exact (hb k o hk).1
    · have key : ∀ (d i : Nat) (a b : GObj), m[i]? = some a → m[i + d + 1]? = some b → slt a.id b.id = true := by
        intro d
        induction d with
        | zero =>
          intro i a b ha hb'
          have := (hb _ _ hb').2
          rw [Nat.add_zero, before_succ ha] at this
          exact this
        | succ d ih =>
          intro i a b ha hb'
          obtain ⟨c, hc⟩ := get_of_lt (l := m) (k := i + d + 1) (by have := (List.getElem?_eq_some_iff.1 hb').1; omega)
          have h1 := ih i a c ha hc
          have h2 := (hb _ _ hb').2
          rw [show i + (d + 1) = i + d + 1 from rfl, before_succ hc] at h2
          exact slt_trans h1 h2
      rw [ups, List.pairwise_iff_getElem]
      intro i j hi hj hij
      have := key (j - i - 1) i m[i] m[j] (List.getElem?_eq_getElem hi) (by rw [show i + (j - i - 1) + 1 = j by omega]; exact List.getElem?_eq_getElem hj)
      exact this
  · rintro ⟨h1, h2⟩ k hk
    have hlt := List.mem_range.1 hk
    have ho := List.getElem?_eq_getElem hlt
    rw [badAt_some ho, Bool.not_eq_true, badObj_iff]
    refine ⟨h1 _ (List.getElem_mem hlt), ?_⟩
    cases k with
    | zero =>
      have hn := gName_ne (gObj_name (h1 _ (List.getElem_mem hlt)))
      show slt sNil _ = true
      cases e : slt sNil (m[0]).id with
      | true => rfl
      | false => exact absurd (slt_tri (slt_nil _) e) hn
    | succ k =>
      rw [before_succ (List.getElem?_eq_getElem (show k < m.length by omega))]
      rw [ups, List.pairwise_iff_getElem] at h2
      exact h2 k (k + 1) (by omega) hlt (by omega)
theorem gMap_iff {m : List GObj} : gMap m = true ↔ (∀ o ∈ m, gObj o = true) ∧ ups m ∧ (m.length : Int) ≤ 1000000 := by
  rw [gMap, Bool.and_eq_true, Bool.not_eq_true', badAt_all, decide_eq_true_iff, and_assoc]
end Go.Proofs.YtdgoodjhndeojaaGreat
end
section
set_option linter.unusedVariables false
set_option linter.unusedSimpArgs false
set_option maxRecDepth 100000
namespace Go.Proofs.YtdgoodjhndeojaaGreat
open Go.Abs
/-- slices.IndexFunc at planisphere/api.Object. -/
theorem indexFunc_GObj (fv : AV) (l : List GObj) (p : GObj → Bool) (H : Heap) (hl : l.length < 4611686018427387904) (hf : ∀ o, o ∈ l → CallsV Tryz.prog fv [.agg ((encObj o).map .pv)] H (fun r H' => r = .pv (.bool (p o)) ∧ H' = H)) :
    ACalls Tryz.prog 81 [.pv (.sl (l.map encObj)), fv] H (fun r H' => r = .pv (.int .i64 (gidx p l)) ∧ H' = H) := by
  refine ACalls.body Tryz.func81 rfl Tryz.ntmps81 (Nat.le_of_ble_eq_true rfl) ?_
  refine awp_seq ?_
  refine awp_region ?_
  refine al_d rfl rfl rfl (by exact opd_assign rfl rfl) ?_
  refine al_nil ?_
  refine awp_seq ?_
  refine awp_seq ?_
  refine awp_region ?_
  refine al_d rfl rfl rfl (by exact opd_move rfl rfl) ?_
  refine al_d rfl rfl rfl (by exact (by first | exact opd_len_sl rfl Tryz.underlying22 rfl | exact opd_len_osl rfl Tryz.underlying22 rfl rfl rfl)) ?_
  refine al_d rfl rfl rfl (by exact opd_move rfl rfl) ?_
  refine al_nil ?_
  refine awp_block ?_
  -- loop
  refine awp_loop (σ := Nat) (fun k => ([(0, .pv (.sl (l.map encObj))), (1, fv), (7, .pv (.int .i64 (l.map encObj).length)), (8, .pv (.int .i64 (k : Int)))], H)) (fun k => k ≤ l.length ∧ ∀ j, j < k → ∀ b, l[j]? = some b → p b = false) (fun k => l.length - k) 0 ⟨by omega, by omega⟩ ?_ ?_
  · exact Ent.e0 ⟨⟨_, rfl, rfl⟩, ⟨_, rfl, rfl⟩, ⟨_, rfl, rfl⟩, ⟨_, rfl, rfl⟩, trivial⟩
  · rintro k ⟨hk, hno⟩
    refine awp_seq ?_
    refine awp_region ?_
    refine al_d rfl rfl rfl (by exact opd_lss rfl rfl rfl) ?_
    refine al_nil ?_
    refine awp_seq ?_
    refine awp_cond rfl (fun hc1 => ?_) (fun hc1 => ?_)
    -- cond 1
    · have hlt : k < l.length := by simpa using hc1
      obtain ⟨o, ho⟩ := get_of_lt hlt
      have hi := map_get (f := encObj) ho
      have hfo := hf o (List.mem_of_getElem? ho)
      refine awp_skip ?_
      refine awp_seq ?_
      refine awp_block ?_
      refine awp_seq ?_
      refine awp_region ?_
      refine al_d rfl rfl rfl (by exact opd_move rfl rfl) ?_
      refine al_d rfl rfl rfl (by exact opd_assign rfl rfl) ?_
      refine al_nil ?_
      refine awp_seq ?_
      refine awp_region ?_
      refine al_d rfl rfl rfl (by exact opd_move rfl rfl) ?_
      refine al_d rfl rfl rfl (by exact opd_move rfl rfl) ?_
      refine al_d rfl rfl rfl (by exact opd_move rfl rfl) ?_
      refine al_d rfl rfl rfl (by exact (by first | exact x_index_pad rfl so22 rfl rfl (by omega) (by first | exact Int.toNat_natCast _ | rfl) (by assumption) rfl | exact x_index_osl rfl so22 rfl rfl rfl rfl rfl (by omega) (by first | exact Int.toNat_natCast _ | rfl) (by first | omega | assumption) rfl)) ?_
      refine al_d rfl rfl rfl (by exact (by first | exact opd_loadn_ref rfl Tryz.isAgg42 Tryz.sizeOf42 rfl rfl rfl rfl (by simp only [List.drop_succ_cons, List.drop_zero, List.take_succ_cons, List.take_zero, List.take_nil, List.map_cons, List.map_nil, List.set_cons_zero, List.set_cons_succ, List.cons_append, List.nil_append, encObj]; rfl) rfl | exact opd_loadn_pad rfl Tryz.isAgg42 Tryz.sizeOf42 rfl (by first | omega | assumption) (by simp only [List.drop_succ_cons, List.drop_zero, List.take_succ_cons, List.take_zero, List.take_nil, List.map_cons, List.map_nil, List.set_cons_zero, List.set_cons_succ, List.cons_append, List.nil_append, encObj]; rfl) rfl)) ?_
      refine al_d rfl rfl rfl (by exact opr_callV rfl rfl rfl (hfo)) ?_
      refine al_nil ?_
      refine awp_cond rfl (fun hc2 => ?_) (fun hc2 => ?_)
      -- cond 2
      · skip
        refine awp_seq ?_
        refine awp_region ?_
        refine al_d rfl rfl rfl (by exact opd_move rfl rfl) ?_
        refine al_d rfl rfl rfl (by exact opd_assign rfl rfl) ?_
        refine al_nil ?_
        refine awp_ret ?_
        -- return
        exact aret1 (H' := H) (.inr rfl) rfl (rval_tmp rfl) Fin.refl ⟨by rw [gidx, fidx_some hno ho hc2], rfl⟩
      · skip
        refine awp_skip ?_
        refine awp_region ?_
        refine al_d rfl rfl rfl (by exact opd_add rfl rfl rfl (by first | exact w64 (by omega) (by omega) | exact wu8 (by omega) (by omega) | rfl)) ?_
        refine al_d rfl rfl rfl (by exact opd_move rfl rfl) ?_
        refine al_nil ?_
        -- end of a round
        refine ⟨k + 1, ⟨by omega, fun j hj b hb => ?_⟩, by omega, Ent.e0 ⟨⟨_, rfl, rfl⟩, ⟨_, rfl, rfl⟩, ⟨_, rfl, rfl⟩, ⟨_, rfl, rfl⟩, trivial⟩⟩
        by_cases e : j = k
        · subst e; rw [ho] at hb; cases hb; exact hc2
        · exact hno j (by omega) b hb
    · have hge : k = l.length := by have : l.length ≤ k := by simpa using hc1
                                    omega
      subst hge
      refine awp_exit ?_
      refine awp_seq ?_
      refine awp_region ?_
      refine al_d rfl rfl rfl (by exact opd_assign rfl rfl) ?_
      refine al_nil ?_
      refine awp_ret ?_
      -- return
      exact aret1 (H' := H) (.inr rfl) rfl (rval_tmp rfl) Fin.refl ⟨by rw [gidx, fidx_none hno], rfl⟩
/-- slices.IndexFunc at planisphere/api.Edit. -/
theorem indexFunc_GEdit (fv : AV) (l : List GEdit) (p : GEdit → Bool) (H : Heap) (hl : l.length < 4611686018427387904) (hf : ∀ o, o ∈ l → CallsV Tryz.prog fv [.agg ((encEdit o).map .pv)] H (fun r H' => r = .pv (.bool (p o)) ∧ H' = H)) :
    ACalls Tryz.prog 114 [.pv (.sl (l.map encEdit)), fv] H (fun r H' => r = .pv (.int .i64 (gidx p l)) ∧ H' = H) := by
  refine ACalls.body Tryz.func114 rfl Tryz.ntmps114 (Nat.le_of_ble_eq_true rfl) ?_
  refine awp_seq ?_
  refine awp_region ?_
  refine al_d rfl rfl rfl (by exact opd_assign rfl rfl) ?_
  refine al_nil ?_
  refine awp_seq ?_
  refine awp_seq ?_
  refine awp_region ?_
  refine al_d rfl rfl rfl (by exact opd_move rfl rfl) ?_
  refine al_d rfl rfl rfl (by exact (by first | exact opd_len_sl rfl Tryz.underlying25 rfl | exact opd_len_osl rfl Tryz.underlying25 rfl rfl rfl)) ?_
  refine al_d rfl rfl rfl (by exact opd_move rfl rfl) ?_
  refine al_nil ?_
  refine awp_block ?_
  -- loop
  refine awp_loop (σ := Nat) (fun k => ([(0, .pv (.sl (l.map encEdit))), (1, fv), (7, .pv (.int .i64 (l.map encEdit).length)), (8, .pv (.int .i64 (k : Int)))], H)) (fun k => k ≤ l.length ∧ ∀ j, j < k → ∀ b, l[j]? = some b → p b = false) (fun k => l.length - k) 0 ⟨by omega, by omega⟩ ?_ ?_
  · exact Ent.e0 ⟨⟨_, rfl, rfl⟩, ⟨_, rfl, rfl⟩, ⟨_, rfl, rfl⟩, ⟨_, rfl, rfl⟩, trivial⟩
  · rintro k ⟨hk, hno⟩
    refine awp_seq ?_
    refine awp_region ?_
    refine al_d rfl rfl rfl (by exact opd_lss rfl rfl rfl) ?_
    refine al_nil ?_
    refine awp_seq ?_
    refine awp_cond rfl (fun hc1 => ?_) (fun hc1 => ?_)
    -- cond 1
    · have hlt : k < l.length := by simpa using hc1
      obtain ⟨o, ho⟩ := get_of_lt hlt
      have hi := map_get (f := encEdit) ho
      have hfo := hf o (List.mem_of_getElem? ho)
      refine awp_skip ?_
      refine awp_seq ?_
      refine awp_block ?_
      refine awp_seq ?_
      refine awp_region ?_
      refine al_d rfl rfl rfl (by exact opd_move rfl rfl) ?_
      refine al_d rfl rfl rfl (by exact opd_assign rfl rfl) ?_
      refine al_nil ?_
      refine awp_seq ?_
      refine awp_region ?_
      refine al_d rfl rfl rfl (by exact opd_move rfl rfl) ?_
      refine al_d rfl rfl rfl (by exact opd_move rfl rfl) ?_
      refine al_d rfl rfl rfl (by exact opd_move rfl rfl) ?_
      refine al_d rfl rfl rfl (by exact (by first | exact x_index_pad rfl so25 rfl rfl (by omega) (by first | exact Int.toNat_natCast _ | rfl) (by assumption) rfl | exact x_index_osl rfl so25 rfl rfl rfl rfl rfl (by omega) (by first | exact Int.toNat_natCast _ | rfl) (by first | omega | assumption) rfl)) ?_
      refine al_d rfl rfl rfl (by exact (by first | exact opd_loadn_ref rfl Tryz.isAgg44 Tryz.sizeOf44 rfl rfl rfl rfl (by simp only [List.drop_succ_cons, List.drop_zero, List.take_succ_cons, List.take_zero, List.take_nil, List.map_cons, List.map_nil, List.set_cons_zero, List.set_cons_succ, List.cons_append, List.nil_append, encEdit]; rfl) rfl | exact opd_loadn_pad rfl Tryz.isAgg44 Tryz.sizeOf44 rfl (by first | omega | assumption) (by simp only [List.drop_succ_cons, List.drop_zero, List.take_succ_cons, List.take_zero, List.take_nil, List.map_cons, List.map_nil, List.set_cons_zero, List.set_cons_succ, List.cons_append, List.nil_append, encEdit]; rfl) rfl)) ?_
      refine al_d rfl rfl rfl (by exact opr_callV rfl rfl rfl (hfo)) ?_
      refine al_nil ?_
      refine awp_cond rfl (fun hc2 => ?_) (fun hc2 => ?_)
      -- cond 2
      · skip
        refine awp_seq ?_
        refine awp_region ?_
        refine al_d rfl rfl rfl (by exact opd_move rfl rfl) ?_
        refine al_d rfl rfl rfl (by exact opd_assign rfl rfl) ?_
        refine al_nil ?_
        refine awp_ret ?_
        -- return
        exact aret1 (H' := H) (.inr rfl) rfl (rval_tmp rfl) Fin.refl ⟨by rw [gidx, fidx_some hno ho hc2], rfl⟩
      · skip
        refine awp_skip ?_
        refine awp_region ?_
        refine al_d rfl rfl rfl (by exact opd_add rfl rfl rfl (by first | exact w64 (by omega) (by omega) | exact wu8 (by omega) (by omega) | rfl)) ?_
        refine al_d rfl rfl rfl (by exact opd_move rfl rfl) ?_
        refine al_nil ?_
        -- end of a round
        refine ⟨k + 1, ⟨by omega, fun j hj b hb => ?_⟩, by omega, Ent.e0 ⟨⟨_, rfl, rfl⟩, ⟨_, rfl, rfl⟩, ⟨_, rfl, rfl⟩, ⟨_, rfl, rfl⟩, trivial⟩⟩
        by_cases e : j = k
        · subst e; rw [ho] at hb; cases hb; exact hc2
        · exact hno j (by omega) b hb
    · have hge : k = l.length := by have : l.length ≤ k := by simpa using hc1
                                    omega
      subst hge
      refine awp_exit ?_
      refine awp_seq ?_
      refine awp_region ?_
      refine al_d rfl rfl rfl (by exact opd_assign rfl rfl) ?_
      refine al_nil ?_
      refine awp_ret ?_
      -- return
      exact aret1 (H' := H) (.inr rfl) rfl (rval_tmp rfl) Fin.refl ⟨by rw [gidx, fidx_none hno], rfl⟩
/-- slices.IndexFunc at planisphere/api.Tag. -/
theorem indexFunc_GTag (fv : AV) (l : List GTag) (p : GTag → Bool) (H : Heap) (hl : l.length < 4611686018427387904) (hf : ∀ o, o ∈ l → CallsV Tryz.prog fv [.agg ((encTag o).map .pv)] H (fun r H' => r = .pv (.bool (p o)) ∧ H' = H)) :
    ACalls Tryz.prog 205 [.pv (.sl (l.map encTag)), fv] H (fun r H' => r = .pv (.int .i64 (gidx p l)) ∧ H' = H) := by
  refine ACalls.body Tryz.func205 rfl Tryz.ntmps205 (Nat.le_of_ble_eq_true rfl) ?_
  refine awp_seq ?_
  refine awp_region ?_
  refine al_d rfl rfl rfl (by exact opd_assign rfl rfl) ?_
  refine al_nil ?_
  refine awp_seq ?_
  refine awp_seq ?_
  refine awp_region ?_
  refine al_d rfl rfl rfl (by exact opd_move rfl rfl) ?_
  refine al_d rfl rfl rfl (by exact (by first | exact opd_len_sl rfl Tryz.underlying40 rfl | exact opd_len_osl rfl Tryz.underlying40 rfl rfl rfl)) ?_
  refine al_d rfl rfl rfl (by exact opd_move rfl rfl) ?_
  refine al_nil ?_
  refine awp_block ?_
  -- loop
  refine awp_loop (σ := Nat) (fun k => ([(0, .pv (.sl (l.map encTag))), (1, fv), (7, .pv (.int .i64 (l.map encTag).length)), (8, .pv (.int .i64 (k : Int)))], H)) (fun k => k ≤ l.length ∧ ∀ j, j < k → ∀ b, l[j]? = some b → p b = false) (fun k => l.length - k) 0 ⟨by omega, by omega⟩ ?_ ?_
  · exact Ent.e0 ⟨⟨_, rfl, rfl⟩, ⟨_, rfl, rfl⟩, ⟨_, rfl, rfl⟩, ⟨_, rfl, rfl⟩, trivial⟩
  · rintro k ⟨hk, hno⟩
    refine awp_seq ?_
    refine awp_region ?_
    refine al_d rfl rfl rfl (by exact opd_lss rfl rfl rfl) ?_
    refine al_nil ?_
    refine awp_seq ?_
    refine awp_cond rfl (fun hc1 => ?_) (fun hc1 => ?_)
    -- cond 1
    · have hlt : k < l.length := by simpa using hc1
      obtain ⟨o, ho⟩ := get_of_lt hlt
      have hi := map_get (f := encTag) ho
      have hfo := hf o (List.mem_of_getElem? ho)
      refine awp_skip ?_
      refine awp_seq ?_
      refine awp_block ?_
      refine awp_seq ?_
      refine awp_region ?_
      refine al_d rfl rfl rfl (by exact opd_move rfl rfl) ?_
      refine al_d rfl rfl rfl (by exact opd_assign rfl rfl) ?_
      refine al_nil ?_
      refine awp_seq ?_
      refine awp_region ?_
      refine al_d rfl rfl rfl (by exact opd_move rfl rfl) ?_
      refine al_d rfl rfl rfl (by exact opd_move rfl rfl) ?_
      refine al_d rfl rfl rfl (by exact opd_move rfl rfl) ?_
      refine al_d rfl rfl rfl (by exact (by first | exact x_index_pad rfl so40 rfl rfl (by omega) (by first | exact Int.toNat_natCast _ | rfl) (by assumption) rfl | exact x_index_osl rfl so40 rfl rfl rfl rfl rfl (by omega) (by first | exact Int.toNat_natCast _ | rfl) (by first | omega | assumption) rfl)) ?_
      refine al_d rfl rfl rfl (by exact (by first | exact opd_loadn_ref rfl Tryz.isAgg62 Tryz.sizeOf62 rfl rfl rfl rfl (by simp only [List.drop_succ_cons, List.drop_zero, List.take_succ_cons, List.take_zero, List.take_nil, List.map_cons, List.map_nil, List.set_cons_zero, List.set_cons_succ, List.cons_append, List.nil_append, encTag]; rfl) rfl | exact opd_loadn_pad rfl Tryz.isAgg62 Tryz.sizeOf62 rfl (by first | omega | assumption) (by simp only [List.drop_succ_cons, List.drop_zero, List.take_succ_cons, List.take_zero, List.take_nil, List.map_cons, List.map_nil, List.set_cons_zero, List.set_cons_succ, List.cons_append, List.nil_append, encTag]; rfl) rfl)) ?_
      refine al_d rfl rfl rfl (by exact opr_callV rfl rfl rfl (hfo)) ?_
      refine al_nil ?_
      refine awp_cond rfl (fun hc2 => ?_) (fun hc2 => ?_)
      -- cond 2
      · skip
        refine awp_seq ?_
        refine awp_region ?_
        refine al_d rfl rfl rfl (by exact opd_move rfl rfl) ?_
        refine al_d rfl rfl rfl (by exact opd_assign rfl rfl) ?_
        refine al_nil ?_
        refine awp_ret ?_
        -- return
        exact aret1 (H' := H) (.inr rfl) rfl (rval_tmp rfl) Fin.refl ⟨by rw [gidx, fidx_some hno ho hc2], rfl⟩
      · skip
        refine awp_skip ?_
        refine awp_region ?_
        refine al_d rfl rfl rfl (by exact opd_add rfl rfl rfl (by first | exact w64 (by omega) (by omega) | exact wu8 (by omega) (by omega) | rfl)) ?_
        refine al_d rfl rfl rfl (by exact opd_move rfl rfl) ?_
        refine al_nil ?_
        -- end of a round
        refine ⟨k + 1, ⟨by omega, fun j hj b hb => ?_⟩, by omega, Ent.e0 ⟨⟨_, rfl, rfl⟩, ⟨_, rfl, rfl⟩, ⟨_, rfl, rfl⟩, ⟨_, rfl, rfl⟩, trivial⟩⟩
        by_cases e : j = k
        · subst e; rw [ho] at hb; cases hb; exact hc2
        · exact hno j (by omega) b hb
    · have hge : k = l.length := by have : l.length ≤ k := by simpa using hc1
                                    omega
      subst hge
      refine awp_exit ?_
      refine awp_seq ?_
      refine awp_region ?_
      refine al_d rfl rfl rfl (by exact opd_assign rfl rfl) ?_
      refine al_nil ?_
      refine awp_ret ?_
      -- return
      exact aret1 (H' := H) (.inr rfl) rfl (rval_tmp rfl) Fin.refl ⟨by rw [gidx, fidx_none hno], rfl⟩
end Go.Proofs.YtdgoodjhndeojaaGreat
end
section
set_option linter.unusedVariables false
set_option linter.unusedSimpArgs false
set_option maxRecDepth 100000
namespace Go.Proofs.YtdgoodjhndeojaaGreat
open Go.Abs
abbrev sName : ByteArray := ⟨#[110, 97, 109, 101]⟩
def idIs (id : ByteArray) (o : GObj) : Bool := decide (o.id = id)
def obOf (m : List GObj) (id : ByteArray) : GObj := (m.find? (idIs id)).getD zObj
def isOb (m : List GObj) (id : ByteArray) : Bool := (m.find? (idIs id)).isSome
def nameIs (t : GTag) : Bool := decide (t.key = sName)
def onP (x y : Int) : Bool := decide (0 ≤ min x y) && decide (max x y < 1048576)
/-- verify.object's closure. -/
theorem object1_c (o : GObj) (id : ByteArray) (H : Heap) (T : Nat) (h3 : H.get 3 = some (bx 1 T [sv id])) (h9 : H.get 902 = none) (hc : Closed H) :
    ACalls Tryz.prog 204 [av (encObj o), .ref 3 0 0 0] H (fun r H' => r = bv (idIs id o) ∧ H' = H) := by
  refine ACalls.body Tryz.func204 rfl Tryz.ntmps204 (Nat.le_of_ble_eq_true rfl) ?_
  refine awp_seq ?_
  refine awp_region ?_
  refine al_d rfl rfl rfl (by exact opd_box (id := 902) rfl rfl rfl rfl h9) ?_
  refine al_d rfl rfl rfl (by exact opd_assign rfl rfl) ?_
  refine al_nil ?_
  refine awp_seq ?_
  refine awp_region ?_
  refine al_d rfl rfl rfl (by exact (by first | exact opd_field_ref rfl fo42_0 rfl rfl rfl rfl | exact opd_field_pad rfl fo42_0 rfl rfl)) ?_
  refine al_d rfl rfl rfl (by exact (by first | exact opd_load1_ref rfl Tryz.isAgg9 rfl rfl rfl rfl rfl | exact opd_load1_pad rfl Tryz.isAgg9 rfl (by first | omega | assumption) rfl)) ?_
  refine al_d rfl rfl rfl (by exact opd_load1_ref rfl Tryz.isAgg9 rfl h3 rfl rfl rfl) ?_
  refine al_d rfl rfl rfl (by exact opd_seql rfl rfl rfl) ?_
  refine al_d rfl rfl rfl (by exact opd_assign rfl rfl) ?_
  refine al_nil ?_
  refine awp_ret ?_
  -- return
  refine aret1 (H' := H) (.inr rfl) rfl (rval_tmp rfl) (Fin.pops [_] (by simp) hc (by simpa using h9)) ?_
  exact ⟨rfl, rfl⟩
/-- verify.object. -/
theorem vobject_c (m : List GObj) (id : ByteArray) (H : Heap) (hm : m.length < 4611686018427387904) :
    ACalls Tryz.prog 168 [.agg [.pv (slObjs m)], sv id] H (fun r H' => r = .tup [av (encObj (obOf m id)), bv (isOb m id)] ∧ H' = H) := by
  refine ACalls.pure ?_ (by simp) H
  refine ACalls.body Tryz.func168 rfl Tryz.ntmps168 (Nat.le_of_ble_eq_true rfl) ?_
  refine awp_seq ?_
  refine awp_region ?_
  refine al_d rfl rfl rfl (by exact opd_box (id := 2) rfl rfl rfl rfl rfl) ?_
  refine al_d rfl rfl rfl (by exact opd_box (id := 3) rfl rfl rfl rfl rfl) ?_
  refine al_d rfl rfl rfl (by exact x_alloc (id := 4) rfl zo42 rfl rfl) ?_
  refine al_d rfl rfl rfl (by exact opd_assign rfl rfl) ?_
  refine al_nil ?_
  refine awp_seq ?_
  refine awp_region ?_
  refine al_d rfl rfl rfl (by exact (by first | exact opd_field_ref rfl fo24_0 rfl rfl rfl rfl | exact opd_field_pad rfl fo24_0 rfl rfl)) ?_
  refine al_d rfl rfl rfl (by exact (by first | exact opd_load1_ref rfl Tryz.isAgg22 rfl rfl rfl rfl rfl | exact opd_load1_pad rfl Tryz.isAgg22 rfl (by first | omega | assumption) rfl)) ?_
  refine al_d rfl rfl rfl (by exact opd_makeFunc rfl rfl) ?_
  refine al_d rfl rfl rfl (by exact opr_call rfl rfl Tryz.call81 rfl (indexFunc_GObj _ m (idIs id) _ hm (fun o _ => CallsV.clo Tryz.call204 (object1_c o id _ _ rfl rfl (Closed.of (by simp)))))) ?_
  refine al_d rfl rfl rfl (by exact opd_assign rfl rfl) ?_
  refine al_nil ?_
  refine awp_seq ?_
  refine awp_seq ?_
  refine awp_region ?_
  refine al_d rfl rfl rfl (by exact opd_move rfl rfl) ?_
  refine al_d rfl rfl rfl (by exact opd_lss rfl rfl rfl) ?_
  refine al_nil ?_
  refine awp_cond rfl (fun hc1 => ?_) (fun hc1 => ?_)
  -- cond 1
  · rcases gidx_cases (idIs id) m with ⟨hg, hf⟩ | ⟨k, o, hg, hk, hf⟩
    · skip
      refine awp_seq ?_
      refine awp_region ?_
      refine al_d rfl rfl rfl (by exact x_build rfl bo42 rfl rfl) ?_
      refine al_n rfl rfl (by exact (by first | exact x_store_all rfl Tryz.sizeOf42 rfl rfl rfl rfl rfl rfl rfl rfl | exact x_store rfl Tryz.sizeOf42 rfl rfl rfl rfl rfl rfl rfl (by simp only [List.length_cons, List.length_nil]; omega) (by simp only [List.drop_succ_cons, List.drop_zero, List.take_succ_cons, List.take_zero, List.take_nil, List.map_cons, List.map_nil, List.set_cons_zero, List.set_cons_succ, List.cons_append, List.nil_append]; rfl) (by simp only [List.drop_succ_cons, List.drop_zero, List.take_succ_cons, List.take_zero, List.take_nil, List.map_cons, List.map_nil, List.set_cons_zero, List.set_cons_succ, List.cons_append, List.nil_append]; rfl) | exact x_store rfl Tryz.sizeOf42 rfl rfl rfl rfl rfl rfl rfl (Nat.le_of_ble_eq_true rfl) rfl rfl)) ?_
      refine al_d rfl rfl rfl (by exact opd_assign rfl rfl) ?_
      refine al_nil ?_
      refine awp_ret ?_
      -- return
      refine aret2 (H' := []) (by first | exact .inr rfl | exact .inl rfl) rfl (rval_cell rfl Tryz.isAgg42 Tryz.sizeOf42 rfl rfl rfl (by simp only [List.drop_succ_cons, List.drop_zero, List.take_succ_cons, List.take_zero, List.take_nil, List.map_cons, List.map_nil, List.set_cons_zero, List.set_cons_succ, List.cons_append, List.nil_append]; rfl) rfl) (rval_tmp rfl) (Fin.wk (by simp) trivial trivial) ?_
      exact ⟨by simp only [obOf, isOb, hf]; rfl, rfl⟩
    · rw [hg] at hc1
      have := of_decide_eq_true hc1
      omega
  · rcases gidx_cases (idIs id) m with ⟨hg, hf⟩ | ⟨k, o, hg, hk, hf⟩
    · rw [hg] at hc1
      exact absurd hc1 (by decide)
    · rw [hg]
      have hi := map_get (f := encObj) hk
      refine awp_skip ?_
      refine awp_seq ?_
      refine awp_region ?_
      refine al_d rfl rfl rfl (by exact (by first | exact opd_field_ref rfl fo24_0 rfl rfl rfl rfl | exact opd_field_pad rfl fo24_0 rfl rfl)) ?_
      refine al_d rfl rfl rfl (by exact (by first | exact opd_load1_ref rfl Tryz.isAgg22 rfl rfl rfl rfl rfl | exact opd_load1_pad rfl Tryz.isAgg22 rfl (by first | omega | assumption) rfl)) ?_
      refine al_d rfl rfl rfl (by exact opd_move rfl rfl) ?_
      refine al_d rfl rfl rfl (by exact (by first | exact x_index_pad rfl so22 rfl rfl (by omega) (by first | exact Int.toNat_natCast _ | rfl) (by assumption) rfl | exact x_index_osl rfl so22 rfl rfl rfl rfl rfl (by omega) (by first | exact Int.toNat_natCast _ | rfl) (by first | omega | assumption) rfl)) ?_
      refine al_d rfl rfl rfl (by exact (by first | exact opd_loadn_ref rfl Tryz.isAgg42 Tryz.sizeOf42 rfl rfl rfl rfl (by simp only [List.drop_succ_cons, List.drop_zero, List.take_succ_cons, List.take_zero, List.take_nil, List.map_cons, List.map_nil, List.set_cons_zero, List.set_cons_succ, List.cons_append, List.nil_append, encObj]; rfl) rfl | exact opd_loadn_pad rfl Tryz.isAgg42 Tryz.sizeOf42 rfl (by first | omega | assumption) (by simp only [List.drop_succ_cons, List.drop_zero, List.take_succ_cons, List.take_zero, List.take_nil, List.map_cons, List.map_nil, List.set_cons_zero, List.set_cons_succ, List.cons_append, List.nil_append, encObj]; rfl) rfl)) ?_
      refine al_n rfl rfl (by exact (by first | exact x_store_all rfl Tryz.sizeOf42 rfl rfl rfl rfl rfl rfl rfl rfl | exact x_store rfl Tryz.sizeOf42 rfl rfl rfl rfl rfl rfl rfl (by simp only [List.length_cons, List.length_nil]; omega) (by simp only [List.drop_succ_cons, List.drop_zero, List.take_succ_cons, List.take_zero, List.take_nil, List.map_cons, List.map_nil, List.set_cons_zero, List.set_cons_succ, List.cons_append, List.nil_append]; rfl) (by simp only [List.drop_succ_cons, List.drop_zero, List.take_succ_cons, List.take_zero, List.take_nil, List.map_cons, List.map_nil, List.set_cons_zero, List.set_cons_succ, List.cons_append, List.nil_append]; rfl) | exact x_store rfl Tryz.sizeOf42 rfl rfl rfl rfl rfl rfl rfl (Nat.le_of_ble_eq_true rfl) rfl rfl)) ?_
      refine al_d rfl rfl rfl (by exact opd_assign rfl rfl) ?_
      refine al_nil ?_
      refine awp_ret ?_
      -- return
      refine aret2 (H' := []) (by first | exact .inr rfl | exact .inl rfl) rfl (rval_cell rfl Tryz.isAgg42 Tryz.sizeOf42 rfl rfl rfl (by simp only [List.drop_succ_cons, List.drop_zero, List.take_succ_cons, List.take_zero, List.take_nil, List.map_cons, List.map_nil, List.set_cons_zero, List.set_cons_succ, List.cons_append, List.nil_append]; rfl) rfl) (rval_tmp rfl) (Fin.wk (by simp) trivial trivial) ?_
      exact ⟨by simp only [obOf, isOb, hf]; rfl, rfl⟩
end Go.Proofs.YtdgoodjhndeojaaGreat
end
section
set_option linter.unusedVariables false
set_option linter.unusedSimpArgs false
set_option maxRecDepth 100000
namespace Go.Proofs.YtdgoodjhndeojaaGreat
open Go.Abs
theorem von_c (x y : Int) (H : Heap) : ACalls Tryz.prog 171 [.agg [iv x, iv y]] H (fun r H' => r = bv (onP x y) ∧ H' = H) := by
  refine ACalls.pure ?_ (by simp) H
  refine ACalls.body Tryz.func171 rfl Tryz.ntmps171 (Nat.le_of_ble_eq_true rfl) ?_
  refine awp_seq ?_
  refine awp_region ?_
  refine al_d rfl rfl rfl (by exact opd_box (id := 1) rfl rfl rfl rfl rfl) ?_
  refine al_d rfl rfl rfl (by exact opd_assign rfl rfl) ?_
  refine al_nil ?_
  refine awp_seq ?_
  refine awp_bool (t := 2) (n := 16) (X := onP x y) ?_ ?_
  · all_goals (refine al_d rfl rfl rfl (by exact (by first | exact opd_field_ref rfl fo38_0 rfl rfl rfl rfl | exact opd_field_pad rfl fo38_0 rfl rfl)) ?_)
    all_goals (refine al_d rfl rfl rfl (by exact (by first | exact opd_load1_ref rfl Tryz.isAgg3 rfl rfl rfl rfl rfl | exact opd_load1_pad rfl Tryz.isAgg3 rfl (by first | omega | assumption) rfl)) ?_)
    all_goals (refine al_d rfl rfl rfl (by exact (by first | exact opd_field_ref rfl fo38_1 rfl rfl rfl rfl | exact opd_field_pad rfl fo38_1 rfl rfl)) ?_)
    all_goals (refine al_d rfl rfl rfl (by exact (by first | exact opd_load1_ref rfl Tryz.isAgg3 rfl rfl rfl rfl rfl | exact opd_load1_pad rfl Tryz.isAgg3 rfl (by first | omega | assumption) rfl)) ?_)
    all_goals (refine al_d rfl rfl rfl (by exact opd_min rfl rfl rfl rfl) ?_)
    all_goals (refine al_d rfl rfl rfl (by exact opd_geq rfl rfl rfl) ?_)
    all_goals (refine al_d rfl rfl rfl (by exact opd_move rfl rfl) ?_)
    all_goals (first | refine al_split (t := 9) rfl (fun h9 => ?_) (fun h9 => ?_) | refine al_dup (t := 9) rfl ?_ | skip)
    all_goals (try contradiction)
    all_goals (first | refine al_off rfl rfl rfl rfl rfl ?_ | refine al_offu rfl rfl rfl rfl ?_ | refine al_ond rfl rfl rfl rfl rfl rfl (by exact (by first | exact opd_field_ref rfl fo38_0 rfl rfl rfl rfl | exact opd_field_pad rfl fo38_0 rfl rfl)) ?_)
    all_goals (first | refine al_off rfl rfl rfl rfl rfl ?_ | refine al_offu rfl rfl rfl rfl ?_ | refine al_ond rfl rfl rfl rfl rfl rfl (by exact (by first | exact opd_load1_ref rfl Tryz.isAgg3 rfl rfl rfl rfl rfl | exact opd_load1_pad rfl Tryz.isAgg3 rfl (by first | omega | assumption) rfl)) ?_)
    all_goals (first | refine al_off rfl rfl rfl rfl rfl ?_ | refine al_offu rfl rfl rfl rfl ?_ | refine al_ond rfl rfl rfl rfl rfl rfl (by exact (by first | exact opd_field_ref rfl fo38_1 rfl rfl rfl rfl | exact opd_field_pad rfl fo38_1 rfl rfl)) ?_)
    all_goals (first | refine al_off rfl rfl rfl rfl rfl ?_ | refine al_offu rfl rfl rfl rfl ?_ | refine al_ond rfl rfl rfl rfl rfl rfl (by exact (by first | exact opd_load1_ref rfl Tryz.isAgg3 rfl rfl rfl rfl rfl | exact opd_load1_pad rfl Tryz.isAgg3 rfl (by first | omega | assumption) rfl)) ?_)
    all_goals (first | refine al_off rfl rfl rfl rfl rfl ?_ | refine al_offu rfl rfl rfl rfl ?_ | refine al_ond rfl rfl rfl rfl rfl rfl (by exact opd_max rfl rfl rfl rfl) ?_)
    all_goals (first | refine al_off rfl rfl rfl rfl rfl ?_ | refine al_offu rfl rfl rfl rfl ?_ | refine al_ond rfl rfl rfl rfl rfl rfl (by exact opd_lss rfl rfl rfl) ?_)
    all_goals (refine al_d rfl rfl rfl (by exact (by first | exact opd_pick_t rfl rfl rfl | exact opd_pick_f rfl rfl rfl | exact opd_pickt rfl rfl (by assumption) rfl | exact opd_pickf rfl rfl (by assumption) rfl | exact opd_pick rfl rfl rfl)) ?_)
    all_goals (refine al_d rfl rfl rfl (by exact opd_assign rfl rfl) ?_)
    all_goals (refine al_nil ?_)
    all_goals (exact ⟨⟨_, rfl, by first | rfl | (simp only [onP, *]; rfl) | (simp_all [onP]; done) | (simp only [*, Bool.false_and, Bool.true_and, Bool.and_false, Bool.and_true, Bool.true_or, Bool.false_or, Bool.or_true, Bool.or_false, Bool.not_true, Bool.not_false]; done) | (simp_all; omega) | (simp_all [onP]; omega)⟩, rfl, rfl, rfl⟩)
  refine awp_ret ?_
  -- return
  refine aret1 (H' := []) (by first | exact .inr rfl | exact .inl rfl) rfl (rval_tmp rfl) (Fin.wk (by simp) trivial trivial) ?_
  exact ⟨rfl, rfl⟩
/-- slices.ContainsFunc -/
theorem containsFunc_GEdit (fv : AV) (l : List GEdit) (p : GEdit → Bool) (H : Heap) (hl : l.length < 4611686018427387904) (hf : ∀ o, o ∈ l → CallsV Tryz.prog fv [.agg ((encEdit o).map .pv)] H (fun r H' => r = .pv (.bool (p o)) ∧ H' = H)) :
    ACalls Tryz.prog 58 [.pv (.sl (l.map encEdit)), fv] H (fun r H' => r = .pv (.bool (l.any p)) ∧ H' = H) := by
  refine ACalls.body Tryz.func58 rfl Tryz.ntmps58 (Nat.le_of_ble_eq_true rfl) ?_
  refine awp_seq ?_
  refine awp_region ?_
  refine al_d rfl rfl rfl (by exact opd_assign rfl rfl) ?_
  refine al_nil ?_
  refine awp_seq ?_
  refine awp_region ?_
  refine al_d rfl rfl rfl (by exact opd_move rfl rfl) ?_
  refine al_d rfl rfl rfl (by exact opd_move rfl rfl) ?_
  refine al_d rfl rfl rfl (by exact opr_call rfl rfl Tryz.call114 rfl (indexFunc_GEdit fv l p H hl hf)) ?_
  refine al_d rfl rfl rfl (by exact opd_geq rfl rfl rfl) ?_
  refine al_d rfl rfl rfl (by exact opd_assign rfl rfl) ?_
  refine al_nil ?_
  refine awp_ret ?_
  -- return
  exact aret1 (H' := H) (.inr rfl) rfl (rval_tmp rfl) Fin.refl ⟨by rw [gidx_any], rfl⟩
theorem containsFunc_GTag (fv : AV) (l : List GTag) (p : GTag → Bool) (H : Heap) (hl : l.length < 4611686018427387904) (hf : ∀ o, o ∈ l → CallsV Tryz.prog fv [.agg ((encTag o).map .pv)] H (fun r H' => r = .pv (.bool (p o)) ∧ H' = H)) :
    ACalls Tryz.prog 169 [.pv (.sl (l.map encTag)), fv] H (fun r H' => r = .pv (.bool (l.any p)) ∧ H' = H) := by
  refine ACalls.body Tryz.func169 rfl Tryz.ntmps169 (Nat.le_of_ble_eq_true rfl) ?_
  refine awp_seq ?_
  refine awp_region ?_
  refine al_d rfl rfl rfl (by exact opd_assign rfl rfl) ?_
  refine al_nil ?_
  refine awp_seq ?_
  refine awp_region ?_
  refine al_d rfl rfl rfl (by exact opd_move rfl rfl) ?_
  refine al_d rfl rfl rfl (by exact opd_move rfl rfl) ?_
  refine al_d rfl rfl rfl (by exact opr_call rfl rfl Tryz.call205 rfl (indexFunc_GTag fv l p H hl hf)) ?_
  refine al_d rfl rfl rfl (by exact opd_geq rfl rfl rfl) ?_
  refine al_d rfl rfl rfl (by exact opd_assign rfl rfl) ?_
  refine al_nil ?_
  refine awp_ret ?_
  -- return
  exact aret1 (H' := H) (.inr rfl) rfl (rval_tmp rfl) Fin.refl ⟨by rw [gidx_any], rfl⟩
theorem blanked1_c (t : GTag) (H : Heap) : ACalls Tryz.prog 170 [av (encTag t)] H (fun r H' => r = bv (nameIs t) ∧ H' = H) := by
  refine ACalls.pure ?_ (by simp) H
  refine ACalls.body Tryz.func170 rfl Tryz.ntmps170 (Nat.le_of_ble_eq_true rfl) ?_
  refine awp_seq ?_
  refine awp_region ?_
  refine al_d rfl rfl rfl (by exact opd_box (id := 1) rfl rfl rfl rfl rfl) ?_
  refine al_d rfl rfl rfl (by exact opd_assign rfl rfl) ?_
  refine al_nil ?_
  refine awp_seq ?_
  refine awp_region ?_
  refine al_d rfl rfl rfl (by exact (by first | exact opd_field_ref rfl fo62_0 rfl rfl rfl rfl | exact opd_field_pad rfl fo62_0 rfl rfl)) ?_
  refine al_d rfl rfl rfl (by exact (by first | exact opd_load1_ref rfl Tryz.isAgg9 rfl rfl rfl rfl rfl | exact opd_load1_pad rfl Tryz.isAgg9 rfl (by first | omega | assumption) rfl)) ?_
  refine al_d rfl rfl rfl (by exact opd_seql rfl rfl rfl) ?_
  refine al_d rfl rfl rfl (by exact opd_assign rfl rfl) ?_
  refine al_nil ?_
  refine awp_ret ?_
  -- return
  refine aret1 (H' := []) (by first | exact .inr rfl | exact .inl rfl) rfl (rval_tmp rfl) (Fin.wk (by simp) trivial trivial) ?_
  exact ⟨rfl, rfl⟩
def gDropped (m : List GObj) (e : GEdit) : Bool := isOb m e.id && decide (e.op = 5)
def gOthers (a b : GEdit) : Bool := !decide (a.id = b.id)
def gNamed (l : List GTag) : Bool := l.any nameIs
def gBlanked (m : List GObj) (e : GEdit) : Bool := decide (e.op = 3) && decide (e.key = sName) && decide (e.val = sNil) && gNamed (obOf m e.id).tags
def gFar (o : GObj) (e : GEdit) : Bool := decide (1000000 ≤ (e.x - o.x) * (e.x - o.x) + (e.y - o.y) * (e.y - o.y))
def gMoved (m : List GObj) (e : GEdit) : Bool := decide (e.op = 2) && decide ((obOf m e.id).kind = 1) && onP (obOf m e.id).x (obOf m e.id).y && onP e.x e.y && gFar (obOf m e.id) e
def gPut (e : GEdit) : Bool := decide (e.op = 1) && decide (e.obj.kind = 1)
def tagEq (a b : GTag) : Bool := decide (a.key = b.key) && decide (a.val = b.val)
def tagsEq : List GTag → List GTag → Bool
  | [], [] => true
  | a :: l, b :: r => tagEq a b && tagsEq l r
  | _, _ => false
def gAlike (a b : GEdit) : Bool := !decide (a.obj.id = b.obj.id) && (decide (a.obj.x = b.obj.x) && decide (a.obj.y = b.obj.y)) && tagsEq a.obj.tags b.obj.tags
theorem onP_lo {x y : Int} (h : onP x y = true) : (0 ≤ x ∧ x < 1048576) ∧ 0 ≤ y ∧ y < 1048576 := by
  simp only [onP, Bool.and_eq_true, decide_eq_true_eq] at h
  obtain ⟨h1, h2⟩ := h
  rw [Int.le_min] at h1
  rw [Int.max_lt] at h2
  omega
theorem sq_le {d : Int} (h1 : -1048576 ≤ d) (h2 : d ≤ 1048576) : 0 ≤ d * d ∧ d * d ≤ 1099511627776 := by
  constructor
  · rcases Int.le_total 0 d with h | h
    · exact Int.mul_nonneg h h
    · exact Int.mul_nonneg_of_nonpos_of_nonpos h h
  · have h3 : (1048576 - d) * (1048576 + d) ≥ 0 := Int.mul_nonneg (by omega) (by omega)
    have h4 : (1048576 - d) * (1048576 + d) = 1099511627776 - d * d := by
      rw [Int.sub_mul, Int.mul_add, Int.mul_add]; rw [Int.mul_comm d 1048576]; omega
    omega
theorem dropped_c (m : List GObj) (e : GEdit) (H : Heap) (hm : m.length < 4611686018427387904) :
    ACalls Tryz.prog 128 [.agg [.pv (slObjs m)], av (encEdit e)] H (fun r H' => r = bv (gDropped m e) ∧ H' = H) := by
  refine ACalls.pure ?_ (by simp) H
  refine ACalls.body Tryz.func128 rfl Tryz.ntmps128 (Nat.le_of_ble_eq_true rfl) ?_
  refine awp_seq ?_
  refine awp_region ?_
  refine al_d rfl rfl rfl (by exact opd_box (id := 2) rfl rfl rfl rfl rfl) ?_
  refine al_d rfl rfl rfl (by exact opd_box (id := 3) rfl rfl rfl rfl rfl) ?_
  refine al_d rfl rfl rfl (by exact opd_assign rfl rfl) ?_
  refine al_nil ?_
  refine awp_seq ?_
  refine awp_region ?_
  refine al_d rfl rfl rfl (by exact (by first | exact opd_loadn_ref rfl Tryz.isAgg24 Tryz.sizeOf24 rfl rfl rfl rfl (by simp only [List.drop_succ_cons, List.drop_zero, List.take_succ_cons, List.take_zero, List.take_nil, List.map_cons, List.map_nil, List.set_cons_zero, List.set_cons_succ, List.cons_append, List.nil_append, encTag, encObj, encEdit]; rfl) rfl | exact opd_loadn_pad rfl Tryz.isAgg24 Tryz.sizeOf24 rfl (by first | omega | assumption) (by simp only [List.drop_succ_cons, List.drop_zero, List.take_succ_cons, List.take_zero, List.take_nil, List.map_cons, List.map_nil, List.set_cons_zero, List.set_cons_succ, List.cons_append, List.nil_append, encTag, encObj, encEdit]; rfl) rfl)) ?_
  refine al_d rfl rfl rfl (by exact (by first | exact opd_field_ref rfl fo44_1 rfl rfl rfl rfl | exact opd_field_pad rfl fo44_1 rfl rfl)) ?_
  refine al_d rfl rfl rfl (by exact (by first | exact opd_load1_ref rfl Tryz.isAgg9 rfl rfl rfl rfl rfl | exact opd_load1_pad rfl Tryz.isAgg9 rfl (by first | omega | assumption) rfl)) ?_
  refine al_d rfl rfl rfl (by exact opr_call rfl rfl Tryz.call168 rfl (vobject_c m e.id _ hm)) ?_
  refine al_d rfl rfl rfl (by exact opd_move rfl rfl) ?_
  refine al_d rfl rfl rfl (by exact opd_extract rfl rfl rfl) ?_
  refine al_d rfl rfl rfl (by exact opd_extract rfl rfl rfl) ?_
  refine al_d rfl rfl rfl (by exact x_alloc (id := 5) rfl zo42 rfl rfl) ?_
  refine al_n rfl rfl (by exact (by first | exact x_store_all rfl Tryz.sizeOf42 rfl rfl rfl rfl rfl rfl rfl rfl | exact x_store rfl Tryz.sizeOf42 rfl rfl rfl rfl rfl rfl rfl (by simp only [List.length_cons, List.length_nil]; omega) (by simp only [List.drop_succ_cons, List.drop_zero, List.take_succ_cons, List.take_zero, List.take_nil, List.map_cons, List.map_nil, List.set_cons_zero, List.set_cons_succ, List.cons_append, List.nil_append, encTag, encObj, encEdit]; rfl) (by simp only [List.drop_succ_cons, List.drop_zero, List.take_succ_cons, List.take_zero, List.take_nil, List.map_cons, List.map_nil, List.set_cons_zero, List.set_cons_succ, List.cons_append, List.nil_append, encTag, encObj, encEdit]; rfl) | exact x_store rfl Tryz.sizeOf42 rfl rfl rfl rfl rfl rfl rfl (Nat.le_of_ble_eq_true rfl) rfl rfl)) ?_
  refine al_d rfl rfl rfl (by exact opd_assign rfl rfl) ?_
  refine al_nil ?_
  refine awp_seq ?_
  refine awp_bool (t := 4) (n := 8) (X := gDropped m e) ?_ ?_
  · all_goals (refine al_d rfl rfl rfl (by exact opd_move rfl rfl) ?_)
    all_goals (refine al_d rfl rfl rfl (by exact opd_move rfl rfl) ?_)
    all_goals (first | refine al_split (t := 15) rfl (fun h15 => ?_) (fun h15 => ?_) | refine al_dup (t := 15) rfl ?_ | skip)
    all_goals (try contradiction)
    all_goals (first | refine al_off rfl rfl rfl rfl rfl ?_ | refine al_offu rfl rfl rfl rfl ?_ | refine al_ond rfl rfl rfl rfl rfl rfl (by exact (by first | exact opd_field_ref rfl fo44_0 rfl rfl rfl rfl | exact opd_field_pad rfl fo44_0 rfl rfl)) ?_)
    all_goals (first | refine al_off rfl rfl rfl rfl rfl ?_ | refine al_offu rfl rfl rfl rfl ?_ | refine al_ond rfl rfl rfl rfl rfl rfl (by exact (by first | exact opd_load1_ref rfl Tryz.isAgg3 rfl rfl rfl rfl rfl | exact opd_load1_pad rfl Tryz.isAgg3 rfl (by first | omega | assumption) rfl)) ?_)
    all_goals (first | refine al_off rfl rfl rfl rfl rfl ?_ | refine al_offu rfl rfl rfl rfl ?_ | refine al_ond rfl rfl rfl rfl rfl rfl (by exact opd_eql rfl rfl rfl) ?_)
    all_goals (refine al_d rfl rfl rfl (by exact (by first | exact opd_pick_t rfl rfl rfl | exact opd_pick_f rfl rfl rfl | exact opd_pickt rfl rfl (by assumption) rfl | exact opd_pickf rfl rfl (by assumption) rfl | exact opd_pick rfl rfl rfl)) ?_)
    all_goals (refine al_d rfl rfl rfl (by exact opd_assign rfl rfl) ?_)
    all_goals (refine al_nil ?_)
    all_goals (exact ⟨⟨_, rfl, by first | rfl | (simp only [gDropped, *]; rfl) | (simp_all [gDropped]; done) | (simp only [*, Bool.false_and, Bool.true_and, Bool.and_false, Bool.and_true, Bool.true_or, Bool.false_or, Bool.or_true, Bool.or_false, Bool.not_true, Bool.not_false]; done) | (simp_all; omega) | (simp_all [gDropped]; omega)⟩, rfl, rfl, rfl⟩)
  refine awp_ret ?_
  -- return
  refine aret1 (H' := []) (by first | exact .inr rfl | exact .inl rfl) rfl (rval_tmp rfl) (Fin.wk (by simp) trivial trivial) ?_
  exact ⟨rfl, rfl⟩
theorem others_c (a b : GEdit) (H : Heap) : ACalls Tryz.prog 129 [av (encEdit a), av (encEdit b)] H (fun r H' => r = bv (gOthers a b) ∧ H' = H) := by
  refine ACalls.pure ?_ (by simp) H
  refine ACalls.body Tryz.func129 rfl Tryz.ntmps129 (Nat.le_of_ble_eq_true rfl) ?_
  refine awp_seq ?_
  refine awp_region ?_
  refine al_d rfl rfl rfl (by exact opd_box (id := 2) rfl rfl rfl rfl rfl) ?_
  refine al_d rfl rfl rfl (by exact opd_box (id := 3) rfl rfl rfl rfl rfl) ?_
  refine al_d rfl rfl rfl (by exact opd_assign rfl rfl) ?_
  refine al_nil ?_
  refine awp_seq ?_
  refine awp_region ?_
  refine al_d rfl rfl rfl (by exact (by first | exact opd_field_ref rfl fo44_1 rfl rfl rfl rfl | exact opd_field_pad rfl fo44_1 rfl rfl)) ?_
  refine al_d rfl rfl rfl (by exact (by first | exact opd_load1_ref rfl Tryz.isAgg9 rfl rfl rfl rfl rfl | exact opd_load1_pad rfl Tryz.isAgg9 rfl (by first | omega | assumption) rfl)) ?_
  refine al_d rfl rfl rfl (by exact (by first | exact opd_field_ref rfl fo44_1 rfl rfl rfl rfl | exact opd_field_pad rfl fo44_1 rfl rfl)) ?_
  refine al_d rfl rfl rfl (by exact (by first | exact opd_load1_ref rfl Tryz.isAgg9 rfl rfl rfl rfl rfl | exact opd_load1_pad rfl Tryz.isAgg9 rfl (by first | omega | assumption) rfl)) ?_
  refine al_d rfl rfl rfl (by exact opd_sneq rfl rfl rfl) ?_
  refine al_d rfl rfl rfl (by exact opd_assign rfl rfl) ?_
  refine al_nil ?_
  refine awp_ret ?_
  -- return
  refine aret1 (H' := []) (by first | exact .inr rfl | exact .inl rfl) rfl (rval_tmp rfl) (Fin.wk (by simp) trivial trivial) ?_
  exact ⟨rfl, rfl⟩
theorem put_c (ms : PV) (e : GEdit) (H : Heap) : ACalls Tryz.prog 132 [.agg [.pv ms], av (encEdit e)] H (fun r H' => r = bv (gPut e) ∧ H' = H) := by
  refine ACalls.pure ?_ (by simp) H
  refine ACalls.body Tryz.func132 rfl Tryz.ntmps132 (Nat.le_of_ble_eq_true rfl) ?_
  refine awp_seq ?_
  refine awp_region ?_
  refine al_d rfl rfl rfl (by exact opd_box (id := 2) rfl rfl rfl rfl rfl) ?_
  refine al_d rfl rfl rfl (by exact opd_box (id := 3) rfl rfl rfl rfl rfl) ?_
  refine al_d rfl rfl rfl (by exact opd_assign rfl rfl) ?_
  refine al_nil ?_
  refine awp_seq ?_
  refine awp_bool (t := 4) (n := 11) (X := gPut e) ?_ ?_
  · all_goals (refine al_d rfl rfl rfl (by exact (by first | exact opd_field_ref rfl fo44_0 rfl rfl rfl rfl | exact opd_field_pad rfl fo44_0 rfl rfl)) ?_)
    all_goals (refine al_d rfl rfl rfl (by exact (by first | exact opd_load1_ref rfl Tryz.isAgg3 rfl rfl rfl rfl rfl | exact opd_load1_pad rfl Tryz.isAgg3 rfl (by first | omega | assumption) rfl)) ?_)
    all_goals (refine al_d rfl rfl rfl (by exact opd_eql rfl rfl rfl) ?_)
    all_goals (refine al_d rfl rfl rfl (by exact opd_move rfl rfl) ?_)
    all_goals (first | refine al_split (t := 8) rfl (fun h8 => ?_) (fun h8 => ?_) | refine al_dup (t := 8) rfl ?_ | skip)
    all_goals (try contradiction)
    all_goals (first | refine al_off rfl rfl rfl rfl rfl ?_ | refine al_offu rfl rfl rfl rfl ?_ | refine al_ond rfl rfl rfl rfl rfl rfl (by exact (by first | exact opd_field_ref rfl fo44_8 rfl rfl rfl rfl | exact opd_field_pad rfl fo44_8 rfl rfl)) ?_)
    all_goals (first | refine al_off rfl rfl rfl rfl rfl ?_ | refine al_offu rfl rfl rfl rfl ?_ | refine al_ond rfl rfl rfl rfl rfl rfl (by exact (by first | exact opd_field_ref rfl fo42_1 rfl rfl rfl rfl | exact opd_field_pad rfl fo42_1 rfl rfl)) ?_)
    all_goals (first | refine al_off rfl rfl rfl rfl rfl ?_ | refine al_offu rfl rfl rfl rfl ?_ | refine al_ond rfl rfl rfl rfl rfl rfl (by exact (by first | exact opd_load1_ref rfl Tryz.isAgg3 rfl rfl rfl rfl rfl | exact opd_load1_pad rfl Tryz.isAgg3 rfl (by first | omega | assumption) rfl)) ?_)
    all_goals (first | refine al_off rfl rfl rfl rfl rfl ?_ | refine al_offu rfl rfl rfl rfl ?_ | refine al_ond rfl rfl rfl rfl rfl rfl (by exact opd_eql rfl rfl rfl) ?_)
    all_goals (refine al_d rfl rfl rfl (by exact (by first | exact opd_pick_t rfl rfl rfl | exact opd_pick_f rfl rfl rfl | exact opd_pickt rfl rfl (by assumption) rfl | exact opd_pickf rfl rfl (by assumption) rfl | exact opd_pick rfl rfl rfl)) ?_)
    all_goals (refine al_d rfl rfl rfl (by exact opd_assign rfl rfl) ?_)
    all_goals (refine al_nil ?_)
    all_goals (exact ⟨⟨_, rfl, by first | rfl | (simp only [gPut, *]; rfl) | (simp_all [gPut]; done) | (simp only [*, Bool.false_and, Bool.true_and, Bool.and_false, Bool.and_true, Bool.true_or, Bool.false_or, Bool.or_true, Bool.or_false, Bool.not_true, Bool.not_false]; done) | (simp_all; omega) | (simp_all [gPut]; omega)⟩, rfl, rfl, rfl⟩)
  refine awp_ret ?_
  -- return
  refine aret1 (H' := []) (by first | exact .inr rfl | exact .inl rfl) rfl (rval_tmp rfl) (Fin.wk (by simp) trivial trivial) ?_
  exact ⟨rfl, rfl⟩
theorem blanked_c (m : List GObj) (e : GEdit) (H : Heap) (hm : m.length < 4611686018427387904) (ht : (obOf m e.id).tags.length < 4611686018427387904) :
    ACalls Tryz.prog 130 [.agg [.pv (slObjs m)], av (encEdit e)] H (fun r H' => r = bv (gBlanked m e) ∧ H' = H) := by
  refine ACalls.pure ?_ (by simp) H
  refine ACalls.body Tryz.func130 rfl Tryz.ntmps130 (Nat.le_of_ble_eq_true rfl) ?_
  refine awp_seq ?_
  refine awp_region ?_
  refine al_d rfl rfl rfl (by exact opd_box (id := 2) rfl rfl rfl rfl rfl) ?_
  refine al_d rfl rfl rfl (by exact opd_box (id := 3) rfl rfl rfl rfl rfl) ?_
  refine al_d rfl rfl rfl (by exact opd_assign rfl rfl) ?_
  refine al_nil ?_
  refine awp_seq ?_
  refine awp_region ?_
  refine al_d rfl rfl rfl (by exact (by first | exact opd_loadn_ref rfl Tryz.isAgg24 Tryz.sizeOf24 rfl rfl rfl rfl (by simp only [List.drop_succ_cons, List.drop_zero, List.take_succ_cons, List.take_zero, List.take_nil, List.map_cons, List.map_nil, List.set_cons_zero, List.set_cons_succ, List.cons_append, List.nil_append, encTag, encObj, encEdit]; rfl) rfl | exact opd_loadn_pad rfl Tryz.isAgg24 Tryz.sizeOf24 rfl (by first | omega | assumption) (by simp only [List.drop_succ_cons, List.drop_zero, List.take_succ_cons, List.take_zero, List.take_nil, List.map_cons, List.map_nil, List.set_cons_zero, List.set_cons_succ, List.cons_append, List.nil_append, encTag, encObj, encEdit]; rfl) rfl)) ?_
  refine al_d rfl rfl rfl (by exact (by first | exact opd_field_ref rfl fo44_1 rfl rfl rfl rfl | exact opd_field_pad rfl fo44_1 rfl rfl)) ?_
  refine al_d rfl rfl rfl (by exact (by first | exact opd_load1_ref rfl Tryz.isAgg9 rfl rfl rfl rfl rfl | exact opd_load1_pad rfl Tryz.isAgg9 rfl (by first | omega | assumption) rfl)) ?_
  refine al_d rfl rfl rfl (by exact opr_call rfl rfl Tryz.call168 rfl (vobject_c m e.id _ hm)) ?_
  refine al_d rfl rfl rfl (by exact opd_move rfl rfl) ?_
  refine al_d rfl rfl rfl (by exact opd_extract rfl rfl rfl) ?_
  refine al_d rfl rfl rfl (by exact opd_extract rfl rfl rfl) ?_
  refine al_d rfl rfl rfl (by exact x_alloc (id := 5) rfl zo42 rfl rfl) ?_
  refine al_n rfl rfl (by exact (by first | exact x_store_all rfl Tryz.sizeOf42 rfl rfl rfl rfl rfl rfl rfl rfl | exact x_store rfl Tryz.sizeOf42 rfl rfl rfl rfl rfl rfl rfl (by simp only [List.length_cons, List.length_nil]; omega) (by simp only [List.drop_succ_cons, List.drop_zero, List.take_succ_cons, List.take_zero, List.take_nil, List.map_cons, List.map_nil, List.set_cons_zero, List.set_cons_succ, List.cons_append, List.nil_append, encTag, encObj, encEdit]; rfl) (by simp only [List.drop_succ_cons, List.drop_zero, List.take_succ_cons, List.take_zero, List.take_nil, List.map_cons, List.map_nil, List.set_cons_zero, List.set_cons_succ, List.cons_append, List.nil_append, encTag, encObj, encEdit]; rfl) | exact x_store rfl Tryz.sizeOf42 rfl rfl rfl rfl rfl rfl rfl (Nat.le_of_ble_eq_true rfl) rfl rfl)) ?_
  refine al_d rfl rfl rfl (by exact opd_assign rfl rfl) ?_
  refine al_nil ?_
  refine awp_seq ?_
  refine awp_bool (t := 4) (n := 22) (X := gBlanked m e) ?_ ?_
  · all_goals (refine al_d rfl rfl rfl (by exact (by first | exact opd_field_ref rfl fo44_0 rfl rfl rfl rfl | exact opd_field_pad rfl fo44_0 rfl rfl)) ?_)
    all_goals (refine al_d rfl rfl rfl (by exact (by first | exact opd_load1_ref rfl Tryz.isAgg3 rfl rfl rfl rfl rfl | exact opd_load1_pad rfl Tryz.isAgg3 rfl (by first | omega | assumption) rfl)) ?_)
    all_goals (refine al_d rfl rfl rfl (by exact opd_eql rfl rfl rfl) ?_)
    all_goals (refine al_d rfl rfl rfl (by exact opd_move rfl rfl) ?_)
    all_goals (first | refine al_split (t := 17) rfl (fun h17 => ?_) (fun h17 => ?_) | refine al_dup (t := 17) rfl ?_ | skip)
    all_goals (try contradiction)
    all_goals (first | refine al_off rfl rfl rfl rfl rfl ?_ | refine al_offu rfl rfl rfl rfl ?_ | refine al_ond rfl rfl rfl rfl rfl rfl (by exact (by first | exact opd_field_ref rfl fo44_5 rfl rfl rfl rfl | exact opd_field_pad rfl fo44_5 rfl rfl)) ?_)
    all_goals (first | refine al_off rfl rfl rfl rfl rfl ?_ | refine al_offu rfl rfl rfl rfl ?_ | refine al_ond rfl rfl rfl rfl rfl rfl (by exact (by first | exact opd_load1_ref rfl Tryz.isAgg9 rfl rfl rfl rfl rfl | exact opd_load1_pad rfl Tryz.isAgg9 rfl (by first | omega | assumption) rfl)) ?_)
    all_goals (first | refine al_off rfl rfl rfl rfl rfl ?_ | refine al_offu rfl rfl rfl rfl ?_ | refine al_ond rfl rfl rfl rfl rfl rfl (by exact opd_seql rfl rfl rfl) ?_)
    all_goals (refine al_d rfl rfl rfl (by exact (by first | exact opd_pick_t rfl rfl rfl | exact opd_pick_f rfl rfl rfl | exact opd_pickt rfl rfl (by assumption) rfl | exact opd_pickf rfl rfl (by assumption) rfl | exact opd_pick rfl rfl rfl)) ?_)
    all_goals (refine al_d rfl rfl rfl (by exact opd_move rfl rfl) ?_)
    all_goals (first | refine al_split (t := 22) rfl (fun h22 => ?_) (fun h22 => ?_) | refine al_dup (t := 22) rfl ?_ | skip)
    all_goals (try contradiction)
    all_goals (first | refine al_off rfl rfl rfl rfl rfl ?_ | refine al_offu rfl rfl rfl rfl ?_ | refine al_ond rfl rfl rfl rfl rfl rfl (by exact (by first | exact opd_field_ref rfl fo44_6 rfl rfl rfl rfl | exact opd_field_pad rfl fo44_6 rfl rfl)) ?_)
    all_goals (first | refine al_off rfl rfl rfl rfl rfl ?_ | refine al_offu rfl rfl rfl rfl ?_ | refine al_ond rfl rfl rfl rfl rfl rfl (by exact (by first | exact opd_load1_ref rfl Tryz.isAgg9 rfl rfl rfl rfl rfl | exact opd_load1_pad rfl Tryz.isAgg9 rfl (by first | omega | assumption) rfl)) ?_)
    all_goals (first | refine al_off rfl rfl rfl rfl rfl ?_ | refine al_offu rfl rfl rfl rfl ?_ | refine al_ond rfl rfl rfl rfl rfl rfl (by exact opd_seql rfl rfl rfl) ?_)
    all_goals (refine al_d rfl rfl rfl (by exact (by first | exact opd_pick_t rfl rfl rfl | exact opd_pick_f rfl rfl rfl | exact opd_pickt rfl rfl (by assumption) rfl | exact opd_pickf rfl rfl (by assumption) rfl | exact opd_pick rfl rfl rfl)) ?_)
    all_goals (refine al_d rfl rfl rfl (by exact opd_move rfl rfl) ?_)
    all_goals (first | refine al_split (t := 27) rfl (fun h27 => ?_) (fun h27 => ?_) | refine al_dup (t := 27) rfl ?_ | skip)
    all_goals (try contradiction)
    all_goals (first | refine al_off rfl rfl rfl rfl rfl ?_ | refine al_offu rfl rfl rfl rfl ?_ | refine al_ond rfl rfl rfl rfl rfl rfl (by exact (by first | exact opd_field_ref rfl fo42_4 rfl rfl rfl rfl | exact opd_field_pad rfl fo42_4 rfl rfl)) ?_)
    all_goals (first | refine al_off rfl rfl rfl rfl rfl ?_ | refine al_offu rfl rfl rfl rfl ?_ | refine al_ond rfl rfl rfl rfl rfl rfl (by exact (by first | exact opd_load1_ref rfl Tryz.isAgg40 rfl rfl rfl rfl rfl | exact opd_load1_pad rfl Tryz.isAgg40 rfl (by first | omega | assumption) rfl)) ?_)
    all_goals (first | refine al_off rfl rfl rfl rfl rfl ?_ | refine al_offu rfl rfl rfl rfl ?_ | refine al_ond rfl rfl rfl rfl rfl rfl (by exact opr_call rfl rfl Tryz.call169 rfl (containsFunc_GTag _ (obOf m e.id).tags nameIs _ ht (fun t _ => CallsV.fn Tryz.call170 (blanked1_c t _)))) ?_)
    all_goals (refine al_d rfl rfl rfl (by exact (by first | exact opd_pick_t rfl rfl rfl | exact opd_pick_f rfl rfl rfl | exact opd_pickt rfl rfl (by assumption) rfl | exact opd_pickf rfl rfl (by assumption) rfl | exact opd_pick rfl rfl rfl)) ?_)
    all_goals (refine al_d rfl rfl rfl (by exact opd_assign rfl rfl) ?_)
    all_goals (refine al_nil ?_)
    all_goals (exact ⟨⟨_, rfl, by first | rfl | (simp only [gBlanked, *]; rfl) | (simp_all [gBlanked]; done) | (simp only [*, Bool.false_and, Bool.true_and, Bool.and_false, Bool.and_true, Bool.true_or, Bool.false_or, Bool.or_true, Bool.or_false, Bool.not_true, Bool.not_false]; done) | (simp_all; omega) | (simp_all [gBlanked]; omega)⟩, rfl, rfl, rfl⟩)
  refine awp_ret ?_
  -- return
  refine aret1 (H' := []) (by first | exact .inr rfl | exact .inl rfl) rfl (rval_tmp rfl) (Fin.wk (by simp) trivial trivial) ?_
  exact ⟨rfl, rfl⟩
theorem moved_c (m : List GObj) (e : GEdit) (H : Heap) (hm : m.length < 4611686018427387904) :
    ACalls Tryz.prog 131 [.agg [.pv (slObjs m)], av (encEdit e)] H (fun r H' => r = bv (gMoved m e) ∧ H' = H) := by
  refine ACalls.pure ?_ (by simp) H
  refine ACalls.body Tryz.func131 rfl Tryz.ntmps131 (Nat.le_of_ble_eq_true rfl) ?_
  refine awp_seq ?_
  refine awp_region ?_
  refine al_d rfl rfl rfl (by exact opd_box (id := 2) rfl rfl rfl rfl rfl) ?_
  refine al_d rfl rfl rfl (by exact opd_box (id := 3) rfl rfl rfl rfl rfl) ?_
  refine al_d rfl rfl rfl (by exact opd_assign rfl rfl) ?_
  refine al_nil ?_
  refine awp_seq ?_
  refine awp_region ?_
  refine al_d rfl rfl rfl (by exact (by first | exact opd_loadn_ref rfl Tryz.isAgg24 Tryz.sizeOf24 rfl rfl rfl rfl (by simp only [List.drop_succ_cons, List.drop_zero, List.take_succ_cons, List.take_zero, List.take_nil, List.map_cons, List.map_nil, List.set_cons_zero, List.set_cons_succ, List.cons_append, List.nil_append, encTag, encObj, encEdit]; rfl) rfl | exact opd_loadn_pad rfl Tryz.isAgg24 Tryz.sizeOf24 rfl (by first | omega | assumption) (by simp only [List.drop_succ_cons, List.drop_zero, List.take_succ_cons, List.take_zero, List.take_nil, List.map_cons, List.map_nil, List.set_cons_zero, List.set_cons_succ, List.cons_append, List.nil_append, encTag, encObj, encEdit]; rfl) rfl)) ?_
  refine al_d rfl rfl rfl (by exact (by first | exact opd_field_ref rfl fo44_1 rfl rfl rfl rfl | exact opd_field_pad rfl fo44_1 rfl rfl)) ?_
  refine al_d rfl rfl rfl (by exact (by first | exact opd_load1_ref rfl Tryz.isAgg9 rfl rfl rfl rfl rfl | exact opd_load1_pad rfl Tryz.isAgg9 rfl (by first | omega | assumption) rfl)) ?_
  refine al_d rfl rfl rfl (by exact opr_call rfl rfl Tryz.call168 rfl (vobject_c m e.id _ hm)) ?_
  refine al_d rfl rfl rfl (by exact opd_move rfl rfl) ?_
  refine al_d rfl rfl rfl (by exact opd_extract rfl rfl rfl) ?_
  refine al_d rfl rfl rfl (by exact opd_extract rfl rfl rfl) ?_
  refine al_d rfl rfl rfl (by exact x_alloc (id := 5) rfl zo42 rfl rfl) ?_
  refine al_n rfl rfl (by exact (by first | exact x_store_all rfl Tryz.sizeOf42 rfl rfl rfl rfl rfl rfl rfl rfl | exact x_store rfl Tryz.sizeOf42 rfl rfl rfl rfl rfl rfl rfl (by simp only [List.length_cons, List.length_nil]; omega) (by simp only [List.drop_succ_cons, List.drop_zero, List.take_succ_cons, List.take_zero, List.take_nil, List.map_cons, List.map_nil, List.set_cons_zero, List.set_cons_succ, List.cons_append, List.nil_append, encTag, encObj, encEdit]; rfl) (by simp only [List.drop_succ_cons, List.drop_zero, List.take_succ_cons, List.take_zero, List.take_nil, List.map_cons, List.map_nil, List.set_cons_zero, List.set_cons_succ, List.cons_append, List.nil_append, encTag, encObj, encEdit]; rfl) | exact x_store rfl Tryz.sizeOf42 rfl rfl rfl rfl rfl rfl rfl (Nat.le_of_ble_eq_true rfl) rfl rfl)) ?_
  refine al_d rfl rfl rfl (by exact opd_assign rfl rfl) ?_
  refine al_nil ?_
  refine awp_seq ?_
  refine awp_seq ?_
  refine awp_bool (t := 35) (n := 23) (X := !(decide (e.op = 2)) || !(decide ((obOf m e.id).kind = 1)) || !(onP (obOf m e.id).x (obOf m e.id).y) || !(onP e.x e.y)) ?_ ?_
  · all_goals (refine al_d rfl rfl rfl (by exact (by first | exact opd_field_ref rfl fo44_0 rfl rfl rfl rfl | exact opd_field_pad rfl fo44_0 rfl rfl)) ?_)
    all_goals (refine al_d rfl rfl rfl (by exact (by first | exact opd_load1_ref rfl Tryz.isAgg3 rfl rfl rfl rfl rfl | exact opd_load1_pad rfl Tryz.isAgg3 rfl (by first | omega | assumption) rfl)) ?_)
    all_goals (refine al_d rfl rfl rfl (by exact opd_neq rfl rfl rfl) ?_)
    all_goals (refine al_d rfl rfl rfl (by exact opd_move rfl rfl) ?_)
    all_goals (first | refine al_split (t := 19) rfl (fun h19 => ?_) (fun h19 => ?_) | refine al_dup (t := 19) rfl ?_ | skip)
    all_goals (try contradiction)
    all_goals (first | refine al_off rfl rfl rfl rfl rfl ?_ | refine al_offu rfl rfl rfl rfl ?_ | refine al_ond rfl rfl rfl rfl rfl rfl (by exact (by first | exact opd_field_ref rfl fo42_1 rfl rfl rfl rfl | exact opd_field_pad rfl fo42_1 rfl rfl)) ?_)
    all_goals (first | refine al_off rfl rfl rfl rfl rfl ?_ | refine al_offu rfl rfl rfl rfl ?_ | refine al_ond rfl rfl rfl rfl rfl rfl (by exact (by first | exact opd_load1_ref rfl Tryz.isAgg3 rfl rfl rfl rfl rfl | exact opd_load1_pad rfl Tryz.isAgg3 rfl (by first | omega | assumption) rfl)) ?_)
    all_goals (first | refine al_off rfl rfl rfl rfl rfl ?_ | refine al_offu rfl rfl rfl rfl ?_ | refine al_ond rfl rfl rfl rfl rfl rfl (by exact opd_neq rfl rfl rfl) ?_)
    all_goals (refine al_d rfl rfl rfl (by exact (by first | exact opd_pick_t rfl rfl rfl | exact opd_pick_f rfl rfl rfl | exact opd_pickt rfl rfl (by assumption) rfl | exact opd_pickf rfl rfl (by assumption) rfl | exact opd_pick rfl rfl rfl)) ?_)
    all_goals (refine al_d rfl rfl rfl (by exact opd_move rfl rfl) ?_)
    all_goals (first | refine al_split (t := 24) rfl (fun h24 => ?_) (fun h24 => ?_) | refine al_dup (t := 24) rfl ?_ | skip)
    all_goals (try contradiction)
    all_goals (first | refine al_off rfl rfl rfl rfl rfl ?_ | refine al_offu rfl rfl rfl rfl ?_ | refine al_ond rfl rfl rfl rfl rfl rfl (by exact (by first | exact opd_field_ref rfl fo42_2 rfl rfl rfl rfl | exact opd_field_pad rfl fo42_2 rfl rfl)) ?_)
    all_goals (first | refine al_off rfl rfl rfl rfl rfl ?_ | refine al_offu rfl rfl rfl rfl ?_ | refine al_ond rfl rfl rfl rfl rfl rfl (by exact (by first | exact opd_loadn_ref rfl Tryz.isAgg38 Tryz.sizeOf38 rfl rfl rfl rfl (by simp only [List.drop_succ_cons, List.drop_zero, List.take_succ_cons, List.take_zero, List.take_nil, List.map_cons, List.map_nil, List.set_cons_zero, List.set_cons_succ, List.cons_append, List.nil_append, encTag, encObj, encEdit]; rfl) rfl | exact opd_loadn_pad rfl Tryz.isAgg38 Tryz.sizeOf38 rfl (by first | omega | assumption) (by simp only [List.drop_succ_cons, List.drop_zero, List.take_succ_cons, List.take_zero, List.take_nil, List.map_cons, List.map_nil, List.set_cons_zero, List.set_cons_succ, List.cons_append, List.nil_append, encTag, encObj, encEdit]; rfl) rfl)) ?_)
    all_goals (first | refine al_off rfl rfl rfl rfl rfl ?_ | refine al_offu rfl rfl rfl rfl ?_ | refine al_ond rfl rfl rfl rfl rfl rfl (by exact opr_call rfl rfl Tryz.call171 rfl (von_c (obOf m e.id).x (obOf m e.id).y _)) ?_)
    all_goals (first | refine al_off rfl rfl rfl rfl rfl ?_ | refine al_offu rfl rfl rfl rfl ?_ | refine al_ond rfl rfl rfl rfl rfl rfl (by exact opd_not rfl rfl) ?_)
    all_goals (refine al_d rfl rfl rfl (by exact (by first | exact opd_pick_t rfl rfl rfl | exact opd_pick_f rfl rfl rfl | exact opd_pickt rfl rfl (by assumption) rfl | exact opd_pickf rfl rfl (by assumption) rfl | exact opd_pick rfl rfl rfl)) ?_)
    all_goals (refine al_d rfl rfl rfl (by exact opd_move rfl rfl) ?_)
    all_goals (first | refine al_split (t := 30) rfl (fun h30 => ?_) (fun h30 => ?_) | refine al_dup (t := 30) rfl ?_ | skip)
    all_goals (try contradiction)
    all_goals (first | refine al_off rfl rfl rfl rfl rfl ?_ | refine al_offu rfl rfl rfl rfl ?_ | refine al_ond rfl rfl rfl rfl rfl rfl (by exact (by first | exact opd_field_ref rfl fo44_4 rfl rfl rfl rfl | exact opd_field_pad rfl fo44_4 rfl rfl)) ?_)
    all_goals (first | refine al_off rfl rfl rfl rfl rfl ?_ | refine al_offu rfl rfl rfl rfl ?_ | refine al_ond rfl rfl rfl rfl rfl rfl (by exact (by first | exact opd_loadn_ref rfl Tryz.isAgg38 Tryz.sizeOf38 rfl rfl rfl rfl (by simp only [List.drop_succ_cons, List.drop_zero, List.take_succ_cons, List.take_zero, List.take_nil, List.map_cons, List.map_nil, List.set_cons_zero, List.set_cons_succ, List.cons_append, List.nil_append, encTag, encObj, encEdit]; rfl) rfl | exact opd_loadn_pad rfl Tryz.isAgg38 Tryz.sizeOf38 rfl (by first | omega | assumption) (by simp only [List.drop_succ_cons, List.drop_zero, List.take_succ_cons, List.take_zero, List.take_nil, List.map_cons, List.map_nil, List.set_cons_zero, List.set_cons_succ, List.cons_append, List.nil_append, encTag, encObj, encEdit]; rfl) rfl)) ?_)
    all_goals (first | refine al_off rfl rfl rfl rfl rfl ?_ | refine al_offu rfl rfl rfl rfl ?_ | refine al_ond rfl rfl rfl rfl rfl rfl (by exact opr_call rfl rfl Tryz.call171 rfl (von_c e.x e.y _)) ?_)
    all_goals (first | refine al_off rfl rfl rfl rfl rfl ?_ | refine al_offu rfl rfl rfl rfl ?_ | refine al_ond rfl rfl rfl rfl rfl rfl (by exact opd_not rfl rfl) ?_)
    all_goals (refine al_d rfl rfl rfl (by exact (by first | exact opd_pick_t rfl rfl rfl | exact opd_pick_f rfl rfl rfl | exact opd_pickt rfl rfl (by assumption) rfl | exact opd_pickf rfl rfl (by assumption) rfl | exact opd_pick rfl rfl rfl)) ?_)
    all_goals (refine al_nil ?_)
    all_goals (exact ⟨⟨_, rfl, by first | rfl | (simp only [*, Bool.false_and, Bool.true_and, Bool.and_false, Bool.and_true, Bool.true_or, Bool.false_or, Bool.or_true, Bool.or_false, Bool.not_true, Bool.not_false]; done) | (simp_all; done) | (simp_all; omega)⟩, rfl, rfl, rfl⟩)
  refine awp_cond rfl (fun hc1 => ?_) (fun hc1 => ?_)
  -- cond 1
  · skip
    refine awp_seq ?_
    refine awp_region ?_
    refine al_d rfl rfl rfl (by exact opd_assign rfl rfl) ?_
    refine al_nil ?_
    refine awp_ret ?_
    -- return
    refine aret1 (H' := []) (by first | exact .inr rfl | exact .inl rfl) rfl (rval_tmp rfl) (Fin.wk (by simp) trivial trivial) ?_
    exact ⟨by rw [gMoved]; revert hc1; cases decide (e.op = 2) <;> cases decide ((obOf m e.id).kind = 1) <;> cases onP (obOf m e.id).x (obOf m e.id).y <;> cases onP e.x e.y <;> simp, rfl⟩
  · have hh : (decide (e.op = 2) = true ∧ decide ((obOf m e.id).kind = 1) = true) ∧ onP (obOf m e.id).x (obOf m e.id).y = true ∧ onP e.x e.y = true := by
      revert hc1; cases decide (e.op = 2) <;> cases decide ((obOf m e.id).kind = 1) <;> cases onP (obOf m e.id).x (obOf m e.id).y <;> cases onP e.x e.y <;> simp
    obtain ⟨⟨h1, h2⟩, h3, h4⟩ := hh
    have b3 := onP_lo h3
    have b4 := onP_lo h4
    have q1 := sq_le (d := e.x - (obOf m e.id).x) (by omega) (by omega)
    have q2 := sq_le (d := e.y - (obOf m e.id).y) (by omega) (by omega)
    refine awp_skip ?_
    refine awp_seq ?_
    refine awp_drawc follows ?_
    refine dc_cons (DStep.q rfl (by exact (by first | exact opd_field_ref rfl fo44_4 rfl rfl rfl rfl | exact opd_field_pad rfl fo44_4 rfl rfl))) rfl ?_
    refine dc_cons (DStep.q rfl (by exact (by first | exact opd_field_ref rfl fo38_0 rfl rfl rfl rfl | exact opd_field_pad rfl fo38_0 rfl rfl))) rfl ?_
    refine dc_cons (DStep.q rfl (by exact (by first | exact opd_load1_ref rfl Tryz.isAgg3 rfl rfl rfl rfl rfl | exact opd_load1_pad rfl Tryz.isAgg3 rfl (by first | omega | assumption) rfl))) rfl ?_
    refine dc_cons (DStep.q rfl (by exact (by first | exact opd_field_ref rfl fo42_2 rfl rfl rfl rfl | exact opd_field_pad rfl fo42_2 rfl rfl))) rfl ?_
    refine dc_cons (DStep.q rfl (by exact (by first | exact opd_field_ref rfl fo38_0 rfl rfl rfl rfl | exact opd_field_pad rfl fo38_0 rfl rfl))) rfl ?_
    refine dc_cons (DStep.q rfl (by exact (by first | exact opd_load1_ref rfl Tryz.isAgg3 rfl rfl rfl rfl rfl | exact opd_load1_pad rfl Tryz.isAgg3 rfl (by first | omega | assumption) rfl))) rfl ?_
    refine dc_cons (DStep.q rfl (by exact opd_sub rfl rfl rfl (by first | exact w64 (by omega) (by omega) | exact wu8 (by omega) (by omega) | rfl))) rfl ?_
    refine dc_cons (DStep.q rfl (by exact (by first | exact opd_field_ref rfl fo44_4 rfl rfl rfl rfl | exact opd_field_pad rfl fo44_4 rfl rfl))) rfl ?_
    refine dc_cons (DStep.q rfl (by exact (by first | exact opd_field_ref rfl fo38_1 rfl rfl rfl rfl | exact opd_field_pad rfl fo38_1 rfl rfl))) rfl ?_
    refine dc_cons (DStep.q rfl (by exact (by first | exact opd_load1_ref rfl Tryz.isAgg3 rfl rfl rfl rfl rfl | exact opd_load1_pad rfl Tryz.isAgg3 rfl (by first | omega | assumption) rfl))) rfl ?_
    refine dc_cons (DStep.q rfl (by exact (by first | exact opd_field_ref rfl fo42_2 rfl rfl rfl rfl | exact opd_field_pad rfl fo42_2 rfl rfl))) rfl ?_
    refine dc_cons (DStep.q rfl (by exact (by first | exact opd_field_ref rfl fo38_1 rfl rfl rfl rfl | exact opd_field_pad rfl fo38_1 rfl rfl))) rfl ?_
    refine dc_cons (DStep.q rfl (by exact (by first | exact opd_load1_ref rfl Tryz.isAgg3 rfl rfl rfl rfl rfl | exact opd_load1_pad rfl Tryz.isAgg3 rfl (by first | omega | assumption) rfl))) rfl ?_
    refine dc_cons (DStep.q rfl (by exact opd_sub rfl rfl rfl (by first | exact w64 (by omega) (by omega) | exact wu8 (by omega) (by omega) | rfl))) rfl ?_
    refine dc_cons (DStep.q rfl (by exact opd_assign rfl rfl)) rfl ?_
    refine dc_cons (DStep.q rfl (by exact opd_assign rfl rfl)) rfl ?_
    refine dc_nil ⟨by kernel_rfl, ?_⟩
    refine awp_seq ?_
    refine awp_region ?_
    refine al_d rfl rfl rfl (by exact opd_move rfl rfl) ?_
    refine al_d rfl rfl rfl (by exact opd_move rfl rfl) ?_
    refine al_d rfl rfl rfl (by exact opd_mul rfl rfl rfl (by first | exact w64 (by omega) (by omega) | exact wu8 (by omega) (by omega) | rfl)) ?_
    refine al_d rfl rfl rfl (by exact opd_move rfl rfl) ?_
    refine al_d rfl rfl rfl (by exact opd_move rfl rfl) ?_
    refine al_d rfl rfl rfl (by exact opd_mul rfl rfl rfl (by first | exact w64 (by omega) (by omega) | exact wu8 (by omega) (by omega) | rfl)) ?_
    refine al_d rfl rfl rfl (by exact opd_add rfl rfl rfl (by first | exact w64 (by omega) (by omega) | exact wu8 (by omega) (by omega) | rfl)) ?_
    refine al_d rfl rfl rfl (by exact opd_geq rfl rfl rfl) ?_
    refine al_d rfl rfl rfl (by exact opd_assign rfl rfl) ?_
    refine al_nil ?_
    refine awp_ret ?_
    -- return
    refine aret1 (H' := []) (by first | exact .inr rfl | exact .inl rfl) rfl (rval_tmp rfl) (Fin.wk (by simp) trivial trivial) ?_
    exact ⟨by rw [gMoved, h1, h2, h3, h4]; rfl, rfl⟩
end Go.Proofs.YtdgoodjhndeojaaGreat
end
