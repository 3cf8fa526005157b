/-
  CONTRACTS: object.Valid. Conditions: lengths below 2^62.
  CONTRACTS: atlas.Valid. Conditions: lengths below 2^62.
  WHAT THE ARGUMENTS OF THE LAWS HOLD: shapes as plain Lean data. Conditions: none.
  WHAT ALL LAWS' CLAIMS SHARE. Conditions: none.
  STATES AND RESULTS in front of a heap that is not looked into. Conditions: none.
  PLAIN LAWS of Go's order of strings, of valid maps and their parts. Conditions: none.
  STATES in front of a heap that is not looked into: objects are dropped. Conditions: none.
  A SLICE OF ONE'S OWN WHOSE CAPACITY IS KNOWN ('osc'): cap, cuts up to the capacity, appending within it or beyond it, copies inside of an object and from others, clear.
  Conditions: each rule's own premises.
  A SLICE OF ONE'S OWN WHOSE CAPACITY IS KNOWN: append within the capacity (it writes over what is there), append beyond it (a new object), clear, cuts with a bound.
  Conditions: each rule's own premises.
  AN OWNED SLICE IS LENT FOR GOOD: a call reads it as a slice that never changes; behind the call the object is empty.
  Conditions: each rule's own premises.
  A SLICE COMPARED WITH nil; copies in the form of the walks; an owned slice that ends with a call and is handed on as one that never changes.
  Conditions: each rule's own premises.
  CONTRACTS: strings.Compare; slices.BinarySearchFunc at lists in strict order, slices.Clone, Insert, Delete at the lists of the map. Conditions: lengths below 2^40.
-/
import Derived.Test.YtdcifaldfmpapaaKM1M3
import Derived.Scope
import Derived.Lib.Overlaps
import Derived.WalkSpells
import Derived.Lib.SliceRun
section
set_option linter.unusedVariables false
set_option linter.unusedSimpArgs false
set_option maxRecDepth 100000
namespace Go.Proofs.Ytdcifaldfmpapaa
open Go.Abs

theorem sob_clo (L : List ByteArray) (H : Heap) : ∀ r ∈ (sob L).rows, ∀ a ∈ r, Clo H a := by
  intro r hr a ha
  obtain ⟨i, hi⟩ := List.mem_iff_getElem?.1 hr
  obtain ⟨p, hp, rfl⟩ := mrows_get.1 hi
  simp only [sets, List.getElem?_map] at hp
  obtain ⟨q, _, rfl⟩ := Option.map_eq_some_iff.1 hp
  simp only [List.mem_cons, List.not_mem_nil, or_false] at ha
  rcases ha with rfl | rfl | rfl <;> simp
def vH (o : GObj) (last : ByteArray) (L : List ByteArray) : Heap := [(37, sob L), (4, bx 1 9 [sv last]), (3, bx 1 108 [.mp 37 0]), (1, bx 6 30 ((encObj o).map .pv))]
theorem vH_clo (o : GObj) (a : ByteArray) (L : List ByteArray) (f : Nat) : Clo (vH o a L) (.clo f [.ref 1 0 0 0, .ref 4 0 0 0, .ref 3 0 0 0]) := by
  refine .clo fun x hx => ?_
  simp only [List.mem_cons, List.not_mem_nil, or_false] at hx
  rcases hx with rfl | rfl | rfl <;> exact .ref rfl
def gTwice (o : GObj) (last : ByteArray) (L : List ByteArray) (s : ByteArray) : Bool := (decide (o.kind = 2) && decide (s = last)) || (decide (o.kind = 3) && inB L s)
def gWrong (o : GObj) (last : ByteArray) (L : List ByteArray) (s : ByteArray) : Bool := gTwice o last L s || !gName s
theorem valid1_c (o : GObj) (last s : ByteArray) (L : List ByteArray) (hs : s.size < 4611686018427387904) :
    ACalls Try.prog 81 [sv s, .ref 1 0 0 0, .ref 4 0 0 0, .ref 3 0 0 0] (vH o last L) (fun r H' => r = bv (gWrong o last L s) ∧ H' = vH o s (sput L s)) := by
  unfold vH
  refine ACalls.body Try.func81 rfl Try.ntmps81 (Nat.le_of_ble_eq_true rfl) ?_
  refine awp_seq ?_
  refine awp_region ?_
  refine al_d rfl rfl rfl (by exact opd_assign rfl rfl) ?_
  refine al_nil ?_
  refine awp_seq ?_
  refine awp_bool (t := 6) (n := 22) (X := gTwice o last L s) ?_ ?_
  · all_goals (refine al_d rfl rfl rfl (by exact (by first | exact opd_field_ref rfl fo30_1 rfl rfl rfl rfl | exact opd_field_pad rfl fo30_1 rfl rfl)) ?_)
    all_goals (refine al_d rfl rfl rfl (by exact (by first | exact opd_load1_ref rfl Try.isAgg3 rfl rfl rfl rfl rfl | exact opd_load1_pad rfl Try.isAgg3 rfl (by first | omega | assumption) rfl)) ?_)
    all_goals (refine al_d rfl rfl rfl (by exact opd_eql rfl rfl rfl) ?_)
    all_goals (refine al_d rfl rfl rfl (by exact opd_move rfl rfl) ?_)
    all_goals (first | refine al_split (t := 10) rfl (fun h10 => ?_) (fun h10 => ?_) | refine al_dup (t := 10) rfl ?_ | skip)
    all_goals (try contradiction)
    all_goals (first | refine al_off rfl rfl rfl rfl rfl ?_ | refine al_offu rfl rfl rfl rfl ?_ | refine al_ond rfl rfl rfl rfl rfl rfl (by exact opd_move rfl rfl) ?_)
    all_goals (first | refine al_off rfl rfl rfl rfl rfl ?_ | refine al_offu rfl rfl rfl rfl ?_ | refine al_ond rfl rfl rfl rfl rfl rfl (by exact (by first | exact opd_load1_ref rfl Try.isAgg9 rfl rfl rfl rfl rfl | exact opd_load1_pad rfl Try.isAgg9 rfl (by first | omega | assumption) rfl)) ?_)
    all_goals (first | refine al_off rfl rfl rfl rfl rfl ?_ | refine al_offu rfl rfl rfl rfl ?_ | refine al_ond rfl rfl rfl rfl rfl rfl (by exact opd_seql rfl rfl rfl) ?_)
    all_goals (refine al_d rfl rfl rfl (by exact (by first | exact opd_pick_t rfl rfl rfl | exact opd_pick_f rfl rfl rfl | exact opd_pickt rfl rfl (by assumption) rfl | exact opd_pickf rfl rfl (by assumption) rfl | exact opd_pick rfl rfl rfl)) ?_)
    all_goals (refine al_d rfl rfl rfl (by exact opd_move rfl rfl) ?_)
    all_goals (first | refine al_split (t := 15) rfl (fun h15 => ?_) (fun h15 => ?_) | refine al_dup (t := 15) rfl ?_ | skip)
    all_goals (try contradiction)
    all_goals (first | refine al_off rfl rfl rfl rfl rfl ?_ | refine al_offu rfl rfl rfl rfl ?_ | refine al_ond rfl rfl rfl rfl rfl rfl (by exact (by first | exact opd_field_ref rfl fo30_1 rfl rfl rfl rfl | exact opd_field_pad rfl fo30_1 rfl rfl)) ?_)
    all_goals (first | refine al_off rfl rfl rfl rfl rfl ?_ | refine al_offu rfl rfl rfl rfl ?_ | refine al_ond rfl rfl rfl rfl rfl rfl (by exact (by first | exact opd_load1_ref rfl Try.isAgg3 rfl rfl rfl rfl rfl | exact opd_load1_pad rfl Try.isAgg3 rfl (by first | omega | assumption) rfl)) ?_)
    all_goals (first | refine al_off rfl rfl rfl rfl rfl ?_ | refine al_offu rfl rfl rfl rfl ?_ | refine al_ond rfl rfl rfl rfl rfl rfl (by exact opd_eql rfl rfl rfl) ?_)
    all_goals (first | refine al_off rfl rfl rfl rfl rfl ?_ | refine al_offu rfl rfl rfl rfl ?_ | refine al_ond rfl rfl rfl rfl rfl rfl (by exact opd_move rfl rfl) ?_)
    all_goals (first | refine al_split (t := 19) rfl (fun h19 => ?_) (fun h19 => ?_) | refine al_dup (t := 19) rfl ?_ | skip)
    all_goals (try contradiction)
    all_goals (first | refine al_off rfl rfl rfl rfl rfl ?_ | refine al_offu rfl rfl rfl rfl ?_ | refine al_ond rfl rfl rfl rfl rfl rfl (by exact (by first | exact opd_load1_ref rfl Try.isAgg108 rfl rfl rfl rfl rfl | exact opd_load1_pad rfl Try.isAgg108 rfl (by first | omega | assumption) rfl)) ?_)
    all_goals (first | refine al_off rfl rfl rfl rfl rfl ?_ | refine al_offu rfl rfl rfl rfl ?_ | refine al_ond rfl rfl rfl rfl rfl rfl (by exact opd_move rfl rfl) ?_)
    all_goals (first | refine al_off rfl rfl rfl rfl rfl ?_ | refine al_offu rfl rfl rfl rfl ?_ | refine al_ond rfl rfl rfl rfl rfl rfl (by exact x_lookup_set rfl Try.underlying108 Try.underlying9 rfl rfl rfl rfl rfl Try.zeroValue4 (.inl rfl)) ?_)
    all_goals (first | refine al_off rfl rfl rfl rfl rfl ?_ | refine al_offu rfl rfl rfl rfl ?_ | refine al_ond rfl rfl rfl rfl rfl rfl (by exact (by first | exact opd_pick_t rfl rfl rfl | exact opd_pick_f rfl rfl rfl | exact opd_pickt rfl rfl (by assumption) rfl | exact opd_pickf rfl rfl (by assumption) rfl | exact opd_pick rfl rfl rfl)) ?_)
    all_goals (refine al_d rfl rfl rfl (by exact (by first | exact opd_pick_t rfl rfl rfl | exact opd_pick_f rfl rfl rfl | exact opd_pickt rfl rfl (by assumption) rfl | exact opd_pickf rfl rfl (by assumption) rfl | exact opd_pick rfl rfl rfl)) ?_)
    all_goals (refine al_d rfl rfl rfl (by exact opd_assign rfl rfl) ?_)
    all_goals (refine al_nil ?_)
    all_goals (exact ⟨⟨_, rfl, by first | rfl | (simp only [gTwice, *]; rfl) | (simp_all [gTwice]; done) | (simp only [*, Bool.false_and, Bool.true_and, Bool.and_false, Bool.and_true, Bool.true_or, Bool.false_or, Bool.or_true, Bool.or_false, Bool.not_true, Bool.not_false]; done) | (simp_all; omega) | (simp_all [gTwice]; omega)⟩, rfl, rfl, rfl⟩)
  refine awp_seq ?_
  refine awp_region ?_
  refine al_d rfl rfl rfl (by exact (by first | exact opd_load1_ref rfl Try.isAgg108 rfl rfl rfl rfl rfl | exact opd_load1_pad rfl Try.isAgg108 rfl (by first | omega | assumption) rfl)) ?_
  refine al_d rfl rfl rfl (by exact opd_move rfl rfl) ?_
  refine al_d rfl rfl rfl (by exact opd_move rfl rfl) ?_
  refine al_n rfl rfl (by exact x_put_set (.inl rfl) Try.underlying108 Try.underlying9 rfl rfl rfl rfl rfl rfl rfl) ?_
  refine al_n rfl rfl (by exact (by first | exact x_store_all rfl Try.sizeOf9 rfl rfl rfl rfl rfl rfl rfl rfl | exact x_store1 rfl Try.sizeOf9 rfl rfl rfl rfl rfl rfl (by simp only [List.length_cons, List.length_nil]; omega) (by simp only [List.drop_succ_cons, List.drop_zero, List.take_succ_cons, List.take_zero, List.take_nil, List.map_cons, List.map_nil, List.set_cons_zero, List.set_cons_succ, List.cons_append, List.nil_append, encTag, encObj]; rfl) (by simp only [List.drop_succ_cons, List.drop_zero, List.take_succ_cons, List.take_zero, List.take_nil, List.map_cons, List.map_nil, List.set_cons_zero, List.set_cons_succ, List.cons_append, List.nil_append, encTag, encObj]; rfl) | exact x_store1 rfl Try.sizeOf9 rfl rfl rfl rfl rfl rfl (Nat.le_of_ble_eq_true rfl) rfl rfl)) ?_
  refine al_nil ?_
  refine awp_seq ?_
  -- guard at a region with tests: %bool 5 := ..
  refine awp_bool (t := 5) (n := 8) (X := gTwice o last L s || !gName s) ?_ ?_
  · all_goals (refine al_d rfl rfl rfl (by exact opd_move rfl rfl) ?_)
    all_goals (refine al_d rfl rfl rfl (by exact opd_move rfl rfl) ?_)
    all_goals (first | refine al_split (t := 29) rfl (fun h29 => ?_) (fun h29 => ?_) | refine al_dup (t := 29) rfl ?_ | skip)
    all_goals (try contradiction)
    all_goals (first | refine al_off rfl rfl rfl rfl rfl ?_ | refine al_offu rfl rfl rfl rfl ?_ | refine al_ond rfl rfl rfl rfl rfl rfl (by exact opd_move rfl rfl) ?_)
    all_goals (first | refine al_off rfl rfl rfl rfl rfl ?_ | refine al_offu rfl rfl rfl rfl ?_ | refine al_ond rfl rfl rfl rfl rfl rfl (by exact opr_call rfl rfl Try.call15 rfl (name_c s _ hs)) ?_)
    all_goals (first | refine al_off rfl rfl rfl rfl rfl ?_ | refine al_offu rfl rfl rfl rfl ?_ | refine al_ond rfl rfl rfl rfl rfl rfl (by exact opd_not rfl rfl) ?_)
    all_goals (refine al_d rfl rfl rfl (by exact (by first | exact opd_pick_t rfl rfl rfl | exact opd_pick_f rfl rfl rfl | exact opd_pickt rfl rfl (by assumption) rfl | exact opd_pickf rfl rfl (by assumption) rfl | exact opd_pick rfl rfl rfl)) ?_)
    all_goals (refine al_d rfl rfl rfl (by exact opd_assign rfl rfl) ?_)
    all_goals (refine al_nil ?_)
    all_goals (exact ⟨⟨_, rfl, by first | rfl | (simp only [*]; rfl) | (simp_all; done)⟩, rfl, rfl, rfl⟩)
  refine awp_ret ?_
  -- return
  refine aret1 (H' := vH o s (sput L s)) (.inr rfl) rfl (rval_tmp rfl) (Fin.wk (by first | (simp; done) | (simp; rfl)) ⟨⟨_, rfl, rfl⟩, (by first | (simp; done) | (simp; rfl) | exact clo_map _ _ _ | exact sob_clo _ _ | exact vH_clo _ _ _ _), ⟨_, rfl, rfl⟩, (by first | (simp; done) | (simp; rfl) | exact clo_map _ _ _ | exact sob_clo _ _ | exact vH_clo _ _ _ _), ⟨_, rfl, rfl⟩, (by first | (simp; done) | (simp; rfl) | exact clo_map _ _ _ | exact sob_clo _ _ | exact vH_clo _ _ _ _), ⟨_, rfl, rfl⟩, (by first | (simp; done) | (simp; rfl) | exact clo_map _ _ _ | exact sob_clo _ _ | exact vH_clo _ _ _ _), trivial⟩ ⟨rfl, rfl, rfl, rfl, trivial⟩) ?_
  exact ⟨rfl, rfl⟩
/-- The keys that have come. -/
def seenL (l : List ByteArray) : Nat → List ByteArray
  | 0 => []
  | k + 1 => sput (seenL l k) ((l[k]?).getD sNil)
def wrongAt (o : GObj) (k : Nat) : Bool := match o.refs[k]? with
  | some s => gWrong o (before id o.refs k) (seenL o.refs k) s
  | none => false
def gKind (o : GObj) : Bool := if o.kind = 1 then decide ((o.refs.length : Int) = 0) && gOn o.x o.y else if o.kind = 5 then decide ((o.refs.length : Int) = 3) && (decide (o.x = 0) && decide (o.y = 0)) else decide (o.x = 0) && decide (o.y = 0)
def gHeadN (o : GObj) (n : Int) : Bool := decide (gWord o.kind = sNil) || !gName o.id || !gTags o.tags || decide (n < gLeast o.kind) || decide (2000 < n)
def gHead (o : GObj) : Bool := gHeadN o (o.refs.length : Int)
def gObj (o : GObj) : Bool := !gHead o && (!((List.range o.refs.length).any (wrongAt o)) && gKind o)
def okO (o : GObj) : Prop := o.id.size < 4611686018427387904 ∧ okTags o.tags ∧ o.refs.length < 4611686018427387904 ∧ ∀ s ∈ o.refs, s.size < 4611686018427387904
theorem word_kind {k : Int} (h : decide (gWord k = sNil) = false) : 0 ≤ k ∧ k < 6 := by
  by_cases h0 : 0 ≤ k ∧ k < 6
  · exact h0
  · have : gWord k = sNil := by
      have hn : ¬ (k = 1) ∧ ¬ (k = 2) ∧ ¬ (k = 3) ∧ ¬ (k = 4) ∧ ¬ (k = 5) := by omega
      simp only [gWord, hn.1, hn.2.1, hn.2.2.1, hn.2.2.2.1, hn.2.2.2.2, if_false]
    rw [this] at h
    simp at h
theorem objValid_c (o : GObj) (H : Heap) (ho : okO o) : ACalls Try.prog 41 [av (encObj o)] H (fun r H' => r = bv (gObj o) ∧ H' = H) := by
  refine ACalls.pure ?_ (by simp) H
  obtain ⟨h1, h2, h3, h4⟩ := ho
  have hml : (o.refs.map encStr).length = o.refs.length := List.length_map _
  refine ACalls.body Try.func41 rfl Try.ntmps41 (Nat.le_of_ble_eq_true rfl) ?_
  refine awp_seq ?_
  refine awp_region ?_
  refine al_d rfl rfl rfl (by exact opd_box (id := 1) rfl rfl rfl rfl rfl) ?_
  refine al_d rfl rfl rfl (by exact opd_assign rfl rfl) ?_
  refine al_nil ?_
  refine awp_seq ?_
  refine awp_seq ?_
  refine awp_mergeR (t := 36) (n := 31) (X := gHeadN o ((o.refs.map encStr).length : Int)) ?_ ?_
  · cases hg10 : (decide (gWord o.kind = sNil) : Bool)
    · cases hg16 : (!gName o.id : Bool)
      · cases hg22 : (!gTags o.tags : Bool)
        · cases hg31 : (decide (((o.refs.map encStr).length : Int) < gLeast o.kind) : Bool)
          · refine awp_drawc follows ?_
            refine dc_cons (DStep.q rfl (by exact (by first | exact opd_field_ref rfl fo30_1 rfl rfl rfl rfl | exact opd_field_pad rfl fo30_1 rfl rfl))) rfl ?_
            refine dc_cons (DStep.q rfl (by exact (by first | exact opd_load1_ref rfl Try.isAgg3 rfl rfl rfl rfl rfl | exact opd_load1_pad rfl Try.isAgg3 rfl (by first | omega | assumption) rfl))) rfl ?_
            refine dc_cons (DStep.q rfl (by exact opr_call rfl rfl Try.call79 rfl (word_c o.kind _))) rfl ?_
            refine dc_cons (DStep.q rfl (by exact opd_seql rfl rfl rfl)) rfl ?_
            refine dc_cons (DStep.q rfl (by exact opd_move rfl rfl)) rfl ?_
            refine dc_cons (q_on_f rfl rfl rfl (by first | rfl | assumption) (by exact (by first | exact opd_field_ref rfl fo30_0 rfl rfl rfl rfl | exact opd_field_pad rfl fo30_0 rfl rfl))) rfl ?_
            refine dc_cons (q_on_f rfl rfl rfl (by first | rfl | assumption) (by exact (by first | exact opd_load1_ref rfl Try.isAgg9 rfl rfl rfl rfl rfl | exact opd_load1_pad rfl Try.isAgg9 rfl (by first | omega | assumption) rfl))) rfl ?_
            refine dc_cons (q_on_f rfl rfl rfl (by first | rfl | assumption) (by exact opr_call rfl rfl Try.call15 rfl (name_c o.id _ h1))) rfl ?_
            refine dc_cons (q_on_f rfl rfl rfl (by first | rfl | assumption) (by exact opd_not rfl rfl)) rfl ?_
            refine dc_cons (DStep.q rfl (by exact (by first | exact opd_pick_t rfl rfl rfl | exact opd_pick_f rfl rfl rfl | exact opd_pickt rfl rfl (by assumption) rfl | exact opd_pickf rfl rfl (by assumption) rfl | exact opd_pick rfl rfl rfl))) rfl ?_
            refine dc_cons (DStep.q rfl (by exact opd_move rfl rfl)) rfl ?_
            refine dc_cons (q_on_f rfl rfl rfl (by first | rfl | assumption) (by exact (by first | exact opd_field_ref rfl fo30_4 rfl rfl rfl rfl | exact opd_field_pad rfl fo30_4 rfl rfl))) rfl ?_
            refine dc_cons (q_on_f rfl rfl rfl (by first | rfl | assumption) (by exact (by first | exact opd_load1_ref rfl Try.isAgg28 rfl rfl rfl rfl rfl | exact opd_load1_pad rfl Try.isAgg28 rfl (by first | omega | assumption) rfl))) rfl ?_
            refine dc_cons (q_on_f rfl rfl rfl (by first | rfl | assumption) (by exact opr_call rfl rfl Try.call32 rfl (tagValid_c o.tags _ h2))) rfl ?_
            refine dc_cons (q_on_f rfl rfl rfl (by first | rfl | assumption) (by exact opd_not rfl rfl)) rfl ?_
            refine dc_cons (DStep.q rfl (by exact (by first | exact opd_pick_t rfl rfl rfl | exact opd_pick_f rfl rfl rfl | exact opd_pickt rfl rfl (by assumption) rfl | exact opd_pickf rfl rfl (by assumption) rfl | exact opd_pick rfl rfl rfl))) rfl ?_
            refine dc_cons (DStep.q rfl (by exact opd_move rfl rfl)) rfl ?_
            refine dc_cons (q_on_f rfl rfl rfl (by first | rfl | assumption) (by exact (by first | exact opd_field_ref rfl fo30_3 rfl rfl rfl rfl | exact opd_field_pad rfl fo30_3 rfl rfl))) rfl ?_
            refine dc_cons (q_on_f rfl rfl rfl (by first | rfl | assumption) (by exact (by first | exact opd_load1_ref rfl Try.isAgg27 rfl rfl rfl rfl rfl | exact opd_load1_pad rfl Try.isAgg27 rfl (by first | omega | assumption) rfl))) rfl ?_
            refine dc_cons (q_on_f rfl rfl rfl (by first | rfl | assumption) (by exact (by first | exact opd_len_sl rfl Try.underlying27 rfl | exact opd_len_osl rfl Try.underlying27 rfl rfl rfl))) rfl ?_
            refine dc_cons (q_on_f rfl rfl rfl (by first | rfl | assumption) (by exact (by first | exact opd_field_ref rfl fo30_1 rfl rfl rfl rfl | exact opd_field_pad rfl fo30_1 rfl rfl))) rfl ?_
            refine dc_cons (q_on_f rfl rfl rfl (by first | rfl | assumption) (by exact (by first | exact opd_load1_ref rfl Try.isAgg3 rfl rfl rfl rfl rfl | exact opd_load1_pad rfl Try.isAgg3 rfl (by first | omega | assumption) rfl))) rfl ?_
            refine dc_cons (q_on_f rfl rfl rfl (by first | rfl | assumption) (by exact opr_call rfl rfl Try.call80 rfl (least_c o.kind _ (word_kind hg10).1 (word_kind hg10).2))) rfl ?_
            refine dc_cons (q_on_f rfl rfl rfl (by first | rfl | assumption) (by exact opd_lss rfl rfl rfl)) rfl ?_
            refine dc_cons (DStep.q rfl (by exact (by first | exact opd_pick_t rfl rfl rfl | exact opd_pick_f rfl rfl rfl | exact opd_pickt rfl rfl (by assumption) rfl | exact opd_pickf rfl rfl (by assumption) rfl | exact opd_pick rfl rfl rfl))) rfl ?_
            refine dc_cons (DStep.q rfl (by exact opd_move rfl rfl)) rfl ?_
            refine dc_cons (q_on_f rfl rfl rfl (by first | rfl | assumption) (by exact (by first | exact opd_field_ref rfl fo30_3 rfl rfl rfl rfl | exact opd_field_pad rfl fo30_3 rfl rfl))) rfl ?_
            refine dc_cons (q_on_f rfl rfl rfl (by first | rfl | assumption) (by exact (by first | exact opd_load1_ref rfl Try.isAgg27 rfl rfl rfl rfl rfl | exact opd_load1_pad rfl Try.isAgg27 rfl (by first | omega | assumption) rfl))) rfl ?_
            refine dc_cons (q_on_f rfl rfl rfl (by first | rfl | assumption) (by exact (by first | exact opd_len_sl rfl Try.underlying27 rfl | exact opd_len_osl rfl Try.underlying27 rfl rfl rfl))) rfl ?_
            refine dc_cons (q_on_f rfl rfl rfl (by first | rfl | assumption) (by exact opd_gtr rfl rfl rfl)) rfl ?_
            refine dc_cons (DStep.q rfl (by exact (by first | exact opd_pick_t rfl rfl rfl | exact opd_pick_f rfl rfl rfl | exact opd_pickt rfl rfl (by assumption) rfl | exact opd_pickf rfl rfl (by assumption) rfl | exact opd_pick rfl rfl rfl))) rfl ?_
            refine dc_nil ⟨by kernel_rfl, ?_⟩
            exact ⟨rfl, ⟨_, rfl, by first | rfl | (simp only [gHeadN, *]; rfl) | (simp only [gHeadN, hg10, hg16, hg22, hg31]; rfl)⟩, rfl, rfl, rfl⟩
          · refine awp_drawc follows ?_
            refine dc_cons (DStep.q rfl (by exact (by first | exact opd_field_ref rfl fo30_1 rfl rfl rfl rfl | exact opd_field_pad rfl fo30_1 rfl rfl))) rfl ?_
            refine dc_cons (DStep.q rfl (by exact (by first | exact opd_load1_ref rfl Try.isAgg3 rfl rfl rfl rfl rfl | exact opd_load1_pad rfl Try.isAgg3 rfl (by first | omega | assumption) rfl))) rfl ?_
            refine dc_cons (DStep.q rfl (by exact opr_call rfl rfl Try.call79 rfl (word_c o.kind _))) rfl ?_
            refine dc_cons (DStep.q rfl (by exact opd_seql rfl rfl rfl)) rfl ?_
            refine dc_cons (DStep.q rfl (by exact opd_move rfl rfl)) rfl ?_
            refine dc_cons (q_on_f rfl rfl rfl (by first | rfl | assumption) (by exact (by first | exact opd_field_ref rfl fo30_0 rfl rfl rfl rfl | exact opd_field_pad rfl fo30_0 rfl rfl))) rfl ?_
            refine dc_cons (q_on_f rfl rfl rfl (by first | rfl | assumption) (by exact (by first | exact opd_load1_ref rfl Try.isAgg9 rfl rfl rfl rfl rfl | exact opd_load1_pad rfl Try.isAgg9 rfl (by first | omega | assumption) rfl))) rfl ?_
            refine dc_cons (q_on_f rfl rfl rfl (by first | rfl | assumption) (by exact opr_call rfl rfl Try.call15 rfl (name_c o.id _ h1))) rfl ?_
            refine dc_cons (q_on_f rfl rfl rfl (by first | rfl | assumption) (by exact opd_not rfl rfl)) rfl ?_
            refine dc_cons (DStep.q rfl (by exact (by first | exact opd_pick_t rfl rfl rfl | exact opd_pick_f rfl rfl rfl | exact opd_pickt rfl rfl (by assumption) rfl | exact opd_pickf rfl rfl (by assumption) rfl | exact opd_pick rfl rfl rfl))) rfl ?_
            refine dc_cons (DStep.q rfl (by exact opd_move rfl rfl)) rfl ?_
            refine dc_cons (q_on_f rfl rfl rfl (by first | rfl | assumption) (by exact (by first | exact opd_field_ref rfl fo30_4 rfl rfl rfl rfl | exact opd_field_pad rfl fo30_4 rfl rfl))) rfl ?_
            refine dc_cons (q_on_f rfl rfl rfl (by first | rfl | assumption) (by exact (by first | exact opd_load1_ref rfl Try.isAgg28 rfl rfl rfl rfl rfl | exact opd_load1_pad rfl Try.isAgg28 rfl (by first | omega | assumption) rfl))) rfl ?_
            refine dc_cons (q_on_f rfl rfl rfl (by first | rfl | assumption) (by exact opr_call rfl rfl Try.call32 rfl (tagValid_c o.tags _ h2))) rfl ?_
            refine dc_cons (q_on_f rfl rfl rfl (by first | rfl | assumption) (by exact opd_not rfl rfl)) rfl ?_
            refine dc_cons (DStep.q rfl (by exact (by first | exact opd_pick_t rfl rfl rfl | exact opd_pick_f rfl rfl rfl | exact opd_pickt rfl rfl (by assumption) rfl | exact opd_pickf rfl rfl (by assumption) rfl | exact opd_pick rfl rfl rfl))) rfl ?_
            refine dc_cons (DStep.q rfl (by exact opd_move rfl rfl)) rfl ?_
            refine dc_cons (q_on_f rfl rfl rfl (by first | rfl | assumption) (by exact (by first | exact opd_field_ref rfl fo30_3 rfl rfl rfl rfl | exact opd_field_pad rfl fo30_3 rfl rfl))) rfl ?_
            refine dc_cons (q_on_f rfl rfl rfl (by first | rfl | assumption) (by exact (by first | exact opd_load1_ref rfl Try.isAgg27 rfl rfl rfl rfl rfl | exact opd_load1_pad rfl Try.isAgg27 rfl (by first | omega | assumption) rfl))) rfl ?_
            refine dc_cons (q_on_f rfl rfl rfl (by first | rfl | assumption) (by exact (by first | exact opd_len_sl rfl Try.underlying27 rfl | exact opd_len_osl rfl Try.underlying27 rfl rfl rfl))) rfl ?_
            refine dc_cons (q_on_f rfl rfl rfl (by first | rfl | assumption) (by exact (by first | exact opd_field_ref rfl fo30_1 rfl rfl rfl rfl | exact opd_field_pad rfl fo30_1 rfl rfl))) rfl ?_
            refine dc_cons (q_on_f rfl rfl rfl (by first | rfl | assumption) (by exact (by first | exact opd_load1_ref rfl Try.isAgg3 rfl rfl rfl rfl rfl | exact opd_load1_pad rfl Try.isAgg3 rfl (by first | omega | assumption) rfl))) rfl ?_
            refine dc_cons (q_on_f rfl rfl rfl (by first | rfl | assumption) (by exact opr_call rfl rfl Try.call80 rfl (least_c o.kind _ (word_kind hg10).1 (word_kind hg10).2))) rfl ?_
            refine dc_cons (q_on_f rfl rfl rfl (by first | rfl | assumption) (by exact opd_lss rfl rfl rfl)) rfl ?_
            refine dc_cons (DStep.q rfl (by exact (by first | exact opd_pick_t rfl rfl rfl | exact opd_pick_f rfl rfl rfl | exact opd_pickt rfl rfl (by assumption) rfl | exact opd_pickf rfl rfl (by assumption) rfl | exact opd_pick rfl rfl rfl))) rfl ?_
            refine dc_cons (DStep.q rfl (by exact opd_move rfl rfl)) rfl ?_
            refine dc_cons (q_off_f rfl rfl rfl (by first | rfl | assumption)) rfl ?_
            refine dc_cons (q_off_f rfl rfl rfl (by first | rfl | assumption)) rfl ?_
            refine dc_cons (q_off_f rfl rfl rfl (by first | rfl | assumption)) rfl ?_
            refine dc_cons (q_off_f rfl rfl rfl (by first | rfl | assumption)) rfl ?_
            refine dc_cons (DStep.q rfl (by exact (by first | exact opd_pick_t rfl rfl rfl | exact opd_pick_f rfl rfl rfl | exact opd_pickt rfl rfl (by assumption) rfl | exact opd_pickf rfl rfl (by assumption) rfl | exact opd_pick rfl rfl rfl))) rfl ?_
            refine dc_nil ⟨by kernel_rfl, ?_⟩
            exact ⟨rfl, ⟨_, rfl, by first | rfl | (simp only [gHeadN, *]; rfl) | (simp only [gHeadN, hg10, hg16, hg22, hg31]; rfl)⟩, rfl, rfl, rfl⟩
        · refine awp_drawc follows ?_
          refine dc_cons (DStep.q rfl (by exact (by first | exact opd_field_ref rfl fo30_1 rfl rfl rfl rfl | exact opd_field_pad rfl fo30_1 rfl rfl))) rfl ?_
          refine dc_cons (DStep.q rfl (by exact (by first | exact opd_load1_ref rfl Try.isAgg3 rfl rfl rfl rfl rfl | exact opd_load1_pad rfl Try.isAgg3 rfl (by first | omega | assumption) rfl))) rfl ?_
          refine dc_cons (DStep.q rfl (by exact opr_call rfl rfl Try.call79 rfl (word_c o.kind _))) rfl ?_
          refine dc_cons (DStep.q rfl (by exact opd_seql rfl rfl rfl)) rfl ?_
          refine dc_cons (DStep.q rfl (by exact opd_move rfl rfl)) rfl ?_
          refine dc_cons (q_on_f rfl rfl rfl (by first | rfl | assumption) (by exact (by first | exact opd_field_ref rfl fo30_0 rfl rfl rfl rfl | exact opd_field_pad rfl fo30_0 rfl rfl))) rfl ?_
          refine dc_cons (q_on_f rfl rfl rfl (by first | rfl | assumption) (by exact (by first | exact opd_load1_ref rfl Try.isAgg9 rfl rfl rfl rfl rfl | exact opd_load1_pad rfl Try.isAgg9 rfl (by first | omega | assumption) rfl))) rfl ?_
          refine dc_cons (q_on_f rfl rfl rfl (by first | rfl | assumption) (by exact opr_call rfl rfl Try.call15 rfl (name_c o.id _ h1))) rfl ?_
          refine dc_cons (q_on_f rfl rfl rfl (by first | rfl | assumption) (by exact opd_not rfl rfl)) rfl ?_
          refine dc_cons (DStep.q rfl (by exact (by first | exact opd_pick_t rfl rfl rfl | exact opd_pick_f rfl rfl rfl | exact opd_pickt rfl rfl (by assumption) rfl | exact opd_pickf rfl rfl (by assumption) rfl | exact opd_pick rfl rfl rfl))) rfl ?_
          refine dc_cons (DStep.q rfl (by exact opd_move rfl rfl)) rfl ?_
          refine dc_cons (q_on_f rfl rfl rfl (by first | rfl | assumption) (by exact (by first | exact opd_field_ref rfl fo30_4 rfl rfl rfl rfl | exact opd_field_pad rfl fo30_4 rfl rfl))) rfl ?_
          refine dc_cons (q_on_f rfl rfl rfl (by first | rfl | assumption) (by exact (by first | exact opd_load1_ref rfl Try.isAgg28 rfl rfl rfl rfl rfl | exact opd_load1_pad rfl Try.isAgg28 rfl (by first | omega | assumption) rfl))) rfl ?_
          refine dc_cons (q_on_f rfl rfl rfl (by first | rfl | assumption) (by exact opr_call rfl rfl Try.call32 rfl (tagValid_c o.tags _ h2))) rfl ?_
          refine dc_cons (q_on_f rfl rfl rfl (by first | rfl | assumption) (by exact opd_not rfl rfl)) rfl ?_
          refine dc_cons (DStep.q rfl (by exact (by first | exact opd_pick_t rfl rfl rfl | exact opd_pick_f rfl rfl rfl | exact opd_pickt rfl rfl (by assumption) rfl | exact opd_pickf rfl rfl (by assumption) rfl | exact opd_pick rfl rfl rfl))) rfl ?_
          refine dc_cons (DStep.q rfl (by exact opd_move rfl rfl)) rfl ?_
          refine dc_cons (q_off_f rfl rfl rfl (by first | rfl | assumption)) rfl ?_
          refine dc_cons (q_off_f rfl rfl rfl (by first | rfl | assumption)) rfl ?_
          refine dc_cons (q_off_f rfl rfl rfl (by first | rfl | assumption)) rfl ?_
          refine dc_cons (q_off_f rfl rfl rfl (by first | rfl | assumption)) rfl ?_
          refine dc_cons (q_off_f rfl rfl rfl (by first | rfl | assumption)) rfl ?_
          refine dc_cons (q_off_f rfl rfl rfl (by first | rfl | assumption)) rfl ?_
          refine dc_cons (q_off_f rfl rfl rfl (by first | rfl | assumption)) rfl ?_
          refine dc_cons (DStep.q rfl (by exact (by first | exact opd_pick_t rfl rfl rfl | exact opd_pick_f rfl rfl rfl | exact opd_pickt rfl rfl (by assumption) rfl | exact opd_pickf rfl rfl (by assumption) rfl | exact opd_pick rfl rfl rfl))) rfl ?_
          refine dc_cons (DStep.q rfl (by exact opd_move rfl rfl)) rfl ?_
          refine dc_cons (q_off_f rfl rfl rfl (by first | rfl | assumption)) rfl ?_
          refine dc_cons (q_off_f rfl rfl rfl (by first | rfl | assumption)) rfl ?_
          refine dc_cons (q_off_f rfl rfl rfl (by first | rfl | assumption)) rfl ?_
          refine dc_cons (q_off_f rfl rfl rfl (by first | rfl | assumption)) rfl ?_
          refine dc_cons (DStep.q rfl (by exact (by first | exact opd_pick_t rfl rfl rfl | exact opd_pick_f rfl rfl rfl | exact opd_pickt rfl rfl (by assumption) rfl | exact opd_pickf rfl rfl (by assumption) rfl | exact opd_pick rfl rfl rfl))) rfl ?_
          refine dc_nil ⟨by kernel_rfl, ?_⟩
          exact ⟨rfl, ⟨_, rfl, by first | rfl | (simp only [gHeadN, *]; rfl) | (simp only [gHeadN, hg10, hg16, hg22, hg31]; rfl)⟩, rfl, rfl, rfl⟩
      · refine awp_drawc follows ?_
        refine dc_cons (DStep.q rfl (by exact (by first | exact opd_field_ref rfl fo30_1 rfl rfl rfl rfl | exact opd_field_pad rfl fo30_1 rfl rfl))) rfl ?_
        refine dc_cons (DStep.q rfl (by exact (by first | exact opd_load1_ref rfl Try.isAgg3 rfl rfl rfl rfl rfl | exact opd_load1_pad rfl Try.isAgg3 rfl (by first | omega | assumption) rfl))) rfl ?_
        refine dc_cons (DStep.q rfl (by exact opr_call rfl rfl Try.call79 rfl (word_c o.kind _))) rfl ?_
        refine dc_cons (DStep.q rfl (by exact opd_seql rfl rfl rfl)) rfl ?_
        refine dc_cons (DStep.q rfl (by exact opd_move rfl rfl)) rfl ?_
        refine dc_cons (q_on_f rfl rfl rfl (by first | rfl | assumption) (by exact (by first | exact opd_field_ref rfl fo30_0 rfl rfl rfl rfl | exact opd_field_pad rfl fo30_0 rfl rfl))) rfl ?_
        refine dc_cons (q_on_f rfl rfl rfl (by first | rfl | assumption) (by exact (by first | exact opd_load1_ref rfl Try.isAgg9 rfl rfl rfl rfl rfl | exact opd_load1_pad rfl Try.isAgg9 rfl (by first | omega | assumption) rfl))) rfl ?_
        refine dc_cons (q_on_f rfl rfl rfl (by first | rfl | assumption) (by exact opr_call rfl rfl Try.call15 rfl (name_c o.id _ h1))) rfl ?_
        refine dc_cons (q_on_f rfl rfl rfl (by first | rfl | assumption) (by exact opd_not rfl rfl)) rfl ?_
        refine dc_cons (DStep.q rfl (by exact (by first | exact opd_pick_t rfl rfl rfl | exact opd_pick_f rfl rfl rfl | exact opd_pickt rfl rfl (by assumption) rfl | exact opd_pickf rfl rfl (by assumption) rfl | exact opd_pick rfl rfl rfl))) rfl ?_
        refine dc_cons (DStep.q rfl (by exact opd_move rfl rfl)) rfl ?_
        refine dc_cons (q_off_f rfl rfl rfl (by first | rfl | assumption)) rfl ?_
        refine dc_cons (q_off_f rfl rfl rfl (by first | rfl | assumption)) rfl ?_
        refine dc_cons (q_off_f rfl rfl rfl (by first | rfl | assumption)) rfl ?_
        refine dc_cons (q_off_f rfl rfl rfl (by first | rfl | assumption)) rfl ?_
        refine dc_cons (DStep.q rfl (by exact (by first | exact opd_pick_t rfl rfl rfl | exact opd_pick_f rfl rfl rfl | exact opd_pickt rfl rfl (by assumption) rfl | exact opd_pickf rfl rfl (by assumption) rfl | exact opd_pick rfl rfl rfl))) rfl ?_
        refine dc_cons (DStep.q rfl (by exact opd_move rfl rfl)) rfl ?_
        refine dc_cons (q_off_f rfl rfl rfl (by first | rfl | assumption)) rfl ?_
        refine dc_cons (q_off_f rfl rfl rfl (by first | rfl | assumption)) rfl ?_
        refine dc_cons (q_off_f rfl rfl rfl (by first | rfl | assumption)) rfl ?_
        refine dc_cons (q_off_f rfl rfl rfl (by first | rfl | assumption)) rfl ?_
        refine dc_cons (q_off_f rfl rfl rfl (by first | rfl | assumption)) rfl ?_
        refine dc_cons (q_off_f rfl rfl rfl (by first | rfl | assumption)) rfl ?_
        refine dc_cons (q_off_f rfl rfl rfl (by first | rfl | assumption)) rfl ?_
        refine dc_cons (DStep.q rfl (by exact (by first | exact opd_pick_t rfl rfl rfl | exact opd_pick_f rfl rfl rfl | exact opd_pickt rfl rfl (by assumption) rfl | exact opd_pickf rfl rfl (by assumption) rfl | exact opd_pick rfl rfl rfl))) rfl ?_
        refine dc_cons (DStep.q rfl (by exact opd_move rfl rfl)) rfl ?_
        refine dc_cons (q_off_f rfl rfl rfl (by first | rfl | assumption)) rfl ?_
        refine dc_cons (q_off_f rfl rfl rfl (by first | rfl | assumption)) rfl ?_
        refine dc_cons (q_off_f rfl rfl rfl (by first | rfl | assumption)) rfl ?_
        refine dc_cons (q_off_f rfl rfl rfl (by first | rfl | assumption)) rfl ?_
        refine dc_cons (DStep.q rfl (by exact (by first | exact opd_pick_t rfl rfl rfl | exact opd_pick_f rfl rfl rfl | exact opd_pickt rfl rfl (by assumption) rfl | exact opd_pickf rfl rfl (by assumption) rfl | exact opd_pick rfl rfl rfl))) rfl ?_
        refine dc_nil ⟨by kernel_rfl, ?_⟩
        exact ⟨rfl, ⟨_, rfl, by first | rfl | (simp only [gHeadN, *]; rfl) | (simp only [gHeadN, hg10, hg16, hg22, hg31]; rfl)⟩, rfl, rfl, rfl⟩
    · refine awp_drawc follows ?_
      refine dc_cons (DStep.q rfl (by exact (by first | exact opd_field_ref rfl fo30_1 rfl rfl rfl rfl | exact opd_field_pad rfl fo30_1 rfl rfl))) rfl ?_
      refine dc_cons (DStep.q rfl (by exact (by first | exact opd_load1_ref rfl Try.isAgg3 rfl rfl rfl rfl rfl | exact opd_load1_pad rfl Try.isAgg3 rfl (by first | omega | assumption) rfl))) rfl ?_
      refine dc_cons (DStep.q rfl (by exact opr_call rfl rfl Try.call79 rfl (word_c o.kind _))) rfl ?_
      refine dc_cons (DStep.q rfl (by exact opd_seql rfl rfl rfl)) rfl ?_
      refine dc_cons (DStep.q rfl (by exact opd_move rfl rfl)) rfl ?_
      refine dc_cons (q_off_f rfl rfl rfl (by first | rfl | assumption)) rfl ?_
      refine dc_cons (q_off_f rfl rfl rfl (by first | rfl | assumption)) rfl ?_
      refine dc_cons (q_off_f rfl rfl rfl (by first | rfl | assumption)) rfl ?_
      refine dc_cons (q_off_f rfl rfl rfl (by first | rfl | assumption)) rfl ?_
      refine dc_cons (DStep.q rfl (by exact (by first | exact opd_pick_t rfl rfl rfl | exact opd_pick_f rfl rfl rfl | exact opd_pickt rfl rfl (by assumption) rfl | exact opd_pickf rfl rfl (by assumption) rfl | exact opd_pick rfl rfl rfl))) rfl ?_
      refine dc_cons (DStep.q rfl (by exact opd_move rfl rfl)) rfl ?_
      refine dc_cons (q_off_f rfl rfl rfl (by first | rfl | assumption)) rfl ?_
      refine dc_cons (q_off_f rfl rfl rfl (by first | rfl | assumption)) rfl ?_
      refine dc_cons (q_off_f rfl rfl rfl (by first | rfl | assumption)) rfl ?_
      refine dc_cons (q_off_f rfl rfl rfl (by first | rfl | assumption)) rfl ?_
      refine dc_cons (DStep.q rfl (by exact (by first | exact opd_pick_t rfl rfl rfl | exact opd_pick_f rfl rfl rfl | exact opd_pickt rfl rfl (by assumption) rfl | exact opd_pickf rfl rfl (by assumption) rfl | exact opd_pick rfl rfl rfl))) rfl ?_
      refine dc_cons (DStep.q rfl (by exact opd_move rfl rfl)) rfl ?_
      refine dc_cons (q_off_f rfl rfl rfl (by first | rfl | assumption)) rfl ?_
      refine dc_cons (q_off_f rfl rfl rfl (by first | rfl | assumption)) rfl ?_
      refine dc_cons (q_off_f rfl rfl rfl (by first | rfl | assumption)) rfl ?_
      refine dc_cons (q_off_f rfl rfl rfl (by first | rfl | assumption)) rfl ?_
      refine dc_cons (q_off_f rfl rfl rfl (by first | rfl | assumption)) rfl ?_
      refine dc_cons (q_off_f rfl rfl rfl (by first | rfl | assumption)) rfl ?_
      refine dc_cons (q_off_f rfl rfl rfl (by first | rfl | assumption)) rfl ?_
      refine dc_cons (DStep.q rfl (by exact (by first | exact opd_pick_t rfl rfl rfl | exact opd_pick_f rfl rfl rfl | exact opd_pickt rfl rfl (by assumption) rfl | exact opd_pickf rfl rfl (by assumption) rfl | exact opd_pick rfl rfl rfl))) rfl ?_
      refine dc_cons (DStep.q rfl (by exact opd_move rfl rfl)) rfl ?_
      refine dc_cons (q_off_f rfl rfl rfl (by first | rfl | assumption)) rfl ?_
      refine dc_cons (q_off_f rfl rfl rfl (by first | rfl | assumption)) rfl ?_
      refine dc_cons (q_off_f rfl rfl rfl (by first | rfl | assumption)) rfl ?_
      refine dc_cons (q_off_f rfl rfl rfl (by first | rfl | assumption)) rfl ?_
      refine dc_cons (DStep.q rfl (by exact (by first | exact opd_pick_t rfl rfl rfl | exact opd_pick_f rfl rfl rfl | exact opd_pickt rfl rfl (by assumption) rfl | exact opd_pickf rfl rfl (by assumption) rfl | exact opd_pick rfl rfl rfl))) rfl ?_
      refine dc_nil ⟨by kernel_rfl, ?_⟩
      exact ⟨rfl, ⟨_, rfl, by first | rfl | (simp only [gHeadN, *]; rfl) | (simp only [gHeadN, hg10, hg16, hg22, hg31]; rfl)⟩, rfl, rfl, rfl⟩
  refine awp_cond rfl (fun hc1 => ?_) (fun hc1 => ?_)
  -- cond 1
  · skip
    refine awp_seq ?_
    refine awp_region ?_
    refine al_d rfl rfl rfl (by exact opd_assign rfl rfl) ?_
    refine al_nil ?_
    refine awp_ret ?_
    -- return
    refine aret1 (H' := []) (by first | exact .inr rfl | exact .inl rfl) rfl (rval_tmp rfl) (Fin.wk (by simp) trivial trivial) ?_
    exact ⟨by rw [gObj, gHead, ← hml, hc1]; rfl, rfl⟩
  · skip
    refine awp_skip ?_
    refine awp_seq ?_
    refine awp_region ?_
    refine al_d rfl rfl rfl (by exact opd_makeMap (id := 37) strK rfl rfl) ?_
    refine al_d rfl rfl rfl (by exact x_alloc (id := 3) rfl zo108 rfl rfl) ?_
    refine al_n rfl rfl (by exact (by first | exact x_store_all rfl Try.sizeOf108 rfl rfl rfl rfl rfl rfl rfl rfl | exact x_store1 rfl Try.sizeOf108 rfl rfl rfl rfl rfl rfl (by simp only [List.length_cons, List.length_nil]; omega) (by simp only [List.drop_succ_cons, List.drop_zero, List.take_succ_cons, List.take_zero, List.take_nil, List.map_cons, List.map_nil, List.set_cons_zero, List.set_cons_succ, List.cons_append, List.nil_append, encTag, encObj]; rfl) (by simp only [List.drop_succ_cons, List.drop_zero, List.take_succ_cons, List.take_zero, List.take_nil, List.map_cons, List.map_nil, List.set_cons_zero, List.set_cons_succ, List.cons_append, List.nil_append, encTag, encObj]; rfl) | exact x_store1 rfl Try.sizeOf108 rfl rfl rfl rfl rfl rfl (Nat.le_of_ble_eq_true rfl) rfl rfl)) ?_
    refine al_nil ?_
    refine awp_seq ?_
    refine awp_region ?_
    refine al_d rfl rfl rfl (by exact x_alloc (id := 4) rfl zo9 rfl rfl) ?_
    refine al_n rfl rfl (by exact (by first | exact x_store_all rfl Try.sizeOf9 rfl rfl rfl rfl rfl rfl rfl rfl | exact x_store1 rfl Try.sizeOf9 rfl rfl rfl rfl rfl rfl (by simp only [List.length_cons, List.length_nil]; omega) (by simp only [List.drop_succ_cons, List.drop_zero, List.take_succ_cons, List.take_zero, List.take_nil, List.map_cons, List.map_nil, List.set_cons_zero, List.set_cons_succ, List.cons_append, List.nil_append, encTag, encObj]; rfl) (by simp only [List.drop_succ_cons, List.drop_zero, List.take_succ_cons, List.take_zero, List.take_nil, List.map_cons, List.map_nil, List.set_cons_zero, List.set_cons_succ, List.cons_append, List.nil_append, encTag, encObj]; rfl) | exact x_store1 rfl Try.sizeOf9 rfl rfl rfl rfl rfl rfl (Nat.le_of_ble_eq_true rfl) rfl rfl)) ?_
    refine al_nil ?_
    refine awp_seq_to ([(1, .ref 1 0 0 0), (5, .clo 81 [.ref 1 0 0 0, .ref 4 0 0 0, .ref 3 0 0 0])]) (vH o sNil []) ?_ ?_
    -- seqto
    · skip
      refine awp_region ?_
      refine al_d rfl rfl rfl (by exact opd_makeFunc rfl rfl) ?_
      refine al_d rfl rfl rfl (by exact opd_assign rfl rfl) ?_
      refine al_nil ?_
      -- end of the piece
      exact (Ent.wk ⟨⟨_, rfl, rfl⟩, (by first | (simp; done) | (simp; rfl) | exact clo_map _ _ _ | exact sob_clo _ _ | exact vH_clo _ _ _ _), ⟨_, rfl, rfl⟩, (by first | (simp; done) | (simp; rfl) | exact clo_map _ _ _ | exact sob_clo _ _ | exact vH_clo _ _ _ _), trivial⟩ ⟨⟨_, rfl, rfl⟩, (by first | (simp; done) | (simp; rfl) | exact clo_map _ _ _ | exact sob_clo _ _ | exact vH_clo _ _ _ _), ⟨_, rfl, rfl⟩, (by first | (simp; done) | (simp; rfl) | exact clo_map _ _ _ | exact sob_clo _ _ | exact vH_clo _ _ _ _), ⟨_, rfl, rfl⟩, (by first | (simp; done) | (simp; rfl) | exact clo_map _ _ _ | exact sob_clo _ _ | exact vH_clo _ _ _ _), ⟨_, rfl, rfl⟩, (by first | (simp; done) | (simp; rfl) | exact clo_map _ _ _ | exact sob_clo _ _ | exact vH_clo _ _ _ _), trivial⟩ trivial)
    · skip
      refine awp_seq ?_
      refine awp_seq ?_
      refine awp_region ?_
      refine al_d rfl rfl rfl (by exact (by first | exact opd_field_ref rfl fo30_3 rfl rfl rfl rfl | exact opd_field_pad rfl fo30_3 rfl rfl)) ?_
      refine al_d rfl rfl rfl (by exact (by first | exact opd_load1_ref rfl Try.isAgg27 rfl rfl rfl rfl rfl | exact opd_load1_pad rfl Try.isAgg27 rfl (by first | omega | assumption) rfl)) ?_
      refine al_d rfl rfl rfl (by exact opd_move rfl rfl) ?_
      refine al_d rfl rfl rfl (by exact opr_call rfl rfl Try.call82 rfl (containsFuncS _ o.refs (wrongAt o) (fun k => vH o (before id o.refs k) (seenL o.refs k)) h3 (fun k s hk => CallsV.clo Try.call81 (by rw [wrongAt, hk, before_succ hk]; simp only [seenL, hk]; exact valid1_c o _ s _ (h4 s (List.mem_of_getElem? hk)))))) ?_
      refine al_nil ?_
      refine awp_cond rfl (fun hc2 => ?_) (fun hc2 => ?_)
      -- cond 2
      · skip
        refine awp_seq ?_
        refine awp_region ?_
        refine al_d rfl rfl rfl (by exact opd_assign rfl rfl) ?_
        refine al_nil ?_
        refine awp_ret ?_
        -- return
        refine aret1 (H' := []) (by first | exact .inr rfl | exact .inl rfl) rfl (rval_tmp rfl) (Fin.wk (by simp) trivial trivial) ?_
        exact ⟨by rw [gObj, hc2]; simp, rfl⟩
      · have hfin : gObj o = gKind o := by have h := hc1; rw [hml] at h; rw [gObj, gHead, h, hc2]; rfl
        rw [hfin]
        clear hfin
        generalize before id o.refs (stopN (wrongAt o) o.refs.length) = la
        generalize seenL o.refs (stopN (wrongAt o) o.refs.length) = LL
        unfold vH
        refine awp_skip ?_
        refine awp_seq ?_
        refine awp_seq ?_
        refine awp_region ?_
        refine al_d rfl rfl rfl (by exact (by first | exact opd_field_ref rfl fo30_1 rfl rfl rfl rfl | exact opd_field_pad rfl fo30_1 rfl rfl)) ?_
        refine al_d rfl rfl rfl (by exact (by first | exact opd_load1_ref rfl Try.isAgg3 rfl rfl rfl rfl rfl | exact opd_load1_pad rfl Try.isAgg3 rfl (by first | omega | assumption) rfl)) ?_
        refine al_nil ?_
        refine awp_block ?_
        refine awp_seq ?_
        refine awp_region ?_
        refine al_d rfl rfl rfl (by exact opd_eql rfl rfl rfl) ?_
        refine al_d rfl rfl rfl (by exact opd_assign rfl rfl) ?_
        refine al_nil ?_
        refine awp_cond rfl (fun hc3 => ?_) (fun hc3 => ?_)
        -- cond 3
        · skip
          refine awp_seq ?_
          refine awp_bool (t := 2) (n := 11) (X := decide (((o.refs.map encStr).length : Int) = 0) && gOn o.x o.y) ?_ ?_
          · all_goals (refine al_d rfl rfl rfl (by exact (by first | exact opd_field_ref rfl fo30_3 rfl rfl rfl rfl | exact opd_field_pad rfl fo30_3 rfl rfl)) ?_)
            all_goals (refine al_d rfl rfl rfl (by exact (by first | exact opd_load1_ref rfl Try.isAgg27 rfl rfl rfl rfl rfl | exact opd_load1_pad rfl Try.isAgg27 rfl (by first | omega | assumption) rfl)) ?_)
            all_goals (refine al_d rfl rfl rfl (by exact (by first | exact opd_len_sl rfl Try.underlying27 rfl | exact opd_len_osl rfl Try.underlying27 rfl rfl rfl)) ?_)
            all_goals (refine al_d rfl rfl rfl (by exact opd_eql rfl rfl rfl) ?_)
            all_goals (refine al_d rfl rfl rfl (by exact opd_move rfl rfl) ?_)
            all_goals (first | refine al_split (t := 51) rfl (fun h51 => ?_) (fun h51 => ?_) | refine al_dup (t := 51) rfl ?_ | skip)
            all_goals (try contradiction)
            all_goals (first | refine al_off rfl rfl rfl rfl rfl ?_ | refine al_offu rfl rfl rfl rfl ?_ | refine al_ond rfl rfl rfl rfl rfl rfl (by exact (by first | exact opd_field_ref rfl fo30_2 rfl rfl rfl rfl | exact opd_field_pad rfl fo30_2 rfl rfl)) ?_)
            all_goals (first | refine al_off rfl rfl rfl rfl rfl ?_ | refine al_offu rfl rfl rfl rfl ?_ | refine al_ond rfl rfl rfl rfl rfl rfl (by exact (by first | exact opd_loadn_ref rfl Try.isAgg26 Try.sizeOf26 rfl rfl rfl rfl (by simp only [List.drop_succ_cons, List.drop_zero, List.take_succ_cons, List.take_zero, List.take_nil, List.map_cons, List.map_nil, List.set_cons_zero, List.set_cons_succ, List.cons_append, List.nil_append, encTag, encObj]; rfl) rfl | exact opd_loadn_pad rfl Try.isAgg26 Try.sizeOf26 rfl (by first | omega | assumption) (by simp only [List.drop_succ_cons, List.drop_zero, List.take_succ_cons, List.take_zero, List.take_nil, List.map_cons, List.map_nil, List.set_cons_zero, List.set_cons_succ, List.cons_append, List.nil_append, encTag, encObj]; rfl) rfl)) ?_)
            all_goals (first | refine al_off rfl rfl rfl rfl rfl ?_ | refine al_offu rfl rfl rfl rfl ?_ | refine al_ond rfl rfl rfl rfl rfl rfl (by exact opr_call rfl rfl Try.call83 rfl (on_c o.x o.y _)) ?_)
            all_goals (refine al_d rfl rfl rfl (by exact (by first | exact opd_pick_t rfl rfl rfl | exact opd_pick_f rfl rfl rfl | exact opd_pickt rfl rfl (by assumption) rfl | exact opd_pickf rfl rfl (by assumption) rfl | exact opd_pick rfl rfl rfl)) ?_)
            all_goals (refine al_d rfl rfl rfl (by exact opd_assign rfl rfl) ?_)
            all_goals (refine al_nil ?_)
            all_goals (exact ⟨⟨_, rfl, by first | rfl | (simp only [*, Bool.false_and, Bool.true_and, Bool.and_false, Bool.and_true]; done) | (simp_all; done)⟩, rfl, rfl, rfl⟩)
          refine awp_ret ?_
          -- return
          refine aret1 (H' := []) (by first | exact .inr rfl | exact .inl rfl) rfl (rval_tmp rfl) (Fin.wk (by simp) trivial trivial) ?_
          exact ⟨by rw [gKind, if_pos (of_decide_eq_true hc3), ← hml], rfl⟩
        · skip
          refine awp_seq ?_
          refine awp_region ?_
          refine al_d rfl rfl rfl (by exact opd_eql rfl rfl rfl) ?_
          refine al_d rfl rfl rfl (by exact opd_assign rfl rfl) ?_
          refine al_nil ?_
          refine awp_cond rfl (fun hc4 => ?_) (fun hc4 => ?_)
          -- cond 4
          · skip
            refine awp_seq ?_
            refine awp_bool (t := 2) (n := 12) (X := decide (((o.refs.map encStr).length : Int) = 3) && (decide (o.x = 0) && decide (o.y = 0))) ?_ ?_
            · all_goals (refine al_d rfl rfl rfl (by exact (by first | exact opd_field_ref rfl fo30_3 rfl rfl rfl rfl | exact opd_field_pad rfl fo30_3 rfl rfl)) ?_)
              all_goals (refine al_d rfl rfl rfl (by exact (by first | exact opd_load1_ref rfl Try.isAgg27 rfl rfl rfl rfl rfl | exact opd_load1_pad rfl Try.isAgg27 rfl (by first | omega | assumption) rfl)) ?_)
              all_goals (refine al_d rfl rfl rfl (by exact (by first | exact opd_len_sl rfl Try.underlying27 rfl | exact opd_len_osl rfl Try.underlying27 rfl rfl rfl)) ?_)
              all_goals (refine al_d rfl rfl rfl (by exact opd_eql rfl rfl rfl) ?_)
              all_goals (refine al_d rfl rfl rfl (by exact opd_move rfl rfl) ?_)
              all_goals (first | refine al_split (t := 62) rfl (fun h62 => ?_) (fun h62 => ?_) | refine al_dup (t := 62) rfl ?_ | skip)
              all_goals (try contradiction)
              all_goals (first | refine al_off rfl rfl rfl rfl rfl ?_ | refine al_offu rfl rfl rfl rfl ?_ | refine al_ond rfl rfl rfl rfl rfl rfl (by exact (by first | exact opd_field_ref rfl fo30_2 rfl rfl rfl rfl | exact opd_field_pad rfl fo30_2 rfl rfl)) ?_)
              all_goals (first | refine al_off rfl rfl rfl rfl rfl ?_ | refine al_offu rfl rfl rfl rfl ?_ | refine al_ond rfl rfl rfl rfl rfl rfl (by exact (by first | exact opd_loadn_ref rfl Try.isAgg26 Try.sizeOf26 rfl rfl rfl rfl (by simp only [List.drop_succ_cons, List.drop_zero, List.take_succ_cons, List.take_zero, List.take_nil, List.map_cons, List.map_nil, List.set_cons_zero, List.set_cons_succ, List.cons_append, List.nil_append, encTag, encObj]; rfl) rfl | exact opd_loadn_pad rfl Try.isAgg26 Try.sizeOf26 rfl (by first | omega | assumption) (by simp only [List.drop_succ_cons, List.drop_zero, List.take_succ_cons, List.take_zero, List.take_nil, List.map_cons, List.map_nil, List.set_cons_zero, List.set_cons_succ, List.cons_append, List.nil_append, encTag, encObj]; rfl) rfl)) ?_)
              all_goals (first | refine al_off rfl rfl rfl rfl rfl ?_ | refine al_offu rfl rfl rfl rfl ?_ | refine al_ond rfl rfl rfl rfl rfl rfl (by exact x_build rfl bo26 rfl rfl) ?_)
              all_goals (first | refine al_off rfl rfl rfl rfl rfl ?_ | refine al_offu rfl rfl rfl rfl ?_ | refine al_ond rfl rfl rfl rfl rfl rfl (by exact opd_aeql rfl rfl rfl rfl rfl Try.eqGuardType26 (se26 _ _ _ _)) ?_)
              all_goals (refine al_d rfl rfl rfl (by exact (by first | exact opd_pick_t rfl rfl rfl | exact opd_pick_f rfl rfl rfl | exact opd_pickt rfl rfl (by assumption) rfl | exact opd_pickf rfl rfl (by assumption) rfl | exact opd_pick rfl rfl rfl)) ?_)
              all_goals (refine al_d rfl rfl rfl (by exact opd_assign rfl rfl) ?_)
              all_goals (refine al_nil ?_)
              all_goals (exact ⟨⟨_, rfl, by first | rfl | (simp only [*, Bool.false_and, Bool.true_and, Bool.and_false, Bool.and_true]; done) | (simp_all; done)⟩, rfl, rfl, rfl⟩)
            refine awp_ret ?_
            -- return
            refine aret1 (H' := []) (by first | exact .inr rfl | exact .inl rfl) rfl (rval_tmp rfl) (Fin.wk (by simp) trivial trivial) ?_
            exact ⟨by rw [gKind, if_neg (of_decide_eq_false hc3), if_pos (of_decide_eq_true hc4), ← hml], rfl⟩
          · skip
            refine awp_skip ?_
            refine awp_seq ?_
            refine awp_region ?_
            refine al_d rfl rfl rfl (by exact (by first | exact opd_field_ref rfl fo30_2 rfl rfl rfl rfl | exact opd_field_pad rfl fo30_2 rfl rfl)) ?_
            refine al_d rfl rfl rfl (by exact (by first | exact opd_loadn_ref rfl Try.isAgg26 Try.sizeOf26 rfl rfl rfl rfl (by simp only [List.drop_succ_cons, List.drop_zero, List.take_succ_cons, List.take_zero, List.take_nil, List.map_cons, List.map_nil, List.set_cons_zero, List.set_cons_succ, List.cons_append, List.nil_append, encTag, encObj]; rfl) rfl | exact opd_loadn_pad rfl Try.isAgg26 Try.sizeOf26 rfl (by first | omega | assumption) (by simp only [List.drop_succ_cons, List.drop_zero, List.take_succ_cons, List.take_zero, List.take_nil, List.map_cons, List.map_nil, List.set_cons_zero, List.set_cons_succ, List.cons_append, List.nil_append, encTag, encObj]; rfl) rfl)) ?_
            refine al_d rfl rfl rfl (by exact x_build rfl bo26 rfl rfl) ?_
            refine al_d rfl rfl rfl (by exact opd_aeql rfl rfl rfl rfl rfl Try.eqGuardType26 (se26 _ _ _ _)) ?_
            refine al_d rfl rfl rfl (by exact opd_assign rfl rfl) ?_
            refine al_nil ?_
            refine awp_ret ?_
            -- return
            refine aret1 (H' := []) (by first | exact .inr rfl | exact .inl rfl) rfl (rval_tmp rfl) (Fin.wk (by simp) trivial trivial) ?_
            exact ⟨by rw [gKind, if_neg (of_decide_eq_false hc3), if_neg (of_decide_eq_false hc4)], rfl⟩
end Go.Proofs.Ytdcifaldfmpapaa
end
section
set_option linter.unusedVariables false
set_option linter.unusedSimpArgs false
set_option maxRecDepth 100000
namespace Go.Proofs.Ytdcifaldfmpapaa
open Go.Abs
def badObj (last : ByteArray) (o : GObj) : Bool := !gObj o || sle o.id last
def gMap (m : List GObj) : Bool := !((List.range m.length).any (badAt badObj GObj.id m)) && decide ((m.length : Int) ≤ 1000000)
def okM (m : List GObj) : Prop := m.length < 4611686018427387904 ∧ ∀ o ∈ m, okO o
theorem atlasValid_c (m : List GObj) (H : Heap) (hm : okM m) : ACalls Try.prog 78 [.agg [.pv (slObjs m)]] H (fun r H' => r = bv (gMap m) ∧ H' = H) := by
  refine ACalls.pure ?_ (by simp) H
  obtain ⟨hl, hos⟩ := hm
  have hml : (m.map encObj).length = m.length := List.length_map _
  refine ACalls.body Try.func78 rfl Try.ntmps78 (Nat.le_of_ble_eq_true rfl) ?_
  refine awp_seq ?_
  refine awp_region ?_
  refine al_d rfl rfl rfl (by exact opd_box (id := 1) rfl rfl rfl rfl rfl) ?_
  refine al_d rfl rfl rfl (by exact opd_assign rfl rfl) ?_
  refine al_nil ?_
  refine awp_seq ?_
  refine awp_region ?_
  refine al_d rfl rfl rfl (by exact opd_assign rfl rfl) ?_
  refine al_nil ?_
  refine awp_seq ?_
  refine awp_seq ?_
  refine awp_region ?_
  refine al_d rfl rfl rfl (by exact (by first | exact opd_field_ref rfl fo24_0 rfl rfl rfl rfl | exact opd_field_pad rfl fo24_0 rfl rfl)) ?_
  refine al_d rfl rfl rfl (by exact (by first | exact opd_load1_ref rfl Try.isAgg22 rfl rfl rfl rfl rfl | exact opd_load1_pad rfl Try.isAgg22 rfl (by first | omega | assumption) rfl)) ?_
  refine al_d rfl rfl rfl (by exact (by first | exact opd_len_sl rfl Try.underlying22 rfl | exact opd_len_osl rfl Try.underlying22 rfl rfl rfl)) ?_
  refine al_d rfl rfl rfl (by exact opd_move rfl rfl) ?_
  refine al_nil ?_
  refine awp_block ?_
  -- loop
  refine awp_loop (σ := Nat) (fun k => ([(1, .ref 1 0 0 0), (3, sv (before GObj.id m k)), (7, .pv (slObjs m)), (8, iv ((m.map encObj).length : Int)), (9, iv (k : Int))], [(1, bx 1 24 [.pv (slObjs m)])])) (fun k => k ≤ m.length ∧ ∀ j, j < k → badAt badObj GObj.id m j = false) (fun k => m.length - k) 0 ⟨by omega, by omega⟩ ?_ ?_
  · exact (Ent.wk ⟨⟨_, rfl, rfl⟩, (by first | (simp; done) | (simp; rfl) | exact clo_map _ _ _), ⟨_, rfl, rfl⟩, (by first | (simp; done) | (simp; rfl) | exact clo_map _ _ _), ⟨_, rfl, rfl⟩, (by first | (simp; done) | (simp; rfl) | exact clo_map _ _ _), ⟨_, rfl, rfl⟩, (by first | (simp; done) | (simp; rfl) | exact clo_map _ _ _), ⟨_, rfl, rfl⟩, (by first | (simp; done) | (simp; rfl) | exact clo_map _ _ _), trivial⟩ ⟨⟨_, rfl, rfl⟩, (by first | (simp; done) | (simp; rfl) | exact clo_map _ _ _), trivial⟩ trivial)
  · rintro k ⟨hk, hno⟩
    refine awp_seq ?_
    refine awp_region ?_
    refine al_d rfl rfl rfl (by exact opd_lss rfl rfl rfl) ?_
    refine al_nil ?_
    refine awp_seq ?_
    refine awp_cond rfl (fun hc1 => ?_) (fun hc1 => ?_)
    -- cond 1
    · have hlt : k < m.length := by have := of_decide_eq_true hc1; omega
      obtain ⟨o, ho⟩ := get_of_lt hlt
      have hi := map_get (f := encObj) ho
      have hoo := hos o (List.mem_of_getElem? ho)
      refine awp_skip ?_
      refine awp_seq ?_
      refine awp_block ?_
      refine awp_seq ?_
      refine awp_region ?_
      refine al_d rfl rfl rfl (by exact (by first | exact x_index_pad rfl so22 rfl rfl (by omega) (by first | exact Int.toNat_natCast _ | rfl) (by assumption) rfl | exact x_index_osl rfl so22 rfl rfl rfl rfl rfl (by omega) (by first | exact Int.toNat_natCast _ | rfl) (by first | omega | assumption) rfl)) ?_
      refine al_d rfl rfl rfl (by exact (by first | exact opd_loadn_ref rfl Try.isAgg30 Try.sizeOf30 rfl rfl rfl rfl (by simp only [List.drop_succ_cons, List.drop_zero, List.take_succ_cons, List.take_zero, List.take_nil, List.map_cons, List.map_nil, List.set_cons_zero, List.set_cons_succ, List.cons_append, List.nil_append, encTag, encObj]; rfl) rfl | exact opd_loadn_pad rfl Try.isAgg30 Try.sizeOf30 rfl (by first | omega | assumption) (by simp only [List.drop_succ_cons, List.drop_zero, List.take_succ_cons, List.take_zero, List.take_nil, List.map_cons, List.map_nil, List.set_cons_zero, List.set_cons_succ, List.cons_append, List.nil_append, encTag, encObj]; rfl) rfl)) ?_
      refine al_d rfl rfl rfl (by exact x_alloc (id := 5) rfl zo30 rfl rfl) ?_
      refine al_n rfl rfl (by exact (by first | exact x_store_all rfl Try.sizeOf30 rfl rfl rfl rfl rfl rfl rfl rfl | exact x_store rfl Try.sizeOf30 rfl rfl rfl rfl rfl rfl rfl (by simp only [List.length_cons, List.length_nil]; omega) (by simp only [List.drop_succ_cons, List.drop_zero, List.take_succ_cons, List.take_zero, List.take_nil, List.map_cons, List.map_nil, List.set_cons_zero, List.set_cons_succ, List.cons_append, List.nil_append, encTag, encObj]; rfl) (by simp only [List.drop_succ_cons, List.drop_zero, List.take_succ_cons, List.take_zero, List.take_nil, List.map_cons, List.map_nil, List.set_cons_zero, List.set_cons_succ, List.cons_append, List.nil_append, encTag, encObj]; rfl) | exact x_store rfl Try.sizeOf30 rfl rfl rfl rfl rfl rfl rfl (Nat.le_of_ble_eq_true rfl) rfl rfl)) ?_
      refine al_nil ?_
      refine awp_seq ?_
      refine awp_seq ?_
      refine awp_bool (t := 21) (n := 10) (X := badObj (before GObj.id m k) o) ?_ ?_
      · all_goals (refine al_d rfl rfl rfl (by exact (by first | exact opd_loadn_ref rfl Try.isAgg30 Try.sizeOf30 rfl rfl rfl rfl (by simp only [List.drop_succ_cons, List.drop_zero, List.take_succ_cons, List.take_zero, List.take_nil, List.map_cons, List.map_nil, List.set_cons_zero, List.set_cons_succ, List.cons_append, List.nil_append, encTag, encObj]; rfl) rfl | exact opd_loadn_pad rfl Try.isAgg30 Try.sizeOf30 rfl (by first | omega | assumption) (by simp only [List.drop_succ_cons, List.drop_zero, List.take_succ_cons, List.take_zero, List.take_nil, List.map_cons, List.map_nil, List.set_cons_zero, List.set_cons_succ, List.cons_append, List.nil_append, encTag, encObj]; rfl) rfl)) ?_)
        all_goals (refine al_d rfl rfl rfl (by exact opr_call rfl rfl Try.call41 rfl (objValid_c o _ hoo)) ?_)
        all_goals (refine al_d rfl rfl rfl (by exact opd_not rfl rfl) ?_)
        all_goals (refine al_d rfl rfl rfl (by exact opd_move rfl rfl) ?_)
        all_goals (first | refine al_split (t := 16) rfl (fun h16 => ?_) (fun h16 => ?_) | refine al_dup (t := 16) rfl ?_ | skip)
        all_goals (try contradiction)
        all_goals (first | refine al_off rfl rfl rfl rfl rfl ?_ | refine al_offu rfl rfl rfl rfl ?_ | refine al_ond rfl rfl rfl rfl rfl rfl (by exact (by first | exact opd_field_ref rfl fo30_0 rfl rfl rfl rfl | exact opd_field_pad rfl fo30_0 rfl rfl)) ?_)
        all_goals (first | refine al_off rfl rfl rfl rfl rfl ?_ | refine al_offu rfl rfl rfl rfl ?_ | refine al_ond rfl rfl rfl rfl rfl rfl (by exact (by first | exact opd_load1_ref rfl Try.isAgg9 rfl rfl rfl rfl rfl | exact opd_load1_pad rfl Try.isAgg9 rfl (by first | omega | assumption) rfl)) ?_)
        all_goals (first | refine al_off rfl rfl rfl rfl rfl ?_ | refine al_offu rfl rfl rfl rfl ?_ | refine al_ond rfl rfl rfl rfl rfl rfl (by exact opd_move rfl rfl) ?_)
        all_goals (first | refine al_off rfl rfl rfl rfl rfl ?_ | refine al_offu rfl rfl rfl rfl ?_ | refine al_ond rfl rfl rfl rfl rfl rfl (by exact opd_sleq rfl rfl rfl) ?_)
        all_goals (refine al_d rfl rfl rfl (by exact (by first | exact opd_pick_t rfl rfl rfl | exact opd_pick_f rfl rfl rfl | exact opd_pickt rfl rfl (by assumption) rfl | exact opd_pickf rfl rfl (by assumption) rfl | exact opd_pick rfl rfl rfl)) ?_)
        all_goals (refine al_nil ?_)
        all_goals (exact ⟨⟨_, rfl, by first | rfl | (simp only [badObj, sle, *]; rfl) | (simp_all [badObj, sle]; done)⟩, rfl, rfl, rfl⟩)
      refine awp_cond rfl (fun hc2 => ?_) (fun hc2 => ?_)
      -- cond 2
      · skip
        refine awp_seq ?_
        refine awp_region ?_
        refine al_d rfl rfl rfl (by exact opd_assign rfl rfl) ?_
        refine al_nil ?_
        refine awp_ret ?_
        -- return
        refine aret1 (H' := []) (by first | exact .inr rfl | exact .inl rfl) rfl (rval_tmp rfl) (Fin.wk (by simp) trivial trivial) ?_
        exact ⟨by rw [gMap, range_some hlt ((badAt_some ho).trans hc2)]; rfl, rfl⟩
      · skip
        refine awp_skip ?_
        refine awp_region ?_
        refine al_d rfl rfl rfl (by exact (by first | exact opd_field_ref rfl fo30_0 rfl rfl rfl rfl | exact opd_field_pad rfl fo30_0 rfl rfl)) ?_
        refine al_d rfl rfl rfl (by exact (by first | exact opd_load1_ref rfl Try.isAgg9 rfl rfl rfl rfl rfl | exact opd_load1_pad rfl Try.isAgg9 rfl (by first | omega | assumption) rfl)) ?_
        refine al_d rfl rfl rfl (by exact opd_assign rfl rfl) ?_
        refine al_nil ?_
        refine awp_region ?_
        refine al_d rfl rfl rfl (by exact opd_add rfl rfl rfl (by first | exact w64 (by omega) (by omega) | exact wu8 (by omega) (by omega) | rfl)) ?_
        refine al_d rfl rfl rfl (by exact opd_move rfl rfl) ?_
        refine al_nil ?_
        -- end of a round
        refine ⟨k + 1, ⟨by omega, fun j hj => ?_⟩, by omega, ?_⟩
        · by_cases e : j = k
          · subst e; exact (badAt_some ho).trans hc2
          · exact hno j (by omega)
        · rw [before_succ ho]
          exact (Ent.wk ⟨⟨_, rfl, rfl⟩, (by first | (simp; done) | (simp; rfl) | exact clo_map _ _ _), ⟨_, rfl, rfl⟩, (by first | (simp; done) | (simp; rfl) | exact clo_map _ _ _), ⟨_, rfl, rfl⟩, (by first | (simp; done) | (simp; rfl) | exact clo_map _ _ _), ⟨_, rfl, rfl⟩, (by first | (simp; done) | (simp; rfl) | exact clo_map _ _ _), ⟨_, rfl, rfl⟩, (by first | (simp; done) | (simp; rfl) | exact clo_map _ _ _), trivial⟩ ⟨⟨_, rfl, rfl⟩, (by first | (simp; done) | (simp; rfl) | exact clo_map _ _ _), trivial⟩ trivial)
    · have hge : k = m.length := by have := of_decide_eq_false hc1; omega
      subst hge
      refine awp_exit ?_
      refine awp_seq ?_
      refine awp_region ?_
      refine al_d rfl rfl rfl (by exact (by first | exact opd_field_ref rfl fo24_0 rfl rfl rfl rfl | exact opd_field_pad rfl fo24_0 rfl rfl)) ?_
      refine al_d rfl rfl rfl (by exact (by first | exact opd_load1_ref rfl Try.isAgg22 rfl rfl rfl rfl rfl | exact opd_load1_pad rfl Try.isAgg22 rfl (by first | omega | assumption) rfl)) ?_
      refine al_d rfl rfl rfl (by exact (by first | exact opd_len_sl rfl Try.underlying22 rfl | exact opd_len_osl rfl Try.underlying22 rfl rfl rfl)) ?_
      refine al_d rfl rfl rfl (by exact opd_leq rfl rfl rfl) ?_
      refine al_d rfl rfl rfl (by exact opd_assign rfl rfl) ?_
      refine al_nil ?_
      refine awp_ret ?_
      -- return
      refine aret1 (H' := []) (by first | exact .inr rfl | exact .inl rfl) rfl (rval_tmp rfl) (Fin.wk (by simp) trivial trivial) ?_
      exact ⟨by rw [gMap, range_any hno, ← hml]; rfl, rfl⟩
end Go.Proofs.Ytdcifaldfmpapaa
end
section
set_option linter.unusedVariables false
set_option linter.unusedSimpArgs false
set_option maxRecDepth 100000
namespace Go.Proofs.Ytdcifaldfmpapaa
open Go.Abs
def wfI (n : Int) : Prop := (Lit.int .i64 n).wf = true
def szTag (B : Nat) (t : GTag) : Prop := t.key.size ≤ B ∧ t.val.size ≤ B
def szStrs (B : Nat) (l : List ByteArray) : Prop := l.length ≤ B ∧ ∀ s, s ∈ l → s.size ≤ B
def szTags (B : Nat) (l : List GTag) : Prop := l.length ≤ B ∧ ∀ s, s ∈ l → szTag B s
def szObj (B : Nat) (o : GObj) : Prop := o.id.size ≤ B ∧ wfI o.kind ∧ wfI o.x ∧ wfI o.y ∧ szStrs B o.refs ∧ szTags B o.tags
def szMap (B : Nat) (m : List GObj) : Prop := m.length ≤ B ∧ ∀ o, o ∈ m → szObj B o
def szEdit (B : Nat) (e : GEdit) : Prop := wfI e.op ∧ e.id.size ≤ B ∧ e.other.size ≤ B ∧ e.node.size ≤ B ∧ wfI e.x ∧ wfI e.y ∧ e.key.size ≤ B ∧ e.val.size ≤ B ∧ szStrs B e.refs ∧ szObj B e.obj
def szEdits (B : Nat) (l : List GEdit) : Prop := l.length ≤ B ∧ ∀ e, e ∈ l → szEdit B e
section
variable {B n : Nat} {ps : List PV}
theorem d_strs (h : Sh Try.prog B (n + 2) 27 ps) : ∃ l, ps = [slStrs l] ∧ szStrs B l := by
  obtain ⟨l, rfl, h1, h2⟩ := sh_rows (f := encStr) (good := fun s => s.size ≤ B) Try.underlying27 h (fun r hr => by
    obtain ⟨s, rfl, hs⟩ := sh_str Try.underlying9 hr
    exact ⟨s, rfl, hs⟩)
  exact ⟨l, rfl, h1, h2⟩
theorem d_tag (h : Sh Try.prog B (n + 2) 65 ps) : ∃ t, ps = encTag t ∧ szTag B t := by
  obtain ⟨a, b, rfl, _, h1, a2, b2, rfl, _, h2, rfl⟩ := sh_struct Try.underlying65 h
  obtain ⟨k, rfl, hk⟩ := sh_str Try.underlying9 h1
  obtain ⟨v, rfl, hv⟩ := sh_str Try.underlying9 h2
  exact ⟨⟨k, v⟩, rfl, hk, hv⟩
theorem d_tags (h : Sh Try.prog B (n + 3) 28 ps) : ∃ l, ps = [slTags l] ∧ szTags B l := by
  obtain ⟨l, rfl, h1, h2⟩ := sh_rows (f := encTag) (good := szTag B) Try.underlying28 h (fun r hr => d_tag hr)
  exact ⟨l, rfl, h1, h2⟩
theorem d_point (h : Sh Try.prog B (n + 2) 26 ps) : ∃ x y, ps = [.int .i64 x, .int .i64 y] ∧ wfI x ∧ wfI y := by
  obtain ⟨a, b, rfl, _, h1, a2, b2, rfl, _, h2, rfl⟩ := sh_struct Try.underlying26 h
  obtain ⟨x, rfl, hx⟩ := sh_int Try.underlying3 h1
  obtain ⟨y, rfl, hy⟩ := sh_int Try.underlying3 h2
  exact ⟨x, y, rfl, hx, hy⟩
theorem d_obj (h : Sh Try.prog B (n + 4) 30 ps) : ∃ o, ps = encObj o ∧ szObj B o := by
  obtain ⟨_, _, rfl, _, h1, _, _, rfl, _, h2, _, _, rfl, _, h3, _, _, rfl, _, h4, _, _, rfl, _, h5, rfl⟩ := sh_struct Try.underlying30 h
  obtain ⟨id, rfl, q1⟩ := sh_str Try.underlying9 h1
  obtain ⟨k, rfl, q2⟩ := sh_int Try.underlying3 h2
  obtain ⟨x, y, rfl, q3, q4⟩ := d_point h3
  obtain ⟨rs, rfl, q5⟩ := d_strs h4
  obtain ⟨ts, rfl, q6⟩ := d_tags h5
  exact ⟨⟨id, k, x, y, rs, ts⟩, rfl, q1, q2, q3, q4, q5, q6⟩
theorem d_objs (h : Sh Try.prog B (n + 5) 22 ps) : ∃ l, ps = [slObjs l] ∧ szMap B l := by
  obtain ⟨l, rfl, h1, h2⟩ := sh_rows (f := encObj) (good := szObj B) Try.underlying22 h (fun r hr => d_obj hr)
  exact ⟨l, rfl, h1, h2⟩
theorem d_map (h : Sh Try.prog B (n + 6) 24 ps) : ∃ l, ps = [slObjs l] ∧ szMap B l := by
  obtain ⟨_, _, rfl, _, h1, rfl⟩ := sh_struct Try.underlying24 h
  obtain ⟨l, rfl, q⟩ := d_objs h1
  exact ⟨l, rfl, q⟩
end
theorem okTags_of {B : Nat} {l : List GTag} (hB : B < 4611686018427387904) (h : szTags B l) : okTags l := ⟨by have := h.1; omega, fun t ht => ⟨by have := (h.2 t ht).1; omega, by have := (h.2 t ht).2; omega⟩⟩
theorem okO_of {B : Nat} {o : GObj} (hB : B < 4611686018427387904) (h : szObj B o) : okO o :=
  ⟨by have := h.1; omega, okTags_of hB h.2.2.2.2.2, by have := h.2.2.2.2.1.1; omega, fun s hs => by have := h.2.2.2.2.1.2 s hs; omega⟩
theorem okM_of {B : Nat} {m : List GObj} (hB : B < 4611686018427387904) (h : szMap B m) : okM m := ⟨by have := h.1; omega, fun o ho => okO_of hB (h.2 o ho)⟩
section
variable {B n : Nat} {ps : List PV}
theorem d_str (h : Sh Try.prog B (n + 1) 9 ps) : ∃ s, ps = [.str s] ∧ s.size ≤ B := by
  obtain ⟨k, rfl, hk⟩ := sh_str Try.underlying9 h
  exact ⟨k, rfl, hk⟩
end
end Go.Proofs.Ytdcifaldfmpapaa
end
section
set_option linter.unusedVariables false
set_option maxRecDepth 100000
namespace Go.Proofs.Ytdcifaldfmpapaa
open Go.Abs Go.ChangeShapes Go.WideShapes Go.ChangeAt Go.RowKit
theorem own : ownKnob Try.prog.godebug = none := by kernel_rfl
theorem laidOut : laidOutB Try.prog = true := by kernel_rfl
theorem upto_bound {H : Type} {l : List (DataW H)} (hk : Rows.uptoSmall H l = true) : Rows.uptoBulkAll l ≤ 1048576 := of_decide_eq_true hk
theorem bulk_left {H : Type} {l r : List (DataW H)} {n : Nat} (h : Rows.uptoBulkAll (l ++ r) ≤ n) : Rows.uptoBulkAll l ≤ n := by
  induction l generalizing n with
  | nil => simp [Rows.uptoBulkAll]
  | cons x l ih =>
    simp only [List.cons_append, Rows.uptoBulkAll] at h ⊢
    have := ih (n := n - Rows.uptoBulk x) (by omega)
    omega
end Go.Proofs.Ytdcifaldfmpapaa
end
section
set_option linter.unusedVariables false
set_option linter.unusedSimpArgs false
namespace Go.Abs
theorem Ent.get' {G0 : Heap} {E E' : Env} {H H' : Heap} (h : EOk0 E E') (hH : ∀ j, H'.get j = H.get j) : Ent G0 E H E' H' := (Ent.e0 h).trans (Ent.get (fun _ => rfl) hH)
theorem get_dup (id : Nat) (o o' : Ob) (H : Heap) (j : Nat) : Heap.get ((id, o) :: H) j = Heap.get ((id, o) :: (id, o') :: H) j := by
  cases e : Nat.beq id j <;> simp [Heap.get, e]
theorem Kept.app {D H G0 : Heap} (hG : ∀ p ∈ D, G0.get p.1 = none) : Kept G0 H (D ++ H) := fun id hi => by
  rw [hget_app]
  cases e : D.get id with
  | none => rfl
  | some o =>
    have := hG _ (mem_of_hget e)
    rw [this] at hi
    cases hi
/-- The result's slice is frozen. -/
theorem Fin.fzC {G0 H H' : Heap} {r r' : AV} {id : Nat} {ob : Ob} (ps : List (List PV)) (hH : H.get id = some ob) (hps : ob.rows = ps.map (·.map .pv)) (hf : Fz H' id ob.g ps r r') (hno : H'.get id = none) (hs : Sub H' H) (hc : Closed H') (hk : Kept G0 H' H) : Fin G0 H r H' r' := by
  intro G hG I ι w v h1 h2 h3
  subst hG
  exact ⟨_, ι, h1.freeze hs hc hH hno, h2.freeze hs hk hH, VRel.freeze h1 hs hH hps hf h3⟩
/-- An owned slice in front is what is returned. -/
theorem Fin.slice {G0 H : Heap} {id g n : Nat} {ob : Ob} (D : Heap) (ps : List (List PV)) (hH : Heap.get (D ++ H) id = some ob) (hg : ob.g = g) (hps : ob.rows = ps.map (·.map .pv)) (hn : ps.length = n) (hc : Closed H) (hD : ∀ p ∈ D, H.get p.1 = none) (hG : ∀ p ∈ D, G0.get p.1 = none) (hid : H.get id = none) :
    Fin G0 (D ++ H) (.osl id g 0 n) H (.pv (.sl ps)) := by
  subst hg hn
  exact Fin.fzC ps hH hps (.osl (by rw [Nat.zero_add, List.drop_zero, List.take_length])) hid (Sub.app hD) hc (Kept.app hG)
end Go.Abs
end
section
set_option linter.unusedVariables false
set_option linter.unusedSimpArgs false
namespace Go.Proofs.Ytdcifaldfmpapaa
open Go.Abs
/-- The model's order of texts is the lexical one. -/
theorem bytesLess_eq : ∀ (x y : List UInt8), Op.bytesLess x y = decide (x < y)
  | [], [] => by simp [Op.bytesLess]
  | _ :: _, [] => by simp [Op.bytesLess]
  | [], _ :: _ => by simp [Op.bytesLess]
  | a :: x, b :: y => by
    rw [Op.bytesLess, bytesLess_eq x y]
    simp only [List.cons_lt_cons_iff]
    by_cases h1 : a < b <;> by_cases h2 : a = b <;> by_cases h3 : x < y <;> simp [h1, h2, h3]
theorem slt_irr (s : ByteArray) : slt s s = false := by
  unfold slt
  rw [bytesLess_eq]
  exact decide_eq_false (List.lt_irrefl _)
theorem slt_tri {a b : ByteArray} (h1 : slt a b = false) (h2 : slt b a = false) : a = b := by
  unfold slt at h1 h2
  rw [bytesLess_eq] at h1 h2
  have e : a.toList = b.toList := List.le_antisymm (List.not_lt.1 (of_decide_eq_false h2)) (List.not_lt.1 (of_decide_eq_false h1))
  have := list_beq a b
  rw [e] at this
  simpa using this.symm
theorem slt_trans {a b c : ByteArray} (h1 : slt a b = true) (h2 : slt b c = true) : slt a c = true := by
  unfold slt at *
  rw [bytesLess_eq] at *
  exact decide_eq_true (List.lt_trans (of_decide_eq_true h1) (of_decide_eq_true h2))
theorem slt_nil (s : ByteArray) : slt s sNil = false := by
  unfold slt
  rw [bytesLess_eq, ByteArray.toList_eq sNil]
  exact decide_eq_false (List.not_lt_nil _)
theorem sle_iff {a b : ByteArray} : sle a b = false ↔ slt b a = true := by
  unfold sle
  constructor
  · intro h
    simp only [Bool.or_eq_false_iff, decide_eq_false_iff_not] at h
    cases e : slt b a with
    | true => rfl
    | false => exact absurd (slt_tri h.1 e) h.2
  · intro h
    simp only [Bool.or_eq_false_iff, decide_eq_false_iff_not]
    refine ⟨?_, fun e => ?_⟩
    · cases e : slt a b with
      | false => rfl
      | true => have := slt_trans e h; rw [slt_irr] at this; cases this
    · subst e; rw [slt_irr] at h; cases h
/-- Ids in increasing order. -/
def ups (m : List GObj) : Prop := m.Pairwise (fun a b => slt a.id b.id = true)
theorem gObj_name {o : GObj} (h : gObj o = true) : gName o.id = true := by
  simp only [gObj, gHead, gHeadN, Bool.and_eq_true, Bool.not_eq_true', Bool.or_eq_false_iff, Bool.not_eq_false'] at h
  exact h.1.1.1.1.2
theorem gName_ne {s : ByteArray} (h : gName s = true) : s ≠ sNil := by
  simp only [gName, Bool.and_eq_true, Bool.not_eq_true', decide_eq_false_iff_not] at h
  exact h.2.1
theorem badObj_iff {last : ByteArray} {o : GObj} : badObj last o = false ↔ gObj o = true ∧ slt last o.id = true := by
  rw [badObj, Bool.or_eq_false_iff, sle_iff, Bool.not_eq_false']
theorem badAt_all {m : List GObj} : (List.range m.length).any (badAt badObj GObj.id m) = false ↔ (∀ o ∈ m, gObj o = true) ∧ ups m := by
  rw [List.any_eq_false]
  constructor
  · intro h
    have hb : ∀ k o, m[k]? = some o → gObj o = true ∧ slt (before GObj.id m k) o.id = true := fun k o ho => by
      have := h k (List.mem_range.2 (List.getElem?_eq_some_iff.1 ho).1)
      rw [badAt_some ho, Bool.not_eq_true] at this
      exact badObj_iff.1 this
    refine ⟨fun o ho => ?_, ?_⟩
    · obtain ⟨k, hk⟩ := List.mem_iff_getElem?.1 ho
      exact (hb k o hk).1
    · have key : ∀ (d i : Nat) (a b : GObj), m[i]? = some a → m[i + d + 1]? = some b → slt a.id b.id = true := by
        intro d
        induction d with
        | zero =>
          intro i a b ha hb'
          have := (hb _ _ hb').2
          rw [Nat.add_zero, before_succ ha] at this
          exact this
        | succ d ih =>
          intro i a b ha hb'
          obtain ⟨c, hc⟩ := get_of_lt (l := m) (k := i + d + 1) (by have := (List.getElem?_eq_some_iff.1 hb').1; omega)
          have h1 := ih i a c ha hc
          have h2 := (hb _ _ hb').2
          rw [show i + (d + 1) = i + d + 1 from rfl, before_succ hc] at h2
          exact slt_trans h1 h2
      rw [ups, List.pairwise_iff_getElem]
      intro i j hi hj hij
      have := key (j - i - 1) i m[i] m[j] (List.getElem?_eq_getElem hi) (by rw [show i + (j - i - 1) + 1 = j by omega]; exact List.getElem?_eq_getElem hj)
      exact this
  · rintro ⟨h1, h2⟩ k hk
    have hlt := List.mem_range.1 hk
    have ho := List.getElem?_eq_getElem hlt
    rw [badAt_some ho, Bool.not_eq_true, badObj_iff]
    refine ⟨h1 _ (List.getElem_mem hlt), ?_⟩
    cases k with
    | zero =>
      have hn := gName_ne (gObj_name (h1 _ (List.getElem_mem hlt)))
      show slt sNil _ = true
      cases e : slt sNil (m[0]).id with
      | true => rfl
      | false => exact absurd (slt_tri (slt_nil _) e) hn
    | succ k =>
      rw [before_succ (List.getElem?_eq_getElem (show k < m.length by omega))]
      rw [ups, List.pairwise_iff_getElem] at h2
      exact h2 k (k + 1) (by omega) hlt (by omega)
theorem gMap_iff {m : List GObj} : gMap m = true ↔ (∀ o ∈ m, gObj o = true) ∧ ups m ∧ (m.length : Int) ≤ 1000000 := by
  rw [gMap, Bool.and_eq_true, Bool.not_eq_true', badAt_all, decide_eq_true_iff, and_assoc]
theorem okM_sub {m r : List GObj} (h : okM m) (hs : r.Sublist m) : okM r := by
  refine ⟨?_, fun o ho => h.2 o (hs.subset ho)⟩
  have := hs.length_le
  have := h.1
  omega
end Go.Proofs.Ytdcifaldfmpapaa
end
section
set_option linter.unusedVariables false
set_option linter.unusedSimpArgs false
namespace Go.Abs
theorem Clo.up {H H' : Heap} (hs : ∀ i, (H.get i).isSome = true → (H'.get i).isSome = true) {a : AV} (h : Clo H a) : Clo H' a := by
  induction h with
  | any => exact .any
  | pv p => exact .pv p
  | pad rows i k => exact .pad rows i k
  | ref h => exact .ref (hs _ h)
  | osl h => exact .osl (hs _ h)
  | clo h ih => exact .clo ih
  | agg h ih => exact .agg ih
  | tup h ih => exact .tup ih
  | mp h => exact .mp (hs _ h)
  | it h => exact .it (hs _ h)
  | osc h => exact .osc (hs _ h)
theorem Clo.app {D K : Heap} {a : AV} (h : Clo K a) : Clo (D ++ K) a := h.up fun i hi => by
  rw [hget_app]
  cases D.get i with
  | none => exact hi
  | some o => rfl
theorem Clo.cons {p : Nat × Ob} {K : Heap} {a : AV} (h : Clo K a) : Clo (p :: K) a := Clo.app (D := [p]) h
theorem Closed.app {D K : Heap} (h3 : ∀ p ∈ D, ∀ r ∈ p.2.rows, ∀ a ∈ r, Clo (D ++ K) a) (h4 : Closed K) : Closed (D ++ K) := by
  intro id o ho
  rw [hget_app] at ho
  cases e : D.get id with
  | some x =>
    rw [e] at ho
    cases ho
    exact h3 _ (mem_of_hget e)
  | none =>
    rw [e] at ho
    exact fun r hr a ha => (h4 id o ho r hr a ha).app
theorem Sub.front {D D' K : Heap} (h1 : ∀ p ∈ D, K.get p.1 = none) (h2 : ∀ p ∈ D', D.get p.1 = some p.2) : Sub (D' ++ K) (D ++ K) := by
  intro id o ho
  rw [hget_app] at ho ⊢
  cases e : D'.get id with
  | some x =>
    rw [e] at ho
    cases ho
    rw [h2 _ (mem_of_hget e)]
  | none =>
    rw [e] at ho
    cases e2 : D.get id with
    | none => exact ho
    | some x =>
      have := h1 _ (mem_of_hget e2)
      rw [this] at ho; cases ho
theorem Kept.front {G0 D D' K : Heap} (h2 : ∀ p ∈ D', D.get p.1 = some p.2) (h5 : ∀ p ∈ D, G0.get p.1 = none) : Kept G0 (D' ++ K) (D ++ K) := by
  intro id hi
  have hD : D.get id = none := by
    cases e : D.get id with
    | none => rfl
    | some x =>
      have := h5 _ (mem_of_hget e)
      rw [this] at hi; cases hi
  have hD' : D'.get id = none := by
    cases e : D'.get id with
    | none => rfl
    | some x =>
      have := h2 _ (mem_of_hget e)
      rw [hD] at this; cases this
  rw [hget_app, hget_app, hD, hD']
/-- Objects in front are dropped, the others stay. -/
theorem Ent.front {G0 : Heap} {E E' : Env} {K : Heap} (D D' : Heap) (hE : EOk E (D' ++ K) E') (h1 : ∀ p ∈ D, K.get p.1 = none) (h2 : ∀ p ∈ D', D.get p.1 = some p.2) (h3 : ∀ p ∈ D', ∀ r ∈ p.2.rows, ∀ a ∈ r, Clo (D' ++ K) a) (h4 : Closed K)
    (h5 : ∀ p ∈ D, G0.get p.1 = none) : Ent G0 E (D ++ K) E' (D' ++ K) := by
  intro G hG N a w hs
  obtain ⟨I, ι, hr, hst, he⟩ := hs.rel
  subst hG
  have hsub := Sub.front h1 h2
  refine ⟨hs.defers, hs.size, I, ι, hr.restrict hsub (Closed.app h3 h4), hst.restrict hsub (Kept.front h2 h5), fun t v ht => ?_⟩
  obtain ⟨k1, k2⟩ := hE.spec _ (mem_of_get ht)
  obtain ⟨c, hc, hv⟩ := he t v k1
  exact ⟨c, hc, hv.restrict hsub k2⟩
theorem Closed.cons {i : Nat} {o : Ob} {K : Heap} (h3 : ∀ r ∈ o.rows, ∀ a ∈ r, Clo ((i, o) :: K) a) (h4 : Closed K) : Closed ((i, o) :: K) :=
  Closed.app (D := [(i, o)]) (fun p hp => by rw [List.mem_singleton] at hp; subst hp; exact h3) h4
/-- A scope of labels into which nothing jumps. -/
def ANoGoto (Q : Exit → Env → Heap → Prop) : Exit → Env → Heap → Prop
  | .goto _, _, _ => False
  | e, E, H => Q e E H
/-- Each object's cells lead into the heap. -/
def ClosedL (H : Heap) : Heap → Prop
  | [] => True
  | (_, o) :: r => (∀ r ∈ o.rows, ∀ a ∈ r, Clo H a) ∧ ClosedL H r
theorem ClosedL.spec {H : Heap} : ∀ {L : Heap}, ClosedL H L → ∀ p ∈ L, ∀ r ∈ p.2.rows, ∀ a ∈ r, Clo H a
  | (i, o) :: L, h, p, hp => by
    rcases List.mem_cons.1 hp with rfl | hp
    · exact h.1
    · exact ClosedL.spec h.2 p hp
theorem Closed.ofL {H : Heap} (h : ClosedL H H) : Closed H := fun _ _ ho => h.spec _ (mem_of_hget ho)
/-- Names of objects of a front. -/
def lo (D : Heap) (n : Nat) : Prop := ∀ p ∈ D, 900 ≤ p.1 ∧ p.1 < n
theorem lo_none {D : Heap} {n i : Nat} (h : lo D n) (hi : i < 900 ∨ n ≤ i) : D.get i = none := by
  cases e : D.get i with
  | none => rfl
  | some x => have := h _ (mem_of_hget e); simp only at this; omega
theorem lo_app {D : Heap} {n i : Nat} (h : lo D n) (hi : i < 900 ∨ n ≤ i) (K : Heap) : Heap.get (D ++ K) i = K.get i := by rw [hget_app, lo_none h hi]
theorem lo_nil (n : Nat) : lo [] n := fun p hp => by cases hp
theorem lo_cons {D : Heap} {n i : Nat} {o : Ob} (h : lo D n) (h1 : 900 ≤ i) (h2 : i < n) : lo ((i, o) :: D) n := fun p hp => by
  rcases List.mem_cons.1 hp with rfl | hp
  · exact ⟨h1, h2⟩
  · exact h p hp
theorem lo_mono {D : Heap} {n m : Nat} (h : lo D n) (hm : n ≤ m) : lo D m := fun p hp => by have := h p hp; omega
theorem lo_append {D D' : Heap} {n : Nat} (h : lo D n) (h' : lo D' n) : lo (D ++ D') n := fun p hp => by
  rcases List.mem_append.1 hp with hp | hp
  · exact h p hp
  · exact h' p hp
/-- No names of fronts are in a heap. -/
def clear (K : Heap) : Prop := ∀ i, 900 ≤ i → i < 1000 → K.get i = none
/-- A returned value and the heap in another writing. -/
theorem Fin.of_ent {G0 H H' : Heap} {r r' : AV} (h : Ent G0 [(0, r)] H [(0, r')] H') : Fin G0 H r H' r' := by
  intro G hG I ι w v h1 h2 h3
  obtain ⟨_, _, I', ι', k1, k2, k3⟩ := h G hG 1 ⟨#[v], []⟩ w ⟨rfl, rfl, I, ι, h1, h2, fun t x hx => by
    simp only [Env.get] at hx
    cases e : Nat.beq 0 t with
    | true => rw [e] at hx; cases hx; rw [← Nat.eq_of_beq_eq_true e]; exact ⟨v, rfl, h3⟩
    | false => rw [e] at hx; cases hx⟩
  obtain ⟨c, hc, hv⟩ := k3 0 r' rfl
  cases hc
  exact ⟨I', ι', k1, k2, hv⟩
/-- What stands in front in both forms, or not behind. -/
theorem Sub.front' {D D' K : Heap} (h1 : ∀ p ∈ D, (D'.get p.1).isSome = true ∨ K.get p.1 = none) (h2 : ∀ p ∈ D', D.get p.1 = some p.2) : Sub (D' ++ K) (D ++ K) := by
  intro id o ho
  rw [hget_app] at ho ⊢
  cases e : D'.get id with
  | some x =>
    rw [e] at ho
    cases ho
    rw [h2 _ (mem_of_hget e)]
  | none =>
    rw [e] at ho
    cases e2 : D.get id with
    | none => exact ho
    | some x =>
      rcases h1 _ (mem_of_hget e2) with h | h
      · simp only [e] at h; cases h
      · rw [h] at ho; cases ho
theorem Kept.front' {G0 D D' K : Heap} (h2 : ∀ p ∈ D', D.get p.1 = some p.2) (h5 : ∀ p ∈ D, (D'.get p.1).isSome = true ∨ G0.get p.1 = none) : Kept G0 (D' ++ K) (D ++ K) := by
  intro id hi
  rw [hget_app, hget_app]
  cases e : D'.get id with
  | some x => rw [h2 _ (mem_of_hget e)]
  | none =>
    cases e2 : D.get id with
    | none => rfl
    | some x =>
      rcases h5 _ (mem_of_hget e2) with h | h
      · simp only [e] at h; cases h
      · rw [h] at hi; cases hi
theorem Fin.front' {G0 K : Heap} {r : AV} (D D' : Heap) (hr : Clo (D' ++ K) r) (h1 : ∀ p ∈ D, (D'.get p.1).isSome = true ∨ K.get p.1 = none) (h2 : ∀ p ∈ D', D.get p.1 = some p.2) (h3 : ∀ p ∈ D', ∀ r ∈ p.2.rows, ∀ a ∈ r, Clo (D' ++ K) a) (h4 : Closed K)
    (h5 : ∀ p ∈ D, (D'.get p.1).isSome = true ∨ G0.get p.1 = none) : Fin G0 (D ++ K) r (D' ++ K) r := by
  intro G hG I ι w v k1 k2 k3
  subst hG
  have hsub := Sub.front' h1 h2
  exact ⟨I, ι, k1.restrict hsub (Closed.app h3 h4), k2.restrict hsub (Kept.front' h2 h5), k3.restrict hsub hr⟩
theorem Fin.get' {G0 H H' : Heap} {r : AV} (hH : ∀ j, H'.get j = H.get j) : Fin G0 H r H' r := Fin.of_ent (Ent.get' ⟨⟨_, rfl, rfl⟩, trivial⟩ hH)
end Go.Abs
end
section
set_option linter.unusedVariables false
set_option linter.unusedSimpArgs false
namespace Go.Abs

theorem osc_slice {w : World} {I : Nat → Prop} {ι : Plc} {H : Heap} {v : Value} {id g off len c : Nat} {ob : Ob} (h : VRel w I ι H v (.osc id g off len c)) (hH : H.get id = some ob) (hg : ob.g = g) :
    0 < ob.sz ∧ len ≤ c ∧ ((∃ b oo, ι id = some (b, off + c) ∧ v = .slice (some ⟨b, oo, none⟩) len c ∧ (0 < c ∨ off = 0 → oo = off * ob.sz)) ∨ (ι id = none ∧ v = .slice none 0 0 ∧ off = 0 ∧ len = 0 ∧ c = 0)) := by
  cases h with
  | osc o' h1 h2 _ h3 =>
    rw [hH] at h1; cases h1
    exact h3 hg
theorem osl_osc {w : World} {I : Nat → Prop} {ι : Plc} {H : Heap} {v : Value} {id g off len : Nat} {ob : Ob} (hr : Rel I ι H w) (h : VRel w I ι H v (.osl id g off len)) (hH : H.get id = some ob) (hg : ob.g = g) :
    ∃ c, len ≤ c ∧ c ≤ maxLen ∧ VRel w I ι H v (.osc id g off len c) := by
  have hz := osl_sz h hH hg
  obtain ⟨h1, ⟨b, cap, oo, h2, h3, h4⟩ | ⟨h2, h3, h4, h5⟩⟩ := osl_slice h hH hg
  · obtain ⟨_, _, ⟨b', cap', cs, e1, e2, e3, e4, e5, e6, e7⟩ | ⟨e1, _⟩⟩ := (hr.obj id ob hH).cells hz
    · rw [h2] at e1; cases e1
      refine ⟨cap - off, by omega, by omega, ?_⟩
      subst h3
      refine .osc ob hH (by omega) rfl fun _ => ⟨hz, by omega, .inl ⟨b, oo, ?_, rfl, fun hh => h4 (by omega)⟩⟩
      rw [h2]; congr 2; omega
    · rw [h2] at e1; cases e1
  · subst h3 h4 h5
    exact ⟨0, Nat.le_refl _, Nat.zero_le _, .osc ob hH (by omega) rfl fun _ => ⟨hz, Nat.le_refl _, .inr ⟨h2, rfl, rfl, rfl, rfl⟩⟩⟩
theorem osc_osl {w : World} {I : Nat → Prop} {ι : Plc} {H : Heap} {v : Value} {id g off len c : Nat} {ob : Ob} (h : VRel w I ι H v (.osc id g off len c)) (hH : H.get id = some ob) (hg : ob.g = g) (hl : off + len ≤ ob.rows.length) :
    VRel w I ι H v (.osl id g off len) := by
  obtain ⟨hz, h1, ⟨b, oo, h2, h3, h4⟩ | ⟨h2, h3, h4, h5, h6⟩⟩ := osc_slice h hH hg
  · subst h3
    refine .osl ob hH (by omega) rfl fun _ => ⟨hz, hl, .inl ⟨b, off + c, oo, h2, ?_, fun hh => h4 (by omega)⟩⟩
    congr 1; omega
  · subst h3 h4 h5
    exact .osl ob hH (by omega) rfl fun _ => ⟨hz, hl, .inr ⟨h2, rfl, rfl, rfl⟩⟩

section
variable {P : Program} {G0 : Heap} {N : Nat} {Q : Exit → Env → Heap → Prop} {E : Env} {H : Heap} {code : Code}
/-- The capacity gets a name. -/
theorem awp_cap {t id g off n : Nat} {ob : Ob} (hx : E.get t = some (.osl id g off n)) (hH : H.get id = some ob) (hg : ob.g = g) (h : ∀ c, n ≤ c → c ≤ maxLen → AWp P G0 N code Q ((t, .osc id g off n c) :: E) H) : AWp P G0 N code Q E H := by
  intro G hG a w hs
  obtain ⟨I, ι, hr, hst, he⟩ := hs.rel
  obtain ⟨v, hv, hvr⟩ := he t _ hx
  obtain ⟨c, h1, h2, h3⟩ := osl_osc hr hvr hH hg
  refine h c h1 h2 G hG a w ⟨hs.defers, hs.size, I, ι, hr, hst, fun u x hu => ?_⟩
  by_cases e : t = u
  · subst e
    rw [Env.get_cons_same] at hu; cases hu
    exact ⟨v, hv, h3⟩
  · rw [Env.get_cons_other _ _ e] at hu
    exact he u x hu
/-- The capacity is forgotten. -/
theorem awp_uncap {t id g off n c : Nat} {ob : Ob} (hx : E.get t = some (.osc id g off n c)) (hH : H.get id = some ob) (hg : ob.g = g) (hl : off + n ≤ ob.rows.length) (h : AWp P G0 N code Q ((t, .osl id g off n) :: E) H) : AWp P G0 N code Q E H := by
  intro G hG a w hs
  obtain ⟨I, ι, hr, hst, he⟩ := hs.rel
  obtain ⟨v, hv, hvr⟩ := he t _ hx
  refine h G hG a w ⟨hs.defers, hs.size, I, ι, hr, hst, fun u x hu => ?_⟩
  by_cases e : t = u
  · subst e
    rw [Env.get_cons_same] at hu; cases hu
    exact ⟨v, hv, osc_osl hvr hH hg hl⟩
  · rw [Env.get_cons_other _ _ e] at hu
    exact he u x hu
end

section
variable {P : Program} {N : Nat} {o : Oper} {E : Env} {H : Heap} {T : TypeId} {x y : Operand}
theorem opd_cap_osc {e : TypeId} {id g off len c : Nat} {ob : Ob} (ho : o.op = .call { callee := .builtin .cap, args := #[x], argTypes := #[T] }) (ht : P.underlying T = some (.slice e)) (hx : aeval E x = some (.osc id g off len c)) (hH : H.get id = some ob) (hg : ob.g = g) : OpD P N o E H (.pv (.int .i64 c)) H :=
  .of_run fun a w I ι _ he => ⟨.int .i64 c, by
    obtain ⟨_, _, ⟨b, oo, _, e1, _⟩ | ⟨_, e1, _, _, e2⟩⟩ := osc_slice (aeval_rel he hx) hH hg
    · simp [execOp, ho, resolve, invoke, builtin, e1, Builtin.cap_, run_underlying ht, goInt]
    · simp [execOp, ho, resolve, invoke, builtin, e1, e2, Builtin.cap_, run_underlying ht, goInt], .pv (.int _ _)⟩
theorem opd_len_osc {e : TypeId} {id g off len c : Nat} {ob : Ob} (ho : o.op = .call { callee := .builtin .len, args := #[x], argTypes := #[T] }) (ht : P.underlying T = some (.slice e)) (hx : aeval E x = some (.osc id g off len c)) (hH : H.get id = some ob) (hg : ob.g = g) : OpD P N o E H (.pv (.int .i64 len)) H :=
  .of_run fun a w I ι _ he => ⟨.int .i64 len, by
    obtain ⟨_, _, ⟨b, oo, _, e1, _⟩ | ⟨_, e1, _, e2, _⟩⟩ := osc_slice (aeval_rel he hx) hH hg
    · simp [execOp, ho, resolve, invoke, builtin, e1, Builtin.len_, run_underlying ht, goInt]
    · simp [execOp, ho, resolve, invoke, builtin, e1, e2, Builtin.len_, run_underlying ht, goInt], .pv (.int _ _)⟩

/-- A cut up to the capacity. -/
theorem x_slice_osc {e : TypeId} {lo hi : Option Operand} {id g off len c off2 len2 c2 l h sz : Nat} {ob : Ob} (ho : o.op = .slice T x lo hi none) (hS : SliceOf P T e sz) (hx : aeval E x = some (.osc id g off len c))
    (hH : H.get id = some ob) (hg : ob.g = g) (hsz : ob.sz = sz) (hlo : bnd E lo 0 = some (l : Int)) (hhi : bnd E hi len = some (h : Int)) (h1 : l ≤ h) (h2 : h ≤ c) (ho2 : off + l = off2) (hl2 : h - l = len2) (hc2 : c - l = c2) : OpD P N o E H (.osc id g off2 len2 c2) H :=
  .of_run fun a w I ι hr he => by
    have hv := aeval_rel he hx
    obtain ⟨hz, hle, hcase⟩ := osc_slice hv hH hg
    have hT := hS.1
    have hs := hS.2.1
    have hTe : P.elem T = e := by simp [Program.elem, hT]
    have hT' : P.underlying T = some (.slice (P.elem T)) := by rw [hTe, hT]
    subst ho2 hl2 hc2 hsz
    rcases hcase with ⟨b, oo, h3, h4, h5⟩ | ⟨h3, h4, h5, h6, h7⟩
    · have hb := run_bounds (P := P) (b := true) (len := len) (cap := c) he hlo hhi h1 h2
      have hrun := run_slice_any (P := P) w T (some ⟨b, oo, none⟩) len c hT' (lo.map a.eval) (hi.map a.eval) none
      refine ⟨.slice (some ⟨b, if c = l then oo else oo + l * ob.sz, none⟩) (h - l) (c - l), ?_, .osc ob hH (by omega) rfl fun _ => ⟨hz, by omega, .inl ⟨b, _, ?_, rfl, fun hlt => ?_⟩⟩⟩
      · simp only [execOp, ho, h4]
        simp only [run_sliceAt_slice w T _ _ _ _ hT', Sem.run_bind, hrun, Option.map_none, hb, hTe, hs, sliced, Result.andThen_ok, Sem.run_pure]
        by_cases ec : c = l
        · simp [ec]
        · simp [ec, Addr.add_lit]
      · rw [h3]; congr 2; omega
      · by_cases ec : off + l = 0
        · have e0 : off = 0 := by omega
          have e1 : l = 0 := by omega
          subst e0 e1
          rw [h5 (by omega)]
          simp
        · rw [if_neg (by omega), h5 (by omega), Nat.add_mul]
    · subst h5 h6 h7
      have hh : h = 0 := by omega
      have hl : l = 0 := by omega
      subst hh hl
      have hb := run_bounds (P := P) (b := true) (len := 0) (cap := 0) he hlo hhi h1 (by simp)
      have hrun := run_slice_any (P := P) w T none 0 0 hT' (lo.map a.eval) (hi.map a.eval) none
      refine ⟨.slice none 0 0, ?_, .osc ob hH (by omega) rfl fun _ => ⟨hz, by omega, .inr ⟨h3, rfl, rfl, rfl, rfl⟩⟩⟩
      simp only [execOp, ho, h4]
      simp [run_sliceAt_slice w T _ _ _ _ hT', hrun, hb, hTe, hs, sliced]

/-- A slice of which the first rows are read. -/
def SrcN (w : World) (I : Nat → Prop) (ι : Plc) (H : Heap) (sz : Nat) (v : Value) (len : Nat) (rows : List (List AV)) : Prop :=
  (∃ a c news, v = .slice (some a) len c ∧ rows.length ≤ len ∧ news.length = rows.length * sz ∧ (∀ j u, news[j]? = some u → w.cell? (a.add j) = some u) ∧ (∀ u ∈ news, u.oneCell' = true) ∧ LRel w I ι H sz news rows) ∨
  (v = .slice none 0 0 ∧ len = 0 ∧ rows = [])

theorem LRel.take {w : World} {I : Nat → Prop} {ι : Plc} {H : Heap} {sz : Nat} {l : List Value} {rows : List (List AV)} (h : LRel w I ι H sz l rows) (hl : ∀ r ∈ rows, r.length = sz) (k : Nat) : LRel w I ι H sz (l.take (k * sz)) (rows.take k) := by
  intro i r hi j a hj
  rw [List.getElem?_take] at hi
  split at hi
  · obtain ⟨u, q1, q2, q3⟩ := h i r hi j a hj
    have hjs : j < sz := by rw [← hl r (List.mem_of_getElem? hi)]; exact (List.getElem?_eq_some_iff.1 hj).1
    refine ⟨u, ?_, q2, q3⟩
    rw [List.getElem?_take, if_pos]
    · exact q1
    · have : (i + 1) * sz ≤ k * sz := Nat.mul_le_mul_right _ (by omega)
      rw [Nat.add_mul] at this; omega
  · cases hi
theorem LRel.drop {w : World} {I : Nat → Prop} {ι : Plc} {H : Heap} {sz : Nat} {l : List Value} {rows : List (List AV)} (h : LRel w I ι H sz l rows) (k : Nat) : LRel w I ι H sz (l.drop (k * sz)) (rows.drop k) := by
  intro i r hi j a hj
  rw [List.getElem?_drop] at hi
  obtain ⟨u, q1, q2, q3⟩ := h _ r hi j a hj
  refine ⟨u, ?_, q2, q3⟩
  rw [List.getElem?_drop]
  rw [Nat.add_mul] at q1
  rw [← Nat.add_assoc]
  exact q1
theorem srcN_osc {w : World} {I : Nat → Prop} {ι : Plc} {H : Heap} {sz id g off len c : Nat} {ob : Ob} {v : Value} (hr : Rel I ι H w) (h : VRel w I ι H v (.osc id g off len c)) (hH : H.get id = some ob) (hg : ob.g = g) (hsz : ob.sz = sz) (k : Nat) (hk : k ≤ len) (hk2 : off + k ≤ ob.rows.length) :
    SrcN w I ι H sz v len ((ob.rows.drop off).take k) := by
  obtain ⟨hz, h1, ⟨b, oo, h2, h3, h4⟩ | ⟨h2, h3, h4, h5, h6⟩⟩ := osc_slice h hH hg
  · have hv : VRel w I ι H (.slice (some ⟨b, oo, none⟩) k c) (.osl id g off k) :=
      .osl ob hH (by omega) rfl fun _ => ⟨hz, hk2, .inl ⟨b, off + c, oo, h2, by congr 1; omega, fun hh => h4 (by omega)⟩⟩
    have hlen : ((ob.rows.drop off).take k).length = k := by rw [List.length_take, List.length_drop]; omega
    rcases src_osl hr hv hH hg hsz with ⟨a, c', news, s1, s2, s3, s4, s5⟩ | ⟨s1, s2⟩
    · injection s1 with q1 q2 q3
      injection q1 with q1
      subst q1
      exact .inl ⟨_, c, news, h3, by omega, s2, s3, s4, s5⟩
    · cases s1
  · subst h4 h5
    have : k = 0 := by omega
    subst this
    exact .inr ⟨h3, rfl, by simp⟩
theorem srcN_osl {w : World} {I : Nat → Prop} {ι : Plc} {H : Heap} {sz id g off len : Nat} {ob : Ob} {v : Value} (hr : Rel I ι H w) (h : VRel w I ι H v (.osl id g off len)) (hH : H.get id = some ob) (hg : ob.g = g) (hsz : ob.sz = sz) (k : Nat) (hk : k ≤ len) :
    SrcN w I ι H sz v len ((ob.rows.drop off).take k) := by
  obtain ⟨c, h1, h2, h3⟩ := osl_osc hr h hH hg
  have := (osl_slice h hH hg).1
  exact srcN_osc hr h3 hH hg hsz k hk (by omega)

/-- Rows of an object are written, or put behind its last one. -/
theorem Rel.write {I : Nat → Prop} {ι : Plc} {H H' : Heap} {w : World} {id b cap off g2 : Nat} {ob : Ob} {cs : Array Value} {news : List Value} {rows2 : List (List AV)} (hr : Rel I ι H w) (hH : H.get id = some ob) (hι : ι id = some (b, cap)) (hb : w.heap[b]? = some (.cells cs ob.ty (0, 0)))
    (hn : news.length = rows2.length * ob.sz) (hl : LRel w I ι H ob.sz news rows2) (hl2 : ∀ r ∈ rows2, r.length = ob.sz) (ho : off ≤ ob.rows.length) (hc : off + rows2.length ≤ cap) (hg2 : ob.g ≤ g2)
    (h1 : H'.get id = some ⟨g2, ob.sz, ob.ty, ob.rows.take off ++ (rows2 ++ ob.rows.drop (off + rows2.length))⟩) (h2 : ∀ j, j ≠ id → H'.get j = H.get j) :
    Rel I ι H' (w.setRow b (cs.toList.take (off * ob.sz) ++ news ++ cs.toList.drop (off * ob.sz + news.length)).toArray) ∧ Step I ι H w I ι H' (w.setRow b (cs.toList.take (off * ob.sz) ++ news ++ cs.toList.drop (off * ob.sz + news.length)).toArray) := by
  obtain ⟨p1, p2, ⟨b', cap', cs', e1, e2, e3, e4, e5, e5', e6⟩ | ⟨e1, _⟩⟩ := (hr.obj id ob hH).cells ((hr.obj id ob hH).pos hι hb)
  · rw [hι] at e1; cases e1
    rw [hb] at e2; cases e2
    have hall : LRel w I ι H ob.sz cs.toList ob.rows := fun i r hi k a hk => by
      obtain ⟨v, q1, q2, q3⟩ := e6 i r hi k a hk
      exact ⟨v, by simpa using q1, q2, q3⟩
    have hoc : off ≤ cap := by omega
    have hlt : (cs.toList.take (off * ob.sz)).length = (ob.rows.take off).length * ob.sz := by
      have : off * ob.sz ≤ cap * ob.sz := Nat.mul_le_mul_right _ hoc
      rw [List.length_take, List.length_take, Array.length_toList, e4, Nat.min_eq_left this, Nat.min_eq_left ho]
    have hnl : off * ob.sz + news.length = (off + rows2.length) * ob.sz := by rw [hn, Nat.add_mul]
    have htail : LRel w I ι H ob.sz (news ++ (cs.toList.drop (off * ob.sz + news.length) ++ [])) (rows2 ++ ob.rows.drop (off + rows2.length)) := by
      refine LRel.app hl hn ?_
      rw [hnl]
      exact hall.drop _
    rw [List.append_nil] at htail
    have hfin := LRel.app (l3 := []) (hall.take p2 off) hlt htail
    rw [List.append_nil] at hfin
    have hsize : (cs.toList.take (off * ob.sz) ++ news ++ cs.toList.drop (off * ob.sz + news.length)).toArray.size = cap * ob.sz := by
      have : (off + rows2.length) * ob.sz ≤ cap * ob.sz := Nat.mul_le_mul_right _ hc
      simp only [List.size_toArray, List.length_append, List.length_take, List.length_drop, Array.length_toList, e4]
      omega
    refine Rel.update (ob' := ⟨g2, ob.sz, ob.ty, ob.rows.take off ++ (rows2 ++ ob.rows.drop (off + rows2.length))⟩) hr hH hι hb hg2 rfl rfl (fun _ => ?_) hsize ?_ (fun r hr' => ?_) (fun i r hi k a hk => ?_) h1 h2
    · simp only [List.length_append, List.length_take, List.length_drop]; omega
    · simp only [List.length_append, List.length_take, List.length_drop]; omega
    · rcases List.mem_append.1 hr' with h | h
      · exact p2 r (List.mem_of_mem_take h)
      · rcases List.mem_append.1 h with h | h
        · exact hl2 r h
        · exact p2 r (List.mem_of_mem_drop h)
    · obtain ⟨u, q1, q2, q3⟩ := hfin i r hi k a hk
      refine ⟨u, ?_, q2, q3⟩
      rw [List.getElem?_toArray, List.append_assoc]
      exact q1
  · rw [hι] at e1; cases e1

theorem write_nil {off n : Nat} {rows : List (List AV)} (h : n = 0) : rows.take off ++ ([] ++ rows.drop (off + n)) = rows := by subst h; simp

/-- copy between slices. -/
theorem opd_copy {D S e : TypeId} {id g off len len2 n sz : Nat} {ob : Ob} {rows2 : List (List AV)} {H2 : Heap} (ho : o.op = .call { callee := .builtin .copy, args := #[x, y], argTypes := #[D, S] }) (hS : SliceOf P D e sz)
    (hd : ∀ (a : Act) (w : World) (I : Nat → Prop) (ι : Plc), Rel I ι H w → ERel w I ι H E a → ∃ c, VRel w I ι H (a.eval x) (.osc id g off len c)) (hH : H.get id = some ob) (hg : ob.g = g) (hsz : ob.sz = sz) (hoff : off ≤ ob.rows.length)
    (hsrc : ∀ (a : Act) (w : World) (I : Nat → Prop) (ι : Plc), Rel I ι H w → ERel w I ι H E a → SrcN w I ι H sz (a.eval y) len2 rows2) (hrl2 : ∀ r ∈ rows2, r.length = sz) (hn : rows2.length = n) (hmin : min len2 len = n)
    (hH2 : ∀ j, H2.get j = (H.set id ⟨g, sz, ob.ty, ob.rows.take off ++ (rows2 ++ ob.rows.drop (off + n))⟩).get j) : OpD P N o E H (.pv (.int .i64 n)) H2 := by
  intro a w I ι _ _ hr he K Q hk
  obtain ⟨c, hv⟩ := hd a w I ι hr he
  obtain ⟨hz, h1, hcase⟩ := osc_slice hv hH hg
  have hmin' : Nat.min len2 len = n := hmin
  have hs := hS.2.1
  have hD := hS.1
  subst hg hsz
  have hpure : n = 0 → (∀ j, H2.get j = H.get j) := fun h0 j => by
    rw [hH2 j]
    have hr0 : rows2 = [] := List.eq_nil_of_length_eq_zero (by omega)
    subst hr0
    rw [write_nil h0]
    by_cases e : j = id
    · subst e; rw [Heap.get_set_same, hH]
    · exact Heap.get_set_other _ _ e
  have hfirst : ∀ news : List Value, ∀ ad c', a.eval y = .slice (some ad) len2 c' → news.length = n * ob.sz → (∀ j u, news[j]? = some u → w.cell? (ad.add j) = some u) → (Builtin.firstCells ob.sz n (a.eval y)).run P w = .ok news.toArray w := fun news ad c' e1 e2 e3 => by
    rw [e1]; exact run_firstCells_some (P := P) w ob.sz n ad len2 c' news e2 e3
  rcases hcase with ⟨b, oo, c1, c2, c3⟩ | ⟨c1, c2, c3, c4, c5⟩
  · by_cases hn0 : n = 0
    · obtain ⟨k2, k3⟩ := hr.congr (hpure hn0)
      have hrun : (execOp a.eval o).run P w = .ok (.value (.int .i64 ((0 : Nat) : Int))) w := by
        unfold execOp
        have hfc : (Builtin.firstCells ob.sz n (a.eval y)).run P w = .ok #[] w := by
          rcases hsrc a w I ι hr he with ⟨ad, c', news, s1, s2, s3, s4, s5, s6⟩ | ⟨s1, s2, s3⟩
          · have := hfirst news ad c' s1 (by rw [s3, hn]) s4
            have hnn : news = [] := List.eq_nil_of_length_eq_zero (by rw [s3, hn, hn0]; simp)
            rw [this, hnn]
          · rw [s1]; exact run_firstCells_none (P := P) (w := w) ob.sz n 0 0
        have hlen : (Builtin.lenOf (a.eval y)).run P w = .ok len2 w := by
          rcases hsrc a w I ι hr he with ⟨ad, c', news, s1, s2, s3, s4, s5, s6⟩ | ⟨s1, s2, s3⟩
          · rw [s1]; rfl
          · rw [s1, s2]; rfl
        simp only [ho, resolve, invoke, builtin, Sem.run_bind, Sem.run_pure, Result.andThen_ok, List.map_toArray, List.map_cons, List.map_nil, c2, Builtin.copy_, run_underlying hD, hs]
        simp only [List.getElem?_toArray, List.getElem?_cons_zero, List.getElem?_cons_succ, run_underlying hD, Sem.run_bind, Sem.run_pure, Result.andThen_ok, hs, hlen, hmin', hfc]
        simp [storeCells, goInt, hn0]
      unfold Oper.wp
      rw [hrun]
      subst hn0
      exact hk _ _ I ι _ _ ⟨rfl, rfl⟩ (.pv (.int _ _)) k2 k3
    · obtain ⟨p1, p2, ⟨b', cap', cs, e1, e2, e3, e4, e5, e5', e6⟩ | ⟨e1, _⟩⟩ := (hr.obj id ob hH).cells hz
      · rw [c1] at e1; cases e1
        have hoo := c3 (by omega)
        subst hoo
        rcases hsrc a w I ι hr he with ⟨ad, c', news, s1, s2, s3, s4, s5, s6⟩ | ⟨s1, s2, s3⟩
        · have hnl : news.length = n * ob.sz := by rw [s3, hn]
          have hfc := hfirst news ad c' s1 hnl s4
          have hfit : off * ob.sz + 0 + news.length ≤ cs.size := by
            rw [e4, hnl, Nat.add_zero, ← Nat.add_mul]; exact Nat.mul_le_mul_right _ (by omega)
          have hst := run_storeCells_at P b (off * ob.sz) ob.ty news 0 cs w e2 hfit s5
          simp only [Nat.add_zero] at hst
          obtain ⟨k2, k3⟩ := Rel.write (H' := H2) (off := off) (g2 := ob.g) hr hH c1 e2 s3 s6 hrl2 hoff (by omega) (Nat.le_refl _) (by rw [hH2, Heap.get_set_same, hn]) (fun j hj => by rw [hH2, Heap.get_set_other _ _ hj])
          unfold Oper.wp execOp
          simp only [ho, resolve, invoke, builtin, Sem.run_bind, Sem.run_pure, Result.andThen_ok, List.map_toArray, List.map_cons, List.map_nil, c2, Builtin.copy_, run_underlying hD, hs]
          have hlen : (Builtin.lenOf (a.eval y)).run P w = .ok len2 w := by rw [s1]; rfl
          simp only [List.getElem?_toArray, List.getElem?_cons_zero, List.getElem?_cons_succ, run_underlying hD, Sem.run_bind, Sem.run_pure, Result.andThen_ok, hs, hlen, hmin', hfc, hst]
          exact hk _ _ I ι _ _ ⟨rfl, rfl⟩ (.pv (.int _ _)) k2 k3
        · omega
      · rw [c1] at e1; cases e1
  · have hn0 : n = 0 := by omega
    obtain ⟨k2, k3⟩ := hr.congr (hpure hn0)
    have hrun : (execOp a.eval o).run P w = .ok (.value (.int .i64 ((0 : Nat) : Int))) w := by
      unfold execOp
      have hfc : (Builtin.firstCells ob.sz n (a.eval y)).run P w = .ok #[] w := by
        rcases hsrc a w I ι hr he with ⟨ad, c', news, s1, s2, s3, s4, s5, s6⟩ | ⟨s1, s2, s3⟩
        · have := hfirst news ad c' s1 (by rw [s3, hn]) s4
          have hnn : news = [] := List.eq_nil_of_length_eq_zero (by rw [s3, hn, hn0]; simp)
          rw [this, hnn]
        · rw [s1]; exact run_firstCells_none (P := P) (w := w) ob.sz n 0 0
      have hlen : (Builtin.lenOf (a.eval y)).run P w = .ok len2 w := by
        rcases hsrc a w I ι hr he with ⟨ad, c', news, s1, s2, s3, s4, s5, s6⟩ | ⟨s1, s2, s3⟩
        · rw [s1]; rfl
        · rw [s1, s2]; rfl
      rw [c4] at hmin'
      simp only [ho, resolve, invoke, builtin, Sem.run_bind, Sem.run_pure, Result.andThen_ok, List.map_toArray, List.map_cons, List.map_nil, c2, Builtin.copy_, run_underlying hD, hs]
      simp only [List.getElem?_toArray, List.getElem?_cons_zero, List.getElem?_cons_succ, run_underlying hD, Sem.run_bind, Sem.run_pure, Result.andThen_ok, hs, hlen, hmin', hfc]
      simp [storeCells, goInt, hn0]
    unfold Oper.wp
    rw [hrun]
    subst hn0
    exact hk _ _ I ι _ _ ⟨rfl, rfl⟩ (.pv (.int _ _)) k2 k3
end
end Go.Abs
end
section
set_option linter.unusedVariables false
set_option linter.unusedSimpArgs false
namespace Go.Abs
section
variable {P : Program} {N : Nat} {o : Oper} {E : Env} {H : Heap} {T : TypeId} {x y : Operand}

/-- append beyond the capacity: a new object. -/
theorem x_append_beyond {e : TypeId} {id g n c m k sz bytes id2 : Nat} {ob : Ob} {rows2 rows' : List (List AV)} (ho : o.op = .call { callee := .builtin .append, args := #[x, y], argTypes := #[T, T] }) (hS : SliceOf P T e sz) (hinf : EI P e sz bytes)
    (hx : aeval E x = some (.osc id g 0 n c)) (hH : H.get id = some ob) (hg : ob.g = g) (hosz : ob.sz = sz) (hon : n ≤ ob.rows.length)
    (hsrc : ∀ (a : Act) (w : World) (I : Nat → Prop) (ι : Plc), Rel I ι H w → ERel w I ι H E a → SrcN w I ι H sz (a.eval y) m rows2) (hrl2 : ∀ r ∈ rows2, r.length = sz) (hm : rows2.length = m) (hroom : c < n + m) (hk : n + m = k) (hbytes : (n + m) * bytes ≤ 140737488355328) (hid : H.get id2 = none)
    (hrows : ob.rows.take n ++ rows2 = rows') : OpD P N o E H (.osl id2 0 0 k) ((id2, ⟨0, sz, e, rows'⟩) :: H) := by
  intro a w I ι _ _ hr he K Q hkk
  have hmax := small_of hinf.2 hbytes
  obtain ⟨⟨i, z, hi, hz, hsize, hby, hzs, hsz0⟩, _⟩ := hinf
  subst hg hosz hk hrows
  have hml : n + m ≤ maxLen := by simp only [maxLen]; omega
  have hv := aeval_rel he hx
  obtain ⟨hzp, h1, hcase⟩ := osc_slice hv hH rfl
  have hT := hS.1
  have p2 := ((hr.obj id ob hH).cells hzp).2.1
  have hrl : ∀ r ∈ ob.rows.take n ++ rows2, r.length = ob.sz := fun r hr' => by
    rcases List.mem_append.1 hr' with h | h
    · exact p2 r (List.mem_of_mem_take h)
    · exact hrl2 r h
  have g1 : Heap.get ((id2, (⟨0, ob.sz, e, ob.rows.take n ++ rows2⟩ : Ob)) :: H) id2 = some ⟨0, ob.sz, e, ob.rows.take n ++ rows2⟩ := get_cons_same _ _ _
  have g2 : ∀ j, j ≠ id2 → Heap.get ((id2, (⟨0, ob.sz, e, ob.rows.take n ++ rows2⟩ : Ob)) :: H) j = H.get j := fun j hj => get_cons_other _ _ hj
  have hrln : (ob.rows.take n ++ rows2).length = n + m := by rw [List.length_append, List.length_take, hm]; omega
  have hge := grownCap_ge w (n + m) c e
  have hcm := grownCap_le_maxLen w (n + m) c e hml
  have hfin : ∀ (olds news : List Value), olds.length = n * ob.sz → LRel w I ι H ob.sz olds (ob.rows.take n) → news.length = m * ob.sz → LRel w I ι H ob.sz news rows2 →
      (Builtin.append_ #[T, T] o.type #[a.eval x, a.eval y]).run P w = .ok (.slice (some ⟨w.heap.size, 0, none⟩) (n + m) (grownCap w (n + m) c e)) (w.drew.alloc (.cells (olds.toArray ++ news.toArray ++ Builtin.zeroCells z.cells (grownCap w (n + m) c e - (n + m))) e)) → o.wp P a w K Q := by
    intro olds news q1 q2 q3 q4 hrun
    obtain ⟨k2, k3⟩ := Rel.place (H' := (id2, ⟨0, ob.sz, e, ob.rows.take n ++ rows2⟩) :: H) (id := id2) (cap := grownCap w (n + m) c e) (ob' := ⟨0, ob.sz, e, ob.rows.take n ++ rows2⟩)
      (cs' := olds.toArray ++ news.toArray ++ Builtin.zeroCells z.cells (grownCap w (n + m) c e - (n + m)))
      (w' := w.drew.alloc (.cells (olds.toArray ++ news.toArray ++ Builtin.zeroCells z.cells (grownCap w (n + m) c e - (n + m))) e)) hr rfl rfl rfl rfl
      (fun o' ho' => by rw [hid] at ho'; cases ho') hzp (by
        simp only [Array.size_append, List.size_toArray, size_zeroCells, hzs, q1, q3, ← Nat.add_mul]
        congr 1
        omega) (by rw [hrln]; exact hge) hcm hrl (fun i' r hi' k' a' hk' => by
          obtain ⟨u, t1, t2, t3⟩ := LRel.app (l3 := (Builtin.zeroCells z.cells (grownCap w (n + m) c e - (n + m))).toList) q2 (by rw [q1, List.length_take, Nat.min_eq_left hon]) q4 i' r hi' k' a' hk'
          refine ⟨u, ?_, t2, t3⟩
          rw [← Array.getElem?_toList]
          simpa [List.append_assoc] using t1) g1 g2
    unfold Oper.wp execOp
    simp only [ho, resolve, invoke, builtin, Sem.run_bind, Sem.run_pure, Result.andThen_ok, List.map_toArray, List.map_cons, List.map_nil, hrun]
    exact hkk _ _ I _ _ _ ⟨rfl, rfl⟩ (.osl _ g1 (Nat.le_refl _) rfl fun _ => ⟨hzp, by rw [hrln]; omega, .inl ⟨w.heap.size, _, 0, by simp; rfl, by simp, fun _ => by simp⟩⟩) k2 k3
  rcases hsrc a w I ι hr he with ⟨ad, c', news, s1, s2, s3, s4, s5, s6⟩ | ⟨s1, s2, s3⟩
  · have hnl : news.length = m * ob.sz := by rw [s3, hm]
    rcases hcase with ⟨b, oo, c1, c2, c3⟩ | ⟨c1, c2, c3, c4, c5⟩
    · have hoo : oo = 0 := by rw [c3 (.inr rfl)]; simp
      subst hoo
      have hsn := srcN_osc hr (show VRel w I ι H (.slice (some ⟨b, 0, none⟩) n c) (.osc id ob.g 0 n c) by rw [← c2]; exact hv) hH rfl rfl n (Nat.le_refl _) (by omega)
      rw [List.drop_zero] at hsn
      rcases hsn with ⟨ad0, c0, olds, t1, t2, t3, t4, t5, t6⟩ | ⟨t1, _⟩
      · injection t1 with q1 q2 q3
        injection q1 with q1
        subst q1
        have hol : olds.length = n * ob.sz := by rw [t3, List.length_take, Nat.min_eq_left hon]
        have hrun := run_append_grow (P := P) w T o.type e i z hT hi hz ⟨b, 0, none⟩ n c olds (by rw [hsize]; exact hol) t4 ad m c' news (by rw [hsize]; exact hnl) s4 (by omega) (by omega) (growslice_fits (by omega) (by rw [hby]; exact hbytes))
        exact hfin olds news hol t6 hnl s6 (by rw [c2, s1]; exact hrun)
      · cases t1
    · subst c4 c5
      have hrun := run_append_nil (P := P) w T o.type e i z hT hi hz ad m c' news (by rw [hsize]; exact hnl) s4 (by omega) (by omega) (by rw [hby]; rw [Nat.zero_add] at hbytes; omega)
      refine hfin [] news (by simp) (by intro i r hi'; simp at hi') hnl s6 ?_
      rw [c2, s1, hrun]
      simp
  · omega

theorem run_append_grow_zeros {w : World} (t tn ty e : TypeId) (i : TypeInfo) (z : Value) (k kn : IntKind) (ht : P.underlying t = some (.slice e)) (htn : P.underlying tn = some (.int kn)) (hi : P.info? e = some i) (hz : i.zero = some z)
    (b : Option Addr) (sLen sCap : Nat) (olds : List Value) (hf : ∀ w : World, (∀ a : Addr, w.cell? a = w.cell? a) → True) (hfo : (Builtin.firstCells i.size sLen (.slice b sLen sCap)).run P w.drew = .ok olds.toArray w.drew)
    (n : Nat) (h0 : 0 < n) (hs : 0 < i.size) (hg : sCap < sLen + n) (h63 : ((sLen + n : Nat) : Int) ≤ 9223372036854775807) (hfit : Builtin.nextslicecap (sLen + n) sCap * i.bytes ≤ 281474976710656) (h48 : n * i.bytes ≤ 281474976710656) :
    (Builtin.append_ #[t, tn] ty #[.slice b sLen sCap, .int k n]).run P w =
      .ok (.slice (some ⟨w.heap.size, 0, none⟩) (sLen + n) (grownCap w (sLen + n) sCap e))
        (w.drew.alloc (.cells (olds.toArray ++ Builtin.zeroCells z.cells n ++ Builtin.zeroCells z.cells (grownCap w (sLen + n) sCap e - (sLen + n))) e)) := by
  have hn : ¬ (sLen + n ≤ sCap) := by omega
  have hw : IntKind.i64.wrap (n : Int) = n := by rw [IntKind.wrap_i64]; omega
  have h63' : ¬ (9223372036854775807 < ((sLen : Int) + (n : Int))) := by omega
  have h48' : ¬ (281474976710656 < Builtin.nextslicecap (sLen + n) sCap * i.bytes) := by omega
  have h48i : ¬ (281474976710656 < (n : Int) * (i.bytes : Int)) := by
    rw [← Int.natCast_mul]
    omega
  have hneg : ¬ ((n : Int) < 0) := by omega
  have hn0 : n ≠ 0 := by omega
  have hns : ¬ (n * i.size = 0) := Nat.mul_ne_zero hn0 (by omega)
  simp [Builtin.append_, run_underlying ht, run_underlying htn, sizeOf, typeInfo, zeroValue, hi, hz, asInt, asIntOf, hw, hn, hn0, hneg, hns, h63', h48', h48i, Question.forced, hfo, newRow, grownCap]

theorem zeros_rel {w : World} {I : Nat → Prop} {ι : Plc} {H : Heap} {z : Value} {sz : Nat} {row : List AV} (hcr : CRel w I ι H z.cells row) (hrow : row.length = sz) (hzs : z.cells.size = sz) (hsz : 0 < sz) (n : Nat) :
    (Builtin.zeroCells z.cells n).toList.length = n * sz ∧ (∀ u ∈ (Builtin.zeroCells z.cells n).toList, u.oneCell' = true) ∧ LRel w I ι H sz (Builtin.zeroCells z.cells n).toList (List.replicate n row) := by
  have hget : ∀ j, j < n * sz → ∃ hk : j % sz < z.cells.size, (Builtin.zeroCells z.cells n).toList[j]? = some (z.cells[j % sz]) := by
    intro j hj
    have hk : j % sz < z.cells.size := by rw [hzs]; exact Nat.mod_lt _ hsz
    refine ⟨hk, ?_⟩
    rw [Array.getElem?_toList]
    simp only [Builtin.zeroCells, Array.getElem?_map]
    rw [Array.getElem?_range, hzs, if_pos hj]
    simp only [Option.map_some]
    rw [getElem!_pos z.cells (j % sz) hk]
  have hzl : (Builtin.zeroCells z.cells n).toList.length = n * sz := by rw [Array.length_toList, size_zeroCells, hzs]
  refine ⟨hzl, ?_, ?_⟩
  · intro u hu
    obtain ⟨j, hj⟩ := List.mem_iff_getElem?.1 hu
    have hjl : j < n * sz := by
      have := (List.getElem?_eq_some_iff.1 hj).1
      rw [hzl] at this; exact this
    obtain ⟨hk, e⟩ := hget j hjl
    rw [e] at hj; cases hj
    have hkr : j % sz < row.length := by rw [hrow]; exact Nat.mod_lt _ hsz
    obtain ⟨u, q1, q2, _⟩ := hcr.2 _ _ (List.getElem?_eq_getElem hkr)
    rw [Array.getElem?_eq_getElem hk] at q1
    cases q1
    exact q2
  · intro i r hi k av hk
    rw [List.getElem?_replicate] at hi
    split at hi
    · cases hi
      rename_i hlt
      have hks : k < sz := by rw [← hrow]; exact (List.getElem?_eq_some_iff.1 hk).1
      have hfit : i * sz + k < n * sz := by
        have : (i + 1) * sz ≤ n * sz := Nat.mul_le_mul_right _ hlt
        rw [Nat.add_mul] at this; omega
      obtain ⟨hk2, e⟩ := hget _ hfit
      obtain ⟨u, q1, q2, q3⟩ := hcr.2 k av hk
      refine ⟨u, ?_, q2, q3⟩
      rw [e]
      rw [Array.getElem?_eq_getElem (by rw [hzs]; exact hks)] at q1
      cases q1
      congr 2
      exact idx_mod hks
    · cases hi

/-- append(s, make(S, n)...) beyond the capacity: a new object. -/
theorem x_append_zeros {tn e : TypeId} {id g n c m k sz bytes id2 : Nat} {kk kn : IntKind} {q : Int} {ob : Ob} {row : List AV} {rows' : List (List AV)} (ho : o.op = .call { callee := .builtin .append, args := #[x, y], argTypes := #[T, tn] }) (hS : SliceOf P T e sz) (htn : P.underlying tn = some (.int kn)) (hinf : EI P e sz bytes) (hZ : ZeroOf P e row) (hrow : row.length = sz)
    (hx : aeval E x = some (.osc id g 0 n c)) (hH : H.get id = some ob) (hg : ob.g = g) (hosz : ob.sz = sz) (hon : n ≤ ob.rows.length)
    (hy : aeval E y = some (.pv (.int kk q))) (hq : q = (m : Int)) (hm0 : 0 < m) (hroom : c < n + m) (hk : n + m = k) (hbytes : (n + m) * bytes ≤ 140737488355328) (hid : H.get id2 = none)
    (hrows : ob.rows.take n ++ List.replicate m row = rows') : OpD P N o E H (.osl id2 0 0 k) ((id2, ⟨0, sz, e, rows'⟩) :: H) := by
  intro a w I ι _ _ hr he K Q hkk
  have hmax := small_of hinf.2 hbytes
  obtain ⟨⟨i, z, hi, hz, hsize, hby, hzs, hsz0⟩, _⟩ := hinf
  obtain ⟨z', zv, z1, z2, z3⟩ := hZ
  have ezz : z' = z := by
    have := z1 w
    simp [zeroValue, typeInfo, hi, hz] at this
    exact this.symm
  subst ezz hg hosz hk hrows hq
  have hml : n + m ≤ maxLen := by simp only [maxLen]; omega
  have hv := aeval_rel he hx
  have hvy := (aeval_rel he hy).int_inv
  obtain ⟨hzp, h1, hcase⟩ := osc_slice hv hH rfl
  have hT := hS.1
  have p2 := ((hr.obj id ob hH).cells hzp).2.1
  have hcr := CRel.of_cells (ZV.rel (w := w) (I := I) (ι := ι) (H := H) z2) z3
  obtain ⟨zl, _, zr⟩ := zeros_rel hcr hrow hzs hzp m
  have hrl : ∀ r ∈ ob.rows.take n ++ List.replicate m row, r.length = ob.sz := fun r hr' => by
    rcases List.mem_append.1 hr' with h | h
    · exact p2 r (List.mem_of_mem_take h)
    · rw [(List.mem_replicate.1 h).2]; exact hrow
  have g1 : Heap.get ((id2, (⟨0, ob.sz, e, ob.rows.take n ++ List.replicate m row⟩ : Ob)) :: H) id2 = some ⟨0, ob.sz, e, ob.rows.take n ++ List.replicate m row⟩ := get_cons_same _ _ _
  have g2 : ∀ j, j ≠ id2 → Heap.get ((id2, (⟨0, ob.sz, e, ob.rows.take n ++ List.replicate m row⟩ : Ob)) :: H) j = H.get j := fun j hj => get_cons_other _ _ hj
  have hrln : (ob.rows.take n ++ List.replicate m row).length = n + m := by rw [List.length_append, List.length_take, List.length_replicate]; omega
  have hge := grownCap_ge w (n + m) c e
  have hcm := grownCap_le_maxLen w (n + m) c e hml
  have hfin : ∀ (olds : List Value), olds.length = n * ob.sz → LRel w I ι H ob.sz olds (ob.rows.take n) →
      (Builtin.append_ #[T, tn] o.type #[a.eval x, a.eval y]).run P w = .ok (.slice (some ⟨w.heap.size, 0, none⟩) (n + m) (grownCap w (n + m) c e)) (w.drew.alloc (.cells (olds.toArray ++ Builtin.zeroCells z'.cells m ++ Builtin.zeroCells z'.cells (grownCap w (n + m) c e - (n + m))) e)) → o.wp P a w K Q := by
    intro olds q1 q2 hrun
    obtain ⟨k2, k3⟩ := Rel.place (H' := (id2, ⟨0, ob.sz, e, ob.rows.take n ++ List.replicate m row⟩) :: H) (id := id2) (cap := grownCap w (n + m) c e) (ob' := ⟨0, ob.sz, e, ob.rows.take n ++ List.replicate m row⟩)
      (cs' := olds.toArray ++ Builtin.zeroCells z'.cells m ++ Builtin.zeroCells z'.cells (grownCap w (n + m) c e - (n + m)))
      (w' := w.drew.alloc (.cells (olds.toArray ++ Builtin.zeroCells z'.cells m ++ Builtin.zeroCells z'.cells (grownCap w (n + m) c e - (n + m))) e)) hr rfl rfl rfl rfl
      (fun o' ho' => by rw [hid] at ho'; cases ho') hzp (by
        simp only [Array.size_append, List.size_toArray, size_zeroCells, hzs, q1, ← Nat.add_mul]
        congr 1
        omega) (by rw [hrln]; exact hge) hcm hrl (fun i' r hi' k' a' hk' => by
          obtain ⟨u, t1, t2, t3⟩ := LRel.app (l3 := (Builtin.zeroCells z'.cells (grownCap w (n + m) c e - (n + m))).toList) q2 (by rw [q1, List.length_take, Nat.min_eq_left hon]) zr i' r hi' k' a' hk'
          refine ⟨u, ?_, t2, t3⟩
          rw [← Array.getElem?_toList]
          simpa [List.append_assoc] using t1) g1 g2
    unfold Oper.wp execOp
    simp only [ho, resolve, invoke, builtin, Sem.run_bind, Sem.run_pure, Result.andThen_ok, List.map_toArray, List.map_cons, List.map_nil, hrun]
    exact hkk _ _ I _ _ _ ⟨rfl, rfl⟩ (.osl _ g1 (Nat.le_refl _) rfl fun _ => ⟨hzp, by rw [hrln]; omega, .inl ⟨w.heap.size, _, 0, by simp; rfl, by simp, fun _ => by simp⟩⟩) k2 k3
  have hfit : Builtin.nextslicecap (n + m) c * i.bytes ≤ 281474976710656 := growslice_fits (by omega) (by rw [hby]; exact hbytes)
  have hm48 : m * i.bytes ≤ 281474976710656 := by
    have : m * i.bytes ≤ (n + m) * i.bytes := Nat.mul_le_mul_right _ (by omega)
    rw [hby] at this ⊢; omega
  rcases hcase with ⟨b, oo, c1, c2, c3⟩ | ⟨c1, c2, c3, c4, c5⟩
  · have hoo : oo = 0 := by rw [c3 (.inr rfl)]; simp
    subst hoo
    have hsn := srcN_osc hr (show VRel w I ι H (.slice (some ⟨b, 0, none⟩) n c) (.osc id ob.g 0 n c) by rw [← c2]; exact hv) hH rfl rfl n (Nat.le_refl _) (by omega)
    rw [List.drop_zero] at hsn
    rcases hsn with ⟨ad0, c0, olds, t1, t2, t3, t4, t5, t6⟩ | ⟨t1, _⟩
    · injection t1 with q1 q2 q3
      injection q1 with q1
      subst q1
      have hol : olds.length = n * ob.sz := by rw [t3, List.length_take, Nat.min_eq_left hon]
      have hfo := run_firstCells_some (P := P) w.drew i.size n ⟨b, 0, none⟩ n c olds (by rw [hsize]; exact hol) (by simpa using t4)
      have hrun := run_append_grow_zeros (P := P) (w := w) T tn o.type e i z' kk kn hT htn hi hz (some ⟨b, 0, none⟩) n c olds (fun _ _ => trivial) hfo m hm0 (by rw [hsize]; exact hzp) (by omega) (by omega) hfit hm48
      exact hfin olds hol t6 (by rw [c2, hvy]; exact hrun)
    · cases t1
  · subst c4 c5
    have hfo := run_firstCells_none (P := P) (w := w.drew) i.size 0 0 0
    have hrun := run_append_grow_zeros (P := P) (w := w) T tn o.type e i z' kk kn hT htn hi hz none 0 0 [] (fun _ _ => trivial) hfo m hm0 (by rw [hsize]; exact hzp) (by omega) (by omega) hfit hm48
    exact hfin [] (by simp) (by intro i r hi'; simp at hi') (by rw [c2, hvy]; exact hrun)

/-- An entry of the model that looks at what its arguments lead to. -/
def ExtRR (P : Program) (e : Array Value → Sem Value) (H : Heap) (vs : List AV) (r : AV) : Prop :=
  ∀ (w : World) (I : Nat → Prop) (ι : Plc) (cs : Array Value), Rel I ι H w → cs.size = vs.length → (∀ (i : Nat) (v : Value) (a : AV), cs[i]? = some v → vs[i]? = some a → VRel w I ι H v a) → ∃ c, (e cs).run P w = .ok c w ∧ VRel w I ι H c r
theorem opd_extr {f : Operand} {args : Array Operand} {at_ : Array TypeId} {F : FuncId} {fn : Func} {e : Array Value → Sem Value} {vs : List AV} {r : AV} (ho : o.op = .call { callee := .value f, args := args, argTypes := at_ }) (hf : aeval E f = some (.pv (.fn F))) (hF : P.funcs[F]? = some fn) (hname : (fn.name == "runtime.NumGoroutine") = false)
    (hb : fn.body.isNone = true) (hn : Extern.findNext fn = none) (he : Extern.find fn = some e) (hv : aargs E args.toList = some vs) (h : ExtRR P e H vs r) : OpD P N o E H r H :=
  .of_run fun a w I ι hr hE => by
    have hfv := (aeval_rel hE hf).fn_inv
    obtain ⟨h1, h2⟩ := mapM_aeval hE (aargs_mapM hv)
    obtain ⟨c, hc, hcr⟩ := h w I ι (args.map a.eval) hr (by simpa using h1) (fun i v b hv hb => h2 i v b (by simpa using hv) hb)
    refine ⟨c, ?_, hcr⟩
    unfold execOp
    simp only [ho, resolve, hfv, Deferred.ofValue, Sem.run_bind, Sem.run_pure, Result.andThen_ok, invoke, Array.empty_append, Array.append_empty, run_callFunc_extern hF hname hb hn he, hc]
/-- Two objects of one's own do not overlap. -/
theorem ext_overlaps {tS tR e : TypeId} {sz id1 g1 off1 n1 id2 g2 off2 n2 c2 : Nat} {o1 o2 : Ob} (hS : SliceOf P tS e sz) (h1 : H.get id1 = some o1) (hg1 : o1.g = g1) (h2 : H.get id2 = some o2) (hg2 : o2.g = g2) (hne : Nat.beq id1 id2 = false) (hp1 : 0 < n1) (hpos : 0 < n2 + c2) :
    ExtRR P (Extern.SlicesOverlaps.overlaps #[tS, tS] #[tR]) H [.osl id1 g1 off1 n1, .osc id2 g2 off2 n2 c2] (.pv (.bool false)) := by
  intro w I ι cs hr hl h
  obtain ⟨u, v, rfl, k1, k2⟩ := two_vals hl h
  refine ⟨.bool false, ?_, .pv (.bool false)⟩
  have hid : id1 ≠ id2 := fun e => by subst e; rw [beq_self] at hne; cases hne
  obtain ⟨_, hc1⟩ := osl_slice k1 h1 hg1
  obtain ⟨z2, l2, hc2⟩ := osc_slice k2 h2 hg2
  have z1 := osl_sz k1 h1 hg1
  rcases hc1 with ⟨b1, cap1, oo1, a1, a2, a3⟩ | ⟨a1, a2, _, _⟩
  · rcases hc2 with ⟨b2, oo2, d1, d2, d3⟩ | ⟨d1, d2, d3, d4, d5⟩
    · have hbb : b1 ≠ b2 := fun e => hid (hr.inj id1 id2 o1 o2 b1 cap1 (off2 + c2) h1 h2 a1 (by rw [e]; exact d1))
      obtain ⟨_, _, ⟨b', cap', cs1, e1, e2, e3, e4, _⟩ | ⟨e1, _⟩⟩ := (hr.obj id1 o1 h1).cells z1
      · rw [a1] at e1; cases e1
        obtain ⟨_, _, ⟨b'', cap'', cs2, f1, f2, f3, f4, _⟩ | ⟨f1, _⟩⟩ := (hr.obj id2 o2 h2).cells z2
        · rw [d1] at f1; cases f1
          rw [a2, d2]
          refine Lib.run_overlaps_apart (P := P) w tS tR e hS.1 sz hS.2.1 ⟨b1, oo1, none⟩ ⟨b2, oo2, none⟩ n1 _ n2 c2 hbb o1.ty o2.ty cs1.size cs2.size ?_ ?_ ?_ ?_ ?_
          · simp [World.shape?, e2]
          · simp [World.shape?, f2]
          · rw [f4]
            have : 0 < (off2 + c2) * o2.sz := Nat.mul_pos (by omega) z2
            omega
          · simp [World.frozen?, e2]
          · simp [World.frozen?, e2]
        · rw [d1] at f1; cases f1
      · rw [a1] at e1; cases e1
    · omega
  · omega

end
end Go.Abs
end
section
set_option linter.unusedVariables false
set_option linter.unusedSimpArgs false
namespace Go.Abs
section
variable {P : Program}
def gone (ob : Ob) : Ob := ⟨ob.g + 1, ob.sz, ob.ty, []⟩
def away (ι : Plc) (id : Nat) : Plc := fun x => if x = id then none else ι x
end
end Go.Abs
end
section
set_option linter.unusedVariables false
set_option linter.unusedSimpArgs false
namespace Go.Abs
section
variable {P : Program} {N : Nat} {o : Oper} {E : Env} {H : Heap} {T t t' : TypeId} {x y : Operand}
theorem run_eql_sl {e : TypeId} (w : World) (h : P.underlying t = some (.slice e)) (a : Option Addr) (n c n' c' : Nat) : (binOp .eql t (.slice a n c) (.slice none n' c')).run P w = .ok (.bool a.isNone) w := by
  simp only [binOp]
  cases a <;> simp [Op.equal, Op.maxDepth, Lib.run_equalIn_slice_nil w 9999 t e _ n c n' c' h]
/-- An empty slice that is read: it may be nil, or not. -/
theorem opr_sl_nil {e : TypeId} {rows : List (List PV)} (ho : o.op = .binOp .eql t x (.const (.slice none 0 0)) t') (ht : P.underlying t = some (.slice e)) (hx : aeval E x = some (.pv (.sl rows))) : OpR P N o E H (fun r H' => H' = H ∧ ∃ b, r = .pv (.bool b) ∧ (b = true → rows = [])) := by
  intro a w I ι _ _ hr he K Q hk
  have hv := (aeval_rel he hx).pv_inv
  have e2 : a.eval (.const (.slice none 0 0)) = .slice none 0 0 := rfl
  obtain ⟨b, n, c, e1, h1⟩ : ∃ (b : Option Addr) (n c : Nat), a.eval x = .slice b n c ∧ (b.isNone = true → rows = []) := by
    generalize a.eval x = v at hv
    cases hv with
    | nilsl => exact ⟨none, 0, 0, rfl, fun _ => rfl⟩
    | empsl a => exact ⟨some a, 0, 0, rfl, fun h => by cases h⟩
    | sl b off cap sz _ cs h1 h2 h3 h4 h5 h6 => exact ⟨_, _, cap, rfl, fun h => by cases h⟩
  unfold Oper.wp
  have hrun : (execOp a.eval o).run P w = .ok (.value (.bool b.isNone)) w := by
    simp only [execOp, ho, e1, e2, eqGuard_at_slice, Sem.run_bind, Sem.run_pure, Result.andThen_ok, run_eql_sl _ ht]
  rw [hrun]
  exact hk _ _ I ι _ _ ⟨rfl, _, rfl, h1⟩ (.pv (.bool _)) hr (Step.refl _ _ _ _)

/-! ### where a copy comes from, and where it goes -/
def SrcOk (E : Env) (H : Heap) (sz : Nat) (y : Operand) (len : Nat) (rows : List (List AV)) : Prop :=
  ∀ (a : Act) (w : World) (I : Nat → Prop) (ι : Plc), Rel I ι H w → ERel w I ι H E a → SrcN w I ι H sz (a.eval y) len rows
def DstOk (E : Env) (H : Heap) (x : Operand) (id g off len : Nat) : Prop :=
  ∀ (a : Act) (w : World) (I : Nat → Prop) (ι : Plc), Rel I ι H w → ERel w I ι H E a → ∃ c, VRel w I ι H (a.eval x) (.osc id g off len c)
theorem src_of_osl {sz id g off len k : Nat} {ob : Ob} {rows : List (List AV)} (hy : aeval E y = some (.osl id g off len)) (hH : H.get id = some ob) (hg : ob.g = g) (hsz : ob.sz = sz) (hk : k ≤ len) (hr : (ob.rows.drop off).take k = rows) : SrcOk E H sz y len rows := by
  subst hr
  exact fun a w I ι hr he => srcN_osl hr (aeval_rel he hy) hH hg hsz k hk
theorem src_of_osc {sz id g off len c k : Nat} {ob : Ob} {rows : List (List AV)} (hy : aeval E y = some (.osc id g off len c)) (hH : H.get id = some ob) (hg : ob.g = g) (hsz : ob.sz = sz) (hk : k ≤ len) (hk2 : off + k ≤ ob.rows.length) (hr : (ob.rows.drop off).take k = rows) : SrcOk E H sz y len rows := by
  subst hr
  exact fun a w I ι hr he => srcN_osc hr (aeval_rel he hy) hH hg hsz k hk hk2
theorem dst_of_osl {id g off len : Nat} {ob : Ob} (hx : aeval E x = some (.osl id g off len)) (hH : H.get id = some ob) (hg : ob.g = g) : DstOk E H x id g off len := fun a w I ι hr he =>
  let ⟨c, _, _, h⟩ := osl_osc hr (aeval_rel he hx) hH hg
  ⟨c, h⟩
theorem dst_of_osc {id g off len c : Nat} (hx : aeval E x = some (.osc id g off len c)) : DstOk E H x id g off len := fun a w I ι hr he => ⟨c, aeval_rel he hx⟩
theorem x_copy {D S e : TypeId} {id g off len len2 n sz : Nat} {ob : Ob} {rows2 rows' : List (List AV)} (ho : o.op = .call { callee := .builtin .copy, args := #[x, y], argTypes := #[D, S] }) (hS : SliceOf P D e sz)
    (hd : DstOk E H x id g off len) (hH : H.get id = some ob) (hg : ob.g = g) (hsz : ob.sz = sz) (hoff : off ≤ ob.rows.length)
    (hsrc : SrcOk E H sz y len2 rows2) (hrl2 : ∀ r ∈ rows2, r.length = sz) (hn : rows2.length = n) (hmin : min len2 len = n)
    (hrows : ob.rows.take off ++ (rows2 ++ ob.rows.drop (off + n)) = rows') : OpD P N o E H (.pv (.int .i64 n)) ((id, ⟨g, sz, ob.ty, rows'⟩) :: H) := by
  subst hrows
  exact opd_copy ho hS hd hH hg hsz hoff hsrc hrl2 hn hmin (fun j => set_cons _ _ _ j)
end

/-! ### the end of an owned slice -/
def goneK (ob : Ob) (k : Nat) : Ob := ⟨k, ob.sz, ob.ty, []⟩
theorem Step.deadK {w : World} {I : Nat → Prop} {ι : Plc} {H : Heap} {id k : Nat} {ob : Ob} (hH : H.get id = some ob) (hk : ob.g < k) : Step I ι H w (ImmPlus I ι id) (away ι id) ((id, goneK ob k) :: H) w where
  os := rfl
  tape := rfl
  output := rfl
  size := Nat.le_refl _
  froz := fun _ _ => rfl
  imm := fun _ h => .inl h
  immNew := fun b hb => by
    rcases hb with hb | ⟨cap, hb⟩
    · exact .inl hb
    · exact .inr (.inl ⟨id, ob, cap, hH, hb⟩)
  own := fun b hb => by
    obtain ⟨j, o, cap, hj, hi⟩ := hb
    by_cases e : j = id
    · rw [away, if_pos e] at hi; cases hi
    · rw [away, if_neg e] at hi
      rw [get_cons_other _ _ e] at hj
      exact .inl ⟨j, o, cap, hj, hi⟩
  keep := fun _ _ _ => rfl
  objs := fun j o hj => by
    by_cases e : j = id
    · subst e
      rw [hH] at hj; cases hj
      exact ⟨goneK ob k, get_cons_same _ _ _, Nat.le_of_lt hk, fun h => absurd h (by simp only [goneK]; omega)⟩
    · exact ⟨o, by rw [get_cons_other _ _ e]; exact hj, Nat.le_refl _, fun _ => ⟨if_neg e, rfl, fun _ => Nat.le_refl _⟩⟩
theorem Rel.deadK {w : World} {I : Nat → Prop} {ι : Plc} {H : Heap} {id k : Nat} {ob : Ob} (hr : Rel I ι H w) (hH : H.get id = some ob) (hk : ob.g < k) (hsz : 0 < ob.sz) : Rel (ImmPlus I ι id) (away ι id) ((id, goneK ob k) :: H) w := by
  have hst := Step.deadK (w := w) (I := I) (ι := ι) hH hk
  refine ⟨fun b hb => ?_, fun j o hj => ?_, fun j j' o o' b c c' hj hj' hi hi' => ?_⟩
  · rcases hb with hb | ⟨cap, hb⟩
    · exact hr.imm b hb
    · exact hr.lt ⟨id, ob, cap, hH, hb⟩
  · by_cases e : j = id
    · subst e
      rw [get_cons_same] at hj; cases hj
      exact .inl ⟨hsz, by simp [goneK], .inr ⟨if_pos rfl, rfl⟩⟩
    · rw [get_cons_other _ _ e] at hj
      refine (hr.obj j o hj).keep (if_neg e) (fun b cap e1 _ => ⟨rfl, fun h => ?_⟩) (fun r _ a _ v hv => hv.mono hr hst)
      rintro (hb | ⟨cap', hb⟩)
      · exact h hb
      · exact e (hr.inj j id o ob b cap cap' hj hH e1 hb)
  · have n1 : j ≠ id := fun e => by rw [away, if_pos e] at hi; cases hi
    have n2 : j' ≠ id := fun e => by rw [away, if_pos e] at hi'; cases hi'
    rw [away, if_neg n1] at hi
    rw [away, if_neg n2] at hi'
    rw [get_cons_other _ _ n1] at hj
    rw [get_cons_other _ _ n2] at hj'
    exact hr.inj j j' o o' b c c' hj hj' hi hi'
/-- An owned slice is returned for good. -/
theorem Fin.deadS {G0 H : Heap} {id k g off n sz ty : Nat} {ob : Ob} {qs : List (List PV)} (ps : List (List PV)) (hH : H.get id = some ob) (hg : ob.g = g) (hk : g < k) (hsz : 0 < ob.sz) (hs : ob.sz = sz) (ht : ob.ty = ty) (hps : ob.rows = ps.map (·.map .pv)) (hq : (ps.take (off + n)).drop off = qs) :
    Fin G0 H (.osl id g off n) ((id, ⟨k, sz, ty, []⟩) :: H) (.pv (.sl qs)) := by
  intro G hG I ι w v h1 h2 h3
  subst hg hq hs ht
  exact ⟨_, _, h1.deadK hH hk hsz, h2.trans (Step.deadK hH hk), .pv (freeze_prep h1 hH hps h3)⟩
/-- An owned slice ends; the result is another one. -/
theorem Fin.deadO {G0 H : Heap} {r : AV} {id k sz ty : Nat} {ob : Ob} (hH : H.get id = some ob) (hk : ob.g < k) (hsz : 0 < ob.sz) (hs : ob.sz = sz) (ht : ob.ty = ty) : Fin G0 H r ((id, ⟨k, sz, ty, []⟩) :: H) r := by
  intro G hG I ι w v h1 h2 h3
  subst hs ht
  exact ⟨_, _, h1.deadK hH hk hsz, h2.trans (Step.deadK hH hk), h3.mono h1 (Step.deadK hH hk)⟩
/-- An owned slice under another generation. -/
theorem Fin.bump {G0 H : Heap} {id k g off n sz ty : Nat} {ob : Ob} {rows : List (List AV)} (hH : H.get id = some ob) (hg : ob.g = g) (hk : g < k) (hs : ob.sz = sz) (ht : ob.ty = ty) (hr : ob.rows = rows) : Fin G0 H (.osl id g off n) ((id, ⟨k, sz, ty, rows⟩) :: H) (.osl id k off n) := by
  intro G hG I ι w v h1 h2 h3
  subst hg hs ht hr
  obtain ⟨k2, k3⟩ := Rel.tick (H' := (id, ⟨k, ob.sz, ob.ty, ob.rows⟩) :: H) (ob' := ⟨k, ob.sz, ob.ty, ob.rows⟩) h1 hH hk rfl rfl rfl (get_cons_same _ _ _) (fun j hj => get_cons_other _ _ hj)
  refine ⟨I, ι, k2, h2.trans k3, ?_⟩
  obtain ⟨q1, q2⟩ := osl_slice h3 hH rfl
  have hz := osl_sz h3 hH rfl
  have hone : v.oneCell' = true := by
    rcases q2 with ⟨b, cap, oo, _, e, _⟩ | ⟨_, e, _⟩ <;> subst e <;> rfl
  exact .osl _ (get_cons_same _ _ _) (Nat.le_refl _) hone fun _ => ⟨hz, q1, q2⟩
end Go.Abs
end
section
set_option linter.unusedVariables false
set_option linter.unusedSimpArgs false
set_option maxRecDepth 100000
namespace Go.Proofs.Ytdcifaldfmpapaa
open Go.Abs
/-- Go's strings.Compare. -/
def gCmp (a b : ByteArray) : Int := if slt a b then -1 else if slt b a then 1 else 0
theorem compareBytes_eq : ∀ (x y : List UInt8), Lib.compareBytes x y = if x < y then -1 else if y < x then 1 else 0
  | [], [] => by simp [Lib.compareBytes]
  | [], b :: y => by simp [Lib.compareBytes]
  | a :: x, [] => by simp [Lib.compareBytes]
  | a :: x, b :: y => by
    have ih := compareBytes_eq x y
    simp only [Lib.compareBytes, List.cons_lt_cons_iff]
    by_cases h1 : a < b
    · simp [h1]
    · by_cases h2 : b < a
      · have hne : ¬ a = b := fun e => by subst e; exact h1 h2
        simp [h1, h2, hne]
      · have e : a = b := UInt8.le_antisymm (UInt8.not_lt.1 h2) (UInt8.not_lt.1 h1)
        subst e
        simp [ih]
theorem slt_dat (a b : ByteArray) : slt a b = decide (a.data.toList < b.data.toList) := by
  unfold slt
  rw [bytesLess_eq, ByteArray.toList_eq, ByteArray.toList_eq]
theorem gCmp_eq (a b : ByteArray) : Lib.compareBytes a.data.toList b.data.toList = gCmp a b := by
  rw [compareBytes_eq, gCmp, slt_dat, slt_dat]
  simp only [decide_eq_true_eq]
theorem compare_c (a b : ByteArray) (H : Heap) : ACalls Try.prog 54 [sv a, sv b] H (fun r H' => r = iv (gCmp a b) ∧ H' = H) := by
  have hx : ∀ H, ACalls Try.prog 92 [sv a, sv b] H (fun r H' => r = iv (gCmp a b) ∧ H' = H) := fun H => by
    refine ACalls.pure ?_ (by simp) H
    have he : ∀ H, ExtR Try.prog Extern.BytealgCompare.compare H [sv a, sv b] (iv (gCmp a b)) := fun H => by
      have := ext_compare (P := Try.prog) (H := H) a b
      rwa [gCmp_eq] at this
    refine ACalls.body Try.func92 rfl Try.ntmps92 (Nat.le_of_ble_eq_true rfl) ?_
    refine awp_seq ?_
    refine awp_region ?_
    refine al_d rfl rfl rfl (by exact opd_assign rfl rfl) ?_
    refine al_nil ?_
    refine awp_seq ?_
    refine awp_region ?_
    refine al_d rfl rfl rfl (by exact opd_move rfl rfl) ?_
    refine al_d rfl rfl rfl (by exact opd_move rfl rfl) ?_
    refine al_d rfl rfl rfl (by exact opd_ext rfl rfl Try.func114 rfl rfl rfl rfl rfl (he _)) ?_
    refine al_d rfl rfl rfl (by exact opd_assign rfl rfl) ?_
    refine al_nil ?_
    refine awp_ret ?_
    -- return
    refine aret1 (H' := []) (by first | exact .inr rfl | exact .inl rfl) rfl (rval_tmp rfl) (Fin.wk (by simp) trivial trivial) ?_
    exact ⟨rfl, rfl⟩
  refine ACalls.pure ?_ (by simp) H
  refine ACalls.body Try.func54 rfl Try.ntmps54 (Nat.le_of_ble_eq_true rfl) ?_
  refine awp_seq ?_
  refine awp_region ?_
  refine al_d rfl rfl rfl (by exact opd_assign rfl rfl) ?_
  refine al_nil ?_
  refine awp_seq ?_
  refine awp_region ?_
  refine al_d rfl rfl rfl (by exact opd_move rfl rfl) ?_
  refine al_d rfl rfl rfl (by exact opd_move rfl rfl) ?_
  refine al_d rfl rfl rfl (by exact opr_call rfl rfl Try.call92 rfl (hx _)) ?_
  refine al_d rfl rfl rfl (by exact opd_assign rfl rfl) ?_
  refine al_nil ?_
  refine awp_ret ?_
  -- return
  refine aret1 (H' := []) (by first | exact .inr rfl | exact .inl rfl) rfl (rval_tmp rfl) (Fin.wk (by simp) trivial trivial) ?_
  exact ⟨rfl, rfl⟩
theorem gCmp_lt (a b : ByteArray) : decide (gCmp a b < 0) = slt a b := by
  unfold gCmp
  cases h1 : slt a b with
  | true => simp
  | false => cases h2 : slt b a <;> simp
theorem gCmp_zero (a b : ByteArray) : decide (gCmp a b = 0) = decide (a = b) := by
  unfold gCmp
  cases h1 : slt a b with
  | true =>
    have : ¬ a = b := fun e => by subst e; rw [slt_irr] at h1; cases h1
    simp [this]
  | false =>
    cases h2 : slt b a with
    | true =>
      have : ¬ a = b := fun e => by subst e; rw [slt_irr] at h2; cases h2
      simp [this]
    | false => simp [slt_tri h1 h2]
/-- Where a key stands, or would stand. -/
def lbI {α : Type} (f : α → ByteArray) (l : List α) (s : ByteArray) : Nat := l.findIdx (fun o => !slt (f o) s)
def hasK {α : Type} (f : α → ByteArray) (l : List α) (s : ByteArray) : Bool := l.any (fun o => decide (f o = s))
def asc {α : Type} (f : α → ByteArray) (l : List α) : Prop := l.Pairwise (fun a b => slt (f a) (f b) = true)
theorem asc_get {α : Type} {f : α → ByteArray} {l : List α} (h : asc f l) {i j : Nat} {a b : α} (hij : i < j) (ha : l[i]? = some a) (hb : l[j]? = some b) : slt (f a) (f b) = true := by
  obtain ⟨i1, i2⟩ := List.getElem?_eq_some_iff.1 ha
  obtain ⟨j1, j2⟩ := List.getElem?_eq_some_iff.1 hb
  have := List.pairwise_iff_getElem.1 h i j i1 j1 hij
  rwa [i2, j2] at this
theorem lbI_of {α : Type} {f : α → ByteArray} {l : List α} {s : ByteArray} {i : Nat} (hi : i ≤ l.length) (h1 : ∀ k, k < i → ∀ o, l[k]? = some o → slt (f o) s = true) (h2 : ∀ o, l[i]? = some o → slt (f o) s = false) : lbI f l s = i := by
  unfold lbI
  by_cases e : i < l.length
  · rw [List.findIdx_eq e]
    refine ⟨by simp [h2 _ (List.getElem?_eq_getElem e)], fun j hj => ?_⟩
    simp [h1 j hj _ (List.getElem?_eq_getElem (by omega))]
  · have e2 : i = l.length := by omega
    rw [e2]
    refine List.findIdx_eq_length.2 fun o ho => ?_
    obtain ⟨k, hk⟩ := List.mem_iff_getElem?.1 ho
    have := (List.getElem?_eq_some_iff.1 hk).1
    simp [h1 k (by omega) o hk]
theorem hasK_of {α : Type} {f : α → ByteArray} {l : List α} {s : ByteArray} {i : Nat} {o : α} (ha : asc f l) (h1 : ∀ k, k < i → ∀ o, l[k]? = some o → slt (f o) s = true) (ho : l[i]? = some o) (h2 : slt (f o) s = false) : hasK f l s = decide (f o = s) := by
  rw [hasK, Bool.eq_iff_iff, List.any_eq_true, decide_eq_true_eq]
  constructor
  · rintro ⟨x, hx, he⟩
    have he := of_decide_eq_true he
    obtain ⟨k, hk⟩ := List.mem_iff_getElem?.1 hx
    rcases Nat.lt_trichotomy k i with h | h | h
    · have := h1 k h x hk
      rw [he, slt_irr] at this; cases this
    · subst h
      rw [ho] at hk; cases hk
      exact he
    · have := asc_get ha h ho hk
      rw [he, h2] at this; cases this
  · intro e
    exact ⟨o, List.mem_of_getElem? ho, decide_eq_true e⟩
theorem hasK_none {α : Type} {f : α → ByteArray} {l : List α} {s : ByteArray} (h1 : ∀ k, k < l.length → ∀ o, l[k]? = some o → slt (f o) s = true) : hasK f l s = false := by
  rw [hasK, List.any_eq_false]
  intro o ho
  obtain ⟨k, hk⟩ := List.mem_iff_getElem?.1 ho
  have := h1 k (List.getElem?_eq_some_iff.1 hk).1 o hk
  simp only [decide_eq_true_eq]
  intro e
  rw [e, slt_irr] at this; cases this
theorem half_lt {i j : Nat} (h : i < j) : i ≤ (i + j) / 2 ∧ (i + j) / 2 < j := by omega
/-- slices.BinarySearchFunc at planisphere/api.Object. -/
theorem bsf_GObj (fv : AV) (l : List GObj) (s : ByteArray) (H : Heap) (hl : l.length < 1099511627776) (ha : asc GObj.id l) (hf : ∀ o, o ∈ l → CallsV Try.prog fv [.agg ((encObj o).map .pv), sv s] H (fun r H' => r = iv (gCmp (GObj.id o) s) ∧ H' = H)) :
    ACalls Try.prog 84 [.pv (.sl (l.map encObj)), sv s, fv] H (fun r H' => r = .tup [iv (lbI GObj.id l s : Nat), bv (hasK GObj.id l s)] ∧ H' = H) := by
  have hml : (l.map encObj).length = l.length := List.length_map _
  refine ACalls.body Try.func84 rfl Try.ntmps84 (Nat.le_of_ble_eq_true rfl) ?_
  refine awp_seq ?_
  refine awp_region ?_
  refine al_d rfl rfl rfl (by exact opd_assign rfl rfl) ?_
  refine al_d rfl rfl rfl (by exact opd_assign rfl rfl) ?_
  refine al_nil ?_
  refine awp_seq ?_
  refine awp_region ?_
  refine al_d rfl rfl rfl (by exact opd_move rfl rfl) ?_
  refine al_d rfl rfl rfl (by exact (by first | exact opd_len_sl rfl Try.underlying22 rfl | exact opd_len_osl rfl Try.underlying22 rfl rfl rfl)) ?_
  refine al_d rfl rfl rfl (by exact opd_assign rfl rfl) ?_
  refine al_nil ?_
  refine awp_seq ?_
  refine awp_region ?_
  refine al_d rfl rfl rfl (by exact opd_move rfl rfl) ?_
  refine al_d rfl rfl rfl (by exact opd_assign rfl rfl) ?_
  refine al_d rfl rfl rfl (by exact opd_assign rfl rfl) ?_
  refine al_nil ?_
  refine awp_seq ?_
  refine awp_block ?_
  -- loop
  refine awp_loop2 (fun (i j : Nat) => ([(0, .pv (.sl (l.map encObj))), (1, sv s), (2, fv), (8, iv ((l.map encObj).length : Int)), (9, iv (i : Int)), (10, iv (j : Int))], H)) (fun i j => i ≤ j ∧ j ≤ l.length ∧ (∀ k, k < i → ∀ o, l[k]? = some o → slt (GObj.id o) s = true) ∧ ∀ k, j ≤ k → ∀ o, l[k]? = some o → slt (GObj.id o) s = false) (fun i j => j - i) 0 l.length ⟨by omega, by omega, by omega, fun k hk o ho => ?_⟩ ?_ ?_
  · have := (List.getElem?_eq_some_iff.1 ho).1
    omega
  · rw [← hml]
    exact Ent.e0 ⟨⟨_, rfl, rfl⟩, ⟨_, rfl, rfl⟩, ⟨_, rfl, rfl⟩, ⟨_, rfl, rfl⟩, ⟨_, rfl, rfl⟩, ⟨_, rfl, rfl⟩, trivial⟩
  · rintro i j ⟨hij, hj, hlo, hhi⟩
    refine awp_seq ?_
    refine awp_seq ?_
    refine awp_region ?_
    refine al_d rfl rfl rfl (by exact opd_move rfl rfl) ?_
    refine al_d rfl rfl rfl (by exact opd_move rfl rfl) ?_
    refine al_d rfl rfl rfl (by exact opd_lss rfl rfl rfl) ?_
    refine al_nil ?_
    refine awp_cond rfl (fun hc1 => ?_) (fun hc1 => ?_)
    -- cond 1
    · have hlt : i < j := by have := of_decide_eq_true hc1; omega
      obtain ⟨q1, q2⟩ := half_lt hlt
      obtain ⟨m, hm⟩ : ∃ m, m = (i + j) / 2 := ⟨_, rfl⟩
      rw [← hm] at q1 q2
      obtain ⟨o, ho⟩ := get_of_lt (l := l) (k := m) (by omega)
      have hi := map_get (f := encObj) ho
      have hfo := hf o (List.mem_of_getElem? ho)
      have e1 : IntKind.u64.wrap ((i : Int) + (j : Int)) = ((i + j : Nat) : Int) := by rw [IntKind.wrap_u64]; omega
      have e2 : IntKind.i64.wrap (((i + j : Nat) : Int) / 2) = (m : Int) := by rw [IntKind.wrap_i64]; omega
      refine awp_skip ?_
      refine awp_block ?_
      refine awp_seq ?_
      refine awp_region ?_
      refine al_d rfl rfl rfl (by exact opd_move rfl rfl) ?_
      refine al_d rfl rfl rfl (by exact opd_move rfl rfl) ?_
      refine al_d rfl rfl rfl (by exact opd_add rfl rfl rfl (by first | exact w64 (by omega) (by omega) | exact wu8 (by omega) (by omega) | rfl)) ?_
      refine al_d rfl rfl rfl (by exact opd_conv_int rfl Try.underlying3 Try.underlying123 rfl e1) ?_
      refine al_d rfl rfl rfl (by exact opd_shr rfl rfl rfl (by omega) (by simp [IntKind.bits]; try omega) rfl) ?_
      refine al_d rfl rfl rfl (by exact opd_conv_int rfl Try.underlying123 Try.underlying3 rfl e2) ?_
      refine al_d rfl rfl rfl (by exact opd_assign rfl rfl) ?_
      refine al_nil ?_
      refine awp_seq ?_
      refine awp_region ?_
      refine al_d rfl rfl rfl (by exact opd_move rfl rfl) ?_
      refine al_d rfl rfl rfl (by exact opd_move rfl rfl) ?_
      refine al_d rfl rfl rfl (by exact opd_move rfl rfl) ?_
      refine al_d rfl rfl rfl (by exact (by first | exact x_index_pad rfl so22 rfl rfl (by omega) (by first | exact Int.toNat_natCast _ | rfl) (by assumption) rfl | exact x_index_osl rfl so22 rfl rfl rfl rfl rfl (by omega) (by first | exact Int.toNat_natCast _ | rfl) (by first | omega | assumption) rfl)) ?_
      refine al_d rfl rfl rfl (by exact (by first | exact opd_loadn_ref rfl Try.isAgg30 Try.sizeOf30 rfl rfl rfl rfl (by simp only [List.drop_succ_cons, List.drop_zero, List.take_succ_cons, List.take_zero, List.take_nil, List.map_cons, List.map_nil, List.set_cons_zero, List.set_cons_succ, List.cons_append, List.nil_append, encObj]; rfl) rfl | exact opd_loadn_pad rfl Try.isAgg30 Try.sizeOf30 rfl (by first | omega | assumption) (by simp only [List.drop_succ_cons, List.drop_zero, List.take_succ_cons, List.take_zero, List.take_nil, List.map_cons, List.map_nil, List.set_cons_zero, List.set_cons_succ, List.cons_append, List.nil_append, encObj]; rfl) rfl)) ?_
      refine al_d rfl rfl rfl (by exact opd_move rfl rfl) ?_
      refine al_d rfl rfl rfl (by exact opr_callV rfl rfl rfl (hfo)) ?_
      refine al_d rfl rfl rfl (by exact opd_lss rfl rfl rfl) ?_
      refine al_nil ?_
      refine awp_cond rfl (fun hc2 => ?_) (fun hc2 => ?_)
      -- cond 2
      · rw [gCmp_lt] at hc2
        refine awp_region ?_
        refine al_d rfl rfl rfl (by exact opd_move rfl rfl) ?_
        refine al_d rfl rfl rfl (by exact opd_add rfl rfl rfl (by first | exact w64 (by omega) (by omega) | exact wu8 (by omega) (by omega) | rfl)) ?_
        refine al_d rfl rfl rfl (by exact opd_assign rfl rfl) ?_
        refine al_nil ?_
        -- end of a round
        refine ⟨m + 1, j, ⟨by omega, by omega, fun k hk x hx => ?_, hhi⟩, by omega, Ent.e0 ⟨⟨_, rfl, rfl⟩, ⟨_, rfl, rfl⟩, ⟨_, rfl, rfl⟩, ⟨_, rfl, rfl⟩, ⟨_, rfl, rfl⟩, ⟨_, rfl, rfl⟩, trivial⟩⟩
        by_cases e : k = m
        · subst e; rw [ho] at hx; cases hx; exact hc2
        · exact slt_trans (asc_get ha (by omega) hx ho) hc2
      · rw [gCmp_lt] at hc2
        refine awp_region ?_
        refine al_d rfl rfl rfl (by exact opd_move rfl rfl) ?_
        refine al_d rfl rfl rfl (by exact opd_assign rfl rfl) ?_
        refine al_nil ?_
        -- end of a round
        refine ⟨i, m, ⟨by omega, by omega, hlo, fun k hk x hx => ?_⟩, by omega, Ent.e0 ⟨⟨_, rfl, rfl⟩, ⟨_, rfl, rfl⟩, ⟨_, rfl, rfl⟩, ⟨_, rfl, rfl⟩, ⟨_, rfl, rfl⟩, ⟨_, rfl, rfl⟩, trivial⟩⟩
        by_cases e : k = m
        · subst e; rw [ho] at hx; cases hx; exact hc2
        · cases h : slt (GObj.id x) s with
          | false => rfl
          | true =>
            have := slt_trans (asc_get ha (by omega) ho hx) h
            rw [hc2] at this; cases this
    · have hge : i = j := by have := of_decide_eq_false hc1; omega
      subst hge
      have hlb : lbI GObj.id l s = i := lbI_of hj hlo (fun o ho => hhi i (Nat.le_refl _) o ho)
      by_cases hlt : i < l.length
      · obtain ⟨o, ho⟩ := get_of_lt hlt
        have hi := map_get (f := encObj) ho
        have hfo := hf o (List.mem_of_getElem? ho)
        have hlt2 : decide ((i : Int) < ((l.map encObj).length : Int)) = true := decide_eq_true (by omega)
        have hk := hasK_of ha hlo ho (hhi i (Nat.le_refl _) o ho)
        rw [hlb, hk, ← gCmp_zero]
        refine awp_exit ?_
        refine awp_seq ?_
        refine awp_region ?_
        refine al_d rfl rfl rfl (by exact opd_move rfl rfl) ?_
        refine al_d rfl rfl rfl (by exact opd_move rfl rfl) ?_
        refine al_d rfl rfl rfl (by exact opd_move rfl rfl) ?_
        refine al_d rfl rfl rfl (by exact opd_lss rfl rfl rfl) ?_
        refine al_d rfl rfl rfl (by exact opd_move rfl rfl) ?_
        refine al_ond rfl rfl rfl (by first | rfl | assumption) rfl rfl (by exact opd_move rfl rfl) ?_
        refine al_ond rfl rfl rfl (by first | rfl | assumption) rfl rfl (by exact opd_move rfl rfl) ?_
        refine al_ond rfl rfl rfl (by first | rfl | assumption) rfl rfl (by exact opd_move rfl rfl) ?_
        refine al_ond rfl rfl rfl (by first | rfl | assumption) rfl rfl (by exact (by first | exact x_index_pad rfl so22 rfl rfl (by omega) (by first | exact Int.toNat_natCast _ | rfl) (by assumption) rfl | exact x_index_osl rfl so22 rfl rfl rfl rfl rfl (by omega) (by first | exact Int.toNat_natCast _ | rfl) (by first | omega | assumption) rfl)) ?_
        refine al_ond rfl rfl rfl (by first | rfl | assumption) rfl rfl (by exact (by first | exact opd_loadn_ref rfl Try.isAgg30 Try.sizeOf30 rfl rfl rfl rfl (by simp only [List.drop_succ_cons, List.drop_zero, List.take_succ_cons, List.take_zero, List.take_nil, List.map_cons, List.map_nil, List.set_cons_zero, List.set_cons_succ, List.cons_append, List.nil_append, encObj]; rfl) rfl | exact opd_loadn_pad rfl Try.isAgg30 Try.sizeOf30 rfl (by first | omega | assumption) (by simp only [List.drop_succ_cons, List.drop_zero, List.take_succ_cons, List.take_zero, List.take_nil, List.map_cons, List.map_nil, List.set_cons_zero, List.set_cons_succ, List.cons_append, List.nil_append, encObj]; rfl) rfl)) ?_
        refine al_ond rfl rfl rfl (by first | rfl | assumption) rfl rfl (by exact opd_move rfl rfl) ?_
        refine al_ond rfl rfl rfl (by first | rfl | assumption) rfl rfl (by exact opr_callV rfl rfl rfl (hfo)) ?_
        refine al_ond rfl rfl rfl (by first | rfl | assumption) rfl rfl (by exact opd_eql rfl rfl rfl) ?_
        refine al_d rfl rfl rfl (by exact (by first | exact opd_pick_t rfl rfl rfl | exact opd_pick_f rfl rfl rfl | exact opd_pickt rfl rfl (by assumption) rfl | exact opd_pickf rfl rfl (by assumption) rfl | exact opd_pick rfl rfl rfl)) ?_
        refine al_d rfl rfl rfl (by exact opd_assign rfl rfl) ?_
        refine al_d rfl rfl rfl (by exact opd_assign rfl rfl) ?_
        refine al_nil ?_
        refine awp_ret ?_
        -- return
        refine aret2 (H' := H) (by first | exact .inr rfl | exact .inl rfl) rfl (rval_tmp rfl) (rval_tmp rfl) Fin.refl ?_
        exact ⟨rfl, rfl⟩
      · have hlt2 : decide ((i : Int) < ((l.map encObj).length : Int)) = false := decide_eq_false (by omega)
        have hk := hasK_none (fun k hk o ho => hlo k (by omega) o ho)
        rw [hlb, hk]
        refine awp_exit ?_
        refine awp_seq ?_
        refine awp_region ?_
        refine al_d rfl rfl rfl (by exact opd_move rfl rfl) ?_
        refine al_d rfl rfl rfl (by exact opd_move rfl rfl) ?_
        refine al_d rfl rfl rfl (by exact opd_move rfl rfl) ?_
        refine al_d rfl rfl rfl (by exact opd_lss rfl rfl rfl) ?_
        refine al_d rfl rfl rfl (by exact opd_move rfl rfl) ?_
        refine al_off rfl rfl rfl (by first | rfl | assumption) rfl ?_
        refine al_off rfl rfl rfl (by first | rfl | assumption) rfl ?_
        refine al_off rfl rfl rfl (by first | rfl | assumption) rfl ?_
        refine al_off rfl rfl rfl (by first | rfl | assumption) rfl ?_
        refine al_off rfl rfl rfl (by first | rfl | assumption) rfl ?_
        refine al_off rfl rfl rfl (by first | rfl | assumption) rfl ?_
        refine al_off rfl rfl rfl (by first | rfl | assumption) rfl ?_
        refine al_off rfl rfl rfl (by first | rfl | assumption) rfl ?_
        refine al_d rfl rfl rfl (by exact (by first | exact opd_pick_t rfl rfl rfl | exact opd_pick_f rfl rfl rfl | exact opd_pickt rfl rfl (by assumption) rfl | exact opd_pickf rfl rfl (by assumption) rfl | exact opd_pick rfl rfl rfl)) ?_
        refine al_d rfl rfl rfl (by exact opd_assign rfl rfl) ?_
        refine al_d rfl rfl rfl (by exact opd_assign rfl rfl) ?_
        refine al_nil ?_
        refine awp_ret ?_
        -- return
        refine aret2 (H' := H) (by first | exact .inr rfl | exact .inl rfl) rfl (rval_tmp rfl) (rval_tmp rfl) Fin.refl ?_
        exact ⟨rfl, rfl⟩
end Go.Proofs.Ytdcifaldfmpapaa
end
