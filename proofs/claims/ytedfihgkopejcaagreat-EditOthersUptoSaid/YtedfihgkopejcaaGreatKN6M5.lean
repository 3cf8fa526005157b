/-
  PLAIN LAWS of evidence: what it is, what is found. Conditions: none.
  CONTRACTS: package edit: edits compared, valid edits; valid change sets. Conditions: lengths below 2^62.
  CONTRACTS: edit.Valid, change.Valid. Conditions: lengths below 2^62.
  CONTRACTS: atlas.Find, distances, package evidence's kinds. Conditions: lengths below 2^62.
  CONTRACTS: package evidence's kinds: what shows, what fits. Conditions: lengths below 2^62.
  CONTRACTS: evidence.Find's closures, evidence.first. Conditions: lengths below 2^40.
  CONTRACT: evidence.Find. Conditions: lengths below 2^40.
  PLAIN LAWS: the law's own test of evidence says what evidence is. Conditions: none.
  CONTRACTS: package planispherelaw31: what is moderate, evidence compared, drops counted, one edit, lists of indices. Conditions: lengths below 2^62.
  CONTRACTS: planispherelaw31.holds: evidence that holds. Conditions: lengths below 2^62.
  CONTRACTS: package planispherelaw32: nodes, head. Conditions: none.
  CONTRACT: planispherelaw31.head: the chapter's examples hold. Conditions: none.
  EvidenceHolds, EvidenceFirst answer true. Conditions: the arguments' sizes.
  WHAT THE ARGUMENTS OF THE LAWS HOLD: maps and edits, as the contracts of layer 31 ask. Conditions: none.
  A SLICE OF ONE'S OWN WHOSE CAPACITY IS KNOWN ('osc'): cap, cuts up to the capacity, appending within it or beyond it, copies inside of an object and from others, clear.
  Conditions: each rule's own premises.
-/
import Derived.Test.YtedfihgkopejcaaGreatKN6M4
import Derived.ChangeKeysEq
section
set_option linter.unusedVariables false
set_option linter.unusedSimpArgs false
namespace Go.Proofs.YtedfihgkopejcaaGreat
open Go.Abs
theorem tagsEq_iff : ∀ {a b : List GTag}, tagsEq a b = true ↔ a = b
  | [], [] => by simp [tagsEq]
  | [], _ :: _ => by simp [tagsEq]
  | _ :: _, [] => by simp [tagsEq]
  | x :: a, y :: b => by rw [tagsEq, Bool.and_eq_true, tagEq_iff, tagsEq_iff]; simp
/-- Near points: the squared distance; else 0. -/
def nearP (x y : Int) : Bool := !(decide (2097152 < max x y) || decide (min x y < -2097152))
def gDist (x y u v : Int) : Int := if nearP x y && nearP u v then (u - x) * (u - x) + (v - y) * (v - y) else 0
def eShows (k : Nat) (m : List GObj) (e : GEdit) : Bool := match k with
  | 1 => decide (e.op = 5) && isOb m e.id
  | 2 => decide (e.op = 3) && decide (e.key = sName) && decide (e.val = sNil) && (gGet (obOf m e.id).tags sName).isSome
  | 3 => decide (e.op = 2) && isOb m e.id && decide ((obOf m e.id).kind = 1) && decide (1000000 ≤ gDist (obOf m e.id).x (obOf m e.id).y e.x e.y)
  | _ => decide (e.op = 1) && decide (e.obj.kind = 1)
def eApart (a b : GEdit) : Bool := !decide (a.id = b.id)
def eAlike (a b : GEdit) : Bool := !decide (a.obj.id = b.obj.id) && (decide (a.obj.x = b.obj.x) && decide (a.obj.y = b.obj.y)) && tagsEq a.obj.tags b.obj.tags
def eTog (k : Nat) (a b : GEdit) : Bool := match k with | 4 => eAlike a b | _ => eApart a b
def nMany (k : Nat) : Nat := match k with | 1 => 5 | 2 => 3 | 3 => 3 | _ => 4
def isDrop (e : GEdit) : Bool := decide (e.op = 5)
def nDrops (l : List GEdit) : Nat := l.countP isDrop
def kAns (m : List GObj) (l : List GEdit) (k : Nat) : Option (List Nat) := if k = 1 ∧ 2 * nDrops l ≤ l.length then none else kLoop (decide (k ≠ 4)) (eShows k m) (eTog k) (nMany k) l 0
def kFirst (m : List GObj) (l : List GEdit) : Nat → Nat → Nat × List Nat
  | 0, _ => (0, [])
  | n + 1, k => match kAns m l k with | some p => (k, p) | none => kFirst m l n (k + 1)
/-- What is found, of a closed map and a valid change set. -/
def gFind0 (m : List GObj) (l : List GEdit) : Nat × List Nat := kFirst m l 4 1
/-- Evidence. -/
structure Ev (m : List GObj) (l : List GEdit) (k : Nat) (e : List Nat) : Prop where
  lo : 1 ≤ k
  hi : k ≤ 4
  ch : Choice (eShows k m) (eTog k) l (nMany k) e
  dr : k = 1 → l.length < 2 * nDrops l
abbrev toI (l : List Nat) : List Int := l.map (fun (n : Nat) => (n : Int))
end Go.Proofs.YtedfihgkopejcaaGreat
end
section
set_option linter.unusedVariables false
set_option linter.unusedSimpArgs false
set_option maxRecDepth 100000
namespace Go.Proofs.YtedfihgkopejcaaGreat
open Go.Abs
theorem seS4 (a0 b0 a1 b1 a2 b2 a3 b3 : ByteArray) (w : World) : (Op.equalIn 10000 118 (.agg [.string a0, .string a1, .string a2, .string a3].toArray) (.agg [.string b0, .string b1, .string b2, .string b3].toArray)).run Tryz.prog w =
    .ok (decide (a0 = b0) && decide (a1 = b1) && decide (a2 = b2) && decide (a3 = b3)) w := by
  obtain ⟨i, hi⟩ := info_of_underlying Tryz.underlying9
  refine (run_equalIn_array (P := Tryz.prog) w 9999 _ _ Tryz.underlying118 hi).trans ?_
  have hs : ∀ (d : Nat) (a b : ByteArray) (w : World), (Op.equalIn (d + 1) 9 (.string a) (.string b)).run Tryz.prog w = .ok (decide (a = b)) w := fun d a b w => by rw [run_equalIn_string w d 9 a b Tryz.underlying9, list_beq]
  have hc : Tryz.prog.cellsOf 9 = 1 := by kernel_rfl
  by_cases e0 : a0 = b0 <;> by_cases e1 : a1 = b1 <;> by_cases e2 : a2 = b2 <;> by_cases e3 : a3 = b3 <;> simp [List.range_succ, Op.eqItems, part, hc, hs, Tryz.isAgg9, e0, e1, e2, e3]
theorem eqStrs_c (a b : List ByteArray) (H : Heap) (ha : a.length < 4611686018427387904) : ACalls Tryz.prog 86 [.pv (slStrs a), .pv (slStrs b)] H (fun r H' => r = bv (decide (a = b)) ∧ H' = H) := by
  refine ACalls.pure ?_ (by simp) H
  have hma : (a.map encStr).length = a.length := List.length_map _
  have hmb : (b.map encStr).length = b.length := List.length_map _
  refine ACalls.body Tryz.func86 rfl Tryz.ntmps86 (Nat.le_of_ble_eq_true rfl) ?_
  refine awp_seq ?_
  refine awp_region ?_
  refine al_d rfl rfl rfl (by exact opd_assign rfl rfl) ?_
  refine al_nil ?_
  refine awp_seq ?_
  refine awp_seq ?_
  refine awp_region ?_
  refine al_d rfl rfl rfl (by exact opd_move rfl rfl) ?_
  refine al_d rfl rfl rfl (by exact (by exact opd_len_sl rfl Tryz.underlying27 rfl)) ?_
  refine al_d rfl rfl rfl (by exact opd_move rfl rfl) ?_
  refine al_d rfl rfl rfl (by exact (by exact opd_len_sl rfl Tryz.underlying27 rfl)) ?_
  refine al_d rfl rfl rfl (by exact opd_neq rfl rfl rfl) ?_
  refine al_nil ?_
  refine awp_cond rfl (fun hc1 => ?_) (fun hc1 => ?_)
  -- cond 1
  · have hne : ¬ a = b := by
      intro e
      subst e
      simp at hc1
    refine awp_seq ?_
    refine awp_region ?_
    refine al_d rfl rfl rfl (by exact opd_assign rfl rfl) ?_
    refine al_nil ?_
    refine awp_ret ?_
    -- return
    refine aret1 (H' := []) (by exact .inr rfl) rfl (rval_tmp rfl) (Fin.wk (by simp) trivial trivial) ?_
    exact ⟨by rw [decide_eq_false hne], rfl⟩
  · have heq : a.length = b.length := by
      simp only [hma, hmb, Bool.not_eq_false', decide_eq_true_eq] at hc1
      omega
    refine awp_skip ?_
    refine awp_seq ?_
    refine awp_seq ?_
    refine awp_region ?_
    refine al_d rfl rfl rfl (by exact opd_move rfl rfl) ?_
    refine al_d rfl rfl rfl (by exact (by exact opd_len_sl rfl Tryz.underlying27 rfl)) ?_
    refine al_d rfl rfl rfl (by exact opd_move rfl rfl) ?_
    refine al_nil ?_
    refine awp_block ?_
    -- loop
    refine awp_loop (σ := Nat) (fun k => ([(0, .pv (slStrs a)), (1, .pv (slStrs b)), (12, iv ((a.map encStr).length : Int)), (13, iv (k : Int))], [])) (fun k => k ≤ a.length ∧ a.take k = b.take k) (fun k => a.length - k) 0 ⟨by omega, by simp⟩ ?_ ?_
    · exact Ent.e0 ⟨⟨_, rfl, rfl⟩, ⟨_, rfl, rfl⟩, ⟨_, rfl, rfl⟩, ⟨_, rfl, rfl⟩, trivial⟩
    · rintro k ⟨hk, hall⟩
      refine awp_seq ?_
      refine awp_region ?_
      refine al_d rfl rfl rfl (by exact opd_lss rfl rfl rfl) ?_
      refine al_nil ?_
      refine awp_seq ?_
      refine awp_cond rfl (fun hc2 => ?_) (fun hc2 => ?_)
      -- cond 2
      · have hlt : k < a.length := by have := of_decide_eq_true hc2; omega
        obtain ⟨x, hx⟩ := get_of_lt hlt
        obtain ⟨y, hy⟩ := get_of_lt (l := b) (k := k) (by omega)
        have hi := map_get (f := encStr) hx
        have hi2 := map_get (f := encStr) hy
        refine awp_skip ?_
        refine awp_seq ?_
        refine awp_block ?_
        refine awp_seq ?_
        refine awp_region ?_
        refine al_d rfl rfl rfl (by exact opd_move rfl rfl) ?_
        refine al_d rfl rfl rfl (by exact opd_assign rfl rfl) ?_
        refine al_nil ?_
        refine awp_seq ?_
        refine awp_drawc follows ?_
        refine dc_cons (DStep.q rfl (by exact opd_move rfl rfl)) rfl ?_
        refine dc_cons (DStep.q rfl (by exact opd_move rfl rfl)) rfl ?_
        refine dc_cons (DStep.q rfl (by exact (by exact x_index_pad rfl so27 rfl rfl (by omega) (by exact Int.toNat_natCast _) (by assumption) rfl))) rfl ?_
        refine dc_cons (DStep.q rfl (by exact (by exact opd_load1_pad rfl Tryz.isAgg9 rfl (by omega) rfl))) rfl ?_
        refine dc_cons (DStep.q rfl (by exact opd_move rfl rfl)) rfl ?_
        refine dc_cons (DStep.q rfl (by exact opd_move rfl rfl)) rfl ?_
        refine dc_cons (DStep.q rfl (by exact (by exact x_index_pad rfl so27 rfl rfl (by omega) (by exact Int.toNat_natCast _) (by assumption) rfl))) rfl ?_
        refine dc_cons (DStep.q rfl (by exact (by exact opd_load1_pad rfl Tryz.isAgg9 rfl (by omega) rfl))) rfl ?_
        refine dc_cons (DStep.q rfl (by exact opd_sneq rfl rfl rfl)) rfl ?_
        refine dc_nil ⟨by kernel_rfl, ?_⟩
        refine awp_cond rfl (fun hc3 => ?_) (fun hc3 => ?_)
        -- cond 3
        · have ht : ¬ x = y := by
            have h : (!decide (x = y)) = true := hc3
            simpa using h
          have hne : ¬ a = b := by
            intro e
            subst e
            rw [hx] at hy
            exact ht (Option.some.inj hy)
          refine awp_seq ?_
          refine awp_region ?_
          refine al_d rfl rfl rfl (by exact opd_assign rfl rfl) ?_
          refine al_nil ?_
          refine awp_ret ?_
          -- return
          refine aret1 (H' := []) (by exact .inr rfl) rfl (rval_tmp rfl) (Fin.wk (by simp) trivial trivial) ?_
          exact ⟨by rw [decide_eq_false hne], rfl⟩
        · have ht : x = y := by
            have h : (!decide (x = y)) = false := hc3
            simpa using h
          refine awp_skip ?_
          refine awp_region ?_
          refine al_d rfl rfl rfl (by exact opd_add rfl rfl rfl (by exact w64 (by omega) (by omega))) ?_
          refine al_d rfl rfl rfl (by exact opd_move rfl rfl) ?_
          refine al_nil ?_
          -- end of a round
          refine ⟨k + 1, ⟨by omega, ?_⟩, by omega, Ent.e0 ⟨⟨_, rfl, rfl⟩, ⟨_, rfl, rfl⟩, ⟨_, rfl, rfl⟩, ⟨_, rfl, rfl⟩, trivial⟩⟩
          rw [List.take_add_one, List.take_add_one, hx, hy, hall, ht]
      · have hge : k = a.length := by have := of_decide_eq_false hc2; omega
        have he : a = b := by
          have h := hall
          rw [hge, List.take_length, heq, List.take_length] at h
          exact h
        refine awp_exit ?_
        refine awp_seq ?_
        refine awp_region ?_
        refine al_d rfl rfl rfl (by exact opd_assign rfl rfl) ?_
        refine al_nil ?_
        refine awp_ret ?_
        -- return
        refine aret1 (H' := []) (by exact .inr rfl) rfl (rval_tmp rfl) (Fin.wk (by simp) trivial trivial) ?_
        exact ⟨by rw [decide_eq_true he], rfl⟩
def gSameO (a b : GObj) : Bool := ((decide (a.id = b.id) && decide (a.kind = b.kind) && (decide (a.x = b.x) && decide (a.y = b.y))) && decide (a.refs = b.refs)) && tagsEq a.tags b.tags
theorem gSameO_iff {a b : GObj} : gSameO a b = true ↔ a = b := by
  cases a; cases b
  simp only [gSameO, Bool.and_eq_true, decide_eq_true_eq, tagsEq_iff, GObj.mk.injEq]
  constructor
  · rintro ⟨⟨⟨⟨a1, a2⟩, a3, a4⟩, a5⟩, a6⟩
    exact ⟨a1, a2, a3, a4, a5, a6⟩
  · rintro ⟨a1, a2, a3, a4, a5, a6⟩
    exact ⟨⟨⟨⟨a1, a2⟩, a3, a4⟩, a5⟩, a6⟩
def okS (o : GObj) : Prop := o.refs.length < 4611686018427387904 ∧ o.tags.length < 4611686018427387904
theorem sameO_c (a b : GObj) (H : Heap) (ha : okS a) : ACalls Tryz.prog 54 [av (encObj a), av (encObj b)] H (fun r H' => r = bv (gSameO a b) ∧ H' = H) := by
  refine ACalls.pure ?_ (by simp) H
  refine ACalls.body Tryz.func54 rfl Tryz.ntmps54 (Nat.le_of_ble_eq_true rfl) ?_
  refine awp_seq ?_
  refine awp_region ?_
  refine al_d rfl rfl rfl (by exact opd_box (id := 2) rfl rfl rfl rfl rfl) ?_
  refine al_d rfl rfl rfl (by exact opd_box (id := 3) rfl rfl rfl rfl rfl) ?_
  refine al_d rfl rfl rfl (by exact opd_assign rfl rfl) ?_
  refine al_nil ?_
  refine awp_seq ?_
  refine awp_bool (t := 4) (n := 38) (X := gSameO a b) ?_ ?_
  · all_goals (refine al_d rfl rfl rfl (by exact (by exact opd_field_ref rfl fo30_0 rfl rfl rfl rfl)) ?_)
    all_goals (refine al_d rfl rfl rfl (by exact (by exact opd_load1_ref rfl Tryz.isAgg9 rfl rfl rfl rfl rfl)) ?_)
    all_goals (refine al_d rfl rfl rfl (by exact (by exact opd_field_ref rfl fo30_0 rfl rfl rfl rfl)) ?_)
    all_goals (refine al_d rfl rfl rfl (by exact (by exact opd_load1_ref rfl Tryz.isAgg9 rfl rfl rfl rfl rfl)) ?_)
    all_goals (refine al_d rfl rfl rfl (by exact opd_seql rfl rfl rfl) ?_)
    all_goals (refine al_d rfl rfl rfl (by exact opd_move rfl rfl) ?_)
    all_goals (refine al_split (t := 10) rfl (fun h10 => ?_) (fun h10 => ?_))
    all_goals (try contradiction)
    all_goals (first | refine al_off rfl rfl rfl rfl rfl ?_ | refine al_ond rfl rfl rfl rfl rfl rfl (by exact (by exact opd_field_ref rfl fo30_1 rfl rfl rfl rfl)) ?_)
    all_goals (first | refine al_off rfl rfl rfl rfl rfl ?_ | refine al_ond rfl rfl rfl rfl rfl rfl (by exact (by exact opd_load1_ref rfl Tryz.isAgg3 rfl rfl rfl rfl rfl)) ?_)
    all_goals (first | refine al_off rfl rfl rfl rfl rfl ?_ | refine al_ond rfl rfl rfl rfl rfl rfl (by exact (by exact opd_field_ref rfl fo30_1 rfl rfl rfl rfl)) ?_)
    all_goals (first | refine al_off rfl rfl rfl rfl rfl ?_ | refine al_ond rfl rfl rfl rfl rfl rfl (by exact (by exact opd_load1_ref rfl Tryz.isAgg3 rfl rfl rfl rfl rfl)) ?_)
    all_goals (first | refine al_off rfl rfl rfl rfl rfl ?_ | refine al_ond rfl rfl rfl rfl rfl rfl (by exact opd_eql rfl rfl rfl) ?_)
    all_goals (refine al_d rfl rfl rfl (by exact (by first | exact opd_pick_t rfl rfl rfl | exact opd_pick_f rfl rfl rfl)) ?_)
    all_goals (refine al_d rfl rfl rfl (by exact opd_move rfl rfl) ?_)
    all_goals (refine al_split (t := 17) rfl (fun h17 => ?_) (fun h17 => ?_))
    all_goals (try contradiction)
    all_goals (first | refine al_off rfl rfl rfl rfl rfl ?_ | refine al_ond rfl rfl rfl rfl rfl rfl (by exact (by exact opd_field_ref rfl fo30_2 rfl rfl rfl rfl)) ?_)
    all_goals (first | refine al_off rfl rfl rfl rfl rfl ?_ | refine al_ond rfl rfl rfl rfl rfl rfl (by exact (by exact opd_loadn_ref rfl Tryz.isAgg26 Tryz.sizeOf26 rfl rfl rfl rfl (by simp only [List.drop_succ_cons, List.drop_zero, List.take_succ_cons, List.take_zero, List.take_nil, List.map_cons, List.map_nil, List.set_cons_zero, List.set_cons_succ, List.cons_append, List.nil_append, encTag, encObj, encStr, encEdit]; rfl) rfl)) ?_)
    all_goals (first | refine al_off rfl rfl rfl rfl rfl ?_ | refine al_ond rfl rfl rfl rfl rfl rfl (by exact (by exact opd_field_ref rfl fo30_2 rfl rfl rfl rfl)) ?_)
    all_goals (first | refine al_off rfl rfl rfl rfl rfl ?_ | refine al_ond rfl rfl rfl rfl rfl rfl (by exact (by exact opd_loadn_ref rfl Tryz.isAgg26 Tryz.sizeOf26 rfl rfl rfl rfl (by simp only [List.drop_succ_cons, List.drop_zero, List.take_succ_cons, List.take_zero, List.take_nil, List.map_cons, List.map_nil, List.set_cons_zero, List.set_cons_succ, List.cons_append, List.nil_append, encTag, encObj, encStr, encEdit]; rfl) rfl)) ?_)
    all_goals (first | refine al_off rfl rfl rfl rfl rfl ?_ | refine al_ond rfl rfl rfl rfl rfl rfl (by exact opd_aeql rfl rfl rfl rfl rfl Tryz.eqGuardType26 (se26 _ _ _ _)) ?_)
    all_goals (refine al_d rfl rfl rfl (by exact (by first | exact opd_pick_t rfl rfl rfl | exact opd_pick_f rfl rfl rfl)) ?_)
    all_goals (refine al_d rfl rfl rfl (by exact opd_move rfl rfl) ?_)
    all_goals (refine al_split (t := 24) rfl (fun h24 => ?_) (fun h24 => ?_))
    all_goals (try contradiction)
    all_goals (first | refine al_off rfl rfl rfl rfl rfl ?_ | refine al_ond rfl rfl rfl rfl rfl rfl (by exact (by exact opd_field_ref rfl fo30_3 rfl rfl rfl rfl)) ?_)
    all_goals (first | refine al_off rfl rfl rfl rfl rfl ?_ | refine al_ond rfl rfl rfl rfl rfl rfl (by exact (by exact opd_load1_ref rfl Tryz.isAgg27 rfl rfl rfl rfl rfl)) ?_)
    all_goals (first | refine al_off rfl rfl rfl rfl rfl ?_ | refine al_ond rfl rfl rfl rfl rfl rfl (by exact (by exact opd_field_ref rfl fo30_3 rfl rfl rfl rfl)) ?_)
    all_goals (first | refine al_off rfl rfl rfl rfl rfl ?_ | refine al_ond rfl rfl rfl rfl rfl rfl (by exact (by exact opd_load1_ref rfl Tryz.isAgg27 rfl rfl rfl rfl rfl)) ?_)
    all_goals (first | refine al_off rfl rfl rfl rfl rfl ?_ | refine al_ond rfl rfl rfl rfl rfl rfl (by exact opr_call rfl rfl Tryz.call86 rfl (eqStrs_c a.refs b.refs _ ha.1)) ?_)
    all_goals (refine al_d rfl rfl rfl (by exact (by first | exact opd_pick_t rfl rfl rfl | exact opd_pick_f rfl rfl rfl)) ?_)
    all_goals (refine al_d rfl rfl rfl (by exact opd_move rfl rfl) ?_)
    all_goals (refine al_split (t := 31) rfl (fun h31 => ?_) (fun h31 => ?_))
    all_goals (try contradiction)
    all_goals (first | refine al_off rfl rfl rfl rfl rfl ?_ | refine al_ond rfl rfl rfl rfl rfl rfl (by exact (by exact opd_field_ref rfl fo30_4 rfl rfl rfl rfl)) ?_)
    all_goals (first | refine al_off rfl rfl rfl rfl rfl ?_ | refine al_ond rfl rfl rfl rfl rfl rfl (by exact (by exact opd_load1_ref rfl Tryz.isAgg28 rfl rfl rfl rfl rfl)) ?_)
    all_goals (first | refine al_off rfl rfl rfl rfl rfl ?_ | refine al_ond rfl rfl rfl rfl rfl rfl (by exact (by exact opd_field_ref rfl fo30_4 rfl rfl rfl rfl)) ?_)
    all_goals (first | refine al_off rfl rfl rfl rfl rfl ?_ | refine al_ond rfl rfl rfl rfl rfl rfl (by exact (by exact opd_load1_ref rfl Tryz.isAgg28 rfl rfl rfl rfl rfl)) ?_)
    all_goals (first | refine al_off rfl rfl rfl rfl rfl ?_ | refine al_ond rfl rfl rfl rfl rfl rfl (by exact opr_call rfl rfl Tryz.call92 rfl (equalTags_c a.tags b.tags _ ha.2)) ?_)
    all_goals (refine al_d rfl rfl rfl (by exact (by first | exact opd_pick_t rfl rfl rfl | exact opd_pick_f rfl rfl rfl)) ?_)
    all_goals (refine al_d rfl rfl rfl (by exact opd_assign rfl rfl) ?_)
    all_goals (refine al_nil ?_)
    all_goals (exact ⟨⟨_, rfl, by (simp only [gSameO, *]; rfl)⟩, rfl, rfl, rfl⟩)
  refine awp_ret ?_
  -- return
  refine aret1 (H' := []) (by exact .inr rfl) rfl (rval_tmp rfl) (Fin.wk (by simp) trivial trivial) ?_
  exact ⟨rfl, rfl⟩
def gSameE (a b : GEdit) : Bool := ((((decide (a.refs = b.refs) && gSameO a.obj b.obj) && decide (a.op = b.op)) && (decide (a.id = b.id) && decide (a.other = b.other) && decide (a.node = b.node) && decide (a.key = b.key))) && decide (a.val = b.val)) && (decide (a.x = b.x) && decide (a.y = b.y))
theorem gSameE_iff {a b : GEdit} : gSameE a b = true ↔ a = b := by
  cases a; cases b
  simp only [gSameE, Bool.and_eq_true, decide_eq_true_eq, gSameO_iff, GEdit.mk.injEq]
  constructor
  · rintro ⟨⟨⟨⟨⟨a1, a2⟩, a3⟩, ⟨⟨a4, a5⟩, a6⟩, a7⟩, a8⟩, a9, a10⟩
    exact ⟨a3, a4, a5, a6, a9, a10, a7, a8, a1, a2⟩
  · rintro ⟨a3, a4, a5, a6, a9, a10, a7, a8, a1, a2⟩
    exact ⟨⟨⟨⟨⟨a1, a2⟩, a3⟩, ⟨⟨a4, a5⟩, a6⟩, a7⟩, a8⟩, a9, a10⟩
theorem sameE_c (a b : GEdit) (H : Heap) (h1 : a.refs.length < 4611686018427387904) (h2 : okS a.obj) : ACalls Tryz.prog 48 [av (encEdit a), av (encEdit b)] H (fun r H' => r = bv (gSameE a b) ∧ H' = H) := by
  refine ACalls.pure ?_ (by simp) H
  refine ACalls.body Tryz.func48 rfl Tryz.ntmps48 (Nat.le_of_ble_eq_true rfl) ?_
  refine awp_seq ?_
  refine awp_region ?_
  refine al_d rfl rfl rfl (by exact opd_box (id := 2) rfl rfl rfl rfl rfl) ?_
  refine al_d rfl rfl rfl (by exact opd_box (id := 3) rfl rfl rfl rfl rfl) ?_
  refine al_d rfl rfl rfl (by exact opd_assign rfl rfl) ?_
  refine al_nil ?_
  refine awp_seq ?_
  refine awp_bool (t := 5) (n := 14) (X := decide (a.refs = b.refs) && gSameO a.obj b.obj) ?_ ?_
  · all_goals (refine al_d rfl rfl rfl (by exact (by exact opd_field_ref rfl fo32_7 rfl rfl rfl rfl)) ?_)
    all_goals (refine al_d rfl rfl rfl (by exact (by exact opd_load1_ref rfl Tryz.isAgg27 rfl rfl rfl rfl rfl)) ?_)
    all_goals (refine al_d rfl rfl rfl (by exact (by exact opd_field_ref rfl fo32_7 rfl rfl rfl rfl)) ?_)
    all_goals (refine al_d rfl rfl rfl (by exact (by exact opd_load1_ref rfl Tryz.isAgg27 rfl rfl rfl rfl rfl)) ?_)
    all_goals (refine al_d rfl rfl rfl (by exact opr_call rfl rfl Tryz.call86 rfl (eqStrs_c a.refs b.refs _ h1)) ?_)
    all_goals (refine al_d rfl rfl rfl (by exact opd_move rfl rfl) ?_)
    all_goals (refine al_split (t := 11) rfl (fun h11 => ?_) (fun h11 => ?_))
    all_goals (try contradiction)
    all_goals (first | refine al_off rfl rfl rfl rfl rfl ?_ | refine al_ond rfl rfl rfl rfl rfl rfl (by exact (by exact opd_field_ref rfl fo32_8 rfl rfl rfl rfl)) ?_)
    all_goals (first | refine al_off rfl rfl rfl rfl rfl ?_ | refine al_ond rfl rfl rfl rfl rfl rfl (by exact (by exact opd_loadn_ref rfl Tryz.isAgg30 Tryz.sizeOf30 rfl rfl rfl rfl (by simp only [List.drop_succ_cons, List.drop_zero, List.take_succ_cons, List.take_zero, List.take_nil, List.map_cons, List.map_nil, List.set_cons_zero, List.set_cons_succ, List.cons_append, List.nil_append, encTag, encObj, encStr, encEdit]; rfl) rfl)) ?_)
    all_goals (first | refine al_off rfl rfl rfl rfl rfl ?_ | refine al_ond rfl rfl rfl rfl rfl rfl (by exact (by exact opd_field_ref rfl fo32_8 rfl rfl rfl rfl)) ?_)
    all_goals (first | refine al_off rfl rfl rfl rfl rfl ?_ | refine al_ond rfl rfl rfl rfl rfl rfl (by exact (by exact opd_loadn_ref rfl Tryz.isAgg30 Tryz.sizeOf30 rfl rfl rfl rfl (by simp only [List.drop_succ_cons, List.drop_zero, List.take_succ_cons, List.take_zero, List.take_nil, List.map_cons, List.map_nil, List.set_cons_zero, List.set_cons_succ, List.cons_append, List.nil_append, encTag, encObj, encStr, encEdit]; rfl) rfl)) ?_)
    all_goals (first | refine al_off rfl rfl rfl rfl rfl ?_ | refine al_ond rfl rfl rfl rfl rfl rfl (by exact opr_call rfl rfl Tryz.call54 rfl (sameO_c a.obj b.obj _ h2)) ?_)
    all_goals (refine al_d rfl rfl rfl (by exact (by first | exact opd_pick_t rfl rfl rfl | exact opd_pick_f rfl rfl rfl)) ?_)
    all_goals (refine al_d rfl rfl rfl (by exact opd_assign rfl rfl) ?_)
    all_goals (refine al_nil ?_)
    all_goals (exact ⟨⟨_, rfl, by (simp only [*]; rfl)⟩, rfl, rfl, rfl⟩)
  refine awp_seq ?_
  refine awp_bool (t := 4) (n := 48) (X := gSameE a b) ?_ ?_
  · all_goals (refine al_d rfl rfl rfl (by exact opd_move rfl rfl) ?_)
    all_goals (refine al_d rfl rfl rfl (by exact opd_move rfl rfl) ?_)
    all_goals (refine al_split (t := 19) rfl (fun h19 => ?_) (fun h19 => ?_))
    all_goals (try contradiction)
    all_goals (first | refine al_off rfl rfl rfl rfl rfl ?_ | refine al_ond rfl rfl rfl rfl rfl rfl (by exact (by exact opd_field_ref rfl fo32_0 rfl rfl rfl rfl)) ?_)
    all_goals (first | refine al_off rfl rfl rfl rfl rfl ?_ | refine al_ond rfl rfl rfl rfl rfl rfl (by exact (by exact opd_load1_ref rfl Tryz.isAgg3 rfl rfl rfl rfl rfl)) ?_)
    all_goals (first | refine al_off rfl rfl rfl rfl rfl ?_ | refine al_ond rfl rfl rfl rfl rfl rfl (by exact (by exact opd_field_ref rfl fo32_0 rfl rfl rfl rfl)) ?_)
    all_goals (first | refine al_off rfl rfl rfl rfl rfl ?_ | refine al_ond rfl rfl rfl rfl rfl rfl (by exact (by exact opd_load1_ref rfl Tryz.isAgg3 rfl rfl rfl rfl rfl)) ?_)
    all_goals (first | refine al_off rfl rfl rfl rfl rfl ?_ | refine al_ond rfl rfl rfl rfl rfl rfl (by exact opd_eql rfl rfl rfl) ?_)
    all_goals (refine al_d rfl rfl rfl (by exact (by first | exact opd_pick_t rfl rfl rfl | exact opd_pick_f rfl rfl rfl)) ?_)
    all_goals (refine al_d rfl rfl rfl (by exact opd_move rfl rfl) ?_)
    all_goals (refine al_split (t := 26) rfl (fun h26 => ?_) (fun h26 => ?_))
    all_goals (try contradiction)
    all_goals (first | refine al_off rfl rfl rfl rfl rfl ?_ | refine al_ond rfl rfl rfl rfl rfl rfl (by exact (by exact opd_field_ref rfl fo32_1 rfl rfl rfl rfl)) ?_)
    all_goals (first | refine al_off rfl rfl rfl rfl rfl ?_ | refine al_ond rfl rfl rfl rfl rfl rfl (by exact (by exact opd_load1_ref rfl Tryz.isAgg9 rfl rfl rfl rfl rfl)) ?_)
    all_goals (first | refine al_off rfl rfl rfl rfl rfl ?_ | refine al_ond rfl rfl rfl rfl rfl rfl (by exact (by exact opd_field_ref rfl fo32_2 rfl rfl rfl rfl)) ?_)
    all_goals (first | refine al_off rfl rfl rfl rfl rfl ?_ | refine al_ond rfl rfl rfl rfl rfl rfl (by exact (by exact opd_load1_ref rfl Tryz.isAgg9 rfl rfl rfl rfl rfl)) ?_)
    all_goals (first | refine al_off rfl rfl rfl rfl rfl ?_ | refine al_ond rfl rfl rfl rfl rfl rfl (by exact (by exact opd_field_ref rfl fo32_3 rfl rfl rfl rfl)) ?_)
    all_goals (first | refine al_off rfl rfl rfl rfl rfl ?_ | refine al_ond rfl rfl rfl rfl rfl rfl (by exact (by exact opd_load1_ref rfl Tryz.isAgg9 rfl rfl rfl rfl rfl)) ?_)
    all_goals (first | refine al_off rfl rfl rfl rfl rfl ?_ | refine al_ond rfl rfl rfl rfl rfl rfl (by exact (by exact opd_field_ref rfl fo32_5 rfl rfl rfl rfl)) ?_)
    all_goals (first | refine al_off rfl rfl rfl rfl rfl ?_ | refine al_ond rfl rfl rfl rfl rfl rfl (by exact (by exact opd_load1_ref rfl Tryz.isAgg9 rfl rfl rfl rfl rfl)) ?_)
    all_goals (first | refine al_off rfl rfl rfl rfl rfl ?_ | refine al_ond rfl rfl rfl rfl rfl rfl (by exact x_build_arr rfl ao118 rfl rfl) ?_)
    all_goals (first | refine al_off rfl rfl rfl rfl rfl ?_ | refine al_ond rfl rfl rfl rfl rfl rfl (by exact (by exact opd_field_ref rfl fo32_1 rfl rfl rfl rfl)) ?_)
    all_goals (first | refine al_off rfl rfl rfl rfl rfl ?_ | refine al_ond rfl rfl rfl rfl rfl rfl (by exact (by exact opd_load1_ref rfl Tryz.isAgg9 rfl rfl rfl rfl rfl)) ?_)
    all_goals (first | refine al_off rfl rfl rfl rfl rfl ?_ | refine al_ond rfl rfl rfl rfl rfl rfl (by exact (by exact opd_field_ref rfl fo32_2 rfl rfl rfl rfl)) ?_)
    all_goals (first | refine al_off rfl rfl rfl rfl rfl ?_ | refine al_ond rfl rfl rfl rfl rfl rfl (by exact (by exact opd_load1_ref rfl Tryz.isAgg9 rfl rfl rfl rfl rfl)) ?_)
    all_goals (first | refine al_off rfl rfl rfl rfl rfl ?_ | refine al_ond rfl rfl rfl rfl rfl rfl (by exact (by exact opd_field_ref rfl fo32_3 rfl rfl rfl rfl)) ?_)
    all_goals (first | refine al_off rfl rfl rfl rfl rfl ?_ | refine al_ond rfl rfl rfl rfl rfl rfl (by exact (by exact opd_load1_ref rfl Tryz.isAgg9 rfl rfl rfl rfl rfl)) ?_)
    all_goals (first | refine al_off rfl rfl rfl rfl rfl ?_ | refine al_ond rfl rfl rfl rfl rfl rfl (by exact (by exact opd_field_ref rfl fo32_5 rfl rfl rfl rfl)) ?_)
    all_goals (first | refine al_off rfl rfl rfl rfl rfl ?_ | refine al_ond rfl rfl rfl rfl rfl rfl (by exact (by exact opd_load1_ref rfl Tryz.isAgg9 rfl rfl rfl rfl rfl)) ?_)
    all_goals (first | refine al_off rfl rfl rfl rfl rfl ?_ | refine al_ond rfl rfl rfl rfl rfl rfl (by exact x_build_arr rfl ao118 rfl rfl) ?_)
    all_goals (first | refine al_off rfl rfl rfl rfl rfl ?_ | refine al_ond rfl rfl rfl rfl rfl rfl (by exact opd_aeql rfl rfl rfl rfl rfl Tryz.eqGuardType118 (seS4 a.id b.id a.other b.other a.node b.node a.key b.key)) ?_)
    all_goals (refine al_d rfl rfl rfl (by exact (by first | exact opd_pick_t rfl rfl rfl | exact opd_pick_f rfl rfl rfl)) ?_)
    all_goals (refine al_d rfl rfl rfl (by exact opd_move rfl rfl) ?_)
    all_goals (refine al_split (t := 47) rfl (fun h47 => ?_) (fun h47 => ?_))
    all_goals (try contradiction)
    all_goals (first | refine al_off rfl rfl rfl rfl rfl ?_ | refine al_ond rfl rfl rfl rfl rfl rfl (by exact (by exact opd_field_ref rfl fo32_6 rfl rfl rfl rfl)) ?_)
    all_goals (first | refine al_off rfl rfl rfl rfl rfl ?_ | refine al_ond rfl rfl rfl rfl rfl rfl (by exact (by exact opd_load1_ref rfl Tryz.isAgg9 rfl rfl rfl rfl rfl)) ?_)
    all_goals (first | refine al_off rfl rfl rfl rfl rfl ?_ | refine al_ond rfl rfl rfl rfl rfl rfl (by exact (by exact opd_field_ref rfl fo32_6 rfl rfl rfl rfl)) ?_)
    all_goals (first | refine al_off rfl rfl rfl rfl rfl ?_ | refine al_ond rfl rfl rfl rfl rfl rfl (by exact (by exact opd_load1_ref rfl Tryz.isAgg9 rfl rfl rfl rfl rfl)) ?_)
    all_goals (first | refine al_off rfl rfl rfl rfl rfl ?_ | refine al_ond rfl rfl rfl rfl rfl rfl (by exact opd_seql rfl rfl rfl) ?_)
    all_goals (refine al_d rfl rfl rfl (by exact (by first | exact opd_pick_t rfl rfl rfl | exact opd_pick_f rfl rfl rfl)) ?_)
    all_goals (refine al_d rfl rfl rfl (by exact opd_move rfl rfl) ?_)
    all_goals (refine al_split (t := 54) rfl (fun h54 => ?_) (fun h54 => ?_))
    all_goals (try contradiction)
    all_goals (first | refine al_off rfl rfl rfl rfl rfl ?_ | refine al_ond rfl rfl rfl rfl rfl rfl (by exact (by exact opd_field_ref rfl fo32_4 rfl rfl rfl rfl)) ?_)
    all_goals (first | refine al_off rfl rfl rfl rfl rfl ?_ | refine al_ond rfl rfl rfl rfl rfl rfl (by exact (by exact opd_loadn_ref rfl Tryz.isAgg26 Tryz.sizeOf26 rfl rfl rfl rfl (by simp only [List.drop_succ_cons, List.drop_zero, List.take_succ_cons, List.take_zero, List.take_nil, List.map_cons, List.map_nil, List.set_cons_zero, List.set_cons_succ, List.cons_append, List.nil_append, encTag, encObj, encStr, encEdit]; rfl) rfl)) ?_)
    all_goals (first | refine al_off rfl rfl rfl rfl rfl ?_ | refine al_ond rfl rfl rfl rfl rfl rfl (by exact (by exact opd_field_ref rfl fo32_4 rfl rfl rfl rfl)) ?_)
    all_goals (first | refine al_off rfl rfl rfl rfl rfl ?_ | refine al_ond rfl rfl rfl rfl rfl rfl (by exact (by exact opd_loadn_ref rfl Tryz.isAgg26 Tryz.sizeOf26 rfl rfl rfl rfl (by simp only [List.drop_succ_cons, List.drop_zero, List.take_succ_cons, List.take_zero, List.take_nil, List.map_cons, List.map_nil, List.set_cons_zero, List.set_cons_succ, List.cons_append, List.nil_append, encTag, encObj, encStr, encEdit]; rfl) rfl)) ?_)
    all_goals (first | refine al_off rfl rfl rfl rfl rfl ?_ | refine al_ond rfl rfl rfl rfl rfl rfl (by exact opd_aeql rfl rfl rfl rfl rfl Tryz.eqGuardType26 (se26 _ _ _ _)) ?_)
    all_goals (refine al_d rfl rfl rfl (by exact (by first | exact opd_pick_t rfl rfl rfl | exact opd_pick_f rfl rfl rfl)) ?_)
    all_goals (refine al_d rfl rfl rfl (by exact opd_assign rfl rfl) ?_)
    all_goals (refine al_nil ?_)
    all_goals (exact ⟨⟨_, rfl, by (simp only [gSameE, *]; rfl)⟩, rfl, rfl, rfl⟩)
  refine awp_ret ?_
  -- return
  refine aret1 (H' := []) (by exact .inr rfl) rfl (rval_tmp rfl) (Fin.wk (by simp) trivial trivial) ?_
  exact ⟨rfl, rfl⟩
def atP {α : Type} (l : List α) (p : α → Bool) (k : Nat) : Bool := match l[k]? with
  | some s => p s
  | none => false
theorem atP_some {α : Type} {l : List α} {p : α → Bool} {k : Nat} {s : α} (h : l[k]? = some s) : atP l p k = p s := by rw [atP, h]
theorem range_any_get {α : Type} (l : List α) (p : α → Bool) : (List.range l.length).any (atP l p) = l.any p := by
  rw [Bool.eq_iff_iff, List.any_eq_true, List.any_eq_true]
  constructor
  · rintro ⟨k, hk, h⟩
    have hlt := List.mem_range.1 hk
    rw [atP_some (List.getElem?_eq_getElem hlt)] at h
    exact ⟨_, List.getElem_mem hlt, h⟩
  · rintro ⟨x, hx, h⟩
    obtain ⟨k, hk⟩ := List.mem_iff_getElem?.1 hx
    exact ⟨k, List.mem_range.2 (List.getElem?_eq_some_iff.1 hk).1, by rw [atP_some hk]; exact h⟩
theorem names1_c (s : ByteArray) (H : Heap) (hs : s.size < 4611686018427387904) : ACalls Tryz.prog 79 [sv s] H (fun r H' => r = bv (!gName s) ∧ H' = H) := by
  refine ACalls.pure ?_ (by simp) H
  refine ACalls.body Tryz.func79 rfl Tryz.ntmps79 (Nat.le_of_ble_eq_true rfl) ?_
  refine awp_seq ?_
  refine awp_region ?_
  refine al_d rfl rfl rfl (by exact opd_assign rfl rfl) ?_
  refine al_nil ?_
  refine awp_seq ?_
  refine awp_region ?_
  refine al_d rfl rfl rfl (by exact opd_move rfl rfl) ?_
  refine al_d rfl rfl rfl (by exact opr_call rfl rfl Tryz.call80 rfl (name_c s _ hs)) ?_
  refine al_d rfl rfl rfl (by exact opd_not rfl rfl) ?_
  refine al_d rfl rfl rfl (by exact opd_assign rfl rfl) ?_
  refine al_nil ?_
  refine awp_ret ?_
  -- return
  refine aret1 (H' := []) (by exact .inr rfl) rfl (rval_tmp rfl) (Fin.wk (by simp) trivial trivial) ?_
  exact ⟨rfl, rfl⟩
theorem names_c (l : List ByteArray) (H : Heap) (hl : l.length < 4611686018427387904) (hs : ∀ s ∈ l, s.size < 4611686018427387904) : ACalls Tryz.prog 46 [.pv (slStrs l)] H (fun r H' => r = bv (l.all gName) ∧ H' = H) := by
  refine ACalls.pure ?_ (by simp) H
  have e : l.all gName = !(List.range l.length).any (atP l (fun s => !gName s)) := by
    rw [range_any_get l (fun s => !gName s), List.any_eq_not_all_not]
    simp
  rw [e]
  refine ACalls.body Tryz.func46 rfl Tryz.ntmps46 (Nat.le_of_ble_eq_true rfl) ?_
  refine awp_seq ?_
  refine awp_region ?_
  refine al_d rfl rfl rfl (by exact opd_assign rfl rfl) ?_
  refine al_nil ?_
  refine awp_seq ?_
  refine awp_region ?_
  refine al_d rfl rfl rfl (by exact opd_move rfl rfl) ?_
  refine al_d rfl rfl rfl (by exact opr_call rfl rfl Tryz.call78 rfl (containsFuncS (.pv (.fn 79)) l (atP l (fun s => !gName s)) (fun _ => []) hl (fun k s hk => CallsV.fn Tryz.call79 (by rw [atP_some hk]; exact names1_c s _ (hs s (List.mem_of_getElem? hk)))))) ?_
  refine al_d rfl rfl rfl (by exact opd_not rfl rfl) ?_
  refine al_d rfl rfl rfl (by exact opd_assign rfl rfl) ?_
  refine al_nil ?_
  refine awp_ret ?_
  -- return
  refine aret1 (H' := []) (by exact .inr rfl) rfl (rval_tmp rfl) (Fin.wk (by simp) trivial trivial) ?_
  exact ⟨rfl, rfl⟩
end Go.Proofs.YtedfihgkopejcaaGreat
end
section
set_option linter.unusedVariables false
set_option linter.unusedSimpArgs false
set_option maxRecDepth 100000
namespace Go.Proofs.YtedfihgkopejcaaGreat
open Go.Abs
/-- The fields that an edit's operation uses, all others zero. -/
def xOf (e : GEdit) : GEdit :=
  if e.op = 1 then ⟨e.op, sNil, sNil, sNil, 0, 0, sNil, sNil, [], e.obj⟩
  else if e.op = 2 then ⟨e.op, e.id, sNil, sNil, e.x, e.y, sNil, sNil, [], zObj⟩
  else if e.op = 3 then ⟨e.op, e.id, sNil, sNil, 0, 0, e.key, e.val, [], zObj⟩
  else if e.op = 4 then ⟨e.op, e.id, sNil, sNil, 0, 0, sNil, sNil, e.refs, zObj⟩
  else if e.op = 5 then ⟨e.op, e.id, sNil, sNil, 0, 0, sNil, sNil, [], zObj⟩
  else if e.op = 6 then ⟨e.op, e.id, e.other, e.node, 0, 0, sNil, sNil, [], zObj⟩
  else ⟨e.op, e.id, e.other, sNil, 0, 0, sNil, sNil, [], zObj⟩
def okOf (e : GEdit) : Bool :=
  if e.op = 1 then gObj e.obj
  else gName e.id && (if e.op = 2 then onP e.x e.y else if e.op = 3 then gName e.key && decide ((e.val.size : Int) ≤ 200)
    else if e.op = 4 then decide ((0 : Int) < (e.refs.length : Int)) && decide ((e.refs.length : Int) ≤ 2000) && e.refs.all gName
    else if e.op = 5 then true else if e.op = 6 then gName e.node && gName e.other else gName e.other)
def gEditV (e : GEdit) : Bool := (decide (1 ≤ e.op) && decide (e.op ≤ 7)) && (okOf e && gSameE (xOf e) e)
def okE (e : GEdit) : Prop := (e.id.size < 4611686018427387904 ∧ e.other.size < 4611686018427387904 ∧ e.node.size < 4611686018427387904 ∧ e.key.size < 4611686018427387904) ∧ (e.refs.length < 4611686018427387904 ∧ ∀ s ∈ e.refs, s.size < 4611686018427387904) ∧ okO e.obj
theorem okS_of {o : GObj} (h : okO o) : okS o := ⟨h.2.2.1, h.2.1.1⟩
theorem okS_z : okS zObj := ⟨by decide, by decide⟩
theorem n1_c (s : ByteArray) (H : Heap) (hs : s.size < 4611686018427387904) : ACalls Tryz.prog 46 [.pv (slStrs [s])] H (fun r H' => r = bv (gName s) ∧ H' = H) := by
  have h := names_c [s] H (by show 1 < _; omega) (by simpa using hs)
  simpa using h
theorem n2_c (s t : ByteArray) (H : Heap) (hs : s.size < 4611686018427387904) (ht : t.size < 4611686018427387904) : ACalls Tryz.prog 46 [.pv (slStrs [s, t])] H (fun r H' => r = bv (gName s && gName t) ∧ H' = H) := by
  have h := names_c [s, t] H (by show 2 < _; omega) (by simpa using ⟨hs, ht⟩)
  simpa using h
theorem editValid_c (e : GEdit) (H : Heap) (he : okE e) : ACalls Tryz.prog 16 [av (encEdit e)] H (fun r H' => r = bv (gEditV e) ∧ H' = H) := by
  refine ACalls.pure ?_ (by simp) H
  obtain ⟨⟨h1, h2, h3, h4⟩, ⟨h5, h6⟩, h7⟩ := he
  have hrl : (e.refs.map encStr).length = e.refs.length := List.length_map _
  refine ACalls.body Tryz.func16 rfl Tryz.ntmps16 (Nat.le_of_ble_eq_true rfl) ?_
  refine awp_seq ?_
  refine awp_region ?_
  refine al_d rfl rfl rfl (by exact opd_box (id := 1) rfl rfl rfl rfl rfl) ?_
  refine al_d rfl rfl rfl (by exact opd_assign rfl rfl) ?_
  refine al_nil ?_
  refine awp_seq ?_
  refine awp_region ?_
  refine al_d rfl rfl rfl (by exact (by exact opd_field_ref rfl fo32_0 rfl rfl rfl rfl)) ?_
  refine al_d rfl rfl rfl (by exact (by exact opd_load1_ref rfl Tryz.isAgg3 rfl rfl rfl rfl rfl)) ?_
  refine al_d rfl rfl rfl (by exact (by exact opd_field_ref rfl fo32_1 rfl rfl rfl rfl)) ?_
  refine al_d rfl rfl rfl (by exact (by exact opd_load1_ref rfl Tryz.isAgg9 rfl rfl rfl rfl rfl)) ?_
  refine al_d rfl rfl rfl (by exact x_build rfl bo32 rfl rfl) ?_
  refine al_d rfl rfl rfl (by exact x_alloc (id := 3) rfl zo32 rfl rfl) ?_
  refine al_n rfl rfl (by exact (by exact x_store_all rfl Tryz.sizeOf32 rfl rfl rfl rfl rfl rfl rfl rfl)) ?_
  refine al_nil ?_
  refine awp_seq ?_
  refine awp_region ?_
  refine al_d rfl rfl rfl (by exact (by exact opd_field_ref rfl fo32_1 rfl rfl rfl rfl)) ?_
  refine al_d rfl rfl rfl (by exact (by exact opd_load1_ref rfl Tryz.isAgg9 rfl rfl rfl rfl rfl)) ?_
  refine al_d rfl rfl rfl (by exact (by exact x_buildSlice ([e.id].map encStr) rfl so27 rfl rfl rfl rfl rfl (by simp [encStr]))) ?_
  refine al_d rfl rfl rfl (by exact opr_call rfl rfl Tryz.call46 rfl (n1_c e.id _ h1)) ?_
  refine al_d rfl rfl rfl (by exact opd_assign rfl rfl) ?_
  refine al_nil ?_
  refine awp_seq ?_
  refine awp_seq ?_
  refine awp_region ?_
  refine al_d rfl rfl rfl (by exact (by exact opd_field_ref rfl fo32_0 rfl rfl rfl rfl)) ?_
  refine al_d rfl rfl rfl (by exact (by exact opd_load1_ref rfl Tryz.isAgg3 rfl rfl rfl rfl rfl)) ?_
  refine al_nil ?_
  refine awp_block ?_
  refine awp_seq ?_
  refine awp_region ?_
  refine al_d rfl rfl rfl (by exact opd_eql rfl rfl rfl) ?_
  refine al_d rfl rfl rfl (by exact opd_assign rfl rfl) ?_
  refine al_nil ?_
  refine awp_cond rfl (fun hc1 => ?_) (fun hc1 => ?_)
  -- cond 1
  · have ho : e.op = 1 := of_decide_eq_true hc1
    have hx : xOf e = ⟨e.op, sNil, sNil, sNil, 0, 0, sNil, sNil, [], e.obj⟩ := by rw [xOf, if_pos ho]
    have hk : okOf e = gObj e.obj := by rw [okOf, if_pos ho]
    have hv : gEditV e = (gObj e.obj && gSameE ⟨e.op, sNil, sNil, sNil, 0, 0, sNil, sNil, [], e.obj⟩ e) := by rw [gEditV, hx, hk, ho]; rfl
    refine awp_drawc follows ?_
    refine dc_cons (r := ⟨_, some [1], []⟩) (DStep.plain rfl (fun H1 hH => by exact (by exact opd_field_ref rfl fo32_8 rfl ((hH _ rfl).trans rfl) rfl rfl))) rfl ?_
    refine dc_cons (r := ⟨_, some [1], []⟩) (DStep.plain rfl (fun H1 hH => by exact (by exact opd_loadn_ref rfl Tryz.isAgg30 Tryz.sizeOf30 rfl ((hH _ rfl).trans rfl) rfl rfl (by simp only [List.drop_succ_cons, List.drop_zero, List.take_succ_cons, List.take_zero, List.take_nil, List.map_cons, List.map_nil, List.set_cons_zero, List.set_cons_succ, List.cons_append, List.nil_append, encTag, encObj, encStr, encEdit, zObj]; rfl) rfl))) rfl ?_
    refine dc_cons (r := ⟨_, some [1], []⟩) (DStep.plain rfl (fun H1 hH => by exact (by exact opd_field_ref rfl fo32_8 rfl ((hH _ rfl).trans rfl) rfl rfl))) rfl ?_
    refine dc_cons (r := ⟨_, some [1], []⟩) (DStep.plain rfl (fun H1 hH => by exact (by exact opd_loadn_ref rfl Tryz.isAgg30 Tryz.sizeOf30 rfl ((hH _ rfl).trans rfl) rfl rfl (by simp only [List.drop_succ_cons, List.drop_zero, List.take_succ_cons, List.take_zero, List.take_nil, List.map_cons, List.map_nil, List.set_cons_zero, List.set_cons_succ, List.cons_append, List.nil_append, encTag, encObj, encStr, encEdit, zObj]; rfl) rfl))) rfl ?_
    refine dc_cons (r := ⟨_, some [], []⟩) (DStep.plain rfl (fun H1 hH => by exact opr_call rfl rfl Tryz.call47 rfl (objValid_c e.obj _ h7))) rfl ?_
    refine dc_cons (r := ⟨_, some [3], []⟩) (DStep.plain rfl (fun H1 hH => by exact (by exact opd_field_ref rfl fo32_1 rfl ((hH _ rfl).trans rfl) rfl rfl))) rfl ?_
    refine dc_cons (r := ⟨_, some [3], [_]⟩) (DStep.plain rfl (fun H1 hH => by exact (by exact x_store1 rfl Tryz.sizeOf9 rfl rfl rfl ((hH _ rfl).trans rfl) rfl rfl (Nat.le_of_ble_eq_true rfl) rfl rfl))) rfl ?_
    refine dc_cons (r := ⟨_, some [3], []⟩) (DStep.plain rfl (fun H1 hH => by exact (by exact opd_field_ref rfl fo32_8 rfl ((hH _ rfl).trans rfl) rfl rfl))) rfl ?_
    refine dc_cons (r := ⟨_, some [3], [_]⟩) (DStep.plain rfl (fun H1 hH => by exact (by exact x_store rfl Tryz.sizeOf30 rfl rfl rfl rfl ((hH _ rfl).trans rfl) rfl rfl (Nat.le_of_ble_eq_true rfl) rfl rfl))) rfl ?_
    refine dc_cons (r := ⟨_, some [], []⟩) (DStep.plain rfl (fun H1 hH => by exact opd_assign rfl rfl)) rfl ?_
    refine dc_nil ⟨by kernel_rfl, ?_⟩
    refine awp_seq ?_
    refine awp_bool (t := 2) (n := 8) (X := gObj e.obj && gSameE ⟨e.op, sNil, sNil, sNil, 0, 0, sNil, sNil, [], e.obj⟩ e) ?_ ?_
    · all_goals (refine al_d rfl rfl rfl (by exact opd_move rfl rfl) ?_)
      all_goals (refine al_d rfl rfl rfl (by exact opd_move rfl rfl) ?_)
      all_goals (refine al_split (t := 127) rfl (fun h127 => ?_) (fun h127 => ?_))
      all_goals (try contradiction)
      all_goals (first | refine al_off rfl rfl rfl rfl rfl ?_ | refine al_ond rfl rfl rfl rfl rfl rfl (by exact (by exact opd_loadn_ref rfl Tryz.isAgg32 Tryz.sizeOf32 rfl rfl rfl rfl (by simp only [List.drop_succ_cons, List.drop_zero, List.take_succ_cons, List.take_zero, List.take_nil, List.map_cons, List.map_nil, List.set_cons_zero, List.set_cons_succ, List.cons_append, List.nil_append, encTag, encObj, encStr, encEdit, zObj]; rfl) rfl)) ?_)
      all_goals (first | refine al_off rfl rfl rfl rfl rfl ?_ | refine al_ond rfl rfl rfl rfl rfl rfl (by exact (by exact opd_loadn_ref rfl Tryz.isAgg32 Tryz.sizeOf32 rfl rfl rfl rfl (by simp only [List.drop_succ_cons, List.drop_zero, List.take_succ_cons, List.take_zero, List.take_nil, List.map_cons, List.map_nil, List.set_cons_zero, List.set_cons_succ, List.cons_append, List.nil_append, encTag, encObj, encStr, encEdit, zObj]; rfl) rfl)) ?_)
      all_goals (first | refine al_off rfl rfl rfl rfl rfl ?_ | refine al_ond rfl rfl rfl rfl rfl rfl (by exact opr_call rfl rfl Tryz.call48 rfl (sameE_c ⟨e.op, sNil, sNil, sNil, 0, 0, sNil, sNil, [], e.obj⟩ e _ (by show 0 < _; omega) (okS_of h7))) ?_)
      all_goals (refine al_d rfl rfl rfl (by exact (by first | exact opd_pick_t rfl rfl rfl | exact opd_pick_f rfl rfl rfl)) ?_)
      all_goals (refine al_d rfl rfl rfl (by exact opd_assign rfl rfl) ?_)
      all_goals (refine al_nil ?_)
      all_goals (exact ⟨⟨_, rfl, by (simp_all [gObj]; done)⟩, rfl, rfl, rfl⟩)
    refine awp_ret ?_
    -- return
    refine aret1 (H' := []) (by exact .inr rfl) rfl (rval_tmp rfl) (Fin.wk (by simp) trivial trivial) ?_
    exact ⟨by rw [hv], rfl⟩
  · have ho1 : ¬ e.op = 1 := of_decide_eq_false hc1
    refine awp_seq ?_
    refine awp_region ?_
    refine al_d rfl rfl rfl (by exact opd_eql rfl rfl rfl) ?_
    refine al_d rfl rfl rfl (by exact opd_assign rfl rfl) ?_
    refine al_nil ?_
    refine awp_cond rfl (fun hc2 => ?_) (fun hc2 => ?_)
    -- cond 2
    · have ho : e.op = 2 := of_decide_eq_true hc2
      have hx : xOf e = ⟨e.op, e.id, sNil, sNil, e.x, e.y, sNil, sNil, [], zObj⟩ := by rw [xOf, if_neg ho1, if_pos ho]
      have hk : okOf e = (gName e.id && onP e.x e.y) := by rw [okOf, if_neg ho1, if_pos ho]
      have hb : (gName e.id && decide (0 ≤ min e.x e.y) && decide (max e.x e.y < 1048576)) = (gName e.id && onP e.x e.y) := by rw [onP, Bool.and_assoc]
      have hv : gEditV e = ((gName e.id && decide (0 ≤ min e.x e.y) && decide (max e.x e.y < 1048576)) && gSameE ⟨e.op, e.id, sNil, sNil, e.x, e.y, sNil, sNil, [], zObj⟩ e) := by rw [gEditV, hx, hk, hb, ho]; rfl
      apply awp_mergeW (t := 4) (n := 25) (X := gName e.id && decide (0 ≤ min e.x e.y) && decide (max e.x e.y < 1048576))
      · cases hg30 : (gName e.id : Bool)
        · refine awp_drawc follows ?_
          refine dc_cons (r := ⟨_, some [1], []⟩) (DStep.plain rfl (fun H1 hH => by exact (by exact opd_field_ref rfl fo32_4 rfl ((hH _ rfl).trans rfl) rfl rfl))) rfl ?_
          refine dc_cons (r := ⟨_, some [1], []⟩) (DStep.plain rfl (fun H1 hH => by exact (by exact opd_loadn_ref rfl Tryz.isAgg26 Tryz.sizeOf26 rfl ((hH _ rfl).trans rfl) rfl rfl (by simp only [List.drop_succ_cons, List.drop_zero, List.take_succ_cons, List.take_zero, List.take_nil, List.map_cons, List.map_nil, List.set_cons_zero, List.set_cons_succ, List.cons_append, List.nil_append, encTag, encObj, encStr, encEdit, zObj]; rfl) rfl))) rfl ?_
          refine dc_cons (r := ⟨_, some [], []⟩) (DStep.plain rfl (fun H1 hH => by exact opd_move rfl rfl)) rfl ?_
          refine dc_cons (r := ⟨_, some [], []⟩) (DStep.plain rfl (fun H1 hH => by exact opd_move rfl rfl)) rfl ?_
          refine dc_cons (q_off_t rfl rfl rfl (by rfl)) rfl ?_
          refine dc_cons (q_off_t rfl rfl rfl (by rfl)) rfl ?_
          refine dc_cons (q_off_t rfl rfl rfl (by rfl)) rfl ?_
          refine dc_cons (q_off_t rfl rfl rfl (by rfl)) rfl ?_
          refine dc_cons (q_off_t rfl rfl rfl (by rfl)) rfl ?_
          refine dc_cons (q_off_t rfl rfl rfl (by rfl)) rfl ?_
          refine dc_cons (q_off_t rfl rfl rfl (by rfl)) rfl ?_
          refine dc_cons (q_off_t rfl rfl rfl (by rfl)) rfl ?_
          refine dc_cons (r := ⟨_, some [], []⟩) (DStep.plain rfl (fun H1 hH => by exact (by exact opd_pick_f rfl rfl rfl))) rfl ?_
          refine dc_cons (r := ⟨_, some [], []⟩) (DStep.plain rfl (fun H1 hH => by exact opd_move rfl rfl)) rfl ?_
          refine dc_cons (q_off_t rfl rfl rfl (by rfl)) rfl ?_
          refine dc_cons (q_off_t rfl rfl rfl (by rfl)) rfl ?_
          refine dc_cons (q_off_t rfl rfl rfl (by rfl)) rfl ?_
          refine dc_cons (q_off_t rfl rfl rfl (by rfl)) rfl ?_
          refine dc_cons (q_off_t rfl rfl rfl (by rfl)) rfl ?_
          refine dc_cons (q_off_t rfl rfl rfl (by rfl)) rfl ?_
          refine dc_cons (q_off_t rfl rfl rfl (by rfl)) rfl ?_
          refine dc_cons (q_off_t rfl rfl rfl (by rfl)) rfl ?_
          refine dc_cons (r := ⟨_, some [], []⟩) (DStep.plain rfl (fun H1 hH => by exact (by exact opd_pick_f rfl rfl rfl))) rfl ?_
          refine dc_cons (r := ⟨_, some [3], []⟩) (DStep.plain rfl (fun H1 hH => by exact (by exact opd_field_ref rfl fo32_4 rfl ((hH _ rfl).trans rfl) rfl rfl))) rfl ?_
          refine dc_cons (r := ⟨_, some [3], [_]⟩) (DStep.plain rfl (fun H1 hH => by exact (by exact x_store rfl Tryz.sizeOf26 rfl rfl rfl rfl ((hH _ rfl).trans rfl) rfl rfl (Nat.le_of_ble_eq_true rfl) rfl rfl))) rfl ?_
          refine dc_cons (r := ⟨_, some [], []⟩) (DStep.plain rfl (fun H1 hH => by exact opd_assign rfl rfl)) rfl ?_
          refine dc_nil ⟨by kernel_rfl, ?_⟩
          exact ⟨rfl, ⟨_, rfl, by rfl⟩, rfl, rfl, rfl⟩
        · cases hg40 : (decide (0 ≤ min e.x e.y) : Bool)
          · refine awp_drawc follows ?_
            refine dc_cons (r := ⟨_, some [1], []⟩) (DStep.plain rfl (fun H1 hH => by exact (by exact opd_field_ref rfl fo32_4 rfl ((hH _ rfl).trans rfl) rfl rfl))) rfl ?_
            refine dc_cons (r := ⟨_, some [1], []⟩) (DStep.plain rfl (fun H1 hH => by exact (by exact opd_loadn_ref rfl Tryz.isAgg26 Tryz.sizeOf26 rfl ((hH _ rfl).trans rfl) rfl rfl (by simp only [List.drop_succ_cons, List.drop_zero, List.take_succ_cons, List.take_zero, List.take_nil, List.map_cons, List.map_nil, List.set_cons_zero, List.set_cons_succ, List.cons_append, List.nil_append, encTag, encObj, encStr, encEdit, zObj]; rfl) rfl))) rfl ?_
            refine dc_cons (r := ⟨_, some [], []⟩) (DStep.plain rfl (fun H1 hH => by exact opd_move rfl rfl)) rfl ?_
            refine dc_cons (r := ⟨_, some [], []⟩) (DStep.plain rfl (fun H1 hH => by exact opd_move rfl rfl)) rfl ?_
            refine dc_cons (r := ⟨_, some [1], []⟩) (l_on_t rfl rfl rfl (by rfl) (fun H1 hH => by exact (by exact opd_field_ref rfl fo32_4 rfl ((hH _ rfl).trans rfl) rfl rfl))) rfl ?_
            refine dc_cons (r := ⟨_, some [1], []⟩) (l_on_t rfl rfl rfl (by rfl) (fun H1 hH => by exact (by exact opd_field_ref rfl fo26_0 rfl ((hH _ rfl).trans rfl) rfl rfl))) rfl ?_
            refine dc_cons (r := ⟨_, some [1], []⟩) (l_on_t rfl rfl rfl (by rfl) (fun H1 hH => by exact (by exact opd_load1_ref rfl Tryz.isAgg3 rfl ((hH _ rfl).trans rfl) rfl rfl rfl))) rfl ?_
            refine dc_cons (r := ⟨_, some [1], []⟩) (l_on_t rfl rfl rfl (by rfl) (fun H1 hH => by exact (by exact opd_field_ref rfl fo32_4 rfl ((hH _ rfl).trans rfl) rfl rfl))) rfl ?_
            refine dc_cons (r := ⟨_, some [1], []⟩) (l_on_t rfl rfl rfl (by rfl) (fun H1 hH => by exact (by exact opd_field_ref rfl fo26_1 rfl ((hH _ rfl).trans rfl) rfl rfl))) rfl ?_
            refine dc_cons (r := ⟨_, some [1], []⟩) (l_on_t rfl rfl rfl (by rfl) (fun H1 hH => by exact (by exact opd_load1_ref rfl Tryz.isAgg3 rfl ((hH _ rfl).trans rfl) rfl rfl rfl))) rfl ?_
            refine dc_cons (r := ⟨_, some [], []⟩) (l_on_t rfl rfl rfl (by rfl) (fun H1 hH => by exact opd_min rfl rfl rfl rfl)) rfl ?_
            refine dc_cons (r := ⟨_, some [], []⟩) (l_on_t rfl rfl rfl (by rfl) (fun H1 hH => by exact opd_geq rfl rfl rfl)) rfl ?_
            refine dc_cons (r := ⟨_, some [], []⟩) (DStep.plain rfl (fun H1 hH => by exact (by exact opd_pick_t rfl rfl rfl))) rfl ?_
            refine dc_cons (r := ⟨_, some [], []⟩) (DStep.plain rfl (fun H1 hH => by exact opd_move rfl rfl)) rfl ?_
            refine dc_cons (q_off_t rfl rfl rfl (by assumption)) rfl ?_
            refine dc_cons (q_off_t rfl rfl rfl (by assumption)) rfl ?_
            refine dc_cons (q_off_t rfl rfl rfl (by assumption)) rfl ?_
            refine dc_cons (q_off_t rfl rfl rfl (by assumption)) rfl ?_
            refine dc_cons (q_off_t rfl rfl rfl (by assumption)) rfl ?_
            refine dc_cons (q_off_t rfl rfl rfl (by assumption)) rfl ?_
            refine dc_cons (q_off_t rfl rfl rfl (by assumption)) rfl ?_
            refine dc_cons (q_off_t rfl rfl rfl (by assumption)) rfl ?_
            refine dc_cons (r := ⟨_, some [], []⟩) (DStep.plain rfl (fun H1 hH => by exact (by exact opd_pickf rfl rfl (by assumption) rfl))) rfl ?_
            refine dc_cons (r := ⟨_, some [3], []⟩) (DStep.plain rfl (fun H1 hH => by exact (by exact opd_field_ref rfl fo32_4 rfl ((hH _ rfl).trans rfl) rfl rfl))) rfl ?_
            refine dc_cons (r := ⟨_, some [3], [_]⟩) (DStep.plain rfl (fun H1 hH => by exact (by exact x_store rfl Tryz.sizeOf26 rfl rfl rfl rfl ((hH _ rfl).trans rfl) rfl rfl (Nat.le_of_ble_eq_true rfl) rfl rfl))) rfl ?_
            refine dc_cons (r := ⟨_, some [], []⟩) (DStep.plain rfl (fun H1 hH => by exact opd_assign rfl rfl)) rfl ?_
            refine dc_nil ⟨by kernel_rfl, ?_⟩
            exact ⟨rfl, ⟨_, rfl, by rfl⟩, rfl, rfl, rfl⟩
          · refine awp_drawc follows ?_
            refine dc_cons (r := ⟨_, some [1], []⟩) (DStep.plain rfl (fun H1 hH => by exact (by exact opd_field_ref rfl fo32_4 rfl ((hH _ rfl).trans rfl) rfl rfl))) rfl ?_
            refine dc_cons (r := ⟨_, some [1], []⟩) (DStep.plain rfl (fun H1 hH => by exact (by exact opd_loadn_ref rfl Tryz.isAgg26 Tryz.sizeOf26 rfl ((hH _ rfl).trans rfl) rfl rfl (by simp only [List.drop_succ_cons, List.drop_zero, List.take_succ_cons, List.take_zero, List.take_nil, List.map_cons, List.map_nil, List.set_cons_zero, List.set_cons_succ, List.cons_append, List.nil_append, encTag, encObj, encStr, encEdit, zObj]; rfl) rfl))) rfl ?_
            refine dc_cons (r := ⟨_, some [], []⟩) (DStep.plain rfl (fun H1 hH => by exact opd_move rfl rfl)) rfl ?_
            refine dc_cons (r := ⟨_, some [], []⟩) (DStep.plain rfl (fun H1 hH => by exact opd_move rfl rfl)) rfl ?_
            refine dc_cons (r := ⟨_, some [1], []⟩) (l_on_t rfl rfl rfl (by rfl) (fun H1 hH => by exact (by exact opd_field_ref rfl fo32_4 rfl ((hH _ rfl).trans rfl) rfl rfl))) rfl ?_
            refine dc_cons (r := ⟨_, some [1], []⟩) (l_on_t rfl rfl rfl (by rfl) (fun H1 hH => by exact (by exact opd_field_ref rfl fo26_0 rfl ((hH _ rfl).trans rfl) rfl rfl))) rfl ?_
            refine dc_cons (r := ⟨_, some [1], []⟩) (l_on_t rfl rfl rfl (by rfl) (fun H1 hH => by exact (by exact opd_load1_ref rfl Tryz.isAgg3 rfl ((hH _ rfl).trans rfl) rfl rfl rfl))) rfl ?_
            refine dc_cons (r := ⟨_, some [1], []⟩) (l_on_t rfl rfl rfl (by rfl) (fun H1 hH => by exact (by exact opd_field_ref rfl fo32_4 rfl ((hH _ rfl).trans rfl) rfl rfl))) rfl ?_
            refine dc_cons (r := ⟨_, some [1], []⟩) (l_on_t rfl rfl rfl (by rfl) (fun H1 hH => by exact (by exact opd_field_ref rfl fo26_1 rfl ((hH _ rfl).trans rfl) rfl rfl))) rfl ?_
            refine dc_cons (r := ⟨_, some [1], []⟩) (l_on_t rfl rfl rfl (by rfl) (fun H1 hH => by exact (by exact opd_load1_ref rfl Tryz.isAgg3 rfl ((hH _ rfl).trans rfl) rfl rfl rfl))) rfl ?_
            refine dc_cons (r := ⟨_, some [], []⟩) (l_on_t rfl rfl rfl (by rfl) (fun H1 hH => by exact opd_min rfl rfl rfl rfl)) rfl ?_
            refine dc_cons (r := ⟨_, some [], []⟩) (l_on_t rfl rfl rfl (by rfl) (fun H1 hH => by exact opd_geq rfl rfl rfl)) rfl ?_
            refine dc_cons (r := ⟨_, some [], []⟩) (DStep.plain rfl (fun H1 hH => by exact (by exact opd_pick_t rfl rfl rfl))) rfl ?_
            refine dc_cons (r := ⟨_, some [], []⟩) (DStep.plain rfl (fun H1 hH => by exact opd_move rfl rfl)) rfl ?_
            refine dc_cons (r := ⟨_, some [1], []⟩) (l_on_t rfl rfl rfl (by assumption) (fun H1 hH => by exact (by exact opd_field_ref rfl fo32_4 rfl ((hH _ rfl).trans rfl) rfl rfl))) rfl ?_
            refine dc_cons (r := ⟨_, some [1], []⟩) (l_on_t rfl rfl rfl (by assumption) (fun H1 hH => by exact (by exact opd_field_ref rfl fo26_0 rfl ((hH _ rfl).trans rfl) rfl rfl))) rfl ?_
            refine dc_cons (r := ⟨_, some [1], []⟩) (l_on_t rfl rfl rfl (by assumption) (fun H1 hH => by exact (by exact opd_load1_ref rfl Tryz.isAgg3 rfl ((hH _ rfl).trans rfl) rfl rfl rfl))) rfl ?_
            refine dc_cons (r := ⟨_, some [1], []⟩) (l_on_t rfl rfl rfl (by assumption) (fun H1 hH => by exact (by exact opd_field_ref rfl fo32_4 rfl ((hH _ rfl).trans rfl) rfl rfl))) rfl ?_
            refine dc_cons (r := ⟨_, some [1], []⟩) (l_on_t rfl rfl rfl (by assumption) (fun H1 hH => by exact (by exact opd_field_ref rfl fo26_1 rfl ((hH _ rfl).trans rfl) rfl rfl))) rfl ?_
            refine dc_cons (r := ⟨_, some [1], []⟩) (l_on_t rfl rfl rfl (by assumption) (fun H1 hH => by exact (by exact opd_load1_ref rfl Tryz.isAgg3 rfl ((hH _ rfl).trans rfl) rfl rfl rfl))) rfl ?_
            refine dc_cons (r := ⟨_, some [], []⟩) (l_on_t rfl rfl rfl (by assumption) (fun H1 hH => by exact opd_max rfl rfl rfl rfl)) rfl ?_
            refine dc_cons (r := ⟨_, some [], []⟩) (l_on_t rfl rfl rfl (by assumption) (fun H1 hH => by exact opd_lss rfl rfl rfl)) rfl ?_
            refine dc_cons (r := ⟨_, some [], []⟩) (DStep.plain rfl (fun H1 hH => by exact (by exact opd_pickt rfl rfl (by assumption) rfl))) rfl ?_
            refine dc_cons (r := ⟨_, some [3], []⟩) (DStep.plain rfl (fun H1 hH => by exact (by exact opd_field_ref rfl fo32_4 rfl ((hH _ rfl).trans rfl) rfl rfl))) rfl ?_
            refine dc_cons (r := ⟨_, some [3], [_]⟩) (DStep.plain rfl (fun H1 hH => by exact (by exact x_store rfl Tryz.sizeOf26 rfl rfl rfl rfl ((hH _ rfl).trans rfl) rfl rfl (Nat.le_of_ble_eq_true rfl) rfl rfl))) rfl ?_
            refine dc_cons (r := ⟨_, some [], []⟩) (DStep.plain rfl (fun H1 hH => by exact opd_assign rfl rfl)) rfl ?_
            refine dc_nil ⟨by kernel_rfl, ?_⟩
            exact ⟨rfl, ⟨_, rfl, by rfl⟩, rfl, rfl, rfl⟩
      refine awp_seq ?_
      refine awp_bool (t := 2) (n := 8) (X := (gName e.id && decide (0 ≤ min e.x e.y) && decide (max e.x e.y < 1048576)) && gSameE ⟨e.op, e.id, sNil, sNil, e.x, e.y, sNil, sNil, [], zObj⟩ e) ?_ ?_
      · all_goals (refine al_d rfl rfl rfl (by exact opd_move rfl rfl) ?_)
        all_goals (refine al_d rfl rfl rfl (by exact opd_move rfl rfl) ?_)
        all_goals (refine al_split (t := 127) rfl (fun h127 => ?_) (fun h127 => ?_))
        all_goals (try contradiction)
        all_goals (first | refine al_off rfl rfl rfl rfl rfl ?_ | refine al_ond rfl rfl rfl rfl rfl rfl (by exact (by exact opd_loadn_ref rfl Tryz.isAgg32 Tryz.sizeOf32 rfl rfl rfl rfl (by simp only [List.drop_succ_cons, List.drop_zero, List.take_succ_cons, List.take_zero, List.take_nil, List.map_cons, List.map_nil, List.set_cons_zero, List.set_cons_succ, List.cons_append, List.nil_append, encTag, encObj, encStr, encEdit, zObj]; rfl) rfl)) ?_)
        all_goals (first | refine al_off rfl rfl rfl rfl rfl ?_ | refine al_ond rfl rfl rfl rfl rfl rfl (by exact (by exact opd_loadn_ref rfl Tryz.isAgg32 Tryz.sizeOf32 rfl rfl rfl rfl (by simp only [List.drop_succ_cons, List.drop_zero, List.take_succ_cons, List.take_zero, List.take_nil, List.map_cons, List.map_nil, List.set_cons_zero, List.set_cons_succ, List.cons_append, List.nil_append, encTag, encObj, encStr, encEdit, zObj]; rfl) rfl)) ?_)
        all_goals (first | refine al_off rfl rfl rfl rfl rfl ?_ | refine al_ond rfl rfl rfl rfl rfl rfl (by exact opr_call rfl rfl Tryz.call48 rfl (sameE_c ⟨e.op, e.id, sNil, sNil, e.x, e.y, sNil, sNil, [], zObj⟩ e _ (by (show 0 < _; omega)) okS_z)) ?_)
        all_goals (refine al_d rfl rfl rfl (by exact (by first | exact opd_pick_t rfl rfl rfl | exact opd_pick_f rfl rfl rfl)) ?_)
        all_goals (refine al_d rfl rfl rfl (by exact opd_assign rfl rfl) ?_)
        all_goals (refine al_nil ?_)
        all_goals (exact ⟨⟨_, rfl, by (rw [h127]; rfl)⟩, rfl, rfl, rfl⟩)
      refine awp_ret ?_
      -- return
      refine aret1 (H' := []) (by exact .inr rfl) rfl (rval_tmp rfl) (Fin.wk (by simp) trivial trivial) ?_
      exact ⟨by rw [hv], rfl⟩
    · have ho2 : ¬ e.op = 2 := of_decide_eq_false hc2
      refine awp_seq ?_
      refine awp_region ?_
      refine al_d rfl rfl rfl (by exact opd_eql rfl rfl rfl) ?_
      refine al_d rfl rfl rfl (by exact opd_assign rfl rfl) ?_
      refine al_nil ?_
      refine awp_cond rfl (fun hc3 => ?_) (fun hc3 => ?_)
      -- cond 3
      · have ho : e.op = 3 := of_decide_eq_true hc3
        have hx : xOf e = ⟨e.op, e.id, sNil, sNil, 0, 0, e.key, e.val, [], zObj⟩ := by rw [xOf, if_neg ho1, if_neg ho2, if_pos ho]
        have hk : okOf e = (gName e.id && (gName e.key && decide ((e.val.size : Int) ≤ 200))) := by rw [okOf, if_neg ho1, if_neg ho2, if_pos ho]
        have hb : (gName e.id && gName e.key && decide ((e.val.size : Int) ≤ 200)) = (gName e.id && (gName e.key && decide ((e.val.size : Int) ≤ 200))) := by rw [Bool.and_assoc]
        have hv : gEditV e = ((gName e.id && gName e.key && decide ((e.val.size : Int) ≤ 200)) && gSameE ⟨e.op, e.id, sNil, sNil, 0, 0, e.key, e.val, [], zObj⟩ e) := by rw [gEditV, hx, hk, hb, ho]; rfl
        apply awp_mergeW (t := 4) (n := 20) (X := gName e.id && gName e.key && decide ((e.val.size : Int) ≤ 200))
        · cases hg58 : (gName e.id : Bool)
          · refine awp_drawc follows ?_
            refine dc_cons (r := ⟨_, some [1], []⟩) (DStep.plain rfl (fun H1 hH => by exact (by exact opd_field_ref rfl fo32_5 rfl ((hH _ rfl).trans rfl) rfl rfl))) rfl ?_
            refine dc_cons (r := ⟨_, some [1], []⟩) (DStep.plain rfl (fun H1 hH => by exact (by exact opd_load1_ref rfl Tryz.isAgg9 rfl ((hH _ rfl).trans rfl) rfl rfl rfl))) rfl ?_
            refine dc_cons (r := ⟨_, some [1], []⟩) (DStep.plain rfl (fun H1 hH => by exact (by exact opd_field_ref rfl fo32_6 rfl ((hH _ rfl).trans rfl) rfl rfl))) rfl ?_
            refine dc_cons (r := ⟨_, some [1], []⟩) (DStep.plain rfl (fun H1 hH => by exact (by exact opd_load1_ref rfl Tryz.isAgg9 rfl ((hH _ rfl).trans rfl) rfl rfl rfl))) rfl ?_
            refine dc_cons (r := ⟨_, some [], []⟩) (DStep.plain rfl (fun H1 hH => by exact opd_move rfl rfl)) rfl ?_
            refine dc_cons (r := ⟨_, some [], []⟩) (DStep.plain rfl (fun H1 hH => by exact opd_move rfl rfl)) rfl ?_
            refine dc_cons (q_off_t rfl rfl rfl (by rfl)) rfl ?_
            refine dc_cons (q_off_t rfl rfl rfl (by rfl)) rfl ?_
            refine dc_cons (q_off_t rfl rfl rfl (by rfl)) rfl ?_
            refine dc_cons (q_off_t rfl rfl rfl (by rfl)) rfl ?_
            refine dc_cons (r := ⟨_, some [], []⟩) (DStep.plain rfl (fun H1 hH => by exact (by exact opd_pick_f rfl rfl rfl))) rfl ?_
            refine dc_cons (r := ⟨_, some [], []⟩) (DStep.plain rfl (fun H1 hH => by exact opd_move rfl rfl)) rfl ?_
            refine dc_cons (q_off_t rfl rfl rfl (by rfl)) rfl ?_
            refine dc_cons (q_off_t rfl rfl rfl (by rfl)) rfl ?_
            refine dc_cons (q_off_t rfl rfl rfl (by rfl)) rfl ?_
            refine dc_cons (q_off_t rfl rfl rfl (by rfl)) rfl ?_
            refine dc_cons (r := ⟨_, some [], []⟩) (DStep.plain rfl (fun H1 hH => by exact (by exact opd_pick_f rfl rfl rfl))) rfl ?_
            refine dc_cons (r := ⟨_, some [3], []⟩) (DStep.plain rfl (fun H1 hH => by exact (by exact opd_field_ref rfl fo32_5 rfl ((hH _ rfl).trans rfl) rfl rfl))) rfl ?_
            refine dc_cons (r := ⟨_, some [3], [_]⟩) (DStep.plain rfl (fun H1 hH => by exact (by exact x_store1 rfl Tryz.sizeOf9 rfl rfl rfl ((hH _ rfl).trans rfl) rfl rfl (Nat.le_of_ble_eq_true rfl) rfl rfl))) rfl ?_
            refine dc_cons (r := ⟨_, some [3], []⟩) (DStep.plain rfl (fun H1 hH => by exact (by exact opd_field_ref rfl fo32_6 rfl ((hH _ rfl).trans rfl) rfl rfl))) rfl ?_
            refine dc_cons (r := ⟨_, some [3], [_]⟩) (DStep.plain rfl (fun H1 hH => by exact (by exact x_store1 rfl Tryz.sizeOf9 rfl rfl rfl ((hH _ rfl).trans rfl) rfl rfl (Nat.le_of_ble_eq_true rfl) rfl rfl))) rfl ?_
            refine dc_cons (r := ⟨_, some [], []⟩) (DStep.plain rfl (fun H1 hH => by exact opd_assign rfl rfl)) rfl ?_
            refine dc_nil ⟨by kernel_rfl, ?_⟩
            exact ⟨rfl, ⟨_, rfl, by rfl⟩, rfl, rfl, rfl⟩
          · cases hg64 : (gName e.key : Bool)
            · refine awp_drawc follows ?_
              refine dc_cons (r := ⟨_, some [1], []⟩) (DStep.plain rfl (fun H1 hH => by exact (by exact opd_field_ref rfl fo32_5 rfl ((hH _ rfl).trans rfl) rfl rfl))) rfl ?_
              refine dc_cons (r := ⟨_, some [1], []⟩) (DStep.plain rfl (fun H1 hH => by exact (by exact opd_load1_ref rfl Tryz.isAgg9 rfl ((hH _ rfl).trans rfl) rfl rfl rfl))) rfl ?_
              refine dc_cons (r := ⟨_, some [1], []⟩) (DStep.plain rfl (fun H1 hH => by exact (by exact opd_field_ref rfl fo32_6 rfl ((hH _ rfl).trans rfl) rfl rfl))) rfl ?_
              refine dc_cons (r := ⟨_, some [1], []⟩) (DStep.plain rfl (fun H1 hH => by exact (by exact opd_load1_ref rfl Tryz.isAgg9 rfl ((hH _ rfl).trans rfl) rfl rfl rfl))) rfl ?_
              refine dc_cons (r := ⟨_, some [], []⟩) (DStep.plain rfl (fun H1 hH => by exact opd_move rfl rfl)) rfl ?_
              refine dc_cons (r := ⟨_, some [], []⟩) (DStep.plain rfl (fun H1 hH => by exact opd_move rfl rfl)) rfl ?_
              refine dc_cons (r := ⟨_, some [1], []⟩) (l_on_t rfl rfl rfl (by rfl) (fun H1 hH => by exact (by exact opd_field_ref rfl fo32_5 rfl ((hH _ rfl).trans rfl) rfl rfl))) rfl ?_
              refine dc_cons (r := ⟨_, some [1], []⟩) (l_on_t rfl rfl rfl (by rfl) (fun H1 hH => by exact (by exact opd_load1_ref rfl Tryz.isAgg9 rfl ((hH _ rfl).trans rfl) rfl rfl rfl))) rfl ?_
              refine dc_cons (r := ⟨_, some [], []⟩) (l_on_t rfl rfl rfl (by rfl) (fun H1 hH => by exact (by exact x_buildSlice ([e.key].map encStr) rfl so27 rfl rfl rfl rfl rfl (by simp [encStr])))) rfl ?_
              refine dc_cons (r := ⟨_, some [], []⟩) (l_on_t rfl rfl rfl (by rfl) (fun H1 hH => by exact opr_call rfl rfl Tryz.call46 rfl (n1_c e.key _ h4))) rfl ?_
              refine dc_cons (r := ⟨_, some [], []⟩) (DStep.plain rfl (fun H1 hH => by exact (by exact opd_pick_t rfl rfl rfl))) rfl ?_
              refine dc_cons (r := ⟨_, some [], []⟩) (DStep.plain rfl (fun H1 hH => by exact opd_move rfl rfl)) rfl ?_
              refine dc_cons (q_off_t rfl rfl rfl (by assumption)) rfl ?_
              refine dc_cons (q_off_t rfl rfl rfl (by assumption)) rfl ?_
              refine dc_cons (q_off_t rfl rfl rfl (by assumption)) rfl ?_
              refine dc_cons (q_off_t rfl rfl rfl (by assumption)) rfl ?_
              refine dc_cons (r := ⟨_, some [], []⟩) (DStep.plain rfl (fun H1 hH => by exact (by exact opd_pickf rfl rfl (by assumption) rfl))) rfl ?_
              refine dc_cons (r := ⟨_, some [3], []⟩) (DStep.plain rfl (fun H1 hH => by exact (by exact opd_field_ref rfl fo32_5 rfl ((hH _ rfl).trans rfl) rfl rfl))) rfl ?_
              refine dc_cons (r := ⟨_, some [3], [_]⟩) (DStep.plain rfl (fun H1 hH => by exact (by exact x_store1 rfl Tryz.sizeOf9 rfl rfl rfl ((hH _ rfl).trans rfl) rfl rfl (Nat.le_of_ble_eq_true rfl) rfl rfl))) rfl ?_
              refine dc_cons (r := ⟨_, some [3], []⟩) (DStep.plain rfl (fun H1 hH => by exact (by exact opd_field_ref rfl fo32_6 rfl ((hH _ rfl).trans rfl) rfl rfl))) rfl ?_
              refine dc_cons (r := ⟨_, some [3], [_]⟩) (DStep.plain rfl (fun H1 hH => by exact (by exact x_store1 rfl Tryz.sizeOf9 rfl rfl rfl ((hH _ rfl).trans rfl) rfl rfl (Nat.le_of_ble_eq_true rfl) rfl rfl))) rfl ?_
              refine dc_cons (r := ⟨_, some [], []⟩) (DStep.plain rfl (fun H1 hH => by exact opd_assign rfl rfl)) rfl ?_
              refine dc_nil ⟨by kernel_rfl, ?_⟩
              exact ⟨rfl, ⟨_, rfl, by rfl⟩, rfl, rfl, rfl⟩
            · refine awp_drawc follows ?_
              refine dc_cons (r := ⟨_, some [1], []⟩) (DStep.plain rfl (fun H1 hH => by exact (by exact opd_field_ref rfl fo32_5 rfl ((hH _ rfl).trans rfl) rfl rfl))) rfl ?_
              refine dc_cons (r := ⟨_, some [1], []⟩) (DStep.plain rfl (fun H1 hH => by exact (by exact opd_load1_ref rfl Tryz.isAgg9 rfl ((hH _ rfl).trans rfl) rfl rfl rfl))) rfl ?_
              refine dc_cons (r := ⟨_, some [1], []⟩) (DStep.plain rfl (fun H1 hH => by exact (by exact opd_field_ref rfl fo32_6 rfl ((hH _ rfl).trans rfl) rfl rfl))) rfl ?_
              refine dc_cons (r := ⟨_, some [1], []⟩) (DStep.plain rfl (fun H1 hH => by exact (by exact opd_load1_ref rfl Tryz.isAgg9 rfl ((hH _ rfl).trans rfl) rfl rfl rfl))) rfl ?_
              refine dc_cons (r := ⟨_, some [], []⟩) (DStep.plain rfl (fun H1 hH => by exact opd_move rfl rfl)) rfl ?_
              refine dc_cons (r := ⟨_, some [], []⟩) (DStep.plain rfl (fun H1 hH => by exact opd_move rfl rfl)) rfl ?_
              refine dc_cons (r := ⟨_, some [1], []⟩) (l_on_t rfl rfl rfl (by rfl) (fun H1 hH => by exact (by exact opd_field_ref rfl fo32_5 rfl ((hH _ rfl).trans rfl) rfl rfl))) rfl ?_
              refine dc_cons (r := ⟨_, some [1], []⟩) (l_on_t rfl rfl rfl (by rfl) (fun H1 hH => by exact (by exact opd_load1_ref rfl Tryz.isAgg9 rfl ((hH _ rfl).trans rfl) rfl rfl rfl))) rfl ?_
              refine dc_cons (r := ⟨_, some [], []⟩) (l_on_t rfl rfl rfl (by rfl) (fun H1 hH => by exact (by exact x_buildSlice ([e.key].map encStr) rfl so27 rfl rfl rfl rfl rfl (by simp [encStr])))) rfl ?_
              refine dc_cons (r := ⟨_, some [], []⟩) (l_on_t rfl rfl rfl (by rfl) (fun H1 hH => by exact opr_call rfl rfl Tryz.call46 rfl (n1_c e.key _ h4))) rfl ?_
              refine dc_cons (r := ⟨_, some [], []⟩) (DStep.plain rfl (fun H1 hH => by exact (by exact opd_pick_t rfl rfl rfl))) rfl ?_
              refine dc_cons (r := ⟨_, some [], []⟩) (DStep.plain rfl (fun H1 hH => by exact opd_move rfl rfl)) rfl ?_
              refine dc_cons (r := ⟨_, some [1], []⟩) (l_on_t rfl rfl rfl (by assumption) (fun H1 hH => by exact (by exact opd_field_ref rfl fo32_6 rfl ((hH _ rfl).trans rfl) rfl rfl))) rfl ?_
              refine dc_cons (r := ⟨_, some [1], []⟩) (l_on_t rfl rfl rfl (by assumption) (fun H1 hH => by exact (by exact opd_load1_ref rfl Tryz.isAgg9 rfl ((hH _ rfl).trans rfl) rfl rfl rfl))) rfl ?_
              refine dc_cons (r := ⟨_, some [], []⟩) (l_on_t rfl rfl rfl (by assumption) (fun H1 hH => by exact opd_len_str rfl Tryz.underlying9 rfl)) rfl ?_
              refine dc_cons (r := ⟨_, some [], []⟩) (l_on_t rfl rfl rfl (by assumption) (fun H1 hH => by exact opd_leq rfl rfl rfl)) rfl ?_
              refine dc_cons (r := ⟨_, some [], []⟩) (DStep.plain rfl (fun H1 hH => by exact (by exact opd_pickt rfl rfl (by assumption) rfl))) rfl ?_
              refine dc_cons (r := ⟨_, some [3], []⟩) (DStep.plain rfl (fun H1 hH => by exact (by exact opd_field_ref rfl fo32_5 rfl ((hH _ rfl).trans rfl) rfl rfl))) rfl ?_
              refine dc_cons (r := ⟨_, some [3], [_]⟩) (DStep.plain rfl (fun H1 hH => by exact (by exact x_store1 rfl Tryz.sizeOf9 rfl rfl rfl ((hH _ rfl).trans rfl) rfl rfl (Nat.le_of_ble_eq_true rfl) rfl rfl))) rfl ?_
              refine dc_cons (r := ⟨_, some [3], []⟩) (DStep.plain rfl (fun H1 hH => by exact (by exact opd_field_ref rfl fo32_6 rfl ((hH _ rfl).trans rfl) rfl rfl))) rfl ?_
              refine dc_cons (r := ⟨_, some [3], [_]⟩) (DStep.plain rfl (fun H1 hH => by exact (by exact x_store1 rfl Tryz.sizeOf9 rfl rfl rfl ((hH _ rfl).trans rfl) rfl rfl (Nat.le_of_ble_eq_true rfl) rfl rfl))) rfl ?_
              refine dc_cons (r := ⟨_, some [], []⟩) (DStep.plain rfl (fun H1 hH => by exact opd_assign rfl rfl)) rfl ?_
              refine dc_nil ⟨by kernel_rfl, ?_⟩
              exact ⟨rfl, ⟨_, rfl, by rfl⟩, rfl, rfl, rfl⟩
        refine awp_seq ?_
        refine awp_bool (t := 2) (n := 8) (X := (gName e.id && gName e.key && decide ((e.val.size : Int) ≤ 200)) && gSameE ⟨e.op, e.id, sNil, sNil, 0, 0, e.key, e.val, [], zObj⟩ e) ?_ ?_
        · all_goals (refine al_d rfl rfl rfl (by exact opd_move rfl rfl) ?_)
          all_goals (refine al_d rfl rfl rfl (by exact opd_move rfl rfl) ?_)
          all_goals (refine al_split (t := 127) rfl (fun h127 => ?_) (fun h127 => ?_))
          all_goals (try contradiction)
          all_goals (first | refine al_off rfl rfl rfl rfl rfl ?_ | refine al_ond rfl rfl rfl rfl rfl rfl (by exact (by exact opd_loadn_ref rfl Tryz.isAgg32 Tryz.sizeOf32 rfl rfl rfl rfl (by simp only [List.drop_succ_cons, List.drop_zero, List.take_succ_cons, List.take_zero, List.take_nil, List.map_cons, List.map_nil, List.set_cons_zero, List.set_cons_succ, List.cons_append, List.nil_append, encTag, encObj, encStr, encEdit, zObj]; rfl) rfl)) ?_)
          all_goals (first | refine al_off rfl rfl rfl rfl rfl ?_ | refine al_ond rfl rfl rfl rfl rfl rfl (by exact (by exact opd_loadn_ref rfl Tryz.isAgg32 Tryz.sizeOf32 rfl rfl rfl rfl (by simp only [List.drop_succ_cons, List.drop_zero, List.take_succ_cons, List.take_zero, List.take_nil, List.map_cons, List.map_nil, List.set_cons_zero, List.set_cons_succ, List.cons_append, List.nil_append, encTag, encObj, encStr, encEdit, zObj]; rfl) rfl)) ?_)
          all_goals (first | refine al_off rfl rfl rfl rfl rfl ?_ | refine al_ond rfl rfl rfl rfl rfl rfl (by exact opr_call rfl rfl Tryz.call48 rfl (sameE_c ⟨e.op, e.id, sNil, sNil, 0, 0, e.key, e.val, [], zObj⟩ e _ (by (show 0 < _; omega)) okS_z)) ?_)
          all_goals (refine al_d rfl rfl rfl (by exact (by first | exact opd_pick_t rfl rfl rfl | exact opd_pick_f rfl rfl rfl)) ?_)
          all_goals (refine al_d rfl rfl rfl (by exact opd_assign rfl rfl) ?_)
          all_goals (refine al_nil ?_)
          all_goals (exact ⟨⟨_, rfl, by (rw [h127]; rfl)⟩, rfl, rfl, rfl⟩)
        refine awp_ret ?_
        -- return
        refine aret1 (H' := []) (by exact .inr rfl) rfl (rval_tmp rfl) (Fin.wk (by simp) trivial trivial) ?_
        exact ⟨by rw [hv], rfl⟩
      · have ho3 : ¬ e.op = 3 := of_decide_eq_false hc3
        refine awp_seq ?_
        refine awp_region ?_
        refine al_d rfl rfl rfl (by exact opd_eql rfl rfl rfl) ?_
        refine al_d rfl rfl rfl (by exact opd_assign rfl rfl) ?_
        refine al_nil ?_
        refine awp_cond rfl (fun hc4 => ?_) (fun hc4 => ?_)
        -- cond 4
        · have ho : e.op = 4 := of_decide_eq_true hc4
          have hx : xOf e = ⟨e.op, e.id, sNil, sNil, 0, 0, sNil, sNil, e.refs, zObj⟩ := by rw [xOf, if_neg ho1, if_neg ho2, if_neg ho3, if_pos ho]
          have hk : okOf e = (gName e.id && (decide ((0 : Int) < (e.refs.length : Int)) && decide ((e.refs.length : Int) ≤ 2000) && e.refs.all gName)) := by rw [okOf, if_neg ho1, if_neg ho2, if_neg ho3, if_pos ho]
          have hb : (gName e.id && decide ((0 : Int) < ((e.refs.map encStr).length : Int)) && decide (((e.refs.map encStr).length : Int) ≤ 2000) && e.refs.all gName) = (gName e.id && (decide ((0 : Int) < (e.refs.length : Int)) && decide ((e.refs.length : Int) ≤ 2000) && e.refs.all gName)) := by rw [hrl]; simp only [Bool.and_assoc]
          have hv : gEditV e = ((gName e.id && decide ((0 : Int) < ((e.refs.map encStr).length : Int)) && decide (((e.refs.map encStr).length : Int) ≤ 2000) && e.refs.all gName) && gSameE ⟨e.op, e.id, sNil, sNil, 0, 0, sNil, sNil, e.refs, zObj⟩ e) := by rw [gEditV, hx, hk, hb, ho]; rfl
          apply awp_mergeW (t := 4) (n := 22) (X := gName e.id && decide ((0 : Int) < ((e.refs.map encStr).length : Int)) && decide (((e.refs.map encStr).length : Int) ≤ 2000) && e.refs.all gName)
          · cases hg77 : (gName e.id : Bool)
            · refine awp_drawc follows ?_
              refine dc_cons (r := ⟨_, some [1], []⟩) (DStep.plain rfl (fun H1 hH => by exact (by exact opd_field_ref rfl fo32_7 rfl ((hH _ rfl).trans rfl) rfl rfl))) rfl ?_
              refine dc_cons (r := ⟨_, some [1], []⟩) (DStep.plain rfl (fun H1 hH => by exact (by exact opd_load1_ref rfl Tryz.isAgg27 rfl ((hH _ rfl).trans rfl) rfl rfl rfl))) rfl ?_
              refine dc_cons (r := ⟨_, some [], []⟩) (DStep.plain rfl (fun H1 hH => by exact opd_move rfl rfl)) rfl ?_
              refine dc_cons (r := ⟨_, some [], []⟩) (DStep.plain rfl (fun H1 hH => by exact opd_move rfl rfl)) rfl ?_
              refine dc_cons (q_off_t rfl rfl rfl (by rfl)) rfl ?_
              refine dc_cons (q_off_t rfl rfl rfl (by rfl)) rfl ?_
              refine dc_cons (q_off_t rfl rfl rfl (by rfl)) rfl ?_
              refine dc_cons (q_off_t rfl rfl rfl (by rfl)) rfl ?_
              refine dc_cons (r := ⟨_, some [], []⟩) (DStep.plain rfl (fun H1 hH => by exact (by exact opd_pick_f rfl rfl rfl))) rfl ?_
              refine dc_cons (r := ⟨_, some [], []⟩) (DStep.plain rfl (fun H1 hH => by exact opd_move rfl rfl)) rfl ?_
              refine dc_cons (q_off_t rfl rfl rfl (by rfl)) rfl ?_
              refine dc_cons (q_off_t rfl rfl rfl (by rfl)) rfl ?_
              refine dc_cons (q_off_t rfl rfl rfl (by rfl)) rfl ?_
              refine dc_cons (q_off_t rfl rfl rfl (by rfl)) rfl ?_
              refine dc_cons (r := ⟨_, some [], []⟩) (DStep.plain rfl (fun H1 hH => by exact (by exact opd_pick_f rfl rfl rfl))) rfl ?_
              refine dc_cons (r := ⟨_, some [], []⟩) (DStep.plain rfl (fun H1 hH => by exact opd_move rfl rfl)) rfl ?_
              refine dc_cons (q_off_t rfl rfl rfl (by rfl)) rfl ?_
              refine dc_cons (q_off_t rfl rfl rfl (by rfl)) rfl ?_
              refine dc_cons (q_off_t rfl rfl rfl (by rfl)) rfl ?_
              refine dc_cons (r := ⟨_, some [], []⟩) (DStep.plain rfl (fun H1 hH => by exact (by exact opd_pick_f rfl rfl rfl))) rfl ?_
              refine dc_cons (r := ⟨_, some [3], []⟩) (DStep.plain rfl (fun H1 hH => by exact (by exact opd_field_ref rfl fo32_7 rfl ((hH _ rfl).trans rfl) rfl rfl))) rfl ?_
              refine dc_cons (r := ⟨_, some [3], [_]⟩) (DStep.plain rfl (fun H1 hH => by exact (by exact x_store1 rfl Tryz.sizeOf27 rfl rfl rfl ((hH _ rfl).trans rfl) rfl rfl (Nat.le_of_ble_eq_true rfl) rfl rfl))) rfl ?_
              refine dc_cons (r := ⟨_, some [], []⟩) (DStep.plain rfl (fun H1 hH => by exact opd_assign rfl rfl)) rfl ?_
              refine dc_nil ⟨by kernel_rfl, ?_⟩
              exact ⟨rfl, ⟨_, rfl, by rfl⟩, rfl, rfl, rfl⟩
            · cases hg83 : (decide ((0 : Int) < ((e.refs.map encStr).length : Int)) : Bool)
              · refine awp_drawc follows ?_
                refine dc_cons (r := ⟨_, some [1], []⟩) (DStep.plain rfl (fun H1 hH => by exact (by exact opd_field_ref rfl fo32_7 rfl ((hH _ rfl).trans rfl) rfl rfl))) rfl ?_
                refine dc_cons (r := ⟨_, some [1], []⟩) (DStep.plain rfl (fun H1 hH => by exact (by exact opd_load1_ref rfl Tryz.isAgg27 rfl ((hH _ rfl).trans rfl) rfl rfl rfl))) rfl ?_
                refine dc_cons (r := ⟨_, some [], []⟩) (DStep.plain rfl (fun H1 hH => by exact opd_move rfl rfl)) rfl ?_
                refine dc_cons (r := ⟨_, some [], []⟩) (DStep.plain rfl (fun H1 hH => by exact opd_move rfl rfl)) rfl ?_
                refine dc_cons (r := ⟨_, some [1], []⟩) (l_on_t rfl rfl rfl (by rfl) (fun H1 hH => by exact (by exact opd_field_ref rfl fo32_7 rfl ((hH _ rfl).trans rfl) rfl rfl))) rfl ?_
                refine dc_cons (r := ⟨_, some [1], []⟩) (l_on_t rfl rfl rfl (by rfl) (fun H1 hH => by exact (by exact opd_load1_ref rfl Tryz.isAgg27 rfl ((hH _ rfl).trans rfl) rfl rfl rfl))) rfl ?_
                refine dc_cons (r := ⟨_, some [], []⟩) (l_on_t rfl rfl rfl (by rfl) (fun H1 hH => by exact (by exact opd_len_sl rfl Tryz.underlying27 rfl))) rfl ?_
                refine dc_cons (r := ⟨_, some [], []⟩) (l_on_t rfl rfl rfl (by rfl) (fun H1 hH => by exact opd_gtr rfl rfl rfl)) rfl ?_
                refine dc_cons (r := ⟨_, some [], []⟩) (DStep.plain rfl (fun H1 hH => by exact (by exact opd_pick_t rfl rfl rfl))) rfl ?_
                refine dc_cons (r := ⟨_, some [], []⟩) (DStep.plain rfl (fun H1 hH => by exact opd_move rfl rfl)) rfl ?_
                refine dc_cons (q_off_t rfl rfl rfl (by assumption)) rfl ?_
                refine dc_cons (q_off_t rfl rfl rfl (by assumption)) rfl ?_
                refine dc_cons (q_off_t rfl rfl rfl (by assumption)) rfl ?_
                refine dc_cons (q_off_t rfl rfl rfl (by assumption)) rfl ?_
                refine dc_cons (r := ⟨_, some [], []⟩) (DStep.plain rfl (fun H1 hH => by exact (by exact opd_pickf rfl rfl (by assumption) rfl))) rfl ?_
                refine dc_cons (r := ⟨_, some [], []⟩) (DStep.plain rfl (fun H1 hH => by exact opd_move rfl rfl)) rfl ?_
                refine dc_cons (q_off_t rfl rfl rfl (by rfl)) rfl ?_
                refine dc_cons (q_off_t rfl rfl rfl (by rfl)) rfl ?_
                refine dc_cons (q_off_t rfl rfl rfl (by rfl)) rfl ?_
                refine dc_cons (r := ⟨_, some [], []⟩) (DStep.plain rfl (fun H1 hH => by exact (by exact opd_pick_f rfl rfl rfl))) rfl ?_
                refine dc_cons (r := ⟨_, some [3], []⟩) (DStep.plain rfl (fun H1 hH => by exact (by exact opd_field_ref rfl fo32_7 rfl ((hH _ rfl).trans rfl) rfl rfl))) rfl ?_
                refine dc_cons (r := ⟨_, some [3], [_]⟩) (DStep.plain rfl (fun H1 hH => by exact (by exact x_store1 rfl Tryz.sizeOf27 rfl rfl rfl ((hH _ rfl).trans rfl) rfl rfl (Nat.le_of_ble_eq_true rfl) rfl rfl))) rfl ?_
                refine dc_cons (r := ⟨_, some [], []⟩) (DStep.plain rfl (fun H1 hH => by exact opd_assign rfl rfl)) rfl ?_
                refine dc_nil ⟨by kernel_rfl, ?_⟩
                exact ⟨rfl, ⟨_, rfl, by rfl⟩, rfl, rfl, rfl⟩
              · cases hg89 : (decide (((e.refs.map encStr).length : Int) ≤ 2000) : Bool)
                · refine awp_drawc follows ?_
                  refine dc_cons (r := ⟨_, some [1], []⟩) (DStep.plain rfl (fun H1 hH => by exact (by exact opd_field_ref rfl fo32_7 rfl ((hH _ rfl).trans rfl) rfl rfl))) rfl ?_
                  refine dc_cons (r := ⟨_, some [1], []⟩) (DStep.plain rfl (fun H1 hH => by exact (by exact opd_load1_ref rfl Tryz.isAgg27 rfl ((hH _ rfl).trans rfl) rfl rfl rfl))) rfl ?_
                  refine dc_cons (r := ⟨_, some [], []⟩) (DStep.plain rfl (fun H1 hH => by exact opd_move rfl rfl)) rfl ?_
                  refine dc_cons (r := ⟨_, some [], []⟩) (DStep.plain rfl (fun H1 hH => by exact opd_move rfl rfl)) rfl ?_
                  refine dc_cons (r := ⟨_, some [1], []⟩) (l_on_t rfl rfl rfl (by rfl) (fun H1 hH => by exact (by exact opd_field_ref rfl fo32_7 rfl ((hH _ rfl).trans rfl) rfl rfl))) rfl ?_
                  refine dc_cons (r := ⟨_, some [1], []⟩) (l_on_t rfl rfl rfl (by rfl) (fun H1 hH => by exact (by exact opd_load1_ref rfl Tryz.isAgg27 rfl ((hH _ rfl).trans rfl) rfl rfl rfl))) rfl ?_
                  refine dc_cons (r := ⟨_, some [], []⟩) (l_on_t rfl rfl rfl (by rfl) (fun H1 hH => by exact (by exact opd_len_sl rfl Tryz.underlying27 rfl))) rfl ?_
                  refine dc_cons (r := ⟨_, some [], []⟩) (l_on_t rfl rfl rfl (by rfl) (fun H1 hH => by exact opd_gtr rfl rfl rfl)) rfl ?_
                  refine dc_cons (r := ⟨_, some [], []⟩) (DStep.plain rfl (fun H1 hH => by exact (by exact opd_pick_t rfl rfl rfl))) rfl ?_
                  refine dc_cons (r := ⟨_, some [], []⟩) (DStep.plain rfl (fun H1 hH => by exact opd_move rfl rfl)) rfl ?_
                  refine dc_cons (r := ⟨_, some [1], []⟩) (l_on_t rfl rfl rfl (by assumption) (fun H1 hH => by exact (by exact opd_field_ref rfl fo32_7 rfl ((hH _ rfl).trans rfl) rfl rfl))) rfl ?_
                  refine dc_cons (r := ⟨_, some [1], []⟩) (l_on_t rfl rfl rfl (by assumption) (fun H1 hH => by exact (by exact opd_load1_ref rfl Tryz.isAgg27 rfl ((hH _ rfl).trans rfl) rfl rfl rfl))) rfl ?_
                  refine dc_cons (r := ⟨_, some [], []⟩) (l_on_t rfl rfl rfl (by assumption) (fun H1 hH => by exact (by exact opd_len_sl rfl Tryz.underlying27 rfl))) rfl ?_
                  refine dc_cons (r := ⟨_, some [], []⟩) (l_on_t rfl rfl rfl (by assumption) (fun H1 hH => by exact opd_leq rfl rfl rfl)) rfl ?_
                  refine dc_cons (r := ⟨_, some [], []⟩) (DStep.plain rfl (fun H1 hH => by exact (by exact opd_pickt rfl rfl (by assumption) rfl))) rfl ?_
                  refine dc_cons (r := ⟨_, some [], []⟩) (DStep.plain rfl (fun H1 hH => by exact opd_move rfl rfl)) rfl ?_
                  refine dc_cons (q_off_t rfl rfl rfl (by assumption)) rfl ?_
                  refine dc_cons (q_off_t rfl rfl rfl (by assumption)) rfl ?_
                  refine dc_cons (q_off_t rfl rfl rfl (by assumption)) rfl ?_
                  refine dc_cons (r := ⟨_, some [], []⟩) (DStep.plain rfl (fun H1 hH => by exact (by exact opd_pickf rfl rfl (by assumption) rfl))) rfl ?_
                  refine dc_cons (r := ⟨_, some [3], []⟩) (DStep.plain rfl (fun H1 hH => by exact (by exact opd_field_ref rfl fo32_7 rfl ((hH _ rfl).trans rfl) rfl rfl))) rfl ?_
                  refine dc_cons (r := ⟨_, some [3], [_]⟩) (DStep.plain rfl (fun H1 hH => by exact (by exact x_store1 rfl Tryz.sizeOf27 rfl rfl rfl ((hH _ rfl).trans rfl) rfl rfl (Nat.le_of_ble_eq_true rfl) rfl rfl))) rfl ?_
                  refine dc_cons (r := ⟨_, some [], []⟩) (DStep.plain rfl (fun H1 hH => by exact opd_assign rfl rfl)) rfl ?_
                  refine dc_nil ⟨by kernel_rfl, ?_⟩
                  exact ⟨rfl, ⟨_, rfl, by rfl⟩, rfl, rfl, rfl⟩
                · refine awp_drawc follows ?_
                  refine dc_cons (r := ⟨_, some [1], []⟩) (DStep.plain rfl (fun H1 hH => by exact (by exact opd_field_ref rfl fo32_7 rfl ((hH _ rfl).trans rfl) rfl rfl))) rfl ?_
                  refine dc_cons (r := ⟨_, some [1], []⟩) (DStep.plain rfl (fun H1 hH => by exact (by exact opd_load1_ref rfl Tryz.isAgg27 rfl ((hH _ rfl).trans rfl) rfl rfl rfl))) rfl ?_
                  refine dc_cons (r := ⟨_, some [], []⟩) (DStep.plain rfl (fun H1 hH => by exact opd_move rfl rfl)) rfl ?_
                  refine dc_cons (r := ⟨_, some [], []⟩) (DStep.plain rfl (fun H1 hH => by exact opd_move rfl rfl)) rfl ?_
                  refine dc_cons (r := ⟨_, some [1], []⟩) (l_on_t rfl rfl rfl (by rfl) (fun H1 hH => by exact (by exact opd_field_ref rfl fo32_7 rfl ((hH _ rfl).trans rfl) rfl rfl))) rfl ?_
                  refine dc_cons (r := ⟨_, some [1], []⟩) (l_on_t rfl rfl rfl (by rfl) (fun H1 hH => by exact (by exact opd_load1_ref rfl Tryz.isAgg27 rfl ((hH _ rfl).trans rfl) rfl rfl rfl))) rfl ?_
                  refine dc_cons (r := ⟨_, some [], []⟩) (l_on_t rfl rfl rfl (by rfl) (fun H1 hH => by exact (by exact opd_len_sl rfl Tryz.underlying27 rfl))) rfl ?_
                  refine dc_cons (r := ⟨_, some [], []⟩) (l_on_t rfl rfl rfl (by rfl) (fun H1 hH => by exact opd_gtr rfl rfl rfl)) rfl ?_
                  refine dc_cons (r := ⟨_, some [], []⟩) (DStep.plain rfl (fun H1 hH => by exact (by exact opd_pick_t rfl rfl rfl))) rfl ?_
                  refine dc_cons (r := ⟨_, some [], []⟩) (DStep.plain rfl (fun H1 hH => by exact opd_move rfl rfl)) rfl ?_
                  refine dc_cons (r := ⟨_, some [1], []⟩) (l_on_t rfl rfl rfl (by assumption) (fun H1 hH => by exact (by exact opd_field_ref rfl fo32_7 rfl ((hH _ rfl).trans rfl) rfl rfl))) rfl ?_
                  refine dc_cons (r := ⟨_, some [1], []⟩) (l_on_t rfl rfl rfl (by assumption) (fun H1 hH => by exact (by exact opd_load1_ref rfl Tryz.isAgg27 rfl ((hH _ rfl).trans rfl) rfl rfl rfl))) rfl ?_
                  refine dc_cons (r := ⟨_, some [], []⟩) (l_on_t rfl rfl rfl (by assumption) (fun H1 hH => by exact (by exact opd_len_sl rfl Tryz.underlying27 rfl))) rfl ?_
                  refine dc_cons (r := ⟨_, some [], []⟩) (l_on_t rfl rfl rfl (by assumption) (fun H1 hH => by exact opd_leq rfl rfl rfl)) rfl ?_
                  refine dc_cons (r := ⟨_, some [], []⟩) (DStep.plain rfl (fun H1 hH => by exact (by exact opd_pickt rfl rfl (by assumption) rfl))) rfl ?_
                  refine dc_cons (r := ⟨_, some [], []⟩) (DStep.plain rfl (fun H1 hH => by exact opd_move rfl rfl)) rfl ?_
                  refine dc_cons (r := ⟨_, some [1], []⟩) (l_on_t rfl rfl rfl (by assumption) (fun H1 hH => by exact (by exact opd_field_ref rfl fo32_7 rfl ((hH _ rfl).trans rfl) rfl rfl))) rfl ?_
                  refine dc_cons (r := ⟨_, some [1], []⟩) (l_on_t rfl rfl rfl (by assumption) (fun H1 hH => by exact (by exact opd_load1_ref rfl Tryz.isAgg27 rfl ((hH _ rfl).trans rfl) rfl rfl rfl))) rfl ?_
                  refine dc_cons (r := ⟨_, some [], []⟩) (l_on_t rfl rfl rfl (by assumption) (fun H1 hH => by exact opr_call rfl rfl Tryz.call46 rfl (names_c e.refs _ h5 h6))) rfl ?_
                  refine dc_cons (r := ⟨_, some [], []⟩) (DStep.plain rfl (fun H1 hH => by exact (by exact opd_pickt rfl rfl (by assumption) rfl))) rfl ?_
                  refine dc_cons (r := ⟨_, some [3], []⟩) (DStep.plain rfl (fun H1 hH => by exact (by exact opd_field_ref rfl fo32_7 rfl ((hH _ rfl).trans rfl) rfl rfl))) rfl ?_
                  refine dc_cons (r := ⟨_, some [3], [_]⟩) (DStep.plain rfl (fun H1 hH => by exact (by exact x_store1 rfl Tryz.sizeOf27 rfl rfl rfl ((hH _ rfl).trans rfl) rfl rfl (Nat.le_of_ble_eq_true rfl) rfl rfl))) rfl ?_
                  refine dc_cons (r := ⟨_, some [], []⟩) (DStep.plain rfl (fun H1 hH => by exact opd_assign rfl rfl)) rfl ?_
                  refine dc_nil ⟨by kernel_rfl, ?_⟩
                  exact ⟨rfl, ⟨_, rfl, by rfl⟩, rfl, rfl, rfl⟩
          refine awp_seq ?_
          refine awp_bool (t := 2) (n := 8) (X := (gName e.id && decide ((0 : Int) < ((e.refs.map encStr).length : Int)) && decide (((e.refs.map encStr).length : Int) ≤ 2000) && e.refs.all gName) && gSameE ⟨e.op, e.id, sNil, sNil, 0, 0, sNil, sNil, e.refs, zObj⟩ e) ?_ ?_
          · all_goals (refine al_d rfl rfl rfl (by exact opd_move rfl rfl) ?_)
            all_goals (refine al_d rfl rfl rfl (by exact opd_move rfl rfl) ?_)
            all_goals (refine al_split (t := 127) rfl (fun h127 => ?_) (fun h127 => ?_))
            all_goals (try contradiction)
            all_goals (first | refine al_off rfl rfl rfl rfl rfl ?_ | refine al_ond rfl rfl rfl rfl rfl rfl (by exact (by exact opd_loadn_ref rfl Tryz.isAgg32 Tryz.sizeOf32 rfl rfl rfl rfl (by simp only [List.drop_succ_cons, List.drop_zero, List.take_succ_cons, List.take_zero, List.take_nil, List.map_cons, List.map_nil, List.set_cons_zero, List.set_cons_succ, List.cons_append, List.nil_append, encTag, encObj, encStr, encEdit, zObj]; rfl) rfl)) ?_)
            all_goals (first | refine al_off rfl rfl rfl rfl rfl ?_ | refine al_ond rfl rfl rfl rfl rfl rfl (by exact (by exact opd_loadn_ref rfl Tryz.isAgg32 Tryz.sizeOf32 rfl rfl rfl rfl (by simp only [List.drop_succ_cons, List.drop_zero, List.take_succ_cons, List.take_zero, List.take_nil, List.map_cons, List.map_nil, List.set_cons_zero, List.set_cons_succ, List.cons_append, List.nil_append, encTag, encObj, encStr, encEdit, zObj]; rfl) rfl)) ?_)
            all_goals (first | refine al_off rfl rfl rfl rfl rfl ?_ | refine al_ond rfl rfl rfl rfl rfl rfl (by exact opr_call rfl rfl Tryz.call48 rfl (sameE_c ⟨e.op, e.id, sNil, sNil, 0, 0, sNil, sNil, e.refs, zObj⟩ e _ (by exact h5) okS_z)) ?_)
            all_goals (refine al_d rfl rfl rfl (by exact (by first | exact opd_pick_t rfl rfl rfl | exact opd_pick_f rfl rfl rfl)) ?_)
            all_goals (refine al_d rfl rfl rfl (by exact opd_assign rfl rfl) ?_)
            all_goals (refine al_nil ?_)
            all_goals (exact ⟨⟨_, rfl, by (rw [h127]; rfl)⟩, rfl, rfl, rfl⟩)
          refine awp_ret ?_
          -- return
          refine aret1 (H' := []) (by exact .inr rfl) rfl (rval_tmp rfl) (Fin.wk (by simp) trivial trivial) ?_
          exact ⟨by rw [hv], rfl⟩
        · have ho4 : ¬ e.op = 4 := of_decide_eq_false hc4
          refine awp_seq ?_
          refine awp_region ?_
          refine al_d rfl rfl rfl (by exact opd_eql rfl rfl rfl) ?_
          refine al_d rfl rfl rfl (by exact opd_assign rfl rfl) ?_
          refine al_nil ?_
          refine awp_cond rfl (fun hc5 => ?_) (fun hc5 => ?_)
          -- cond 5
          · have ho : e.op = 5 := of_decide_eq_true hc5
            have hx : xOf e = ⟨e.op, e.id, sNil, sNil, 0, 0, sNil, sNil, [], zObj⟩ := by rw [xOf, if_neg ho1, if_neg ho2, if_neg ho3, if_neg ho4, if_pos ho]
            have hk : okOf e = (gName e.id) := by rw [okOf, if_neg ho1, if_neg ho2, if_neg ho3, if_neg ho4, if_pos ho]; simp
            have hv : gEditV e = ((gName e.id) && gSameE ⟨e.op, e.id, sNil, sNil, 0, 0, sNil, sNil, [], zObj⟩ e) := by rw [gEditV, hx, hk, ho]; rfl
            refine awp_skip ?_
            refine awp_seq ?_
            refine awp_bool (t := 2) (n := 8) (X := (gName e.id) && gSameE ⟨e.op, e.id, sNil, sNil, 0, 0, sNil, sNil, [], zObj⟩ e) ?_ ?_
            · all_goals (refine al_d rfl rfl rfl (by exact opd_move rfl rfl) ?_)
              all_goals (refine al_d rfl rfl rfl (by exact opd_move rfl rfl) ?_)
              all_goals (refine al_split (t := 127) rfl (fun h127 => ?_) (fun h127 => ?_))
              all_goals (try contradiction)
              all_goals (first | refine al_off rfl rfl rfl rfl rfl ?_ | refine al_ond rfl rfl rfl rfl rfl rfl (by exact (by exact opd_loadn_ref rfl Tryz.isAgg32 Tryz.sizeOf32 rfl rfl rfl rfl (by simp only [List.drop_succ_cons, List.drop_zero, List.take_succ_cons, List.take_zero, List.take_nil, List.map_cons, List.map_nil, List.set_cons_zero, List.set_cons_succ, List.cons_append, List.nil_append, encTag, encObj, encStr, encEdit, zObj]; rfl) rfl)) ?_)
              all_goals (first | refine al_off rfl rfl rfl rfl rfl ?_ | refine al_ond rfl rfl rfl rfl rfl rfl (by exact (by exact opd_loadn_ref rfl Tryz.isAgg32 Tryz.sizeOf32 rfl rfl rfl rfl (by simp only [List.drop_succ_cons, List.drop_zero, List.take_succ_cons, List.take_zero, List.take_nil, List.map_cons, List.map_nil, List.set_cons_zero, List.set_cons_succ, List.cons_append, List.nil_append, encTag, encObj, encStr, encEdit, zObj]; rfl) rfl)) ?_)
              all_goals (first | refine al_off rfl rfl rfl rfl rfl ?_ | refine al_ond rfl rfl rfl rfl rfl rfl (by exact opr_call rfl rfl Tryz.call48 rfl (sameE_c ⟨e.op, e.id, sNil, sNil, 0, 0, sNil, sNil, [], zObj⟩ e _ (by (show 0 < _; omega)) okS_z)) ?_)
              all_goals (refine al_d rfl rfl rfl (by exact (by first | exact opd_pick_t rfl rfl rfl | exact opd_pick_f rfl rfl rfl)) ?_)
              all_goals (refine al_d rfl rfl rfl (by exact opd_assign rfl rfl) ?_)
              all_goals (refine al_nil ?_)
              all_goals (exact ⟨⟨_, rfl, by (rw [h127]; rfl)⟩, rfl, rfl, rfl⟩)
            refine awp_ret ?_
            -- return
            refine aret1 (H' := []) (by exact .inr rfl) rfl (rval_tmp rfl) (Fin.wk (by simp) trivial trivial) ?_
            exact ⟨by rw [hv], rfl⟩
          · have ho5 : ¬ e.op = 5 := of_decide_eq_false hc5
            refine awp_seq ?_
            refine awp_region ?_
            refine al_d rfl rfl rfl (by exact opd_eql rfl rfl rfl) ?_
            refine al_d rfl rfl rfl (by exact opd_assign rfl rfl) ?_
            refine al_nil ?_
            refine awp_cond rfl (fun hc6 => ?_) (fun hc6 => ?_)
            -- cond 6
            · have ho : e.op = 6 := of_decide_eq_true hc6
              have hx : xOf e = ⟨e.op, e.id, e.other, e.node, 0, 0, sNil, sNil, [], zObj⟩ := by rw [xOf, if_neg ho1, if_neg ho2, if_neg ho3, if_neg ho4, if_neg ho5, if_pos ho]
              have hk : okOf e = (gName e.id && (gName e.node && gName e.other)) := by rw [okOf, if_neg ho1, if_neg ho2, if_neg ho3, if_neg ho4, if_neg ho5, if_pos ho]
              have hb : (gName e.id && (gName e.node && gName e.other)) = (gName e.id && (gName e.node && gName e.other)) := by rfl
              have hv : gEditV e = ((gName e.id && (gName e.node && gName e.other)) && gSameE ⟨e.op, e.id, e.other, e.node, 0, 0, sNil, sNil, [], zObj⟩ e) := by rw [gEditV, hx, hk, hb, ho]; rfl
              apply awp_mergeW (t := 4) (n := 16) (X := gName e.id && (gName e.node && gName e.other))
              · cases hg104 : (gName e.id : Bool)
                · refine awp_drawc follows ?_
                  refine dc_cons (r := ⟨_, some [1], []⟩) (DStep.plain rfl (fun H1 hH => by exact (by exact opd_field_ref rfl fo32_3 rfl ((hH _ rfl).trans rfl) rfl rfl))) rfl ?_
                  refine dc_cons (r := ⟨_, some [1], []⟩) (DStep.plain rfl (fun H1 hH => by exact (by exact opd_load1_ref rfl Tryz.isAgg9 rfl ((hH _ rfl).trans rfl) rfl rfl rfl))) rfl ?_
                  refine dc_cons (r := ⟨_, some [1], []⟩) (DStep.plain rfl (fun H1 hH => by exact (by exact opd_field_ref rfl fo32_2 rfl ((hH _ rfl).trans rfl) rfl rfl))) rfl ?_
                  refine dc_cons (r := ⟨_, some [1], []⟩) (DStep.plain rfl (fun H1 hH => by exact (by exact opd_load1_ref rfl Tryz.isAgg9 rfl ((hH _ rfl).trans rfl) rfl rfl rfl))) rfl ?_
                  refine dc_cons (r := ⟨_, some [], []⟩) (DStep.plain rfl (fun H1 hH => by exact opd_move rfl rfl)) rfl ?_
                  refine dc_cons (r := ⟨_, some [], []⟩) (DStep.plain rfl (fun H1 hH => by exact opd_move rfl rfl)) rfl ?_
                  refine dc_cons (q_off_t rfl rfl rfl (by rfl)) rfl ?_
                  refine dc_cons (q_off_t rfl rfl rfl (by rfl)) rfl ?_
                  refine dc_cons (q_off_t rfl rfl rfl (by rfl)) rfl ?_
                  refine dc_cons (q_off_t rfl rfl rfl (by rfl)) rfl ?_
                  refine dc_cons (q_off_t rfl rfl rfl (by rfl)) rfl ?_
                  refine dc_cons (q_off_t rfl rfl rfl (by rfl)) rfl ?_
                  refine dc_cons (r := ⟨_, some [], []⟩) (DStep.plain rfl (fun H1 hH => by exact (by exact opd_pick_f rfl rfl rfl))) rfl ?_
                  refine dc_cons (r := ⟨_, some [3], []⟩) (DStep.plain rfl (fun H1 hH => by exact (by exact opd_field_ref rfl fo32_3 rfl ((hH _ rfl).trans rfl) rfl rfl))) rfl ?_
                  refine dc_cons (r := ⟨_, some [3], [_]⟩) (DStep.plain rfl (fun H1 hH => by exact (by exact x_store1 rfl Tryz.sizeOf9 rfl rfl rfl ((hH _ rfl).trans rfl) rfl rfl (Nat.le_of_ble_eq_true rfl) rfl rfl))) rfl ?_
                  refine dc_cons (r := ⟨_, some [3], []⟩) (DStep.plain rfl (fun H1 hH => by exact (by exact opd_field_ref rfl fo32_2 rfl ((hH _ rfl).trans rfl) rfl rfl))) rfl ?_
                  refine dc_cons (r := ⟨_, some [3], [_]⟩) (DStep.plain rfl (fun H1 hH => by exact (by exact x_store1 rfl Tryz.sizeOf9 rfl rfl rfl ((hH _ rfl).trans rfl) rfl rfl (Nat.le_of_ble_eq_true rfl) rfl rfl))) rfl ?_
                  refine dc_cons (r := ⟨_, some [], []⟩) (DStep.plain rfl (fun H1 hH => by exact opd_assign rfl rfl)) rfl ?_
                  refine dc_nil ⟨by kernel_rfl, ?_⟩
                  exact ⟨rfl, ⟨_, rfl, by rfl⟩, rfl, rfl, rfl⟩
                · refine awp_drawc follows ?_
                  refine dc_cons (r := ⟨_, some [1], []⟩) (DStep.plain rfl (fun H1 hH => by exact (by exact opd_field_ref rfl fo32_3 rfl ((hH _ rfl).trans rfl) rfl rfl))) rfl ?_
                  refine dc_cons (r := ⟨_, some [1], []⟩) (DStep.plain rfl (fun H1 hH => by exact (by exact opd_load1_ref rfl Tryz.isAgg9 rfl ((hH _ rfl).trans rfl) rfl rfl rfl))) rfl ?_
                  refine dc_cons (r := ⟨_, some [1], []⟩) (DStep.plain rfl (fun H1 hH => by exact (by exact opd_field_ref rfl fo32_2 rfl ((hH _ rfl).trans rfl) rfl rfl))) rfl ?_
                  refine dc_cons (r := ⟨_, some [1], []⟩) (DStep.plain rfl (fun H1 hH => by exact (by exact opd_load1_ref rfl Tryz.isAgg9 rfl ((hH _ rfl).trans rfl) rfl rfl rfl))) rfl ?_
                  refine dc_cons (r := ⟨_, some [], []⟩) (DStep.plain rfl (fun H1 hH => by exact opd_move rfl rfl)) rfl ?_
                  refine dc_cons (r := ⟨_, some [], []⟩) (DStep.plain rfl (fun H1 hH => by exact opd_move rfl rfl)) rfl ?_
                  refine dc_cons (r := ⟨_, some [1], []⟩) (l_on_t rfl rfl rfl (by rfl) (fun H1 hH => by exact (by exact opd_field_ref rfl fo32_3 rfl ((hH _ rfl).trans rfl) rfl rfl))) rfl ?_
                  refine dc_cons (r := ⟨_, some [1], []⟩) (l_on_t rfl rfl rfl (by rfl) (fun H1 hH => by exact (by exact opd_load1_ref rfl Tryz.isAgg9 rfl ((hH _ rfl).trans rfl) rfl rfl rfl))) rfl ?_
                  refine dc_cons (r := ⟨_, some [1], []⟩) (l_on_t rfl rfl rfl (by rfl) (fun H1 hH => by exact (by exact opd_field_ref rfl fo32_2 rfl ((hH _ rfl).trans rfl) rfl rfl))) rfl ?_
                  refine dc_cons (r := ⟨_, some [1], []⟩) (l_on_t rfl rfl rfl (by rfl) (fun H1 hH => by exact (by exact opd_load1_ref rfl Tryz.isAgg9 rfl ((hH _ rfl).trans rfl) rfl rfl rfl))) rfl ?_
                  refine dc_cons (r := ⟨_, some [], []⟩) (l_on_t rfl rfl rfl (by rfl) (fun H1 hH => by exact (by exact x_buildSlice ([e.node, e.other].map encStr) rfl so27 rfl rfl rfl rfl rfl (by simp [encStr])))) rfl ?_
                  refine dc_cons (r := ⟨_, some [], []⟩) (l_on_t rfl rfl rfl (by rfl) (fun H1 hH => by exact opr_call rfl rfl Tryz.call46 rfl (n2_c e.node e.other _ h3 h2))) rfl ?_
                  refine dc_cons (r := ⟨_, some [], []⟩) (DStep.plain rfl (fun H1 hH => by exact (by exact opd_pick_t rfl rfl rfl))) rfl ?_
                  refine dc_cons (r := ⟨_, some [3], []⟩) (DStep.plain rfl (fun H1 hH => by exact (by exact opd_field_ref rfl fo32_3 rfl ((hH _ rfl).trans rfl) rfl rfl))) rfl ?_
                  refine dc_cons (r := ⟨_, some [3], [_]⟩) (DStep.plain rfl (fun H1 hH => by exact (by exact x_store1 rfl Tryz.sizeOf9 rfl rfl rfl ((hH _ rfl).trans rfl) rfl rfl (Nat.le_of_ble_eq_true rfl) rfl rfl))) rfl ?_
                  refine dc_cons (r := ⟨_, some [3], []⟩) (DStep.plain rfl (fun H1 hH => by exact (by exact opd_field_ref rfl fo32_2 rfl ((hH _ rfl).trans rfl) rfl rfl))) rfl ?_
                  refine dc_cons (r := ⟨_, some [3], [_]⟩) (DStep.plain rfl (fun H1 hH => by exact (by exact x_store1 rfl Tryz.sizeOf9 rfl rfl rfl ((hH _ rfl).trans rfl) rfl rfl (Nat.le_of_ble_eq_true rfl) rfl rfl))) rfl ?_
                  refine dc_cons (r := ⟨_, some [], []⟩) (DStep.plain rfl (fun H1 hH => by exact opd_assign rfl rfl)) rfl ?_
                  refine dc_nil ⟨by kernel_rfl, ?_⟩
                  exact ⟨rfl, ⟨_, rfl, by rfl⟩, rfl, rfl, rfl⟩
              refine awp_seq ?_
              refine awp_bool (t := 2) (n := 8) (X := (gName e.id && (gName e.node && gName e.other)) && gSameE ⟨e.op, e.id, e.other, e.node, 0, 0, sNil, sNil, [], zObj⟩ e) ?_ ?_
              · all_goals (refine al_d rfl rfl rfl (by exact opd_move rfl rfl) ?_)
                all_goals (refine al_d rfl rfl rfl (by exact opd_move rfl rfl) ?_)
                all_goals (refine al_split (t := 127) rfl (fun h127 => ?_) (fun h127 => ?_))
                all_goals (try contradiction)
                all_goals (first | refine al_off rfl rfl rfl rfl rfl ?_ | refine al_ond rfl rfl rfl rfl rfl rfl (by exact (by exact opd_loadn_ref rfl Tryz.isAgg32 Tryz.sizeOf32 rfl rfl rfl rfl (by simp only [List.drop_succ_cons, List.drop_zero, List.take_succ_cons, List.take_zero, List.take_nil, List.map_cons, List.map_nil, List.set_cons_zero, List.set_cons_succ, List.cons_append, List.nil_append, encTag, encObj, encStr, encEdit, zObj]; rfl) rfl)) ?_)
                all_goals (first | refine al_off rfl rfl rfl rfl rfl ?_ | refine al_ond rfl rfl rfl rfl rfl rfl (by exact (by exact opd_loadn_ref rfl Tryz.isAgg32 Tryz.sizeOf32 rfl rfl rfl rfl (by simp only [List.drop_succ_cons, List.drop_zero, List.take_succ_cons, List.take_zero, List.take_nil, List.map_cons, List.map_nil, List.set_cons_zero, List.set_cons_succ, List.cons_append, List.nil_append, encTag, encObj, encStr, encEdit, zObj]; rfl) rfl)) ?_)
                all_goals (first | refine al_off rfl rfl rfl rfl rfl ?_ | refine al_ond rfl rfl rfl rfl rfl rfl (by exact opr_call rfl rfl Tryz.call48 rfl (sameE_c ⟨e.op, e.id, e.other, e.node, 0, 0, sNil, sNil, [], zObj⟩ e _ (by (show 0 < _; omega)) okS_z)) ?_)
                all_goals (refine al_d rfl rfl rfl (by exact (by first | exact opd_pick_t rfl rfl rfl | exact opd_pick_f rfl rfl rfl)) ?_)
                all_goals (refine al_d rfl rfl rfl (by exact opd_assign rfl rfl) ?_)
                all_goals (refine al_nil ?_)
                all_goals (exact ⟨⟨_, rfl, by (rw [h127]; rfl)⟩, rfl, rfl, rfl⟩)
              refine awp_ret ?_
              -- return
              refine aret1 (H' := []) (by exact .inr rfl) rfl (rval_tmp rfl) (Fin.wk (by simp) trivial trivial) ?_
              exact ⟨by rw [hv], rfl⟩
            · have ho6 : ¬ e.op = 6 := of_decide_eq_false hc6
              refine awp_seq ?_
              refine awp_region ?_
              refine al_d rfl rfl rfl (by exact opd_eql rfl rfl rfl) ?_
              refine al_d rfl rfl rfl (by exact opd_assign rfl rfl) ?_
              refine al_nil ?_
              refine awp_cond rfl (fun hc7 => ?_) (fun hc7 => ?_)
              -- cond 7
              · have ho : e.op = 7 := of_decide_eq_true hc7
                have hx : xOf e = ⟨e.op, e.id, e.other, sNil, 0, 0, sNil, sNil, [], zObj⟩ := by rw [xOf, if_neg ho1, if_neg ho2, if_neg ho3, if_neg ho4, if_neg ho5, if_neg ho6]
                have hk : okOf e = (gName e.id && gName e.other) := by rw [okOf, if_neg ho1, if_neg ho2, if_neg ho3, if_neg ho4, if_neg ho5, if_neg ho6]
                have hb : (gName e.id && gName e.other) = (gName e.id && gName e.other) := by rfl
                have hv : gEditV e = ((gName e.id && gName e.other) && gSameE ⟨e.op, e.id, e.other, sNil, 0, 0, sNil, sNil, [], zObj⟩ e) := by rw [gEditV, hx, hk, hb, ho]; rfl
                apply awp_mergeW (t := 4) (n := 11) (X := gName e.id && gName e.other)
                · cases hg119 : (gName e.id : Bool)
                  · refine awp_drawc follows ?_
                    refine dc_cons (r := ⟨_, some [1], []⟩) (DStep.plain rfl (fun H1 hH => by exact (by exact opd_field_ref rfl fo32_2 rfl ((hH _ rfl).trans rfl) rfl rfl))) rfl ?_
                    refine dc_cons (r := ⟨_, some [1], []⟩) (DStep.plain rfl (fun H1 hH => by exact (by exact opd_load1_ref rfl Tryz.isAgg9 rfl ((hH _ rfl).trans rfl) rfl rfl rfl))) rfl ?_
                    refine dc_cons (r := ⟨_, some [], []⟩) (DStep.plain rfl (fun H1 hH => by exact opd_move rfl rfl)) rfl ?_
                    refine dc_cons (r := ⟨_, some [], []⟩) (DStep.plain rfl (fun H1 hH => by exact opd_move rfl rfl)) rfl ?_
                    refine dc_cons (q_off_t rfl rfl rfl (by rfl)) rfl ?_
                    refine dc_cons (q_off_t rfl rfl rfl (by rfl)) rfl ?_
                    refine dc_cons (q_off_t rfl rfl rfl (by rfl)) rfl ?_
                    refine dc_cons (q_off_t rfl rfl rfl (by rfl)) rfl ?_
                    refine dc_cons (r := ⟨_, some [], []⟩) (DStep.plain rfl (fun H1 hH => by exact (by exact opd_pick_f rfl rfl rfl))) rfl ?_
                    refine dc_cons (r := ⟨_, some [3], []⟩) (DStep.plain rfl (fun H1 hH => by exact (by exact opd_field_ref rfl fo32_2 rfl ((hH _ rfl).trans rfl) rfl rfl))) rfl ?_
                    refine dc_cons (r := ⟨_, some [3], [_]⟩) (DStep.plain rfl (fun H1 hH => by exact (by exact x_store1 rfl Tryz.sizeOf9 rfl rfl rfl ((hH _ rfl).trans rfl) rfl rfl (Nat.le_of_ble_eq_true rfl) rfl rfl))) rfl ?_
                    refine dc_cons (r := ⟨_, some [], []⟩) (DStep.plain rfl (fun H1 hH => by exact opd_assign rfl rfl)) rfl ?_
                    refine dc_nil ⟨by kernel_rfl, ?_⟩
                    exact ⟨rfl, ⟨_, rfl, by rfl⟩, rfl, rfl, rfl⟩
                  · refine awp_drawc follows ?_
                    refine dc_cons (r := ⟨_, some [1], []⟩) (DStep.plain rfl (fun H1 hH => by exact (by exact opd_field_ref rfl fo32_2 rfl ((hH _ rfl).trans rfl) rfl rfl))) rfl ?_
                    refine dc_cons (r := ⟨_, some [1], []⟩) (DStep.plain rfl (fun H1 hH => by exact (by exact opd_load1_ref rfl Tryz.isAgg9 rfl ((hH _ rfl).trans rfl) rfl rfl rfl))) rfl ?_
                    refine dc_cons (r := ⟨_, some [], []⟩) (DStep.plain rfl (fun H1 hH => by exact opd_move rfl rfl)) rfl ?_
                    refine dc_cons (r := ⟨_, some [], []⟩) (DStep.plain rfl (fun H1 hH => by exact opd_move rfl rfl)) rfl ?_
                    refine dc_cons (r := ⟨_, some [1], []⟩) (l_on_t rfl rfl rfl (by rfl) (fun H1 hH => by exact (by exact opd_field_ref rfl fo32_2 rfl ((hH _ rfl).trans rfl) rfl rfl))) rfl ?_
                    refine dc_cons (r := ⟨_, some [1], []⟩) (l_on_t rfl rfl rfl (by rfl) (fun H1 hH => by exact (by exact opd_load1_ref rfl Tryz.isAgg9 rfl ((hH _ rfl).trans rfl) rfl rfl rfl))) rfl ?_
                    refine dc_cons (r := ⟨_, some [], []⟩) (l_on_t rfl rfl rfl (by rfl) (fun H1 hH => by exact (by exact x_buildSlice ([e.other].map encStr) rfl so27 rfl rfl rfl rfl rfl (by simp [encStr])))) rfl ?_
                    refine dc_cons (r := ⟨_, some [], []⟩) (l_on_t rfl rfl rfl (by rfl) (fun H1 hH => by exact opr_call rfl rfl Tryz.call46 rfl (n1_c e.other _ h2))) rfl ?_
                    refine dc_cons (r := ⟨_, some [], []⟩) (DStep.plain rfl (fun H1 hH => by exact (by exact opd_pick_t rfl rfl rfl))) rfl ?_
                    refine dc_cons (r := ⟨_, some [3], []⟩) (DStep.plain rfl (fun H1 hH => by exact (by exact opd_field_ref rfl fo32_2 rfl ((hH _ rfl).trans rfl) rfl rfl))) rfl ?_
                    refine dc_cons (r := ⟨_, some [3], [_]⟩) (DStep.plain rfl (fun H1 hH => by exact (by exact x_store1 rfl Tryz.sizeOf9 rfl rfl rfl ((hH _ rfl).trans rfl) rfl rfl (Nat.le_of_ble_eq_true rfl) rfl rfl))) rfl ?_
                    refine dc_cons (r := ⟨_, some [], []⟩) (DStep.plain rfl (fun H1 hH => by exact opd_assign rfl rfl)) rfl ?_
                    refine dc_nil ⟨by kernel_rfl, ?_⟩
                    exact ⟨rfl, ⟨_, rfl, by rfl⟩, rfl, rfl, rfl⟩
                refine awp_seq ?_
                refine awp_bool (t := 2) (n := 8) (X := (gName e.id && gName e.other) && gSameE ⟨e.op, e.id, e.other, sNil, 0, 0, sNil, sNil, [], zObj⟩ e) ?_ ?_
                · all_goals (refine al_d rfl rfl rfl (by exact opd_move rfl rfl) ?_)
                  all_goals (refine al_d rfl rfl rfl (by exact opd_move rfl rfl) ?_)
                  all_goals (refine al_split (t := 127) rfl (fun h127 => ?_) (fun h127 => ?_))
                  all_goals (try contradiction)
                  all_goals (first | refine al_off rfl rfl rfl rfl rfl ?_ | refine al_ond rfl rfl rfl rfl rfl rfl (by exact (by exact opd_loadn_ref rfl Tryz.isAgg32 Tryz.sizeOf32 rfl rfl rfl rfl (by simp only [List.drop_succ_cons, List.drop_zero, List.take_succ_cons, List.take_zero, List.take_nil, List.map_cons, List.map_nil, List.set_cons_zero, List.set_cons_succ, List.cons_append, List.nil_append, encTag, encObj, encStr, encEdit, zObj]; rfl) rfl)) ?_)
                  all_goals (first | refine al_off rfl rfl rfl rfl rfl ?_ | refine al_ond rfl rfl rfl rfl rfl rfl (by exact (by exact opd_loadn_ref rfl Tryz.isAgg32 Tryz.sizeOf32 rfl rfl rfl rfl (by simp only [List.drop_succ_cons, List.drop_zero, List.take_succ_cons, List.take_zero, List.take_nil, List.map_cons, List.map_nil, List.set_cons_zero, List.set_cons_succ, List.cons_append, List.nil_append, encTag, encObj, encStr, encEdit, zObj]; rfl) rfl)) ?_)
                  all_goals (first | refine al_off rfl rfl rfl rfl rfl ?_ | refine al_ond rfl rfl rfl rfl rfl rfl (by exact opr_call rfl rfl Tryz.call48 rfl (sameE_c ⟨e.op, e.id, e.other, sNil, 0, 0, sNil, sNil, [], zObj⟩ e _ (by (show 0 < _; omega)) okS_z)) ?_)
                  all_goals (refine al_d rfl rfl rfl (by exact (by first | exact opd_pick_t rfl rfl rfl | exact opd_pick_f rfl rfl rfl)) ?_)
                  all_goals (refine al_d rfl rfl rfl (by exact opd_assign rfl rfl) ?_)
                  all_goals (refine al_nil ?_)
                  all_goals (exact ⟨⟨_, rfl, by (rw [h127]; rfl)⟩, rfl, rfl, rfl⟩)
                refine awp_ret ?_
                -- return
                refine aret1 (H' := []) (by exact .inr rfl) rfl (rval_tmp rfl) (Fin.wk (by simp) trivial trivial) ?_
                exact ⟨by rw [hv], rfl⟩
              · have ho7 : ¬ e.op = 7 := of_decide_eq_false hc7
                refine awp_seq ?_
                refine awp_region ?_
                refine al_d rfl rfl rfl (by exact opd_assign rfl rfl) ?_
                refine al_nil ?_
                refine awp_ret ?_
                -- return
                refine aret1 (H' := []) (by exact .inr rfl) rfl (rval_tmp rfl) (Fin.wk (by simp) trivial trivial) ?_
                refine ⟨?_, rfl⟩
                have : gEditV e = false := by
                  rw [gEditV, Bool.and_eq_false_iff]
                  left
                  rw [Bool.and_eq_false_iff, decide_eq_false_iff_not, decide_eq_false_iff_not]
                  omega
                rw [this]
def gChange (l : List GEdit) : Bool := decide ((0 : Int) < (l.length : Int)) && decide ((l.length : Int) ≤ 200) && !(l.any (fun e => !gEditV e))
end Go.Proofs.YtedfihgkopejcaaGreat
end
section
set_option linter.unusedVariables false
set_option linter.unusedSimpArgs false
set_option maxRecDepth 100000
namespace Go.Proofs.YtedfihgkopejcaaGreat
open Go.Abs
theorem find1_c (o : GObj) (id : ByteArray) (H : Heap) (T : Nat) (h3 : H.get 3 = some (bx 1 T [sv id])) (h9 : H.get 972 = none) (hc : Closed H) :
    ACalls Tryz.prog 119 [av (encObj o), .ref 3 0 0 0] H (fun r H' => r = bv (idIs id o) ∧ H' = H) := by
  have h3' : Heap.get ((972, bx 6 30 ((encObj o).map .pv)) :: H) 3 = some (bx 1 T [sv id]) := h3
  refine ACalls.body Tryz.func119 rfl Tryz.ntmps119 (Nat.le_of_ble_eq_true rfl) ?_
  refine awp_seq ?_
  refine awp_region ?_
  refine al_d rfl rfl rfl (by exact opd_box (id := 972) rfl rfl rfl rfl h9) ?_
  refine al_d rfl rfl rfl (by exact opd_assign rfl rfl) ?_
  refine al_nil ?_
  refine awp_seq ?_
  refine awp_region ?_
  refine al_d rfl rfl rfl (by exact (by exact opd_field_ref rfl fo30_0 rfl rfl rfl rfl)) ?_
  refine al_d rfl rfl rfl (by exact (by exact opd_load1_ref rfl Tryz.isAgg9 rfl rfl rfl rfl rfl)) ?_
  refine al_d rfl rfl rfl (by exact opd_load1_ref rfl Tryz.isAgg9 rfl h3' rfl rfl rfl) ?_
  refine al_d rfl rfl rfl (by exact opd_seql rfl rfl rfl) ?_
  refine al_d rfl rfl rfl (by exact opd_assign rfl rfl) ?_
  refine al_nil ?_
  refine awp_ret ?_
  -- return
  refine aret1 (H' := H) (.inr rfl) rfl (rval_tmp rfl) (Fin.pops [(972, bx 6 30 ((encObj o).map .pv))] (by simp) hc (by simp [h9])) ⟨rfl, rfl⟩
theorem find_c (m : List GObj) (id : ByteArray) (H : Heap) (hm : m.length < 4611686018427387904) : ACalls Tryz.prog 73 [.agg [.pv (slObjs m)], sv id] H (fun r H' => r = iv (gidx (idIs id) m) ∧ H' = H) := by
  refine ACalls.pure ?_ (by simp) H
  have hf : ∀ o, o ∈ m → CallsV Tryz.prog (.clo 119 [.ref 3 0 0 0]) [.agg ((encObj o).map .pv)] [(3, bx 1 9 [sv id]), (2, bx 1 24 [.pv (slObjs m)])] (fun r H' => r = bv (idIs id o) ∧ H' = [(3, bx 1 9 [sv id]), (2, bx 1 24 [.pv (slObjs m)])]) :=
    fun o _ => CallsV.clo Tryz.call119 (find1_c o id _ 9 rfl rfl (Closed.of (by simp)))
  refine ACalls.body Tryz.func73 rfl Tryz.ntmps73 (Nat.le_of_ble_eq_true rfl) ?_
  refine awp_seq ?_
  refine awp_region ?_
  refine al_d rfl rfl rfl (by exact opd_box (id := 2) rfl rfl rfl rfl rfl) ?_
  refine al_d rfl rfl rfl (by exact opd_box (id := 3) rfl rfl rfl rfl rfl) ?_
  refine al_d rfl rfl rfl (by exact opd_assign rfl rfl) ?_
  refine al_nil ?_
  refine awp_seq ?_
  refine awp_region ?_
  refine al_d rfl rfl rfl (by exact (by exact opd_field_ref rfl fo24_0 rfl rfl rfl rfl)) ?_
  refine al_d rfl rfl rfl (by exact (by exact opd_load1_ref rfl Tryz.isAgg22 rfl rfl rfl rfl rfl)) ?_
  refine al_d rfl rfl rfl (by exact opd_makeFunc rfl rfl) ?_
  refine al_d rfl rfl rfl (by exact opr_call rfl rfl Tryz.call118 rfl (indexFunc_GObj _ m (idIs id) _ hm hf)) ?_
  refine al_d rfl rfl rfl (by exact opd_assign rfl rfl) ?_
  refine al_nil ?_
  refine awp_ret ?_
  -- return
  refine aret1 (H' := []) (by exact .inr rfl) rfl (rval_tmp rfl) (Fin.wk (by simp) trivial trivial) ?_
  exact ⟨rfl, rfl⟩
def ptRow (p : Int × Int) : List PV := [.int .i64 p.1, .int .i64 p.2]
end Go.Proofs.YtedfihgkopejcaaGreat
end
section
set_option linter.unusedVariables false
set_option linter.unusedSimpArgs false
set_option maxRecDepth 100000
namespace Go.Proofs.YtedfihgkopejcaaGreat
open Go.Abs
abbrev bEd (e : GEdit) : Ob := bx 15 32 ((encEdit e).map .pv)
abbrev bOb (o : GObj) : Ob := bx 6 30 ((encObj o).map .pv)
end Go.Proofs.YtedfihgkopejcaaGreat
end
section
set_option linter.unusedVariables false
set_option linter.unusedSimpArgs false
set_option maxRecDepth 100000
namespace Go.Proofs.YtedfihgkopejcaaGreat
open Go.Abs
abbrev inRows (l : List Int) : List (List AV) := l.map (fun e => (encInt e).map .pv)
end Go.Proofs.YtedfihgkopejcaaGreat
end
section
set_option linter.unusedVariables false
set_option linter.unusedSimpArgs false
set_option maxRecDepth 100000
namespace Go.Proofs.YtedfihgkopejcaaGreat
open Go.Abs

def gFind (m : List GObj) (l : List GEdit) : Int × List Int := if closedB m && gChange l then ((((gFind0 m l).1 : Nat) : Int), toI (gFind0 m l).2) else (0, [])
end Go.Proofs.YtedfihgkopejcaaGreat
end
section
set_option linter.unusedVariables false
set_option linter.unusedSimpArgs false
namespace Go.Proofs.YtedfihgkopejcaaGreat
open Go.Abs
def zEdit : GEdit := ⟨0, sNil, sNil, sNil, 0, 0, sNil, sNil, [], zObj⟩
def eKey (k : Nat) (e : GEdit) : ByteArray := if k = 4 then e.obj.id else e.id
def edAt (l : List GEdit) (x : Int) : GEdit := (l[x.toNat]?).getD zEdit
def prevI (idx : List Int) : Nat → Int
  | 0 => -1
  | k + 1 => (idx[k]?).getD 0
def eSame (a b : GEdit) : Bool := (decide (a.obj.x = b.obj.x) && decide (a.obj.y = b.obj.y)) && tagsEq a.obj.tags b.obj.tags
/-- What is wrong with the index at a place. -/
def badH (m : List GObj) (l : List GEdit) (k : Nat) (idx : List Int) (i : Nat) : Bool := match idx[i]? with
  | none => false
  | some x => (decide (x < 0) || decide ((l.length : Int) ≤ x) || (decide ((0 : Int) < (i : Int)) && decide (x ≤ prevI idx i)) || !eShows k m (edAt l x)) || (decide (k = 4) && !eSame (edAt l x) (edAt l ((idx[0]?).getD 0)))
def gHolds (m : List GObj) (l : List GEdit) (kind : Int) (idx : List Int) : Bool :=
  (decide (1 ≤ kind) && decide (kind ≤ 4) && decide (idx.length = nMany kind.toNat) && !(decide (kind = 1) && decide ((nDrops l : Int) ≤ (l.length : Int) - (nDrops l : Int)))) &&
    (!((List.range idx.length).any (badH m l kind.toNat idx)) && decide ((((idx.map (fun x => eKey kind.toNat (edAt l x))).foldl sput []).length : Int) = (idx.length : Int)))
end Go.Proofs.YtedfihgkopejcaaGreat
end
section
set_option linter.unusedVariables false
set_option linter.unusedSimpArgs false
set_option maxRecDepth 100000
namespace Go.Proofs.YtedfihgkopejcaaGreat
open Go.Abs
def gFew31 (m : List GObj) (l : List GEdit) : Bool := few13 m 24 && few22 l 20
end Go.Proofs.YtedfihgkopejcaaGreat
end
section
set_option linter.unusedVariables false
set_option linter.unusedSimpArgs false
set_option maxRecDepth 100000
namespace Go.Proofs.YtedfihgkopejcaaGreat
open Go.Abs

def accH (l : List GEdit) (k : Nat) (idx : List Int) : List ByteArray := (idx.map (fun x => eKey k (edAt l x))).foldl sput []
end Go.Proofs.YtedfihgkopejcaaGreat
end
section
set_option linter.unusedVariables false
set_option linter.unusedSimpArgs false
set_option maxRecDepth 100000
namespace Go.Proofs.YtedfihgkopejcaaGreat
open Go.Abs
def nm (i : Nat) : ByteArray := ⟨#[110, 49 + UInt8.ofNat i]⟩
def nodeO (i : Nat) : GObj := ⟨nm i, 1, (i : Int), 0, [], []⟩
def names5 : List ByteArray := (List.range 5).map nm
def nodes5 : List GObj := (List.range 5).map nodeO
abbrev obRows (l : List GObj) : List (List AV) := l.map (fun e => (encObj e).map .pv)
end Go.Proofs.YtedfihgkopejcaaGreat
end
section
set_option linter.unusedVariables false
set_option linter.unusedSimpArgs false
set_option maxRecDepth 100000
namespace Go.Proofs.YtedfihgkopejcaaGreat
open Go.Abs
abbrev nA : ByteArray := ⟨#[97]⟩
abbrev nB : ByteArray := ⟨#[98]⟩
abbrev nC : ByteArray := ⟨#[99]⟩
abbrev nD : ByteArray := ⟨#[100]⟩
abbrev nE : ByteArray := ⟨#[101]⟩
abbrev nX : ByteArray := ⟨#[120]⟩
def nodeN (id v : ByteArray) : GObj := ⟨id, 1, 0, 0, [], if v = sNil then [] else [⟨sName, v⟩]⟩
def m5 : List GObj := [nodeN nA nX, nodeN nB nX, nodeN nC nX, nodeN nD sNil, nodeN nE sNil]
def dropN (id : ByteArray) : GEdit := ⟨5, id, sNil, sNil, 0, 0, sNil, sNil, [], zObj⟩
def moveN (id : ByteArray) : GEdit := ⟨2, id, sNil, sNil, 0, 0, sNil, sNil, [], zObj⟩
def blankN (id : ByteArray) : GEdit := ⟨3, id, sNil, sNil, 0, 0, sName, sNil, [], zObj⟩
def ids5 : List ByteArray := [nA, nB, nC, nD, nE]
abbrev dropsN : List GEdit := ids5.map dropN
abbrev movesN : List GEdit := ids5.map moveN
abbrev blanksN : List GEdit := [blankN nC, blankN nA, blankN nB]
end Go.Proofs.YtedfihgkopejcaaGreat
end
section
set_option linter.unusedVariables false
set_option linter.unusedSimpArgs false
set_option maxRecDepth 100000
namespace Go.Proofs.YtedfihgkopejcaaGreat
open Go.Abs
def okEv (m : List GObj) (l : List GEdit) : Prop := okM m ∧ m.length < 1099511627776 ∧ l.length < 1099511627776 ∧ (∀ e ∈ l, okE e)
end Go.Proofs.YtedfihgkopejcaaGreat
end
section
set_option linter.unusedVariables false
set_option linter.unusedSimpArgs false
namespace Go.Proofs.YtedfihgkopejcaaGreat
open Go.Abs
theorem okE_sz {B : Nat} {e : GEdit} (hB : B < 4611686018427387904) (h : szEdit B e) : okE e :=
  ⟨⟨by have := h.2.1; omega, by have := h.2.2.1; omega, by have := h.2.2.2.1; omega, by have := h.2.2.2.2.2.2.1; omega⟩,
    ⟨by have := h.2.2.2.2.2.2.2.2.1.1; omega, fun s hs => by have := h.2.2.2.2.2.2.2.2.1.2 s hs; omega⟩, okO_of hB h.2.2.2.2.2.2.2.2.2⟩
end Go.Proofs.YtedfihgkopejcaaGreat
end
section
set_option linter.unusedVariables false
set_option linter.unusedSimpArgs false
namespace Go.Abs

theorem osc_slice {w : World} {I : Nat → Prop} {ι : Plc} {H : Heap} {v : Value} {id g off len c : Nat} {ob : Ob} (h : VRel w I ι H v (.osc id g off len c)) (hH : H.get id = some ob) (hg : ob.g = g) :
    0 < ob.sz ∧ len ≤ c ∧ ((∃ b oo, ι id = some (b, off + c) ∧ v = .slice (some ⟨b, oo, none⟩) len c ∧ (0 < c ∨ off = 0 → oo = off * ob.sz)) ∨ (ι id = none ∧ v = .slice none 0 0 ∧ off = 0 ∧ len = 0 ∧ c = 0)) := by
  cases h with
  | osc o' h1 h2 _ h3 =>
    rw [hH] at h1; cases h1
    exact h3 hg
theorem osl_osc {w : World} {I : Nat → Prop} {ι : Plc} {H : Heap} {v : Value} {id g off len : Nat} {ob : Ob} (hr : Rel I ι H w) (h : VRel w I ι H v (.osl id g off len)) (hH : H.get id = some ob) (hg : ob.g = g) :
    ∃ c, len ≤ c ∧ c ≤ maxLen ∧ VRel w I ι H v (.osc id g off len c) := by
  have hz := osl_sz h hH hg
  obtain ⟨h1, ⟨b, cap, oo, h2, h3, h4⟩ | ⟨h2, h3, h4, h5⟩⟩ := osl_slice h hH hg
  · obtain ⟨_, _, ⟨b', cap', cs, e1, e2, e3, e4, e5, e6, e7⟩ | ⟨e1, _⟩⟩ := (hr.obj id ob hH).cells hz
    · rw [h2] at e1; cases e1
      refine ⟨cap - off, by omega, by omega, ?_⟩
      subst h3
      refine .osc ob hH (by omega) rfl fun _ => ⟨hz, by omega, .inl ⟨b, oo, ?_, rfl, fun hh => h4 (by omega)⟩⟩
      rw [h2]; congr 2; omega
    · rw [h2] at e1; cases e1
  · subst h3 h4 h5
    exact ⟨0, Nat.le_refl _, Nat.zero_le _, .osc ob hH (by omega) rfl fun _ => ⟨hz, Nat.le_refl _, .inr ⟨h2, rfl, rfl, rfl, rfl⟩⟩⟩
theorem osc_osl {w : World} {I : Nat → Prop} {ι : Plc} {H : Heap} {v : Value} {id g off len c : Nat} {ob : Ob} (h : VRel w I ι H v (.osc id g off len c)) (hH : H.get id = some ob) (hg : ob.g = g) (hl : off + len ≤ ob.rows.length) :
    VRel w I ι H v (.osl id g off len) := by
  obtain ⟨hz, h1, ⟨b, oo, h2, h3, h4⟩ | ⟨h2, h3, h4, h5, h6⟩⟩ := osc_slice h hH hg
  · subst h3
    refine .osl ob hH (by omega) rfl fun _ => ⟨hz, hl, .inl ⟨b, off + c, oo, h2, ?_, fun hh => h4 (by omega)⟩⟩
    congr 1; omega
  · subst h3 h4 h5
    exact .osl ob hH (by omega) rfl fun _ => ⟨hz, hl, .inr ⟨h2, rfl, rfl, rfl⟩⟩

section
variable {P : Program} {G0 : Heap} {N : Nat} {Q : Exit → Env → Heap → Prop} {E : Env} {H : Heap} {code : Code}
/-- The capacity gets a name. -/
theorem awp_cap {t id g off n : Nat} {ob : Ob} (hx : E.get t = some (.osl id g off n)) (hH : H.get id = some ob) (hg : ob.g = g) (h : ∀ c, n ≤ c → c ≤ maxLen → AWp P G0 N code Q ((t, .osc id g off n c) :: E) H) : AWp P G0 N code Q E H := by
  intro G hG a w hs
  obtain ⟨I, ι, hr, hst, he⟩ := hs.rel
  obtain ⟨v, hv, hvr⟩ := he t _ hx
  obtain ⟨c, h1, h2, h3⟩ := osl_osc hr hvr hH hg
  refine h c h1 h2 G hG a w ⟨hs.defers, hs.size, I, ι, hr, hst, fun u x hu => ?_⟩
  by_cases e : t = u
  · subst e
    rw [Env.get_cons_same] at hu; cases hu
    exact ⟨v, hv, h3⟩
  · rw [Env.get_cons_other _ _ e] at hu
    exact he u x hu
/-- The capacity is forgotten. -/
theorem awp_uncap {t id g off n c : Nat} {ob : Ob} (hx : E.get t = some (.osc id g off n c)) (hH : H.get id = some ob) (hg : ob.g = g) (hl : off + n ≤ ob.rows.length) (h : AWp P G0 N code Q ((t, .osl id g off n) :: E) H) : AWp P G0 N code Q E H := by
  intro G hG a w hs
  obtain ⟨I, ι, hr, hst, he⟩ := hs.rel
  obtain ⟨v, hv, hvr⟩ := he t _ hx
  refine h G hG a w ⟨hs.defers, hs.size, I, ι, hr, hst, fun u x hu => ?_⟩
  by_cases e : t = u
  · subst e
    rw [Env.get_cons_same] at hu; cases hu
    exact ⟨v, hv, osc_osl hvr hH hg hl⟩
  · rw [Env.get_cons_other _ _ e] at hu
    exact he u x hu
end

section
variable {P : Program} {N : Nat} {o : Oper} {E : Env} {H : Heap} {T : TypeId} {x y : Operand}
theorem opd_cap_osc {e : TypeId} {id g off len c : Nat} {ob : Ob} (ho : o.op = .call { callee := .builtin .cap, args := #[x], argTypes := #[T] }) (ht : P.underlying T = some (.slice e)) (hx : aeval E x = some (.osc id g off len c)) (hH : H.get id = some ob) (hg : ob.g = g) : OpD P N o E H (.pv (.int .i64 c)) H :=
  .of_run fun a w I ι _ he => ⟨.int .i64 c, by
    obtain ⟨_, _, ⟨b, oo, _, e1, _⟩ | ⟨_, e1, _, _, e2⟩⟩ := osc_slice (aeval_rel he hx) hH hg
    · simp [execOp, ho, resolve, invoke, builtin, e1, Builtin.cap_, run_underlying ht, goInt]
    · simp [execOp, ho, resolve, invoke, builtin, e1, e2, Builtin.cap_, run_underlying ht, goInt], .pv (.int _ _)⟩
theorem opd_len_osc {e : TypeId} {id g off len c : Nat} {ob : Ob} (ho : o.op = .call { callee := .builtin .len, args := #[x], argTypes := #[T] }) (ht : P.underlying T = some (.slice e)) (hx : aeval E x = some (.osc id g off len c)) (hH : H.get id = some ob) (hg : ob.g = g) : OpD P N o E H (.pv (.int .i64 len)) H :=
  .of_run fun a w I ι _ he => ⟨.int .i64 len, by
    obtain ⟨_, _, ⟨b, oo, _, e1, _⟩ | ⟨_, e1, _, e2, _⟩⟩ := osc_slice (aeval_rel he hx) hH hg
    · simp [execOp, ho, resolve, invoke, builtin, e1, Builtin.len_, run_underlying ht, goInt]
    · simp [execOp, ho, resolve, invoke, builtin, e1, e2, Builtin.len_, run_underlying ht, goInt], .pv (.int _ _)⟩

/-- A cut up to the capacity. -/
theorem x_slice_osc {e : TypeId} {lo hi : Option Operand} {id g off len c off2 len2 c2 l h sz : Nat} {ob : Ob} (ho : o.op = .slice T x lo hi none) (hS : SliceOf P T e sz) (hx : aeval E x = some (.osc id g off len c))
    (hH : H.get id = some ob) (hg : ob.g = g) (hsz : ob.sz = sz) (hlo : bnd E lo 0 = some (l : Int)) (hhi : bnd E hi len = some (h : Int)) (h1 : l ≤ h) (h2 : h ≤ c) (ho2 : off + l = off2) (hl2 : h - l = len2) (hc2 : c - l = c2) : OpD P N o E H (.osc id g off2 len2 c2) H :=
  .of_run fun a w I ι hr he => by
    have hv := aeval_rel he hx
    obtain ⟨hz, hle, hcase⟩ := osc_slice hv hH hg
    have hT := hS.1
    have hs := hS.2.1
    have hTe : P.elem T = e := by simp [Program.elem, hT]
    have hT' : P.underlying T = some (.slice (P.elem T)) := by rw [hTe, hT]
    subst ho2 hl2 hc2 hsz
    rcases hcase with ⟨b, oo, h3, h4, h5⟩ | ⟨h3, h4, h5, h6, h7⟩
    · have hb := run_bounds (P := P) (b := true) (len := len) (cap := c) he hlo hhi h1 h2
      have hrun := run_slice_any (P := P) w T (some ⟨b, oo, none⟩) len c hT' (lo.map a.eval) (hi.map a.eval) none
      refine ⟨.slice (some ⟨b, if c = l then oo else oo + l * ob.sz, none⟩) (h - l) (c - l), ?_, .osc ob hH (by omega) rfl fun _ => ⟨hz, by omega, .inl ⟨b, _, ?_, rfl, fun hlt => ?_⟩⟩⟩
      · simp only [execOp, ho, h4]
        simp only [run_sliceAt_slice w T _ _ _ _ hT', Sem.run_bind, hrun, Option.map_none, hb, hTe, hs, sliced, Result.andThen_ok, Sem.run_pure]
        by_cases ec : c = l
        · simp [ec]
        · simp [ec, Addr.add_lit]
      · rw [h3]; congr 2; omega
      · by_cases ec : off + l = 0
        · have e0 : off = 0 := by omega
          have e1 : l = 0 := by omega
          subst e0 e1
          rw [h5 (by omega)]
          simp
        · rw [if_neg (by omega), h5 (by omega), Nat.add_mul]
    · subst h5 h6 h7
      have hh : h = 0 := by omega
      have hl : l = 0 := by omega
      subst hh hl
      have hb := run_bounds (P := P) (b := true) (len := 0) (cap := 0) he hlo hhi h1 (by simp)
      have hrun := run_slice_any (P := P) w T none 0 0 hT' (lo.map a.eval) (hi.map a.eval) none
      refine ⟨.slice none 0 0, ?_, .osc ob hH (by omega) rfl fun _ => ⟨hz, by omega, .inr ⟨h3, rfl, rfl, rfl, rfl⟩⟩⟩
      simp only [execOp, ho, h4]
      simp [run_sliceAt_slice w T _ _ _ _ hT', hrun, hb, hTe, hs, sliced]

/-- A slice of which the first rows are read. -/
def SrcN (w : World) (I : Nat → Prop) (ι : Plc) (H : Heap) (sz : Nat) (v : Value) (len : Nat) (rows : List (List AV)) : Prop :=
  (∃ a c news, v = .slice (some a) len c ∧ rows.length ≤ len ∧ news.length = rows.length * sz ∧ (∀ j u, news[j]? = some u → w.cell? (a.add j) = some u) ∧ (∀ u ∈ news, u.oneCell' = true) ∧ LRel w I ι H sz news rows) ∨
  (v = .slice none 0 0 ∧ len = 0 ∧ rows = [])

theorem LRel.take {w : World} {I : Nat → Prop} {ι : Plc} {H : Heap} {sz : Nat} {l : List Value} {rows : List (List AV)} (h : LRel w I ι H sz l rows) (hl : ∀ r ∈ rows, r.length = sz) (k : Nat) : LRel w I ι H sz (l.take (k * sz)) (rows.take k) := by
  intro i r hi j a hj
  rw [List.getElem?_take] at hi
  split at hi
  · obtain ⟨u, q1, q2, q3⟩ := h i r hi j a hj
    have hjs : j < sz := by rw [← hl r (List.mem_of_getElem? hi)]; exact (List.getElem?_eq_some_iff.1 hj).1
    refine ⟨u, ?_, q2, q3⟩
    rw [List.getElem?_take, if_pos]
    · exact q1
    · have : (i + 1) * sz ≤ k * sz := Nat.mul_le_mul_right _ (by omega)
      rw [Nat.add_mul] at this; omega
  · cases hi
theorem LRel.drop {w : World} {I : Nat → Prop} {ι : Plc} {H : Heap} {sz : Nat} {l : List Value} {rows : List (List AV)} (h : LRel w I ι H sz l rows) (k : Nat) : LRel w I ι H sz (l.drop (k * sz)) (rows.drop k) := by
  intro i r hi j a hj
  rw [List.getElem?_drop] at hi
  obtain ⟨u, q1, q2, q3⟩ := h _ r hi j a hj
  refine ⟨u, ?_, q2, q3⟩
  rw [List.getElem?_drop]
  rw [Nat.add_mul] at q1
  rw [← Nat.add_assoc]
  exact q1
theorem srcN_osc {w : World} {I : Nat → Prop} {ι : Plc} {H : Heap} {sz id g off len c : Nat} {ob : Ob} {v : Value} (hr : Rel I ι H w) (h : VRel w I ι H v (.osc id g off len c)) (hH : H.get id = some ob) (hg : ob.g = g) (hsz : ob.sz = sz) (k : Nat) (hk : k ≤ len) (hk2 : off + k ≤ ob.rows.length) :
    SrcN w I ι H sz v len ((ob.rows.drop off).take k) := by
  obtain ⟨hz, h1, ⟨b, oo, h2, h3, h4⟩ | ⟨h2, h3, h4, h5, h6⟩⟩ := osc_slice h hH hg
  · have hv : VRel w I ι H (.slice (some ⟨b, oo, none⟩) k c) (.osl id g off k) :=
      .osl ob hH (by omega) rfl fun _ => ⟨hz, hk2, .inl ⟨b, off + c, oo, h2, by congr 1; omega, fun hh => h4 (by omega)⟩⟩
    have hlen : ((ob.rows.drop off).take k).length = k := by rw [List.length_take, List.length_drop]; omega
    rcases src_osl hr hv hH hg hsz with ⟨a, c', news, s1, s2, s3, s4, s5⟩ | ⟨s1, s2⟩
    · injection s1 with q1 q2 q3
      injection q1 with q1
      subst q1
      exact .inl ⟨_, c, news, h3, by omega, s2, s3, s4, s5⟩
    · cases s1
  · subst h4 h5
    have : k = 0 := by omega
    subst this
    exact .inr ⟨h3, rfl, by simp⟩
theorem srcN_osl {w : World} {I : Nat → Prop} {ι : Plc} {H : Heap} {sz id g off len : Nat} {ob : Ob} {v : Value} (hr : Rel I ι H w) (h : VRel w I ι H v (.osl id g off len)) (hH : H.get id = some ob) (hg : ob.g = g) (hsz : ob.sz = sz) (k : Nat) (hk : k ≤ len) :
    SrcN w I ι H sz v len ((ob.rows.drop off).take k) := by
  obtain ⟨c, h1, h2, h3⟩ := osl_osc hr h hH hg
  have := (osl_slice h hH hg).1
  exact srcN_osc hr h3 hH hg hsz k hk (by omega)

/-- Rows of an object are written, or put behind its last one. -/
theorem Rel.write {I : Nat → Prop} {ι : Plc} {H H' : Heap} {w : World} {id b cap off g2 : Nat} {ob : Ob} {cs : Array Value} {news : List Value} {rows2 : List (List AV)} (hr : Rel I ι H w) (hH : H.get id = some ob) (hι : ι id = some (b, cap)) (hb : w.heap[b]? = some (.cells cs ob.ty (0, 0)))
    (hn : news.length = rows2.length * ob.sz) (hl : LRel w I ι H ob.sz news rows2) (hl2 : ∀ r ∈ rows2, r.length = ob.sz) (ho : off ≤ ob.rows.length) (hc : off + rows2.length ≤ cap) (hg2 : ob.g ≤ g2)
    (h1 : H'.get id = some ⟨g2, ob.sz, ob.ty, ob.rows.take off ++ (rows2 ++ ob.rows.drop (off + rows2.length))⟩) (h2 : ∀ j, j ≠ id → H'.get j = H.get j) :
    Rel I ι H' (w.setRow b (cs.toList.take (off * ob.sz) ++ news ++ cs.toList.drop (off * ob.sz + news.length)).toArray) ∧ Step I ι H w I ι H' (w.setRow b (cs.toList.take (off * ob.sz) ++ news ++ cs.toList.drop (off * ob.sz + news.length)).toArray) := by
  obtain ⟨p1, p2, ⟨b', cap', cs', e1, e2, e3, e4, e5, e5', e6⟩ | ⟨e1, _⟩⟩ := (hr.obj id ob hH).cells ((hr.obj id ob hH).pos hι hb)
  · rw [hι] at e1; cases e1
    rw [hb] at e2; cases e2
    have hall : LRel w I ι H ob.sz cs.toList ob.rows := fun i r hi k a hk => by
      obtain ⟨v, q1, q2, q3⟩ := e6 i r hi k a hk
      exact ⟨v, by simpa using q1, q2, q3⟩
    have hoc : off ≤ cap := by omega
    have hlt : (cs.toList.take (off * ob.sz)).length = (ob.rows.take off).length * ob.sz := by
      have : off * ob.sz ≤ cap * ob.sz := Nat.mul_le_mul_right _ hoc
      rw [List.length_take, List.length_take, Array.length_toList, e4, Nat.min_eq_left this, Nat.min_eq_left ho]
    have hnl : off * ob.sz + news.length = (off + rows2.length) * ob.sz := by rw [hn, Nat.add_mul]
    have htail : LRel w I ι H ob.sz (news ++ (cs.toList.drop (off * ob.sz + news.length) ++ [])) (rows2 ++ ob.rows.drop (off + rows2.length)) := by
      refine LRel.app hl hn ?_
      rw [hnl]
      exact hall.drop _
    rw [List.append_nil] at htail
    have hfin := LRel.app (l3 := []) (hall.take p2 off) hlt htail
    rw [List.append_nil] at hfin
    have hsize : (cs.toList.take (off * ob.sz) ++ news ++ cs.toList.drop (off * ob.sz + news.length)).toArray.size = cap * ob.sz := by
      have : (off + rows2.length) * ob.sz ≤ cap * ob.sz := Nat.mul_le_mul_right _ hc
      simp only [List.size_toArray, List.length_append, List.length_take, List.length_drop, Array.length_toList, e4]
      omega
    refine Rel.update (ob' := ⟨g2, ob.sz, ob.ty, ob.rows.take off ++ (rows2 ++ ob.rows.drop (off + rows2.length))⟩) hr hH hι hb hg2 rfl rfl (fun _ => ?_) hsize ?_ (fun r hr' => ?_) (fun i r hi k a hk => ?_) h1 h2
    · simp only [List.length_append, List.length_take, List.length_drop]; omega
    · simp only [List.length_append, List.length_take, List.length_drop]; omega
    · rcases List.mem_append.1 hr' with h | h
      · exact p2 r (List.mem_of_mem_take h)
      · rcases List.mem_append.1 h with h | h
        · exact hl2 r h
        · exact p2 r (List.mem_of_mem_drop h)
    · obtain ⟨u, q1, q2, q3⟩ := hfin i r hi k a hk
      refine ⟨u, ?_, q2, q3⟩
      rw [List.getElem?_toArray, List.append_assoc]
      exact q1
  · rw [hι] at e1; cases e1

theorem write_nil {off n : Nat} {rows : List (List AV)} (h : n = 0) : rows.take off ++ ([] ++ rows.drop (off + n)) = rows := by subst h; simp

/-- copy between slices. -/
theorem opd_copy {D S e : TypeId} {id g off len len2 n sz : Nat} {ob : Ob} {rows2 : List (List AV)} {H2 : Heap} (ho : o.op = .call { callee := .builtin .copy, args := #[x, y], argTypes := #[D, S] }) (hS : SliceOf P D e sz)
    (hd : ∀ (a : Act) (w : World) (I : Nat → Prop) (ι : Plc), Rel I ι H w → ERel w I ι H E a → ∃ c, VRel w I ι H (a.eval x) (.osc id g off len c)) (hH : H.get id = some ob) (hg : ob.g = g) (hsz : ob.sz = sz) (hoff : off ≤ ob.rows.length)
    (hsrc : ∀ (a : Act) (w : World) (I : Nat → Prop) (ι : Plc), Rel I ι H w → ERel w I ι H E a → SrcN w I ι H sz (a.eval y) len2 rows2) (hrl2 : ∀ r ∈ rows2, r.length = sz) (hn : rows2.length = n) (hmin : min len2 len = n)
    (hH2 : ∀ j, H2.get j = (H.set id ⟨g, sz, ob.ty, ob.rows.take off ++ (rows2 ++ ob.rows.drop (off + n))⟩).get j) : OpD P N o E H (.pv (.int .i64 n)) H2 := by
  intro a w I ι _ _ hr he K Q hk
  obtain ⟨c, hv⟩ := hd a w I ι hr he
  obtain ⟨hz, h1, hcase⟩ := osc_slice hv hH hg
  have hmin' : Nat.min len2 len = n := hmin
  have hs := hS.2.1
  have hD := hS.1
  subst hg hsz
  have hpure : n = 0 → (∀ j, H2.get j = H.get j) := fun h0 j => by
    rw [hH2 j]
    have hr0 : rows2 = [] := List.eq_nil_of_length_eq_zero (by omega)
    subst hr0
    rw [write_nil h0]
    by_cases e : j = id
    · subst e; rw [Heap.get_set_same, hH]
    · exact Heap.get_set_other _ _ e
  have hfirst : ∀ news : List Value, ∀ ad c', a.eval y = .slice (some ad) len2 c' → news.length = n * ob.sz → (∀ j u, news[j]? = some u → w.cell? (ad.add j) = some u) → (Builtin.firstCells ob.sz n (a.eval y)).run P w = .ok news.toArray w := fun news ad c' e1 e2 e3 => by
    rw [e1]; exact run_firstCells_some (P := P) w ob.sz n ad len2 c' news e2 e3
  rcases hcase with ⟨b, oo, c1, c2, c3⟩ | ⟨c1, c2, c3, c4, c5⟩
  · by_cases hn0 : n = 0
    · obtain ⟨k2, k3⟩ := hr.congr (hpure hn0)
      have hrun : (execOp a.eval o).run P w = .ok (.value (.int .i64 ((0 : Nat) : Int))) w := by
        unfold execOp
        have hfc : (Builtin.firstCells ob.sz n (a.eval y)).run P w = .ok #[] w := by
          rcases hsrc a w I ι hr he with ⟨ad, c', news, s1, s2, s3, s4, s5, s6⟩ | ⟨s1, s2, s3⟩
          · have := hfirst news ad c' s1 (by rw [s3, hn]) s4
            have hnn : news = [] := List.eq_nil_of_length_eq_zero (by rw [s3, hn, hn0]; simp)
            rw [this, hnn]
          · rw [s1]; exact run_firstCells_none (P := P) (w := w) ob.sz n 0 0
        have hlen : (Builtin.lenOf (a.eval y)).run P w = .ok len2 w := by
          rcases hsrc a w I ι hr he with ⟨ad, c', news, s1, s2, s3, s4, s5, s6⟩ | ⟨s1, s2, s3⟩
          · rw [s1]; rfl
          · rw [s1, s2]; rfl
        simp only [ho, resolve, invoke, builtin, Sem.run_bind, Sem.run_pure, Result.andThen_ok, List.map_toArray, List.map_cons, List.map_nil, c2, Builtin.copy_, run_underlying hD, hs]
        simp only [List.getElem?_toArray, List.getElem?_cons_zero, List.getElem?_cons_succ, run_underlying hD, Sem.run_bind, Sem.run_pure, Result.andThen_ok, hs, hlen, hmin', hfc]
        simp [storeCells, goInt, hn0]
      unfold Oper.wpW
      rw [hrun]
      subst hn0
      exact hk _ _ I ι _ _ ⟨rfl, rfl⟩ (.pv (.int _ _)) k2 k3
    · obtain ⟨p1, p2, ⟨b', cap', cs, e1, e2, e3, e4, e5, e5', e6⟩ | ⟨e1, _⟩⟩ := (hr.obj id ob hH).cells hz
      · rw [c1] at e1; cases e1
        have hoo := c3 (by omega)
        subst hoo
        rcases hsrc a w I ι hr he with ⟨ad, c', news, s1, s2, s3, s4, s5, s6⟩ | ⟨s1, s2, s3⟩
        · have hnl : news.length = n * ob.sz := by rw [s3, hn]
          have hfc := hfirst news ad c' s1 hnl s4
          have hfit : off * ob.sz + 0 + news.length ≤ cs.size := by
            rw [e4, hnl, Nat.add_zero, ← Nat.add_mul]; exact Nat.mul_le_mul_right _ (by omega)
          have hst := run_storeCells_at P b (off * ob.sz) ob.ty news 0 cs w e2 hfit s5
          simp only [Nat.add_zero] at hst
          obtain ⟨k2, k3⟩ := Rel.write (H' := H2) (off := off) (g2 := ob.g) hr hH c1 e2 s3 s6 hrl2 hoff (by omega) (Nat.le_refl _) (by rw [hH2, Heap.get_set_same, hn]) (fun j hj => by rw [hH2, Heap.get_set_other _ _ hj])
          unfold Oper.wpW execOp
          simp only [ho, resolve, invoke, builtin, Sem.run_bind, Sem.run_pure, Result.andThen_ok, List.map_toArray, List.map_cons, List.map_nil, c2, Builtin.copy_, run_underlying hD, hs]
          have hlen : (Builtin.lenOf (a.eval y)).run P w = .ok len2 w := by rw [s1]; rfl
          simp only [List.getElem?_toArray, List.getElem?_cons_zero, List.getElem?_cons_succ, run_underlying hD, Sem.run_bind, Sem.run_pure, Result.andThen_ok, hs, hlen, hmin', hfc, hst]
          exact hk _ _ I ι _ _ ⟨rfl, rfl⟩ (.pv (.int _ _)) k2 k3
        · omega
      · rw [c1] at e1; cases e1
  · have hn0 : n = 0 := by omega
    obtain ⟨k2, k3⟩ := hr.congr (hpure hn0)
    have hrun : (execOp a.eval o).run P w = .ok (.value (.int .i64 ((0 : Nat) : Int))) w := by
      unfold execOp
      have hfc : (Builtin.firstCells ob.sz n (a.eval y)).run P w = .ok #[] w := by
        rcases hsrc a w I ι hr he with ⟨ad, c', news, s1, s2, s3, s4, s5, s6⟩ | ⟨s1, s2, s3⟩
        · have := hfirst news ad c' s1 (by rw [s3, hn]) s4
          have hnn : news = [] := List.eq_nil_of_length_eq_zero (by rw [s3, hn, hn0]; simp)
          rw [this, hnn]
        · rw [s1]; exact run_firstCells_none (P := P) (w := w) ob.sz n 0 0
      have hlen : (Builtin.lenOf (a.eval y)).run P w = .ok len2 w := by
        rcases hsrc a w I ι hr he with ⟨ad, c', news, s1, s2, s3, s4, s5, s6⟩ | ⟨s1, s2, s3⟩
        · rw [s1]; rfl
        · rw [s1, s2]; rfl
      rw [c4] at hmin'
      simp only [ho, resolve, invoke, builtin, Sem.run_bind, Sem.run_pure, Result.andThen_ok, List.map_toArray, List.map_cons, List.map_nil, c2, Builtin.copy_, run_underlying hD, hs]
      simp only [List.getElem?_toArray, List.getElem?_cons_zero, List.getElem?_cons_succ, run_underlying hD, Sem.run_bind, Sem.run_pure, Result.andThen_ok, hs, hlen, hmin', hfc]
      simp [storeCells, goInt, hn0]
    unfold Oper.wpW
    rw [hrun]
    subst hn0
    exact hk _ _ I ι _ _ ⟨rfl, rfl⟩ (.pv (.int _ _)) k2 k3
end
end Go.Abs
end
