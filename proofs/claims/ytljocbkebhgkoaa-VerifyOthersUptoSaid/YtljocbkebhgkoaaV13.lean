/-
  CONTRACTS: planisphereref32.Names, planisphereref12.In; laws on accepted evidence for other maps and edits. Conditions: lengths below 2^62.
-/
import Derived.Test.YtljocbkebhgkoaaV12
set_option linter.unusedVariables false
set_option linter.unusedSimpArgs false
set_option maxRecDepth 100000
namespace Go.Proofs.Ytljocbkebhgkoaa
open Go.Abs
abbrev stRows (l : List ByteArray) : List (List AV) := l.map (fun e => (encStr e).map .pv)
def strIs (s : ByteArray) (t : ByteArray) : Bool := decide (t = s)
theorem in_c (l : List ByteArray) (s : ByteArray) (H : Heap) (hl : l.length < 4611686018427387904) :
    ACalls Try.prog 20 [.pv (slStrs l), sv s] H (fun r H' => r = bv (l.any (strIs s)) ∧ H' = H) := by
  refine ACalls.pure ?_ (by simp) H
  have hml : (l.map encStr).length = l.length := List.length_map _
  refine ACalls.body Try.func20 rfl Try.ntmps20 (Nat.le_of_ble_eq_true rfl) ?_
  refine awp_seq ?_
  refine awp_region ?_
  refine al_d rfl rfl rfl (by exact opd_assign rfl rfl) ?_
  refine al_nil ?_
  refine awp_seq ?_
  refine awp_seq ?_
  refine awp_region ?_
  refine al_d rfl rfl rfl (by exact opd_assign rfl rfl) ?_
  refine al_nil ?_
  refine awp_block ?_
  -- loop
  refine awp_loop (σ := Nat) (fun i => ([(0, .pv (slStrs l)), (1, sv s), (5, iv (i : Int))], [])) (fun i => i ≤ l.length ∧ ∀ j, j < i → ∀ b, l[j]? = some b → strIs s b = false) (fun i => l.length - i) 0 ⟨by omega, fun j hj => absurd hj (by omega)⟩ ?_ ?_
  · exact Ent.e0 ⟨⟨_, rfl, rfl⟩, ⟨_, rfl, rfl⟩, ⟨_, rfl, rfl⟩, trivial⟩
  · rintro i ⟨hi, hpre⟩
    refine awp_seq ?_
    refine awp_seq ?_
    refine awp_region ?_
    refine al_d rfl rfl rfl (by exact opd_move rfl rfl) ?_
    refine al_d rfl rfl rfl (by exact opd_move rfl rfl) ?_
    refine al_d rfl rfl rfl (by exact (by first | exact opd_len_sl rfl Try.underlying34 rfl | exact opd_len_osl rfl Try.underlying34 rfl rfl rfl)) ?_
    refine al_d rfl rfl rfl (by exact opd_lss rfl rfl rfl) ?_
    refine al_nil ?_
    refine awp_cond rfl (fun hc1 => ?_) (fun hc1 => ?_)
    -- cond 1
    · have hlt : i < l.length := by have := of_decide_eq_true hc1; omega
      obtain ⟨a, ha⟩ := get_of_lt hlt
      have hae := map_get (f := encStr) ha
      refine awp_skip ?_
      refine awp_seq ?_
      refine awp_block ?_
      refine awp_seq ?_
      refine awp_region ?_
      refine al_d rfl rfl rfl (by exact opd_move rfl rfl) ?_
      refine al_d rfl rfl rfl (by exact opd_move rfl rfl) ?_
      refine al_d rfl rfl rfl (by exact (by first | exact x_index_pad rfl so34 rfl rfl (by omega) (by first | exact Int.toNat_natCast _ | rfl) (by assumption) rfl | exact x_index_osl rfl so34 rfl rfl rfl rfl rfl (by omega) (by first | exact Int.toNat_natCast _ | rfl) (by first | omega | assumption) rfl)) ?_
      refine al_d rfl rfl rfl (by exact (by first | exact opd_load1_ref rfl Try.isAgg9 rfl rfl rfl rfl rfl | exact opd_load1_pad rfl Try.isAgg9 rfl (by first | omega | assumption) rfl)) ?_
      refine al_d rfl rfl rfl (by exact opd_move rfl rfl) ?_
      refine al_d rfl rfl rfl (by exact opd_seql rfl rfl rfl) ?_
      refine al_nil ?_
      refine awp_cond rfl (fun hc2 => ?_) (fun hc2 => ?_)
      -- cond 2
      · skip
        refine awp_seq ?_
        refine awp_region ?_
        refine al_d rfl rfl rfl (by exact opd_assign rfl rfl) ?_
        refine al_nil ?_
        refine awp_ret ?_
        -- return
        refine aret1 (H' := []) (by first | exact .inr rfl | exact .inl rfl) rfl (rval_tmp rfl) (Fin.wk (by simp) trivial trivial) ?_
        exact ⟨by rw [any_some ha hc2], rfl⟩
      · skip
        refine awp_skip ?_
        refine awp_region ?_
        refine al_d rfl rfl rfl (by exact opd_move rfl rfl) ?_
        refine al_d rfl rfl rfl (by exact opd_add rfl rfl rfl (by first | exact w64 (by omega) (by omega) | exact wu8 (by omega) (by omega) | rfl)) ?_
        refine al_d rfl rfl rfl (by exact opd_assign rfl rfl) ?_
        refine al_nil ?_
        -- end of a round
        exact ⟨i + 1, ⟨by omega, pre_succ hpre ha hc2⟩, by omega, Ent.e0 ⟨⟨_, rfl, rfl⟩, ⟨_, rfl, rfl⟩, ⟨_, rfl, rfl⟩, trivial⟩⟩
    · have hge : i = l.length := by have : ¬ _ := of_decide_eq_false hc1; omega
      subst hge
      refine awp_exit ?_
      refine awp_seq ?_
      refine awp_region ?_
      refine al_d rfl rfl rfl (by exact opd_assign rfl rfl) ?_
      refine al_nil ?_
      refine awp_ret ?_
      -- return
      refine aret1 (H' := []) (by first | exact .inr rfl | exact .inl rfl) rfl (rval_tmp rfl) (Fin.wk (by simp) trivial trivial) ?_
      exact ⟨by rw [any_none hpre], rfl⟩
def gNames (l : List GEdit) : List Int → List ByteArray
  | [] => []
  | i :: r => if 0 ≤ i ∧ i < (l.length : Int) then ((l[i.toNat]?).map (·.id)).toList ++ gNames l r else gNames l r
theorem gNames_app (l : List GEdit) (a b : List Int) : gNames l (a ++ b) = gNames l a ++ gNames l b := by
  induction a with
  | nil => rfl
  | cons i r ih =>
    simp only [List.cons_append, gNames, ih]
    split <;> simp
theorem gNames_len (l : List GEdit) (a : List Int) : (gNames l a).length ≤ a.length := by
  induction a with
  | nil => simp [gNames]
  | cons i r ih =>
    simp only [gNames]
    split
    · cases l[i.toNat]? <;> simp <;> omega
    · simp; omega
theorem take_snoc {α : Type} {l : List α} {i : Nat} {a : α} (h : l[i]? = some a) : l.take (i + 1) = l.take i ++ [a] := by rw [List.take_add_one, h]; rfl
theorem names_c (l : List GEdit) (kind : Int) (idx : List Int) (H : Heap) (hl : l.length < 4611686018427387904) (hx : idx.length < 1099511627776) :
    ACalls Try.prog 19 [.pv (slEdits l), .agg [iv kind, .pv (slInts idx)]] H (fun r H' => r = .pv (slStrs (gNames l idx)) ∧ H' = H) := by
  refine ACalls.pure ?_ (by simp) H
  have hml : (l.map encEdit).length = l.length := List.length_map _
  have hmi : (idx.map encInt).length = idx.length := List.length_map _
  refine ACalls.body Try.func19 rfl Try.ntmps19 (Nat.le_of_ble_eq_true rfl) ?_
  refine awp_seq ?_
  refine awp_region ?_
  refine al_d rfl rfl rfl (by exact opd_box (id := 3) rfl rfl rfl rfl rfl) ?_
  refine al_d rfl rfl rfl (by exact opd_assign rfl rfl) ?_
  refine al_nil ?_
  refine awp_seq ?_
  refine awp_region ?_
  refine al_d rfl rfl rfl (by exact opd_assign_own (id := 5) (sz := 1) (ty := 9) rfl rfl rfl) ?_
  refine al_nil ?_
  refine awp_seq ?_
  refine awp_seq ?_
  refine awp_region ?_
  refine al_d rfl rfl rfl (by exact opd_assign rfl rfl) ?_
  refine al_nil ?_
  refine awp_block ?_
  -- loop
  refine awp_loop2 (fun (i : Nat) (g : Nat) => ([(0, .pv (slEdits l)), (3, .ref 3 0 0 0), (5, .osl 5 g 0 (gNames l (idx.take i)).length), (6, iv (i : Int))], [(5, ⟨g, 1, 9, stRows (gNames l (idx.take i))⟩), (3, bx 2 28 [iv kind, .pv (slInts idx)])])) (fun i g => i ≤ idx.length) (fun i g => idx.length - i) 0 0 (by omega) ?_ ?_
  · exact (Ent.wk ⟨⟨_, rfl, rfl⟩, (by first | (simp; done) | (simp; rfl) | exact clo_map _ _ _), ⟨_, rfl, rfl⟩, (by first | (simp; done) | (simp; rfl) | exact clo_map _ _ _), ⟨_, rfl, rfl⟩, (by first | (simp; done) | (simp; rfl) | exact clo_map _ _ _), ⟨_, rfl, rfl⟩, (by first | (simp; done) | (simp; rfl) | exact clo_map _ _ _), trivial⟩ ⟨⟨_, rfl, rfl⟩, (by first | (simp; done) | (simp; rfl) | exact clo_map _ _ _), ⟨_, rfl, rfl⟩, (by first | (simp; done) | (simp; rfl) | exact clo_map _ _ _), trivial⟩ trivial)
  · rintro i g hi
    refine awp_seq ?_
    refine awp_seq ?_
    refine awp_region ?_
    refine al_d rfl rfl rfl (by exact opd_move rfl rfl) ?_
    refine al_d rfl rfl rfl (by exact (by first | exact opd_field_ref rfl fo28_1 rfl rfl rfl rfl | exact opd_field_pad rfl fo28_1 rfl rfl)) ?_
    refine al_d rfl rfl rfl (by exact (by first | exact opd_load1_ref rfl Try.isAgg26 rfl rfl rfl rfl rfl | exact opd_load1_pad rfl Try.isAgg26 rfl (by first | omega | assumption) rfl)) ?_
    refine al_d rfl rfl rfl (by exact (by first | exact opd_len_sl rfl Try.underlying26 rfl | exact opd_len_osl rfl Try.underlying26 rfl rfl rfl)) ?_
    refine al_d rfl rfl rfl (by exact opd_lss rfl rfl rfl) ?_
    refine al_nil ?_
    refine awp_cond rfl (fun hc1 => ?_) (fun hc1 => ?_)
    -- cond 1
    · have hlt : i < idx.length := by have := of_decide_eq_true hc1; omega
      obtain ⟨a, ha⟩ := get_of_lt hlt
      have hae := map_get (f := encInt) ha
      have hsn : gNames l (idx.take (i + 1)) = gNames l (idx.take i) ++ gNames l [a] := by rw [take_snoc ha, gNames_app]
      have hnl := gNames_len l (idx.take i)
      have htl : (idx.take i).length ≤ i := by simp; omega
      refine awp_skip ?_
      refine awp_seq ?_
      refine awp_block ?_
      refine awp_seq ?_
      refine awp_region ?_
      refine al_d rfl rfl rfl (by exact (by first | exact opd_field_ref rfl fo28_1 rfl rfl rfl rfl | exact opd_field_pad rfl fo28_1 rfl rfl)) ?_
      refine al_d rfl rfl rfl (by exact (by first | exact opd_load1_ref rfl Try.isAgg26 rfl rfl rfl rfl rfl | exact opd_load1_pad rfl Try.isAgg26 rfl (by first | omega | assumption) rfl)) ?_
      refine al_d rfl rfl rfl (by exact opd_move rfl rfl) ?_
      refine al_d rfl rfl rfl (by exact (by first | exact x_index_pad rfl so26 rfl rfl (by omega) (by first | exact Int.toNat_natCast _ | rfl) (by assumption) rfl | exact x_index_osl rfl so26 rfl rfl rfl rfl rfl (by omega) (by first | exact Int.toNat_natCast _ | rfl) (by first | omega | assumption) rfl)) ?_
      refine al_d rfl rfl rfl (by exact (by first | exact opd_load1_ref rfl Try.isAgg3 rfl rfl rfl rfl rfl | exact opd_load1_pad rfl Try.isAgg3 rfl (by first | omega | assumption) rfl)) ?_
      refine al_d rfl rfl rfl (by exact opd_assign rfl rfl) ?_
      refine al_nil ?_
      refine awp_seq ?_
      refine awp_bool (t := 27) (n := 9) (X := decide (0 ≤ a) && decide (a < (l.length : Int))) ?_ ?_
      · all_goals (refine al_d rfl rfl rfl (by exact opd_move rfl rfl) ?_)
        all_goals (refine al_d rfl rfl rfl (by exact opd_geq rfl rfl rfl) ?_)
        all_goals (refine al_d rfl rfl rfl (by exact opd_move rfl rfl) ?_)
        all_goals (first | refine al_split (t := 22) rfl (fun h22 => ?_) (fun h22 => ?_) | skip)
        all_goals (try contradiction)
        all_goals (first | refine al_off rfl rfl rfl rfl rfl ?_ | refine al_offu rfl rfl rfl rfl ?_ | refine al_ond rfl rfl rfl rfl rfl rfl (by exact opd_move rfl rfl) ?_)
        all_goals (first | refine al_off rfl rfl rfl rfl rfl ?_ | refine al_offu rfl rfl rfl rfl ?_ | refine al_ond rfl rfl rfl rfl rfl rfl (by exact opd_move rfl rfl) ?_)
        all_goals (first | refine al_off rfl rfl rfl rfl rfl ?_ | refine al_offu rfl rfl rfl rfl ?_ | refine al_ond rfl rfl rfl rfl rfl rfl (by exact (by first | exact opd_len_sl rfl Try.underlying25 rfl | exact opd_len_osl rfl Try.underlying25 rfl rfl rfl)) ?_)
        all_goals (first | refine al_off rfl rfl rfl rfl rfl ?_ | refine al_offu rfl rfl rfl rfl ?_ | refine al_ond rfl rfl rfl rfl rfl rfl (by exact opd_lss rfl rfl rfl) ?_)
        all_goals (refine al_d rfl rfl rfl (by exact (by first | exact opd_pick_t rfl rfl rfl | exact opd_pick_f rfl rfl rfl | exact opd_pickt rfl rfl (by assumption) rfl | exact opd_pickf rfl rfl (by assumption) rfl | exact opd_pick rfl rfl rfl)) ?_)
        all_goals (refine al_nil ?_)
        all_goals (exact ⟨⟨_, rfl, by first | rfl | (rw [hml]; simp_all; done) | (simp_all; done) | (simp_all; omega)⟩, rfl, rfl, rfl⟩)
      refine awp_cond rfl (fun hc2 => ?_) (fun hc2 => ?_)
      -- cond 2
      · obtain ⟨p, rfl, hpl⟩ : ∃ p : Nat, a = (p : Int) ∧ p < l.length := by
          simp only [Bool.and_eq_true, decide_eq_true_eq] at hc2
          exact ⟨a.toNat, by omega, by omega⟩
        obtain ⟨y, hy⟩ := get_of_lt hpl
        have hye := map_get (f := encEdit) hy
        have h1 : gNames l [(p : Int)] = [y.id] := by
          simp only [gNames]; rw [if_pos ⟨by omega, by omega⟩, Int.toNat_natCast, hy]; rfl
        rw [h1] at hsn
        refine awp_region ?_
        refine al_d rfl rfl rfl (by exact opd_move rfl rfl) ?_
        refine al_d rfl rfl rfl (by exact opd_move rfl rfl) ?_
        refine al_d rfl rfl rfl (by exact opd_move rfl rfl) ?_
        refine al_d rfl rfl rfl (by exact (by first | exact x_index_pad rfl so25 rfl rfl (by omega) (by first | exact Int.toNat_natCast _ | rfl) (by assumption) rfl | exact x_index_osl rfl so25 rfl rfl rfl rfl rfl (by omega) (by first | exact Int.toNat_natCast _ | rfl) (by first | omega | assumption) rfl)) ?_
        refine al_d rfl rfl rfl (by exact (by first | exact opd_field_ref rfl fo39_1 rfl rfl rfl rfl | exact opd_field_pad rfl fo39_1 rfl rfl)) ?_
        refine al_d rfl rfl rfl (by exact (by first | exact opd_load1_ref rfl Try.isAgg9 rfl rfl rfl rfl rfl | exact opd_load1_pad rfl Try.isAgg9 rfl (by first | omega | assumption) rfl)) ?_
        refine al_d rfl rfl rfl (by exact x_buildSlice [encStr y.id] rfl so34 rfl rfl rfl rfl rfl (by simp [encStr])) ?_
        refine al_d rfl rfl rfl (by exact (by first | exact x_append rfl so34 ei9 rfl rfl rfl rfl rfl (List.length_map _) rfl (by simp [encStr]) (rfl : _ = 1) (by omega) (len_snoc _ y.id) (List.map_append (l₂ := [y.id])).symm | exact x_append_osl rfl so34 ei9 rfl rfl rfl rfl rfl (List.length_map _) rfl rfl rfl rfl (by simp [encStr]) (rfl : _ = 1) (by omega) (len_snoc _ y.id) (List.map_append (l₂ := [y.id])).symm)) ?_
        refine al_d rfl rfl rfl (by exact opd_assign rfl rfl) ?_
        refine al_nil ?_
        refine awp_region ?_
        refine al_d rfl rfl rfl (by exact opd_move rfl rfl) ?_
        refine al_d rfl rfl rfl (by exact opd_add rfl rfl rfl (by first | exact w64 (by omega) (by omega) | exact wu8 (by omega) (by omega) | rfl)) ?_
        refine al_d rfl rfl rfl (by exact opd_assign rfl rfl) ?_
        refine al_nil ?_
        -- end of a round
        refine ⟨i + 1, g + 1, by omega, by omega, ?_⟩
        rw [hsn]
        exact (Ent.wk ⟨⟨_, rfl, rfl⟩, (by first | (simp; done) | (simp; rfl) | exact clo_map _ _ _), ⟨_, rfl, rfl⟩, (by first | (simp; done) | (simp; rfl) | exact clo_map _ _ _), ⟨_, rfl, rfl⟩, (by first | (simp; done) | (simp; rfl) | exact clo_map _ _ _), ⟨_, rfl, rfl⟩, (by first | (simp; done) | (simp; rfl) | exact clo_map _ _ _), trivial⟩ ⟨⟨_, rfl, rfl⟩, (by first | (simp; done) | (simp; rfl) | exact clo_map _ _ _), ⟨_, rfl, rfl⟩, (by first | (simp; done) | (simp; rfl) | exact clo_map _ _ _), trivial⟩ trivial)
      · have h1 : gNames l [a] = [] := by
          have : ¬ (0 ≤ a ∧ a < (l.length : Int)) := by simpa using hc2
          simp only [gNames, if_neg this]
        rw [h1, List.append_nil] at hsn
        refine awp_skip ?_
        refine awp_region ?_
        refine al_d rfl rfl rfl (by exact opd_move rfl rfl) ?_
        refine al_d rfl rfl rfl (by exact opd_add rfl rfl rfl (by first | exact w64 (by omega) (by omega) | exact wu8 (by omega) (by omega) | rfl)) ?_
        refine al_d rfl rfl rfl (by exact opd_assign rfl rfl) ?_
        refine al_nil ?_
        -- end of a round
        refine ⟨i + 1, g, by omega, by omega, ?_⟩
        rw [hsn]
        exact (Ent.wk ⟨⟨_, rfl, rfl⟩, (by first | (simp; done) | (simp; rfl) | exact clo_map _ _ _), ⟨_, rfl, rfl⟩, (by first | (simp; done) | (simp; rfl) | exact clo_map _ _ _), ⟨_, rfl, rfl⟩, (by first | (simp; done) | (simp; rfl) | exact clo_map _ _ _), ⟨_, rfl, rfl⟩, (by first | (simp; done) | (simp; rfl) | exact clo_map _ _ _), trivial⟩ ⟨⟨_, rfl, rfl⟩, (by first | (simp; done) | (simp; rfl) | exact clo_map _ _ _), ⟨_, rfl, rfl⟩, (by first | (simp; done) | (simp; rfl) | exact clo_map _ _ _), trivial⟩ trivial)
    · have hge : i = idx.length := by have : ¬ _ := of_decide_eq_false hc1; omega
      subst hge
      rw [List.take_length]
      refine awp_exit ?_
      refine awp_seq ?_
      refine awp_region ?_
      refine al_d rfl rfl rfl (by exact opd_move rfl rfl) ?_
      refine al_d rfl rfl rfl (by exact opd_assign rfl rfl) ?_
      refine al_nil ?_
      refine awp_ret ?_
      -- return
      refine aret1 (H' := []) (by first | exact .inr rfl | exact .inl rfl) rfl (rval_tmp rfl) (Fin.fz (id := 5) ((gNames l idx).map encStr) rfl (rows_of encStr _) (.osl (by rw [Nat.zero_add, List.drop_zero, ← List.length_map (f := encStr), List.take_length])) rfl trivial trivial) ?_
      exact ⟨rfl, rfl⟩
/-! ### plain laws -/
theorem find_filter {m : List GObj} {q : GObj → Bool} {id : ByteArray} (h : ∀ o, idIs id o = true → q o = true) : (m.filter q).find? (idIs id) = m.find? (idIs id) := by
  induction m with
  | nil => rfl
  | cons o m ih =>
    cases e : idIs id o with
    | true => rw [List.filter_cons_of_pos (h o e)]; simp [List.find?_cons, e]
    | false =>
      rw [List.find?_cons]; simp only [e]
      cases f : q o with
      | true => rw [List.filter_cons_of_pos f, List.find?_cons]; simp only [e]; exact ih
      | false => rw [List.filter_cons_of_neg (by simp [f])]; exact ih
theorem shows_filter {k : Nat} {m : List GObj} {q : GObj → Bool} {y : GEdit} (h : ∀ o, idIs y.id o = true → q o = true) : gShows k (m.filter q) y = gShows k m y := by
  have e := find_filter (m := m) h
  have e1 : obOf (m.filter q) y.id = obOf m y.id := by unfold obOf; rw [e]
  have e2 : isOb (m.filter q) y.id = isOb m y.id := by unfold isOb; rw [e]
  unfold gShows
  split <;> simp only [gDropped, gBlanked, gMoved, e1, e2]
theorem loop_filter {k : Nat} {m : List GObj} {q : GObj → Bool} {l : List GEdit} : ∀ {idx : List Int} {sh : List GEdit} {last : Int}, -1 ≤ last → (∀ o, (gNames l idx).any (strIs o.id) = true → q o = true) → gAccLoop k (m.filter q) l idx sh last = gAccLoop k m l idx sh last
  | [], sh, last, _, h => rfl
  | i :: r, sh, last, h0, h => by
    rw [gAccLoop, gAccLoop]
    split
    · rfl
    · next hno =>
      have h1 : 0 ≤ i ∧ i < (l.length : Int) := by omega
      cases hy : l[i.toNat]? with
      | none => rfl
      | some y =>
        simp only
        rw [shows_filter (fun o ho => h o ?_), loop_filter (by omega) (fun o ho => h o ?_)]
        · simp only [gNames, if_pos h1, List.any_append, Bool.or_eq_true]; exact .inr ho
        · simp only [gNames, if_pos h1, List.any_append, Bool.or_eq_true, hy]
          left
          simp only [idIs, decide_eq_true_eq] at ho
          simp [strIs, ho]
theorem acc_filter {m : List GObj} {q : GObj → Bool} {l : List GEdit} {kind : Int} {idx : List Int} (h : ∀ o, (gNames l idx).any (strIs o.id) = true → q o = true) : gAccept (m.filter q) l kind idx = gAccept m l kind idx := by
  simp only [gAccept, loop_filter (Int.le_refl _) h]
def gHarm (e : GEdit) : Bool := !decide (e.op = 5) && !decide (e.op = 3) && !decide (e.op = 2) && !decide (e.op = 1)
theorem shows_harm {k : Nat} {m : List GObj} {y : GEdit} (hk : 1 ≤ k) (h : gHarm y = true) : gShows k m y = false := by
  simp only [gHarm, Bool.and_eq_true, Bool.not_eq_true', decide_eq_false_iff_not] at h
  obtain ⟨⟨⟨h5, h3⟩, h2⟩, h1⟩ := h
  unfold gShows
  split <;> simp [gDropped, gBlanked, gMoved, gPut, h5, h3, h2, h1]
theorem acc_harm {m : List GObj} {l : List GEdit} {kind : Int} {idx : List Int} (h : l.all gHarm = true) : gAccept m l kind idx = false := by
  cases e : gAccept m l kind idx with
  | false => rfl
  | true =>
    obtain ⟨h1, h4, hlen, hpw, hr⟩ := acc_true e
    have hm := acc_many h1 h4
    simp only [gAccept, Bool.and_eq_true, decide_eq_true_eq] at e
    obtain ⟨⟨_, hloop⟩, _⟩ := e
    cases idx with
    | nil => simp at hlen; omega
    | cons i r =>
      rw [gAccLoop] at hloop
      split at hloop
      · cases hloop
      · split at hloop
        · cases hloop
        · next y hy =>
          have hh := List.all_eq_true.1 h y (List.mem_of_getElem? hy)
          rw [shows_harm (by omega) hh] at hloop
          simp at hloop
theorem loop_more {k : Nat} {m : List GObj} {l : List GEdit} {x : GEdit} : ∀ {idx : List Int} {sh : List GEdit} {last : Int}, -1 ≤ last → (∀ i, i ∈ idx → i < l.length) → gAccLoop k m (l ++ [x]) idx sh last = gAccLoop k m l idx sh last
  | [], sh, last, _, h => rfl
  | i :: r, sh, last, h0, h => by
    have hi := h i (by simp)
    rw [gAccLoop, gAccLoop]
    by_cases hle : i ≤ last
    · rw [if_pos (.inl hle), if_pos (.inl hle)]
    · have hn : i.toNat < l.length := by omega
      have hlen : (l ++ [x]).length = l.length + 1 := by simp
      rw [if_neg (by omega), if_neg (by omega), List.getElem?_append_left hn]
      cases hy : l[i.toNat]? with
      | none => rfl
      | some y => simp only; rw [loop_more (by omega) (fun j hj => h j (by simp [hj]))]
theorem acc_more {m : List GObj} {l : List GEdit} {x : GEdit} {kind : Int} {idx : List Int} (hk : kind ≠ 1) (h : ∀ i, i ∈ idx → i < l.length) : gAccept m (l ++ [x]) kind idx = gAccept m l kind idx := by
  simp only [gAccept, loop_more (Int.le_refl _) h, hk, decide_false, Bool.not_false, Bool.true_or]
end Go.Proofs.Ytljocbkebhgkoaa
