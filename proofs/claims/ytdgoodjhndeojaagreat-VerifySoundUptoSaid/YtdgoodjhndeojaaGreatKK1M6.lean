/-
  CONTRACTS: what is moderate (three references), names, membership. Conditions: lengths below 2^62.
  STATES in front of a heap that is not looked into: objects are dropped. Conditions: none.
  CONTRACTS: package edit: kinds, references, closed maps. Conditions: lengths below 2^62.
-/
import Derived.Test.YtdgoodjhndeojaaGreatKK1M5
import Derived.Scope
section
set_option linter.unusedVariables false
set_option linter.unusedSimpArgs false
set_option maxRecDepth 100000
namespace Go.Proofs.YtdgoodjhndeojaaGreat
open Go.Abs
def longS (n : Int) (s : ByteArray) : Bool := decide (n < (s.size : Int))
def longT (n : Int) (t : GTag) : Bool := decide (n < IntKind.i64.wrap ((t.key.size : Int) + (t.val.size : Int)))
def bad13 (o : GObj) : Bool := (decide (12 < (o.refs.length : Int)) || decide (20 < (o.tags.length : Int)) || longS 60 o.id) || o.refs.any (longS 60) || o.tags.any (longT 300)
def few13 (m : List GObj) (n : Int) : Bool := !(decide (n < (m.length : Int))) && !(m.any bad13)
/-- Lengths that a loop can count. -/
def okObj (o : GObj) : Prop := o.refs.length < 4611686018427387904 ∧ o.tags.length < 4611686018427387904
theorem few13_c (m : List GObj) (n : Int) (H : Heap) (hm : m.length < 4611686018427387904) (ho : ∀ o, o ∈ m → okObj o) :
    ACalls Tryz.prog 53 [.agg [.pv (slObjs m)], iv n] H (fun r H' => r = bv (few13 m n) ∧ H' = H) := by
  refine ACalls.pure ?_ (by simp) H
  have hml : (m.map encObj).length = m.length := List.length_map _
  refine ACalls.body Tryz.func53 rfl Tryz.ntmps53 (Nat.le_of_ble_eq_true rfl) ?_
  refine awp_seq ?_
  refine awp_region ?_
  refine al_d rfl rfl rfl (by exact opd_box (id := 2) rfl rfl rfl rfl rfl) ?_
  refine al_d rfl rfl rfl (by exact opd_assign rfl rfl) ?_
  refine al_nil ?_
  refine awp_seq ?_
  refine awp_seq ?_
  refine awp_region ?_
  refine al_d rfl rfl rfl (by exact (by first | exact opd_field_ref rfl fo24_0 rfl rfl rfl rfl | exact opd_field_pad rfl fo24_0 rfl rfl)) ?_
  refine al_d rfl rfl rfl (by exact (by first | exact opd_load1_ref rfl Tryz.isAgg22 rfl rfl rfl rfl rfl | exact opd_load1_pad rfl Tryz.isAgg22 rfl (by first | omega | assumption) rfl)) ?_
  refine al_d rfl rfl rfl (by exact (by first | exact opd_len_sl rfl Tryz.underlying22 rfl | exact opd_len_osl rfl Tryz.underlying22 rfl rfl rfl)) ?_
  refine al_d rfl rfl rfl (by exact opd_move rfl rfl) ?_
  refine al_d rfl rfl rfl (by exact opd_gtr rfl rfl rfl) ?_
  refine al_nil ?_
  refine awp_cond rfl (fun hc1 => ?_) (fun hc1 => ?_)
  -- cond 1
  · have hb : decide (n < (m.length : Int)) = true := by rw [← hml]; exact hc1
    refine awp_seq ?_
    refine awp_region ?_
    refine al_d rfl rfl rfl (by exact opd_assign rfl rfl) ?_
    refine al_nil ?_
    refine awp_ret ?_
    -- return
    refine aret1 (H' := []) (by first | exact .inr rfl | exact .inl rfl) rfl (rval_tmp rfl) (Fin.wk (by simp) trivial trivial) ?_
    exact ⟨by rw [few13, hb]; rfl, rfl⟩
  · have hb : decide (n < (m.length : Int)) = false := by rw [← hml]; exact hc1
    rw [few13, hb, Bool.not_false, Bool.true_and]
    refine awp_skip ?_
    refine awp_seq ?_
    refine awp_seq ?_
    refine awp_region ?_
    refine al_d rfl rfl rfl (by exact opd_assign rfl rfl) ?_
    refine al_nil ?_
    refine awp_block ?_
    -- loop
    refine awp_loop (σ := Nat) (fun i => ([(2, .ref 2 0 0 0), (5, iv (i : Int))], [(2, bx 1 24 [.pv (slObjs m)])])) (fun i => i ≤ m.length ∧ ∀ j, j < i → ∀ b, m[j]? = some b → bad13 b = false) (fun i => m.length - i) 0 ⟨by omega, by omega⟩ ?_ ?_
    · exact (Ent.wk ⟨⟨_, rfl, rfl⟩, (by first | (simp; done) | (simp; rfl) | exact clo_map _ _ _), ⟨_, rfl, rfl⟩, (by first | (simp; done) | (simp; rfl) | exact clo_map _ _ _), trivial⟩ ⟨⟨_, rfl, rfl⟩, (by first | (simp; done) | (simp; rfl) | exact clo_map _ _ _), trivial⟩ trivial)
    · rintro i ⟨hi, hno⟩
      refine awp_seq ?_
      refine awp_seq ?_
      refine awp_region ?_
      refine al_d rfl rfl rfl (by exact opd_move rfl rfl) ?_
      refine al_d rfl rfl rfl (by exact (by first | exact opd_field_ref rfl fo24_0 rfl rfl rfl rfl | exact opd_field_pad rfl fo24_0 rfl rfl)) ?_
      refine al_d rfl rfl rfl (by exact (by first | exact opd_load1_ref rfl Tryz.isAgg22 rfl rfl rfl rfl rfl | exact opd_load1_pad rfl Tryz.isAgg22 rfl (by first | omega | assumption) rfl)) ?_
      refine al_d rfl rfl rfl (by exact (by first | exact opd_len_sl rfl Tryz.underlying22 rfl | exact opd_len_osl rfl Tryz.underlying22 rfl rfl rfl)) ?_
      refine al_d rfl rfl rfl (by exact opd_lss rfl rfl rfl) ?_
      refine al_nil ?_
      refine awp_cond rfl (fun hc2 => ?_) (fun hc2 => ?_)
      -- cond 2
      · have hlt : i < m.length := by simpa using hc2
        obtain ⟨o, hoi⟩ := get_of_lt hlt
        have hie := map_get (f := encObj) hoi
        have hok := ho o (List.mem_of_getElem? hoi)
        have hrl : (o.refs.map encStr).length = o.refs.length := List.length_map _
        have htl : (o.tags.map encTag).length = o.tags.length := List.length_map _
        have h1 := hok.1
        have h2 := hok.2
        refine awp_skip ?_
        refine awp_seq ?_
        refine awp_block ?_
        refine awp_seq ?_
        refine awp_region ?_
        refine al_d rfl rfl rfl (by exact (by first | exact opd_field_ref rfl fo24_0 rfl rfl rfl rfl | exact opd_field_pad rfl fo24_0 rfl rfl)) ?_
        refine al_d rfl rfl rfl (by exact (by first | exact opd_load1_ref rfl Tryz.isAgg22 rfl rfl rfl rfl rfl | exact opd_load1_pad rfl Tryz.isAgg22 rfl (by first | omega | assumption) rfl)) ?_
        refine al_d rfl rfl rfl (by exact opd_move rfl rfl) ?_
        refine al_d rfl rfl rfl (by exact (by first | exact x_index_pad rfl so22 rfl rfl (by omega) (by first | exact Int.toNat_natCast _ | rfl) (by assumption) rfl | exact x_index_osl rfl so22 rfl rfl rfl rfl rfl (by omega) (by first | exact Int.toNat_natCast _ | rfl) (by first | omega | assumption) rfl)) ?_
        refine al_d rfl rfl rfl (by exact (by first | exact opd_loadn_ref rfl Tryz.isAgg42 Tryz.sizeOf42 rfl rfl rfl rfl (by simp only [List.drop_succ_cons, List.drop_zero, List.take_succ_cons, List.take_zero, List.take_nil, List.map_cons, List.map_nil, List.set_cons_zero, List.set_cons_succ, List.cons_append, List.nil_append, encTag, encObj, encEdit]; rfl) rfl | exact opd_loadn_pad rfl Tryz.isAgg42 Tryz.sizeOf42 rfl (by first | omega | assumption) (by simp only [List.drop_succ_cons, List.drop_zero, List.take_succ_cons, List.take_zero, List.take_nil, List.map_cons, List.map_nil, List.set_cons_zero, List.set_cons_succ, List.cons_append, List.nil_append, encTag, encObj, encEdit]; rfl) rfl)) ?_
        refine al_d rfl rfl rfl (by exact x_alloc (id := 6) rfl zo42 rfl rfl) ?_
        refine al_n rfl rfl (by exact (by first | exact x_store_all rfl Tryz.sizeOf42 rfl rfl rfl rfl rfl rfl rfl rfl | exact x_store rfl Tryz.sizeOf42 rfl rfl rfl rfl rfl rfl rfl (by simp only [List.length_cons, List.length_nil]; omega) (by simp only [List.drop_succ_cons, List.drop_zero, List.take_succ_cons, List.take_zero, List.take_nil, List.map_cons, List.map_nil, List.set_cons_zero, List.set_cons_succ, List.cons_append, List.nil_append, encTag, encObj, encEdit]; rfl) (by simp only [List.drop_succ_cons, List.drop_zero, List.take_succ_cons, List.take_zero, List.take_nil, List.map_cons, List.map_nil, List.set_cons_zero, List.set_cons_succ, List.cons_append, List.nil_append, encTag, encObj, encEdit]; rfl) | exact x_store rfl Tryz.sizeOf42 rfl rfl rfl rfl rfl rfl rfl (Nat.le_of_ble_eq_true rfl) rfl rfl)) ?_
        refine al_nil ?_
        refine awp_seq ?_
        refine awp_seq ?_
        refine awp_bool (t := 41) (n := 18) (X := decide (12 < ((o.refs.map encStr).length : Int)) || decide (20 < ((o.tags.map encTag).length : Int)) || longS 60 o.id) ?_ ?_
        · all_goals (refine al_d rfl rfl rfl (by exact (by first | exact opd_field_ref rfl fo42_3 rfl rfl rfl rfl | exact opd_field_pad rfl fo42_3 rfl rfl)) ?_)
          all_goals (refine al_d rfl rfl rfl (by exact (by first | exact opd_load1_ref rfl Tryz.isAgg39 rfl rfl rfl rfl rfl | exact opd_load1_pad rfl Tryz.isAgg39 rfl (by first | omega | assumption) rfl)) ?_)
          all_goals (refine al_d rfl rfl rfl (by exact (by first | exact opd_len_sl rfl Tryz.underlying39 rfl | exact opd_len_osl rfl Tryz.underlying39 rfl rfl rfl)) ?_)
          all_goals (refine al_d rfl rfl rfl (by exact opd_gtr rfl rfl rfl) ?_)
          all_goals (refine al_d rfl rfl rfl (by exact opd_move rfl rfl) ?_)
          all_goals (first | refine al_split (t := 30) rfl (fun h30 => ?_) (fun h30 => ?_) | refine al_dup (t := 30) rfl ?_ | skip)
          all_goals (try contradiction)
          all_goals (first | refine al_off rfl rfl rfl rfl rfl ?_ | refine al_offu rfl rfl rfl rfl ?_ | refine al_ond rfl rfl rfl rfl rfl rfl (by exact (by first | exact opd_field_ref rfl fo42_4 rfl rfl rfl rfl | exact opd_field_pad rfl fo42_4 rfl rfl)) ?_)
          all_goals (first | refine al_off rfl rfl rfl rfl rfl ?_ | refine al_offu rfl rfl rfl rfl ?_ | refine al_ond rfl rfl rfl rfl rfl rfl (by exact (by first | exact opd_load1_ref rfl Tryz.isAgg40 rfl rfl rfl rfl rfl | exact opd_load1_pad rfl Tryz.isAgg40 rfl (by first | omega | assumption) rfl)) ?_)
          all_goals (first | refine al_off rfl rfl rfl rfl rfl ?_ | refine al_offu rfl rfl rfl rfl ?_ | refine al_ond rfl rfl rfl rfl rfl rfl (by exact (by first | exact opd_len_sl rfl Tryz.underlying40 rfl | exact opd_len_osl rfl Tryz.underlying40 rfl rfl rfl)) ?_)
          all_goals (first | refine al_off rfl rfl rfl rfl rfl ?_ | refine al_offu rfl rfl rfl rfl ?_ | refine al_ond rfl rfl rfl rfl rfl rfl (by exact opd_gtr rfl rfl rfl) ?_)
          all_goals (refine al_d rfl rfl rfl (by exact (by first | exact opd_pick_t rfl rfl rfl | exact opd_pick_f rfl rfl rfl | exact opd_pickt rfl rfl (by assumption) rfl | exact opd_pickf rfl rfl (by assumption) rfl | exact opd_pick rfl rfl rfl)) ?_)
          all_goals (refine al_d rfl rfl rfl (by exact opd_move rfl rfl) ?_)
          all_goals (first | refine al_split (t := 36) rfl (fun h36 => ?_) (fun h36 => ?_) | refine al_dup (t := 36) rfl ?_ | skip)
          all_goals (try contradiction)
          all_goals (first | refine al_off rfl rfl rfl rfl rfl ?_ | refine al_offu rfl rfl rfl rfl ?_ | refine al_ond rfl rfl rfl rfl rfl rfl (by exact (by first | exact opd_field_ref rfl fo42_0 rfl rfl rfl rfl | exact opd_field_pad rfl fo42_0 rfl rfl)) ?_)
          all_goals (first | refine al_off rfl rfl rfl rfl rfl ?_ | refine al_offu rfl rfl rfl rfl ?_ | refine al_ond rfl rfl rfl rfl rfl rfl (by exact (by first | exact opd_load1_ref rfl Tryz.isAgg9 rfl rfl rfl rfl rfl | exact opd_load1_pad rfl Tryz.isAgg9 rfl (by first | omega | assumption) rfl)) ?_)
          all_goals (first | refine al_off rfl rfl rfl rfl rfl ?_ | refine al_offu rfl rfl rfl rfl ?_ | refine al_ond rfl rfl rfl rfl rfl rfl (by exact opd_len_str rfl Tryz.underlying9 rfl) ?_)
          all_goals (first | refine al_off rfl rfl rfl rfl rfl ?_ | refine al_offu rfl rfl rfl rfl ?_ | refine al_ond rfl rfl rfl rfl rfl rfl (by exact opd_gtr rfl rfl rfl) ?_)
          all_goals (refine al_d rfl rfl rfl (by exact (by first | exact opd_pick_t rfl rfl rfl | exact opd_pick_f rfl rfl rfl | exact opd_pickt rfl rfl (by assumption) rfl | exact opd_pickf rfl rfl (by assumption) rfl | exact opd_pick rfl rfl rfl)) ?_)
          all_goals (refine al_nil ?_)
          all_goals (exact ⟨⟨_, rfl, by first | rfl | (simp only [longS, *]; rfl) | (simp_all [longS]; done) | (simp_all [longS]; omega)⟩, rfl, rfl, rfl⟩)
        refine awp_cond rfl (fun hc3 => ?_) (fun hc3 => ?_)
        -- cond 3
        · have hbad : bad13 o = true := by
            rw [hrl, htl] at hc3
            rw [bad13, hc3]; rfl
          refine awp_seq ?_
          refine awp_region ?_
          refine al_d rfl rfl rfl (by exact opd_assign rfl rfl) ?_
          refine al_nil ?_
          refine awp_ret ?_
          -- return
          refine aret1 (H' := []) (by first | exact .inr rfl | exact .inl rfl) rfl (rval_tmp rfl) (Fin.wk (by simp) trivial trivial) ?_
          exact ⟨by rw [any_some hoi hbad]; rfl, rfl⟩
        · rw [hrl, htl] at hc3
          have hb1 : bad13 o = (o.refs.any (longS 60) || o.tags.any (longT 300)) := by rw [bad13, hc3]; rfl
          refine awp_skip ?_
          refine awp_seq ?_
          refine awp_seq ?_
          refine awp_region ?_
          refine al_d rfl rfl rfl (by exact opd_assign rfl rfl) ?_
          refine al_nil ?_
          refine awp_block ?_
          -- loop
          refine awp_loop (σ := Nat) (fun q => ([(2, .ref 2 0 0 0), (5, iv (i : Int)), (6, .ref 6 0 0 0), (7, iv (q : Int))], [(6, bx 6 42 ((encObj o).map .pv)), (2, bx 1 24 [.pv (slObjs m)])])) (fun q => q ≤ o.refs.length ∧ ∀ j, j < q → ∀ b, o.refs[j]? = some b → longS 60 b = false) (fun q => o.refs.length - q) 0 ⟨by omega, by omega⟩ ?_ ?_
          · exact (Ent.wk ⟨⟨_, rfl, rfl⟩, (by first | (simp; done) | (simp; rfl) | exact clo_map _ _ _), ⟨_, rfl, rfl⟩, (by first | (simp; done) | (simp; rfl) | exact clo_map _ _ _), ⟨_, rfl, rfl⟩, (by first | (simp; done) | (simp; rfl) | exact clo_map _ _ _), ⟨_, rfl, rfl⟩, (by first | (simp; done) | (simp; rfl) | exact clo_map _ _ _), trivial⟩ ⟨⟨_, rfl, rfl⟩, (by first | (simp; done) | (simp; rfl) | exact clo_map _ _ _), ⟨_, rfl, rfl⟩, (by first | (simp; done) | (simp; rfl) | exact clo_map _ _ _), trivial⟩ trivial)
          · rintro q ⟨hq, hnr⟩
            refine awp_seq ?_
            refine awp_seq ?_
            refine awp_region ?_
            refine al_d rfl rfl rfl (by exact opd_move rfl rfl) ?_
            refine al_d rfl rfl rfl (by exact (by first | exact opd_field_ref rfl fo42_3 rfl rfl rfl rfl | exact opd_field_pad rfl fo42_3 rfl rfl)) ?_
            refine al_d rfl rfl rfl (by exact (by first | exact opd_load1_ref rfl Tryz.isAgg39 rfl rfl rfl rfl rfl | exact opd_load1_pad rfl Tryz.isAgg39 rfl (by first | omega | assumption) rfl)) ?_
            refine al_d rfl rfl rfl (by exact (by first | exact opd_len_sl rfl Tryz.underlying39 rfl | exact opd_len_osl rfl Tryz.underlying39 rfl rfl rfl)) ?_
            refine al_d rfl rfl rfl (by exact opd_lss rfl rfl rfl) ?_
            refine al_nil ?_
            refine awp_cond rfl (fun hc4 => ?_) (fun hc4 => ?_)
            -- cond 4
            · have hlt2 : q < o.refs.length := by simpa using hc4
              obtain ⟨s, hs⟩ := get_of_lt hlt2
              have hse := map_get (f := encStr) hs
              refine awp_skip ?_
              refine awp_seq ?_
              refine awp_block ?_
              refine awp_seq ?_
              refine awp_region ?_
              refine al_d rfl rfl rfl (by exact (by first | exact opd_field_ref rfl fo42_3 rfl rfl rfl rfl | exact opd_field_pad rfl fo42_3 rfl rfl)) ?_
              refine al_d rfl rfl rfl (by exact (by first | exact opd_load1_ref rfl Tryz.isAgg39 rfl rfl rfl rfl rfl | exact opd_load1_pad rfl Tryz.isAgg39 rfl (by first | omega | assumption) rfl)) ?_
              refine al_d rfl rfl rfl (by exact opd_move rfl rfl) ?_
              refine al_d rfl rfl rfl (by exact (by first | exact x_index_pad rfl so39 rfl rfl (by omega) (by first | exact Int.toNat_natCast _ | rfl) (by assumption) rfl | exact x_index_osl rfl so39 rfl rfl rfl rfl rfl (by omega) (by first | exact Int.toNat_natCast _ | rfl) (by first | omega | assumption) rfl)) ?_
              refine al_d rfl rfl rfl (by exact (by first | exact opd_load1_ref rfl Tryz.isAgg9 rfl rfl rfl rfl rfl | exact opd_load1_pad rfl Tryz.isAgg9 rfl (by first | omega | assumption) rfl)) ?_
              refine al_d rfl rfl rfl (by exact opd_len_str rfl Tryz.underlying9 rfl) ?_
              refine al_d rfl rfl rfl (by exact opd_gtr rfl rfl rfl) ?_
              refine al_nil ?_
              refine awp_cond rfl (fun hc5 => ?_) (fun hc5 => ?_)
              -- cond 5
              · have hbad : bad13 o = true := by rw [hb1, any_some hs hc5]; rfl
                refine awp_seq ?_
                refine awp_region ?_
                refine al_d rfl rfl rfl (by exact opd_assign rfl rfl) ?_
                refine al_nil ?_
                refine awp_ret ?_
                -- return
                refine aret1 (H' := []) (by first | exact .inr rfl | exact .inl rfl) rfl (rval_tmp rfl) (Fin.wk (by simp) trivial trivial) ?_
                exact ⟨by rw [any_some hoi hbad]; rfl, rfl⟩
              · skip
                refine awp_skip ?_
                refine awp_region ?_
                refine al_d rfl rfl rfl (by exact opd_move rfl rfl) ?_
                refine al_d rfl rfl rfl (by exact opd_add rfl rfl rfl (by first | exact w64 (by omega) (by omega) | exact wu8 (by omega) (by omega) | rfl)) ?_
                refine al_d rfl rfl rfl (by exact opd_assign rfl rfl) ?_
                refine al_nil ?_
                -- end of a round
                exact ⟨q + 1, ⟨by omega, pre_succ hnr hs hc5⟩, by omega, (Ent.wk ⟨⟨_, rfl, rfl⟩, (by first | (simp; done) | (simp; rfl) | exact clo_map _ _ _), ⟨_, rfl, rfl⟩, (by first | (simp; done) | (simp; rfl) | exact clo_map _ _ _), ⟨_, rfl, rfl⟩, (by first | (simp; done) | (simp; rfl) | exact clo_map _ _ _), ⟨_, rfl, rfl⟩, (by first | (simp; done) | (simp; rfl) | exact clo_map _ _ _), trivial⟩ ⟨⟨_, rfl, rfl⟩, (by first | (simp; done) | (simp; rfl) | exact clo_map _ _ _), ⟨_, rfl, rfl⟩, (by first | (simp; done) | (simp; rfl) | exact clo_map _ _ _), trivial⟩ trivial)⟩
            · have hge : q = o.refs.length := by
                have : o.refs.length ≤ q := by simpa using hc4
                omega
              subst hge
              rw [any_none hnr, Bool.false_or] at hb1
              refine awp_exit ?_
              refine awp_seq ?_
              refine awp_region ?_
              refine al_d rfl rfl rfl (by exact opd_assign rfl rfl) ?_
              refine al_nil ?_
              refine awp_block ?_
              -- loop
              refine awp_loop (σ := Nat) (fun q => ([(2, .ref 2 0 0 0), (5, iv (i : Int)), (6, .ref 6 0 0 0), (8, iv (q : Int))], [(6, bx 6 42 ((encObj o).map .pv)), (2, bx 1 24 [.pv (slObjs m)])])) (fun q => q ≤ o.tags.length ∧ ∀ j, j < q → ∀ b, o.tags[j]? = some b → longT 300 b = false) (fun q => o.tags.length - q) 0 ⟨by omega, by omega⟩ ?_ ?_
              · exact (Ent.wk ⟨⟨_, rfl, rfl⟩, (by first | (simp; done) | (simp; rfl) | exact clo_map _ _ _), ⟨_, rfl, rfl⟩, (by first | (simp; done) | (simp; rfl) | exact clo_map _ _ _), ⟨_, rfl, rfl⟩, (by first | (simp; done) | (simp; rfl) | exact clo_map _ _ _), ⟨_, rfl, rfl⟩, (by first | (simp; done) | (simp; rfl) | exact clo_map _ _ _), trivial⟩ ⟨⟨_, rfl, rfl⟩, (by first | (simp; done) | (simp; rfl) | exact clo_map _ _ _), ⟨_, rfl, rfl⟩, (by first | (simp; done) | (simp; rfl) | exact clo_map _ _ _), trivial⟩ trivial)
              · rintro q ⟨hq, hnt⟩
                refine awp_seq ?_
                refine awp_seq ?_
                refine awp_region ?_
                refine al_d rfl rfl rfl (by exact opd_move rfl rfl) ?_
                refine al_d rfl rfl rfl (by exact (by first | exact opd_field_ref rfl fo42_4 rfl rfl rfl rfl | exact opd_field_pad rfl fo42_4 rfl rfl)) ?_
                refine al_d rfl rfl rfl (by exact (by first | exact opd_load1_ref rfl Tryz.isAgg40 rfl rfl rfl rfl rfl | exact opd_load1_pad rfl Tryz.isAgg40 rfl (by first | omega | assumption) rfl)) ?_
                refine al_d rfl rfl rfl (by exact (by first | exact opd_len_sl rfl Tryz.underlying40 rfl | exact opd_len_osl rfl Tryz.underlying40 rfl rfl rfl)) ?_
                refine al_d rfl rfl rfl (by exact opd_lss rfl rfl rfl) ?_
                refine al_nil ?_
                refine awp_cond rfl (fun hc6 => ?_) (fun hc6 => ?_)
                -- cond 6
                · have hlt2 : q < o.tags.length := by simpa using hc6
                  obtain ⟨s, hs⟩ := get_of_lt hlt2
                  have hse := map_get (f := encTag) hs
                  refine awp_skip ?_
                  refine awp_seq ?_
                  refine awp_block ?_
                  refine awp_seq ?_
                  refine awp_drawc follows ?_
                  refine dc_cons (DStep.q rfl (by exact (by first | exact opd_field_ref rfl fo42_4 rfl rfl rfl rfl | exact opd_field_pad rfl fo42_4 rfl rfl))) rfl ?_
                  refine dc_cons (DStep.q rfl (by exact (by first | exact opd_load1_ref rfl Tryz.isAgg40 rfl rfl rfl rfl rfl | exact opd_load1_pad rfl Tryz.isAgg40 rfl (by first | omega | assumption) rfl))) rfl ?_
                  refine dc_cons (DStep.q rfl (by exact opd_move rfl rfl)) rfl ?_
                  refine dc_cons (DStep.q rfl (by exact (by first | exact x_index_pad rfl so40 rfl rfl (by omega) (by first | exact Int.toNat_natCast _ | rfl) (by assumption) rfl | exact x_index_osl rfl so40 rfl rfl rfl rfl rfl (by omega) (by first | exact Int.toNat_natCast _ | rfl) (by first | omega | assumption) rfl))) rfl ?_
                  refine dc_cons (DStep.q rfl (by exact (by first | exact opd_field_ref rfl fo62_0 rfl rfl rfl rfl | exact opd_field_pad rfl fo62_0 rfl rfl))) rfl ?_
                  refine dc_cons (DStep.q rfl (by exact (by first | exact opd_load1_ref rfl Tryz.isAgg9 rfl rfl rfl rfl rfl | exact opd_load1_pad rfl Tryz.isAgg9 rfl (by first | omega | assumption) rfl))) rfl ?_
                  refine dc_cons (DStep.q rfl (by exact opd_len_str rfl Tryz.underlying9 rfl)) rfl ?_
                  refine dc_cons (DStep.q rfl (by exact (by first | exact opd_field_ref rfl fo42_4 rfl rfl rfl rfl | exact opd_field_pad rfl fo42_4 rfl rfl))) rfl ?_
                  refine dc_cons (DStep.q rfl (by exact (by first | exact opd_load1_ref rfl Tryz.isAgg40 rfl rfl rfl rfl rfl | exact opd_load1_pad rfl Tryz.isAgg40 rfl (by first | omega | assumption) rfl))) rfl ?_
                  refine dc_cons (DStep.q rfl (by exact opd_move rfl rfl)) rfl ?_
                  refine dc_cons (DStep.q rfl (by exact (by first | exact x_index_pad rfl so40 rfl rfl (by omega) (by first | exact Int.toNat_natCast _ | rfl) (by assumption) rfl | exact x_index_osl rfl so40 rfl rfl rfl rfl rfl (by omega) (by first | exact Int.toNat_natCast _ | rfl) (by first | omega | assumption) rfl))) rfl ?_
                  refine dc_cons (DStep.q rfl (by exact (by first | exact opd_field_ref rfl fo62_1 rfl rfl rfl rfl | exact opd_field_pad rfl fo62_1 rfl rfl))) rfl ?_
                  refine dc_cons (DStep.q rfl (by exact (by first | exact opd_load1_ref rfl Tryz.isAgg9 rfl rfl rfl rfl rfl | exact opd_load1_pad rfl Tryz.isAgg9 rfl (by first | omega | assumption) rfl))) rfl ?_
                  refine dc_cons (DStep.q rfl (by exact opd_len_str rfl Tryz.underlying9 rfl)) rfl ?_
                  refine dc_cons (DStep.q rfl (by exact opd_add rfl rfl rfl rfl)) rfl ?_
                  refine dc_cons (DStep.q rfl (by exact opd_gtr rfl rfl rfl)) rfl ?_
                  refine dc_nil ⟨by kernel_rfl, ?_⟩
                  refine awp_cond rfl (fun hc7 => ?_) (fun hc7 => ?_)
                  -- cond 7
                  · have hbad : bad13 o = true := by rw [hb1, any_some hs hc7]
                    refine awp_seq ?_
                    refine awp_region ?_
                    refine al_d rfl rfl rfl (by exact opd_assign rfl rfl) ?_
                    refine al_nil ?_
                    refine awp_ret ?_
                    -- return
                    refine aret1 (H' := []) (by first | exact .inr rfl | exact .inl rfl) rfl (rval_tmp rfl) (Fin.wk (by simp) trivial trivial) ?_
                    exact ⟨by rw [any_some hoi hbad]; rfl, rfl⟩
                  · skip
                    refine awp_skip ?_
                    refine awp_region ?_
                    refine al_d rfl rfl rfl (by exact opd_move rfl rfl) ?_
                    refine al_d rfl rfl rfl (by exact opd_add rfl rfl rfl (by first | exact w64 (by omega) (by omega) | exact wu8 (by omega) (by omega) | rfl)) ?_
                    refine al_d rfl rfl rfl (by exact opd_assign rfl rfl) ?_
                    refine al_nil ?_
                    -- end of a round
                    exact ⟨q + 1, ⟨by omega, pre_succ hnt hs hc7⟩, by omega, (Ent.wk ⟨⟨_, rfl, rfl⟩, (by first | (simp; done) | (simp; rfl) | exact clo_map _ _ _), ⟨_, rfl, rfl⟩, (by first | (simp; done) | (simp; rfl) | exact clo_map _ _ _), ⟨_, rfl, rfl⟩, (by first | (simp; done) | (simp; rfl) | exact clo_map _ _ _), ⟨_, rfl, rfl⟩, (by first | (simp; done) | (simp; rfl) | exact clo_map _ _ _), trivial⟩ ⟨⟨_, rfl, rfl⟩, (by first | (simp; done) | (simp; rfl) | exact clo_map _ _ _), ⟨_, rfl, rfl⟩, (by first | (simp; done) | (simp; rfl) | exact clo_map _ _ _), trivial⟩ trivial)⟩
                · have hge : q = o.tags.length := by
                    have : o.tags.length ≤ q := by simpa using hc6
                    omega
                  subst hge
                  have hgood : bad13 o = false := by rw [hb1, any_none hnt]
                  refine awp_exit ?_
                  refine awp_region ?_
                  refine al_d rfl rfl rfl (by exact opd_move rfl rfl) ?_
                  refine al_d rfl rfl rfl (by exact opd_add rfl rfl rfl (by first | exact w64 (by omega) (by omega) | exact wu8 (by omega) (by omega) | rfl)) ?_
                  refine al_d rfl rfl rfl (by exact opd_assign rfl rfl) ?_
                  refine al_nil ?_
                  -- end of a round
                  exact ⟨i + 1, ⟨by omega, pre_succ hno hoi hgood⟩, by omega, (Ent.wk ⟨⟨_, rfl, rfl⟩, (by first | (simp; done) | (simp; rfl) | exact clo_map _ _ _), ⟨_, rfl, rfl⟩, (by first | (simp; done) | (simp; rfl) | exact clo_map _ _ _), trivial⟩ ⟨⟨_, rfl, rfl⟩, (by first | (simp; done) | (simp; rfl) | exact clo_map _ _ _), trivial⟩ trivial)⟩
      · have hge : i = m.length := by
          have : m.length ≤ i := by simpa using hc2
          omega
        subst hge
        refine awp_exit ?_
        refine awp_seq ?_
        refine awp_region ?_
        refine al_d rfl rfl rfl (by exact opd_assign rfl rfl) ?_
        refine al_nil ?_
        refine awp_ret ?_
        -- return
        refine aret1 (H' := []) (by first | exact .inr rfl | exact .inl rfl) rfl (rval_tmp rfl) (Fin.wk (by simp) trivial trivial) ?_
        exact ⟨by rw [any_none hno]; rfl, rfl⟩
def bad11 (o : GObj) (n : Int) : Bool := (longS 300 o.id || decide (n < (o.refs.length : Int)) || decide (65 < (o.tags.length : Int))) || o.refs.any (longS 300) || o.tags.any (longT 600)
theorem few11_c (o : GObj) (n : Int) (H : Heap) (hok : okObj o) :
    ACalls Tryz.prog 105 [av (encObj o), iv n] H (fun r H' => r = bv (!bad11 o n) ∧ H' = H) := by
  refine ACalls.pure ?_ (by simp) H
  have hrl : (o.refs.map encStr).length = o.refs.length := List.length_map _
  have htl : (o.tags.map encTag).length = o.tags.length := List.length_map _
  have h1 := hok.1
  have h2 := hok.2
  refine ACalls.body Tryz.func105 rfl Tryz.ntmps105 (Nat.le_of_ble_eq_true rfl) ?_
  refine awp_seq ?_
  refine awp_region ?_
  refine al_d rfl rfl rfl (by exact opd_box (id := 2) rfl rfl rfl rfl rfl) ?_
  refine al_d rfl rfl rfl (by exact opd_assign rfl rfl) ?_
  refine al_nil ?_
  refine awp_seq ?_
  refine awp_seq ?_
  refine awp_bool (t := 23) (n := 19) (X := longS 300 o.id || decide (n < ((o.refs.map encStr).length : Int)) || decide (65 < ((o.tags.map encTag).length : Int))) ?_ ?_
  · all_goals (refine al_d rfl rfl rfl (by exact (by first | exact opd_field_ref rfl fo42_0 rfl rfl rfl rfl | exact opd_field_pad rfl fo42_0 rfl rfl)) ?_)
    all_goals (refine al_d rfl rfl rfl (by exact (by first | exact opd_load1_ref rfl Tryz.isAgg9 rfl rfl rfl rfl rfl | exact opd_load1_pad rfl Tryz.isAgg9 rfl (by first | omega | assumption) rfl)) ?_)
    all_goals (refine al_d rfl rfl rfl (by exact opd_len_str rfl Tryz.underlying9 rfl) ?_)
    all_goals (refine al_d rfl rfl rfl (by exact opd_gtr rfl rfl rfl) ?_)
    all_goals (refine al_d rfl rfl rfl (by exact opd_move rfl rfl) ?_)
    all_goals (first | refine al_split (t := 11) rfl (fun h11 => ?_) (fun h11 => ?_) | refine al_dup (t := 11) rfl ?_ | skip)
    all_goals (try contradiction)
    all_goals (first | refine al_off rfl rfl rfl rfl rfl ?_ | refine al_offu rfl rfl rfl rfl ?_ | refine al_ond rfl rfl rfl rfl rfl rfl (by exact (by first | exact opd_field_ref rfl fo42_3 rfl rfl rfl rfl | exact opd_field_pad rfl fo42_3 rfl rfl)) ?_)
    all_goals (first | refine al_off rfl rfl rfl rfl rfl ?_ | refine al_offu rfl rfl rfl rfl ?_ | refine al_ond rfl rfl rfl rfl rfl rfl (by exact (by first | exact opd_load1_ref rfl Tryz.isAgg39 rfl rfl rfl rfl rfl | exact opd_load1_pad rfl Tryz.isAgg39 rfl (by first | omega | assumption) rfl)) ?_)
    all_goals (first | refine al_off rfl rfl rfl rfl rfl ?_ | refine al_offu rfl rfl rfl rfl ?_ | refine al_ond rfl rfl rfl rfl rfl rfl (by exact (by first | exact opd_len_sl rfl Tryz.underlying39 rfl | exact opd_len_osl rfl Tryz.underlying39 rfl rfl rfl)) ?_)
    all_goals (first | refine al_off rfl rfl rfl rfl rfl ?_ | refine al_offu rfl rfl rfl rfl ?_ | refine al_ond rfl rfl rfl rfl rfl rfl (by exact opd_move rfl rfl) ?_)
    all_goals (first | refine al_off rfl rfl rfl rfl rfl ?_ | refine al_offu rfl rfl rfl rfl ?_ | refine al_ond rfl rfl rfl rfl rfl rfl (by exact opd_gtr rfl rfl rfl) ?_)
    all_goals (refine al_d rfl rfl rfl (by exact (by first | exact opd_pick_t rfl rfl rfl | exact opd_pick_f rfl rfl rfl | exact opd_pickt rfl rfl (by assumption) rfl | exact opd_pickf rfl rfl (by assumption) rfl | exact opd_pick rfl rfl rfl)) ?_)
    all_goals (refine al_d rfl rfl rfl (by exact opd_move rfl rfl) ?_)
    all_goals (first | refine al_split (t := 18) rfl (fun h18 => ?_) (fun h18 => ?_) | refine al_dup (t := 18) rfl ?_ | skip)
    all_goals (try contradiction)
    all_goals (first | refine al_off rfl rfl rfl rfl rfl ?_ | refine al_offu rfl rfl rfl rfl ?_ | refine al_ond rfl rfl rfl rfl rfl rfl (by exact (by first | exact opd_field_ref rfl fo42_4 rfl rfl rfl rfl | exact opd_field_pad rfl fo42_4 rfl rfl)) ?_)
    all_goals (first | refine al_off rfl rfl rfl rfl rfl ?_ | refine al_offu rfl rfl rfl rfl ?_ | refine al_ond rfl rfl rfl rfl rfl rfl (by exact (by first | exact opd_load1_ref rfl Tryz.isAgg40 rfl rfl rfl rfl rfl | exact opd_load1_pad rfl Tryz.isAgg40 rfl (by first | omega | assumption) rfl)) ?_)
    all_goals (first | refine al_off rfl rfl rfl rfl rfl ?_ | refine al_offu rfl rfl rfl rfl ?_ | refine al_ond rfl rfl rfl rfl rfl rfl (by exact (by first | exact opd_len_sl rfl Tryz.underlying40 rfl | exact opd_len_osl rfl Tryz.underlying40 rfl rfl rfl)) ?_)
    all_goals (first | refine al_off rfl rfl rfl rfl rfl ?_ | refine al_offu rfl rfl rfl rfl ?_ | refine al_ond rfl rfl rfl rfl rfl rfl (by exact opd_gtr rfl rfl rfl) ?_)
    all_goals (refine al_d rfl rfl rfl (by exact (by first | exact opd_pick_t rfl rfl rfl | exact opd_pick_f rfl rfl rfl | exact opd_pickt rfl rfl (by assumption) rfl | exact opd_pickf rfl rfl (by assumption) rfl | exact opd_pick rfl rfl rfl)) ?_)
    all_goals (refine al_nil ?_)
    all_goals (exact ⟨⟨_, rfl, by first | rfl | (simp only [longS, *]; rfl) | (simp_all [longS]; done) | (simp only [*, Bool.false_and, Bool.true_and, Bool.and_false, Bool.and_true, Bool.true_or, Bool.false_or, Bool.or_true, Bool.or_false, Bool.not_true, Bool.not_false]; done) | (simp_all; omega) | (simp_all [longS]; omega)⟩, rfl, rfl, rfl⟩)
  refine awp_cond rfl (fun hc1 => ?_) (fun hc1 => ?_)
  -- cond 1
  · rw [hrl, htl] at hc1
    refine awp_seq ?_
    refine awp_region ?_
    refine al_d rfl rfl rfl (by exact opd_assign rfl rfl) ?_
    refine al_nil ?_
    refine awp_ret ?_
    -- return
    refine aret1 (H' := []) (by first | exact .inr rfl | exact .inl rfl) rfl (rval_tmp rfl) (Fin.wk (by simp) trivial trivial) ?_
    exact ⟨by rw [bad11, hc1]; rfl, rfl⟩
  · rw [hrl, htl] at hc1
    have hb1 : bad11 o n = (o.refs.any (longS 300) || o.tags.any (longT 600)) := by rw [bad11, hc1]; rfl
    refine awp_skip ?_
    refine awp_seq ?_
    refine awp_seq ?_
    refine awp_region ?_
    refine al_d rfl rfl rfl (by exact opd_assign rfl rfl) ?_
    refine al_nil ?_
    refine awp_block ?_
    -- loop
    refine awp_loop (σ := Nat) (fun q => ([(2, .ref 2 0 0 0), (5, iv (q : Int))], [(2, bx 6 42 ((encObj o).map .pv))])) (fun q => q ≤ o.refs.length ∧ ∀ j, j < q → ∀ b, o.refs[j]? = some b → longS 300 b = false) (fun q => o.refs.length - q) 0 ⟨by omega, by omega⟩ ?_ ?_
    · exact (Ent.wk ⟨⟨_, rfl, rfl⟩, (by first | (simp; done) | (simp; rfl) | exact clo_map _ _ _), ⟨_, rfl, rfl⟩, (by first | (simp; done) | (simp; rfl) | exact clo_map _ _ _), trivial⟩ ⟨⟨_, rfl, rfl⟩, (by first | (simp; done) | (simp; rfl) | exact clo_map _ _ _), trivial⟩ trivial)
    · rintro q ⟨hq, hnr⟩
      refine awp_seq ?_
      refine awp_seq ?_
      refine awp_region ?_
      refine al_d rfl rfl rfl (by exact opd_move rfl rfl) ?_
      refine al_d rfl rfl rfl (by exact (by first | exact opd_field_ref rfl fo42_3 rfl rfl rfl rfl | exact opd_field_pad rfl fo42_3 rfl rfl)) ?_
      refine al_d rfl rfl rfl (by exact (by first | exact opd_load1_ref rfl Tryz.isAgg39 rfl rfl rfl rfl rfl | exact opd_load1_pad rfl Tryz.isAgg39 rfl (by first | omega | assumption) rfl)) ?_
      refine al_d rfl rfl rfl (by exact (by first | exact opd_len_sl rfl Tryz.underlying39 rfl | exact opd_len_osl rfl Tryz.underlying39 rfl rfl rfl)) ?_
      refine al_d rfl rfl rfl (by exact opd_lss rfl rfl rfl) ?_
      refine al_nil ?_
      refine awp_cond rfl (fun hc2 => ?_) (fun hc2 => ?_)
      -- cond 2
      · have hlt2 : q < o.refs.length := by simpa using hc2
        obtain ⟨s, hs⟩ := get_of_lt hlt2
        have hse := map_get (f := encStr) hs
        refine awp_skip ?_
        refine awp_seq ?_
        refine awp_block ?_
        refine awp_seq ?_
        refine awp_region ?_
        refine al_d rfl rfl rfl (by exact (by first | exact opd_field_ref rfl fo42_3 rfl rfl rfl rfl | exact opd_field_pad rfl fo42_3 rfl rfl)) ?_
        refine al_d rfl rfl rfl (by exact (by first | exact opd_load1_ref rfl Tryz.isAgg39 rfl rfl rfl rfl rfl | exact opd_load1_pad rfl Tryz.isAgg39 rfl (by first | omega | assumption) rfl)) ?_
        refine al_d rfl rfl rfl (by exact opd_move rfl rfl) ?_
        refine al_d rfl rfl rfl (by exact (by first | exact x_index_pad rfl so39 rfl rfl (by omega) (by first | exact Int.toNat_natCast _ | rfl) (by assumption) rfl | exact x_index_osl rfl so39 rfl rfl rfl rfl rfl (by omega) (by first | exact Int.toNat_natCast _ | rfl) (by first | omega | assumption) rfl)) ?_
        refine al_d rfl rfl rfl (by exact (by first | exact opd_load1_ref rfl Tryz.isAgg9 rfl rfl rfl rfl rfl | exact opd_load1_pad rfl Tryz.isAgg9 rfl (by first | omega | assumption) rfl)) ?_
        refine al_d rfl rfl rfl (by exact opd_len_str rfl Tryz.underlying9 rfl) ?_
        refine al_d rfl rfl rfl (by exact opd_gtr rfl rfl rfl) ?_
        refine al_nil ?_
        refine awp_cond rfl (fun hc3 => ?_) (fun hc3 => ?_)
        -- cond 3
        · have hbad : bad11 o n = true := by rw [hb1, any_some hs hc3]; rfl
          refine awp_seq ?_
          refine awp_region ?_
          refine al_d rfl rfl rfl (by exact opd_assign rfl rfl) ?_
          refine al_nil ?_
          refine awp_ret ?_
          -- return
          refine aret1 (H' := []) (by first | exact .inr rfl | exact .inl rfl) rfl (rval_tmp rfl) (Fin.wk (by simp) trivial trivial) ?_
          exact ⟨by rw [hbad]; rfl, rfl⟩
        · skip
          refine awp_skip ?_
          refine awp_region ?_
          refine al_d rfl rfl rfl (by exact opd_move rfl rfl) ?_
          refine al_d rfl rfl rfl (by exact opd_add rfl rfl rfl (by first | exact w64 (by omega) (by omega) | exact wu8 (by omega) (by omega) | rfl)) ?_
          refine al_d rfl rfl rfl (by exact opd_assign rfl rfl) ?_
          refine al_nil ?_
          -- end of a round
          exact ⟨q + 1, ⟨by omega, pre_succ hnr hs hc3⟩, by omega, (Ent.wk ⟨⟨_, rfl, rfl⟩, (by first | (simp; done) | (simp; rfl) | exact clo_map _ _ _), ⟨_, rfl, rfl⟩, (by first | (simp; done) | (simp; rfl) | exact clo_map _ _ _), trivial⟩ ⟨⟨_, rfl, rfl⟩, (by first | (simp; done) | (simp; rfl) | exact clo_map _ _ _), trivial⟩ trivial)⟩
      · have hge : q = o.refs.length := by
          have : o.refs.length ≤ q := by simpa using hc2
          omega
        subst hge
        rw [any_none hnr, Bool.false_or] at hb1
        refine awp_exit ?_
        refine awp_seq ?_
        refine awp_seq ?_
        refine awp_region ?_
        refine al_d rfl rfl rfl (by exact opd_assign rfl rfl) ?_
        refine al_nil ?_
        refine awp_block ?_
        -- loop
        refine awp_loop (σ := Nat) (fun q => ([(2, .ref 2 0 0 0), (6, iv (q : Int))], [(2, bx 6 42 ((encObj o).map .pv))])) (fun q => q ≤ o.tags.length ∧ ∀ j, j < q → ∀ b, o.tags[j]? = some b → longT 600 b = false) (fun q => o.tags.length - q) 0 ⟨by omega, by omega⟩ ?_ ?_
        · exact (Ent.wk ⟨⟨_, rfl, rfl⟩, (by first | (simp; done) | (simp; rfl) | exact clo_map _ _ _), ⟨_, rfl, rfl⟩, (by first | (simp; done) | (simp; rfl) | exact clo_map _ _ _), trivial⟩ ⟨⟨_, rfl, rfl⟩, (by first | (simp; done) | (simp; rfl) | exact clo_map _ _ _), trivial⟩ trivial)
        · rintro q ⟨hq, hnt⟩
          refine awp_seq ?_
          refine awp_seq ?_
          refine awp_region ?_
          refine al_d rfl rfl rfl (by exact opd_move rfl rfl) ?_
          refine al_d rfl rfl rfl (by exact (by first | exact opd_field_ref rfl fo42_4 rfl rfl rfl rfl | exact opd_field_pad rfl fo42_4 rfl rfl)) ?_
          refine al_d rfl rfl rfl (by exact (by first | exact opd_load1_ref rfl Tryz.isAgg40 rfl rfl rfl rfl rfl | exact opd_load1_pad rfl Tryz.isAgg40 rfl (by first | omega | assumption) rfl)) ?_
          refine al_d rfl rfl rfl (by exact (by first | exact opd_len_sl rfl Tryz.underlying40 rfl | exact opd_len_osl rfl Tryz.underlying40 rfl rfl rfl)) ?_
          refine al_d rfl rfl rfl (by exact opd_lss rfl rfl rfl) ?_
          refine al_nil ?_
          refine awp_cond rfl (fun hc4 => ?_) (fun hc4 => ?_)
          -- cond 4
          · have hlt2 : q < o.tags.length := by simpa using hc4
            obtain ⟨s, hs⟩ := get_of_lt hlt2
            have hse := map_get (f := encTag) hs
            refine awp_skip ?_
            refine awp_seq ?_
            refine awp_block ?_
            refine awp_seq ?_
            refine awp_drawc follows ?_
            refine dc_cons (DStep.q rfl (by exact (by first | exact opd_field_ref rfl fo42_4 rfl rfl rfl rfl | exact opd_field_pad rfl fo42_4 rfl rfl))) rfl ?_
            refine dc_cons (DStep.q rfl (by exact (by first | exact opd_load1_ref rfl Tryz.isAgg40 rfl rfl rfl rfl rfl | exact opd_load1_pad rfl Tryz.isAgg40 rfl (by first | omega | assumption) rfl))) rfl ?_
            refine dc_cons (DStep.q rfl (by exact opd_move rfl rfl)) rfl ?_
            refine dc_cons (DStep.q rfl (by exact (by first | exact x_index_pad rfl so40 rfl rfl (by omega) (by first | exact Int.toNat_natCast _ | rfl) (by assumption) rfl | exact x_index_osl rfl so40 rfl rfl rfl rfl rfl (by omega) (by first | exact Int.toNat_natCast _ | rfl) (by first | omega | assumption) rfl))) rfl ?_
            refine dc_cons (DStep.q rfl (by exact (by first | exact opd_field_ref rfl fo62_0 rfl rfl rfl rfl | exact opd_field_pad rfl fo62_0 rfl rfl))) rfl ?_
            refine dc_cons (DStep.q rfl (by exact (by first | exact opd_load1_ref rfl Tryz.isAgg9 rfl rfl rfl rfl rfl | exact opd_load1_pad rfl Tryz.isAgg9 rfl (by first | omega | assumption) rfl))) rfl ?_
            refine dc_cons (DStep.q rfl (by exact opd_len_str rfl Tryz.underlying9 rfl)) rfl ?_
            refine dc_cons (DStep.q rfl (by exact (by first | exact opd_field_ref rfl fo42_4 rfl rfl rfl rfl | exact opd_field_pad rfl fo42_4 rfl rfl))) rfl ?_
            refine dc_cons (DStep.q rfl (by exact (by first | exact opd_load1_ref rfl Tryz.isAgg40 rfl rfl rfl rfl rfl | exact opd_load1_pad rfl Tryz.isAgg40 rfl (by first | omega | assumption) rfl))) rfl ?_
            refine dc_cons (DStep.q rfl (by exact opd_move rfl rfl)) rfl ?_
            refine dc_cons (DStep.q rfl (by exact (by first | exact x_index_pad rfl so40 rfl rfl (by omega) (by first | exact Int.toNat_natCast _ | rfl) (by assumption) rfl | exact x_index_osl rfl so40 rfl rfl rfl rfl rfl (by omega) (by first | exact Int.toNat_natCast _ | rfl) (by first | omega | assumption) rfl))) rfl ?_
            refine dc_cons (DStep.q rfl (by exact (by first | exact opd_field_ref rfl fo62_1 rfl rfl rfl rfl | exact opd_field_pad rfl fo62_1 rfl rfl))) rfl ?_
            refine dc_cons (DStep.q rfl (by exact (by first | exact opd_load1_ref rfl Tryz.isAgg9 rfl rfl rfl rfl rfl | exact opd_load1_pad rfl Tryz.isAgg9 rfl (by first | omega | assumption) rfl))) rfl ?_
            refine dc_cons (DStep.q rfl (by exact opd_len_str rfl Tryz.underlying9 rfl)) rfl ?_
            refine dc_cons (DStep.q rfl (by exact opd_add rfl rfl rfl rfl)) rfl ?_
            refine dc_cons (DStep.q rfl (by exact opd_gtr rfl rfl rfl)) rfl ?_
            refine dc_nil ⟨by kernel_rfl, ?_⟩
            refine awp_cond rfl (fun hc5 => ?_) (fun hc5 => ?_)
            -- cond 5
            · have hbad : bad11 o n = true := by rw [hb1, any_some hs hc5]
              refine awp_seq ?_
              refine awp_region ?_
              refine al_d rfl rfl rfl (by exact opd_assign rfl rfl) ?_
              refine al_nil ?_
              refine awp_ret ?_
              -- return
              refine aret1 (H' := []) (by first | exact .inr rfl | exact .inl rfl) rfl (rval_tmp rfl) (Fin.wk (by simp) trivial trivial) ?_
              exact ⟨by rw [hbad]; rfl, rfl⟩
            · skip
              refine awp_skip ?_
              refine awp_region ?_
              refine al_d rfl rfl rfl (by exact opd_move rfl rfl) ?_
              refine al_d rfl rfl rfl (by exact opd_add rfl rfl rfl (by first | exact w64 (by omega) (by omega) | exact wu8 (by omega) (by omega) | rfl)) ?_
              refine al_d rfl rfl rfl (by exact opd_assign rfl rfl) ?_
              refine al_nil ?_
              -- end of a round
              exact ⟨q + 1, ⟨by omega, pre_succ hnt hs hc5⟩, by omega, (Ent.wk ⟨⟨_, rfl, rfl⟩, (by first | (simp; done) | (simp; rfl) | exact clo_map _ _ _), ⟨_, rfl, rfl⟩, (by first | (simp; done) | (simp; rfl) | exact clo_map _ _ _), trivial⟩ ⟨⟨_, rfl, rfl⟩, (by first | (simp; done) | (simp; rfl) | exact clo_map _ _ _), trivial⟩ trivial)⟩
          · have hge : q = o.tags.length := by
              have : o.tags.length ≤ q := by simpa using hc4
              omega
            subst hge
            have hgood : bad11 o n = false := by rw [hb1, any_none hnt]
            refine awp_exit ?_
            refine awp_seq ?_
            refine awp_region ?_
            refine al_d rfl rfl rfl (by exact opd_assign rfl rfl) ?_
            refine al_nil ?_
            refine awp_ret ?_
            -- return
            refine aret1 (H' := []) (by first | exact .inr rfl | exact .inl rfl) rfl (rval_tmp rfl) (Fin.wk (by simp) trivial trivial) ?_
            exact ⟨by rw [hgood]; rfl, rfl⟩
def bad22 (e : GEdit) : Bool := (longS 300 e.id || longS 300 e.other || longS 300 e.node || longS 300 e.key || longS 300 e.val || decide (20 < (e.refs.length : Int)) || bad11 e.obj 20 || decide (20 < (e.obj.tags.length : Int))) || e.refs.any (longS 300)
def few22 (l : List GEdit) (n : Int) : Bool := !(decide (n < (l.length : Int))) && !(l.any bad22)
def okEdit (e : GEdit) : Prop := e.refs.length < 4611686018427387904 ∧ okObj e.obj
theorem few22_c (l : List GEdit) (n : Int) (H : Heap) (hl : l.length < 4611686018427387904) (ho : ∀ e, e ∈ l → okEdit e) :
    ACalls Tryz.prog 54 [.pv (slEdits l), iv n] H (fun r H' => r = bv (few22 l n) ∧ H' = H) := by
  refine ACalls.pure ?_ (by simp) H
  have hml : (l.map encEdit).length = l.length := List.length_map _
  refine ACalls.body Tryz.func54 rfl Tryz.ntmps54 (Nat.le_of_ble_eq_true rfl) ?_
  refine awp_seq ?_
  refine awp_region ?_
  refine al_d rfl rfl rfl (by exact opd_assign rfl rfl) ?_
  refine al_nil ?_
  refine awp_seq ?_
  refine awp_seq ?_
  refine awp_region ?_
  refine al_d rfl rfl rfl (by exact opd_move rfl rfl) ?_
  refine al_d rfl rfl rfl (by exact (by first | exact opd_len_sl rfl Tryz.underlying25 rfl | exact opd_len_osl rfl Tryz.underlying25 rfl rfl rfl)) ?_
  refine al_d rfl rfl rfl (by exact opd_move rfl rfl) ?_
  refine al_d rfl rfl rfl (by exact opd_gtr rfl rfl rfl) ?_
  refine al_nil ?_
  refine awp_cond rfl (fun hc1 => ?_) (fun hc1 => ?_)
  -- cond 1
  · have hb : decide (n < (l.length : Int)) = true := by rw [← hml]; exact hc1
    refine awp_seq ?_
    refine awp_region ?_
    refine al_d rfl rfl rfl (by exact opd_assign rfl rfl) ?_
    refine al_nil ?_
    refine awp_ret ?_
    -- return
    refine aret1 (H' := []) (by first | exact .inr rfl | exact .inl rfl) rfl (rval_tmp rfl) (Fin.wk (by simp) trivial trivial) ?_
    exact ⟨by rw [few22, hb]; rfl, rfl⟩
  · have hb : decide (n < (l.length : Int)) = false := by rw [← hml]; exact hc1
    rw [few22, hb, Bool.not_false, Bool.true_and]
    refine awp_skip ?_
    refine awp_seq ?_
    refine awp_seq ?_
    refine awp_region ?_
    refine al_d rfl rfl rfl (by exact opd_assign rfl rfl) ?_
    refine al_nil ?_
    refine awp_block ?_
    -- loop
    refine awp_loop (σ := Nat) (fun i => ([(0, .pv (slEdits l)), (5, iv (i : Int))], [])) (fun i => i ≤ l.length ∧ ∀ j, j < i → ∀ b, l[j]? = some b → bad22 b = false) (fun i => l.length - i) 0 ⟨by omega, by omega⟩ ?_ ?_
    · exact (Ent.wk ⟨⟨_, rfl, rfl⟩, (by first | (simp; done) | (simp; rfl) | exact clo_map _ _ _), ⟨_, rfl, rfl⟩, (by first | (simp; done) | (simp; rfl) | exact clo_map _ _ _), trivial⟩ trivial trivial)
    · rintro i ⟨hi, hno⟩
      refine awp_seq ?_
      refine awp_seq ?_
      refine awp_region ?_
      refine al_d rfl rfl rfl (by exact opd_move rfl rfl) ?_
      refine al_d rfl rfl rfl (by exact opd_move rfl rfl) ?_
      refine al_d rfl rfl rfl (by exact (by first | exact opd_len_sl rfl Tryz.underlying25 rfl | exact opd_len_osl rfl Tryz.underlying25 rfl rfl rfl)) ?_
      refine al_d rfl rfl rfl (by exact opd_lss rfl rfl rfl) ?_
      refine al_nil ?_
      refine awp_cond rfl (fun hc2 => ?_) (fun hc2 => ?_)
      -- cond 2
      · have hlt : i < l.length := by simpa using hc2
        obtain ⟨e, hoi⟩ := get_of_lt hlt
        have hie := map_get (f := encEdit) hoi
        have hok := ho e (List.mem_of_getElem? hoi)
        have hrl : (e.refs.map encStr).length = e.refs.length := List.length_map _
        have htl : (e.obj.tags.map encTag).length = e.obj.tags.length := List.length_map _
        have h1 := hok.1
        refine awp_skip ?_
        refine awp_seq ?_
        refine awp_block ?_
        refine awp_seq ?_
        refine awp_region ?_
        refine al_d rfl rfl rfl (by exact opd_move rfl rfl) ?_
        refine al_d rfl rfl rfl (by exact opd_move rfl rfl) ?_
        refine al_d rfl rfl rfl (by exact (by first | exact x_index_pad rfl so25 rfl rfl (by omega) (by first | exact Int.toNat_natCast _ | rfl) (by assumption) rfl | exact x_index_osl rfl so25 rfl rfl rfl rfl rfl (by omega) (by first | exact Int.toNat_natCast _ | rfl) (by first | omega | assumption) rfl)) ?_
        refine al_d rfl rfl rfl (by exact (by first | exact opd_loadn_ref rfl Tryz.isAgg44 Tryz.sizeOf44 rfl rfl rfl rfl (by simp only [List.drop_succ_cons, List.drop_zero, List.take_succ_cons, List.take_zero, List.take_nil, List.map_cons, List.map_nil, List.set_cons_zero, List.set_cons_succ, List.cons_append, List.nil_append, encTag, encObj, encEdit]; rfl) rfl | exact opd_loadn_pad rfl Tryz.isAgg44 Tryz.sizeOf44 rfl (by first | omega | assumption) (by simp only [List.drop_succ_cons, List.drop_zero, List.take_succ_cons, List.take_zero, List.take_nil, List.map_cons, List.map_nil, List.set_cons_zero, List.set_cons_succ, List.cons_append, List.nil_append, encTag, encObj, encEdit]; rfl) rfl)) ?_
        refine al_d rfl rfl rfl (by exact x_alloc (id := 6) rfl zo44 rfl rfl) ?_
        refine al_n rfl rfl (by exact (by first | exact x_store_all rfl Tryz.sizeOf44 rfl rfl rfl rfl rfl rfl rfl rfl | exact x_store rfl Tryz.sizeOf44 rfl rfl rfl rfl rfl rfl rfl (by simp only [List.length_cons, List.length_nil]; omega) (by simp only [List.drop_succ_cons, List.drop_zero, List.take_succ_cons, List.take_zero, List.take_nil, List.map_cons, List.map_nil, List.set_cons_zero, List.set_cons_succ, List.cons_append, List.nil_append, encTag, encObj, encEdit]; rfl) (by simp only [List.drop_succ_cons, List.drop_zero, List.take_succ_cons, List.take_zero, List.take_nil, List.map_cons, List.map_nil, List.set_cons_zero, List.set_cons_succ, List.cons_append, List.nil_append, encTag, encObj, encEdit]; rfl) | exact x_store rfl Tryz.sizeOf44 rfl rfl rfl rfl rfl rfl rfl (Nat.le_of_ble_eq_true rfl) rfl rfl)) ?_
        refine al_nil ?_
        refine awp_seq ?_
        refine awp_seq ?_
        refine awp_bool (t := 68) (n := 54) (X := longS 300 e.id || longS 300 e.other || longS 300 e.node || longS 300 e.key || longS 300 e.val || decide (20 < ((e.refs.map encStr).length : Int)) || bad11 e.obj 20 || decide (20 < ((e.obj.tags.map encTag).length : Int))) ?_ ?_
        · all_goals (refine al_d rfl rfl rfl (by exact (by first | exact opd_field_ref rfl fo44_1 rfl rfl rfl rfl | exact opd_field_pad rfl fo44_1 rfl rfl)) ?_)
          all_goals (refine al_d rfl rfl rfl (by exact (by first | exact opd_load1_ref rfl Tryz.isAgg9 rfl rfl rfl rfl rfl | exact opd_load1_pad rfl Tryz.isAgg9 rfl (by first | omega | assumption) rfl)) ?_)
          all_goals (refine al_d rfl rfl rfl (by exact opd_len_str rfl Tryz.underlying9 rfl) ?_)
          all_goals (refine al_d rfl rfl rfl (by exact opd_gtr rfl rfl rfl) ?_)
          all_goals (refine al_d rfl rfl rfl (by exact opd_move rfl rfl) ?_)
          all_goals (first | refine al_split (t := 26) rfl (fun h26 => ?_) (fun h26 => ?_) | refine al_dup (t := 26) rfl ?_ | skip)
          all_goals (try contradiction)
          all_goals (first | refine al_off rfl rfl rfl rfl rfl ?_ | refine al_offu rfl rfl rfl rfl ?_ | refine al_ond rfl rfl rfl rfl rfl rfl (by exact (by first | exact opd_field_ref rfl fo44_2 rfl rfl rfl rfl | exact opd_field_pad rfl fo44_2 rfl rfl)) ?_)
          all_goals (first | refine al_off rfl rfl rfl rfl rfl ?_ | refine al_offu rfl rfl rfl rfl ?_ | refine al_ond rfl rfl rfl rfl rfl rfl (by exact (by first | exact opd_load1_ref rfl Tryz.isAgg9 rfl rfl rfl rfl rfl | exact opd_load1_pad rfl Tryz.isAgg9 rfl (by first | omega | assumption) rfl)) ?_)
          all_goals (first | refine al_off rfl rfl rfl rfl rfl ?_ | refine al_offu rfl rfl rfl rfl ?_ | refine al_ond rfl rfl rfl rfl rfl rfl (by exact opd_len_str rfl Tryz.underlying9 rfl) ?_)
          all_goals (first | refine al_off rfl rfl rfl rfl rfl ?_ | refine al_offu rfl rfl rfl rfl ?_ | refine al_ond rfl rfl rfl rfl rfl rfl (by exact opd_gtr rfl rfl rfl) ?_)
          all_goals (refine al_d rfl rfl rfl (by exact (by first | exact opd_pick_t rfl rfl rfl | exact opd_pick_f rfl rfl rfl | exact opd_pickt rfl rfl (by assumption) rfl | exact opd_pickf rfl rfl (by assumption) rfl | exact opd_pick rfl rfl rfl)) ?_)
          all_goals (refine al_d rfl rfl rfl (by exact opd_move rfl rfl) ?_)
          all_goals (first | refine al_split (t := 32) rfl (fun h32 => ?_) (fun h32 => ?_) | refine al_dup (t := 32) rfl ?_ | skip)
          all_goals (try contradiction)
          all_goals (first | refine al_off rfl rfl rfl rfl rfl ?_ | refine al_offu rfl rfl rfl rfl ?_ | refine al_ond rfl rfl rfl rfl rfl rfl (by exact (by first | exact opd_field_ref rfl fo44_3 rfl rfl rfl rfl | exact opd_field_pad rfl fo44_3 rfl rfl)) ?_)
          all_goals (first | refine al_off rfl rfl rfl rfl rfl ?_ | refine al_offu rfl rfl rfl rfl ?_ | refine al_ond rfl rfl rfl rfl rfl rfl (by exact (by first | exact opd_load1_ref rfl Tryz.isAgg9 rfl rfl rfl rfl rfl | exact opd_load1_pad rfl Tryz.isAgg9 rfl (by first | omega | assumption) rfl)) ?_)
          all_goals (first | refine al_off rfl rfl rfl rfl rfl ?_ | refine al_offu rfl rfl rfl rfl ?_ | refine al_ond rfl rfl rfl rfl rfl rfl (by exact opd_len_str rfl Tryz.underlying9 rfl) ?_)
          all_goals (first | refine al_off rfl rfl rfl rfl rfl ?_ | refine al_offu rfl rfl rfl rfl ?_ | refine al_ond rfl rfl rfl rfl rfl rfl (by exact opd_gtr rfl rfl rfl) ?_)
          all_goals (refine al_d rfl rfl rfl (by exact (by first | exact opd_pick_t rfl rfl rfl | exact opd_pick_f rfl rfl rfl | exact opd_pickt rfl rfl (by assumption) rfl | exact opd_pickf rfl rfl (by assumption) rfl | exact opd_pick rfl rfl rfl)) ?_)
          all_goals (refine al_d rfl rfl rfl (by exact opd_move rfl rfl) ?_)
          all_goals (first | refine al_split (t := 38) rfl (fun h38 => ?_) (fun h38 => ?_) | refine al_dup (t := 38) rfl ?_ | skip)
          all_goals (try contradiction)
          all_goals (first | refine al_off rfl rfl rfl rfl rfl ?_ | refine al_offu rfl rfl rfl rfl ?_ | refine al_ond rfl rfl rfl rfl rfl rfl (by exact (by first | exact opd_field_ref rfl fo44_5 rfl rfl rfl rfl | exact opd_field_pad rfl fo44_5 rfl rfl)) ?_)
          all_goals (first | refine al_off rfl rfl rfl rfl rfl ?_ | refine al_offu rfl rfl rfl rfl ?_ | refine al_ond rfl rfl rfl rfl rfl rfl (by exact (by first | exact opd_load1_ref rfl Tryz.isAgg9 rfl rfl rfl rfl rfl | exact opd_load1_pad rfl Tryz.isAgg9 rfl (by first | omega | assumption) rfl)) ?_)
          all_goals (first | refine al_off rfl rfl rfl rfl rfl ?_ | refine al_offu rfl rfl rfl rfl ?_ | refine al_ond rfl rfl rfl rfl rfl rfl (by exact opd_len_str rfl Tryz.underlying9 rfl) ?_)
          all_goals (first | refine al_off rfl rfl rfl rfl rfl ?_ | refine al_offu rfl rfl rfl rfl ?_ | refine al_ond rfl rfl rfl rfl rfl rfl (by exact opd_gtr rfl rfl rfl) ?_)
          all_goals (refine al_d rfl rfl rfl (by exact (by first | exact opd_pick_t rfl rfl rfl | exact opd_pick_f rfl rfl rfl | exact opd_pickt rfl rfl (by assumption) rfl | exact opd_pickf rfl rfl (by assumption) rfl | exact opd_pick rfl rfl rfl)) ?_)
          all_goals (refine al_d rfl rfl rfl (by exact opd_move rfl rfl) ?_)
          all_goals (first | refine al_split (t := 44) rfl (fun h44 => ?_) (fun h44 => ?_) | refine al_dup (t := 44) rfl ?_ | skip)
          all_goals (try contradiction)
          all_goals (first | refine al_off rfl rfl rfl rfl rfl ?_ | refine al_offu rfl rfl rfl rfl ?_ | refine al_ond rfl rfl rfl rfl rfl rfl (by exact (by first | exact opd_field_ref rfl fo44_6 rfl rfl rfl rfl | exact opd_field_pad rfl fo44_6 rfl rfl)) ?_)
          all_goals (first | refine al_off rfl rfl rfl rfl rfl ?_ | refine al_offu rfl rfl rfl rfl ?_ | refine al_ond rfl rfl rfl rfl rfl rfl (by exact (by first | exact opd_load1_ref rfl Tryz.isAgg9 rfl rfl rfl rfl rfl | exact opd_load1_pad rfl Tryz.isAgg9 rfl (by first | omega | assumption) rfl)) ?_)
          all_goals (first | refine al_off rfl rfl rfl rfl rfl ?_ | refine al_offu rfl rfl rfl rfl ?_ | refine al_ond rfl rfl rfl rfl rfl rfl (by exact opd_len_str rfl Tryz.underlying9 rfl) ?_)
          all_goals (first | refine al_off rfl rfl rfl rfl rfl ?_ | refine al_offu rfl rfl rfl rfl ?_ | refine al_ond rfl rfl rfl rfl rfl rfl (by exact opd_gtr rfl rfl rfl) ?_)
          all_goals (refine al_d rfl rfl rfl (by exact (by first | exact opd_pick_t rfl rfl rfl | exact opd_pick_f rfl rfl rfl | exact opd_pickt rfl rfl (by assumption) rfl | exact opd_pickf rfl rfl (by assumption) rfl | exact opd_pick rfl rfl rfl)) ?_)
          all_goals (refine al_d rfl rfl rfl (by exact opd_move rfl rfl) ?_)
          all_goals (first | refine al_split (t := 50) rfl (fun h50 => ?_) (fun h50 => ?_) | refine al_dup (t := 50) rfl ?_ | skip)
          all_goals (try contradiction)
          all_goals (first | refine al_off rfl rfl rfl rfl rfl ?_ | refine al_offu rfl rfl rfl rfl ?_ | refine al_ond rfl rfl rfl rfl rfl rfl (by exact (by first | exact opd_field_ref rfl fo44_7 rfl rfl rfl rfl | exact opd_field_pad rfl fo44_7 rfl rfl)) ?_)
          all_goals (first | refine al_off rfl rfl rfl rfl rfl ?_ | refine al_offu rfl rfl rfl rfl ?_ | refine al_ond rfl rfl rfl rfl rfl rfl (by exact (by first | exact opd_load1_ref rfl Tryz.isAgg39 rfl rfl rfl rfl rfl | exact opd_load1_pad rfl Tryz.isAgg39 rfl (by first | omega | assumption) rfl)) ?_)
          all_goals (first | refine al_off rfl rfl rfl rfl rfl ?_ | refine al_offu rfl rfl rfl rfl ?_ | refine al_ond rfl rfl rfl rfl rfl rfl (by exact (by first | exact opd_len_sl rfl Tryz.underlying39 rfl | exact opd_len_osl rfl Tryz.underlying39 rfl rfl rfl)) ?_)
          all_goals (first | refine al_off rfl rfl rfl rfl rfl ?_ | refine al_offu rfl rfl rfl rfl ?_ | refine al_ond rfl rfl rfl rfl rfl rfl (by exact opd_gtr rfl rfl rfl) ?_)
          all_goals (refine al_d rfl rfl rfl (by exact (by first | exact opd_pick_t rfl rfl rfl | exact opd_pick_f rfl rfl rfl | exact opd_pickt rfl rfl (by assumption) rfl | exact opd_pickf rfl rfl (by assumption) rfl | exact opd_pick rfl rfl rfl)) ?_)
          all_goals (refine al_d rfl rfl rfl (by exact opd_move rfl rfl) ?_)
          all_goals (first | refine al_split (t := 56) rfl (fun h56 => ?_) (fun h56 => ?_) | refine al_dup (t := 56) rfl ?_ | skip)
          all_goals (try contradiction)
          all_goals (first | refine al_off rfl rfl rfl rfl rfl ?_ | refine al_offu rfl rfl rfl rfl ?_ | refine al_ond rfl rfl rfl rfl rfl rfl (by exact (by first | exact opd_field_ref rfl fo44_8 rfl rfl rfl rfl | exact opd_field_pad rfl fo44_8 rfl rfl)) ?_)
          all_goals (first | refine al_off rfl rfl rfl rfl rfl ?_ | refine al_offu rfl rfl rfl rfl ?_ | refine al_ond rfl rfl rfl rfl rfl rfl (by exact (by first | exact opd_loadn_ref rfl Tryz.isAgg42 Tryz.sizeOf42 rfl rfl rfl rfl (by simp only [List.drop_succ_cons, List.drop_zero, List.take_succ_cons, List.take_zero, List.take_nil, List.map_cons, List.map_nil, List.set_cons_zero, List.set_cons_succ, List.cons_append, List.nil_append, encTag, encObj, encEdit]; rfl) rfl | exact opd_loadn_pad rfl Tryz.isAgg42 Tryz.sizeOf42 rfl (by first | omega | assumption) (by simp only [List.drop_succ_cons, List.drop_zero, List.take_succ_cons, List.take_zero, List.take_nil, List.map_cons, List.map_nil, List.set_cons_zero, List.set_cons_succ, List.cons_append, List.nil_append, encTag, encObj, encEdit]; rfl) rfl)) ?_)
          all_goals (first | refine al_off rfl rfl rfl rfl rfl ?_ | refine al_offu rfl rfl rfl rfl ?_ | refine al_ond rfl rfl rfl rfl rfl rfl (by exact opr_call rfl rfl Tryz.call105 rfl (few11_c e.obj 20 _ hok.2)) ?_)
          all_goals (first | refine al_off rfl rfl rfl rfl rfl ?_ | refine al_offu rfl rfl rfl rfl ?_ | refine al_ond rfl rfl rfl rfl rfl rfl (by exact opd_not rfl rfl) ?_)
          all_goals (refine al_d rfl rfl rfl (by exact (by first | exact opd_pick_t rfl rfl rfl | exact opd_pick_f rfl rfl rfl | exact opd_pickt rfl rfl (by assumption) rfl | exact opd_pickf rfl rfl (by assumption) rfl | exact opd_pick rfl rfl rfl)) ?_)
          all_goals (refine al_d rfl rfl rfl (by exact opd_move rfl rfl) ?_)
          all_goals (first | refine al_split (t := 62) rfl (fun h62 => ?_) (fun h62 => ?_) | refine al_dup (t := 62) rfl ?_ | skip)
          all_goals (try contradiction)
          all_goals (first | refine al_off rfl rfl rfl rfl rfl ?_ | refine al_offu rfl rfl rfl rfl ?_ | refine al_ond rfl rfl rfl rfl rfl rfl (by exact (by first | exact opd_field_ref rfl fo44_8 rfl rfl rfl rfl | exact opd_field_pad rfl fo44_8 rfl rfl)) ?_)
          all_goals (first | refine al_off rfl rfl rfl rfl rfl ?_ | refine al_offu rfl rfl rfl rfl ?_ | refine al_ond rfl rfl rfl rfl rfl rfl (by exact (by first | exact opd_field_ref rfl fo42_4 rfl rfl rfl rfl | exact opd_field_pad rfl fo42_4 rfl rfl)) ?_)
          all_goals (first | refine al_off rfl rfl rfl rfl rfl ?_ | refine al_offu rfl rfl rfl rfl ?_ | refine al_ond rfl rfl rfl rfl rfl rfl (by exact (by first | exact opd_load1_ref rfl Tryz.isAgg40 rfl rfl rfl rfl rfl | exact opd_load1_pad rfl Tryz.isAgg40 rfl (by first | omega | assumption) rfl)) ?_)
          all_goals (first | refine al_off rfl rfl rfl rfl rfl ?_ | refine al_offu rfl rfl rfl rfl ?_ | refine al_ond rfl rfl rfl rfl rfl rfl (by exact (by first | exact opd_len_sl rfl Tryz.underlying40 rfl | exact opd_len_osl rfl Tryz.underlying40 rfl rfl rfl)) ?_)
          all_goals (first | refine al_off rfl rfl rfl rfl rfl ?_ | refine al_offu rfl rfl rfl rfl ?_ | refine al_ond rfl rfl rfl rfl rfl rfl (by exact opd_gtr rfl rfl rfl) ?_)
          all_goals (refine al_d rfl rfl rfl (by exact (by first | exact opd_pick_t rfl rfl rfl | exact opd_pick_f rfl rfl rfl | exact opd_pickt rfl rfl (by assumption) rfl | exact opd_pickf rfl rfl (by assumption) rfl | exact opd_pick rfl rfl rfl)) ?_)
          all_goals (refine al_nil ?_)
          all_goals (exact ⟨⟨_, rfl, by first | rfl | (simp only [longS, *]; rfl) | (simp_all [longS]; done) | (simp_all [longS]; omega)⟩, rfl, rfl, rfl⟩)
        refine awp_cond rfl (fun hc3 => ?_) (fun hc3 => ?_)
        -- cond 3
        · have hbad : bad22 e = true := by
            rw [hrl, htl] at hc3
            rw [bad22, hc3]; rfl
          refine awp_seq ?_
          refine awp_region ?_
          refine al_d rfl rfl rfl (by exact opd_assign rfl rfl) ?_
          refine al_nil ?_
          refine awp_ret ?_
          -- return
          refine aret1 (H' := []) (by first | exact .inr rfl | exact .inl rfl) rfl (rval_tmp rfl) (Fin.wk (by simp) trivial trivial) ?_
          exact ⟨by rw [any_some hoi hbad]; rfl, rfl⟩
        · rw [hrl, htl] at hc3
          have hb1 : bad22 e = (e.refs.any (longS 300)) := by rw [bad22, hc3]; rfl
          refine awp_skip ?_
          refine awp_seq ?_
          refine awp_region ?_
          refine al_d rfl rfl rfl (by exact opd_assign rfl rfl) ?_
          refine al_nil ?_
          refine awp_block ?_
          -- loop
          refine awp_loop (σ := Nat) (fun q => ([(0, .pv (slEdits l)), (5, iv (i : Int)), (6, .ref 6 0 0 0), (7, iv (q : Int))], [(6, bx 15 44 ((encEdit e).map .pv))])) (fun q => q ≤ e.refs.length ∧ ∀ j, j < q → ∀ b, e.refs[j]? = some b → longS 300 b = false) (fun q => e.refs.length - q) 0 ⟨by omega, by omega⟩ ?_ ?_
          · exact (Ent.wk ⟨⟨_, rfl, rfl⟩, (by first | (simp; done) | (simp; rfl) | exact clo_map _ _ _), ⟨_, rfl, rfl⟩, (by first | (simp; done) | (simp; rfl) | exact clo_map _ _ _), ⟨_, rfl, rfl⟩, (by first | (simp; done) | (simp; rfl) | exact clo_map _ _ _), ⟨_, rfl, rfl⟩, (by first | (simp; done) | (simp; rfl) | exact clo_map _ _ _), trivial⟩ ⟨⟨_, rfl, rfl⟩, (by first | (simp; done) | (simp; rfl) | exact clo_map _ _ _), trivial⟩ trivial)
          · rintro q ⟨hq, hnr⟩
            refine awp_seq ?_
            refine awp_seq ?_
            refine awp_region ?_
            refine al_d rfl rfl rfl (by exact opd_move rfl rfl) ?_
            refine al_d rfl rfl rfl (by exact (by first | exact opd_field_ref rfl fo44_7 rfl rfl rfl rfl | exact opd_field_pad rfl fo44_7 rfl rfl)) ?_
            refine al_d rfl rfl rfl (by exact (by first | exact opd_load1_ref rfl Tryz.isAgg39 rfl rfl rfl rfl rfl | exact opd_load1_pad rfl Tryz.isAgg39 rfl (by first | omega | assumption) rfl)) ?_
            refine al_d rfl rfl rfl (by exact (by first | exact opd_len_sl rfl Tryz.underlying39 rfl | exact opd_len_osl rfl Tryz.underlying39 rfl rfl rfl)) ?_
            refine al_d rfl rfl rfl (by exact opd_lss rfl rfl rfl) ?_
            refine al_nil ?_
            refine awp_cond rfl (fun hc4 => ?_) (fun hc4 => ?_)
            -- cond 4
            · have hlt2 : q < e.refs.length := by simpa using hc4
              obtain ⟨s, hs⟩ := get_of_lt hlt2
              have hse := map_get (f := encStr) hs
              refine awp_skip ?_
              refine awp_seq ?_
              refine awp_block ?_
              refine awp_seq ?_
              refine awp_region ?_
              refine al_d rfl rfl rfl (by exact (by first | exact opd_field_ref rfl fo44_7 rfl rfl rfl rfl | exact opd_field_pad rfl fo44_7 rfl rfl)) ?_
              refine al_d rfl rfl rfl (by exact (by first | exact opd_load1_ref rfl Tryz.isAgg39 rfl rfl rfl rfl rfl | exact opd_load1_pad rfl Tryz.isAgg39 rfl (by first | omega | assumption) rfl)) ?_
              refine al_d rfl rfl rfl (by exact opd_move rfl rfl) ?_
              refine al_d rfl rfl rfl (by exact (by first | exact x_index_pad rfl so39 rfl rfl (by omega) (by first | exact Int.toNat_natCast _ | rfl) (by assumption) rfl | exact x_index_osl rfl so39 rfl rfl rfl rfl rfl (by omega) (by first | exact Int.toNat_natCast _ | rfl) (by first | omega | assumption) rfl)) ?_
              refine al_d rfl rfl rfl (by exact (by first | exact opd_load1_ref rfl Tryz.isAgg9 rfl rfl rfl rfl rfl | exact opd_load1_pad rfl Tryz.isAgg9 rfl (by first | omega | assumption) rfl)) ?_
              refine al_d rfl rfl rfl (by exact opd_len_str rfl Tryz.underlying9 rfl) ?_
              refine al_d rfl rfl rfl (by exact opd_gtr rfl rfl rfl) ?_
              refine al_nil ?_
              refine awp_cond rfl (fun hc5 => ?_) (fun hc5 => ?_)
              -- cond 5
              · have hbad : bad22 e = true := by rw [hb1, any_some hs hc5]
                refine awp_seq ?_
                refine awp_region ?_
                refine al_d rfl rfl rfl (by exact opd_assign rfl rfl) ?_
                refine al_nil ?_
                refine awp_ret ?_
                -- return
                refine aret1 (H' := []) (by first | exact .inr rfl | exact .inl rfl) rfl (rval_tmp rfl) (Fin.wk (by simp) trivial trivial) ?_
                exact ⟨by rw [any_some hoi hbad]; rfl, rfl⟩
              · skip
                refine awp_skip ?_
                refine awp_region ?_
                refine al_d rfl rfl rfl (by exact opd_move rfl rfl) ?_
                refine al_d rfl rfl rfl (by exact opd_add rfl rfl rfl (by first | exact w64 (by omega) (by omega) | exact wu8 (by omega) (by omega) | rfl)) ?_
                refine al_d rfl rfl rfl (by exact opd_assign rfl rfl) ?_
                refine al_nil ?_
                -- end of a round
                exact ⟨q + 1, ⟨by omega, pre_succ hnr hs hc5⟩, by omega, (Ent.wk ⟨⟨_, rfl, rfl⟩, (by first | (simp; done) | (simp; rfl) | exact clo_map _ _ _), ⟨_, rfl, rfl⟩, (by first | (simp; done) | (simp; rfl) | exact clo_map _ _ _), ⟨_, rfl, rfl⟩, (by first | (simp; done) | (simp; rfl) | exact clo_map _ _ _), ⟨_, rfl, rfl⟩, (by first | (simp; done) | (simp; rfl) | exact clo_map _ _ _), trivial⟩ ⟨⟨_, rfl, rfl⟩, (by first | (simp; done) | (simp; rfl) | exact clo_map _ _ _), trivial⟩ trivial)⟩
            · have hge : q = e.refs.length := by
                have : e.refs.length ≤ q := by simpa using hc4
                omega
              subst hge
              have hgood : bad22 e = false := by rw [hb1, any_none hnr]
              refine awp_exit ?_
              refine awp_region ?_
              refine al_d rfl rfl rfl (by exact opd_move rfl rfl) ?_
              refine al_d rfl rfl rfl (by exact opd_add rfl rfl rfl (by first | exact w64 (by omega) (by omega) | exact wu8 (by omega) (by omega) | rfl)) ?_
              refine al_d rfl rfl rfl (by exact opd_assign rfl rfl) ?_
              refine al_nil ?_
              -- end of a round
              exact ⟨i + 1, ⟨by omega, pre_succ hno hoi hgood⟩, by omega, (Ent.wk ⟨⟨_, rfl, rfl⟩, (by first | (simp; done) | (simp; rfl) | exact clo_map _ _ _), ⟨_, rfl, rfl⟩, (by first | (simp; done) | (simp; rfl) | exact clo_map _ _ _), trivial⟩ trivial trivial)⟩
      · have hge : i = l.length := by
          have : l.length ≤ i := by simpa using hc2
          omega
        subst hge
        refine awp_exit ?_
        refine awp_seq ?_
        refine awp_region ?_
        refine al_d rfl rfl rfl (by exact opd_assign rfl rfl) ?_
        refine al_nil ?_
        refine awp_ret ?_
        -- return
        refine aret1 (H' := []) (by first | exact .inr rfl | exact .inl rfl) rfl (rval_tmp rfl) (Fin.wk (by simp) trivial trivial) ?_
        exact ⟨by rw [any_none hno]; rfl, rfl⟩
def gFew (m : List GObj) (l : List GEdit) (idx : List Int) : Bool := few13 m 40 && few22 l 40 && decide ((idx.length : Int) ≤ 10)
theorem few_c (m : List GObj) (l : List GEdit) (kind : Int) (idx : List Int) (H : Heap) (hm : m.length < 4611686018427387904) (ho : ∀ o, o ∈ m → okObj o) (hl : l.length < 4611686018427387904) (he : ∀ e, e ∈ l → okEdit e) :
    ACalls Tryz.prog 27 [.agg [.pv (slObjs m)], .pv (slEdits l), .agg [iv kind, .pv (slInts idx)]] H (fun r H' => r = bv (gFew m l idx) ∧ H' = H) := by
  refine ACalls.pure ?_ (by simp) H
  have hmi : (idx.map encInt).length = idx.length := List.length_map _
  refine ACalls.body Tryz.func27 rfl Tryz.ntmps27 (Nat.le_of_ble_eq_true rfl) ?_
  refine awp_seq ?_
  refine awp_region ?_
  refine al_d rfl rfl rfl (by exact opd_box (id := 3) rfl rfl rfl rfl rfl) ?_
  refine al_d rfl rfl rfl (by exact opd_box (id := 5) rfl rfl rfl rfl rfl) ?_
  refine al_d rfl rfl rfl (by exact opd_assign rfl rfl) ?_
  refine al_nil ?_
  refine awp_seq ?_
  refine awp_bool (t := 6) (n := 15) (X := gFew m l idx) ?_ ?_
  · all_goals (refine al_d rfl rfl rfl (by exact (by first | exact opd_loadn_ref rfl Tryz.isAgg24 Tryz.sizeOf24 rfl rfl rfl rfl (by simp only [List.drop_succ_cons, List.drop_zero, List.take_succ_cons, List.take_zero, List.take_nil, List.map_cons, List.map_nil, List.set_cons_zero, List.set_cons_succ, List.cons_append, List.nil_append, encTag, encObj, encEdit]; rfl) rfl | exact opd_loadn_pad rfl Tryz.isAgg24 Tryz.sizeOf24 rfl (by first | omega | assumption) (by simp only [List.drop_succ_cons, List.drop_zero, List.take_succ_cons, List.take_zero, List.take_nil, List.map_cons, List.map_nil, List.set_cons_zero, List.set_cons_succ, List.cons_append, List.nil_append, encTag, encObj, encEdit]; rfl) rfl)) ?_)
    all_goals (refine al_d rfl rfl rfl (by exact opr_call rfl rfl Tryz.call53 rfl (few13_c m 40 _ hm ho)) ?_)
    all_goals (refine al_d rfl rfl rfl (by exact opd_move rfl rfl) ?_)
    all_goals (first | refine al_split (t := 9) rfl (fun h9 => ?_) (fun h9 => ?_) | refine al_dup (t := 9) rfl ?_ | skip)
    all_goals (try contradiction)
    all_goals (first | refine al_off rfl rfl rfl rfl rfl ?_ | refine al_offu rfl rfl rfl rfl ?_ | refine al_ond rfl rfl rfl rfl rfl rfl (by exact opd_move rfl rfl) ?_)
    all_goals (first | refine al_off rfl rfl rfl rfl rfl ?_ | refine al_offu rfl rfl rfl rfl ?_ | refine al_ond rfl rfl rfl rfl rfl rfl (by exact opr_call rfl rfl Tryz.call54 rfl (few22_c l 40 _ hl he)) ?_)
    all_goals (refine al_d rfl rfl rfl (by exact (by first | exact opd_pick_t rfl rfl rfl | exact opd_pick_f rfl rfl rfl | exact opd_pickt rfl rfl (by assumption) rfl | exact opd_pickf rfl rfl (by assumption) rfl | exact opd_pick rfl rfl rfl)) ?_)
    all_goals (refine al_d rfl rfl rfl (by exact opd_move rfl rfl) ?_)
    all_goals (first | refine al_split (t := 13) rfl (fun h13 => ?_) (fun h13 => ?_) | refine al_dup (t := 13) rfl ?_ | skip)
    all_goals (try contradiction)
    all_goals (first | refine al_off rfl rfl rfl rfl rfl ?_ | refine al_offu rfl rfl rfl rfl ?_ | refine al_ond rfl rfl rfl rfl rfl rfl (by exact (by first | exact opd_field_ref rfl fo31_1 rfl rfl rfl rfl | exact opd_field_pad rfl fo31_1 rfl rfl)) ?_)
    all_goals (first | refine al_off rfl rfl rfl rfl rfl ?_ | refine al_offu rfl rfl rfl rfl ?_ | refine al_ond rfl rfl rfl rfl rfl rfl (by exact (by first | exact opd_load1_ref rfl Tryz.isAgg29 rfl rfl rfl rfl rfl | exact opd_load1_pad rfl Tryz.isAgg29 rfl (by first | omega | assumption) rfl)) ?_)
    all_goals (first | refine al_off rfl rfl rfl rfl rfl ?_ | refine al_offu rfl rfl rfl rfl ?_ | refine al_ond rfl rfl rfl rfl rfl rfl (by exact (by first | exact opd_len_sl rfl Tryz.underlying29 rfl | exact opd_len_osl rfl Tryz.underlying29 rfl rfl rfl)) ?_)
    all_goals (first | refine al_off rfl rfl rfl rfl rfl ?_ | refine al_offu rfl rfl rfl rfl ?_ | refine al_ond rfl rfl rfl rfl rfl rfl (by exact opd_leq rfl rfl rfl) ?_)
    all_goals (refine al_d rfl rfl rfl (by exact (by first | exact opd_pick_t rfl rfl rfl | exact opd_pick_f rfl rfl rfl | exact opd_pickt rfl rfl (by assumption) rfl | exact opd_pickf rfl rfl (by assumption) rfl | exact opd_pick rfl rfl rfl)) ?_)
    all_goals (refine al_d rfl rfl rfl (by exact opd_assign rfl rfl) ?_)
    all_goals (refine al_nil ?_)
    all_goals (exact ⟨⟨_, rfl, by first | rfl | (simp only [gFew, *]; rfl) | (simp_all [gFew]; done)⟩, rfl, rfl, rfl⟩)
  refine awp_ret ?_
  -- return
  refine aret1 (H' := []) (by first | exact .inr rfl | exact .inl rfl) rfl (rval_tmp rfl) (Fin.wk (by simp) trivial trivial) ?_
  exact ⟨rfl, rfl⟩
end Go.Proofs.YtdgoodjhndeojaaGreat
end
section
set_option linter.unusedVariables false
set_option linter.unusedSimpArgs false
namespace Go.Abs
theorem Clo.up {H H' : Heap} (hs : ∀ i, (H.get i).isSome = true → (H'.get i).isSome = true) {a : AV} (h : Clo H a) : Clo H' a := by
  induction h with
  | any => exact .any
  | pv p => exact .pv p
  | pad rows i k => exact .pad rows i k
  | ref h => exact .ref (hs _ h)
  | osl h => exact .osl (hs _ h)
  | clo h ih => exact .clo ih
  | agg h ih => exact .agg ih
  | tup h ih => exact .tup ih
  | mp h => exact .mp (hs _ h)
  | it h => exact .it (hs _ h)
theorem Clo.app {D K : Heap} {a : AV} (h : Clo K a) : Clo (D ++ K) a := h.up fun i hi => by
  rw [hget_app]
  cases D.get i with
  | none => exact hi
  | some o => rfl
theorem Clo.cons {p : Nat × Ob} {K : Heap} {a : AV} (h : Clo K a) : Clo (p :: K) a := Clo.app (D := [p]) h
theorem Closed.app {D K : Heap} (h3 : ∀ p ∈ D, ∀ r ∈ p.2.rows, ∀ a ∈ r, Clo (D ++ K) a) (h4 : Closed K) : Closed (D ++ K) := by
  intro id o ho
  rw [hget_app] at ho
  cases e : D.get id with
  | some x =>
    rw [e] at ho
    cases ho
    exact h3 _ (mem_of_hget e)
  | none =>
    rw [e] at ho
    exact fun r hr a ha => (h4 id o ho r hr a ha).app
theorem Closed.cons {i : Nat} {o : Ob} {K : Heap} (h3 : ∀ r ∈ o.rows, ∀ a ∈ r, Clo ((i, o) :: K) a) (h4 : Closed K) : Closed ((i, o) :: K) :=
  Closed.app (D := [(i, o)]) (fun p hp => by rw [List.mem_singleton] at hp; subst hp; exact h3) h4
/-- A scope of labels into which nothing jumps. -/
def ANoGoto (Q : Exit → Env → Heap → Prop) : Exit → Env → Heap → Prop
  | .goto _, _, _ => False
  | e, E, H => Q e E H
theorem awp_scope {P : Program} {G0 : Heap} {N : Nat} {E : Env} {H : Heap} {Q : Exit → Env → Heap → Prop} {c : Code} (h : AWp P G0 N c (ANoGoto Q) E H) : AWp P G0 N (.scope c) Q E H := by
  intro G hG a w hs
  refine wp_scope_straight (wp_mono (h G hG a w hs) ?_)
  rintro e a' w' ⟨E', H', q, s⟩
  cases e <;> first | exact ⟨E', H', q, s⟩ | exact q.elim
/-- A region with tests, which writes: its ways join. -/
theorem awp_mergeW {P : Program} {G0 : Heap} {N : Nat} {E : Env} {H H2 : Heap} {ops : Array Oper} {id n t : Nat} {d : Bool} {X : Bool} {Q : Exit → Env → Heap → Prop} (h : AWp P G0 N (.region id ops d) (fun e E1 H1 => e = .normal ∧ Merge n t X E H2 E1 H1) E H) (hk : Q .normal ((t, .pv (.bool X)) :: E) H2) : AWp P G0 N (.region id ops d) Q E H := by
  intro G hG a w hs
  refine wp_mono (h G hG a w hs) ?_
  rintro e a' w' ⟨E1, H1, ⟨rfl, hm⟩, hs'⟩
  exact ⟨_, _, hk, (hm.ent (G0 := G0)) G hG N a' w' hs'⟩
/-- Each object's cells lead into the heap. -/
def ClosedL (H : Heap) : Heap → Prop
  | [] => True
  | (_, o) :: r => (∀ r ∈ o.rows, ∀ a ∈ r, Clo H a) ∧ ClosedL H r
theorem ClosedL.spec {H : Heap} : ∀ {L : Heap}, ClosedL H L → ∀ p ∈ L, ∀ r ∈ p.2.rows, ∀ a ∈ r, Clo H a
  | (i, o) :: L, h, p, hp => by
    rcases List.mem_cons.1 hp with rfl | hp
    · exact h.1
    · exact ClosedL.spec h.2 p hp
theorem Closed.ofL {H : Heap} (h : ClosedL H H) : Closed H := fun _ _ ho => h.spec _ (mem_of_hget ho)
/-- Names of objects of a front. -/
def lo (D : Heap) (n : Nat) : Prop := ∀ p ∈ D, 900 ≤ p.1 ∧ p.1 < n
/-- No names of fronts are in a heap. -/
def clear (K : Heap) : Prop := ∀ i, 900 ≤ i → i < 1000 → K.get i = none
/-- What stands in front in both forms, or not behind. -/
theorem Sub.front' {D D' K : Heap} (h1 : ∀ p ∈ D, (D'.get p.1).isSome = true ∨ K.get p.1 = none) (h2 : ∀ p ∈ D', D.get p.1 = some p.2) : Sub (D' ++ K) (D ++ K) := by
  intro id o ho
  rw [hget_app] at ho ⊢
  cases e : D'.get id with
  | some x =>
    rw [e] at ho
    cases ho
    rw [h2 _ (mem_of_hget e)]
  | none =>
    rw [e] at ho
    cases e2 : D.get id with
    | none => exact ho
    | some x =>
      rcases h1 _ (mem_of_hget e2) with h | h
      · simp only [e] at h; cases h
      · rw [h] at ho; cases ho
theorem Kept.front' {G0 D D' K : Heap} (h2 : ∀ p ∈ D', D.get p.1 = some p.2) (h5 : ∀ p ∈ D, (D'.get p.1).isSome = true ∨ G0.get p.1 = none) : Kept G0 (D' ++ K) (D ++ K) := by
  intro id hi
  rw [hget_app, hget_app]
  cases e : D'.get id with
  | some x => rw [h2 _ (mem_of_hget e)]
  | none =>
    cases e2 : D.get id with
    | none => rfl
    | some x =>
      rcases h5 _ (mem_of_hget e2) with h | h
      · simp only [e] at h; cases h
      · rw [h] at hi; cases hi
theorem Ent.front' {G0 : Heap} {E E' : Env} {K : Heap} (D D' : Heap) (hE : EOk E (D' ++ K) E') (h1 : ∀ p ∈ D, (D'.get p.1).isSome = true ∨ K.get p.1 = none) (h2 : ∀ p ∈ D', D.get p.1 = some p.2) (h3 : ∀ p ∈ D', ∀ r ∈ p.2.rows, ∀ a ∈ r, Clo (D' ++ K) a) (h4 : Closed K)
    (h5 : ∀ p ∈ D, (D'.get p.1).isSome = true ∨ G0.get p.1 = none) : Ent G0 E (D ++ K) E' (D' ++ K) := by
  intro G hG N a w hs
  obtain ⟨I, ι, hr, hst, he⟩ := hs.rel
  subst hG
  have hsub := Sub.front' h1 h2
  refine ⟨hs.defers, hs.size, I, ι, hr.restrict hsub (Closed.app h3 h4), hst.restrict hsub (Kept.front' h2 h5), fun t v ht => ?_⟩
  obtain ⟨k1, k2⟩ := hE.spec _ (mem_of_get ht)
  obtain ⟨c, hc, hv⟩ := he t v k1
  exact ⟨c, hc, hv.restrict hsub k2⟩
end Go.Abs
end
section
set_option linter.unusedVariables false
set_option linter.unusedSimpArgs false
set_option maxRecDepth 100000
namespace Go.Proofs.YtdgoodjhndeojaaGreat
open Go.Abs

/-- The kinds of a map's objects, by Ids. -/
def kM (l : List GObj) : List (ByteArray × AV) := l.map fun o => (o.id, iv o.kind)
abbrev kob (l : List GObj) : Ob := ⟨0, 0, (kM l).length, mrows strK (kM l)⟩
theorem kob_clo (l : List GObj) (H : Heap) : ∀ r ∈ (kob l).rows, ∀ a ∈ r, Clo H a := by
  intro r hr a ha
  obtain ⟨i, hi⟩ := List.mem_iff_getElem?.1 hr
  obtain ⟨p, hp, rfl⟩ := mrows_get.1 hi
  simp only [kM, List.getElem?_map] at hp
  obtain ⟨q, _, rfl⟩ := Option.map_eq_some_iff.1 hp
  simp only [List.mem_cons, List.not_mem_nil, or_false] at ha
  rcases ha with rfl | rfl | rfl <;> simp
theorem kM_get : ∀ (l : List GObj) (s : ByteArray), mget (kM l) s = (l.find? (idIs s)).map (fun o => iv o.kind)
  | [], s => rfl
  | o :: l, s => by
    have ih := kM_get l s
    rw [kM, List.map_cons, mget, List.find?_cons]
    by_cases e : o.id = s
    · rw [if_pos e, show idIs s o = true from decide_eq_true e]; rfl
    · rw [if_neg e, show idIs s o = false from decide_eq_false e]; exact ih
theorem mput_new : ∀ {l : List (ByteArray × AV)} {k : ByteArray} (v : AV), mget l k = none → mput l k v = l ++ [(k, v)]
  | [], k, v, _ => rfl
  | (k', a) :: l, k, v, h => by
    rw [mget] at h
    split at h
    · cases h
    · next e => rw [mput, if_neg e, mput_new v h]; rfl
theorem kM_put {m : List GObj} {k : Nat} {o : GObj} (hu : ups m) (ho : m[k]? = some o) : mput (kM (m.take k)) o.id (iv o.kind) = kM (m.take (k + 1)) := by
  have hn : mget (kM (m.take k)) o.id = none := by
    rw [kM_get, Option.map_eq_none_iff, List.find?_eq_none]
    intro a ha he
    have he := of_decide_eq_true he
    obtain ⟨j, hj⟩ := List.mem_iff_getElem?.1 ha
    have hjk : j < k := by
      have := (List.getElem?_eq_some_iff.1 hj).1
      rw [List.length_take] at this
      omega
    rw [List.getElem?_take_of_lt hjk] at hj
    obtain ⟨jl, je⟩ := List.getElem?_eq_some_iff.1 hj
    obtain ⟨kl, ke⟩ := List.getElem?_eq_some_iff.1 ho
    rw [ups, List.pairwise_iff_getElem] at hu
    have := hu j k jl kl hjk
    rw [je, ke, he, slt_irr] at this
    cases this
  rw [mput_new _ hn, kM, kM, List.take_add_one, ho, List.map_append]
  rfl
def gWanted (kind i : Int) : Int := if (decide (kind = 4) || (decide (kind = 5) && !decide (i = 1))) then 2 else 1
theorem wanted_c (kind i : Int) (H : Heap) : ACalls Tryz.prog 172 [iv kind, iv i] H (fun r H' => r = iv (gWanted kind i) ∧ H' = H) := by
  refine ACalls.pure ?_ (by simp) H
  refine ACalls.body Tryz.func172 rfl Tryz.ntmps172 (Nat.le_of_ble_eq_true rfl) ?_
  refine awp_seq ?_
  refine awp_region ?_
  refine al_d rfl rfl rfl (by exact opd_assign rfl rfl) ?_
  refine al_nil ?_
  refine awp_seq ?_
  refine awp_seq ?_
  refine awp_bool (t := 14) (n := 12) (X := decide (kind = 4) || (decide (kind = 5) && !decide (i = 1))) ?_ ?_
  · all_goals (refine al_d rfl rfl rfl (by exact opd_move rfl rfl) ?_)
    all_goals (refine al_d rfl rfl rfl (by exact opd_eql rfl rfl rfl) ?_)
    all_goals (refine al_d rfl rfl rfl (by exact opd_move rfl rfl) ?_)
    all_goals (first | refine al_split (t := 7) rfl (fun h7 => ?_) (fun h7 => ?_) | refine al_dup (t := 7) rfl ?_ | skip)
    all_goals (try contradiction)
    all_goals (first | refine al_off rfl rfl rfl rfl rfl ?_ | refine al_offu rfl rfl rfl rfl ?_ | refine al_ond rfl rfl rfl rfl rfl rfl (by exact opd_move rfl rfl) ?_)
    all_goals (first | refine al_off rfl rfl rfl rfl rfl ?_ | refine al_offu rfl rfl rfl rfl ?_ | refine al_ond rfl rfl rfl rfl rfl rfl (by exact opd_eql rfl rfl rfl) ?_)
    all_goals (first | refine al_off rfl rfl rfl rfl rfl ?_ | refine al_offu rfl rfl rfl rfl ?_ | refine al_ond rfl rfl rfl rfl rfl rfl (by exact opd_move rfl rfl) ?_)
    all_goals (first | refine al_split (t := 10) rfl (fun h10 => ?_) (fun h10 => ?_) | refine al_dup (t := 10) rfl ?_ | skip)
    all_goals (try contradiction)
    all_goals (first | refine al_off rfl rfl rfl rfl rfl ?_ | refine al_offu rfl rfl rfl rfl ?_ | refine al_ond rfl rfl rfl rfl rfl rfl (by exact opd_move rfl rfl) ?_)
    all_goals (first | refine al_off rfl rfl rfl rfl rfl ?_ | refine al_offu rfl rfl rfl rfl ?_ | refine al_ond rfl rfl rfl rfl rfl rfl (by exact opd_neq rfl rfl rfl) ?_)
    all_goals (first | refine al_off rfl rfl rfl rfl rfl ?_ | refine al_offu rfl rfl rfl rfl ?_ | refine al_ond rfl rfl rfl rfl rfl rfl (by exact (by first | exact opd_pick_t rfl rfl rfl | exact opd_pick_f rfl rfl rfl | exact opd_pickt rfl rfl (by assumption) rfl | exact opd_pickf rfl rfl (by assumption) rfl | exact opd_pick rfl rfl rfl)) ?_)
    all_goals (refine al_d rfl rfl rfl (by exact (by first | exact opd_pick_t rfl rfl rfl | exact opd_pick_f rfl rfl rfl | exact opd_pickt rfl rfl (by assumption) rfl | exact opd_pickf rfl rfl (by assumption) rfl | exact opd_pick rfl rfl rfl)) ?_)
    all_goals (refine al_nil ?_)
    all_goals (exact ⟨⟨_, rfl, by first | rfl | (simp only [*, Bool.false_and, Bool.true_and, Bool.and_false, Bool.and_true, Bool.true_or, Bool.false_or, Bool.or_true, Bool.or_false, Bool.not_true, Bool.not_false]; done) | (simp_all; done) | (simp_all; omega)⟩, rfl, rfl, rfl⟩)
  refine awp_cond rfl (fun hc1 => ?_) (fun hc1 => ?_)
  -- cond 1
  · skip
    refine awp_seq ?_
    refine awp_region ?_
    refine al_d rfl rfl rfl (by exact opd_assign rfl rfl) ?_
    refine al_nil ?_
    refine awp_ret ?_
    -- return
    refine aret1 (H' := []) (by first | exact .inr rfl | exact .inl rfl) rfl (rval_tmp rfl) (Fin.wk (by simp) trivial trivial) ?_
    exact ⟨by rw [gWanted, if_pos hc1], rfl⟩
  · skip
    refine awp_skip ?_
    refine awp_seq ?_
    refine awp_region ?_
    refine al_d rfl rfl rfl (by exact opd_assign rfl rfl) ?_
    refine al_nil ?_
    refine awp_ret ?_
    -- return
    refine aret1 (H' := []) (by first | exact .inr rfl | exact .inl rfl) rfl (rval_tmp rfl) (Fin.wk (by simp) trivial trivial) ?_
    exact ⟨by rw [gWanted, hc1]; rfl, rfl⟩
def kindOf (m : List GObj) (s : ByteArray) : Option Int := (m.find? (idIs s)).map (·.kind)
def refBad (m : List GObj) (kind : Int) (i : Nat) (s : ByteArray) : Int := match kindOf m s with
  | none => 14
  | some k => if k = gWanted kind (i : Int) then 0 else 13
def refErr (m : List GObj) (kind : Int) : Nat → List ByteArray → Int
  | _, [] => 0
  | i, s :: r => if refBad m kind i s = 0 then refErr m kind (i + 1) r else refBad m kind i s
theorem kM_kind (m : List GObj) (s : ByteArray) : mget (kM m) s = (kindOf m s).map iv := by
  rw [kM_get, kindOf, Option.map_map]; rfl
abbrev cRow (m : List GObj) : Ob := bx 2 105 [.pv (slObjs m), .mp 12 0]
theorem refs_c (m : List GObj) (o : GObj) (H : Heap) (h14 : H.get 14 = some (cRow m)) (h12 : H.get 12 = some (kob m)) (h63 : H.get 963 = none) (hc : Closed H) (hl : o.refs.length < 4611686018427387904) :
    ACalls Tryz.prog 136 [.ref 14 0 0 0, av (encObj o)] H (fun r H' => r = iv (refErr m o.kind 0 o.refs) ∧ H' = H) := by
  have hrl : (o.refs.map encStr).length = o.refs.length := List.length_map _
  have h14' : Heap.get ((963, bx 6 42 ((encObj o).map .pv)) :: H) 14 = some (cRow m) := h14
  have h12' : Heap.get ((963, bx 6 42 ((encObj o).map .pv)) :: H) 12 = some (kob m) := h12
  refine ACalls.body Tryz.func136 rfl Tryz.ntmps136 (Nat.le_of_ble_eq_true rfl) ?_
  refine awp_seq ?_
  refine awp_region ?_
  refine al_d rfl rfl rfl (by exact opd_box (id := 963) rfl rfl rfl rfl h63) ?_
  refine al_d rfl rfl rfl (by exact opd_assign rfl rfl) ?_
  refine al_nil ?_
  refine awp_seq ?_
  refine awp_seq ?_
  refine awp_region ?_
  refine al_d rfl rfl rfl (by exact (by first | exact opd_field_ref rfl fo42_3 rfl rfl rfl rfl | exact opd_field_pad rfl fo42_3 rfl rfl)) ?_
  refine al_d rfl rfl rfl (by exact (by first | exact opd_load1_ref rfl Tryz.isAgg39 rfl rfl rfl rfl rfl | exact opd_load1_pad rfl Tryz.isAgg39 rfl (by first | omega | assumption) rfl)) ?_
  refine al_d rfl rfl rfl (by exact (by first | exact opd_len_sl rfl Tryz.underlying39 rfl | exact opd_len_osl rfl Tryz.underlying39 rfl rfl rfl)) ?_
  refine al_d rfl rfl rfl (by exact opd_move rfl rfl) ?_
  refine al_nil ?_
  refine awp_block ?_
  -- loop
  refine awp_loop (σ := Nat) (fun k => ([(0, .ref 14 0 0 0), (3, .ref 963 0 0 0), (10, .pv (slStrs o.refs)), (11, iv ((o.refs.map encStr).length : Int)), (12, iv (k : Int))], (963, bx 6 42 ((encObj o).map .pv)) :: H)) (fun k => k ≤ o.refs.length ∧ refErr m o.kind 0 o.refs = refErr m o.kind k (o.refs.drop k)) (fun k => o.refs.length - k) 0 ⟨by omega, rfl⟩ ?_ ?_
  · exact Ent.e0 ⟨⟨_, rfl, rfl⟩, ⟨_, rfl, rfl⟩, ⟨_, rfl, rfl⟩, ⟨_, rfl, rfl⟩, ⟨_, rfl, rfl⟩, trivial⟩
  · rintro k ⟨hk, hinv⟩
    refine awp_seq ?_
    refine awp_region ?_
    refine al_d rfl rfl rfl (by exact opd_lss rfl rfl rfl) ?_
    refine al_nil ?_
    refine awp_seq ?_
    refine awp_cond rfl (fun hc1 => ?_) (fun hc1 => ?_)
    -- cond 1
    · have hlt : k < o.refs.length := by have := of_decide_eq_true hc1; omega
      obtain ⟨s, hs⟩ := get_of_lt hlt
      have hi := map_get (f := encStr) hs
      have hdr : o.refs.drop k = s :: o.refs.drop (k + 1) := by
        obtain ⟨hl1, he1⟩ := List.getElem?_eq_some_iff.1 hs
        rw [List.drop_eq_getElem_cons hl1, he1]
      rw [hdr, refErr] at hinv
      refine awp_skip ?_
      refine awp_seq ?_
      refine awp_block ?_
      refine awp_seq ?_
      refine awp_region ?_
      refine al_d rfl rfl rfl (by exact opd_move rfl rfl) ?_
      refine al_d rfl rfl rfl (by exact (by first | exact x_index_pad rfl so39 rfl rfl (by omega) (by first | exact Int.toNat_natCast _ | rfl) (by assumption) rfl | exact x_index_osl rfl so39 rfl rfl rfl rfl rfl (by omega) (by first | exact Int.toNat_natCast _ | rfl) (by first | omega | assumption) rfl)) ?_
      refine al_d rfl rfl rfl (by exact (by first | exact opd_load1_ref rfl Tryz.isAgg9 rfl rfl rfl rfl rfl | exact opd_load1_pad rfl Tryz.isAgg9 rfl (by first | omega | assumption) rfl)) ?_
      refine al_d rfl rfl rfl (by exact opd_assign rfl rfl) ?_
      refine al_d rfl rfl rfl (by exact opd_assign rfl rfl) ?_
      refine al_nil ?_
      refine awp_seq ?_
      refine awp_region ?_
      refine al_d rfl rfl rfl (by exact opd_move rfl rfl) ?_
      refine al_d rfl rfl rfl (by exact (by first | exact opd_nilCheck_ref rfl rfl h14' rfl | exact opd_nilCheck_fn rfl rfl)) ?_
      refine al_d rfl rfl rfl (by exact (by first | exact opd_field_ref rfl fo105_1 rfl h14' rfl rfl | exact opd_field_pad rfl fo105_1 rfl rfl)) ?_
      refine al_d rfl rfl rfl (by exact (by first | exact opd_load1_ref rfl Tryz.isAgg103 rfl h14' rfl rfl rfl | exact opd_load1_pad rfl Tryz.isAgg103 rfl (by first | omega | assumption) rfl)) ?_
      refine al_d rfl rfl rfl (by exact opd_move rfl rfl) ?_
      refine al_d rfl rfl rfl (by exact opd_lookup_ok (κ := strK) rfl Tryz.underlying103 Tryz.underlying9 rfl h12' rfl rfl rfl Tryz.zeroValue3 (.inl rfl)) ?_
      refine al_d rfl rfl rfl (by exact opd_move rfl rfl) ?_
      refine al_d rfl rfl rfl (by exact opd_extract rfl rfl rfl) ?_
      refine al_d rfl rfl rfl (by exact opd_extract rfl rfl rfl) ?_
      refine al_d rfl rfl rfl (by exact opd_assign rfl rfl) ?_
      refine al_d rfl rfl rfl (by exact opd_assign rfl rfl) ?_
      refine al_nil ?_
      refine awp_block ?_
      refine awp_seq ?_
      refine awp_region ?_
      refine al_d rfl rfl rfl (by exact opd_move rfl rfl) ?_
      refine al_d rfl rfl rfl (by exact opd_not rfl rfl) ?_
      refine al_d rfl rfl rfl (by exact opd_assign rfl rfl) ?_
      refine al_nil ?_
      refine awp_cond rfl (fun hc2 => ?_) (fun hc2 => ?_)
      -- cond 2
      · have hko : kindOf m s = none := by
          rw [kM_kind] at hc2
          cases h : kindOf m s with
          | none => rfl
          | some x => rw [h] at hc2; cases hc2
        have hb : refBad m o.kind k s = 14 := by rw [refBad, hko]
        rw [hb, if_neg (by decide)] at hinv
        refine awp_seq ?_
        refine awp_region ?_
        refine al_d rfl rfl rfl (by exact opd_assign rfl rfl) ?_
        refine al_nil ?_
        refine awp_ret ?_
        -- return
        refine aret1 (H' := H) (.inr rfl) rfl (rval_tmp rfl) (Fin.pops [(963, bx 6 42 ((encObj o).map .pv))] (by simp) hc (by simp [h63])) ⟨by rw [hinv], rfl⟩
      · obtain ⟨kd, hko⟩ : ∃ kd, kindOf m s = some kd := by
          rw [kM_kind] at hc2
          cases h : kindOf m s with
          | none => rw [h] at hc2; cases hc2
          | some x => exact ⟨x, rfl⟩
        have hg : mget (kM m) s = some (iv kd) := by rw [kM_kind, hko]; rfl
        rw [hg]
        refine awp_seq ?_
        refine awp_region ?_
        refine al_d rfl rfl rfl (by exact opd_move rfl rfl) ?_
        refine al_d rfl rfl rfl (by exact (by first | exact opd_field_ref rfl fo42_1 rfl rfl rfl rfl | exact opd_field_pad rfl fo42_1 rfl rfl)) ?_
        refine al_d rfl rfl rfl (by exact (by first | exact opd_load1_ref rfl Tryz.isAgg3 rfl rfl rfl rfl rfl | exact opd_load1_pad rfl Tryz.isAgg3 rfl (by first | omega | assumption) rfl)) ?_
        refine al_d rfl rfl rfl (by exact opd_move rfl rfl) ?_
        refine al_d rfl rfl rfl (by exact opr_call rfl rfl Tryz.call172 rfl (wanted_c o.kind (k : Int) _)) ?_
        refine al_d rfl rfl rfl (by exact opd_neq rfl rfl rfl) ?_
        refine al_d rfl rfl rfl (by exact opd_assign rfl rfl) ?_
        refine al_nil ?_
        refine awp_cond rfl (fun hc3 => ?_) (fun hc3 => ?_)
        -- cond 3
        · have hb : refBad m o.kind k s = 13 := by
            have h : (!decide (kd = gWanted o.kind (k : Int))) = true := hc3
            have h : ¬ kd = gWanted o.kind (k : Int) := by simpa using h
            rw [refBad, hko]
            exact if_neg h
          rw [hb, if_neg (by decide)] at hinv
          refine awp_seq ?_
          refine awp_region ?_
          refine al_d rfl rfl rfl (by exact opd_assign rfl rfl) ?_
          refine al_nil ?_
          refine awp_ret ?_
          -- return
          refine aret1 (H' := H) (.inr rfl) rfl (rval_tmp rfl) (Fin.pops [(963, bx 6 42 ((encObj o).map .pv))] (by simp) hc (by simp [h63])) ⟨by rw [hinv], rfl⟩
        · have hb : refBad m o.kind k s = 0 := by
            have h : (!decide (kd = gWanted o.kind (k : Int))) = false := hc3
            have h : kd = gWanted o.kind (k : Int) := by simpa using h
            rw [refBad, hko]
            exact if_pos h
          rw [if_pos hb] at hinv
          refine awp_skip ?_
          refine awp_region ?_
          refine al_d rfl rfl rfl (by exact opd_add rfl rfl rfl (by first | exact w64 (by omega) (by omega) | exact wu8 (by omega) (by omega) | rfl)) ?_
          refine al_d rfl rfl rfl (by exact opd_move rfl rfl) ?_
          refine al_nil ?_
          -- end of a round
          exact ⟨k + 1, ⟨by omega, hinv⟩, by omega, Ent.e0 ⟨⟨_, rfl, rfl⟩, ⟨_, rfl, rfl⟩, ⟨_, rfl, rfl⟩, ⟨_, rfl, rfl⟩, ⟨_, rfl, rfl⟩, trivial⟩⟩
    · have hge : k = o.refs.length := by have := of_decide_eq_false hc1; omega
      subst hge
      rw [List.drop_length, refErr] at hinv
      refine awp_exit ?_
      refine awp_seq ?_
      refine awp_region ?_
      refine al_d rfl rfl rfl (by exact opd_assign rfl rfl) ?_
      refine al_nil ?_
      refine awp_ret ?_
      -- return
      refine aret1 (H' := H) (.inr rfl) rfl (rval_tmp rfl) (Fin.pops [(963, bx 6 42 ((encObj o).map .pv))] (by simp) hc (by simp [h63])) ⟨by rw [hinv], rfl⟩
def closedB (m : List GObj) : Bool := gMap m && m.all (fun o => decide (refErr m o.kind 0 o.refs = 0))
abbrev cH (m : List GObj) : Heap := [(14, cRow m), (12, kob m)]
theorem of_c (m : List GObj) (hm : okM m) (hcl : closedB m = true) : ACalls Tryz.prog 79 [.agg [.pv (slObjs m)]] [] (fun r H' => r = .ref 14 0 0 0 ∧ H' = cH m) := by
  have hml : (m.map encObj).length = m.length := List.length_map _
  rw [closedB, Bool.and_eq_true, List.all_eq_true] at hcl
  obtain ⟨hg, hall⟩ := hcl
  have hu := (gMap_iff.1 hg).2.1
  have hl := hm.1
  refine ACalls.body Tryz.func79 rfl Tryz.ntmps79 (Nat.le_of_ble_eq_true rfl) ?_
  refine awp_seq ?_
  refine awp_region ?_
  refine al_d rfl rfl rfl (by exact opd_box (id := 1) rfl rfl rfl rfl rfl) ?_
  refine al_d rfl rfl rfl (by exact opd_assign rfl rfl) ?_
  refine al_nil ?_
  refine awp_seq ?_
  refine awp_seq ?_
  refine awp_region ?_
  refine al_d rfl rfl rfl (by exact (by first | exact opd_loadn_ref rfl Tryz.isAgg24 Tryz.sizeOf24 rfl rfl rfl rfl (by simp only [List.drop_succ_cons, List.drop_zero, List.take_succ_cons, List.take_zero, List.take_nil, List.map_cons, List.map_nil, List.set_cons_zero, List.set_cons_succ, List.cons_append, List.nil_append, encTag, encObj, encStr]; rfl) rfl | exact opd_loadn_pad rfl Tryz.isAgg24 Tryz.sizeOf24 rfl (by first | omega | assumption) (by simp only [List.drop_succ_cons, List.drop_zero, List.take_succ_cons, List.take_zero, List.take_nil, List.map_cons, List.map_nil, List.set_cons_zero, List.set_cons_succ, List.cons_append, List.nil_append, encTag, encObj, encStr]; rfl) rfl)) ?_
  refine al_d rfl rfl rfl (by exact opr_call rfl rfl Tryz.call35 rfl (atlasValid_c m _ hm)) ?_
  refine al_d rfl rfl rfl (by exact opd_not rfl rfl) ?_
  refine al_nil ?_
  refine awp_cond rfl (fun hc1 => ?_) (fun hc1 => ?_)
  -- cond 1
  · have h : (!gMap m) = true := hc1
    rw [hg] at h; cases h
  · skip
    refine awp_skip ?_
    refine awp_seq ?_
    refine awp_region ?_
    refine al_d rfl rfl rfl (by exact (by first | exact opd_loadn_ref rfl Tryz.isAgg24 Tryz.sizeOf24 rfl rfl rfl rfl (by simp only [List.drop_succ_cons, List.drop_zero, List.take_succ_cons, List.take_zero, List.take_nil, List.map_cons, List.map_nil, List.set_cons_zero, List.set_cons_succ, List.cons_append, List.nil_append, encTag, encObj, encStr]; rfl) rfl | exact opd_loadn_pad rfl Tryz.isAgg24 Tryz.sizeOf24 rfl (by first | omega | assumption) (by simp only [List.drop_succ_cons, List.drop_zero, List.take_succ_cons, List.take_zero, List.take_nil, List.map_cons, List.map_nil, List.set_cons_zero, List.set_cons_succ, List.cons_append, List.nil_append, encTag, encObj, encStr]; rfl) rfl)) ?_
    refine al_d rfl rfl rfl (by exact opd_makeMap (id := 12) strK rfl rfl) ?_
    refine al_d rfl rfl rfl (by exact x_build rfl bo105 rfl rfl) ?_
    refine al_d rfl rfl rfl (by exact opd_box (id := 14) rfl rfl rfl rfl rfl) ?_
    refine al_d rfl rfl rfl (by exact opd_assign rfl rfl) ?_
    refine al_nil ?_
    refine awp_seq ?_
    refine awp_seq ?_
    refine awp_region ?_
    refine al_d rfl rfl rfl (by exact (by first | exact opd_field_ref rfl fo24_0 rfl rfl rfl rfl | exact opd_field_pad rfl fo24_0 rfl rfl)) ?_
    refine al_d rfl rfl rfl (by exact (by first | exact opd_load1_ref rfl Tryz.isAgg22 rfl rfl rfl rfl rfl | exact opd_load1_pad rfl Tryz.isAgg22 rfl (by first | omega | assumption) rfl)) ?_
    refine al_d rfl rfl rfl (by exact (by first | exact opd_len_sl rfl Tryz.underlying22 rfl | exact opd_len_osl rfl Tryz.underlying22 rfl rfl rfl)) ?_
    refine al_d rfl rfl rfl (by exact opd_move rfl rfl) ?_
    refine al_nil ?_
    refine awp_block ?_
    -- loop
    refine awp_loop (σ := Nat) (fun k => ([(1, .ref 1 0 0 0), (3, .ref 14 0 0 0), (16, .pv (slObjs m)), (17, iv ((m.map encObj).length : Int)), (18, iv (k : Int))], [(14, cRow m), (12, kob (m.take k)), (1, bx 1 24 [.pv (slObjs m)])])) (fun k => k ≤ m.length) (fun k => m.length - k) 0 (by omega) ?_ ?_
    · exact (Ent.wk ⟨⟨_, rfl, rfl⟩, (by first | (simp; done) | (simp; rfl) | exact clo_map _ _ _ | exact kob_clo _ _), ⟨_, rfl, rfl⟩, (by first | (simp; done) | (simp; rfl) | exact clo_map _ _ _ | exact kob_clo _ _), ⟨_, rfl, rfl⟩, (by first | (simp; done) | (simp; rfl) | exact clo_map _ _ _ | exact kob_clo _ _), ⟨_, rfl, rfl⟩, (by first | (simp; done) | (simp; rfl) | exact clo_map _ _ _ | exact kob_clo _ _), ⟨_, rfl, rfl⟩, (by first | (simp; done) | (simp; rfl) | exact clo_map _ _ _ | exact kob_clo _ _), trivial⟩ ⟨⟨_, rfl, rfl⟩, (by first | (simp; done) | (simp; rfl) | exact clo_map _ _ _ | exact kob_clo _ _), ⟨_, rfl, rfl⟩, (by first | (simp; done) | (simp; rfl) | exact clo_map _ _ _ | exact kob_clo _ _), ⟨_, rfl, rfl⟩, (by first | (simp; done) | (simp; rfl) | exact clo_map _ _ _ | exact kob_clo _ _), trivial⟩ trivial)
    · intro k hk
      refine awp_seq ?_
      refine awp_region ?_
      refine al_d rfl rfl rfl (by exact opd_lss rfl rfl rfl) ?_
      refine al_nil ?_
      refine awp_seq ?_
      refine awp_cond rfl (fun hc2 => ?_) (fun hc2 => ?_)
      -- cond 2
      · have hlt : k < m.length := by have := of_decide_eq_true hc2; omega
        obtain ⟨o, ho⟩ := get_of_lt hlt
        have hi := map_get (f := encObj) ho
        refine awp_skip ?_
        refine awp_seq ?_
        refine awp_block ?_
        refine awp_seq ?_
        refine awp_region ?_
        refine al_d rfl rfl rfl (by exact (by first | exact x_index_pad rfl so22 rfl rfl (by omega) (by first | exact Int.toNat_natCast _ | rfl) (by assumption) rfl | exact x_index_osl rfl so22 rfl rfl rfl rfl rfl (by omega) (by first | exact Int.toNat_natCast _ | rfl) (by first | omega | assumption) rfl)) ?_
        refine al_d rfl rfl rfl (by exact (by first | exact opd_loadn_ref rfl Tryz.isAgg42 Tryz.sizeOf42 rfl rfl rfl rfl (by simp only [List.drop_succ_cons, List.drop_zero, List.take_succ_cons, List.take_zero, List.take_nil, List.map_cons, List.map_nil, List.set_cons_zero, List.set_cons_succ, List.cons_append, List.nil_append, encTag, encObj, encStr]; rfl) rfl | exact opd_loadn_pad rfl Tryz.isAgg42 Tryz.sizeOf42 rfl (by first | omega | assumption) (by simp only [List.drop_succ_cons, List.drop_zero, List.take_succ_cons, List.take_zero, List.take_nil, List.map_cons, List.map_nil, List.set_cons_zero, List.set_cons_succ, List.cons_append, List.nil_append, encTag, encObj, encStr]; rfl) rfl)) ?_
        refine al_d rfl rfl rfl (by exact x_alloc (id := 5) rfl zo42 rfl rfl) ?_
        refine al_n rfl rfl (by exact (by first | exact x_store_all rfl Tryz.sizeOf42 rfl rfl rfl rfl rfl rfl rfl rfl | exact x_store rfl Tryz.sizeOf42 rfl rfl rfl rfl rfl rfl rfl (by simp only [List.length_cons, List.length_nil]; omega) (by simp only [List.drop_succ_cons, List.drop_zero, List.take_succ_cons, List.take_zero, List.take_nil, List.map_cons, List.map_nil, List.set_cons_zero, List.set_cons_succ, List.cons_append, List.nil_append, encTag, encObj, encStr]; rfl) (by simp only [List.drop_succ_cons, List.drop_zero, List.take_succ_cons, List.take_zero, List.take_nil, List.map_cons, List.map_nil, List.set_cons_zero, List.set_cons_succ, List.cons_append, List.nil_append, encTag, encObj, encStr]; rfl) | exact x_store rfl Tryz.sizeOf42 rfl rfl rfl rfl rfl rfl rfl (Nat.le_of_ble_eq_true rfl) rfl rfl)) ?_
        refine al_nil ?_
        refine awp_drawc follows ?_
        refine dc_cons (r := ⟨_, some [14], []⟩) (DStep.plain rfl (fun H1 hH => by exact opd_move rfl rfl)) rfl ?_
        refine dc_cons (r := ⟨_, some [14], []⟩) (DStep.plain rfl (fun H1 hH => by exact (by first | exact opd_nilCheck_ref rfl rfl ((hH _ rfl).trans rfl) rfl | exact opd_nilCheck_fn rfl rfl))) rfl ?_
        refine dc_cons (r := ⟨_, some [14], []⟩) (DStep.plain rfl (fun H1 hH => by exact (by first | exact opd_field_ref rfl fo105_1 rfl ((hH _ rfl).trans rfl) rfl rfl | exact opd_field_pad rfl fo105_1 rfl rfl))) rfl ?_
        refine dc_cons (r := ⟨_, some [14], []⟩) (DStep.plain rfl (fun H1 hH => by exact (by first | exact opd_load1_ref rfl Tryz.isAgg103 rfl ((hH _ rfl).trans rfl) rfl rfl rfl | exact opd_load1_pad rfl Tryz.isAgg103 rfl (by first | omega | assumption) rfl))) rfl ?_
        refine dc_cons (r := ⟨_, some [5], []⟩) (DStep.plain rfl (fun H1 hH => by exact (by first | exact opd_field_ref rfl fo42_0 rfl ((hH _ rfl).trans rfl) rfl rfl | exact opd_field_pad rfl fo42_0 rfl rfl))) rfl ?_
        refine dc_cons (r := ⟨_, some [5], []⟩) (DStep.plain rfl (fun H1 hH => by exact (by first | exact opd_load1_ref rfl Tryz.isAgg9 rfl ((hH _ rfl).trans rfl) rfl rfl rfl | exact opd_load1_pad rfl Tryz.isAgg9 rfl (by first | omega | assumption) rfl))) rfl ?_
        refine dc_cons (r := ⟨_, some [5], []⟩) (DStep.plain rfl (fun H1 hH => by exact (by first | exact opd_field_ref rfl fo42_1 rfl ((hH _ rfl).trans rfl) rfl rfl | exact opd_field_pad rfl fo42_1 rfl rfl))) rfl ?_
        refine dc_cons (r := ⟨_, some [5], []⟩) (DStep.plain rfl (fun H1 hH => by exact (by first | exact opd_load1_ref rfl Tryz.isAgg3 rfl ((hH _ rfl).trans rfl) rfl rfl rfl | exact opd_load1_pad rfl Tryz.isAgg3 rfl (by first | omega | assumption) rfl))) rfl ?_
        refine dc_cons (r := ⟨_, some [12], [_]⟩) (DStep.plain rfl (fun H1 hH => by exact x_mapUpdate (κ := strK) (.inl rfl) Tryz.underlying103 Tryz.underlying9 rfl ((hH 12 rfl).trans rfl) rfl rfl rfl rfl rfl (kM_put hu ho))) rfl ?_
        refine dc_nil ⟨by kernel_rfl, ?_⟩
        refine awp_region ?_
        refine al_d rfl rfl rfl (by exact opd_add rfl rfl rfl (by first | exact w64 (by omega) (by omega) | exact wu8 (by omega) (by omega) | rfl)) ?_
        refine al_d rfl rfl rfl (by exact opd_move rfl rfl) ?_
        refine al_nil ?_
        -- end of a round
        exact ⟨k + 1, by omega, by omega, (Ent.wk ⟨⟨_, rfl, rfl⟩, (by first | (simp; done) | (simp; rfl) | exact clo_map _ _ _ | exact kob_clo _ _), ⟨_, rfl, rfl⟩, (by first | (simp; done) | (simp; rfl) | exact clo_map _ _ _ | exact kob_clo _ _), ⟨_, rfl, rfl⟩, (by first | (simp; done) | (simp; rfl) | exact clo_map _ _ _ | exact kob_clo _ _), ⟨_, rfl, rfl⟩, (by first | (simp; done) | (simp; rfl) | exact clo_map _ _ _ | exact kob_clo _ _), ⟨_, rfl, rfl⟩, (by first | (simp; done) | (simp; rfl) | exact clo_map _ _ _ | exact kob_clo _ _), trivial⟩ ⟨⟨_, rfl, rfl⟩, (by first | (simp; done) | (simp; rfl) | exact clo_map _ _ _ | exact kob_clo _ _), ⟨_, rfl, rfl⟩, (by first | (simp; done) | (simp; rfl) | exact clo_map _ _ _ | exact kob_clo _ _), ⟨_, rfl, rfl⟩, (by first | (simp; done) | (simp; rfl) | exact clo_map _ _ _ | exact kob_clo _ _), trivial⟩ trivial)⟩
      · have hge : k = m.length := by have := of_decide_eq_false hc2; omega
        subst hge
        rw [List.take_length]
        refine awp_exit ?_
        refine awp_seq ?_
        refine awp_seq ?_
        refine awp_region ?_
        refine al_d rfl rfl rfl (by exact (by first | exact opd_field_ref rfl fo24_0 rfl rfl rfl rfl | exact opd_field_pad rfl fo24_0 rfl rfl)) ?_
        refine al_d rfl rfl rfl (by exact (by first | exact opd_load1_ref rfl Tryz.isAgg22 rfl rfl rfl rfl rfl | exact opd_load1_pad rfl Tryz.isAgg22 rfl (by first | omega | assumption) rfl)) ?_
        refine al_d rfl rfl rfl (by exact (by first | exact opd_len_sl rfl Tryz.underlying22 rfl | exact opd_len_osl rfl Tryz.underlying22 rfl rfl rfl)) ?_
        refine al_d rfl rfl rfl (by exact opd_move rfl rfl) ?_
        refine al_nil ?_
        refine awp_block ?_
        -- loop
        refine awp_loop (σ := Nat) (fun k => ([(3, .ref 14 0 0 0), (32, .pv (slObjs m)), (33, iv ((m.map encObj).length : Int)), (34, iv (k : Int))], [(14, cRow m), (12, kob m)])) (fun k => k ≤ m.length) (fun k => m.length - k) 0 (by omega) ?_ ?_
        · exact (Ent.wk ⟨⟨_, rfl, rfl⟩, (by first | (simp; done) | (simp; rfl) | exact clo_map _ _ _ | exact kob_clo _ _), ⟨_, rfl, rfl⟩, (by first | (simp; done) | (simp; rfl) | exact clo_map _ _ _ | exact kob_clo _ _), ⟨_, rfl, rfl⟩, (by first | (simp; done) | (simp; rfl) | exact clo_map _ _ _ | exact kob_clo _ _), ⟨_, rfl, rfl⟩, (by first | (simp; done) | (simp; rfl) | exact clo_map _ _ _ | exact kob_clo _ _), trivial⟩ ⟨⟨_, rfl, rfl⟩, (by first | (simp; done) | (simp; rfl) | exact clo_map _ _ _ | exact kob_clo _ _), ⟨_, rfl, rfl⟩, (by first | (simp; done) | (simp; rfl) | exact clo_map _ _ _ | exact kob_clo _ _), trivial⟩ trivial)
        · intro k hk
          refine awp_seq ?_
          refine awp_region ?_
          refine al_d rfl rfl rfl (by exact opd_lss rfl rfl rfl) ?_
          refine al_nil ?_
          refine awp_seq ?_
          refine awp_cond rfl (fun hc3 => ?_) (fun hc3 => ?_)
          -- cond 3
          · have hlt : k < m.length := by have := of_decide_eq_true hc3; omega
            obtain ⟨o, ho⟩ := get_of_lt hlt
            have hi := map_get (f := encObj) ho
            have hoo := hm.2 o (List.mem_of_getElem? ho)
            have hr0 : refErr m o.kind 0 o.refs = 0 := of_decide_eq_true (hall o (List.mem_of_getElem? ho))
            refine awp_skip ?_
            refine awp_seq ?_
            refine awp_block ?_
            refine awp_seq ?_
            refine awp_region ?_
            refine al_d rfl rfl rfl (by exact (by first | exact x_index_pad rfl so22 rfl rfl (by omega) (by first | exact Int.toNat_natCast _ | rfl) (by assumption) rfl | exact x_index_osl rfl so22 rfl rfl rfl rfl rfl (by omega) (by first | exact Int.toNat_natCast _ | rfl) (by first | omega | assumption) rfl)) ?_
            refine al_d rfl rfl rfl (by exact (by first | exact opd_loadn_ref rfl Tryz.isAgg42 Tryz.sizeOf42 rfl rfl rfl rfl (by simp only [List.drop_succ_cons, List.drop_zero, List.take_succ_cons, List.take_zero, List.take_nil, List.map_cons, List.map_nil, List.set_cons_zero, List.set_cons_succ, List.cons_append, List.nil_append, encTag, encObj, encStr]; rfl) rfl | exact opd_loadn_pad rfl Tryz.isAgg42 Tryz.sizeOf42 rfl (by first | omega | assumption) (by simp only [List.drop_succ_cons, List.drop_zero, List.take_succ_cons, List.take_zero, List.take_nil, List.map_cons, List.map_nil, List.set_cons_zero, List.set_cons_succ, List.cons_append, List.nil_append, encTag, encObj, encStr]; rfl) rfl)) ?_
            refine al_d rfl rfl rfl (by exact x_alloc (id := 7) rfl zo42 rfl rfl) ?_
            refine al_n rfl rfl (by exact (by first | exact x_store_all rfl Tryz.sizeOf42 rfl rfl rfl rfl rfl rfl rfl rfl | exact x_store rfl Tryz.sizeOf42 rfl rfl rfl rfl rfl rfl rfl (by simp only [List.length_cons, List.length_nil]; omega) (by simp only [List.drop_succ_cons, List.drop_zero, List.take_succ_cons, List.take_zero, List.take_nil, List.map_cons, List.map_nil, List.set_cons_zero, List.set_cons_succ, List.cons_append, List.nil_append, encTag, encObj, encStr]; rfl) (by simp only [List.drop_succ_cons, List.drop_zero, List.take_succ_cons, List.take_zero, List.take_nil, List.map_cons, List.map_nil, List.set_cons_zero, List.set_cons_succ, List.cons_append, List.nil_append, encTag, encObj, encStr]; rfl) | exact x_store rfl Tryz.sizeOf42 rfl rfl rfl rfl rfl rfl rfl (Nat.le_of_ble_eq_true rfl) rfl rfl)) ?_
            refine al_nil ?_
            refine awp_seq ?_
            refine awp_region ?_
            refine al_d rfl rfl rfl (by exact opd_move rfl rfl) ?_
            refine al_d rfl rfl rfl (by exact (by first | exact opd_loadn_ref rfl Tryz.isAgg42 Tryz.sizeOf42 rfl rfl rfl rfl (by simp only [List.drop_succ_cons, List.drop_zero, List.take_succ_cons, List.take_zero, List.take_nil, List.map_cons, List.map_nil, List.set_cons_zero, List.set_cons_succ, List.cons_append, List.nil_append, encTag, encObj, encStr]; rfl) rfl | exact opd_loadn_pad rfl Tryz.isAgg42 Tryz.sizeOf42 rfl (by first | omega | assumption) (by simp only [List.drop_succ_cons, List.drop_zero, List.take_succ_cons, List.take_zero, List.take_nil, List.map_cons, List.map_nil, List.set_cons_zero, List.set_cons_succ, List.cons_append, List.nil_append, encTag, encObj, encStr]; rfl) rfl)) ?_
            refine al_d rfl rfl rfl (by exact opr_call rfl rfl Tryz.call136 rfl (refs_c m o _ rfl rfl rfl (Closed.ofL ⟨(by first | (simp; done) | (simp; rfl) | exact clo_map _ _ _ | exact kob_clo _ _), (by first | (simp; done) | (simp; rfl) | exact clo_map _ _ _ | exact kob_clo _ _), (by first | (simp; done) | (simp; rfl) | exact clo_map _ _ _ | exact kob_clo _ _), (by first | (simp; done) | (simp; rfl) | exact clo_map _ _ _ | exact kob_clo _ _), trivial⟩) hoo.2.2.1)) ?_
            refine al_d rfl rfl rfl (by exact opd_neq rfl rfl rfl) ?_
            refine al_nil ?_
            refine awp_cond rfl (fun hc4 => ?_) (fun hc4 => ?_)
            -- cond 4
            · rw [hr0] at hc4; cases hc4
            · skip
              refine awp_skip ?_
              refine awp_region ?_
              refine al_d rfl rfl rfl (by exact opd_add rfl rfl rfl (by first | exact w64 (by omega) (by omega) | exact wu8 (by omega) (by omega) | rfl)) ?_
              refine al_d rfl rfl rfl (by exact opd_move rfl rfl) ?_
              refine al_nil ?_
              -- end of a round
              exact ⟨k + 1, by omega, by omega, (Ent.wk ⟨⟨_, rfl, rfl⟩, (by first | (simp; done) | (simp; rfl) | exact clo_map _ _ _ | exact kob_clo _ _), ⟨_, rfl, rfl⟩, (by first | (simp; done) | (simp; rfl) | exact clo_map _ _ _ | exact kob_clo _ _), ⟨_, rfl, rfl⟩, (by first | (simp; done) | (simp; rfl) | exact clo_map _ _ _ | exact kob_clo _ _), ⟨_, rfl, rfl⟩, (by first | (simp; done) | (simp; rfl) | exact clo_map _ _ _ | exact kob_clo _ _), trivial⟩ ⟨⟨_, rfl, rfl⟩, (by first | (simp; done) | (simp; rfl) | exact clo_map _ _ _ | exact kob_clo _ _), ⟨_, rfl, rfl⟩, (by first | (simp; done) | (simp; rfl) | exact clo_map _ _ _ | exact kob_clo _ _), trivial⟩ trivial)⟩
          · skip
            refine awp_exit ?_
            refine awp_seq ?_
            refine awp_region ?_
            refine al_d rfl rfl rfl (by exact opd_move rfl rfl) ?_
            refine al_d rfl rfl rfl (by exact opd_assign rfl rfl) ?_
            refine al_nil ?_
            refine awp_ret ?_
            -- return
            refine aret1 (H' := cH m) (.inr rfl) rfl (rval_tmp rfl) (Fin.wk (by first | (simp; done) | (simp; rfl)) ⟨⟨_, rfl, rfl⟩, (by first | (simp; done) | (simp; rfl) | exact clo_map _ _ _ | exact kob_clo _ _), ⟨_, rfl, rfl⟩, (by first | (simp; done) | (simp; rfl) | exact clo_map _ _ _ | exact kob_clo _ _), trivial⟩ trivial) ⟨rfl, rfl⟩
theorem ofN_c (m : List GObj) (hm : okM m) (hcl : closedB m = false) : ACalls Tryz.prog 79 [.agg [.pv (slObjs m)]] [] (fun r H' => r = .pv .nilp ∧ H' = []) := by
  have hml : (m.map encObj).length = m.length := List.length_map _
  have hl := hm.1
  refine ACalls.body Tryz.func79 rfl Tryz.ntmps79 (Nat.le_of_ble_eq_true rfl) ?_
  refine awp_seq ?_
  refine awp_region ?_
  refine al_d rfl rfl rfl (by exact opd_box (id := 1) rfl rfl rfl rfl rfl) ?_
  refine al_d rfl rfl rfl (by exact opd_assign rfl rfl) ?_
  refine al_nil ?_
  refine awp_seq ?_
  refine awp_seq ?_
  refine awp_region ?_
  refine al_d rfl rfl rfl (by exact (by first | exact opd_loadn_ref rfl Tryz.isAgg24 Tryz.sizeOf24 rfl rfl rfl rfl (by simp only [List.drop_succ_cons, List.drop_zero, List.take_succ_cons, List.take_zero, List.take_nil, List.map_cons, List.map_nil, List.set_cons_zero, List.set_cons_succ, List.cons_append, List.nil_append, encTag, encObj, encStr]; rfl) rfl | exact opd_loadn_pad rfl Tryz.isAgg24 Tryz.sizeOf24 rfl (by first | omega | assumption) (by simp only [List.drop_succ_cons, List.drop_zero, List.take_succ_cons, List.take_zero, List.take_nil, List.map_cons, List.map_nil, List.set_cons_zero, List.set_cons_succ, List.cons_append, List.nil_append, encTag, encObj, encStr]; rfl) rfl)) ?_
  refine al_d rfl rfl rfl (by exact opr_call rfl rfl Tryz.call35 rfl (atlasValid_c m _ hm)) ?_
  refine al_d rfl rfl rfl (by exact opd_not rfl rfl) ?_
  refine al_nil ?_
  refine awp_cond rfl (fun hc1 => ?_) (fun hc1 => ?_)
  -- cond 1
  · skip
    refine awp_seq ?_
    refine awp_region ?_
    refine al_d rfl rfl rfl (by exact opd_assign rfl rfl) ?_
    refine al_nil ?_
    refine awp_ret ?_
    -- return
    refine aret1 (H' := []) (.inr rfl) rfl (rval_tmp rfl) (Fin.wk (by first | (simp; done) | (simp; rfl)) trivial trivial) ⟨rfl, rfl⟩
  · have hg : gMap m = true := by
      have h : (!gMap m) = false := hc1
      simpa using h
    have hu := (gMap_iff.1 hg).2.1
    refine awp_skip ?_
    refine awp_seq ?_
    refine awp_region ?_
    refine al_d rfl rfl rfl (by exact (by first | exact opd_loadn_ref rfl Tryz.isAgg24 Tryz.sizeOf24 rfl rfl rfl rfl (by simp only [List.drop_succ_cons, List.drop_zero, List.take_succ_cons, List.take_zero, List.take_nil, List.map_cons, List.map_nil, List.set_cons_zero, List.set_cons_succ, List.cons_append, List.nil_append, encTag, encObj, encStr]; rfl) rfl | exact opd_loadn_pad rfl Tryz.isAgg24 Tryz.sizeOf24 rfl (by first | omega | assumption) (by simp only [List.drop_succ_cons, List.drop_zero, List.take_succ_cons, List.take_zero, List.take_nil, List.map_cons, List.map_nil, List.set_cons_zero, List.set_cons_succ, List.cons_append, List.nil_append, encTag, encObj, encStr]; rfl) rfl)) ?_
    refine al_d rfl rfl rfl (by exact opd_makeMap (id := 12) strK rfl rfl) ?_
    refine al_d rfl rfl rfl (by exact x_build rfl bo105 rfl rfl) ?_
    refine al_d rfl rfl rfl (by exact opd_box (id := 14) rfl rfl rfl rfl rfl) ?_
    refine al_d rfl rfl rfl (by exact opd_assign rfl rfl) ?_
    refine al_nil ?_
    refine awp_seq ?_
    refine awp_seq ?_
    refine awp_region ?_
    refine al_d rfl rfl rfl (by exact (by first | exact opd_field_ref rfl fo24_0 rfl rfl rfl rfl | exact opd_field_pad rfl fo24_0 rfl rfl)) ?_
    refine al_d rfl rfl rfl (by exact (by first | exact opd_load1_ref rfl Tryz.isAgg22 rfl rfl rfl rfl rfl | exact opd_load1_pad rfl Tryz.isAgg22 rfl (by first | omega | assumption) rfl)) ?_
    refine al_d rfl rfl rfl (by exact (by first | exact opd_len_sl rfl Tryz.underlying22 rfl | exact opd_len_osl rfl Tryz.underlying22 rfl rfl rfl)) ?_
    refine al_d rfl rfl rfl (by exact opd_move rfl rfl) ?_
    refine al_nil ?_
    refine awp_block ?_
    -- loop
    refine awp_loop (σ := Nat) (fun k => ([(1, .ref 1 0 0 0), (3, .ref 14 0 0 0), (16, .pv (slObjs m)), (17, iv ((m.map encObj).length : Int)), (18, iv (k : Int))], [(14, cRow m), (12, kob (m.take k)), (1, bx 1 24 [.pv (slObjs m)])])) (fun k => k ≤ m.length) (fun k => m.length - k) 0 (by omega) ?_ ?_
    · exact (Ent.wk ⟨⟨_, rfl, rfl⟩, (by first | (simp; done) | (simp; rfl) | exact clo_map _ _ _ | exact kob_clo _ _), ⟨_, rfl, rfl⟩, (by first | (simp; done) | (simp; rfl) | exact clo_map _ _ _ | exact kob_clo _ _), ⟨_, rfl, rfl⟩, (by first | (simp; done) | (simp; rfl) | exact clo_map _ _ _ | exact kob_clo _ _), ⟨_, rfl, rfl⟩, (by first | (simp; done) | (simp; rfl) | exact clo_map _ _ _ | exact kob_clo _ _), ⟨_, rfl, rfl⟩, (by first | (simp; done) | (simp; rfl) | exact clo_map _ _ _ | exact kob_clo _ _), trivial⟩ ⟨⟨_, rfl, rfl⟩, (by first | (simp; done) | (simp; rfl) | exact clo_map _ _ _ | exact kob_clo _ _), ⟨_, rfl, rfl⟩, (by first | (simp; done) | (simp; rfl) | exact clo_map _ _ _ | exact kob_clo _ _), ⟨_, rfl, rfl⟩, (by first | (simp; done) | (simp; rfl) | exact clo_map _ _ _ | exact kob_clo _ _), trivial⟩ trivial)
    · intro k hk
      refine awp_seq ?_
      refine awp_region ?_
      refine al_d rfl rfl rfl (by exact opd_lss rfl rfl rfl) ?_
      refine al_nil ?_
      refine awp_seq ?_
      refine awp_cond rfl (fun hc2 => ?_) (fun hc2 => ?_)
      -- cond 2
      · have hlt : k < m.length := by have := of_decide_eq_true hc2; omega
        obtain ⟨o, ho⟩ := get_of_lt hlt
        have hi := map_get (f := encObj) ho
        refine awp_skip ?_
        refine awp_seq ?_
        refine awp_block ?_
        refine awp_seq ?_
        refine awp_region ?_
        refine al_d rfl rfl rfl (by exact (by first | exact x_index_pad rfl so22 rfl rfl (by omega) (by first | exact Int.toNat_natCast _ | rfl) (by assumption) rfl | exact x_index_osl rfl so22 rfl rfl rfl rfl rfl (by omega) (by first | exact Int.toNat_natCast _ | rfl) (by first | omega | assumption) rfl)) ?_
        refine al_d rfl rfl rfl (by exact (by first | exact opd_loadn_ref rfl Tryz.isAgg42 Tryz.sizeOf42 rfl rfl rfl rfl (by simp only [List.drop_succ_cons, List.drop_zero, List.take_succ_cons, List.take_zero, List.take_nil, List.map_cons, List.map_nil, List.set_cons_zero, List.set_cons_succ, List.cons_append, List.nil_append, encTag, encObj, encStr]; rfl) rfl | exact opd_loadn_pad rfl Tryz.isAgg42 Tryz.sizeOf42 rfl (by first | omega | assumption) (by simp only [List.drop_succ_cons, List.drop_zero, List.take_succ_cons, List.take_zero, List.take_nil, List.map_cons, List.map_nil, List.set_cons_zero, List.set_cons_succ, List.cons_append, List.nil_append, encTag, encObj, encStr]; rfl) rfl)) ?_
        refine al_d rfl rfl rfl (by exact x_alloc (id := 5) rfl zo42 rfl rfl) ?_
        refine al_n rfl rfl (by exact (by first | exact x_store_all rfl Tryz.sizeOf42 rfl rfl rfl rfl rfl rfl rfl rfl | exact x_store rfl Tryz.sizeOf42 rfl rfl rfl rfl rfl rfl rfl (by simp only [List.length_cons, List.length_nil]; omega) (by simp only [List.drop_succ_cons, List.drop_zero, List.take_succ_cons, List.take_zero, List.take_nil, List.map_cons, List.map_nil, List.set_cons_zero, List.set_cons_succ, List.cons_append, List.nil_append, encTag, encObj, encStr]; rfl) (by simp only [List.drop_succ_cons, List.drop_zero, List.take_succ_cons, List.take_zero, List.take_nil, List.map_cons, List.map_nil, List.set_cons_zero, List.set_cons_succ, List.cons_append, List.nil_append, encTag, encObj, encStr]; rfl) | exact x_store rfl Tryz.sizeOf42 rfl rfl rfl rfl rfl rfl rfl (Nat.le_of_ble_eq_true rfl) rfl rfl)) ?_
        refine al_nil ?_
        refine awp_drawc follows ?_
        refine dc_cons (r := ⟨_, some [14], []⟩) (DStep.plain rfl (fun H1 hH => by exact opd_move rfl rfl)) rfl ?_
        refine dc_cons (r := ⟨_, some [14], []⟩) (DStep.plain rfl (fun H1 hH => by exact (by first | exact opd_nilCheck_ref rfl rfl ((hH _ rfl).trans rfl) rfl | exact opd_nilCheck_fn rfl rfl))) rfl ?_
        refine dc_cons (r := ⟨_, some [14], []⟩) (DStep.plain rfl (fun H1 hH => by exact (by first | exact opd_field_ref rfl fo105_1 rfl ((hH _ rfl).trans rfl) rfl rfl | exact opd_field_pad rfl fo105_1 rfl rfl))) rfl ?_
        refine dc_cons (r := ⟨_, some [14], []⟩) (DStep.plain rfl (fun H1 hH => by exact (by first | exact opd_load1_ref rfl Tryz.isAgg103 rfl ((hH _ rfl).trans rfl) rfl rfl rfl | exact opd_load1_pad rfl Tryz.isAgg103 rfl (by first | omega | assumption) rfl))) rfl ?_
        refine dc_cons (r := ⟨_, some [5], []⟩) (DStep.plain rfl (fun H1 hH => by exact (by first | exact opd_field_ref rfl fo42_0 rfl ((hH _ rfl).trans rfl) rfl rfl | exact opd_field_pad rfl fo42_0 rfl rfl))) rfl ?_
        refine dc_cons (r := ⟨_, some [5], []⟩) (DStep.plain rfl (fun H1 hH => by exact (by first | exact opd_load1_ref rfl Tryz.isAgg9 rfl ((hH _ rfl).trans rfl) rfl rfl rfl | exact opd_load1_pad rfl Tryz.isAgg9 rfl (by first | omega | assumption) rfl))) rfl ?_
        refine dc_cons (r := ⟨_, some [5], []⟩) (DStep.plain rfl (fun H1 hH => by exact (by first | exact opd_field_ref rfl fo42_1 rfl ((hH _ rfl).trans rfl) rfl rfl | exact opd_field_pad rfl fo42_1 rfl rfl))) rfl ?_
        refine dc_cons (r := ⟨_, some [5], []⟩) (DStep.plain rfl (fun H1 hH => by exact (by first | exact opd_load1_ref rfl Tryz.isAgg3 rfl ((hH _ rfl).trans rfl) rfl rfl rfl | exact opd_load1_pad rfl Tryz.isAgg3 rfl (by first | omega | assumption) rfl))) rfl ?_
        refine dc_cons (r := ⟨_, some [12], [_]⟩) (DStep.plain rfl (fun H1 hH => by exact x_mapUpdate (κ := strK) (.inl rfl) Tryz.underlying103 Tryz.underlying9 rfl ((hH 12 rfl).trans rfl) rfl rfl rfl rfl rfl (kM_put hu ho))) rfl ?_
        refine dc_nil ⟨by kernel_rfl, ?_⟩
        refine awp_region ?_
        refine al_d rfl rfl rfl (by exact opd_add rfl rfl rfl (by first | exact w64 (by omega) (by omega) | exact wu8 (by omega) (by omega) | rfl)) ?_
        refine al_d rfl rfl rfl (by exact opd_move rfl rfl) ?_
        refine al_nil ?_
        -- end of a round
        exact ⟨k + 1, by omega, by omega, (Ent.wk ⟨⟨_, rfl, rfl⟩, (by first | (simp; done) | (simp; rfl) | exact clo_map _ _ _ | exact kob_clo _ _), ⟨_, rfl, rfl⟩, (by first | (simp; done) | (simp; rfl) | exact clo_map _ _ _ | exact kob_clo _ _), ⟨_, rfl, rfl⟩, (by first | (simp; done) | (simp; rfl) | exact clo_map _ _ _ | exact kob_clo _ _), ⟨_, rfl, rfl⟩, (by first | (simp; done) | (simp; rfl) | exact clo_map _ _ _ | exact kob_clo _ _), ⟨_, rfl, rfl⟩, (by first | (simp; done) | (simp; rfl) | exact clo_map _ _ _ | exact kob_clo _ _), trivial⟩ ⟨⟨_, rfl, rfl⟩, (by first | (simp; done) | (simp; rfl) | exact clo_map _ _ _ | exact kob_clo _ _), ⟨_, rfl, rfl⟩, (by first | (simp; done) | (simp; rfl) | exact clo_map _ _ _ | exact kob_clo _ _), ⟨_, rfl, rfl⟩, (by first | (simp; done) | (simp; rfl) | exact clo_map _ _ _ | exact kob_clo _ _), trivial⟩ trivial)⟩
      · have hge : k = m.length := by have := of_decide_eq_false hc2; omega
        subst hge
        rw [List.take_length]
        refine awp_exit ?_
        refine awp_seq ?_
        refine awp_seq ?_
        refine awp_region ?_
        refine al_d rfl rfl rfl (by exact (by first | exact opd_field_ref rfl fo24_0 rfl rfl rfl rfl | exact opd_field_pad rfl fo24_0 rfl rfl)) ?_
        refine al_d rfl rfl rfl (by exact (by first | exact opd_load1_ref rfl Tryz.isAgg22 rfl rfl rfl rfl rfl | exact opd_load1_pad rfl Tryz.isAgg22 rfl (by first | omega | assumption) rfl)) ?_
        refine al_d rfl rfl rfl (by exact (by first | exact opd_len_sl rfl Tryz.underlying22 rfl | exact opd_len_osl rfl Tryz.underlying22 rfl rfl rfl)) ?_
        refine al_d rfl rfl rfl (by exact opd_move rfl rfl) ?_
        refine al_nil ?_
        refine awp_block ?_
        -- loop
        refine awp_loop (σ := Nat) (fun k => ([(3, .ref 14 0 0 0), (32, .pv (slObjs m)), (33, iv ((m.map encObj).length : Int)), (34, iv (k : Int))], [(14, cRow m), (12, kob m)])) (fun k => k ≤ m.length ∧ ∀ j, j < k → ∀ b, m[j]? = some b → (!decide (refErr m b.kind 0 b.refs = 0)) = false) (fun k => m.length - k) 0 ⟨by omega, by omega⟩ ?_ ?_
        · exact (Ent.wk ⟨⟨_, rfl, rfl⟩, (by first | (simp; done) | (simp; rfl) | exact clo_map _ _ _ | exact kob_clo _ _), ⟨_, rfl, rfl⟩, (by first | (simp; done) | (simp; rfl) | exact clo_map _ _ _ | exact kob_clo _ _), ⟨_, rfl, rfl⟩, (by first | (simp; done) | (simp; rfl) | exact clo_map _ _ _ | exact kob_clo _ _), ⟨_, rfl, rfl⟩, (by first | (simp; done) | (simp; rfl) | exact clo_map _ _ _ | exact kob_clo _ _), trivial⟩ ⟨⟨_, rfl, rfl⟩, (by first | (simp; done) | (simp; rfl) | exact clo_map _ _ _ | exact kob_clo _ _), ⟨_, rfl, rfl⟩, (by first | (simp; done) | (simp; rfl) | exact clo_map _ _ _ | exact kob_clo _ _), trivial⟩ trivial)
        · rintro k ⟨hk, hno⟩
          refine awp_seq ?_
          refine awp_region ?_
          refine al_d rfl rfl rfl (by exact opd_lss rfl rfl rfl) ?_
          refine al_nil ?_
          refine awp_seq ?_
          refine awp_cond rfl (fun hc3 => ?_) (fun hc3 => ?_)
          -- cond 3
          · have hlt : k < m.length := by have := of_decide_eq_true hc3; omega
            obtain ⟨o, ho⟩ := get_of_lt hlt
            have hi := map_get (f := encObj) ho
            have hoo := hm.2 o (List.mem_of_getElem? ho)
            refine awp_skip ?_
            refine awp_seq ?_
            refine awp_block ?_
            refine awp_seq ?_
            refine awp_region ?_
            refine al_d rfl rfl rfl (by exact (by first | exact x_index_pad rfl so22 rfl rfl (by omega) (by first | exact Int.toNat_natCast _ | rfl) (by assumption) rfl | exact x_index_osl rfl so22 rfl rfl rfl rfl rfl (by omega) (by first | exact Int.toNat_natCast _ | rfl) (by first | omega | assumption) rfl)) ?_
            refine al_d rfl rfl rfl (by exact (by first | exact opd_loadn_ref rfl Tryz.isAgg42 Tryz.sizeOf42 rfl rfl rfl rfl (by simp only [List.drop_succ_cons, List.drop_zero, List.take_succ_cons, List.take_zero, List.take_nil, List.map_cons, List.map_nil, List.set_cons_zero, List.set_cons_succ, List.cons_append, List.nil_append, encTag, encObj, encStr]; rfl) rfl | exact opd_loadn_pad rfl Tryz.isAgg42 Tryz.sizeOf42 rfl (by first | omega | assumption) (by simp only [List.drop_succ_cons, List.drop_zero, List.take_succ_cons, List.take_zero, List.take_nil, List.map_cons, List.map_nil, List.set_cons_zero, List.set_cons_succ, List.cons_append, List.nil_append, encTag, encObj, encStr]; rfl) rfl)) ?_
            refine al_d rfl rfl rfl (by exact x_alloc (id := 7) rfl zo42 rfl rfl) ?_
            refine al_n rfl rfl (by exact (by first | exact x_store_all rfl Tryz.sizeOf42 rfl rfl rfl rfl rfl rfl rfl rfl | exact x_store rfl Tryz.sizeOf42 rfl rfl rfl rfl rfl rfl rfl (by simp only [List.length_cons, List.length_nil]; omega) (by simp only [List.drop_succ_cons, List.drop_zero, List.take_succ_cons, List.take_zero, List.take_nil, List.map_cons, List.map_nil, List.set_cons_zero, List.set_cons_succ, List.cons_append, List.nil_append, encTag, encObj, encStr]; rfl) (by simp only [List.drop_succ_cons, List.drop_zero, List.take_succ_cons, List.take_zero, List.take_nil, List.map_cons, List.map_nil, List.set_cons_zero, List.set_cons_succ, List.cons_append, List.nil_append, encTag, encObj, encStr]; rfl) | exact x_store rfl Tryz.sizeOf42 rfl rfl rfl rfl rfl rfl rfl (Nat.le_of_ble_eq_true rfl) rfl rfl)) ?_
            refine al_nil ?_
            refine awp_seq ?_
            refine awp_region ?_
            refine al_d rfl rfl rfl (by exact opd_move rfl rfl) ?_
            refine al_d rfl rfl rfl (by exact (by first | exact opd_loadn_ref rfl Tryz.isAgg42 Tryz.sizeOf42 rfl rfl rfl rfl (by simp only [List.drop_succ_cons, List.drop_zero, List.take_succ_cons, List.take_zero, List.take_nil, List.map_cons, List.map_nil, List.set_cons_zero, List.set_cons_succ, List.cons_append, List.nil_append, encTag, encObj, encStr]; rfl) rfl | exact opd_loadn_pad rfl Tryz.isAgg42 Tryz.sizeOf42 rfl (by first | omega | assumption) (by simp only [List.drop_succ_cons, List.drop_zero, List.take_succ_cons, List.take_zero, List.take_nil, List.map_cons, List.map_nil, List.set_cons_zero, List.set_cons_succ, List.cons_append, List.nil_append, encTag, encObj, encStr]; rfl) rfl)) ?_
            refine al_d rfl rfl rfl (by exact opr_call rfl rfl Tryz.call136 rfl (refs_c m o _ rfl rfl rfl (Closed.ofL ⟨(by first | (simp; done) | (simp; rfl) | exact clo_map _ _ _ | exact kob_clo _ _), (by first | (simp; done) | (simp; rfl) | exact clo_map _ _ _ | exact kob_clo _ _), (by first | (simp; done) | (simp; rfl) | exact clo_map _ _ _ | exact kob_clo _ _), (by first | (simp; done) | (simp; rfl) | exact clo_map _ _ _ | exact kob_clo _ _), trivial⟩) hoo.2.2.1)) ?_
            refine al_d rfl rfl rfl (by exact opd_neq rfl rfl rfl) ?_
            refine al_nil ?_
            refine awp_cond rfl (fun hc4 => ?_) (fun hc4 => ?_)
            -- cond 4
            · skip
              refine awp_seq ?_
              refine awp_region ?_
              refine al_d rfl rfl rfl (by exact opd_assign rfl rfl) ?_
              refine al_nil ?_
              refine awp_ret ?_
              -- return
              refine aret1 (H' := []) (.inr rfl) rfl (rval_tmp rfl) (Fin.wk (by first | (simp; done) | (simp; rfl)) trivial trivial) ⟨rfl, rfl⟩
            · skip
              refine awp_skip ?_
              refine awp_region ?_
              refine al_d rfl rfl rfl (by exact opd_add rfl rfl rfl (by first | exact w64 (by omega) (by omega) | exact wu8 (by omega) (by omega) | rfl)) ?_
              refine al_d rfl rfl rfl (by exact opd_move rfl rfl) ?_
              refine al_nil ?_
              -- end of a round
              exact ⟨k + 1, ⟨by omega, pre_succ hno ho hc4⟩, by omega, (Ent.wk ⟨⟨_, rfl, rfl⟩, (by first | (simp; done) | (simp; rfl) | exact clo_map _ _ _ | exact kob_clo _ _), ⟨_, rfl, rfl⟩, (by first | (simp; done) | (simp; rfl) | exact clo_map _ _ _ | exact kob_clo _ _), ⟨_, rfl, rfl⟩, (by first | (simp; done) | (simp; rfl) | exact clo_map _ _ _ | exact kob_clo _ _), ⟨_, rfl, rfl⟩, (by first | (simp; done) | (simp; rfl) | exact clo_map _ _ _ | exact kob_clo _ _), trivial⟩ ⟨⟨_, rfl, rfl⟩, (by first | (simp; done) | (simp; rfl) | exact clo_map _ _ _ | exact kob_clo _ _), ⟨_, rfl, rfl⟩, (by first | (simp; done) | (simp; rfl) | exact clo_map _ _ _ | exact kob_clo _ _), trivial⟩ trivial)⟩
          · have hge : k = m.length := by have := of_decide_eq_false hc3; omega
            subst hge
            exfalso
            have : closedB m = true := by
              rw [closedB, hg, Bool.true_and, List.all_eq_true]
              intro o ho
              obtain ⟨j, hj⟩ := List.mem_iff_getElem?.1 ho
              have := hno j (List.getElem?_eq_some_iff.1 hj).1 o hj
              simpa using this
            rw [this] at hcl
            cases hcl
theorem ofF_c (m : List GObj) (H : Heap) (hm : okM m) (hcl : closedB m = true) (h14 : H.get 14 = none) (h12 : H.get 12 = none) : ACalls Tryz.prog 79 [.agg [.pv (slObjs m)]] H (fun r H' => r = .ref 14 0 0 0 ∧ H' = cH m ++ H) :=
  ACalls.frame (of_c m hm hcl) (fun _ _ h => by cases h) (fun _ _ h => by cases h) (by simp) (fun id hi => by
    right
    have : id = 14 ∨ id = 12 := by
      simp only [Heap.get] at hi
      cases e1 : Nat.beq 14 id with
      | true => exact .inl (Nat.eq_of_beq_eq_true e1).symm
      | false =>
        cases e2 : Nat.beq 12 id with
        | true => exact .inr (Nat.eq_of_beq_eq_true e2).symm
        | false => rw [e1, e2] at hi; cases hi
    rcases this with rfl | rfl
    · exact h14
    · exact h12)
theorem allNil_c (m : List GObj) (H : Heap) (hm : okM m) : ACalls Tryz.prog 40 [.agg [.pv (slObjs m)], lv []] H (fun r H' => r = .tup [.agg [.pv (slObjs (if closedB m then m else []))], iv (-1), iv (if closedB m then 0 else 1)] ∧ H' = H) := by
  refine ACalls.pure ?_ (by simp) H
  cases hcl : closedB m with
  | true =>
    simp only [if_true]
    refine ACalls.body Tryz.func40 rfl Tryz.ntmps40 (Nat.le_of_ble_eq_true rfl) ?_
    refine awp_seq ?_
    refine awp_region ?_
    refine al_d rfl rfl rfl (by exact opd_box (id := 2) rfl rfl rfl rfl rfl) ?_
    refine al_d rfl rfl rfl (by exact x_alloc (id := 4) rfl zo24 rfl rfl) ?_
    refine al_d rfl rfl rfl (by exact opd_assign rfl rfl) ?_
    refine al_d rfl rfl rfl (by exact opd_assign rfl rfl) ?_
    refine al_nil ?_
    refine awp_seq ?_
    refine awp_region ?_
    refine al_d rfl rfl rfl (by exact (by first | exact opd_loadn_ref rfl Tryz.isAgg24 Tryz.sizeOf24 rfl rfl rfl rfl (by simp only [List.drop_succ_cons, List.drop_zero, List.take_succ_cons, List.take_zero, List.take_nil, List.map_cons, List.map_nil, List.set_cons_zero, List.set_cons_succ, List.cons_append, List.nil_append, encTag, encObj, encStr]; rfl) rfl | exact opd_loadn_pad rfl Tryz.isAgg24 Tryz.sizeOf24 rfl (by first | omega | assumption) (by simp only [List.drop_succ_cons, List.drop_zero, List.take_succ_cons, List.take_zero, List.take_nil, List.map_cons, List.map_nil, List.set_cons_zero, List.set_cons_succ, List.cons_append, List.nil_append, encTag, encObj, encStr]; rfl) rfl)) ?_
    refine al_d rfl rfl rfl (by exact opr_call rfl rfl Tryz.call79 rfl (ofF_c m _ hm hcl rfl rfl)) ?_
    refine al_d rfl rfl rfl (by exact opd_assign rfl rfl) ?_
    refine al_nil ?_
    refine awp_seq ?_
    refine awp_seq ?_
    refine awp_region ?_
    refine al_d rfl rfl rfl (by exact opd_move rfl rfl) ?_
    refine al_d rfl rfl rfl (by exact (by first | exact opd_peq_ref rfl Tryz.underlying97 rfl rfl rfl rfl | exact opd_peq_nil rfl Tryz.underlying97 rfl rfl)) ?_
    refine al_nil ?_
    refine awp_cond rfl (fun hc1 => ?_) (fun hc1 => ?_)
    -- cond 1
    · cases hc1
    · skip
      refine awp_skip ?_
      refine awp_seq ?_
      refine awp_seq ?_
      refine awp_region ?_
      refine al_d rfl rfl rfl (by exact opd_move rfl rfl) ?_
      refine al_d rfl rfl rfl (by exact (by first | exact opd_len_sl rfl Tryz.underlying25 rfl | exact opd_len_osl rfl Tryz.underlying25 rfl rfl rfl)) ?_
      refine al_d rfl rfl rfl (by exact opd_move rfl rfl) ?_
      refine al_nil ?_
      refine awp_block ?_
      -- loop
      refine awp_loop (σ := Unit) (fun _ => ([(4, .ref 4 0 0 0), (7, .ref 14 0 0 0), (18, iv 0), (19, iv 0)], [(14, cRow m), (12, kob m), (4, bx 1 24 [lv []])])) (fun _ => True) (fun _ => 0) () trivial ?_ ?_
      · exact (Ent.wk ⟨⟨_, rfl, rfl⟩, (by first | (simp; done) | (simp; rfl) | exact clo_map _ _ _ | exact kob_clo _ _), ⟨_, rfl, rfl⟩, (by first | (simp; done) | (simp; rfl) | exact clo_map _ _ _ | exact kob_clo _ _), ⟨_, rfl, rfl⟩, (by first | (simp; done) | (simp; rfl) | exact clo_map _ _ _ | exact kob_clo _ _), ⟨_, rfl, rfl⟩, (by first | (simp; done) | (simp; rfl) | exact clo_map _ _ _ | exact kob_clo _ _), trivial⟩ ⟨⟨_, rfl, rfl⟩, (by first | (simp; done) | (simp; rfl) | exact clo_map _ _ _ | exact kob_clo _ _), ⟨_, rfl, rfl⟩, (by first | (simp; done) | (simp; rfl) | exact clo_map _ _ _ | exact kob_clo _ _), ⟨_, rfl, rfl⟩, (by first | (simp; done) | (simp; rfl) | exact clo_map _ _ _ | exact kob_clo _ _), trivial⟩ trivial)
      · intro _ _
        refine awp_seq ?_
        refine awp_region ?_
        refine al_d rfl rfl rfl (by exact opd_lss rfl rfl rfl) ?_
        refine al_nil ?_
        refine awp_seq ?_
        refine awp_cond rfl (fun hc2 => ?_) (fun hc2 => ?_)
        -- cond 2
        · cases hc2
        · skip
          refine awp_exit ?_
          refine awp_seq ?_
          refine awp_region ?_
          refine al_d rfl rfl rfl (by exact opd_move rfl rfl) ?_
          refine al_d rfl rfl rfl (by exact (by first | exact opd_nilCheck_ref rfl rfl rfl rfl | exact opd_nilCheck_fn rfl rfl)) ?_
          refine al_d rfl rfl rfl (by exact (by first | exact opd_field_ref rfl fo105_0 rfl rfl rfl rfl | exact opd_field_pad rfl fo105_0 rfl rfl)) ?_
          refine al_d rfl rfl rfl (by exact (by first | exact opd_loadn_ref rfl Tryz.isAgg24 Tryz.sizeOf24 rfl rfl rfl rfl rfl rfl | exact opd_loadn_pad rfl Tryz.isAgg24 Tryz.sizeOf24 rfl (by first | omega | assumption) rfl rfl)) ?_
          refine al_n rfl rfl (by exact (by first | exact x_store_all rfl Tryz.sizeOf24 rfl rfl rfl rfl rfl rfl rfl rfl | exact x_store1 rfl Tryz.sizeOf24 rfl rfl rfl rfl rfl rfl (by simp only [List.length_cons, List.length_nil]; omega) (by simp only [List.drop_succ_cons, List.drop_zero, List.take_succ_cons, List.take_zero, List.take_nil, List.map_cons, List.map_nil, List.set_cons_zero, List.set_cons_succ, List.cons_append, List.nil_append, encTag, encObj, encStr]; rfl) (by simp only [List.drop_succ_cons, List.drop_zero, List.take_succ_cons, List.take_zero, List.take_nil, List.map_cons, List.map_nil, List.set_cons_zero, List.set_cons_succ, List.cons_append, List.nil_append, encTag, encObj, encStr]; rfl) | exact x_store1 rfl Tryz.sizeOf24 rfl rfl rfl rfl rfl rfl (Nat.le_of_ble_eq_true rfl) rfl rfl)) ?_
          refine al_d rfl rfl rfl (by exact opd_assign rfl rfl) ?_
          refine al_d rfl rfl rfl (by exact opd_assign rfl rfl) ?_
          refine al_nil ?_
          refine awp_ret ?_
          -- return
          refine aret3 (H' := []) (by first | exact .inr rfl | exact .inl rfl) rfl (rval_cell rfl Tryz.isAgg24 Tryz.sizeOf24 rfl rfl rfl rfl rfl) (rval_tmp rfl) (rval_tmp rfl) (Fin.wk (r := .tup [.agg [.pv (slObjs m)], iv (-1), iv 0]) (by simp) trivial trivial) ?_
          exact ⟨rfl, rfl⟩
  | false =>
    simp only [Bool.false_eq_true, if_false]
    have hof := fun H => ACalls.pure (ofN_c m hm hcl) (by simp) H
    refine ACalls.body Tryz.func40 rfl Tryz.ntmps40 (Nat.le_of_ble_eq_true rfl) ?_
    refine awp_seq ?_
    refine awp_region ?_
    refine al_d rfl rfl rfl (by exact opd_box (id := 2) rfl rfl rfl rfl rfl) ?_
    refine al_d rfl rfl rfl (by exact x_alloc (id := 4) rfl zo24 rfl rfl) ?_
    refine al_d rfl rfl rfl (by exact opd_assign rfl rfl) ?_
    refine al_d rfl rfl rfl (by exact opd_assign rfl rfl) ?_
    refine al_nil ?_
    refine awp_seq ?_
    refine awp_region ?_
    refine al_d rfl rfl rfl (by exact (by first | exact opd_loadn_ref rfl Tryz.isAgg24 Tryz.sizeOf24 rfl rfl rfl rfl (by simp only [List.drop_succ_cons, List.drop_zero, List.take_succ_cons, List.take_zero, List.take_nil, List.map_cons, List.map_nil, List.set_cons_zero, List.set_cons_succ, List.cons_append, List.nil_append, encTag, encObj, encStr]; rfl) rfl | exact opd_loadn_pad rfl Tryz.isAgg24 Tryz.sizeOf24 rfl (by first | omega | assumption) (by simp only [List.drop_succ_cons, List.drop_zero, List.take_succ_cons, List.take_zero, List.take_nil, List.map_cons, List.map_nil, List.set_cons_zero, List.set_cons_succ, List.cons_append, List.nil_append, encTag, encObj, encStr]; rfl) rfl)) ?_
    refine al_d rfl rfl rfl (by exact opr_call rfl rfl Tryz.call79 rfl (hof _)) ?_
    refine al_d rfl rfl rfl (by exact opd_assign rfl rfl) ?_
    refine al_nil ?_
    refine awp_seq ?_
    refine awp_seq ?_
    refine awp_region ?_
    refine al_d rfl rfl rfl (by exact opd_move rfl rfl) ?_
    refine al_d rfl rfl rfl (by exact (by first | exact opd_peq_ref rfl Tryz.underlying97 rfl rfl rfl rfl | exact opd_peq_nil rfl Tryz.underlying97 rfl rfl)) ?_
    refine al_nil ?_
    refine awp_cond rfl (fun hc1 => ?_) (fun hc1 => ?_)
    -- cond 1
    · skip
      refine awp_seq ?_
      refine awp_region ?_
      refine al_d rfl rfl rfl (by exact x_build rfl bo24 rfl rfl) ?_
      refine al_n rfl rfl (by exact (by first | exact x_store_all rfl Tryz.sizeOf24 rfl rfl rfl rfl rfl rfl rfl rfl | exact x_store1 rfl Tryz.sizeOf24 rfl rfl rfl rfl rfl rfl (by simp only [List.length_cons, List.length_nil]; omega) (by simp only [List.drop_succ_cons, List.drop_zero, List.take_succ_cons, List.take_zero, List.take_nil, List.map_cons, List.map_nil, List.set_cons_zero, List.set_cons_succ, List.cons_append, List.nil_append, encTag, encObj, encStr]; rfl) (by simp only [List.drop_succ_cons, List.drop_zero, List.take_succ_cons, List.take_zero, List.take_nil, List.map_cons, List.map_nil, List.set_cons_zero, List.set_cons_succ, List.cons_append, List.nil_append, encTag, encObj, encStr]; rfl) | exact x_store1 rfl Tryz.sizeOf24 rfl rfl rfl rfl rfl rfl (Nat.le_of_ble_eq_true rfl) rfl rfl)) ?_
      refine al_d rfl rfl rfl (by exact opd_assign rfl rfl) ?_
      refine al_d rfl rfl rfl (by exact opd_assign rfl rfl) ?_
      refine al_nil ?_
      refine awp_ret ?_
      -- return
      refine aret3 (H' := []) (by first | exact .inr rfl | exact .inl rfl) rfl (rval_cell rfl Tryz.isAgg24 Tryz.sizeOf24 rfl rfl rfl rfl rfl) (rval_tmp rfl) (rval_tmp rfl) (Fin.wk (r := .tup [.agg [lv []], iv (-1), iv 1]) (by simp) trivial trivial) ?_
      exact ⟨rfl, rfl⟩
    · cases hc1
end Go.Proofs.YtdgoodjhndeojaaGreat
end
