/-
  CONTRACTS: tag.Valid; package object's small functions. Conditions: lengths below 2^62.
-/
import Derived.Test.YtdgoodjhndeojaaE2
set_option linter.unusedVariables false
set_option linter.unusedSimpArgs false
set_option maxRecDepth 100000
namespace Go.Proofs.Ytdgoodjhndeojaa
open Go.Abs
def big : Nat := 4611686018427387904
/-- The key ahead of a place. -/
def before {α : Type} (f : α → ByteArray) (l : List α) : Nat → ByteArray
  | 0 => sNil
  | k + 1 => ((l[k]?).map f).getD sNil
def sle (a b : ByteArray) : Bool := slt a b || decide (a = b)
def badTag (last : ByteArray) (t : GTag) : Bool := !gName t.key || sle t.key last || decide (t.val = sNil) || decide (200 < (t.val.size : Int))
def badAt {α : Type} (p : ByteArray → α → Bool) (f : α → ByteArray) (l : List α) (k : Nat) : Bool := match l[k]? with
  | some t => p (before f l k) t
  | none => false
theorem badAt_some {α : Type} {p : ByteArray → α → Bool} {f : α → ByteArray} {l : List α} {k : Nat} {t : α} (h : l[k]? = some t) : badAt p f l k = p (before f l k) t := by rw [badAt, h]
theorem before_succ {α : Type} {f : α → ByteArray} {l : List α} {k : Nat} {t : α} (h : l[k]? = some t) : before f l (k + 1) = f t := by rw [before, h]; rfl
def gTags (l : List GTag) : Bool := !((List.range l.length).any (badAt badTag GTag.key l)) && decide ((l.length : Int) ≤ 60)
def okTags (l : List GTag) : Prop := l.length < 4611686018427387904 ∧ ∀ t ∈ l, t.key.size < 4611686018427387904 ∧ t.val.size < 4611686018427387904
theorem tagValid_c (l : List GTag) (H : Heap) (hl : okTags l) : ACalls Try.prog 37 [.pv (slTags l)] H (fun r H' => r = bv (gTags l) ∧ H' = H) := by
  refine ACalls.pure ?_ (by simp) H
  obtain ⟨hl, hks⟩ := hl
  have hml : (l.map encTag).length = l.length := List.length_map _
  refine ACalls.body Try.func37 rfl Try.ntmps37 (Nat.le_of_ble_eq_true rfl) ?_
  refine awp_seq ?_
  refine awp_region ?_
  refine al_d rfl rfl rfl (by exact opd_assign rfl rfl) ?_
  refine al_nil ?_
  refine awp_seq ?_
  refine awp_region ?_
  refine al_d rfl rfl rfl (by exact opd_assign rfl rfl) ?_
  refine al_nil ?_
  refine awp_seq ?_
  refine awp_seq ?_
  refine awp_region ?_
  refine al_d rfl rfl rfl (by exact opd_move rfl rfl) ?_
  refine al_d rfl rfl rfl (by exact (by first | exact opd_len_sl rfl Try.underlying36 rfl | exact opd_len_osl rfl Try.underlying36 rfl rfl rfl)) ?_
  refine al_d rfl rfl rfl (by exact opd_move rfl rfl) ?_
  refine al_nil ?_
  refine awp_block ?_
  -- loop
  refine awp_loop (σ := Nat) (fun k => ([(0, .pv (slTags l)), (3, sv (before GTag.key l k)), (6, .pv (slTags l)), (7, iv ((l.map encTag).length : Int)), (8, iv (k : Int))], [])) (fun k => k ≤ l.length ∧ ∀ j, j < k → badAt badTag GTag.key l j = false) (fun k => l.length - k) 0 ⟨by omega, by omega⟩ ?_ ?_
  · exact (Ent.wk ⟨⟨_, rfl, rfl⟩, (by first | (simp; done) | (simp; rfl) | exact clo_map _ _ _), ⟨_, rfl, rfl⟩, (by first | (simp; done) | (simp; rfl) | exact clo_map _ _ _), ⟨_, rfl, rfl⟩, (by first | (simp; done) | (simp; rfl) | exact clo_map _ _ _), ⟨_, rfl, rfl⟩, (by first | (simp; done) | (simp; rfl) | exact clo_map _ _ _), ⟨_, rfl, rfl⟩, (by first | (simp; done) | (simp; rfl) | exact clo_map _ _ _), trivial⟩ trivial trivial)
  · rintro k ⟨hk, hno⟩
    refine awp_seq ?_
    refine awp_region ?_
    refine al_d rfl rfl rfl (by exact opd_lss rfl rfl rfl) ?_
    refine al_nil ?_
    refine awp_seq ?_
    refine awp_cond rfl (fun hc1 => ?_) (fun hc1 => ?_)
    -- cond 1
    · have hlt : k < l.length := by have := of_decide_eq_true hc1; omega
      obtain ⟨t, ht⟩ := get_of_lt hlt
      have hi := map_get (f := encTag) ht
      have hkt := hks t (List.mem_of_getElem? ht)
      refine awp_skip ?_
      refine awp_seq ?_
      refine awp_block ?_
      refine awp_seq ?_
      refine awp_region ?_
      refine al_d rfl rfl rfl (by exact (by first | exact x_index_pad rfl so36 rfl rfl (by omega) (by first | exact Int.toNat_natCast _ | rfl) (by assumption) rfl | exact x_index_osl rfl so36 rfl rfl rfl rfl rfl (by omega) (by first | exact Int.toNat_natCast _ | rfl) (by first | omega | assumption) rfl)) ?_
      refine al_d rfl rfl rfl (by exact (by first | exact opd_loadn_ref rfl Try.isAgg72 Try.sizeOf72 rfl rfl rfl rfl (by simp only [List.drop_succ_cons, List.drop_zero, List.take_succ_cons, List.take_zero, List.take_nil, List.map_cons, List.map_nil, List.set_cons_zero, List.set_cons_succ, List.cons_append, List.nil_append, encTag, encObj]; rfl) rfl | exact opd_loadn_pad rfl Try.isAgg72 Try.sizeOf72 rfl (by first | omega | assumption) (by simp only [List.drop_succ_cons, List.drop_zero, List.take_succ_cons, List.take_zero, List.take_nil, List.map_cons, List.map_nil, List.set_cons_zero, List.set_cons_succ, List.cons_append, List.nil_append, encTag, encObj]; rfl) rfl)) ?_
      refine al_d rfl rfl rfl (by exact x_alloc (id := 5) rfl zo72 rfl rfl) ?_
      refine al_n rfl rfl (by exact (by first | exact x_store_all rfl Try.sizeOf72 rfl rfl rfl rfl rfl rfl rfl rfl | exact x_store rfl Try.sizeOf72 rfl rfl rfl rfl rfl rfl rfl (by simp only [List.length_cons, List.length_nil]; omega) (by simp only [List.drop_succ_cons, List.drop_zero, List.take_succ_cons, List.take_zero, List.take_nil, List.map_cons, List.map_nil, List.set_cons_zero, List.set_cons_succ, List.cons_append, List.nil_append, encTag, encObj]; rfl) (by simp only [List.drop_succ_cons, List.drop_zero, List.take_succ_cons, List.take_zero, List.take_nil, List.map_cons, List.map_nil, List.set_cons_zero, List.set_cons_succ, List.cons_append, List.nil_append, encTag, encObj]; rfl))) ?_
      refine al_nil ?_
      refine awp_seq ?_
      refine awp_seq ?_
      refine awp_bool (t := 32) (n := 24) (X := badTag (before GTag.key l k) t) ?_ ?_
      · all_goals (refine al_d rfl rfl rfl (by exact (by first | exact opd_field_ref rfl fo72_0 rfl rfl rfl rfl | exact opd_field_pad rfl fo72_0 rfl rfl)) ?_)
        all_goals (refine al_d rfl rfl rfl (by exact (by first | exact opd_load1_ref rfl Try.isAgg9 rfl rfl rfl rfl rfl | exact opd_load1_pad rfl Try.isAgg9 rfl (by first | omega | assumption) rfl)) ?_)
        all_goals (refine al_d rfl rfl rfl (by exact opr_call rfl rfl Try.call22 rfl (name_c t.key _ hkt.1)) ?_)
        all_goals (refine al_d rfl rfl rfl (by exact opd_not rfl rfl) ?_)
        all_goals (refine al_d rfl rfl rfl (by exact opd_move rfl rfl) ?_)
        all_goals (first | refine al_split (t := 16) rfl (fun h16 => ?_) (fun h16 => ?_) | refine al_dup (t := 16) rfl ?_ | skip)
        all_goals (try contradiction)
        all_goals (first | refine al_off rfl rfl rfl rfl rfl ?_ | refine al_offu rfl rfl rfl rfl ?_ | refine al_ond rfl rfl rfl rfl rfl rfl (by exact (by first | exact opd_field_ref rfl fo72_0 rfl rfl rfl rfl | exact opd_field_pad rfl fo72_0 rfl rfl)) ?_)
        all_goals (first | refine al_off rfl rfl rfl rfl rfl ?_ | refine al_offu rfl rfl rfl rfl ?_ | refine al_ond rfl rfl rfl rfl rfl rfl (by exact (by first | exact opd_load1_ref rfl Try.isAgg9 rfl rfl rfl rfl rfl | exact opd_load1_pad rfl Try.isAgg9 rfl (by first | omega | assumption) rfl)) ?_)
        all_goals (first | refine al_off rfl rfl rfl rfl rfl ?_ | refine al_offu rfl rfl rfl rfl ?_ | refine al_ond rfl rfl rfl rfl rfl rfl (by exact opd_move rfl rfl) ?_)
        all_goals (first | refine al_off rfl rfl rfl rfl rfl ?_ | refine al_offu rfl rfl rfl rfl ?_ | refine al_ond rfl rfl rfl rfl rfl rfl (by exact opd_sleq rfl rfl rfl) ?_)
        all_goals (refine al_d rfl rfl rfl (by exact (by first | exact opd_pick_t rfl rfl rfl | exact opd_pick_f rfl rfl rfl | exact opd_pickt rfl rfl (by assumption) rfl | exact opd_pickf rfl rfl (by assumption) rfl | exact opd_pick rfl rfl rfl)) ?_)
        all_goals (refine al_d rfl rfl rfl (by exact opd_move rfl rfl) ?_)
        all_goals (first | refine al_split (t := 22) rfl (fun h22 => ?_) (fun h22 => ?_) | refine al_dup (t := 22) rfl ?_ | skip)
        all_goals (try contradiction)
        all_goals (first | refine al_off rfl rfl rfl rfl rfl ?_ | refine al_offu rfl rfl rfl rfl ?_ | refine al_ond rfl rfl rfl rfl rfl rfl (by exact (by first | exact opd_field_ref rfl fo72_1 rfl rfl rfl rfl | exact opd_field_pad rfl fo72_1 rfl rfl)) ?_)
        all_goals (first | refine al_off rfl rfl rfl rfl rfl ?_ | refine al_offu rfl rfl rfl rfl ?_ | refine al_ond rfl rfl rfl rfl rfl rfl (by exact (by first | exact opd_load1_ref rfl Try.isAgg9 rfl rfl rfl rfl rfl | exact opd_load1_pad rfl Try.isAgg9 rfl (by first | omega | assumption) rfl)) ?_)
        all_goals (first | refine al_off rfl rfl rfl rfl rfl ?_ | refine al_offu rfl rfl rfl rfl ?_ | refine al_ond rfl rfl rfl rfl rfl rfl (by exact opd_seql rfl rfl rfl) ?_)
        all_goals (refine al_d rfl rfl rfl (by exact (by first | exact opd_pick_t rfl rfl rfl | exact opd_pick_f rfl rfl rfl | exact opd_pickt rfl rfl (by assumption) rfl | exact opd_pickf rfl rfl (by assumption) rfl | exact opd_pick rfl rfl rfl)) ?_)
        all_goals (refine al_d rfl rfl rfl (by exact opd_move rfl rfl) ?_)
        all_goals (first | refine al_split (t := 27) rfl (fun h27 => ?_) (fun h27 => ?_) | refine al_dup (t := 27) rfl ?_ | skip)
        all_goals (try contradiction)
        all_goals (first | refine al_off rfl rfl rfl rfl rfl ?_ | refine al_offu rfl rfl rfl rfl ?_ | refine al_ond rfl rfl rfl rfl rfl rfl (by exact (by first | exact opd_field_ref rfl fo72_1 rfl rfl rfl rfl | exact opd_field_pad rfl fo72_1 rfl rfl)) ?_)
        all_goals (first | refine al_off rfl rfl rfl rfl rfl ?_ | refine al_offu rfl rfl rfl rfl ?_ | refine al_ond rfl rfl rfl rfl rfl rfl (by exact (by first | exact opd_load1_ref rfl Try.isAgg9 rfl rfl rfl rfl rfl | exact opd_load1_pad rfl Try.isAgg9 rfl (by first | omega | assumption) rfl)) ?_)
        all_goals (first | refine al_off rfl rfl rfl rfl rfl ?_ | refine al_offu rfl rfl rfl rfl ?_ | refine al_ond rfl rfl rfl rfl rfl rfl (by exact opd_len_str rfl Try.underlying9 rfl) ?_)
        all_goals (first | refine al_off rfl rfl rfl rfl rfl ?_ | refine al_offu rfl rfl rfl rfl ?_ | refine al_ond rfl rfl rfl rfl rfl rfl (by exact opd_gtr rfl rfl rfl) ?_)
        all_goals (refine al_d rfl rfl rfl (by exact (by first | exact opd_pick_t rfl rfl rfl | exact opd_pick_f rfl rfl rfl | exact opd_pickt rfl rfl (by assumption) rfl | exact opd_pickf rfl rfl (by assumption) rfl | exact opd_pick rfl rfl rfl)) ?_)
        all_goals (refine al_nil ?_)
        all_goals (exact ⟨⟨_, rfl, by first | rfl | (simp only [badTag, sle, *]; rfl) | (simp_all [badTag, sle]; done) | (simp_all [badTag, sle]; omega)⟩, rfl, rfl, rfl⟩)
      refine awp_cond rfl (fun hc2 => ?_) (fun hc2 => ?_)
      -- cond 2
      · skip
        refine awp_seq ?_
        refine awp_region ?_
        refine al_d rfl rfl rfl (by exact opd_assign rfl rfl) ?_
        refine al_nil ?_
        refine awp_ret ?_
        -- return
        refine aret1 (H' := []) (by first | exact .inr rfl | exact .inl rfl) rfl (rval_tmp rfl) (Fin.wk (by simp) trivial trivial) ?_
        exact ⟨by rw [gTags, range_some hlt ((badAt_some ht).trans hc2)]; rfl, rfl⟩
      · skip
        refine awp_skip ?_
        refine awp_region ?_
        refine al_d rfl rfl rfl (by exact (by first | exact opd_field_ref rfl fo72_0 rfl rfl rfl rfl | exact opd_field_pad rfl fo72_0 rfl rfl)) ?_
        refine al_d rfl rfl rfl (by exact (by first | exact opd_load1_ref rfl Try.isAgg9 rfl rfl rfl rfl rfl | exact opd_load1_pad rfl Try.isAgg9 rfl (by first | omega | assumption) rfl)) ?_
        refine al_d rfl rfl rfl (by exact opd_assign rfl rfl) ?_
        refine al_nil ?_
        refine awp_region ?_
        refine al_d rfl rfl rfl (by exact opd_add rfl rfl rfl (by first | exact w64 (by omega) (by omega) | exact wu8 (by omega) (by omega) | rfl)) ?_
        refine al_d rfl rfl rfl (by exact opd_move rfl rfl) ?_
        refine al_nil ?_
        -- end of a round
        refine ⟨k + 1, ⟨by omega, fun j hj => ?_⟩, by omega, ?_⟩
        · by_cases e : j = k
          · subst e; exact (badAt_some ht).trans hc2
          · exact hno j (by omega)
        · rw [before_succ ht]
          exact (Ent.wk ⟨⟨_, rfl, rfl⟩, (by first | (simp; done) | (simp; rfl) | exact clo_map _ _ _), ⟨_, rfl, rfl⟩, (by first | (simp; done) | (simp; rfl) | exact clo_map _ _ _), ⟨_, rfl, rfl⟩, (by first | (simp; done) | (simp; rfl) | exact clo_map _ _ _), ⟨_, rfl, rfl⟩, (by first | (simp; done) | (simp; rfl) | exact clo_map _ _ _), ⟨_, rfl, rfl⟩, (by first | (simp; done) | (simp; rfl) | exact clo_map _ _ _), trivial⟩ trivial trivial)
    · have hge : k = l.length := by have := of_decide_eq_false hc1; omega
      subst hge
      refine awp_exit ?_
      refine awp_seq ?_
      refine awp_region ?_
      refine al_d rfl rfl rfl (by exact opd_move rfl rfl) ?_
      refine al_d rfl rfl rfl (by exact (by first | exact opd_len_sl rfl Try.underlying36 rfl | exact opd_len_osl rfl Try.underlying36 rfl rfl rfl)) ?_
      refine al_d rfl rfl rfl (by exact opd_leq rfl rfl rfl) ?_
      refine al_d rfl rfl rfl (by exact opd_assign rfl rfl) ?_
      refine al_nil ?_
      refine awp_ret ?_
      -- return
      refine aret1 (H' := []) (by first | exact .inr rfl | exact .inl rfl) rfl (rval_tmp rfl) (Fin.wk (by simp) trivial trivial) ?_
      exact ⟨by rw [gTags, range_any hno, ← hml]; rfl, rfl⟩
end Go.Proofs.Ytdgoodjhndeojaa
