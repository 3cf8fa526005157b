/-
  CONTRACTS: package view's small functions. Conditions: lengths below 2^62.
-/
import Derived.Test.YtdgoodjhndeojaaE7
set_option linter.unusedVariables false
set_option linter.unusedSimpArgs false
set_option maxRecDepth 100000
namespace Go.Proofs.Ytdgoodjhndeojaa
open Go.Abs
abbrev sView : ByteArray := ⟨#[118, 105, 101, 119]⟩
def ownS (o : GObj) : ByteArray := (gGet o.tags sView).getD sNil
def ownB (o : GObj) : Bool := (gGet o.tags sView).isSome && gName (ownS o)
theorem gGet_size {l : List GTag} {key : ByteArray} {n : Nat} (h0 : 0 < n) (h : ∀ t ∈ l, t.val.size < n) : ((gGet l key).getD sNil).size < n := by
  unfold gGet
  cases e : l.find? (fun t => decide (t.key = key)) with
  | none => exact h0
  | some t => exact h t (List.mem_of_find?_eq_some e)
theorem own_c (o : GObj) (H : Heap) (ho : okO o) : ACalls Try.prog 87 [av (encObj o)] H (fun r H' => r = .tup [sv (ownS o), bv (ownB o)] ∧ H' = H) := by
  refine ACalls.pure ?_ (by simp) H
  obtain ⟨h1, ⟨h2, h2'⟩, h3, h4⟩ := ho
  refine ACalls.body Try.func87 rfl Try.ntmps87 (Nat.le_of_ble_eq_true rfl) ?_
  refine awp_seq ?_
  refine awp_region ?_
  refine al_d rfl rfl rfl (by exact opd_box (id := 1) rfl rfl rfl rfl rfl) ?_
  refine al_d rfl rfl rfl (by exact opd_assign rfl rfl) ?_
  refine al_d rfl rfl rfl (by exact opd_assign rfl rfl) ?_
  refine al_nil ?_
  refine awp_seq ?_
  refine awp_region ?_
  refine al_d rfl rfl rfl (by exact (by first | exact opd_field_ref rfl fo38_4 rfl rfl rfl rfl | exact opd_field_pad rfl fo38_4 rfl rfl)) ?_
  refine al_d rfl rfl rfl (by exact (by first | exact opd_load1_ref rfl Try.isAgg36 rfl rfl rfl rfl rfl | exact opd_load1_pad rfl Try.isAgg36 rfl (by first | omega | assumption) rfl)) ?_
  refine al_d rfl rfl rfl (by exact opr_call rfl rfl Try.call21 rfl (tagGet_c o.tags sView _ h2)) ?_
  refine al_d rfl rfl rfl (by exact opd_move rfl rfl) ?_
  refine al_d rfl rfl rfl (by exact opd_extract rfl rfl rfl) ?_
  refine al_d rfl rfl rfl (by exact opd_extract rfl rfl rfl) ?_
  refine al_d rfl rfl rfl (by exact opd_assign rfl rfl) ?_
  refine al_d rfl rfl rfl (by exact opd_assign rfl rfl) ?_
  refine al_nil ?_
  refine awp_seq ?_
  -- guard at a region with tests: %bool 3 := ..
  cases hb : (gGet o.tags sView).isSome
  · skip
    refine awp_region ?_
    refine al_d rfl rfl rfl (by exact opd_move rfl rfl) ?_
    refine al_d rfl rfl rfl (by exact opd_move rfl rfl) ?_
    refine al_d rfl rfl rfl (by exact opd_move rfl rfl) ?_
    refine al_off rfl rfl rfl (by first | rfl | assumption) rfl ?_
    refine al_off rfl rfl rfl (by first | rfl | assumption) rfl ?_
    refine al_d rfl rfl rfl (by exact (by first | exact opd_pick_t rfl rfl rfl | exact opd_pick_f rfl rfl rfl | exact opd_pickt rfl rfl (by assumption) rfl | exact opd_pickf rfl rfl (by assumption) rfl | exact opd_pick rfl rfl rfl)) ?_
    refine al_d rfl rfl rfl (by exact opd_assign rfl rfl) ?_
    refine al_d rfl rfl rfl (by exact opd_assign rfl rfl) ?_
    refine al_nil ?_
    refine awp_ret ?_
    -- return
    refine aret2 (H' := []) (by first | exact .inr rfl | exact .inl rfl) rfl (rval_tmp rfl) (rval_tmp rfl) (Fin.wk (by simp) trivial trivial) ?_
    exact ⟨by rw [ownB, hb]; rfl, rfl⟩
  · skip
    refine awp_region ?_
    refine al_d rfl rfl rfl (by exact opd_move rfl rfl) ?_
    refine al_d rfl rfl rfl (by exact opd_move rfl rfl) ?_
    refine al_d rfl rfl rfl (by exact opd_move rfl rfl) ?_
    refine al_ond rfl rfl rfl (by first | rfl | assumption) rfl rfl (by exact opd_move rfl rfl) ?_
    refine al_ond rfl rfl rfl (by first | rfl | assumption) rfl rfl (by exact opr_call rfl rfl Try.call22 rfl (name_c (ownS o) _ (gGet_size (by omega) (fun t ht => (h2' t ht).2)))) ?_
    refine al_d rfl rfl rfl (by exact (by first | exact opd_pick_t rfl rfl rfl | exact opd_pick_f rfl rfl rfl | exact opd_pickt rfl rfl (by assumption) rfl | exact opd_pickf rfl rfl (by assumption) rfl | exact opd_pick rfl rfl rfl)) ?_
    refine al_d rfl rfl rfl (by exact opd_assign rfl rfl) ?_
    refine al_d rfl rfl rfl (by exact opd_assign rfl rfl) ?_
    refine al_nil ?_
    refine awp_ret ?_
    -- return
    refine aret2 (H' := []) (by first | exact .inr rfl | exact .inl rfl) rfl (rval_tmp rfl) (rval_tmp rfl) (Fin.wk (by simp) trivial trivial) ?_
    exact ⟨by rw [ownB, hb]; rfl, rfl⟩
theorem common1_c (s : ByteArray) (b : Bool) (H : Heap) : ACalls Try.prog 45 [sv s, bv b] H (fun r H' => r = bv (!b) ∧ H' = H) := by
  refine ACalls.pure ?_ (by simp) H
  refine ACalls.body Try.func45 rfl Try.ntmps45 (Nat.le_of_ble_eq_true rfl) ?_
  refine awp_seq ?_
  refine awp_region ?_
  refine al_d rfl rfl rfl (by exact opd_assign rfl rfl) ?_
  refine al_nil ?_
  refine awp_seq ?_
  refine awp_region ?_
  refine al_d rfl rfl rfl (by exact opd_move rfl rfl) ?_
  refine al_d rfl rfl rfl (by exact opd_not rfl rfl) ?_
  refine al_d rfl rfl rfl (by exact opd_assign rfl rfl) ?_
  refine al_nil ?_
  refine awp_ret ?_
  -- return
  refine aret1 (H' := []) (by first | exact .inr rfl | exact .inl rfl) rfl (rval_tmp rfl) (Fin.wk (by simp) trivial trivial) ?_
  exact ⟨rfl, rfl⟩
theorem disputed1_c (s : ByteArray) (b : Bool) (H : Heap) : ACalls Try.prog 46 [sv s, bv b] H (fun r H' => r = bv b ∧ H' = H) := by
  refine ACalls.pure ?_ (by simp) H
  refine ACalls.body Try.func46 rfl Try.ntmps46 (Nat.le_of_ble_eq_true rfl) ?_
  refine awp_seq ?_
  refine awp_region ?_
  refine al_d rfl rfl rfl (by exact opd_assign rfl rfl) ?_
  refine al_nil ?_
  refine awp_seq ?_
  refine awp_region ?_
  refine al_d rfl rfl rfl (by exact opd_move rfl rfl) ?_
  refine al_d rfl rfl rfl (by exact opd_assign rfl rfl) ?_
  refine al_nil ?_
  refine awp_ret ?_
  -- return
  refine aret1 (H' := []) (by first | exact .inr rfl | exact .inl rfl) rfl (rval_tmp rfl) (Fin.wk (by simp) trivial trivial) ?_
  exact ⟨rfl, rfl⟩
end Go.Proofs.Ytdgoodjhndeojaa
