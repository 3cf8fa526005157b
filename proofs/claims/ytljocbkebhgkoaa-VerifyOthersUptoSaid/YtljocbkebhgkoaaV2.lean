/-
  CONTRACTS: the functions of package verify and of its reference: objects, tags, what an edit shows. Conditions: lengths below 2^62.
-/
import Derived.Test.YtljocbkebhgkoaaV1
set_option linter.unusedVariables false
set_option linter.unusedSimpArgs false
set_option maxRecDepth 100000
namespace Go.Proofs.Ytljocbkebhgkoaa
open Go.Abs
abbrev sName : ByteArray := ⟨#[110, 97, 109, 101]⟩
abbrev sNil : ByteArray := ⟨#[]⟩
def idIs (id : ByteArray) (o : GObj) : Bool := decide (o.id = id)
def obOf (m : List GObj) (id : ByteArray) : GObj := (m.find? (idIs id)).getD zObj
def isOb (m : List GObj) (id : ByteArray) : Bool := (m.find? (idIs id)).isSome
def nameIs (t : GTag) : Bool := decide (t.key = sName)
def onP (x y : Int) : Bool := decide (0 ≤ min x y) && decide (max x y < 1048576)
/-- verify.object's closure. -/
theorem object1_c (o : GObj) (id : ByteArray) (H : Heap) (T : Nat) (h3 : H.get 3 = some (bx 1 T [sv id])) (h9 : H.get 902 = none) (hc : Closed H) :
    ACalls Try.prog 83 [av (encObj o), .ref 3 0 0 0] H (fun r H' => r = bv (idIs id o) ∧ H' = H) := by
  refine ACalls.body Try.func83 rfl Try.ntmps83 (Nat.le_of_ble_eq_true rfl) ?_
  refine awp_seq ?_
  refine awp_region ?_
  refine al_d rfl rfl rfl (by exact opd_box (id := 902) rfl rfl rfl rfl h9) ?_
  refine al_d rfl rfl rfl (by exact opd_assign rfl rfl) ?_
  refine al_nil ?_
  refine awp_seq ?_
  refine awp_region ?_
  refine al_d rfl rfl rfl (by exact (by first | exact opd_field_ref rfl fo37_0 rfl rfl rfl rfl | exact opd_field_pad rfl fo37_0 rfl rfl)) ?_
  refine al_d rfl rfl rfl (by exact (by first | exact opd_load1_ref rfl Try.isAgg9 rfl rfl rfl rfl rfl | exact opd_load1_pad rfl Try.isAgg9 rfl (by first | omega | assumption) rfl)) ?_
  refine al_d rfl rfl rfl (by exact opd_load1_ref rfl Try.isAgg9 rfl h3 rfl rfl rfl) ?_
  refine al_d rfl rfl rfl (by exact opd_seql rfl rfl rfl) ?_
  refine al_d rfl rfl rfl (by exact opd_assign rfl rfl) ?_
  refine al_nil ?_
  refine awp_ret ?_
  -- return
  refine aret1 (H' := H) (.inr rfl) rfl (rval_tmp rfl) (Fin.pops [_] (by simp) hc (by simpa using h9)) ?_
  exact ⟨rfl, rfl⟩
/-- verify.object. -/
theorem vobject_c (m : List GObj) (id : ByteArray) (H : Heap) (hm : m.length < 4611686018427387904) :
    ACalls Try.prog 77 [.agg [.pv (slObjs m)], sv id] H (fun r H' => r = .tup [av (encObj (obOf m id)), bv (isOb m id)] ∧ H' = H) := by
  refine ACalls.pure ?_ (by simp) H
  refine ACalls.body Try.func77 rfl Try.ntmps77 (Nat.le_of_ble_eq_true rfl) ?_
  refine awp_seq ?_
  refine awp_region ?_
  refine al_d rfl rfl rfl (by exact opd_box (id := 2) rfl rfl rfl rfl rfl) ?_
  refine al_d rfl rfl rfl (by exact opd_box (id := 3) rfl rfl rfl rfl rfl) ?_
  refine al_d rfl rfl rfl (by exact x_alloc (id := 4) rfl zo37 rfl rfl) ?_
  refine al_d rfl rfl rfl (by exact opd_assign rfl rfl) ?_
  refine al_nil ?_
  refine awp_seq ?_
  refine awp_region ?_
  refine al_d rfl rfl rfl (by exact (by first | exact opd_field_ref rfl fo24_0 rfl rfl rfl rfl | exact opd_field_pad rfl fo24_0 rfl rfl)) ?_
  refine al_d rfl rfl rfl (by exact (by first | exact opd_load1_ref rfl Try.isAgg22 rfl rfl rfl rfl rfl | exact opd_load1_pad rfl Try.isAgg22 rfl (by first | omega | assumption) rfl)) ?_
  refine al_d rfl rfl rfl (by exact opd_makeFunc rfl rfl) ?_
  refine al_d rfl rfl rfl (by exact opr_call rfl rfl Try.call82 rfl (indexFunc_GObj _ m (idIs id) _ hm (fun o _ => CallsV.clo Try.call83 (object1_c o id _ _ rfl rfl (Closed.of (by simp)))))) ?_
  refine al_d rfl rfl rfl (by exact opd_assign rfl rfl) ?_
  refine al_nil ?_
  refine awp_seq ?_
  refine awp_seq ?_
  refine awp_region ?_
  refine al_d rfl rfl rfl (by exact opd_move rfl rfl) ?_
  refine al_d rfl rfl rfl (by exact opd_lss rfl rfl rfl) ?_
  refine al_nil ?_
  refine awp_cond rfl (fun hc1 => ?_) (fun hc1 => ?_)
  -- cond 1
  · rcases gidx_cases (idIs id) m with ⟨hg, hf⟩ | ⟨k, o, hg, hk, hf⟩
    · skip
      refine awp_seq ?_
      refine awp_region ?_
      refine al_d rfl rfl rfl (by exact x_build rfl bo37 rfl rfl) ?_
      refine al_n rfl rfl (by exact (by first | exact x_store_all rfl Try.sizeOf37 rfl rfl rfl rfl rfl rfl rfl rfl | exact x_store rfl Try.sizeOf37 rfl rfl rfl rfl rfl rfl rfl (by simp only [List.length_cons, List.length_nil]; omega) (by simp only [List.drop_succ_cons, List.drop_zero, List.take_succ_cons, List.take_zero, List.take_nil, List.map_cons, List.map_nil, List.set_cons_zero, List.set_cons_succ, List.cons_append, List.nil_append]; rfl) (by simp only [List.drop_succ_cons, List.drop_zero, List.take_succ_cons, List.take_zero, List.take_nil, List.map_cons, List.map_nil, List.set_cons_zero, List.set_cons_succ, List.cons_append, List.nil_append]; rfl))) ?_
      refine al_d rfl rfl rfl (by exact opd_assign rfl rfl) ?_
      refine al_nil ?_
      refine awp_ret ?_
      -- return
      refine aret2 (H' := []) (by first | exact .inr rfl | exact .inl rfl) rfl (rval_cell rfl Try.isAgg37 Try.sizeOf37 rfl rfl rfl (by simp only [List.drop_succ_cons, List.drop_zero, List.take_succ_cons, List.take_zero, List.take_nil, List.map_cons, List.map_nil, List.set_cons_zero, List.set_cons_succ, List.cons_append, List.nil_append]; rfl) rfl) (rval_tmp rfl) (Fin.wk (by simp) trivial trivial) ?_
      exact ⟨by simp only [obOf, isOb, hf]; rfl, rfl⟩
    · rw [hg] at hc1
      have := of_decide_eq_true hc1
      omega
  · rcases gidx_cases (idIs id) m with ⟨hg, hf⟩ | ⟨k, o, hg, hk, hf⟩
    · rw [hg] at hc1
      exact absurd hc1 (by decide)
    · rw [hg]
      have hi := map_get (f := encObj) hk
      refine awp_skip ?_
      refine awp_seq ?_
      refine awp_region ?_
      refine al_d rfl rfl rfl (by exact (by first | exact opd_field_ref rfl fo24_0 rfl rfl rfl rfl | exact opd_field_pad rfl fo24_0 rfl rfl)) ?_
      refine al_d rfl rfl rfl (by exact (by first | exact opd_load1_ref rfl Try.isAgg22 rfl rfl rfl rfl rfl | exact opd_load1_pad rfl Try.isAgg22 rfl (by first | omega | assumption) rfl)) ?_
      refine al_d rfl rfl rfl (by exact opd_move rfl rfl) ?_
      refine al_d rfl rfl rfl (by exact (by first | exact x_index_pad rfl so22 rfl rfl (by omega) (by first | exact Int.toNat_natCast _ | rfl) (by assumption) rfl | exact x_index_osl rfl so22 rfl rfl rfl rfl rfl (by omega) (by first | exact Int.toNat_natCast _ | rfl) (by first | omega | assumption) rfl)) ?_
      refine al_d rfl rfl rfl (by exact (by first | exact opd_loadn_ref rfl Try.isAgg37 Try.sizeOf37 rfl rfl rfl rfl (by simp only [List.drop_succ_cons, List.drop_zero, List.take_succ_cons, List.take_zero, List.take_nil, List.map_cons, List.map_nil, List.set_cons_zero, List.set_cons_succ, List.cons_append, List.nil_append, encObj]; rfl) rfl | exact opd_loadn_pad rfl Try.isAgg37 Try.sizeOf37 rfl (by first | omega | assumption) (by simp only [List.drop_succ_cons, List.drop_zero, List.take_succ_cons, List.take_zero, List.take_nil, List.map_cons, List.map_nil, List.set_cons_zero, List.set_cons_succ, List.cons_append, List.nil_append, encObj]; rfl) rfl)) ?_
      refine al_n rfl rfl (by exact (by first | exact x_store_all rfl Try.sizeOf37 rfl rfl rfl rfl rfl rfl rfl rfl | exact x_store rfl Try.sizeOf37 rfl rfl rfl rfl rfl rfl rfl (by simp only [List.length_cons, List.length_nil]; omega) (by simp only [List.drop_succ_cons, List.drop_zero, List.take_succ_cons, List.take_zero, List.take_nil, List.map_cons, List.map_nil, List.set_cons_zero, List.set_cons_succ, List.cons_append, List.nil_append]; rfl) (by simp only [List.drop_succ_cons, List.drop_zero, List.take_succ_cons, List.take_zero, List.take_nil, List.map_cons, List.map_nil, List.set_cons_zero, List.set_cons_succ, List.cons_append, List.nil_append]; rfl))) ?_
      refine al_d rfl rfl rfl (by exact opd_assign rfl rfl) ?_
      refine al_nil ?_
      refine awp_ret ?_
      -- return
      refine aret2 (H' := []) (by first | exact .inr rfl | exact .inl rfl) rfl (rval_cell rfl Try.isAgg37 Try.sizeOf37 rfl rfl rfl (by simp only [List.drop_succ_cons, List.drop_zero, List.take_succ_cons, List.take_zero, List.take_nil, List.map_cons, List.map_nil, List.set_cons_zero, List.set_cons_succ, List.cons_append, List.nil_append]; rfl) rfl) (rval_tmp rfl) (Fin.wk (by simp) trivial trivial) ?_
      exact ⟨by simp only [obOf, isOb, hf]; rfl, rfl⟩
end Go.Proofs.Ytljocbkebhgkoaa
