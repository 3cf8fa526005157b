/-
  CONTRACTS: package edit: perform. Conditions: lengths below 2^39.
  CONTRACTS: package edit: perform, the other operations. Conditions: lengths below 2^39.
  PLAIN: what a valid object's lists are at most; the sizes of what an edit puts. CONTRACT: perform. Conditions: sizes.
-/
import Derived.Test.YtedfihgkopejcaaGreatKN6M7
section
set_option linter.unusedVariables false
set_option linter.unusedSimpArgs false
set_option maxRecDepth 100000
namespace Go.Proofs.YtedfihgkopejcaaGreat
open Go.Abs

section
variable {N : Nat} {o : Oper} {E : Env} {H : Heap} {x y : Operand}
theorem lk_some {m : List GObj} {s : ByteArray} {k : Int} (ho : o.op = .lookup 89 x y true) (hx : aeval E x = some (.mp 12 0)) (hH : H.get 12 = some (kob m)) (hy : aeval E y = some (sv s)) (hk : kindOf m s = some k) : OpD Tryz.prog N o E H (.tup [iv k, bv true]) H := by
  have h := opd_lookup_ok (N := N) (κ := strK) ho Tryz.underlying89 Tryz.underlying9 hx hH rfl rfl hy Tryz.zeroValue3 (.inl rfl)
  rw [kM_kind, hk] at h
  exact h
theorem lk_none {m : List GObj} {s : ByteArray} (ho : o.op = .lookup 89 x y true) (hx : aeval E x = some (.mp 12 0)) (hH : H.get 12 = some (kob m)) (hy : aeval E y = some (sv s)) (hk : kindOf m s = none) : OpD Tryz.prog N o E H (.tup [iv 0, bv false]) H := by
  have h := opd_lookup_ok (N := N) (κ := strK) ho Tryz.underlying89 Tryz.underlying9 hx hH rfl rfl hy Tryz.zeroValue3 (.inl rfl)
  rw [kM_kind, hk] at h
  exact h
theorem lk_c {m : List GObj} {s : ByteArray} (ho : o.op = .lookup 89 x y true) (hx : aeval E x = some (.mp 12 0)) (hH : H.get 12 = some (kob m)) (hy : aeval E y = some (sv s)) : OpD Tryz.prog N o E H (.tup [iv ((kindOf m s).getD 0), bv (kindOf m s).isSome]) H := by
  cases hk : kindOf m s with
  | none => exact lk_none ho hx hH hy hk
  | some k => exact lk_some ho hx hH hy hk
end
def fitsB (op kind : Int) : Bool := if op = 2 then decide (kind = 1) else if op = 4 then (decide (kind = 2) || (decide (kind = 3) || decide (kind = 4))) else if op = 6 || op = 7 then decide (kind = 2) else true
def gPerform (m : List GObj) (e : GEdit) : GRes :=
  if e.op = 1 then (if (kindOf m e.obj.id).isSome then errR 9 else ⟨[e.obj], sNil, refErr m e.obj.kind 0 e.obj.refs⟩)
  else match m.find? (idIs e.id) with
  | none => errR 11
  | some o =>
    if decide (e.op = 7) && (m.find? (idIs e.other)).isNone then errR 11
    else if !fitsB e.op o.kind then errR 13
    else if e.op = 2 then ⟨[⟨o.id, o.kind, e.x, e.y, o.refs, o.tags⟩], sNil, 0⟩
    else if e.op = 3 then (if !decide ((gSet o.tags e.key e.val).2 = 0) then errR (gSet o.tags e.key e.val).2 else ⟨[⟨o.id, o.kind, o.x, o.y, o.refs, (gSet o.tags e.key e.val).1⟩], sNil, 0⟩)
    else if e.op = 4 then (if !gObj ⟨o.id, o.kind, o.x, o.y, e.refs, o.tags⟩ then errR 1 else ⟨[⟨o.id, o.kind, o.x, o.y, e.refs, o.tags⟩], sNil, refErr m o.kind 0 e.refs⟩)
    else if e.op = 5 then (if gRefd m false [e.id] then errR 14 else ⟨[], e.id, 0⟩)
    else if e.op = 6 then gSplit m e o
    else gJoin m e o ((m.find? (idIs e.other)).getD zObj)
theorem kindOf_some {m : List GObj} {s : ByteArray} {o : GObj} (h : m.find? (idIs s) = some o) : kindOf m s = some o.kind := by rw [kindOf, h]; rfl
theorem kindOf_none {m : List GObj} {s : ByteArray} (h : m.find? (idIs s) = none) : kindOf m s = none := by rw [kindOf, h]; rfl
theorem refsC_c (m : List GObj) (o : GObj) (H : Heap) (h14 : H.get 14 = some (cRow m)) (h12 : H.get 12 = some (kob m)) (hl : o.refs.length < 4611686018427387904) : ACalls Tryz.prog 59 [.ref 14 0 0 0, av (encObj o)] H (fun r H' => r = iv (refErr m o.kind 0 o.refs) ∧ H' = H) :=
  cl_c (refs_c m o (cH m) rfl rfl rfl (Closed.ofL ⟨(by (simp; rfl)), (by exact kob_clo _ _), trivial⟩) hl) h14 h12 (by simp; rfl)
theorem perf1_c (m : List GObj) (e : GEdit) (hm : okM m) (he : e.op = 1) (hr : e.obj.refs.length < 4611686018427387904) :
    ACalls Tryz.prog 60 [.ref 14 0 0 0, av (encEdit e)] (cH m) (fun r H' => r = av (encRes (gPerform m e)) ∧ H' = cH m) := by
  rw [gPerform, if_pos he]
  refine ACalls.body Tryz.func60 rfl Tryz.ntmps60 (Nat.le_of_ble_eq_true rfl) ?_
  refine awp_seq ?_
  refine awp_region ?_
  refine al_d rfl rfl rfl (by exact opd_box (id := 3) rfl rfl rfl rfl rfl) ?_
  refine al_d rfl rfl rfl (by exact x_alloc (id := 4) rfl zo99 rfl rfl) ?_
  refine al_nil ?_
  refine awp_seq ?_
  refine awp_seq ?_
  refine awp_region ?_
  refine al_d rfl rfl rfl (by exact (by exact opd_field_ref rfl fo32_0 rfl rfl rfl rfl)) ?_
  refine al_d rfl rfl rfl (by exact (by exact opd_load1_ref rfl Tryz.isAgg3 rfl rfl rfl rfl rfl)) ?_
  refine al_d rfl rfl rfl (by exact opd_eql rfl rfl rfl) ?_
  refine al_nil ?_
  refine awp_cond rfl (fun hc1 => ?_) (fun hc1 => ?_)
  -- cond 1
  · cases hf : kindOf m e.obj.id with
    | some k =>
      rw [if_pos (show (some k).isSome = true from rfl)]
      refine awp_seq ?_
      refine awp_seq ?_
      refine awp_drawc follows ?_
      refine dc_cons (DStep.q rfl (by exact opd_move rfl rfl)) rfl ?_
      refine dc_cons (DStep.q rfl (by exact (by exact opd_nilCheck_ref rfl rfl rfl rfl))) rfl ?_
      refine dc_cons (DStep.q rfl (by exact (by exact opd_field_ref rfl fo91_1 rfl rfl rfl rfl))) rfl ?_
      refine dc_cons (DStep.q rfl (by exact (by exact opd_load1_ref rfl Tryz.isAgg89 rfl rfl rfl rfl rfl))) rfl ?_
      refine dc_cons (DStep.q rfl (by exact (by exact opd_field_ref rfl fo32_8 rfl rfl rfl rfl))) rfl ?_
      refine dc_cons (DStep.q rfl (by exact (by exact opd_field_ref rfl fo30_0 rfl rfl rfl rfl))) rfl ?_
      refine dc_cons (DStep.q rfl (by exact (by exact opd_load1_ref rfl Tryz.isAgg9 rfl rfl rfl rfl rfl))) rfl ?_
      refine dc_cons (DStep.q rfl (by exact lk_some rfl rfl rfl rfl hf)) rfl ?_
      refine dc_cons (DStep.q rfl (by exact opd_move rfl rfl)) rfl ?_
      refine dc_cons (DStep.q rfl (by exact opd_extract rfl rfl rfl)) rfl ?_
      refine dc_cons (DStep.q rfl (by exact opd_extract rfl rfl rfl)) rfl ?_
      refine dc_cons (DStep.q rfl (by exact opd_assign rfl rfl)) rfl ?_
      refine dc_cons (DStep.q rfl (by exact opd_assign rfl rfl)) rfl ?_
      refine dc_nil ⟨by kernel_rfl, ?_⟩
      refine awp_seq ?_
      refine awp_region ?_
      refine al_d rfl rfl rfl (by exact opd_move rfl rfl) ?_
      refine al_nil ?_
      refine awp_cond rfl (fun hc2 => ?_) (fun hc2 => ?_)
      -- cond 2
      · skip
        refine awp_seq ?_
        refine awp_region ?_
        refine al_d rfl rfl rfl (by exact x_build rfl bo99 rfl rfl) ?_
        refine al_n rfl rfl (by exact (by exact x_store_all rfl Tryz.sizeOf99 rfl rfl rfl rfl rfl rfl rfl rfl)) ?_
        refine al_nil ?_
        refine awp_ret ?_
        -- return
        refine aret1 (H' := (cH m)) (by exact .inr rfl) rfl (rval_cell rfl Tryz.isAgg99 Tryz.sizeOf99 rfl rfl rfl rfl rfl) (Fin.cl (m := m) (encRes (errR 9)) rfl rfl) ?_
        exact ⟨rfl, rfl⟩
      · cases hc2
    | none =>
      rw [if_neg (show ¬ (none : Option Int).isSome = true by simp)]
      refine awp_seq ?_
      refine awp_seq ?_
      refine awp_drawc follows ?_
      refine dc_cons (DStep.q rfl (by exact opd_move rfl rfl)) rfl ?_
      refine dc_cons (DStep.q rfl (by exact (by exact opd_nilCheck_ref rfl rfl rfl rfl))) rfl ?_
      refine dc_cons (DStep.q rfl (by exact (by exact opd_field_ref rfl fo91_1 rfl rfl rfl rfl))) rfl ?_
      refine dc_cons (DStep.q rfl (by exact (by exact opd_load1_ref rfl Tryz.isAgg89 rfl rfl rfl rfl rfl))) rfl ?_
      refine dc_cons (DStep.q rfl (by exact (by exact opd_field_ref rfl fo32_8 rfl rfl rfl rfl))) rfl ?_
      refine dc_cons (DStep.q rfl (by exact (by exact opd_field_ref rfl fo30_0 rfl rfl rfl rfl))) rfl ?_
      refine dc_cons (DStep.q rfl (by exact (by exact opd_load1_ref rfl Tryz.isAgg9 rfl rfl rfl rfl rfl))) rfl ?_
      refine dc_cons (DStep.q rfl (by exact lk_none rfl rfl rfl rfl hf)) rfl ?_
      refine dc_cons (DStep.q rfl (by exact opd_move rfl rfl)) rfl ?_
      refine dc_cons (DStep.q rfl (by exact opd_extract rfl rfl rfl)) rfl ?_
      refine dc_cons (DStep.q rfl (by exact opd_extract rfl rfl rfl)) rfl ?_
      refine dc_cons (DStep.q rfl (by exact opd_assign rfl rfl)) rfl ?_
      refine dc_cons (DStep.q rfl (by exact opd_assign rfl rfl)) rfl ?_
      refine dc_nil ⟨by kernel_rfl, ?_⟩
      refine awp_seq ?_
      refine awp_region ?_
      refine al_d rfl rfl rfl (by exact opd_move rfl rfl) ?_
      refine al_nil ?_
      refine awp_cond rfl (fun hc3 => ?_) (fun hc3 => ?_)
      -- cond 3
      · cases hc3
      · skip
        refine awp_skip ?_
        refine awp_seq ?_
        refine awp_drawc follows ?_
        refine dc_cons (r := ⟨_, some [3], []⟩) (DStep.plain rfl (fun H1 hH => by exact (by exact opd_field_ref rfl fo32_8 rfl ((hH _ rfl).trans rfl) rfl rfl))) rfl ?_
        refine dc_cons (r := ⟨_, some [3], []⟩) (DStep.plain rfl (fun H1 hH => by exact (by exact opd_loadn_ref rfl Tryz.isAgg30 Tryz.sizeOf30 rfl ((hH _ rfl).trans rfl) rfl rfl (by simp only [List.drop_succ_cons, List.drop_zero, List.take_succ_cons, List.take_zero, List.take_nil, List.map_cons, List.map_nil, List.set_cons_zero, List.set_cons_succ, List.cons_append, List.nil_append, encTag, encObj, encStr, encEdit, encInt]; rfl) rfl))) rfl ?_
        refine dc_cons (r := ⟨_, some [], []⟩) (DStep.plain rfl (fun H1 hH => by exact (by exact x_buildSlice ([e.obj].map encObj) rfl so22 rfl rfl rfl rfl rfl (by simp [encObj])))) rfl ?_
        refine dc_cons (r := ⟨_, some [14], []⟩) (DStep.plain rfl (fun H1 hH => by exact opd_move rfl rfl)) rfl ?_
        refine dc_cons (r := ⟨_, some [3], []⟩) (DStep.plain rfl (fun H1 hH => by exact (by exact opd_field_ref rfl fo32_8 rfl ((hH _ rfl).trans rfl) rfl rfl))) rfl ?_
        refine dc_cons (r := ⟨_, some [3], []⟩) (DStep.plain rfl (fun H1 hH => by exact (by exact opd_loadn_ref rfl Tryz.isAgg30 Tryz.sizeOf30 rfl ((hH _ rfl).trans rfl) rfl rfl (by simp only [List.drop_succ_cons, List.drop_zero, List.take_succ_cons, List.take_zero, List.take_nil, List.map_cons, List.map_nil, List.set_cons_zero, List.set_cons_succ, List.cons_append, List.nil_append, encTag, encObj, encStr, encEdit, encInt]; rfl) rfl))) rfl ?_
        refine dc_cons (r := ⟨_, some [14, 12], []⟩) (DStep.plain rfl (fun H1 hH => by exact opr_call rfl rfl Tryz.call59 rfl (refsC_c m e.obj _ ((hH 14 rfl).trans rfl) ((hH 12 rfl).trans rfl) hr))) rfl ?_
        refine dc_cons (r := ⟨_, some [], []⟩) (DStep.plain rfl (fun H1 hH => by exact x_build rfl bo99 rfl rfl)) rfl ?_
        refine dc_cons (r := ⟨_, some [4], [_]⟩) (DStep.plain rfl (fun H1 hH => by exact (by exact x_store_all rfl Tryz.sizeOf99 rfl rfl rfl rfl ((hH _ rfl).trans rfl) rfl rfl rfl))) rfl ?_
        refine dc_nil ⟨by kernel_rfl, ?_⟩
        refine awp_ret ?_
        -- return
        refine aret1 (H' := (cH m)) (by exact .inr rfl) rfl (rval_cell rfl Tryz.isAgg99 Tryz.sizeOf99 rfl rfl rfl rfl rfl) (Fin.cl (m := m) (encRes ⟨[e.obj], sNil, refErr m e.obj.kind 0 e.obj.refs⟩) rfl rfl) ?_
        exact ⟨rfl, rfl⟩
  · have := of_decide_eq_false hc1
    exact absurd he this
theorem perf2_c (m : List GObj) (id other node : ByteArray) (x y : Int) (key val : ByteArray) (refs : List ByteArray) (obj : GObj) (hm : okM m) (ho9 : ∀ o, o ∈ m → o.refs.length < 549755813888 ∧ o.tags.length < 1099511627776) :
    ACalls Tryz.prog 60 [.ref 14 0 0 0, av (encEdit ⟨2, id, other, node, x, y, key, val, refs, obj⟩)] (cH m) (fun r H' => r = av (encRes (gPerform m ⟨2, id, other, node, x, y, key, val, refs, obj⟩)) ∧ H' = cH m) := by
  rw [gPerform, if_neg (show ¬ ((2 : Int) = 1) by decide)]
  simp only
  refine ACalls.body Tryz.func60 rfl Tryz.ntmps60 (Nat.le_of_ble_eq_true rfl) ?_
  refine awp_seq ?_
  refine awp_region ?_
  refine al_d rfl rfl rfl (by exact opd_box (id := 3) rfl rfl rfl rfl rfl) ?_
  refine al_d rfl rfl rfl (by exact x_alloc (id := 4) rfl zo99 rfl rfl) ?_
  refine al_nil ?_
  refine awp_seq ?_
  refine awp_seq ?_
  refine awp_region ?_
  refine al_d rfl rfl rfl (by exact (by exact opd_field_ref rfl fo32_0 rfl rfl rfl rfl)) ?_
  refine al_d rfl rfl rfl (by exact (by exact opd_load1_ref rfl Tryz.isAgg3 rfl rfl rfl rfl rfl)) ?_
  refine al_d rfl rfl rfl (by exact opd_eql rfl rfl rfl) ?_
  refine al_nil ?_
  refine awp_cond rfl (fun hc1 => ?_) (fun hc1 => ?_)
  -- cond 1
  · cases hc1
  · skip
    cases hf : m.find? (idIs id) with
    | none =>
      refine awp_skip ?_
      refine awp_seq ?_
      refine awp_drawc follows ?_
      refine dc_cons (DStep.q rfl (by exact opd_move rfl rfl)) rfl ?_
      refine dc_cons (DStep.q rfl (by exact (by exact opd_nilCheck_ref rfl rfl rfl rfl))) rfl ?_
      refine dc_cons (DStep.q rfl (by exact (by exact opd_field_ref rfl fo91_1 rfl rfl rfl rfl))) rfl ?_
      refine dc_cons (DStep.q rfl (by exact (by exact opd_load1_ref rfl Tryz.isAgg89 rfl rfl rfl rfl rfl))) rfl ?_
      refine dc_cons (DStep.q rfl (by exact (by exact opd_field_ref rfl fo32_1 rfl rfl rfl rfl))) rfl ?_
      refine dc_cons (DStep.q rfl (by exact (by exact opd_load1_ref rfl Tryz.isAgg9 rfl rfl rfl rfl rfl))) rfl ?_
      refine dc_cons (DStep.q rfl (by exact lk_none rfl rfl rfl rfl (kindOf_none hf))) rfl ?_
      refine dc_cons (DStep.q rfl (by exact opd_move rfl rfl)) rfl ?_
      refine dc_cons (DStep.q rfl (by exact opd_extract rfl rfl rfl)) rfl ?_
      refine dc_cons (DStep.q rfl (by exact opd_extract rfl rfl rfl)) rfl ?_
      refine dc_cons (DStep.q rfl (by exact opd_assign rfl rfl)) rfl ?_
      refine dc_cons (DStep.q rfl (by exact opd_assign rfl rfl)) rfl ?_
      refine dc_nil ⟨by kernel_rfl, ?_⟩
      refine awp_seq ?_
      refine awp_seq ?_
      refine awp_drawc follows ?_
      refine dc_cons (DStep.q rfl (by exact opd_move rfl rfl)) rfl ?_
      refine dc_cons (DStep.q rfl (by exact (by exact opd_nilCheck_ref rfl rfl rfl rfl))) rfl ?_
      refine dc_cons (DStep.q rfl (by exact (by exact opd_field_ref rfl fo91_1 rfl rfl rfl rfl))) rfl ?_
      refine dc_cons (DStep.q rfl (by exact (by exact opd_load1_ref rfl Tryz.isAgg89 rfl rfl rfl rfl rfl))) rfl ?_
      refine dc_cons (DStep.q rfl (by exact (by exact opd_field_ref rfl fo32_2 rfl rfl rfl rfl))) rfl ?_
      refine dc_cons (DStep.q rfl (by exact (by exact opd_load1_ref rfl Tryz.isAgg9 rfl rfl rfl rfl rfl))) rfl ?_
      refine dc_cons (DStep.q rfl (by exact lk_c rfl rfl rfl rfl)) rfl ?_
      refine dc_cons (DStep.q rfl (by exact opd_move rfl rfl)) rfl ?_
      refine dc_cons (DStep.q rfl (by exact opd_extract rfl rfl rfl)) rfl ?_
      refine dc_cons (DStep.q rfl (by exact opd_extract rfl rfl rfl)) rfl ?_
      refine dc_cons (DStep.q rfl (by exact opd_assign rfl rfl)) rfl ?_
      refine dc_cons (DStep.q rfl (by exact opd_assign rfl rfl)) rfl ?_
      refine dc_nil ⟨by kernel_rfl, ?_⟩
      refine awp_seq ?_
      refine awp_region ?_
      refine al_d rfl rfl rfl (by exact opd_move rfl rfl) ?_
      refine al_d rfl rfl rfl (by exact opd_not rfl rfl) ?_
      refine al_d rfl rfl rfl (by exact opd_move rfl rfl) ?_
      refine al_off rfl rfl rfl (by rfl) rfl ?_
      refine al_off rfl rfl rfl (by rfl) rfl ?_
      refine al_off rfl rfl rfl (by rfl) rfl ?_
      refine al_off rfl rfl rfl (by rfl) rfl ?_
      refine al_offu rfl rfl rfl rfl ?_
      refine al_offu rfl rfl rfl rfl ?_
      refine al_off rfl rfl rfl (by rfl) rfl ?_
      refine al_d rfl rfl rfl (by exact (by exact opd_pick_t rfl rfl rfl)) ?_
      refine al_nil ?_
      refine awp_cond rfl (fun hc2 => ?_) (fun hc2 => ?_)
      -- cond 2
      · skip
        refine awp_seq ?_
        refine awp_region ?_
        refine al_d rfl rfl rfl (by exact x_build rfl bo99 rfl rfl) ?_
        refine al_n rfl rfl (by exact (by exact x_store_all rfl Tryz.sizeOf99 rfl rfl rfl rfl rfl rfl rfl rfl)) ?_
        refine al_nil ?_
        refine awp_ret ?_
        -- return
        refine aret1 (H' := (cH m)) (by exact .inr rfl) rfl (rval_cell rfl Tryz.isAgg99 Tryz.sizeOf99 rfl rfl rfl rfl rfl) (Fin.cl (m := m) (encRes (errR 11)) rfl rfl) ?_
        exact ⟨rfl, rfl⟩
      · cases hc2
    | some o =>
      simp only [show decide ((2 : Int) = 7) = false from rfl, Bool.false_and, Bool.false_eq_true, if_false, if_true]
      have hom := List.mem_of_find?_eq_some hf
      obtain ⟨ho1, ho2⟩ := ho9 o hom
      have hoo := hm.2 o hom
      refine awp_skip ?_
      refine awp_seq ?_
      refine awp_drawc follows ?_
      refine dc_cons (DStep.q rfl (by exact opd_move rfl rfl)) rfl ?_
      refine dc_cons (DStep.q rfl (by exact (by exact opd_nilCheck_ref rfl rfl rfl rfl))) rfl ?_
      refine dc_cons (DStep.q rfl (by exact (by exact opd_field_ref rfl fo91_1 rfl rfl rfl rfl))) rfl ?_
      refine dc_cons (DStep.q rfl (by exact (by exact opd_load1_ref rfl Tryz.isAgg89 rfl rfl rfl rfl rfl))) rfl ?_
      refine dc_cons (DStep.q rfl (by exact (by exact opd_field_ref rfl fo32_1 rfl rfl rfl rfl))) rfl ?_
      refine dc_cons (DStep.q rfl (by exact (by exact opd_load1_ref rfl Tryz.isAgg9 rfl rfl rfl rfl rfl))) rfl ?_
      refine dc_cons (DStep.q rfl (by exact lk_some rfl rfl rfl rfl (kindOf_some hf))) rfl ?_
      refine dc_cons (DStep.q rfl (by exact opd_move rfl rfl)) rfl ?_
      refine dc_cons (DStep.q rfl (by exact opd_extract rfl rfl rfl)) rfl ?_
      refine dc_cons (DStep.q rfl (by exact opd_extract rfl rfl rfl)) rfl ?_
      refine dc_cons (DStep.q rfl (by exact opd_assign rfl rfl)) rfl ?_
      refine dc_cons (DStep.q rfl (by exact opd_assign rfl rfl)) rfl ?_
      refine dc_nil ⟨by kernel_rfl, ?_⟩
      refine awp_seq ?_
      refine awp_seq ?_
      refine awp_drawc follows ?_
      refine dc_cons (DStep.q rfl (by exact opd_move rfl rfl)) rfl ?_
      refine dc_cons (DStep.q rfl (by exact (by exact opd_nilCheck_ref rfl rfl rfl rfl))) rfl ?_
      refine dc_cons (DStep.q rfl (by exact (by exact opd_field_ref rfl fo91_1 rfl rfl rfl rfl))) rfl ?_
      refine dc_cons (DStep.q rfl (by exact (by exact opd_load1_ref rfl Tryz.isAgg89 rfl rfl rfl rfl rfl))) rfl ?_
      refine dc_cons (DStep.q rfl (by exact (by exact opd_field_ref rfl fo32_2 rfl rfl rfl rfl))) rfl ?_
      refine dc_cons (DStep.q rfl (by exact (by exact opd_load1_ref rfl Tryz.isAgg9 rfl rfl rfl rfl rfl))) rfl ?_
      refine dc_cons (DStep.q rfl (by exact lk_c rfl rfl rfl rfl)) rfl ?_
      refine dc_cons (DStep.q rfl (by exact opd_move rfl rfl)) rfl ?_
      refine dc_cons (DStep.q rfl (by exact opd_extract rfl rfl rfl)) rfl ?_
      refine dc_cons (DStep.q rfl (by exact opd_extract rfl rfl rfl)) rfl ?_
      refine dc_cons (DStep.q rfl (by exact opd_assign rfl rfl)) rfl ?_
      refine dc_cons (DStep.q rfl (by exact opd_assign rfl rfl)) rfl ?_
      refine dc_nil ⟨by kernel_rfl, ?_⟩
      refine awp_seq ?_
      refine awp_region ?_
      refine al_d rfl rfl rfl (by exact opd_move rfl rfl) ?_
      refine al_d rfl rfl rfl (by exact opd_not rfl rfl) ?_
      refine al_d rfl rfl rfl (by exact opd_move rfl rfl) ?_
      refine al_ond rfl rfl rfl (by rfl) rfl rfl (by exact (by exact opd_field_ref rfl fo32_0 rfl rfl rfl rfl)) ?_
      refine al_ond rfl rfl rfl (by rfl) rfl rfl (by exact (by exact opd_load1_ref rfl Tryz.isAgg3 rfl rfl rfl rfl rfl)) ?_
      refine al_ond rfl rfl rfl (by rfl) rfl rfl (by exact opd_eql rfl rfl rfl) ?_
      refine al_ond rfl rfl rfl (by rfl) rfl rfl (by exact opd_move rfl rfl) ?_
      refine al_off rfl rfl rfl (by rfl) rfl ?_
      refine al_off rfl rfl rfl (by rfl) rfl ?_
      refine al_ond rfl rfl rfl (by rfl) rfl rfl (by exact (by exact opd_pick_f rfl rfl rfl)) ?_
      refine al_d rfl rfl rfl (by exact (by exact opd_pick_f rfl rfl rfl)) ?_
      refine al_nil ?_
      refine awp_cond rfl (fun hc3 => ?_) (fun hc3 => ?_)
      -- cond 3
      · cases hc3
      · skip
        refine awp_skip ?_
        refine awp_seq ?_
        refine awp_region ?_
        refine al_d rfl rfl rfl (by exact opd_move rfl rfl) ?_
        refine al_d rfl rfl rfl (by exact (by exact opd_field_ref rfl fo32_1 rfl rfl rfl rfl)) ?_
        refine al_d rfl rfl rfl (by exact (by exact opd_load1_ref rfl Tryz.isAgg9 rfl rfl rfl rfl rfl)) ?_
        refine al_d rfl rfl rfl (by exact opr_call rfl rfl Tryz.call38 rfl (get_c m id o _ rfl rfl hm hf)) ?_
        refine al_d rfl rfl rfl (by exact x_alloc (id := 11) rfl zo30 rfl rfl) ?_
        refine al_n rfl rfl (by exact (by exact x_store_all rfl Tryz.sizeOf30 rfl rfl rfl rfl rfl rfl rfl rfl)) ?_
        refine al_nil ?_
        refine awp_seq ?_
        refine awp_region ?_
        refine al_d rfl rfl rfl (by exact opd_makeMap (id := 77) (intK .i64) rfl rfl) ?_
        refine al_d rfl rfl rfl (by exact (by exact x_buildSlice ([(1 : Int)].map encInt) rfl so134 rfl rfl rfl rfl rfl (by simp [encInt]))) ?_
        refine al_n rfl rfl (by exact x_mapUpdate (κ := (intK .i64)) (.inr rfl) Tryz.underlying135 Tryz.underlying3 rfl rfl rfl rfl rfl rfl rfl rfl) ?_
        refine al_d rfl rfl rfl (by exact (by exact x_buildSlice ([(2 : Int), 3, 4].map encInt) rfl so134 rfl rfl rfl rfl rfl (by simp [encInt]))) ?_
        refine al_n rfl rfl (by exact x_mapUpdate (κ := (intK .i64)) (.inr rfl) Tryz.underlying135 Tryz.underlying3 rfl rfl rfl rfl rfl rfl rfl rfl) ?_
        refine al_d rfl rfl rfl (by exact (by exact x_buildSlice ([(2 : Int)].map encInt) rfl so134 rfl rfl rfl rfl rfl (by simp [encInt]))) ?_
        refine al_n rfl rfl (by exact x_mapUpdate (κ := (intK .i64)) (.inr rfl) Tryz.underlying135 Tryz.underlying3 rfl rfl rfl rfl rfl rfl rfl rfl) ?_
        refine al_d rfl rfl rfl (by exact (by exact x_buildSlice ([(2 : Int)].map encInt) rfl so134 rfl rfl rfl rfl rfl (by simp [encInt]))) ?_
        refine al_n rfl rfl (by exact x_mapUpdate (κ := (intK .i64)) (.inr rfl) Tryz.underlying135 Tryz.underlying3 rfl rfl rfl rfl rfl rfl rfl rfl) ?_
        refine al_d rfl rfl rfl (by exact opd_move rfl rfl) ?_
        refine al_d rfl rfl rfl (by exact opd_assign rfl rfl) ?_
        refine al_nil ?_
        refine awp_seq ?_
        refine awp_seq ?_
        refine awp_region ?_
        refine al_d rfl rfl rfl (by exact opd_move rfl rfl) ?_
        refine al_d rfl rfl rfl (by exact (by exact opd_field_ref rfl fo32_0 rfl rfl rfl rfl)) ?_
        refine al_d rfl rfl rfl (by exact (by exact opd_load1_ref rfl Tryz.isAgg3 rfl rfl rfl rfl rfl)) ?_
        refine al_d rfl rfl rfl (by exact opd_lookup_ok (κ := (intK .i64)) rfl Tryz.underlying135 Tryz.underlying3 rfl rfl rfl rfl rfl Tryz.zeroValue134 (.inl rfl)) ?_
        refine al_d rfl rfl rfl (by exact opd_move rfl rfl) ?_
        refine al_d rfl rfl rfl (by exact opd_extract rfl rfl rfl) ?_
        refine al_d rfl rfl rfl (by exact opd_extract rfl rfl rfl) ?_
        refine al_d rfl rfl rfl (by exact opd_assign rfl rfl) ?_
        refine al_d rfl rfl rfl (by exact opd_assign rfl rfl) ?_
        refine al_nil ?_
        refine awp_seq ?_
        refine awp_region ?_
        refine al_d rfl rfl rfl (by exact opd_move rfl rfl) ?_
        refine al_d rfl rfl rfl (by exact opd_move rfl rfl) ?_
        refine al_ond rfl rfl rfl (by rfl) rfl rfl (by exact opd_move rfl rfl) ?_
        refine al_ond rfl rfl rfl (by rfl) rfl rfl (by exact (by exact opd_field_ref rfl fo30_1 rfl rfl rfl rfl)) ?_
        refine al_ond rfl rfl rfl (by rfl) rfl rfl (by exact (by exact opd_load1_ref rfl Tryz.isAgg3 rfl rfl rfl rfl rfl)) ?_
        refine al_ond rfl rfl rfl (by rfl) rfl rfl (by exact opr_call rfl rfl Tryz.call105 rfl (containsI_c [(1 : Int)] o.kind _ (by decide))) ?_
        refine al_ond rfl rfl rfl (by rfl) rfl rfl (by exact opd_not rfl rfl) ?_
        refine al_d rfl rfl rfl (by exact (by exact opd_pick_t rfl rfl rfl)) ?_
        refine al_nil ?_
        refine awp_cond rfl (fun hc4 => ?_) (fun hc4 => ?_)
        -- cond 4
        · have hb : (!fitsB 2 o.kind) = true := by
            have h := hc4
            rw [← h]
            simp [fitsB]
          rw [hb, if_pos rfl]
          refine awp_seq ?_
          refine awp_region ?_
          refine al_d rfl rfl rfl (by exact x_build rfl bo99 rfl rfl) ?_
          refine al_n rfl rfl (by exact (by exact x_store_all rfl Tryz.sizeOf99 rfl rfl rfl rfl rfl rfl rfl rfl)) ?_
          refine al_nil ?_
          refine awp_ret ?_
          -- return
          refine aret1 (H' := (cH m)) (by exact .inr rfl) rfl (rval_cell rfl Tryz.isAgg99 Tryz.sizeOf99 rfl rfl rfl rfl rfl) (Fin.cl (m := m) (encRes (errR 13)) rfl rfl) ?_
          exact ⟨rfl, rfl⟩
        · have hb : (!fitsB 2 o.kind) = false := by
            have h := hc4
            rw [← h]
            simp [fitsB]
          rw [hb, if_neg (by simp)]
          refine awp_skip ?_
          refine awp_seq ?_
          refine awp_seq ?_
          refine awp_region ?_
          refine al_d rfl rfl rfl (by exact (by exact opd_field_ref rfl fo32_0 rfl rfl rfl rfl)) ?_
          refine al_d rfl rfl rfl (by exact (by exact opd_load1_ref rfl Tryz.isAgg3 rfl rfl rfl rfl rfl)) ?_
          refine al_nil ?_
          refine awp_block ?_
          refine awp_seq ?_
          refine awp_region ?_
          refine al_d rfl rfl rfl (by exact opd_eql rfl rfl rfl) ?_
          refine al_d rfl rfl rfl (by exact opd_assign rfl rfl) ?_
          refine al_nil ?_
          refine awp_cond rfl (fun hc5 => ?_) (fun hc5 => ?_)
          -- cond 5
          · skip
            refine awp_region ?_
            refine al_d rfl rfl rfl (by exact (by exact opd_field_ref rfl fo32_4 rfl rfl rfl rfl)) ?_
            refine al_d rfl rfl rfl (by exact (by exact opd_loadn_ref rfl Tryz.isAgg26 Tryz.sizeOf26 rfl rfl rfl rfl (by simp only [List.drop_succ_cons, List.drop_zero, List.take_succ_cons, List.take_zero, List.take_nil, List.map_cons, List.map_nil, List.set_cons_zero, List.set_cons_succ, List.cons_append, List.nil_append, encTag, encObj, encStr, encEdit, encInt]; rfl) rfl)) ?_
            refine al_d rfl rfl rfl (by exact (by exact opd_field_ref rfl fo30_2 rfl rfl rfl rfl)) ?_
            refine al_n rfl rfl (by exact (by exact x_store rfl Tryz.sizeOf26 rfl rfl rfl rfl rfl rfl rfl (Nat.le_of_ble_eq_true rfl) rfl rfl)) ?_
            refine al_nil ?_
            refine awp_seq ?_
            refine awp_region ?_
            refine al_d rfl rfl rfl (by exact (by exact opd_loadn_ref rfl Tryz.isAgg30 Tryz.sizeOf30 rfl rfl rfl rfl rfl rfl)) ?_
            refine al_d rfl rfl rfl (by exact (by exact x_buildSlice ([(⟨o.id, o.kind, x, y, o.refs, o.tags⟩ : GObj)].map encObj) rfl so22 rfl rfl rfl rfl rfl (by simp [encObj]))) ?_
            refine al_d rfl rfl rfl (by exact x_build rfl bo99 rfl rfl) ?_
            refine al_n rfl rfl (by exact (by exact x_store_all rfl Tryz.sizeOf99 rfl rfl rfl rfl rfl rfl rfl rfl)) ?_
            refine al_nil ?_
            refine awp_ret ?_
            -- return
            refine aret1 (H' := (cH m)) (by exact .inr rfl) rfl (rval_cell rfl Tryz.isAgg99 Tryz.sizeOf99 rfl rfl rfl rfl rfl) (Fin.cl (m := m) (encRes ⟨[⟨o.id, o.kind, x, y, o.refs, o.tags⟩], sNil, 0⟩) rfl rfl) ?_
            exact ⟨rfl, rfl⟩
          · cases hc5
end Go.Proofs.YtedfihgkopejcaaGreat
end
section
set_option linter.unusedVariables false
set_option linter.unusedSimpArgs false
set_option maxRecDepth 100000
namespace Go.Proofs.YtedfihgkopejcaaGreat
open Go.Abs

theorem perf3_c (m : List GObj) (id other node : ByteArray) (x y : Int) (key val : ByteArray) (refs : List ByteArray) (obj : GObj) (hm : okM m) (ho9 : ∀ o, o ∈ m → o.refs.length < 549755813888 ∧ o.tags.length < 1099511627776) (hk : key.size < 4611686018427387904) (hv : val.size < 4611686018427387904) :
    ACalls Tryz.prog 60 [.ref 14 0 0 0, av (encEdit ⟨3, id, other, node, x, y, key, val, refs, obj⟩)] (cH m) (fun r H' => r = av (encRes (gPerform m ⟨3, id, other, node, x, y, key, val, refs, obj⟩)) ∧ H' = cH m) := by
  rw [gPerform, if_neg (show ¬ ((3 : Int) = 1) by decide)]
  simp only
  refine ACalls.body Tryz.func60 rfl Tryz.ntmps60 (Nat.le_of_ble_eq_true rfl) ?_
  refine awp_seq ?_
  refine awp_region ?_
  refine al_d rfl rfl rfl (by exact opd_box (id := 3) rfl rfl rfl rfl rfl) ?_
  refine al_d rfl rfl rfl (by exact x_alloc (id := 4) rfl zo99 rfl rfl) ?_
  refine al_nil ?_
  refine awp_seq ?_
  refine awp_seq ?_
  refine awp_region ?_
  refine al_d rfl rfl rfl (by exact (by exact opd_field_ref rfl fo32_0 rfl rfl rfl rfl)) ?_
  refine al_d rfl rfl rfl (by exact (by exact opd_load1_ref rfl Tryz.isAgg3 rfl rfl rfl rfl rfl)) ?_
  refine al_d rfl rfl rfl (by exact opd_eql rfl rfl rfl) ?_
  refine al_nil ?_
  refine awp_cond rfl (fun hc1 => ?_) (fun hc1 => ?_)
  -- cond 1
  · cases hc1
  · skip
    cases hf : m.find? (idIs id) with
    | none =>
      refine awp_skip ?_
      refine awp_seq ?_
      refine awp_drawc follows ?_
      refine dc_cons (DStep.q rfl (by exact opd_move rfl rfl)) rfl ?_
      refine dc_cons (DStep.q rfl (by exact (by exact opd_nilCheck_ref rfl rfl rfl rfl))) rfl ?_
      refine dc_cons (DStep.q rfl (by exact (by exact opd_field_ref rfl fo91_1 rfl rfl rfl rfl))) rfl ?_
      refine dc_cons (DStep.q rfl (by exact (by exact opd_load1_ref rfl Tryz.isAgg89 rfl rfl rfl rfl rfl))) rfl ?_
      refine dc_cons (DStep.q rfl (by exact (by exact opd_field_ref rfl fo32_1 rfl rfl rfl rfl))) rfl ?_
      refine dc_cons (DStep.q rfl (by exact (by exact opd_load1_ref rfl Tryz.isAgg9 rfl rfl rfl rfl rfl))) rfl ?_
      refine dc_cons (DStep.q rfl (by exact lk_none rfl rfl rfl rfl (kindOf_none hf))) rfl ?_
      refine dc_cons (DStep.q rfl (by exact opd_move rfl rfl)) rfl ?_
      refine dc_cons (DStep.q rfl (by exact opd_extract rfl rfl rfl)) rfl ?_
      refine dc_cons (DStep.q rfl (by exact opd_extract rfl rfl rfl)) rfl ?_
      refine dc_cons (DStep.q rfl (by exact opd_assign rfl rfl)) rfl ?_
      refine dc_cons (DStep.q rfl (by exact opd_assign rfl rfl)) rfl ?_
      refine dc_nil ⟨by kernel_rfl, ?_⟩
      refine awp_seq ?_
      refine awp_seq ?_
      refine awp_drawc follows ?_
      refine dc_cons (DStep.q rfl (by exact opd_move rfl rfl)) rfl ?_
      refine dc_cons (DStep.q rfl (by exact (by exact opd_nilCheck_ref rfl rfl rfl rfl))) rfl ?_
      refine dc_cons (DStep.q rfl (by exact (by exact opd_field_ref rfl fo91_1 rfl rfl rfl rfl))) rfl ?_
      refine dc_cons (DStep.q rfl (by exact (by exact opd_load1_ref rfl Tryz.isAgg89 rfl rfl rfl rfl rfl))) rfl ?_
      refine dc_cons (DStep.q rfl (by exact (by exact opd_field_ref rfl fo32_2 rfl rfl rfl rfl))) rfl ?_
      refine dc_cons (DStep.q rfl (by exact (by exact opd_load1_ref rfl Tryz.isAgg9 rfl rfl rfl rfl rfl))) rfl ?_
      refine dc_cons (DStep.q rfl (by exact lk_c rfl rfl rfl rfl)) rfl ?_
      refine dc_cons (DStep.q rfl (by exact opd_move rfl rfl)) rfl ?_
      refine dc_cons (DStep.q rfl (by exact opd_extract rfl rfl rfl)) rfl ?_
      refine dc_cons (DStep.q rfl (by exact opd_extract rfl rfl rfl)) rfl ?_
      refine dc_cons (DStep.q rfl (by exact opd_assign rfl rfl)) rfl ?_
      refine dc_cons (DStep.q rfl (by exact opd_assign rfl rfl)) rfl ?_
      refine dc_nil ⟨by kernel_rfl, ?_⟩
      refine awp_seq ?_
      refine awp_region ?_
      refine al_d rfl rfl rfl (by exact opd_move rfl rfl) ?_
      refine al_d rfl rfl rfl (by exact opd_not rfl rfl) ?_
      refine al_d rfl rfl rfl (by exact opd_move rfl rfl) ?_
      refine al_off rfl rfl rfl (by rfl) rfl ?_
      refine al_off rfl rfl rfl (by rfl) rfl ?_
      refine al_off rfl rfl rfl (by rfl) rfl ?_
      refine al_off rfl rfl rfl (by rfl) rfl ?_
      refine al_offu rfl rfl rfl rfl ?_
      refine al_offu rfl rfl rfl rfl ?_
      refine al_off rfl rfl rfl (by rfl) rfl ?_
      refine al_d rfl rfl rfl (by exact (by exact opd_pick_t rfl rfl rfl)) ?_
      refine al_nil ?_
      refine awp_cond rfl (fun hc2 => ?_) (fun hc2 => ?_)
      -- cond 2
      · skip
        refine awp_seq ?_
        refine awp_region ?_
        refine al_d rfl rfl rfl (by exact x_build rfl bo99 rfl rfl) ?_
        refine al_n rfl rfl (by exact (by exact x_store_all rfl Tryz.sizeOf99 rfl rfl rfl rfl rfl rfl rfl rfl)) ?_
        refine al_nil ?_
        refine awp_ret ?_
        -- return
        refine aret1 (H' := (cH m)) (by exact .inr rfl) rfl (rval_cell rfl Tryz.isAgg99 Tryz.sizeOf99 rfl rfl rfl rfl rfl) (Fin.cl (m := m) (encRes (errR 11)) rfl rfl) ?_
        exact ⟨rfl, rfl⟩
      · cases hc2
    | some o =>
      simp only [show decide ((3 : Int) = 7) = false from rfl, Bool.false_and, Bool.false_eq_true, if_false, if_true]
      rw [if_neg (show ¬ ((3 : Int) = 2) by decide)]
      have hom := List.mem_of_find?_eq_some hf
      obtain ⟨ho1, ho2⟩ := ho9 o hom
      have hoo := hm.2 o hom
      refine awp_skip ?_
      refine awp_seq ?_
      refine awp_drawc follows ?_
      refine dc_cons (DStep.q rfl (by exact opd_move rfl rfl)) rfl ?_
      refine dc_cons (DStep.q rfl (by exact (by exact opd_nilCheck_ref rfl rfl rfl rfl))) rfl ?_
      refine dc_cons (DStep.q rfl (by exact (by exact opd_field_ref rfl fo91_1 rfl rfl rfl rfl))) rfl ?_
      refine dc_cons (DStep.q rfl (by exact (by exact opd_load1_ref rfl Tryz.isAgg89 rfl rfl rfl rfl rfl))) rfl ?_
      refine dc_cons (DStep.q rfl (by exact (by exact opd_field_ref rfl fo32_1 rfl rfl rfl rfl))) rfl ?_
      refine dc_cons (DStep.q rfl (by exact (by exact opd_load1_ref rfl Tryz.isAgg9 rfl rfl rfl rfl rfl))) rfl ?_
      refine dc_cons (DStep.q rfl (by exact lk_some rfl rfl rfl rfl (kindOf_some hf))) rfl ?_
      refine dc_cons (DStep.q rfl (by exact opd_move rfl rfl)) rfl ?_
      refine dc_cons (DStep.q rfl (by exact opd_extract rfl rfl rfl)) rfl ?_
      refine dc_cons (DStep.q rfl (by exact opd_extract rfl rfl rfl)) rfl ?_
      refine dc_cons (DStep.q rfl (by exact opd_assign rfl rfl)) rfl ?_
      refine dc_cons (DStep.q rfl (by exact opd_assign rfl rfl)) rfl ?_
      refine dc_nil ⟨by kernel_rfl, ?_⟩
      refine awp_seq ?_
      refine awp_seq ?_
      refine awp_drawc follows ?_
      refine dc_cons (DStep.q rfl (by exact opd_move rfl rfl)) rfl ?_
      refine dc_cons (DStep.q rfl (by exact (by exact opd_nilCheck_ref rfl rfl rfl rfl))) rfl ?_
      refine dc_cons (DStep.q rfl (by exact (by exact opd_field_ref rfl fo91_1 rfl rfl rfl rfl))) rfl ?_
      refine dc_cons (DStep.q rfl (by exact (by exact opd_load1_ref rfl Tryz.isAgg89 rfl rfl rfl rfl rfl))) rfl ?_
      refine dc_cons (DStep.q rfl (by exact (by exact opd_field_ref rfl fo32_2 rfl rfl rfl rfl))) rfl ?_
      refine dc_cons (DStep.q rfl (by exact (by exact opd_load1_ref rfl Tryz.isAgg9 rfl rfl rfl rfl rfl))) rfl ?_
      refine dc_cons (DStep.q rfl (by exact lk_c rfl rfl rfl rfl)) rfl ?_
      refine dc_cons (DStep.q rfl (by exact opd_move rfl rfl)) rfl ?_
      refine dc_cons (DStep.q rfl (by exact opd_extract rfl rfl rfl)) rfl ?_
      refine dc_cons (DStep.q rfl (by exact opd_extract rfl rfl rfl)) rfl ?_
      refine dc_cons (DStep.q rfl (by exact opd_assign rfl rfl)) rfl ?_
      refine dc_cons (DStep.q rfl (by exact opd_assign rfl rfl)) rfl ?_
      refine dc_nil ⟨by kernel_rfl, ?_⟩
      refine awp_seq ?_
      refine awp_region ?_
      refine al_d rfl rfl rfl (by exact opd_move rfl rfl) ?_
      refine al_d rfl rfl rfl (by exact opd_not rfl rfl) ?_
      refine al_d rfl rfl rfl (by exact opd_move rfl rfl) ?_
      refine al_ond rfl rfl rfl (by rfl) rfl rfl (by exact (by exact opd_field_ref rfl fo32_0 rfl rfl rfl rfl)) ?_
      refine al_ond rfl rfl rfl (by rfl) rfl rfl (by exact (by exact opd_load1_ref rfl Tryz.isAgg3 rfl rfl rfl rfl rfl)) ?_
      refine al_ond rfl rfl rfl (by rfl) rfl rfl (by exact opd_eql rfl rfl rfl) ?_
      refine al_ond rfl rfl rfl (by rfl) rfl rfl (by exact opd_move rfl rfl) ?_
      refine al_off rfl rfl rfl (by rfl) rfl ?_
      refine al_off rfl rfl rfl (by rfl) rfl ?_
      refine al_ond rfl rfl rfl (by rfl) rfl rfl (by exact (by exact opd_pick_f rfl rfl rfl)) ?_
      refine al_d rfl rfl rfl (by exact (by exact opd_pick_f rfl rfl rfl)) ?_
      refine al_nil ?_
      refine awp_cond rfl (fun hc3 => ?_) (fun hc3 => ?_)
      -- cond 3
      · cases hc3
      · skip
        refine awp_skip ?_
        refine awp_seq ?_
        refine awp_region ?_
        refine al_d rfl rfl rfl (by exact opd_move rfl rfl) ?_
        refine al_d rfl rfl rfl (by exact (by exact opd_field_ref rfl fo32_1 rfl rfl rfl rfl)) ?_
        refine al_d rfl rfl rfl (by exact (by exact opd_load1_ref rfl Tryz.isAgg9 rfl rfl rfl rfl rfl)) ?_
        refine al_d rfl rfl rfl (by exact opr_call rfl rfl Tryz.call38 rfl (get_c m id o _ rfl rfl hm hf)) ?_
        refine al_d rfl rfl rfl (by exact x_alloc (id := 11) rfl zo30 rfl rfl) ?_
        refine al_n rfl rfl (by exact (by exact x_store_all rfl Tryz.sizeOf30 rfl rfl rfl rfl rfl rfl rfl rfl)) ?_
        refine al_nil ?_
        refine awp_seq ?_
        refine awp_region ?_
        refine al_d rfl rfl rfl (by exact opd_makeMap (id := 77) (intK .i64) rfl rfl) ?_
        refine al_d rfl rfl rfl (by exact (by exact x_buildSlice ([(1 : Int)].map encInt) rfl so134 rfl rfl rfl rfl rfl (by simp [encInt]))) ?_
        refine al_n rfl rfl (by exact x_mapUpdate (κ := (intK .i64)) (.inr rfl) Tryz.underlying135 Tryz.underlying3 rfl rfl rfl rfl rfl rfl rfl rfl) ?_
        refine al_d rfl rfl rfl (by exact (by exact x_buildSlice ([(2 : Int), 3, 4].map encInt) rfl so134 rfl rfl rfl rfl rfl (by simp [encInt]))) ?_
        refine al_n rfl rfl (by exact x_mapUpdate (κ := (intK .i64)) (.inr rfl) Tryz.underlying135 Tryz.underlying3 rfl rfl rfl rfl rfl rfl rfl rfl) ?_
        refine al_d rfl rfl rfl (by exact (by exact x_buildSlice ([(2 : Int)].map encInt) rfl so134 rfl rfl rfl rfl rfl (by simp [encInt]))) ?_
        refine al_n rfl rfl (by exact x_mapUpdate (κ := (intK .i64)) (.inr rfl) Tryz.underlying135 Tryz.underlying3 rfl rfl rfl rfl rfl rfl rfl rfl) ?_
        refine al_d rfl rfl rfl (by exact (by exact x_buildSlice ([(2 : Int)].map encInt) rfl so134 rfl rfl rfl rfl rfl (by simp [encInt]))) ?_
        refine al_n rfl rfl (by exact x_mapUpdate (κ := (intK .i64)) (.inr rfl) Tryz.underlying135 Tryz.underlying3 rfl rfl rfl rfl rfl rfl rfl rfl) ?_
        refine al_d rfl rfl rfl (by exact opd_move rfl rfl) ?_
        refine al_d rfl rfl rfl (by exact opd_assign rfl rfl) ?_
        refine al_nil ?_
        refine awp_seq ?_
        refine awp_seq ?_
        refine awp_region ?_
        refine al_d rfl rfl rfl (by exact opd_move rfl rfl) ?_
        refine al_d rfl rfl rfl (by exact (by exact opd_field_ref rfl fo32_0 rfl rfl rfl rfl)) ?_
        refine al_d rfl rfl rfl (by exact (by exact opd_load1_ref rfl Tryz.isAgg3 rfl rfl rfl rfl rfl)) ?_
        refine al_d rfl rfl rfl (by exact opd_lookup_ok (κ := (intK .i64)) rfl Tryz.underlying135 Tryz.underlying3 rfl rfl rfl rfl rfl Tryz.zeroValue134 (.inl rfl)) ?_
        refine al_d rfl rfl rfl (by exact opd_move rfl rfl) ?_
        refine al_d rfl rfl rfl (by exact opd_extract rfl rfl rfl) ?_
        refine al_d rfl rfl rfl (by exact opd_extract rfl rfl rfl) ?_
        refine al_d rfl rfl rfl (by exact opd_assign rfl rfl) ?_
        refine al_d rfl rfl rfl (by exact opd_assign rfl rfl) ?_
        refine al_nil ?_
        refine awp_seq ?_
        refine awp_region ?_
        refine al_d rfl rfl rfl (by exact opd_move rfl rfl) ?_
        refine al_d rfl rfl rfl (by exact opd_move rfl rfl) ?_
        refine al_off rfl rfl rfl (by rfl) rfl ?_
        refine al_off rfl rfl rfl (by rfl) rfl ?_
        refine al_off rfl rfl rfl (by rfl) rfl ?_
        refine al_off rfl rfl rfl (by rfl) rfl ?_
        refine al_off rfl rfl rfl (by rfl) rfl ?_
        refine al_d rfl rfl rfl (by exact (by exact opd_pick_f rfl rfl rfl)) ?_
        refine al_nil ?_
        refine awp_cond rfl (fun hc4 => ?_) (fun hc4 => ?_)
        -- cond 4
        · cases hc4
        · have hb : (!fitsB 3 o.kind) = false := rfl
          rw [hb, if_neg (by simp)]
          refine awp_skip ?_
          refine awp_seq ?_
          refine awp_seq ?_
          refine awp_region ?_
          refine al_d rfl rfl rfl (by exact (by exact opd_field_ref rfl fo32_0 rfl rfl rfl rfl)) ?_
          refine al_d rfl rfl rfl (by exact (by exact opd_load1_ref rfl Tryz.isAgg3 rfl rfl rfl rfl rfl)) ?_
          refine al_nil ?_
          refine awp_block ?_
          refine awp_seq ?_
          refine awp_region ?_
          refine al_d rfl rfl rfl (by exact opd_eql rfl rfl rfl) ?_
          refine al_d rfl rfl rfl (by exact opd_assign rfl rfl) ?_
          refine al_nil ?_
          refine awp_cond rfl (fun hc5 => ?_) (fun hc5 => ?_)
          -- cond 5
          · cases hc5
          · skip
            refine awp_seq ?_
            refine awp_region ?_
            refine al_d rfl rfl rfl (by exact opd_eql rfl rfl rfl) ?_
            refine al_d rfl rfl rfl (by exact opd_assign rfl rfl) ?_
            refine al_nil ?_
            refine awp_cond rfl (fun hc6 => ?_) (fun hc6 => ?_)
            -- cond 6
            · skip
              refine awp_seq ?_
              refine awp_region ?_
              refine al_d rfl rfl rfl (by exact (by exact opd_field_ref rfl fo30_4 rfl rfl rfl rfl)) ?_
              refine al_d rfl rfl rfl (by exact (by exact opd_load1_ref rfl Tryz.isAgg28 rfl rfl rfl rfl rfl)) ?_
              refine al_d rfl rfl rfl (by exact (by exact opd_field_ref rfl fo32_5 rfl rfl rfl rfl)) ?_
              refine al_d rfl rfl rfl (by exact (by exact opd_load1_ref rfl Tryz.isAgg9 rfl rfl rfl rfl rfl)) ?_
              refine al_d rfl rfl rfl (by exact (by exact opd_field_ref rfl fo32_6 rfl rfl rfl rfl)) ?_
              refine al_d rfl rfl rfl (by exact (by exact opd_load1_ref rfl Tryz.isAgg9 rfl rfl rfl rfl rfl)) ?_
              refine al_d rfl rfl rfl (by exact opr_call rfl rfl Tryz.call106 rfl (tagSet_c o.tags key val _ hoo.2.1 hk hv ho2)) ?_
              refine al_d rfl rfl rfl (by exact opd_move rfl rfl) ?_
              refine al_d rfl rfl rfl (by exact opd_extract rfl rfl rfl) ?_
              refine al_d rfl rfl rfl (by exact opd_extract rfl rfl rfl) ?_
              refine al_d rfl rfl rfl (by exact opd_assign rfl rfl) ?_
              refine al_d rfl rfl rfl (by exact opd_assign rfl rfl) ?_
              refine al_nil ?_
              refine awp_seq ?_
              refine awp_region ?_
              refine al_d rfl rfl rfl (by exact opd_move rfl rfl) ?_
              refine al_d rfl rfl rfl (by exact (by exact opd_field_ref rfl fo30_4 rfl rfl rfl rfl)) ?_
              refine al_n rfl rfl (by exact (by exact x_store1 rfl Tryz.sizeOf28 rfl rfl rfl rfl rfl rfl (Nat.le_of_ble_eq_true rfl) rfl rfl)) ?_
              refine al_nil ?_
              refine awp_seq ?_
              refine awp_region ?_
              refine al_d rfl rfl rfl (by exact opd_move rfl rfl) ?_
              refine al_d rfl rfl rfl (by exact opd_neq rfl rfl rfl) ?_
              refine al_nil ?_
              refine awp_cond rfl (fun hc7 => ?_) (fun hc7 => ?_)
              -- cond 7
              · rw [if_pos hc7]
                refine awp_seq ?_
                refine awp_region ?_
                refine al_d rfl rfl rfl (by exact opd_move rfl rfl) ?_
                refine al_d rfl rfl rfl (by exact x_build rfl bo99 rfl rfl) ?_
                refine al_n rfl rfl (by exact (by exact x_store_all rfl Tryz.sizeOf99 rfl rfl rfl rfl rfl rfl rfl rfl)) ?_
                refine al_nil ?_
                refine awp_ret ?_
                -- return
                refine aret1 (H' := (cH m)) (by exact .inr rfl) rfl (rval_cell rfl Tryz.isAgg99 Tryz.sizeOf99 rfl rfl rfl rfl rfl) (Fin.cl (m := m) (encRes (errR (gSet o.tags key val).2)) rfl rfl) ?_
                exact ⟨rfl, rfl⟩
              · rw [if_neg (by rw [hc7]; simp)]
                refine awp_skip ?_
                refine awp_seq ?_
                refine awp_region ?_
                refine al_d rfl rfl rfl (by exact (by exact opd_loadn_ref rfl Tryz.isAgg30 Tryz.sizeOf30 rfl rfl rfl rfl rfl rfl)) ?_
                refine al_d rfl rfl rfl (by exact (by exact x_buildSlice ([(⟨o.id, o.kind, o.x, o.y, o.refs, (gSet o.tags key val).1⟩ : GObj)].map encObj) rfl so22 rfl rfl rfl rfl rfl (by simp [encObj]))) ?_
                refine al_d rfl rfl rfl (by exact x_build rfl bo99 rfl rfl) ?_
                refine al_n rfl rfl (by exact (by exact x_store_all rfl Tryz.sizeOf99 rfl rfl rfl rfl rfl rfl rfl rfl)) ?_
                refine al_nil ?_
                refine awp_ret ?_
                -- return
                refine aret1 (H' := (cH m)) (by exact .inr rfl) rfl (rval_cell rfl Tryz.isAgg99 Tryz.sizeOf99 rfl rfl rfl rfl rfl) (Fin.cl (m := m) (encRes ⟨[⟨o.id, o.kind, o.x, o.y, o.refs, (gSet o.tags key val).1⟩], sNil, 0⟩) rfl rfl) ?_
                exact ⟨rfl, rfl⟩
            · cases hc6
theorem perf4_c (m : List GObj) (id other node : ByteArray) (x y : Int) (key val : ByteArray) (refs : List ByteArray) (obj : GObj) (hm : okM m) (ho9 : ∀ o, o ∈ m → o.refs.length < 549755813888 ∧ o.tags.length < 1099511627776) (hrf : refs.length < 4611686018427387904 ∧ ∀ s ∈ refs, s.size < 4611686018427387904) :
    ACalls Tryz.prog 60 [.ref 14 0 0 0, av (encEdit ⟨4, id, other, node, x, y, key, val, refs, obj⟩)] (cH m) (fun r H' => r = av (encRes (gPerform m ⟨4, id, other, node, x, y, key, val, refs, obj⟩)) ∧ H' = cH m) := by
  rw [gPerform, if_neg (show ¬ ((4 : Int) = 1) by decide)]
  simp only
  refine ACalls.body Tryz.func60 rfl Tryz.ntmps60 (Nat.le_of_ble_eq_true rfl) ?_
  refine awp_seq ?_
  refine awp_region ?_
  refine al_d rfl rfl rfl (by exact opd_box (id := 3) rfl rfl rfl rfl rfl) ?_
  refine al_d rfl rfl rfl (by exact x_alloc (id := 4) rfl zo99 rfl rfl) ?_
  refine al_nil ?_
  refine awp_seq ?_
  refine awp_seq ?_
  refine awp_region ?_
  refine al_d rfl rfl rfl (by exact (by exact opd_field_ref rfl fo32_0 rfl rfl rfl rfl)) ?_
  refine al_d rfl rfl rfl (by exact (by exact opd_load1_ref rfl Tryz.isAgg3 rfl rfl rfl rfl rfl)) ?_
  refine al_d rfl rfl rfl (by exact opd_eql rfl rfl rfl) ?_
  refine al_nil ?_
  refine awp_cond rfl (fun hc1 => ?_) (fun hc1 => ?_)
  -- cond 1
  · cases hc1
  · skip
    cases hf : m.find? (idIs id) with
    | none =>
      refine awp_skip ?_
      refine awp_seq ?_
      refine awp_drawc follows ?_
      refine dc_cons (DStep.q rfl (by exact opd_move rfl rfl)) rfl ?_
      refine dc_cons (DStep.q rfl (by exact (by exact opd_nilCheck_ref rfl rfl rfl rfl))) rfl ?_
      refine dc_cons (DStep.q rfl (by exact (by exact opd_field_ref rfl fo91_1 rfl rfl rfl rfl))) rfl ?_
      refine dc_cons (DStep.q rfl (by exact (by exact opd_load1_ref rfl Tryz.isAgg89 rfl rfl rfl rfl rfl))) rfl ?_
      refine dc_cons (DStep.q rfl (by exact (by exact opd_field_ref rfl fo32_1 rfl rfl rfl rfl))) rfl ?_
      refine dc_cons (DStep.q rfl (by exact (by exact opd_load1_ref rfl Tryz.isAgg9 rfl rfl rfl rfl rfl))) rfl ?_
      refine dc_cons (DStep.q rfl (by exact lk_none rfl rfl rfl rfl (kindOf_none hf))) rfl ?_
      refine dc_cons (DStep.q rfl (by exact opd_move rfl rfl)) rfl ?_
      refine dc_cons (DStep.q rfl (by exact opd_extract rfl rfl rfl)) rfl ?_
      refine dc_cons (DStep.q rfl (by exact opd_extract rfl rfl rfl)) rfl ?_
      refine dc_cons (DStep.q rfl (by exact opd_assign rfl rfl)) rfl ?_
      refine dc_cons (DStep.q rfl (by exact opd_assign rfl rfl)) rfl ?_
      refine dc_nil ⟨by kernel_rfl, ?_⟩
      refine awp_seq ?_
      refine awp_seq ?_
      refine awp_drawc follows ?_
      refine dc_cons (DStep.q rfl (by exact opd_move rfl rfl)) rfl ?_
      refine dc_cons (DStep.q rfl (by exact (by exact opd_nilCheck_ref rfl rfl rfl rfl))) rfl ?_
      refine dc_cons (DStep.q rfl (by exact (by exact opd_field_ref rfl fo91_1 rfl rfl rfl rfl))) rfl ?_
      refine dc_cons (DStep.q rfl (by exact (by exact opd_load1_ref rfl Tryz.isAgg89 rfl rfl rfl rfl rfl))) rfl ?_
      refine dc_cons (DStep.q rfl (by exact (by exact opd_field_ref rfl fo32_2 rfl rfl rfl rfl))) rfl ?_
      refine dc_cons (DStep.q rfl (by exact (by exact opd_load1_ref rfl Tryz.isAgg9 rfl rfl rfl rfl rfl))) rfl ?_
      refine dc_cons (DStep.q rfl (by exact lk_c rfl rfl rfl rfl)) rfl ?_
      refine dc_cons (DStep.q rfl (by exact opd_move rfl rfl)) rfl ?_
      refine dc_cons (DStep.q rfl (by exact opd_extract rfl rfl rfl)) rfl ?_
      refine dc_cons (DStep.q rfl (by exact opd_extract rfl rfl rfl)) rfl ?_
      refine dc_cons (DStep.q rfl (by exact opd_assign rfl rfl)) rfl ?_
      refine dc_cons (DStep.q rfl (by exact opd_assign rfl rfl)) rfl ?_
      refine dc_nil ⟨by kernel_rfl, ?_⟩
      refine awp_seq ?_
      refine awp_region ?_
      refine al_d rfl rfl rfl (by exact opd_move rfl rfl) ?_
      refine al_d rfl rfl rfl (by exact opd_not rfl rfl) ?_
      refine al_d rfl rfl rfl (by exact opd_move rfl rfl) ?_
      refine al_off rfl rfl rfl (by rfl) rfl ?_
      refine al_off rfl rfl rfl (by rfl) rfl ?_
      refine al_off rfl rfl rfl (by rfl) rfl ?_
      refine al_off rfl rfl rfl (by rfl) rfl ?_
      refine al_offu rfl rfl rfl rfl ?_
      refine al_offu rfl rfl rfl rfl ?_
      refine al_off rfl rfl rfl (by rfl) rfl ?_
      refine al_d rfl rfl rfl (by exact (by exact opd_pick_t rfl rfl rfl)) ?_
      refine al_nil ?_
      refine awp_cond rfl (fun hc2 => ?_) (fun hc2 => ?_)
      -- cond 2
      · skip
        refine awp_seq ?_
        refine awp_region ?_
        refine al_d rfl rfl rfl (by exact x_build rfl bo99 rfl rfl) ?_
        refine al_n rfl rfl (by exact (by exact x_store_all rfl Tryz.sizeOf99 rfl rfl rfl rfl rfl rfl rfl rfl)) ?_
        refine al_nil ?_
        refine awp_ret ?_
        -- return
        refine aret1 (H' := (cH m)) (by exact .inr rfl) rfl (rval_cell rfl Tryz.isAgg99 Tryz.sizeOf99 rfl rfl rfl rfl rfl) (Fin.cl (m := m) (encRes (errR 11)) rfl rfl) ?_
        exact ⟨rfl, rfl⟩
      · cases hc2
    | some o =>
      simp only [show decide ((4 : Int) = 7) = false from rfl, Bool.false_and, Bool.false_eq_true, if_false, if_true]
      rw [if_neg (show ¬ ((4 : Int) = 2) by decide), if_neg (show ¬ ((4 : Int) = 3) by decide)]
      have hom := List.mem_of_find?_eq_some hf
      obtain ⟨ho1, ho2⟩ := ho9 o hom
      have hoo := hm.2 o hom
      refine awp_skip ?_
      refine awp_seq ?_
      refine awp_drawc follows ?_
      refine dc_cons (DStep.q rfl (by exact opd_move rfl rfl)) rfl ?_
      refine dc_cons (DStep.q rfl (by exact (by exact opd_nilCheck_ref rfl rfl rfl rfl))) rfl ?_
      refine dc_cons (DStep.q rfl (by exact (by exact opd_field_ref rfl fo91_1 rfl rfl rfl rfl))) rfl ?_
      refine dc_cons (DStep.q rfl (by exact (by exact opd_load1_ref rfl Tryz.isAgg89 rfl rfl rfl rfl rfl))) rfl ?_
      refine dc_cons (DStep.q rfl (by exact (by exact opd_field_ref rfl fo32_1 rfl rfl rfl rfl))) rfl ?_
      refine dc_cons (DStep.q rfl (by exact (by exact opd_load1_ref rfl Tryz.isAgg9 rfl rfl rfl rfl rfl))) rfl ?_
      refine dc_cons (DStep.q rfl (by exact lk_some rfl rfl rfl rfl (kindOf_some hf))) rfl ?_
      refine dc_cons (DStep.q rfl (by exact opd_move rfl rfl)) rfl ?_
      refine dc_cons (DStep.q rfl (by exact opd_extract rfl rfl rfl)) rfl ?_
      refine dc_cons (DStep.q rfl (by exact opd_extract rfl rfl rfl)) rfl ?_
      refine dc_cons (DStep.q rfl (by exact opd_assign rfl rfl)) rfl ?_
      refine dc_cons (DStep.q rfl (by exact opd_assign rfl rfl)) rfl ?_
      refine dc_nil ⟨by kernel_rfl, ?_⟩
      refine awp_seq ?_
      refine awp_seq ?_
      refine awp_drawc follows ?_
      refine dc_cons (DStep.q rfl (by exact opd_move rfl rfl)) rfl ?_
      refine dc_cons (DStep.q rfl (by exact (by exact opd_nilCheck_ref rfl rfl rfl rfl))) rfl ?_
      refine dc_cons (DStep.q rfl (by exact (by exact opd_field_ref rfl fo91_1 rfl rfl rfl rfl))) rfl ?_
      refine dc_cons (DStep.q rfl (by exact (by exact opd_load1_ref rfl Tryz.isAgg89 rfl rfl rfl rfl rfl))) rfl ?_
      refine dc_cons (DStep.q rfl (by exact (by exact opd_field_ref rfl fo32_2 rfl rfl rfl rfl))) rfl ?_
      refine dc_cons (DStep.q rfl (by exact (by exact opd_load1_ref rfl Tryz.isAgg9 rfl rfl rfl rfl rfl))) rfl ?_
      refine dc_cons (DStep.q rfl (by exact lk_c rfl rfl rfl rfl)) rfl ?_
      refine dc_cons (DStep.q rfl (by exact opd_move rfl rfl)) rfl ?_
      refine dc_cons (DStep.q rfl (by exact opd_extract rfl rfl rfl)) rfl ?_
      refine dc_cons (DStep.q rfl (by exact opd_extract rfl rfl rfl)) rfl ?_
      refine dc_cons (DStep.q rfl (by exact opd_assign rfl rfl)) rfl ?_
      refine dc_cons (DStep.q rfl (by exact opd_assign rfl rfl)) rfl ?_
      refine dc_nil ⟨by kernel_rfl, ?_⟩
      refine awp_seq ?_
      refine awp_region ?_
      refine al_d rfl rfl rfl (by exact opd_move rfl rfl) ?_
      refine al_d rfl rfl rfl (by exact opd_not rfl rfl) ?_
      refine al_d rfl rfl rfl (by exact opd_move rfl rfl) ?_
      refine al_ond rfl rfl rfl (by rfl) rfl rfl (by exact (by exact opd_field_ref rfl fo32_0 rfl rfl rfl rfl)) ?_
      refine al_ond rfl rfl rfl (by rfl) rfl rfl (by exact (by exact opd_load1_ref rfl Tryz.isAgg3 rfl rfl rfl rfl rfl)) ?_
      refine al_ond rfl rfl rfl (by rfl) rfl rfl (by exact opd_eql rfl rfl rfl) ?_
      refine al_ond rfl rfl rfl (by rfl) rfl rfl (by exact opd_move rfl rfl) ?_
      refine al_off rfl rfl rfl (by rfl) rfl ?_
      refine al_off rfl rfl rfl (by rfl) rfl ?_
      refine al_ond rfl rfl rfl (by rfl) rfl rfl (by exact (by exact opd_pick_f rfl rfl rfl)) ?_
      refine al_d rfl rfl rfl (by exact (by exact opd_pick_f rfl rfl rfl)) ?_
      refine al_nil ?_
      refine awp_cond rfl (fun hc3 => ?_) (fun hc3 => ?_)
      -- cond 3
      · cases hc3
      · skip
        refine awp_skip ?_
        refine awp_seq ?_
        refine awp_region ?_
        refine al_d rfl rfl rfl (by exact opd_move rfl rfl) ?_
        refine al_d rfl rfl rfl (by exact (by exact opd_field_ref rfl fo32_1 rfl rfl rfl rfl)) ?_
        refine al_d rfl rfl rfl (by exact (by exact opd_load1_ref rfl Tryz.isAgg9 rfl rfl rfl rfl rfl)) ?_
        refine al_d rfl rfl rfl (by exact opr_call rfl rfl Tryz.call38 rfl (get_c m id o _ rfl rfl hm hf)) ?_
        refine al_d rfl rfl rfl (by exact x_alloc (id := 11) rfl zo30 rfl rfl) ?_
        refine al_n rfl rfl (by exact (by exact x_store_all rfl Tryz.sizeOf30 rfl rfl rfl rfl rfl rfl rfl rfl)) ?_
        refine al_nil ?_
        refine awp_seq ?_
        refine awp_region ?_
        refine al_d rfl rfl rfl (by exact opd_makeMap (id := 77) (intK .i64) rfl rfl) ?_
        refine al_d rfl rfl rfl (by exact (by exact x_buildSlice ([(1 : Int)].map encInt) rfl so134 rfl rfl rfl rfl rfl (by simp [encInt]))) ?_
        refine al_n rfl rfl (by exact x_mapUpdate (κ := (intK .i64)) (.inr rfl) Tryz.underlying135 Tryz.underlying3 rfl rfl rfl rfl rfl rfl rfl rfl) ?_
        refine al_d rfl rfl rfl (by exact (by exact x_buildSlice ([(2 : Int), 3, 4].map encInt) rfl so134 rfl rfl rfl rfl rfl (by simp [encInt]))) ?_
        refine al_n rfl rfl (by exact x_mapUpdate (κ := (intK .i64)) (.inr rfl) Tryz.underlying135 Tryz.underlying3 rfl rfl rfl rfl rfl rfl rfl rfl) ?_
        refine al_d rfl rfl rfl (by exact (by exact x_buildSlice ([(2 : Int)].map encInt) rfl so134 rfl rfl rfl rfl rfl (by simp [encInt]))) ?_
        refine al_n rfl rfl (by exact x_mapUpdate (κ := (intK .i64)) (.inr rfl) Tryz.underlying135 Tryz.underlying3 rfl rfl rfl rfl rfl rfl rfl rfl) ?_
        refine al_d rfl rfl rfl (by exact (by exact x_buildSlice ([(2 : Int)].map encInt) rfl so134 rfl rfl rfl rfl rfl (by simp [encInt]))) ?_
        refine al_n rfl rfl (by exact x_mapUpdate (κ := (intK .i64)) (.inr rfl) Tryz.underlying135 Tryz.underlying3 rfl rfl rfl rfl rfl rfl rfl rfl) ?_
        refine al_d rfl rfl rfl (by exact opd_move rfl rfl) ?_
        refine al_d rfl rfl rfl (by exact opd_assign rfl rfl) ?_
        refine al_nil ?_
        refine awp_seq ?_
        refine awp_seq ?_
        refine awp_region ?_
        refine al_d rfl rfl rfl (by exact opd_move rfl rfl) ?_
        refine al_d rfl rfl rfl (by exact (by exact opd_field_ref rfl fo32_0 rfl rfl rfl rfl)) ?_
        refine al_d rfl rfl rfl (by exact (by exact opd_load1_ref rfl Tryz.isAgg3 rfl rfl rfl rfl rfl)) ?_
        refine al_d rfl rfl rfl (by exact opd_lookup_ok (κ := (intK .i64)) rfl Tryz.underlying135 Tryz.underlying3 rfl rfl rfl rfl rfl Tryz.zeroValue134 (.inl rfl)) ?_
        refine al_d rfl rfl rfl (by exact opd_move rfl rfl) ?_
        refine al_d rfl rfl rfl (by exact opd_extract rfl rfl rfl) ?_
        refine al_d rfl rfl rfl (by exact opd_extract rfl rfl rfl) ?_
        refine al_d rfl rfl rfl (by exact opd_assign rfl rfl) ?_
        refine al_d rfl rfl rfl (by exact opd_assign rfl rfl) ?_
        refine al_nil ?_
        refine awp_seq ?_
        refine awp_region ?_
        refine al_d rfl rfl rfl (by exact opd_move rfl rfl) ?_
        refine al_d rfl rfl rfl (by exact opd_move rfl rfl) ?_
        refine al_ond rfl rfl rfl (by rfl) rfl rfl (by exact opd_move rfl rfl) ?_
        refine al_ond rfl rfl rfl (by rfl) rfl rfl (by exact (by exact opd_field_ref rfl fo30_1 rfl rfl rfl rfl)) ?_
        refine al_ond rfl rfl rfl (by rfl) rfl rfl (by exact (by exact opd_load1_ref rfl Tryz.isAgg3 rfl rfl rfl rfl rfl)) ?_
        refine al_ond rfl rfl rfl (by rfl) rfl rfl (by exact opr_call rfl rfl Tryz.call105 rfl (containsI_c [(2 : Int), 3, 4] o.kind _ (by decide))) ?_
        refine al_ond rfl rfl rfl (by rfl) rfl rfl (by exact opd_not rfl rfl) ?_
        refine al_d rfl rfl rfl (by exact (by exact opd_pick_t rfl rfl rfl)) ?_
        refine al_nil ?_
        refine awp_cond rfl (fun hc4 => ?_) (fun hc4 => ?_)
        -- cond 4
        · have hb : (!fitsB 4 o.kind) = true := by
            have h := hc4
            rw [← h]
            simp [fitsB]
          rw [hb, if_pos rfl]
          refine awp_seq ?_
          refine awp_region ?_
          refine al_d rfl rfl rfl (by exact x_build rfl bo99 rfl rfl) ?_
          refine al_n rfl rfl (by exact (by exact x_store_all rfl Tryz.sizeOf99 rfl rfl rfl rfl rfl rfl rfl rfl)) ?_
          refine al_nil ?_
          refine awp_ret ?_
          -- return
          refine aret1 (H' := (cH m)) (by exact .inr rfl) rfl (rval_cell rfl Tryz.isAgg99 Tryz.sizeOf99 rfl rfl rfl rfl rfl) (Fin.cl (m := m) (encRes (errR 13)) rfl rfl) ?_
          exact ⟨rfl, rfl⟩
        · have hb : (!fitsB 4 o.kind) = false := by
            have h := hc4
            rw [← h]
            simp [fitsB]
          rw [hb, if_neg (by simp)]
          refine awp_skip ?_
          refine awp_seq ?_
          refine awp_seq ?_
          refine awp_region ?_
          refine al_d rfl rfl rfl (by exact (by exact opd_field_ref rfl fo32_0 rfl rfl rfl rfl)) ?_
          refine al_d rfl rfl rfl (by exact (by exact opd_load1_ref rfl Tryz.isAgg3 rfl rfl rfl rfl rfl)) ?_
          refine al_nil ?_
          refine awp_block ?_
          refine awp_seq ?_
          refine awp_region ?_
          refine al_d rfl rfl rfl (by exact opd_eql rfl rfl rfl) ?_
          refine al_d rfl rfl rfl (by exact opd_assign rfl rfl) ?_
          refine al_nil ?_
          refine awp_cond rfl (fun hc5 => ?_) (fun hc5 => ?_)
          -- cond 5
          · cases hc5
          · skip
            refine awp_seq ?_
            refine awp_region ?_
            refine al_d rfl rfl rfl (by exact opd_eql rfl rfl rfl) ?_
            refine al_d rfl rfl rfl (by exact opd_assign rfl rfl) ?_
            refine al_nil ?_
            refine awp_cond rfl (fun hc6 => ?_) (fun hc6 => ?_)
            -- cond 6
            · cases hc6
            · skip
              refine awp_seq ?_
              refine awp_region ?_
              refine al_d rfl rfl rfl (by exact opd_eql rfl rfl rfl) ?_
              refine al_d rfl rfl rfl (by exact opd_assign rfl rfl) ?_
              refine al_nil ?_
              refine awp_cond rfl (fun hc7 => ?_) (fun hc7 => ?_)
              -- cond 7
              · skip
                refine awp_seq ?_
                refine awp_seq ?_
                refine awp_region ?_
                refine al_d rfl rfl rfl (by exact (by exact opd_field_ref rfl fo32_7 rfl rfl rfl rfl)) ?_
                refine al_d rfl rfl rfl (by exact (by exact opd_load1_ref rfl Tryz.isAgg27 rfl rfl rfl rfl rfl)) ?_
                refine al_d rfl rfl rfl (by exact (by exact opd_field_ref rfl fo30_3 rfl rfl rfl rfl)) ?_
                refine al_n rfl rfl (by exact (by exact x_store1 rfl Tryz.sizeOf27 rfl rfl rfl rfl rfl rfl (Nat.le_of_ble_eq_true rfl) rfl rfl)) ?_
                refine al_nil ?_
                refine awp_seq ?_
                refine awp_region ?_
                refine al_d rfl rfl rfl (by exact (by exact opd_loadn_ref rfl Tryz.isAgg30 Tryz.sizeOf30 rfl rfl rfl rfl rfl rfl)) ?_
                refine al_d rfl rfl rfl (by exact opr_call rfl rfl Tryz.call47 rfl (objValid_c ⟨o.id, o.kind, o.x, o.y, refs, o.tags⟩ _ ⟨hoo.1, hoo.2.1, hrf.1, hrf.2⟩)) ?_
                refine al_d rfl rfl rfl (by exact opd_not rfl rfl) ?_
                refine al_nil ?_
                refine awp_cond rfl (fun hc8 => ?_) (fun hc8 => ?_)
                -- cond 8
                · rw [if_pos hc8]
                  refine awp_seq ?_
                  refine awp_region ?_
                  refine al_d rfl rfl rfl (by exact x_build rfl bo99 rfl rfl) ?_
                  refine al_n rfl rfl (by exact (by exact x_store_all rfl Tryz.sizeOf99 rfl rfl rfl rfl rfl rfl rfl rfl)) ?_
                  refine al_nil ?_
                  refine awp_ret ?_
                  -- return
                  refine aret1 (H' := (cH m)) (by exact .inr rfl) rfl (rval_cell rfl Tryz.isAgg99 Tryz.sizeOf99 rfl rfl rfl rfl rfl) (Fin.cl (m := m) (encRes (errR 1)) rfl rfl) ?_
                  exact ⟨rfl, rfl⟩
                · rw [if_neg (by rw [hc8]; simp)]
                  refine awp_skip ?_
                  refine awp_seq ?_
                  refine awp_drawc follows ?_
                  refine dc_cons (r := ⟨_, some [11], []⟩) (DStep.plain rfl (fun H1 hH => by exact (by exact opd_loadn_ref rfl Tryz.isAgg30 Tryz.sizeOf30 rfl ((hH _ rfl).trans rfl) rfl rfl rfl rfl))) rfl ?_
                  refine dc_cons (r := ⟨_, some [], []⟩) (DStep.plain rfl (fun H1 hH => by exact (by exact x_buildSlice ([(⟨o.id, o.kind, o.x, o.y, refs, o.tags⟩ : GObj)].map encObj) rfl so22 rfl rfl rfl rfl rfl (by simp [encObj])))) rfl ?_
                  refine dc_cons (r := ⟨_, some [14], []⟩) (DStep.plain rfl (fun H1 hH => by exact opd_move rfl rfl)) rfl ?_
                  refine dc_cons (r := ⟨_, some [11], []⟩) (DStep.plain rfl (fun H1 hH => by exact (by exact opd_loadn_ref rfl Tryz.isAgg30 Tryz.sizeOf30 rfl ((hH _ rfl).trans rfl) rfl rfl rfl rfl))) rfl ?_
                  refine dc_cons (r := ⟨_, some [12, 14], []⟩) (DStep.plain rfl (fun H1 hH => by exact opr_call rfl rfl Tryz.call59 rfl (refsC_c m ⟨o.id, o.kind, o.x, o.y, refs, o.tags⟩ _ ((hH 14 rfl).trans rfl) ((hH 12 rfl).trans rfl) hrf.1))) rfl ?_
                  refine dc_cons (r := ⟨_, some [], []⟩) (DStep.plain rfl (fun H1 hH => by exact x_build rfl bo99 rfl rfl)) rfl ?_
                  refine dc_cons (r := ⟨_, some [4], [_]⟩) (DStep.plain rfl (fun H1 hH => by exact (by exact x_store_all rfl Tryz.sizeOf99 rfl rfl rfl rfl ((hH _ rfl).trans rfl) rfl rfl rfl))) rfl ?_
                  refine dc_nil ⟨by kernel_rfl, ?_⟩
                  refine awp_ret ?_
                  -- return
                  refine aret1 (H' := (cH m)) (by exact .inr rfl) rfl (rval_cell rfl Tryz.isAgg99 Tryz.sizeOf99 rfl rfl rfl rfl rfl) (Fin.cl (m := m) (encRes ⟨[⟨o.id, o.kind, o.x, o.y, refs, o.tags⟩], sNil, refErr m o.kind 0 refs⟩) rfl rfl) ?_
                  exact ⟨rfl, rfl⟩
              · cases hc7
theorem perf5_c (m : List GObj) (id other node : ByteArray) (x y : Int) (key val : ByteArray) (refs : List ByteArray) (obj : GObj) (hm : okM m) (ho9 : ∀ o, o ∈ m → o.refs.length < 549755813888 ∧ o.tags.length < 1099511627776) :
    ACalls Tryz.prog 60 [.ref 14 0 0 0, av (encEdit ⟨5, id, other, node, x, y, key, val, refs, obj⟩)] (cH m) (fun r H' => r = av (encRes (gPerform m ⟨5, id, other, node, x, y, key, val, refs, obj⟩)) ∧ H' = cH m) := by
  rw [gPerform, if_neg (show ¬ ((5 : Int) = 1) by decide)]
  simp only
  refine ACalls.body Tryz.func60 rfl Tryz.ntmps60 (Nat.le_of_ble_eq_true rfl) ?_
  refine awp_seq ?_
  refine awp_region ?_
  refine al_d rfl rfl rfl (by exact opd_box (id := 3) rfl rfl rfl rfl rfl) ?_
  refine al_d rfl rfl rfl (by exact x_alloc (id := 4) rfl zo99 rfl rfl) ?_
  refine al_nil ?_
  refine awp_seq ?_
  refine awp_seq ?_
  refine awp_region ?_
  refine al_d rfl rfl rfl (by exact (by exact opd_field_ref rfl fo32_0 rfl rfl rfl rfl)) ?_
  refine al_d rfl rfl rfl (by exact (by exact opd_load1_ref rfl Tryz.isAgg3 rfl rfl rfl rfl rfl)) ?_
  refine al_d rfl rfl rfl (by exact opd_eql rfl rfl rfl) ?_
  refine al_nil ?_
  refine awp_cond rfl (fun hc1 => ?_) (fun hc1 => ?_)
  -- cond 1
  · cases hc1
  · skip
    cases hf : m.find? (idIs id) with
    | none =>
      refine awp_skip ?_
      refine awp_seq ?_
      refine awp_drawc follows ?_
      refine dc_cons (DStep.q rfl (by exact opd_move rfl rfl)) rfl ?_
      refine dc_cons (DStep.q rfl (by exact (by exact opd_nilCheck_ref rfl rfl rfl rfl))) rfl ?_
      refine dc_cons (DStep.q rfl (by exact (by exact opd_field_ref rfl fo91_1 rfl rfl rfl rfl))) rfl ?_
      refine dc_cons (DStep.q rfl (by exact (by exact opd_load1_ref rfl Tryz.isAgg89 rfl rfl rfl rfl rfl))) rfl ?_
      refine dc_cons (DStep.q rfl (by exact (by exact opd_field_ref rfl fo32_1 rfl rfl rfl rfl))) rfl ?_
      refine dc_cons (DStep.q rfl (by exact (by exact opd_load1_ref rfl Tryz.isAgg9 rfl rfl rfl rfl rfl))) rfl ?_
      refine dc_cons (DStep.q rfl (by exact lk_none rfl rfl rfl rfl (kindOf_none hf))) rfl ?_
      refine dc_cons (DStep.q rfl (by exact opd_move rfl rfl)) rfl ?_
      refine dc_cons (DStep.q rfl (by exact opd_extract rfl rfl rfl)) rfl ?_
      refine dc_cons (DStep.q rfl (by exact opd_extract rfl rfl rfl)) rfl ?_
      refine dc_cons (DStep.q rfl (by exact opd_assign rfl rfl)) rfl ?_
      refine dc_cons (DStep.q rfl (by exact opd_assign rfl rfl)) rfl ?_
      refine dc_nil ⟨by kernel_rfl, ?_⟩
      refine awp_seq ?_
      refine awp_seq ?_
      refine awp_drawc follows ?_
      refine dc_cons (DStep.q rfl (by exact opd_move rfl rfl)) rfl ?_
      refine dc_cons (DStep.q rfl (by exact (by exact opd_nilCheck_ref rfl rfl rfl rfl))) rfl ?_
      refine dc_cons (DStep.q rfl (by exact (by exact opd_field_ref rfl fo91_1 rfl rfl rfl rfl))) rfl ?_
      refine dc_cons (DStep.q rfl (by exact (by exact opd_load1_ref rfl Tryz.isAgg89 rfl rfl rfl rfl rfl))) rfl ?_
      refine dc_cons (DStep.q rfl (by exact (by exact opd_field_ref rfl fo32_2 rfl rfl rfl rfl))) rfl ?_
      refine dc_cons (DStep.q rfl (by exact (by exact opd_load1_ref rfl Tryz.isAgg9 rfl rfl rfl rfl rfl))) rfl ?_
      refine dc_cons (DStep.q rfl (by exact lk_c rfl rfl rfl rfl)) rfl ?_
      refine dc_cons (DStep.q rfl (by exact opd_move rfl rfl)) rfl ?_
      refine dc_cons (DStep.q rfl (by exact opd_extract rfl rfl rfl)) rfl ?_
      refine dc_cons (DStep.q rfl (by exact opd_extract rfl rfl rfl)) rfl ?_
      refine dc_cons (DStep.q rfl (by exact opd_assign rfl rfl)) rfl ?_
      refine dc_cons (DStep.q rfl (by exact opd_assign rfl rfl)) rfl ?_
      refine dc_nil ⟨by kernel_rfl, ?_⟩
      refine awp_seq ?_
      refine awp_region ?_
      refine al_d rfl rfl rfl (by exact opd_move rfl rfl) ?_
      refine al_d rfl rfl rfl (by exact opd_not rfl rfl) ?_
      refine al_d rfl rfl rfl (by exact opd_move rfl rfl) ?_
      refine al_off rfl rfl rfl (by rfl) rfl ?_
      refine al_off rfl rfl rfl (by rfl) rfl ?_
      refine al_off rfl rfl rfl (by rfl) rfl ?_
      refine al_off rfl rfl rfl (by rfl) rfl ?_
      refine al_offu rfl rfl rfl rfl ?_
      refine al_offu rfl rfl rfl rfl ?_
      refine al_off rfl rfl rfl (by rfl) rfl ?_
      refine al_d rfl rfl rfl (by exact (by exact opd_pick_t rfl rfl rfl)) ?_
      refine al_nil ?_
      refine awp_cond rfl (fun hc2 => ?_) (fun hc2 => ?_)
      -- cond 2
      · skip
        refine awp_seq ?_
        refine awp_region ?_
        refine al_d rfl rfl rfl (by exact x_build rfl bo99 rfl rfl) ?_
        refine al_n rfl rfl (by exact (by exact x_store_all rfl Tryz.sizeOf99 rfl rfl rfl rfl rfl rfl rfl rfl)) ?_
        refine al_nil ?_
        refine awp_ret ?_
        -- return
        refine aret1 (H' := (cH m)) (by exact .inr rfl) rfl (rval_cell rfl Tryz.isAgg99 Tryz.sizeOf99 rfl rfl rfl rfl rfl) (Fin.cl (m := m) (encRes (errR 11)) rfl rfl) ?_
        exact ⟨rfl, rfl⟩
      · cases hc2
    | some o =>
      simp only [show decide ((5 : Int) = 7) = false from rfl, Bool.false_and, Bool.false_eq_true, if_false, if_true]
      rw [if_neg (show ¬ ((5 : Int) = 2) by decide), if_neg (show ¬ ((5 : Int) = 3) by decide), if_neg (show ¬ ((5 : Int) = 4) by decide)]
      have hom := List.mem_of_find?_eq_some hf
      obtain ⟨ho1, ho2⟩ := ho9 o hom
      have hoo := hm.2 o hom
      refine awp_skip ?_
      refine awp_seq ?_
      refine awp_drawc follows ?_
      refine dc_cons (DStep.q rfl (by exact opd_move rfl rfl)) rfl ?_
      refine dc_cons (DStep.q rfl (by exact (by exact opd_nilCheck_ref rfl rfl rfl rfl))) rfl ?_
      refine dc_cons (DStep.q rfl (by exact (by exact opd_field_ref rfl fo91_1 rfl rfl rfl rfl))) rfl ?_
      refine dc_cons (DStep.q rfl (by exact (by exact opd_load1_ref rfl Tryz.isAgg89 rfl rfl rfl rfl rfl))) rfl ?_
      refine dc_cons (DStep.q rfl (by exact (by exact opd_field_ref rfl fo32_1 rfl rfl rfl rfl))) rfl ?_
      refine dc_cons (DStep.q rfl (by exact (by exact opd_load1_ref rfl Tryz.isAgg9 rfl rfl rfl rfl rfl))) rfl ?_
      refine dc_cons (DStep.q rfl (by exact lk_some rfl rfl rfl rfl (kindOf_some hf))) rfl ?_
      refine dc_cons (DStep.q rfl (by exact opd_move rfl rfl)) rfl ?_
      refine dc_cons (DStep.q rfl (by exact opd_extract rfl rfl rfl)) rfl ?_
      refine dc_cons (DStep.q rfl (by exact opd_extract rfl rfl rfl)) rfl ?_
      refine dc_cons (DStep.q rfl (by exact opd_assign rfl rfl)) rfl ?_
      refine dc_cons (DStep.q rfl (by exact opd_assign rfl rfl)) rfl ?_
      refine dc_nil ⟨by kernel_rfl, ?_⟩
      refine awp_seq ?_
      refine awp_seq ?_
      refine awp_drawc follows ?_
      refine dc_cons (DStep.q rfl (by exact opd_move rfl rfl)) rfl ?_
      refine dc_cons (DStep.q rfl (by exact (by exact opd_nilCheck_ref rfl rfl rfl rfl))) rfl ?_
      refine dc_cons (DStep.q rfl (by exact (by exact opd_field_ref rfl fo91_1 rfl rfl rfl rfl))) rfl ?_
      refine dc_cons (DStep.q rfl (by exact (by exact opd_load1_ref rfl Tryz.isAgg89 rfl rfl rfl rfl rfl))) rfl ?_
      refine dc_cons (DStep.q rfl (by exact (by exact opd_field_ref rfl fo32_2 rfl rfl rfl rfl))) rfl ?_
      refine dc_cons (DStep.q rfl (by exact (by exact opd_load1_ref rfl Tryz.isAgg9 rfl rfl rfl rfl rfl))) rfl ?_
      refine dc_cons (DStep.q rfl (by exact lk_c rfl rfl rfl rfl)) rfl ?_
      refine dc_cons (DStep.q rfl (by exact opd_move rfl rfl)) rfl ?_
      refine dc_cons (DStep.q rfl (by exact opd_extract rfl rfl rfl)) rfl ?_
      refine dc_cons (DStep.q rfl (by exact opd_extract rfl rfl rfl)) rfl ?_
      refine dc_cons (DStep.q rfl (by exact opd_assign rfl rfl)) rfl ?_
      refine dc_cons (DStep.q rfl (by exact opd_assign rfl rfl)) rfl ?_
      refine dc_nil ⟨by kernel_rfl, ?_⟩
      refine awp_seq ?_
      refine awp_region ?_
      refine al_d rfl rfl rfl (by exact opd_move rfl rfl) ?_
      refine al_d rfl rfl rfl (by exact opd_not rfl rfl) ?_
      refine al_d rfl rfl rfl (by exact opd_move rfl rfl) ?_
      refine al_ond rfl rfl rfl (by rfl) rfl rfl (by exact (by exact opd_field_ref rfl fo32_0 rfl rfl rfl rfl)) ?_
      refine al_ond rfl rfl rfl (by rfl) rfl rfl (by exact (by exact opd_load1_ref rfl Tryz.isAgg3 rfl rfl rfl rfl rfl)) ?_
      refine al_ond rfl rfl rfl (by rfl) rfl rfl (by exact opd_eql rfl rfl rfl) ?_
      refine al_ond rfl rfl rfl (by rfl) rfl rfl (by exact opd_move rfl rfl) ?_
      refine al_off rfl rfl rfl (by rfl) rfl ?_
      refine al_off rfl rfl rfl (by rfl) rfl ?_
      refine al_ond rfl rfl rfl (by rfl) rfl rfl (by exact (by exact opd_pick_f rfl rfl rfl)) ?_
      refine al_d rfl rfl rfl (by exact (by exact opd_pick_f rfl rfl rfl)) ?_
      refine al_nil ?_
      refine awp_cond rfl (fun hc3 => ?_) (fun hc3 => ?_)
      -- cond 3
      · cases hc3
      · skip
        refine awp_skip ?_
        refine awp_seq ?_
        refine awp_region ?_
        refine al_d rfl rfl rfl (by exact opd_move rfl rfl) ?_
        refine al_d rfl rfl rfl (by exact (by exact opd_field_ref rfl fo32_1 rfl rfl rfl rfl)) ?_
        refine al_d rfl rfl rfl (by exact (by exact opd_load1_ref rfl Tryz.isAgg9 rfl rfl rfl rfl rfl)) ?_
        refine al_d rfl rfl rfl (by exact opr_call rfl rfl Tryz.call38 rfl (get_c m id o _ rfl rfl hm hf)) ?_
        refine al_d rfl rfl rfl (by exact x_alloc (id := 11) rfl zo30 rfl rfl) ?_
        refine al_n rfl rfl (by exact (by exact x_store_all rfl Tryz.sizeOf30 rfl rfl rfl rfl rfl rfl rfl rfl)) ?_
        refine al_nil ?_
        refine awp_seq ?_
        refine awp_region ?_
        refine al_d rfl rfl rfl (by exact opd_makeMap (id := 77) (intK .i64) rfl rfl) ?_
        refine al_d rfl rfl rfl (by exact (by exact x_buildSlice ([(1 : Int)].map encInt) rfl so134 rfl rfl rfl rfl rfl (by simp [encInt]))) ?_
        refine al_n rfl rfl (by exact x_mapUpdate (κ := (intK .i64)) (.inr rfl) Tryz.underlying135 Tryz.underlying3 rfl rfl rfl rfl rfl rfl rfl rfl) ?_
        refine al_d rfl rfl rfl (by exact (by exact x_buildSlice ([(2 : Int), 3, 4].map encInt) rfl so134 rfl rfl rfl rfl rfl (by simp [encInt]))) ?_
        refine al_n rfl rfl (by exact x_mapUpdate (κ := (intK .i64)) (.inr rfl) Tryz.underlying135 Tryz.underlying3 rfl rfl rfl rfl rfl rfl rfl rfl) ?_
        refine al_d rfl rfl rfl (by exact (by exact x_buildSlice ([(2 : Int)].map encInt) rfl so134 rfl rfl rfl rfl rfl (by simp [encInt]))) ?_
        refine al_n rfl rfl (by exact x_mapUpdate (κ := (intK .i64)) (.inr rfl) Tryz.underlying135 Tryz.underlying3 rfl rfl rfl rfl rfl rfl rfl rfl) ?_
        refine al_d rfl rfl rfl (by exact (by exact x_buildSlice ([(2 : Int)].map encInt) rfl so134 rfl rfl rfl rfl rfl (by simp [encInt]))) ?_
        refine al_n rfl rfl (by exact x_mapUpdate (κ := (intK .i64)) (.inr rfl) Tryz.underlying135 Tryz.underlying3 rfl rfl rfl rfl rfl rfl rfl rfl) ?_
        refine al_d rfl rfl rfl (by exact opd_move rfl rfl) ?_
        refine al_d rfl rfl rfl (by exact opd_assign rfl rfl) ?_
        refine al_nil ?_
        refine awp_seq ?_
        refine awp_seq ?_
        refine awp_region ?_
        refine al_d rfl rfl rfl (by exact opd_move rfl rfl) ?_
        refine al_d rfl rfl rfl (by exact (by exact opd_field_ref rfl fo32_0 rfl rfl rfl rfl)) ?_
        refine al_d rfl rfl rfl (by exact (by exact opd_load1_ref rfl Tryz.isAgg3 rfl rfl rfl rfl rfl)) ?_
        refine al_d rfl rfl rfl (by exact opd_lookup_ok (κ := (intK .i64)) rfl Tryz.underlying135 Tryz.underlying3 rfl rfl rfl rfl rfl Tryz.zeroValue134 (.inl rfl)) ?_
        refine al_d rfl rfl rfl (by exact opd_move rfl rfl) ?_
        refine al_d rfl rfl rfl (by exact opd_extract rfl rfl rfl) ?_
        refine al_d rfl rfl rfl (by exact opd_extract rfl rfl rfl) ?_
        refine al_d rfl rfl rfl (by exact opd_assign rfl rfl) ?_
        refine al_d rfl rfl rfl (by exact opd_assign rfl rfl) ?_
        refine al_nil ?_
        refine awp_seq ?_
        refine awp_region ?_
        refine al_d rfl rfl rfl (by exact opd_move rfl rfl) ?_
        refine al_d rfl rfl rfl (by exact opd_move rfl rfl) ?_
        refine al_off rfl rfl rfl (by rfl) rfl ?_
        refine al_off rfl rfl rfl (by rfl) rfl ?_
        refine al_off rfl rfl rfl (by rfl) rfl ?_
        refine al_off rfl rfl rfl (by rfl) rfl ?_
        refine al_off rfl rfl rfl (by rfl) rfl ?_
        refine al_d rfl rfl rfl (by exact (by exact opd_pick_f rfl rfl rfl)) ?_
        refine al_nil ?_
        refine awp_cond rfl (fun hc4 => ?_) (fun hc4 => ?_)
        -- cond 4
        · cases hc4
        · have hb : (!fitsB 5 o.kind) = false := rfl
          rw [hb, if_neg (by simp)]
          refine awp_skip ?_
          refine awp_seq ?_
          refine awp_seq ?_
          refine awp_region ?_
          refine al_d rfl rfl rfl (by exact (by exact opd_field_ref rfl fo32_0 rfl rfl rfl rfl)) ?_
          refine al_d rfl rfl rfl (by exact (by exact opd_load1_ref rfl Tryz.isAgg3 rfl rfl rfl rfl rfl)) ?_
          refine al_nil ?_
          refine awp_block ?_
          refine awp_seq ?_
          refine awp_region ?_
          refine al_d rfl rfl rfl (by exact opd_eql rfl rfl rfl) ?_
          refine al_d rfl rfl rfl (by exact opd_assign rfl rfl) ?_
          refine al_nil ?_
          refine awp_cond rfl (fun hc5 => ?_) (fun hc5 => ?_)
          -- cond 5
          · cases hc5
          · skip
            refine awp_seq ?_
            refine awp_region ?_
            refine al_d rfl rfl rfl (by exact opd_eql rfl rfl rfl) ?_
            refine al_d rfl rfl rfl (by exact opd_assign rfl rfl) ?_
            refine al_nil ?_
            refine awp_cond rfl (fun hc6 => ?_) (fun hc6 => ?_)
            -- cond 6
            · cases hc6
            · skip
              refine awp_seq ?_
              refine awp_region ?_
              refine al_d rfl rfl rfl (by exact opd_eql rfl rfl rfl) ?_
              refine al_d rfl rfl rfl (by exact opd_assign rfl rfl) ?_
              refine al_nil ?_
              refine awp_cond rfl (fun hc7 => ?_) (fun hc7 => ?_)
              -- cond 7
              · cases hc7
              · skip
                refine awp_seq ?_
                refine awp_region ?_
                refine al_d rfl rfl rfl (by exact opd_eql rfl rfl rfl) ?_
                refine al_d rfl rfl rfl (by exact opd_assign rfl rfl) ?_
                refine al_nil ?_
                refine awp_cond rfl (fun hc8 => ?_) (fun hc8 => ?_)
                -- cond 8
                · skip
                  refine awp_seq ?_
                  refine awp_seq ?_
                  refine awp_region ?_
                  refine al_d rfl rfl rfl (by exact opd_move rfl rfl) ?_
                  refine al_d rfl rfl rfl (by exact (by exact opd_field_ref rfl fo32_1 rfl rfl rfl rfl)) ?_
                  refine al_d rfl rfl rfl (by exact (by exact opd_load1_ref rfl Tryz.isAgg9 rfl rfl rfl rfl rfl)) ?_
                  refine al_d rfl rfl rfl (by exact (by exact x_buildSlice ([id].map encStr) rfl so27 rfl rfl rfl rfl rfl (by simp [encStr]))) ?_
                  refine al_d rfl rfl rfl (by exact opr_call rfl rfl Tryz.call107 rfl (refd_c m false [id] _ rfl rfl hm (by show 1 < _; omega))) ?_
                  refine al_nil ?_
                  refine awp_cond rfl (fun hc9 => ?_) (fun hc9 => ?_)
                  -- cond 9
                  · rw [if_pos hc9]
                    refine awp_seq ?_
                    refine awp_region ?_
                    refine al_d rfl rfl rfl (by exact x_build rfl bo99 rfl rfl) ?_
                    refine al_n rfl rfl (by exact (by exact x_store_all rfl Tryz.sizeOf99 rfl rfl rfl rfl rfl rfl rfl rfl)) ?_
                    refine al_nil ?_
                    refine awp_ret ?_
                    -- return
                    refine aret1 (H' := (cH m)) (by exact .inr rfl) rfl (rval_cell rfl Tryz.isAgg99 Tryz.sizeOf99 rfl rfl rfl rfl rfl) (Fin.cl (m := m) (encRes (errR 14)) rfl rfl) ?_
                    exact ⟨rfl, rfl⟩
                  · rw [if_neg (by rw [hc9]; simp)]
                    refine awp_skip ?_
                    refine awp_seq ?_
                    refine awp_region ?_
                    refine al_d rfl rfl rfl (by exact (by exact opd_field_ref rfl fo32_1 rfl rfl rfl rfl)) ?_
                    refine al_d rfl rfl rfl (by exact (by exact opd_load1_ref rfl Tryz.isAgg9 rfl rfl rfl rfl rfl)) ?_
                    refine al_d rfl rfl rfl (by exact x_build rfl bo99 rfl rfl) ?_
                    refine al_n rfl rfl (by exact (by exact x_store_all rfl Tryz.sizeOf99 rfl rfl rfl rfl rfl rfl rfl rfl)) ?_
                    refine al_nil ?_
                    refine awp_ret ?_
                    -- return
                    refine aret1 (H' := (cH m)) (by exact .inr rfl) rfl (rval_cell rfl Tryz.isAgg99 Tryz.sizeOf99 rfl rfl rfl rfl rfl) (Fin.cl (m := m) (encRes ⟨[], id, 0⟩) rfl rfl) ?_
                    exact ⟨rfl, rfl⟩
                · cases hc8
theorem split_c (m : List GObj) (e : GEdit) (o : GObj) (H : Heap) (h14 : H.get 14 = some (cRow m)) (h12 : H.get 12 = some (kob m)) (hm : okM m) (hr : o.refs.length < 1099511627776) :
    ACalls Tryz.prog 108 [.ref 14 0 0 0, av (encEdit e), av (encObj o)] H (fun r H' => r = av (encRes (gSplit m e o)) ∧ H' = H) :=
  cl_c (split0_c m e o hm hr) h14 h12 (by simp; rfl)
theorem perf6_c (m : List GObj) (id other node : ByteArray) (x y : Int) (key val : ByteArray) (refs : List ByteArray) (obj : GObj) (hm : okM m) (ho9 : ∀ o, o ∈ m → o.refs.length < 549755813888 ∧ o.tags.length < 1099511627776) :
    ACalls Tryz.prog 60 [.ref 14 0 0 0, av (encEdit ⟨6, id, other, node, x, y, key, val, refs, obj⟩)] (cH m) (fun r H' => r = av (encRes (gPerform m ⟨6, id, other, node, x, y, key, val, refs, obj⟩)) ∧ H' = cH m) := by
  rw [gPerform, if_neg (show ¬ ((6 : Int) = 1) by decide)]
  simp only
  refine ACalls.body Tryz.func60 rfl Tryz.ntmps60 (Nat.le_of_ble_eq_true rfl) ?_
  refine awp_seq ?_
  refine awp_region ?_
  refine al_d rfl rfl rfl (by exact opd_box (id := 3) rfl rfl rfl rfl rfl) ?_
  refine al_d rfl rfl rfl (by exact x_alloc (id := 4) rfl zo99 rfl rfl) ?_
  refine al_nil ?_
  refine awp_seq ?_
  refine awp_seq ?_
  refine awp_region ?_
  refine al_d rfl rfl rfl (by exact (by exact opd_field_ref rfl fo32_0 rfl rfl rfl rfl)) ?_
  refine al_d rfl rfl rfl (by exact (by exact opd_load1_ref rfl Tryz.isAgg3 rfl rfl rfl rfl rfl)) ?_
  refine al_d rfl rfl rfl (by exact opd_eql rfl rfl rfl) ?_
  refine al_nil ?_
  refine awp_cond rfl (fun hc1 => ?_) (fun hc1 => ?_)
  -- cond 1
  · cases hc1
  · skip
    cases hf : m.find? (idIs id) with
    | none =>
      refine awp_skip ?_
      refine awp_seq ?_
      refine awp_drawc follows ?_
      refine dc_cons (DStep.q rfl (by exact opd_move rfl rfl)) rfl ?_
      refine dc_cons (DStep.q rfl (by exact (by exact opd_nilCheck_ref rfl rfl rfl rfl))) rfl ?_
      refine dc_cons (DStep.q rfl (by exact (by exact opd_field_ref rfl fo91_1 rfl rfl rfl rfl))) rfl ?_
      refine dc_cons (DStep.q rfl (by exact (by exact opd_load1_ref rfl Tryz.isAgg89 rfl rfl rfl rfl rfl))) rfl ?_
      refine dc_cons (DStep.q rfl (by exact (by exact opd_field_ref rfl fo32_1 rfl rfl rfl rfl))) rfl ?_
      refine dc_cons (DStep.q rfl (by exact (by exact opd_load1_ref rfl Tryz.isAgg9 rfl rfl rfl rfl rfl))) rfl ?_
      refine dc_cons (DStep.q rfl (by exact lk_none rfl rfl rfl rfl (kindOf_none hf))) rfl ?_
      refine dc_cons (DStep.q rfl (by exact opd_move rfl rfl)) rfl ?_
      refine dc_cons (DStep.q rfl (by exact opd_extract rfl rfl rfl)) rfl ?_
      refine dc_cons (DStep.q rfl (by exact opd_extract rfl rfl rfl)) rfl ?_
      refine dc_cons (DStep.q rfl (by exact opd_assign rfl rfl)) rfl ?_
      refine dc_cons (DStep.q rfl (by exact opd_assign rfl rfl)) rfl ?_
      refine dc_nil ⟨by kernel_rfl, ?_⟩
      refine awp_seq ?_
      refine awp_seq ?_
      refine awp_drawc follows ?_
      refine dc_cons (DStep.q rfl (by exact opd_move rfl rfl)) rfl ?_
      refine dc_cons (DStep.q rfl (by exact (by exact opd_nilCheck_ref rfl rfl rfl rfl))) rfl ?_
      refine dc_cons (DStep.q rfl (by exact (by exact opd_field_ref rfl fo91_1 rfl rfl rfl rfl))) rfl ?_
      refine dc_cons (DStep.q rfl (by exact (by exact opd_load1_ref rfl Tryz.isAgg89 rfl rfl rfl rfl rfl))) rfl ?_
      refine dc_cons (DStep.q rfl (by exact (by exact opd_field_ref rfl fo32_2 rfl rfl rfl rfl))) rfl ?_
      refine dc_cons (DStep.q rfl (by exact (by exact opd_load1_ref rfl Tryz.isAgg9 rfl rfl rfl rfl rfl))) rfl ?_
      refine dc_cons (DStep.q rfl (by exact lk_c rfl rfl rfl rfl)) rfl ?_
      refine dc_cons (DStep.q rfl (by exact opd_move rfl rfl)) rfl ?_
      refine dc_cons (DStep.q rfl (by exact opd_extract rfl rfl rfl)) rfl ?_
      refine dc_cons (DStep.q rfl (by exact opd_extract rfl rfl rfl)) rfl ?_
      refine dc_cons (DStep.q rfl (by exact opd_assign rfl rfl)) rfl ?_
      refine dc_cons (DStep.q rfl (by exact opd_assign rfl rfl)) rfl ?_
      refine dc_nil ⟨by kernel_rfl, ?_⟩
      refine awp_seq ?_
      refine awp_region ?_
      refine al_d rfl rfl rfl (by exact opd_move rfl rfl) ?_
      refine al_d rfl rfl rfl (by exact opd_not rfl rfl) ?_
      refine al_d rfl rfl rfl (by exact opd_move rfl rfl) ?_
      refine al_off rfl rfl rfl (by rfl) rfl ?_
      refine al_off rfl rfl rfl (by rfl) rfl ?_
      refine al_off rfl rfl rfl (by rfl) rfl ?_
      refine al_off rfl rfl rfl (by rfl) rfl ?_
      refine al_offu rfl rfl rfl rfl ?_
      refine al_offu rfl rfl rfl rfl ?_
      refine al_off rfl rfl rfl (by rfl) rfl ?_
      refine al_d rfl rfl rfl (by exact (by exact opd_pick_t rfl rfl rfl)) ?_
      refine al_nil ?_
      refine awp_cond rfl (fun hc2 => ?_) (fun hc2 => ?_)
      -- cond 2
      · skip
        refine awp_seq ?_
        refine awp_region ?_
        refine al_d rfl rfl rfl (by exact x_build rfl bo99 rfl rfl) ?_
        refine al_n rfl rfl (by exact (by exact x_store_all rfl Tryz.sizeOf99 rfl rfl rfl rfl rfl rfl rfl rfl)) ?_
        refine al_nil ?_
        refine awp_ret ?_
        -- return
        refine aret1 (H' := (cH m)) (by exact .inr rfl) rfl (rval_cell rfl Tryz.isAgg99 Tryz.sizeOf99 rfl rfl rfl rfl rfl) (Fin.cl (m := m) (encRes (errR 11)) rfl rfl) ?_
        exact ⟨rfl, rfl⟩
      · cases hc2
    | some o =>
      simp only [show decide ((6 : Int) = 7) = false from rfl, Bool.false_and, Bool.false_eq_true, if_false, if_true]
      rw [if_neg (show ¬ ((6 : Int) = 2) by decide), if_neg (show ¬ ((6 : Int) = 3) by decide), if_neg (show ¬ ((6 : Int) = 4) by decide), if_neg (show ¬ ((6 : Int) = 5) by decide)]
      have hom := List.mem_of_find?_eq_some hf
      obtain ⟨ho1, ho2⟩ := ho9 o hom
      have hoo := hm.2 o hom
      refine awp_skip ?_
      refine awp_seq ?_
      refine awp_drawc follows ?_
      refine dc_cons (DStep.q rfl (by exact opd_move rfl rfl)) rfl ?_
      refine dc_cons (DStep.q rfl (by exact (by exact opd_nilCheck_ref rfl rfl rfl rfl))) rfl ?_
      refine dc_cons (DStep.q rfl (by exact (by exact opd_field_ref rfl fo91_1 rfl rfl rfl rfl))) rfl ?_
      refine dc_cons (DStep.q rfl (by exact (by exact opd_load1_ref rfl Tryz.isAgg89 rfl rfl rfl rfl rfl))) rfl ?_
      refine dc_cons (DStep.q rfl (by exact (by exact opd_field_ref rfl fo32_1 rfl rfl rfl rfl))) rfl ?_
      refine dc_cons (DStep.q rfl (by exact (by exact opd_load1_ref rfl Tryz.isAgg9 rfl rfl rfl rfl rfl))) rfl ?_
      refine dc_cons (DStep.q rfl (by exact lk_some rfl rfl rfl rfl (kindOf_some hf))) rfl ?_
      refine dc_cons (DStep.q rfl (by exact opd_move rfl rfl)) rfl ?_
      refine dc_cons (DStep.q rfl (by exact opd_extract rfl rfl rfl)) rfl ?_
      refine dc_cons (DStep.q rfl (by exact opd_extract rfl rfl rfl)) rfl ?_
      refine dc_cons (DStep.q rfl (by exact opd_assign rfl rfl)) rfl ?_
      refine dc_cons (DStep.q rfl (by exact opd_assign rfl rfl)) rfl ?_
      refine dc_nil ⟨by kernel_rfl, ?_⟩
      refine awp_seq ?_
      refine awp_seq ?_
      refine awp_drawc follows ?_
      refine dc_cons (DStep.q rfl (by exact opd_move rfl rfl)) rfl ?_
      refine dc_cons (DStep.q rfl (by exact (by exact opd_nilCheck_ref rfl rfl rfl rfl))) rfl ?_
      refine dc_cons (DStep.q rfl (by exact (by exact opd_field_ref rfl fo91_1 rfl rfl rfl rfl))) rfl ?_
      refine dc_cons (DStep.q rfl (by exact (by exact opd_load1_ref rfl Tryz.isAgg89 rfl rfl rfl rfl rfl))) rfl ?_
      refine dc_cons (DStep.q rfl (by exact (by exact opd_field_ref rfl fo32_2 rfl rfl rfl rfl))) rfl ?_
      refine dc_cons (DStep.q rfl (by exact (by exact opd_load1_ref rfl Tryz.isAgg9 rfl rfl rfl rfl rfl))) rfl ?_
      refine dc_cons (DStep.q rfl (by exact lk_c rfl rfl rfl rfl)) rfl ?_
      refine dc_cons (DStep.q rfl (by exact opd_move rfl rfl)) rfl ?_
      refine dc_cons (DStep.q rfl (by exact opd_extract rfl rfl rfl)) rfl ?_
      refine dc_cons (DStep.q rfl (by exact opd_extract rfl rfl rfl)) rfl ?_
      refine dc_cons (DStep.q rfl (by exact opd_assign rfl rfl)) rfl ?_
      refine dc_cons (DStep.q rfl (by exact opd_assign rfl rfl)) rfl ?_
      refine dc_nil ⟨by kernel_rfl, ?_⟩
      refine awp_seq ?_
      refine awp_region ?_
      refine al_d rfl rfl rfl (by exact opd_move rfl rfl) ?_
      refine al_d rfl rfl rfl (by exact opd_not rfl rfl) ?_
      refine al_d rfl rfl rfl (by exact opd_move rfl rfl) ?_
      refine al_ond rfl rfl rfl (by rfl) rfl rfl (by exact (by exact opd_field_ref rfl fo32_0 rfl rfl rfl rfl)) ?_
      refine al_ond rfl rfl rfl (by rfl) rfl rfl (by exact (by exact opd_load1_ref rfl Tryz.isAgg3 rfl rfl rfl rfl rfl)) ?_
      refine al_ond rfl rfl rfl (by rfl) rfl rfl (by exact opd_eql rfl rfl rfl) ?_
      refine al_ond rfl rfl rfl (by rfl) rfl rfl (by exact opd_move rfl rfl) ?_
      refine al_off rfl rfl rfl (by rfl) rfl ?_
      refine al_off rfl rfl rfl (by rfl) rfl ?_
      refine al_ond rfl rfl rfl (by rfl) rfl rfl (by exact (by exact opd_pick_f rfl rfl rfl)) ?_
      refine al_d rfl rfl rfl (by exact (by exact opd_pick_f rfl rfl rfl)) ?_
      refine al_nil ?_
      refine awp_cond rfl (fun hc3 => ?_) (fun hc3 => ?_)
      -- cond 3
      · cases hc3
      · skip
        refine awp_skip ?_
        refine awp_seq ?_
        refine awp_region ?_
        refine al_d rfl rfl rfl (by exact opd_move rfl rfl) ?_
        refine al_d rfl rfl rfl (by exact (by exact opd_field_ref rfl fo32_1 rfl rfl rfl rfl)) ?_
        refine al_d rfl rfl rfl (by exact (by exact opd_load1_ref rfl Tryz.isAgg9 rfl rfl rfl rfl rfl)) ?_
        refine al_d rfl rfl rfl (by exact opr_call rfl rfl Tryz.call38 rfl (get_c m id o _ rfl rfl hm hf)) ?_
        refine al_d rfl rfl rfl (by exact x_alloc (id := 11) rfl zo30 rfl rfl) ?_
        refine al_n rfl rfl (by exact (by exact x_store_all rfl Tryz.sizeOf30 rfl rfl rfl rfl rfl rfl rfl rfl)) ?_
        refine al_nil ?_
        refine awp_seq ?_
        refine awp_region ?_
        refine al_d rfl rfl rfl (by exact opd_makeMap (id := 77) (intK .i64) rfl rfl) ?_
        refine al_d rfl rfl rfl (by exact (by exact x_buildSlice ([(1 : Int)].map encInt) rfl so134 rfl rfl rfl rfl rfl (by simp [encInt]))) ?_
        refine al_n rfl rfl (by exact x_mapUpdate (κ := (intK .i64)) (.inr rfl) Tryz.underlying135 Tryz.underlying3 rfl rfl rfl rfl rfl rfl rfl rfl) ?_
        refine al_d rfl rfl rfl (by exact (by exact x_buildSlice ([(2 : Int), 3, 4].map encInt) rfl so134 rfl rfl rfl rfl rfl (by simp [encInt]))) ?_
        refine al_n rfl rfl (by exact x_mapUpdate (κ := (intK .i64)) (.inr rfl) Tryz.underlying135 Tryz.underlying3 rfl rfl rfl rfl rfl rfl rfl rfl) ?_
        refine al_d rfl rfl rfl (by exact (by exact x_buildSlice ([(2 : Int)].map encInt) rfl so134 rfl rfl rfl rfl rfl (by simp [encInt]))) ?_
        refine al_n rfl rfl (by exact x_mapUpdate (κ := (intK .i64)) (.inr rfl) Tryz.underlying135 Tryz.underlying3 rfl rfl rfl rfl rfl rfl rfl rfl) ?_
        refine al_d rfl rfl rfl (by exact (by exact x_buildSlice ([(2 : Int)].map encInt) rfl so134 rfl rfl rfl rfl rfl (by simp [encInt]))) ?_
        refine al_n rfl rfl (by exact x_mapUpdate (κ := (intK .i64)) (.inr rfl) Tryz.underlying135 Tryz.underlying3 rfl rfl rfl rfl rfl rfl rfl rfl) ?_
        refine al_d rfl rfl rfl (by exact opd_move rfl rfl) ?_
        refine al_d rfl rfl rfl (by exact opd_assign rfl rfl) ?_
        refine al_nil ?_
        refine awp_seq ?_
        refine awp_seq ?_
        refine awp_region ?_
        refine al_d rfl rfl rfl (by exact opd_move rfl rfl) ?_
        refine al_d rfl rfl rfl (by exact (by exact opd_field_ref rfl fo32_0 rfl rfl rfl rfl)) ?_
        refine al_d rfl rfl rfl (by exact (by exact opd_load1_ref rfl Tryz.isAgg3 rfl rfl rfl rfl rfl)) ?_
        refine al_d rfl rfl rfl (by exact opd_lookup_ok (κ := (intK .i64)) rfl Tryz.underlying135 Tryz.underlying3 rfl rfl rfl rfl rfl Tryz.zeroValue134 (.inl rfl)) ?_
        refine al_d rfl rfl rfl (by exact opd_move rfl rfl) ?_
        refine al_d rfl rfl rfl (by exact opd_extract rfl rfl rfl) ?_
        refine al_d rfl rfl rfl (by exact opd_extract rfl rfl rfl) ?_
        refine al_d rfl rfl rfl (by exact opd_assign rfl rfl) ?_
        refine al_d rfl rfl rfl (by exact opd_assign rfl rfl) ?_
        refine al_nil ?_
        refine awp_seq ?_
        refine awp_region ?_
        refine al_d rfl rfl rfl (by exact opd_move rfl rfl) ?_
        refine al_d rfl rfl rfl (by exact opd_move rfl rfl) ?_
        refine al_ond rfl rfl rfl (by rfl) rfl rfl (by exact opd_move rfl rfl) ?_
        refine al_ond rfl rfl rfl (by rfl) rfl rfl (by exact (by exact opd_field_ref rfl fo30_1 rfl rfl rfl rfl)) ?_
        refine al_ond rfl rfl rfl (by rfl) rfl rfl (by exact (by exact opd_load1_ref rfl Tryz.isAgg3 rfl rfl rfl rfl rfl)) ?_
        refine al_ond rfl rfl rfl (by rfl) rfl rfl (by exact opr_call rfl rfl Tryz.call105 rfl (containsI_c [(2 : Int)] o.kind _ (by decide))) ?_
        refine al_ond rfl rfl rfl (by rfl) rfl rfl (by exact opd_not rfl rfl) ?_
        refine al_d rfl rfl rfl (by exact (by exact opd_pick_t rfl rfl rfl)) ?_
        refine al_nil ?_
        refine awp_cond rfl (fun hc4 => ?_) (fun hc4 => ?_)
        -- cond 4
        · have hb : (!fitsB 6 o.kind) = true := by
            have h := hc4
            rw [← h]
            simp [fitsB]
          rw [hb, if_pos rfl]
          refine awp_seq ?_
          refine awp_region ?_
          refine al_d rfl rfl rfl (by exact x_build rfl bo99 rfl rfl) ?_
          refine al_n rfl rfl (by exact (by exact x_store_all rfl Tryz.sizeOf99 rfl rfl rfl rfl rfl rfl rfl rfl)) ?_
          refine al_nil ?_
          refine awp_ret ?_
          -- return
          refine aret1 (H' := (cH m)) (by exact .inr rfl) rfl (rval_cell rfl Tryz.isAgg99 Tryz.sizeOf99 rfl rfl rfl rfl rfl) (Fin.cl (m := m) (encRes (errR 13)) rfl rfl) ?_
          exact ⟨rfl, rfl⟩
        · have hb : (!fitsB 6 o.kind) = false := by
            have h := hc4
            rw [← h]
            simp [fitsB]
          rw [hb, if_neg (by simp)]
          refine awp_skip ?_
          refine awp_seq ?_
          refine awp_seq ?_
          refine awp_region ?_
          refine al_d rfl rfl rfl (by exact (by exact opd_field_ref rfl fo32_0 rfl rfl rfl rfl)) ?_
          refine al_d rfl rfl rfl (by exact (by exact opd_load1_ref rfl Tryz.isAgg3 rfl rfl rfl rfl rfl)) ?_
          refine al_nil ?_
          refine awp_block ?_
          refine awp_seq ?_
          refine awp_region ?_
          refine al_d rfl rfl rfl (by exact opd_eql rfl rfl rfl) ?_
          refine al_d rfl rfl rfl (by exact opd_assign rfl rfl) ?_
          refine al_nil ?_
          refine awp_cond rfl (fun hc5 => ?_) (fun hc5 => ?_)
          -- cond 5
          · cases hc5
          · skip
            refine awp_seq ?_
            refine awp_region ?_
            refine al_d rfl rfl rfl (by exact opd_eql rfl rfl rfl) ?_
            refine al_d rfl rfl rfl (by exact opd_assign rfl rfl) ?_
            refine al_nil ?_
            refine awp_cond rfl (fun hc6 => ?_) (fun hc6 => ?_)
            -- cond 6
            · cases hc6
            · skip
              refine awp_seq ?_
              refine awp_region ?_
              refine al_d rfl rfl rfl (by exact opd_eql rfl rfl rfl) ?_
              refine al_d rfl rfl rfl (by exact opd_assign rfl rfl) ?_
              refine al_nil ?_
              refine awp_cond rfl (fun hc7 => ?_) (fun hc7 => ?_)
              -- cond 7
              · cases hc7
              · skip
                refine awp_seq ?_
                refine awp_region ?_
                refine al_d rfl rfl rfl (by exact opd_eql rfl rfl rfl) ?_
                refine al_d rfl rfl rfl (by exact opd_assign rfl rfl) ?_
                refine al_nil ?_
                refine awp_cond rfl (fun hc8 => ?_) (fun hc8 => ?_)
                -- cond 8
                · cases hc8
                · skip
                  refine awp_seq ?_
                  refine awp_region ?_
                  refine al_d rfl rfl rfl (by exact opd_eql rfl rfl rfl) ?_
                  refine al_d rfl rfl rfl (by exact opd_assign rfl rfl) ?_
                  refine al_nil ?_
                  refine awp_cond rfl (fun hc9 => ?_) (fun hc9 => ?_)
                  -- cond 9
                  · skip
                    refine awp_seq ?_
                    refine awp_region ?_
                    refine al_d rfl rfl rfl (by exact opd_move rfl rfl) ?_
                    refine al_d rfl rfl rfl (by exact (by exact opd_loadn_ref rfl Tryz.isAgg32 Tryz.sizeOf32 rfl rfl rfl rfl rfl rfl)) ?_
                    refine al_d rfl rfl rfl (by exact (by exact opd_loadn_ref rfl Tryz.isAgg30 Tryz.sizeOf30 rfl rfl rfl rfl rfl rfl)) ?_
                    refine al_d rfl rfl rfl (by exact opr_call rfl rfl Tryz.call108 rfl (split_c m ⟨6, id, other, node, x, y, key, val, refs, obj⟩ o _ rfl rfl hm (by omega))) ?_
                    refine al_n rfl rfl (by exact (by exact x_store_all rfl Tryz.sizeOf99 rfl rfl rfl rfl rfl rfl rfl rfl)) ?_
                    refine al_nil ?_
                    refine awp_ret ?_
                    -- return
                    refine aret1 (H' := (cH m)) (by exact .inr rfl) rfl (rval_cell rfl Tryz.isAgg99 Tryz.sizeOf99 rfl rfl rfl rfl rfl) (Fin.cl (m := m) (encRes (gSplit m ⟨6, id, other, node, x, y, key, val, refs, obj⟩ o)) rfl rfl) ?_
                    exact ⟨rfl, rfl⟩
                  · cases hc9
theorem join_c (m : List GObj) (e : GEdit) (o x : GObj) (H : Heap) (h14 : H.get 14 = some (cRow m)) (h12 : H.get 12 = some (kob m)) (hm : okM m) (hr : o.refs.length < 549755813888) (hr2 : x.refs.length < 549755813888) (hx : m.find? (idIs e.other) = some x) (ho : 0 < o.refs.length) (hx2 : x.kind = 2 → 0 < x.refs.length) :
    ACalls Tryz.prog 109 [.ref 14 0 0 0, av (encEdit e), av (encObj o)] H (fun r H' => r = av (encRes (gJoin m e o x)) ∧ H' = H) :=
  cl_c (join0_c m e o x hm hr hr2 hx ho hx2) h14 h12 (by simp; rfl)
theorem perf7_c (m : List GObj) (id other node : ByteArray) (x y : Int) (key val : ByteArray) (refs : List ByteArray) (obj : GObj) (hm : okM m) (ho9 : ∀ o, o ∈ m → o.refs.length < 549755813888 ∧ o.tags.length < 1099511627776) (hway : ∀ o, o ∈ m → o.kind = 2 → 0 < o.refs.length) :
    ACalls Tryz.prog 60 [.ref 14 0 0 0, av (encEdit ⟨7, id, other, node, x, y, key, val, refs, obj⟩)] (cH m) (fun r H' => r = av (encRes (gPerform m ⟨7, id, other, node, x, y, key, val, refs, obj⟩)) ∧ H' = cH m) := by
  rw [gPerform, if_neg (show ¬ ((7 : Int) = 1) by decide)]
  simp only
  refine ACalls.body Tryz.func60 rfl Tryz.ntmps60 (Nat.le_of_ble_eq_true rfl) ?_
  refine awp_seq ?_
  refine awp_region ?_
  refine al_d rfl rfl rfl (by exact opd_box (id := 3) rfl rfl rfl rfl rfl) ?_
  refine al_d rfl rfl rfl (by exact x_alloc (id := 4) rfl zo99 rfl rfl) ?_
  refine al_nil ?_
  refine awp_seq ?_
  refine awp_seq ?_
  refine awp_region ?_
  refine al_d rfl rfl rfl (by exact (by exact opd_field_ref rfl fo32_0 rfl rfl rfl rfl)) ?_
  refine al_d rfl rfl rfl (by exact (by exact opd_load1_ref rfl Tryz.isAgg3 rfl rfl rfl rfl rfl)) ?_
  refine al_d rfl rfl rfl (by exact opd_eql rfl rfl rfl) ?_
  refine al_nil ?_
  refine awp_cond rfl (fun hc1 => ?_) (fun hc1 => ?_)
  -- cond 1
  · cases hc1
  · skip
    cases hf : m.find? (idIs id) with
    | none =>
      refine awp_skip ?_
      refine awp_seq ?_
      refine awp_drawc follows ?_
      refine dc_cons (DStep.q rfl (by exact opd_move rfl rfl)) rfl ?_
      refine dc_cons (DStep.q rfl (by exact (by exact opd_nilCheck_ref rfl rfl rfl rfl))) rfl ?_
      refine dc_cons (DStep.q rfl (by exact (by exact opd_field_ref rfl fo91_1 rfl rfl rfl rfl))) rfl ?_
      refine dc_cons (DStep.q rfl (by exact (by exact opd_load1_ref rfl Tryz.isAgg89 rfl rfl rfl rfl rfl))) rfl ?_
      refine dc_cons (DStep.q rfl (by exact (by exact opd_field_ref rfl fo32_1 rfl rfl rfl rfl))) rfl ?_
      refine dc_cons (DStep.q rfl (by exact (by exact opd_load1_ref rfl Tryz.isAgg9 rfl rfl rfl rfl rfl))) rfl ?_
      refine dc_cons (DStep.q rfl (by exact lk_none rfl rfl rfl rfl (kindOf_none hf))) rfl ?_
      refine dc_cons (DStep.q rfl (by exact opd_move rfl rfl)) rfl ?_
      refine dc_cons (DStep.q rfl (by exact opd_extract rfl rfl rfl)) rfl ?_
      refine dc_cons (DStep.q rfl (by exact opd_extract rfl rfl rfl)) rfl ?_
      refine dc_cons (DStep.q rfl (by exact opd_assign rfl rfl)) rfl ?_
      refine dc_cons (DStep.q rfl (by exact opd_assign rfl rfl)) rfl ?_
      refine dc_nil ⟨by kernel_rfl, ?_⟩
      refine awp_seq ?_
      refine awp_seq ?_
      refine awp_drawc follows ?_
      refine dc_cons (DStep.q rfl (by exact opd_move rfl rfl)) rfl ?_
      refine dc_cons (DStep.q rfl (by exact (by exact opd_nilCheck_ref rfl rfl rfl rfl))) rfl ?_
      refine dc_cons (DStep.q rfl (by exact (by exact opd_field_ref rfl fo91_1 rfl rfl rfl rfl))) rfl ?_
      refine dc_cons (DStep.q rfl (by exact (by exact opd_load1_ref rfl Tryz.isAgg89 rfl rfl rfl rfl rfl))) rfl ?_
      refine dc_cons (DStep.q rfl (by exact (by exact opd_field_ref rfl fo32_2 rfl rfl rfl rfl))) rfl ?_
      refine dc_cons (DStep.q rfl (by exact (by exact opd_load1_ref rfl Tryz.isAgg9 rfl rfl rfl rfl rfl))) rfl ?_
      refine dc_cons (DStep.q rfl (by exact lk_c rfl rfl rfl rfl)) rfl ?_
      refine dc_cons (DStep.q rfl (by exact opd_move rfl rfl)) rfl ?_
      refine dc_cons (DStep.q rfl (by exact opd_extract rfl rfl rfl)) rfl ?_
      refine dc_cons (DStep.q rfl (by exact opd_extract rfl rfl rfl)) rfl ?_
      refine dc_cons (DStep.q rfl (by exact opd_assign rfl rfl)) rfl ?_
      refine dc_cons (DStep.q rfl (by exact opd_assign rfl rfl)) rfl ?_
      refine dc_nil ⟨by kernel_rfl, ?_⟩
      refine awp_seq ?_
      refine awp_region ?_
      refine al_d rfl rfl rfl (by exact opd_move rfl rfl) ?_
      refine al_d rfl rfl rfl (by exact opd_not rfl rfl) ?_
      refine al_d rfl rfl rfl (by exact opd_move rfl rfl) ?_
      refine al_off rfl rfl rfl (by rfl) rfl ?_
      refine al_off rfl rfl rfl (by rfl) rfl ?_
      refine al_off rfl rfl rfl (by rfl) rfl ?_
      refine al_off rfl rfl rfl (by rfl) rfl ?_
      refine al_offu rfl rfl rfl rfl ?_
      refine al_offu rfl rfl rfl rfl ?_
      refine al_off rfl rfl rfl (by rfl) rfl ?_
      refine al_d rfl rfl rfl (by exact (by exact opd_pick_t rfl rfl rfl)) ?_
      refine al_nil ?_
      refine awp_cond rfl (fun hc2 => ?_) (fun hc2 => ?_)
      -- cond 2
      · skip
        refine awp_seq ?_
        refine awp_region ?_
        refine al_d rfl rfl rfl (by exact x_build rfl bo99 rfl rfl) ?_
        refine al_n rfl rfl (by exact (by exact x_store_all rfl Tryz.sizeOf99 rfl rfl rfl rfl rfl rfl rfl rfl)) ?_
        refine al_nil ?_
        refine awp_ret ?_
        -- return
        refine aret1 (H' := (cH m)) (by exact .inr rfl) rfl (rval_cell rfl Tryz.isAgg99 Tryz.sizeOf99 rfl rfl rfl rfl rfl) (Fin.cl (m := m) (encRes (errR 11)) rfl rfl) ?_
        exact ⟨rfl, rfl⟩
      · cases hc2
    | some o =>
      cases hf2 : m.find? (idIs other) with
      | none =>
        simp only [show decide ((7 : Int) = 7) = true from rfl, Bool.true_and, Option.isNone_none, if_true]
        refine awp_skip ?_
        refine awp_seq ?_
        refine awp_drawc follows ?_
        refine dc_cons (DStep.q rfl (by exact opd_move rfl rfl)) rfl ?_
        refine dc_cons (DStep.q rfl (by exact (by exact opd_nilCheck_ref rfl rfl rfl rfl))) rfl ?_
        refine dc_cons (DStep.q rfl (by exact (by exact opd_field_ref rfl fo91_1 rfl rfl rfl rfl))) rfl ?_
        refine dc_cons (DStep.q rfl (by exact (by exact opd_load1_ref rfl Tryz.isAgg89 rfl rfl rfl rfl rfl))) rfl ?_
        refine dc_cons (DStep.q rfl (by exact (by exact opd_field_ref rfl fo32_1 rfl rfl rfl rfl))) rfl ?_
        refine dc_cons (DStep.q rfl (by exact (by exact opd_load1_ref rfl Tryz.isAgg9 rfl rfl rfl rfl rfl))) rfl ?_
        refine dc_cons (DStep.q rfl (by exact lk_some rfl rfl rfl rfl (kindOf_some hf))) rfl ?_
        refine dc_cons (DStep.q rfl (by exact opd_move rfl rfl)) rfl ?_
        refine dc_cons (DStep.q rfl (by exact opd_extract rfl rfl rfl)) rfl ?_
        refine dc_cons (DStep.q rfl (by exact opd_extract rfl rfl rfl)) rfl ?_
        refine dc_cons (DStep.q rfl (by exact opd_assign rfl rfl)) rfl ?_
        refine dc_cons (DStep.q rfl (by exact opd_assign rfl rfl)) rfl ?_
        refine dc_nil ⟨by kernel_rfl, ?_⟩
        refine awp_seq ?_
        refine awp_seq ?_
        refine awp_drawc follows ?_
        refine dc_cons (DStep.q rfl (by exact opd_move rfl rfl)) rfl ?_
        refine dc_cons (DStep.q rfl (by exact (by exact opd_nilCheck_ref rfl rfl rfl rfl))) rfl ?_
        refine dc_cons (DStep.q rfl (by exact (by exact opd_field_ref rfl fo91_1 rfl rfl rfl rfl))) rfl ?_
        refine dc_cons (DStep.q rfl (by exact (by exact opd_load1_ref rfl Tryz.isAgg89 rfl rfl rfl rfl rfl))) rfl ?_
        refine dc_cons (DStep.q rfl (by exact (by exact opd_field_ref rfl fo32_2 rfl rfl rfl rfl))) rfl ?_
        refine dc_cons (DStep.q rfl (by exact (by exact opd_load1_ref rfl Tryz.isAgg9 rfl rfl rfl rfl rfl))) rfl ?_
        refine dc_cons (DStep.q rfl (by exact lk_none rfl rfl rfl rfl (kindOf_none hf2))) rfl ?_
        refine dc_cons (DStep.q rfl (by exact opd_move rfl rfl)) rfl ?_
        refine dc_cons (DStep.q rfl (by exact opd_extract rfl rfl rfl)) rfl ?_
        refine dc_cons (DStep.q rfl (by exact opd_extract rfl rfl rfl)) rfl ?_
        refine dc_cons (DStep.q rfl (by exact opd_assign rfl rfl)) rfl ?_
        refine dc_cons (DStep.q rfl (by exact opd_assign rfl rfl)) rfl ?_
        refine dc_nil ⟨by kernel_rfl, ?_⟩
        refine awp_seq ?_
        refine awp_region ?_
        refine al_d rfl rfl rfl (by exact opd_move rfl rfl) ?_
        refine al_d rfl rfl rfl (by exact opd_not rfl rfl) ?_
        refine al_d rfl rfl rfl (by exact opd_move rfl rfl) ?_
        refine al_ond rfl rfl rfl (by rfl) rfl rfl (by exact (by exact opd_field_ref rfl fo32_0 rfl rfl rfl rfl)) ?_
        refine al_ond rfl rfl rfl (by rfl) rfl rfl (by exact (by exact opd_load1_ref rfl Tryz.isAgg3 rfl rfl rfl rfl rfl)) ?_
        refine al_ond rfl rfl rfl (by rfl) rfl rfl (by exact opd_eql rfl rfl rfl) ?_
        refine al_ond rfl rfl rfl (by rfl) rfl rfl (by exact opd_move rfl rfl) ?_
        refine al_ond rfl rfl rfl (by rfl) rfl rfl (by exact opd_move rfl rfl) ?_
        refine al_ond rfl rfl rfl (by rfl) rfl rfl (by exact opd_not rfl rfl) ?_
        refine al_ond rfl rfl rfl (by rfl) rfl rfl (by exact (by exact opd_pick_t rfl rfl rfl)) ?_
        refine al_d rfl rfl rfl (by exact (by exact opd_pick_f rfl rfl rfl)) ?_
        refine al_nil ?_
        refine awp_cond rfl (fun hc3 => ?_) (fun hc3 => ?_)
        -- cond 3
        · skip
          refine awp_seq ?_
          refine awp_region ?_
          refine al_d rfl rfl rfl (by exact x_build rfl bo99 rfl rfl) ?_
          refine al_n rfl rfl (by exact (by exact x_store_all rfl Tryz.sizeOf99 rfl rfl rfl rfl rfl rfl rfl rfl)) ?_
          refine al_nil ?_
          refine awp_ret ?_
          -- return
          refine aret1 (H' := (cH m)) (by exact .inr rfl) rfl (rval_cell rfl Tryz.isAgg99 Tryz.sizeOf99 rfl rfl rfl rfl rfl) (Fin.cl (m := m) (encRes (errR 11)) rfl rfl) ?_
          exact ⟨rfl, rfl⟩
        · cases hc3
      | some o2 =>
        simp only [show decide ((7 : Int) = 7) = true from rfl, Bool.true_and, Option.isNone_some, Bool.false_eq_true, if_false, Option.getD_some]
        rw [if_neg (show ¬ ((7 : Int) = 2) by decide), if_neg (show ¬ ((7 : Int) = 3) by decide), if_neg (show ¬ ((7 : Int) = 4) by decide), if_neg (show ¬ ((7 : Int) = 5) by decide), if_neg (show ¬ ((7 : Int) = 6) by decide)]
        have hom2 := List.mem_of_find?_eq_some hf2
        obtain ⟨hp1, hp2⟩ := ho9 o2 hom2
        have hom := List.mem_of_find?_eq_some hf
        obtain ⟨ho1, ho2⟩ := ho9 o hom
        have hoo := hm.2 o hom
        refine awp_skip ?_
        refine awp_seq ?_
        refine awp_drawc follows ?_
        refine dc_cons (DStep.q rfl (by exact opd_move rfl rfl)) rfl ?_
        refine dc_cons (DStep.q rfl (by exact (by exact opd_nilCheck_ref rfl rfl rfl rfl))) rfl ?_
        refine dc_cons (DStep.q rfl (by exact (by exact opd_field_ref rfl fo91_1 rfl rfl rfl rfl))) rfl ?_
        refine dc_cons (DStep.q rfl (by exact (by exact opd_load1_ref rfl Tryz.isAgg89 rfl rfl rfl rfl rfl))) rfl ?_
        refine dc_cons (DStep.q rfl (by exact (by exact opd_field_ref rfl fo32_1 rfl rfl rfl rfl))) rfl ?_
        refine dc_cons (DStep.q rfl (by exact (by exact opd_load1_ref rfl Tryz.isAgg9 rfl rfl rfl rfl rfl))) rfl ?_
        refine dc_cons (DStep.q rfl (by exact lk_some rfl rfl rfl rfl (kindOf_some hf))) rfl ?_
        refine dc_cons (DStep.q rfl (by exact opd_move rfl rfl)) rfl ?_
        refine dc_cons (DStep.q rfl (by exact opd_extract rfl rfl rfl)) rfl ?_
        refine dc_cons (DStep.q rfl (by exact opd_extract rfl rfl rfl)) rfl ?_
        refine dc_cons (DStep.q rfl (by exact opd_assign rfl rfl)) rfl ?_
        refine dc_cons (DStep.q rfl (by exact opd_assign rfl rfl)) rfl ?_
        refine dc_nil ⟨by kernel_rfl, ?_⟩
        refine awp_seq ?_
        refine awp_seq ?_
        refine awp_drawc follows ?_
        refine dc_cons (DStep.q rfl (by exact opd_move rfl rfl)) rfl ?_
        refine dc_cons (DStep.q rfl (by exact (by exact opd_nilCheck_ref rfl rfl rfl rfl))) rfl ?_
        refine dc_cons (DStep.q rfl (by exact (by exact opd_field_ref rfl fo91_1 rfl rfl rfl rfl))) rfl ?_
        refine dc_cons (DStep.q rfl (by exact (by exact opd_load1_ref rfl Tryz.isAgg89 rfl rfl rfl rfl rfl))) rfl ?_
        refine dc_cons (DStep.q rfl (by exact (by exact opd_field_ref rfl fo32_2 rfl rfl rfl rfl))) rfl ?_
        refine dc_cons (DStep.q rfl (by exact (by exact opd_load1_ref rfl Tryz.isAgg9 rfl rfl rfl rfl rfl))) rfl ?_
        refine dc_cons (DStep.q rfl (by exact lk_some rfl rfl rfl rfl (kindOf_some hf2))) rfl ?_
        refine dc_cons (DStep.q rfl (by exact opd_move rfl rfl)) rfl ?_
        refine dc_cons (DStep.q rfl (by exact opd_extract rfl rfl rfl)) rfl ?_
        refine dc_cons (DStep.q rfl (by exact opd_extract rfl rfl rfl)) rfl ?_
        refine dc_cons (DStep.q rfl (by exact opd_assign rfl rfl)) rfl ?_
        refine dc_cons (DStep.q rfl (by exact opd_assign rfl rfl)) rfl ?_
        refine dc_nil ⟨by kernel_rfl, ?_⟩
        refine awp_seq ?_
        refine awp_region ?_
        refine al_d rfl rfl rfl (by exact opd_move rfl rfl) ?_
        refine al_d rfl rfl rfl (by exact opd_not rfl rfl) ?_
        refine al_d rfl rfl rfl (by exact opd_move rfl rfl) ?_
        refine al_ond rfl rfl rfl (by rfl) rfl rfl (by exact (by exact opd_field_ref rfl fo32_0 rfl rfl rfl rfl)) ?_
        refine al_ond rfl rfl rfl (by rfl) rfl rfl (by exact (by exact opd_load1_ref rfl Tryz.isAgg3 rfl rfl rfl rfl rfl)) ?_
        refine al_ond rfl rfl rfl (by rfl) rfl rfl (by exact opd_eql rfl rfl rfl) ?_
        refine al_ond rfl rfl rfl (by rfl) rfl rfl (by exact opd_move rfl rfl) ?_
        refine al_ond rfl rfl rfl (by rfl) rfl rfl (by exact opd_move rfl rfl) ?_
        refine al_ond rfl rfl rfl (by rfl) rfl rfl (by exact opd_not rfl rfl) ?_
        refine al_ond rfl rfl rfl (by rfl) rfl rfl (by exact (by exact opd_pick_t rfl rfl rfl)) ?_
        refine al_d rfl rfl rfl (by exact (by exact opd_pick_f rfl rfl rfl)) ?_
        refine al_nil ?_
        refine awp_cond rfl (fun hc4 => ?_) (fun hc4 => ?_)
        -- cond 4
        · cases hc4
        · skip
          refine awp_skip ?_
          refine awp_seq ?_
          refine awp_region ?_
          refine al_d rfl rfl rfl (by exact opd_move rfl rfl) ?_
          refine al_d rfl rfl rfl (by exact (by exact opd_field_ref rfl fo32_1 rfl rfl rfl rfl)) ?_
          refine al_d rfl rfl rfl (by exact (by exact opd_load1_ref rfl Tryz.isAgg9 rfl rfl rfl rfl rfl)) ?_
          refine al_d rfl rfl rfl (by exact opr_call rfl rfl Tryz.call38 rfl (get_c m id o _ rfl rfl hm hf)) ?_
          refine al_d rfl rfl rfl (by exact x_alloc (id := 11) rfl zo30 rfl rfl) ?_
          refine al_n rfl rfl (by exact (by exact x_store_all rfl Tryz.sizeOf30 rfl rfl rfl rfl rfl rfl rfl rfl)) ?_
          refine al_nil ?_
          refine awp_seq ?_
          refine awp_region ?_
          refine al_d rfl rfl rfl (by exact opd_makeMap (id := 77) (intK .i64) rfl rfl) ?_
          refine al_d rfl rfl rfl (by exact (by exact x_buildSlice ([(1 : Int)].map encInt) rfl so134 rfl rfl rfl rfl rfl (by simp [encInt]))) ?_
          refine al_n rfl rfl (by exact x_mapUpdate (κ := (intK .i64)) (.inr rfl) Tryz.underlying135 Tryz.underlying3 rfl rfl rfl rfl rfl rfl rfl rfl) ?_
          refine al_d rfl rfl rfl (by exact (by exact x_buildSlice ([(2 : Int), 3, 4].map encInt) rfl so134 rfl rfl rfl rfl rfl (by simp [encInt]))) ?_
          refine al_n rfl rfl (by exact x_mapUpdate (κ := (intK .i64)) (.inr rfl) Tryz.underlying135 Tryz.underlying3 rfl rfl rfl rfl rfl rfl rfl rfl) ?_
          refine al_d rfl rfl rfl (by exact (by exact x_buildSlice ([(2 : Int)].map encInt) rfl so134 rfl rfl rfl rfl rfl (by simp [encInt]))) ?_
          refine al_n rfl rfl (by exact x_mapUpdate (κ := (intK .i64)) (.inr rfl) Tryz.underlying135 Tryz.underlying3 rfl rfl rfl rfl rfl rfl rfl rfl) ?_
          refine al_d rfl rfl rfl (by exact (by exact x_buildSlice ([(2 : Int)].map encInt) rfl so134 rfl rfl rfl rfl rfl (by simp [encInt]))) ?_
          refine al_n rfl rfl (by exact x_mapUpdate (κ := (intK .i64)) (.inr rfl) Tryz.underlying135 Tryz.underlying3 rfl rfl rfl rfl rfl rfl rfl rfl) ?_
          refine al_d rfl rfl rfl (by exact opd_move rfl rfl) ?_
          refine al_d rfl rfl rfl (by exact opd_assign rfl rfl) ?_
          refine al_nil ?_
          refine awp_seq ?_
          refine awp_seq ?_
          refine awp_region ?_
          refine al_d rfl rfl rfl (by exact opd_move rfl rfl) ?_
          refine al_d rfl rfl rfl (by exact (by exact opd_field_ref rfl fo32_0 rfl rfl rfl rfl)) ?_
          refine al_d rfl rfl rfl (by exact (by exact opd_load1_ref rfl Tryz.isAgg3 rfl rfl rfl rfl rfl)) ?_
          refine al_d rfl rfl rfl (by exact opd_lookup_ok (κ := (intK .i64)) rfl Tryz.underlying135 Tryz.underlying3 rfl rfl rfl rfl rfl Tryz.zeroValue134 (.inl rfl)) ?_
          refine al_d rfl rfl rfl (by exact opd_move rfl rfl) ?_
          refine al_d rfl rfl rfl (by exact opd_extract rfl rfl rfl) ?_
          refine al_d rfl rfl rfl (by exact opd_extract rfl rfl rfl) ?_
          refine al_d rfl rfl rfl (by exact opd_assign rfl rfl) ?_
          refine al_d rfl rfl rfl (by exact opd_assign rfl rfl) ?_
          refine al_nil ?_
          refine awp_seq ?_
          refine awp_region ?_
          refine al_d rfl rfl rfl (by exact opd_move rfl rfl) ?_
          refine al_d rfl rfl rfl (by exact opd_move rfl rfl) ?_
          refine al_ond rfl rfl rfl (by rfl) rfl rfl (by exact opd_move rfl rfl) ?_
          refine al_ond rfl rfl rfl (by rfl) rfl rfl (by exact (by exact opd_field_ref rfl fo30_1 rfl rfl rfl rfl)) ?_
          refine al_ond rfl rfl rfl (by rfl) rfl rfl (by exact (by exact opd_load1_ref rfl Tryz.isAgg3 rfl rfl rfl rfl rfl)) ?_
          refine al_ond rfl rfl rfl (by rfl) rfl rfl (by exact opr_call rfl rfl Tryz.call105 rfl (containsI_c [(2 : Int)] o.kind _ (by decide))) ?_
          refine al_ond rfl rfl rfl (by rfl) rfl rfl (by exact opd_not rfl rfl) ?_
          refine al_d rfl rfl rfl (by exact (by exact opd_pick_t rfl rfl rfl)) ?_
          refine al_nil ?_
          refine awp_cond rfl (fun hc5 => ?_) (fun hc5 => ?_)
          -- cond 5
          · have hb : (!fitsB 7 o.kind) = true := by
              have h := hc5
              rw [← h]
              simp [fitsB]
            rw [hb, if_pos rfl]
            refine awp_seq ?_
            refine awp_region ?_
            refine al_d rfl rfl rfl (by exact x_build rfl bo99 rfl rfl) ?_
            refine al_n rfl rfl (by exact (by exact x_store_all rfl Tryz.sizeOf99 rfl rfl rfl rfl rfl rfl rfl rfl)) ?_
            refine al_nil ?_
            refine awp_ret ?_
            -- return
            refine aret1 (H' := (cH m)) (by exact .inr rfl) rfl (rval_cell rfl Tryz.isAgg99 Tryz.sizeOf99 rfl rfl rfl rfl rfl) (Fin.cl (m := m) (encRes (errR 13)) rfl rfl) ?_
            exact ⟨rfl, rfl⟩
          · have hb : (!fitsB 7 o.kind) = false := by
              have h := hc5
              rw [← h]
              simp [fitsB]
            have hk2 : o.kind = 2 := by
              have h := hb
              simpa [fitsB] using h
            rw [hb, if_neg (by simp)]
            refine awp_skip ?_
            refine awp_seq ?_
            refine awp_seq ?_
            refine awp_region ?_
            refine al_d rfl rfl rfl (by exact (by exact opd_field_ref rfl fo32_0 rfl rfl rfl rfl)) ?_
            refine al_d rfl rfl rfl (by exact (by exact opd_load1_ref rfl Tryz.isAgg3 rfl rfl rfl rfl rfl)) ?_
            refine al_nil ?_
            refine awp_block ?_
            refine awp_seq ?_
            refine awp_region ?_
            refine al_d rfl rfl rfl (by exact opd_eql rfl rfl rfl) ?_
            refine al_d rfl rfl rfl (by exact opd_assign rfl rfl) ?_
            refine al_nil ?_
            refine awp_cond rfl (fun hc6 => ?_) (fun hc6 => ?_)
            -- cond 6
            · cases hc6
            · skip
              refine awp_seq ?_
              refine awp_region ?_
              refine al_d rfl rfl rfl (by exact opd_eql rfl rfl rfl) ?_
              refine al_d rfl rfl rfl (by exact opd_assign rfl rfl) ?_
              refine al_nil ?_
              refine awp_cond rfl (fun hc7 => ?_) (fun hc7 => ?_)
              -- cond 7
              · cases hc7
              · skip
                refine awp_seq ?_
                refine awp_region ?_
                refine al_d rfl rfl rfl (by exact opd_eql rfl rfl rfl) ?_
                refine al_d rfl rfl rfl (by exact opd_assign rfl rfl) ?_
                refine al_nil ?_
                refine awp_cond rfl (fun hc8 => ?_) (fun hc8 => ?_)
                -- cond 8
                · cases hc8
                · skip
                  refine awp_seq ?_
                  refine awp_region ?_
                  refine al_d rfl rfl rfl (by exact opd_eql rfl rfl rfl) ?_
                  refine al_d rfl rfl rfl (by exact opd_assign rfl rfl) ?_
                  refine al_nil ?_
                  refine awp_cond rfl (fun hc9 => ?_) (fun hc9 => ?_)
                  -- cond 9
                  · cases hc9
                  · skip
                    refine awp_seq ?_
                    refine awp_region ?_
                    refine al_d rfl rfl rfl (by exact opd_eql rfl rfl rfl) ?_
                    refine al_d rfl rfl rfl (by exact opd_assign rfl rfl) ?_
                    refine al_nil ?_
                    refine awp_cond rfl (fun hc10 => ?_) (fun hc10 => ?_)
                    -- cond 10
                    · cases hc10
                    · skip
                      refine awp_seq ?_
                      refine awp_region ?_
                      refine al_d rfl rfl rfl (by exact opd_eql rfl rfl rfl) ?_
                      refine al_d rfl rfl rfl (by exact opd_assign rfl rfl) ?_
                      refine al_nil ?_
                      refine awp_cond rfl (fun hc11 => ?_) (fun hc11 => ?_)
                      -- cond 11
                      · skip
                        refine awp_seq ?_
                        refine awp_region ?_
                        refine al_d rfl rfl rfl (by exact opd_move rfl rfl) ?_
                        refine al_d rfl rfl rfl (by exact (by exact opd_loadn_ref rfl Tryz.isAgg32 Tryz.sizeOf32 rfl rfl rfl rfl rfl rfl)) ?_
                        refine al_d rfl rfl rfl (by exact (by exact opd_loadn_ref rfl Tryz.isAgg30 Tryz.sizeOf30 rfl rfl rfl rfl rfl rfl)) ?_
                        refine al_d rfl rfl rfl (by exact opr_call rfl rfl Tryz.call109 rfl (join_c m ⟨7, id, other, node, x, y, key, val, refs, obj⟩ o o2 _ rfl rfl hm ho1 hp1 hf2 (hway o hom hk2) (hway o2 hom2))) ?_
                        refine al_n rfl rfl (by exact (by exact x_store_all rfl Tryz.sizeOf99 rfl rfl rfl rfl rfl rfl rfl rfl)) ?_
                        refine al_nil ?_
                        refine awp_ret ?_
                        -- return
                        refine aret1 (H' := (cH m)) (by exact .inr rfl) rfl (rval_cell rfl Tryz.isAgg99 Tryz.sizeOf99 rfl rfl rfl rfl rfl) (Fin.cl (m := m) (encRes (gJoin m ⟨7, id, other, node, x, y, key, val, refs, obj⟩ o o2)) rfl rfl) ?_
                        exact ⟨rfl, rfl⟩
                      · cases hc11
end Go.Proofs.YtedfihgkopejcaaGreat
end
section
set_option linter.unusedVariables false
set_option linter.unusedSimpArgs false
set_option maxRecDepth 100000
namespace Go.Proofs.YtedfihgkopejcaaGreat
open Go.Abs
theorem gObj_len {o : GObj} (h : gObj o = true) : o.refs.length ≤ 2000 ∧ o.tags.length ≤ 60 ∧ gTags o.tags = true ∧ gName o.id = true ∧ (o.kind = 2 → 2 ≤ o.refs.length) := by
  rw [gObj, Bool.and_eq_true, Bool.not_eq_true', gHead, gHeadN] at h
  have h1 := h.1
  simp only [Bool.or_eq_false_iff, Bool.not_eq_false', decide_eq_false_iff_not] at h1
  obtain ⟨⟨⟨⟨a1, a2⟩, a3⟩, a4⟩, a5⟩ := h1
  refine ⟨by omega, (gTags_iff.1 a3).2.2, a3, a2, fun hk => ?_⟩
  rw [hk, show gLeast 2 = 2 from rfl] at a4
  omega
theorem okTags_ins {l l' : List GTag} {key val : ByteArray} (hl : okTags l) (hk : key.size < 4611686018427387904) (hv : val.size < 4611686018427387904) (hlen : l'.length ≤ l.length + 1) (hlt : l.length < 1099511627776) (hm : ∀ t, t ∈ l' → t = ⟨key, val⟩ ∨ t ∈ l) : okTags l' := by
  refine ⟨by omega, fun t ht => ?_⟩
  rcases hm t ht with rfl | h
  · exact ⟨hk, hv⟩
  · exact hl.2 t h
theorem gSet_ok {l : List GTag} {key val : ByteArray} (hl : okTags l) (hk : key.size < 4611686018427387904) (hv : val.size < 4611686018427387904) (hlt : l.length < 1099511627776) : okTags (gSet l key val).1 := by
  have hle := lbI_le GTag.key l key
  unfold gSet
  split
  · exact ⟨by show 0 < _; omega, fun t ht => by cases ht⟩
  · split
    · split
      · refine okTags_ins hl hk hv (by simp only [List.length_append, List.length_take, List.length_drop]; omega) hlt (fun t ht => .inr ?_)
        rcases List.mem_append.1 ht with h | h
        · exact List.mem_of_mem_take h
        · exact List.mem_of_mem_drop h
      · refine okTags_ins hl hk hv (by simp only [List.length_set]; omega) hlt (fun t ht => ?_)
        rcases List.mem_or_eq_of_mem_set ht with h | h
        · exact .inr h
        · exact .inl h
    · split
      · exact hl
      · split
        · exact ⟨by show 0 < _; omega, fun t ht => by cases ht⟩
        · refine okTags_ins hl hk hv (by simp only [List.length_append, List.length_take, List.length_drop, List.length_cons]; omega) hlt (fun t ht => ?_)
          rcases List.mem_append.1 ht with h | h
          · exact .inr (List.mem_of_mem_take h)
          · rcases List.mem_cons.1 h with h | h
            · exact .inl h
            · exact .inr (List.mem_of_mem_drop h)
theorem find_ok {m : List GObj} {s : ByteArray} {o : GObj} (hm : okM m) (h : m.find? (idIs s) = some o) : okO o := hm.2 o (List.mem_of_find?_eq_some h)
theorem gEditV_iff {e : GEdit} : gEditV e = true ↔ (1 ≤ e.op ∧ e.op ≤ 7) ∧ okOf e = true ∧ xOf e = e := by
  rw [gEditV, Bool.and_eq_true, Bool.and_eq_true, Bool.and_eq_true, decide_eq_true_eq, decide_eq_true_eq, gSameE_iff]
theorem gEditV_val {e : GEdit} (h : gEditV e = true) : e.val.size ≤ 200 := by
  obtain ⟨_, h2, h3⟩ := gEditV_iff.1 h
  have hv : (xOf e).val = e.val := by rw [h3]
  by_cases e3 : e.op = 3
  · rw [okOf, if_neg (by omega), if_neg (by omega), if_pos e3, Bool.and_eq_true, Bool.and_eq_true, decide_eq_true_eq] at h2
    omega
  · have : e.val = sNil := by
      rw [← hv, xOf]
      repeat' split
      all_goals rfl
    rw [this]; decide
theorem perf_ok {m : List GObj} {e : GEdit} (hm : okM m) (hg : gMap m = true) (he : okE e) (hv : gEditV e = true) : ∀ o, o ∈ (gPerform m e).put → okO o := by
  have hvs := gEditV_val hv
  obtain ⟨⟨h1, h2, h3, h4⟩, ⟨h5, h6⟩, h7⟩ := he
  have hlen : ∀ o, o ∈ m → o.refs.length ≤ 2000 ∧ o.tags.length ≤ 60 := fun o ho => by
    have := gObj_len ((gMap_iff.1 hg).1 o ho)
    exact ⟨this.1, this.2.1⟩
  have hnone : ∀ n, ∀ o, o ∈ (errR n).put → okO o := fun n o ho => by cases ho
  unfold gPerform
  split
  · split
    · exact hnone _
    · intro o ho
      rw [List.mem_singleton] at ho; subst ho; exact h7
  · split
    · exact hnone _
    · next o hf =>
      have hoo := find_ok hm hf
      have hol := hlen o (List.mem_of_find?_eq_some hf)
      split
      · exact hnone _
      · split
        · exact hnone _
        · split
          · intro x hx
            rw [List.mem_singleton] at hx; subst hx; exact hoo
          · split
            · split
              · exact hnone _
              · intro x hx
                rw [List.mem_singleton] at hx; subst hx
                refine ⟨hoo.1, gSet_ok hoo.2.1 ?_ ?_ (by omega), hoo.2.2⟩
                · exact h4
                · omega
            · split
              · split
                · exact hnone _
                · intro x hx
                  rw [List.mem_singleton] at hx; subst hx
                  exact ⟨hoo.1, hoo.2.1, h5, h6⟩
              · split
                · split
                  · exact hnone _
                  · intro x hx; cases hx
                · split
                  · unfold gSplit
                    split
                    · exact hnone _
                    · split
                      · exact hnone _
                      · split
                        · exact hnone _
                        · intro x hx
                          simp only [List.mem_cons, List.not_mem_nil, or_false] at hx
                          rcases hx with rfl | rfl
                          · exact ⟨hoo.1, hoo.2.1, by simp only [List.length_take]; omega, fun s hs => hoo.2.2.2 s (List.mem_of_mem_take hs)⟩
                          · exact ⟨h2, hoo.2.1, by simp only [List.length_drop]; omega, fun s hs => hoo.2.2.2 s (List.mem_of_mem_drop hs)⟩
                  · unfold gJoin
                    split
                    · exact hnone _
                    · split
                      · exact hnone _
                      · split
                        · exact hnone _
                        · split
                          · exact hnone _
                          · intro x hx
                            rw [List.mem_singleton] at hx; subst hx
                            have hx2 : okO ((m.find? (idIs e.other)).getD zObj) ∧ ((m.find? (idIs e.other)).getD zObj).refs.length ≤ 2000 := by
                              cases hf2 : m.find? (idIs e.other) with
                              | none => exact ⟨⟨by decide, ⟨by decide, fun t ht => by cases ht⟩, by decide, fun s hs => by cases hs⟩, by decide⟩
                              | some x => exact ⟨find_ok hm hf2, (hlen x (List.mem_of_find?_eq_some hf2)).1⟩
                            refine ⟨hoo.1, hoo.2.1, ?_, fun s hs => ?_⟩
                            · simp only [List.flatten_cons, List.flatten_nil, List.append_nil, List.length_append, List.length_drop]; omega
                            · simp only [List.flatten_cons, List.flatten_nil, List.append_nil] at hs
                              rcases List.mem_append.1 hs with h | h
                              · exact hoo.2.2.2 s h
                              · exact hx2.1.2.2.2 s (List.mem_of_mem_drop h)
theorem perf0_c (m : List GObj) (e : GEdit) (hm : okM m) (hg : gMap m = true) (hv : gEditV e = true) (he : okE e) :
    ACalls Tryz.prog 60 [.ref 14 0 0 0, av (encEdit e)] (cH m) (fun r H' => r = av (encRes (gPerform m e)) ∧ H' = cH m) := by
  have hvs := gEditV_val hv
  obtain ⟨⟨o1, o2⟩, _, _⟩ := gEditV_iff.1 hv
  have hlen : ∀ o, o ∈ m → o.refs.length < 549755813888 ∧ o.tags.length < 1099511627776 := fun o ho => by
    have := gObj_len ((gMap_iff.1 hg).1 o ho)
    omega
  have hway : ∀ o, o ∈ m → o.kind = 2 → 0 < o.refs.length := fun o ho hk => by
    have := (gObj_len ((gMap_iff.1 hg).1 o ho)).2.2.2.2 hk
    omega
  obtain ⟨⟨h1, h2, h3, h4⟩, h5, h7⟩ := he
  by_cases e1 : e.op = 1
  · exact perf1_c m e hm e1 h7.2.2.1
  · have hop : e.op = 2 ∨ e.op = 3 ∨ e.op = 4 ∨ e.op = 5 ∨ e.op = 6 ∨ e.op = 7 := by omega
    obtain ⟨op, id, other, node, x, y, key, val, refs, obj⟩ := e
    simp only at hop h4 h5 hvs
    rcases hop with rfl | rfl | rfl | rfl | rfl | rfl
    · exact perf2_c m id other node x y key val refs obj hm hlen
    · exact perf3_c m id other node x y key val refs obj hm hlen h4 (by omega)
    · exact perf4_c m id other node x y key val refs obj hm hlen h5
    · exact perf5_c m id other node x y key val refs obj hm hlen
    · exact perf6_c m id other node x y key val refs obj hm hlen
    · exact perf7_c m id other node x y key val refs obj hm hlen hway
theorem perf_c (m : List GObj) (e : GEdit) (H : Heap) (h14 : H.get 14 = some (cRow m)) (h12 : H.get 12 = some (kob m)) (hm : okM m) (hg : gMap m = true) (hv : gEditV e = true) (he : okE e) :
    ACalls Tryz.prog 60 [.ref 14 0 0 0, av (encEdit e)] H (fun r H' => r = av (encRes (gPerform m e)) ∧ H' = H) :=
  cl_c (perf0_c m e hm hg hv he) h14 h12 (by simp; rfl)
/-- The objects of a list put into a map, one after the other. -/
def putAll : List GObj → List GObj → List GObj × Int
  | m, [] => (m, 0)
  | m, o :: r => if !decide ((gPutM m o).2 = 0) then ([], (gPutM m o).2) else putAll (gPutM m o).1 r
def gAfter (m : List GObj) (e : GEdit) : List GObj × Int :=
  if !gEditV e then ([], 1)
  else if !decide ((gPerform m e).err = 0) then ([], (gPerform m e).err)
  else if !decide ((putAll m (gPerform m e).put).2 = 0) then putAll m (gPerform m e).put
  else if !decide ((gPerform m e).drop = sNil) then gDropM (putAll m (gPerform m e).put).1 (gPerform m e).drop
  else ((putAll m (gPerform m e).put).1, 0)
theorem gPutM_ok {m : List GObj} {o : GObj} (hm : okM m) (ho : okO o) (hl : m.length < 1099511627776) : okM (gPutM m o).1 ∧ (gPutM m o).1.length ≤ m.length + 1 := by
  unfold gPutM
  split
  · exact ⟨⟨by show 0 < _; omega, fun x hx => by cases hx⟩, by show 0 ≤ _; omega⟩
  · split
    · exact ⟨⟨by show 0 < _; omega, fun x hx => by cases hx⟩, by show 0 ≤ _; omega⟩
    · exact ⟨okM_with hm ho hl, by show (gWith m o).length ≤ _; rw [gWith_len]; split <;> omega⟩
end Go.Proofs.YtedfihgkopejcaaGreat
end
