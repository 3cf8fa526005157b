/-
  CONTRACTS: slices.IndexFunc, ContainsFunc, Equal at the types of the map; package verify's small functions.
  Conditions: lengths below 2^62.
  CONTRACTS: the functions of package verify and of its reference: objects, tags, what an edit shows. Conditions: lengths below 2^62.
  CONTRACTS: what an edit shows: package verify. Conditions: lengths below 2^62.
  CONTRACTS: equal tags, edits that are alike, the closures over the edits that are shown. Conditions: lengths below 2^62.
  CONTRACT: verify.Accept. Conditions: lengths below 2^40.
  CONTRACTS: what is moderate (three references), names, membership. Conditions: lengths below 2^62.
  STATES in front of a heap that is not looked into: objects are dropped. Conditions: none.
  CONTRACTS: package edit: kinds, references, closed maps. Conditions: lengths below 2^62.
  PLAIN LAWS of a greedy choice: the places that it takes fit together, and no others come before them. Conditions: none.
  PLAIN LAWS of evidence: what it is, what is found. Conditions: none.
-/
import Derived.Test.YtdgoodjhndeojaaGreatKL1M3
import Derived.Scope
section
set_option linter.unusedVariables false
set_option linter.unusedSimpArgs false
set_option maxRecDepth 100000
namespace Go.Proofs.YtdgoodjhndeojaaGreat
open Go.Abs
/-- slices.IndexFunc at planisphere/api.Object. -/
theorem indexFunc_GObj (fv : AV) (l : List GObj) (p : GObj → Bool) (H : Heap) (hl : l.length < 4611686018427387904) (hf : ∀ o, o ∈ l → CallsV Tryz.prog fv [.agg ((encObj o).map .pv)] H (fun r H' => r = .pv (.bool (p o)) ∧ H' = H)) :
    ACalls Tryz.prog 81 [.pv (.sl (l.map encObj)), fv] H (fun r H' => r = .pv (.int .i64 (gidx p l)) ∧ H' = H) := by
  refine ACalls.body Tryz.func81 rfl Tryz.ntmps81 (Nat.le_of_ble_eq_true rfl) ?_
  refine awp_seq ?_
  refine awp_region ?_
  refine al_d rfl rfl rfl (by exact opd_assign rfl rfl) ?_
  refine al_nil ?_
  refine awp_seq ?_
  refine awp_seq ?_
  refine awp_region ?_
  refine al_d rfl rfl rfl (by exact opd_move rfl rfl) ?_
  refine al_d rfl rfl rfl (by exact (by exact opd_len_sl rfl Tryz.underlying22 rfl)) ?_
  refine al_d rfl rfl rfl (by exact opd_move rfl rfl) ?_
  refine al_nil ?_
  refine awp_block ?_
  -- loop
  refine awp_loop (σ := Nat) (fun k => ([(0, .pv (.sl (l.map encObj))), (1, fv), (7, .pv (.int .i64 (l.map encObj).length)), (8, .pv (.int .i64 (k : Int)))], H)) (fun k => k ≤ l.length ∧ ∀ j, j < k → ∀ b, l[j]? = some b → p b = false) (fun k => l.length - k) 0 ⟨by omega, by omega⟩ ?_ ?_
  · exact Ent.e0 ⟨⟨_, rfl, rfl⟩, ⟨_, rfl, rfl⟩, ⟨_, rfl, rfl⟩, ⟨_, rfl, rfl⟩, trivial⟩
  · rintro k ⟨hk, hno⟩
    refine awp_seq ?_
    refine awp_region ?_
    refine al_d rfl rfl rfl (by exact opd_lss rfl rfl rfl) ?_
    refine al_nil ?_
    refine awp_seq ?_
    refine awp_cond rfl (fun hc1 => ?_) (fun hc1 => ?_)
    -- cond 1
    · have hlt : k < l.length := by simpa using hc1
      obtain ⟨o, ho⟩ := get_of_lt hlt
      have hi := map_get (f := encObj) ho
      have hfo := hf o (List.mem_of_getElem? ho)
      refine awp_skip ?_
      refine awp_seq ?_
      refine awp_block ?_
      refine awp_seq ?_
      refine awp_region ?_
      refine al_d rfl rfl rfl (by exact opd_move rfl rfl) ?_
      refine al_d rfl rfl rfl (by exact opd_assign rfl rfl) ?_
      refine al_nil ?_
      refine awp_seq ?_
      refine awp_region ?_
      refine al_d rfl rfl rfl (by exact opd_move rfl rfl) ?_
      refine al_d rfl rfl rfl (by exact opd_move rfl rfl) ?_
      refine al_d rfl rfl rfl (by exact opd_move rfl rfl) ?_
      refine al_d rfl rfl rfl (by exact (by exact x_index_pad rfl so22 rfl rfl (by omega) (by exact Int.toNat_natCast _) (by assumption) rfl)) ?_
      refine al_d rfl rfl rfl (by exact (by exact opd_loadn_pad rfl Tryz.isAgg42 Tryz.sizeOf42 rfl (by omega) (by simp only [List.drop_succ_cons, List.drop_zero, List.take_succ_cons, List.take_zero, List.take_nil, List.map_cons, List.map_nil, List.set_cons_zero, List.set_cons_succ, List.cons_append, List.nil_append, encObj]; rfl) rfl)) ?_
      refine al_d rfl rfl rfl (by exact opr_callV rfl rfl rfl (hfo)) ?_
      refine al_nil ?_
      refine awp_cond rfl (fun hc2 => ?_) (fun hc2 => ?_)
      -- cond 2
      · skip
        refine awp_seq ?_
        refine awp_region ?_
        refine al_d rfl rfl rfl (by exact opd_move rfl rfl) ?_
        refine al_d rfl rfl rfl (by exact opd_assign rfl rfl) ?_
        refine al_nil ?_
        refine awp_ret ?_
        -- return
        exact aret1 (H' := H) (.inr rfl) rfl (rval_tmp rfl) Fin.refl ⟨by rw [gidx, fidx_some hno ho hc2], rfl⟩
      · skip
        refine awp_skip ?_
        refine awp_region ?_
        refine al_d rfl rfl rfl (by exact opd_add rfl rfl rfl (by exact w64 (by omega) (by omega))) ?_
        refine al_d rfl rfl rfl (by exact opd_move rfl rfl) ?_
        refine al_nil ?_
        -- end of a round
        refine ⟨k + 1, ⟨by omega, fun j hj b hb => ?_⟩, by omega, Ent.e0 ⟨⟨_, rfl, rfl⟩, ⟨_, rfl, rfl⟩, ⟨_, rfl, rfl⟩, ⟨_, rfl, rfl⟩, trivial⟩⟩
        by_cases e : j = k
        · subst e; rw [ho] at hb; cases hb; exact hc2
        · exact hno j (by omega) b hb
    · have hge : k = l.length := by have : l.length ≤ k := by simpa using hc1
                                    omega
      subst hge
      refine awp_exit ?_
      refine awp_seq ?_
      refine awp_region ?_
      refine al_d rfl rfl rfl (by exact opd_assign rfl rfl) ?_
      refine al_nil ?_
      refine awp_ret ?_
      -- return
      exact aret1 (H' := H) (.inr rfl) rfl (rval_tmp rfl) Fin.refl ⟨by rw [gidx, fidx_none hno], rfl⟩
/-- slices.IndexFunc at planisphere/api.Edit. -/
theorem indexFunc_GEdit (fv : AV) (l : List GEdit) (p : GEdit → Bool) (H : Heap) (hl : l.length < 4611686018427387904) (hf : ∀ o, o ∈ l → CallsV Tryz.prog fv [.agg ((encEdit o).map .pv)] H (fun r H' => r = .pv (.bool (p o)) ∧ H' = H)) :
    ACalls Tryz.prog 114 [.pv (.sl (l.map encEdit)), fv] H (fun r H' => r = .pv (.int .i64 (gidx p l)) ∧ H' = H) := by
  refine ACalls.body Tryz.func114 rfl Tryz.ntmps114 (Nat.le_of_ble_eq_true rfl) ?_
  refine awp_seq ?_
  refine awp_region ?_
  refine al_d rfl rfl rfl (by exact opd_assign rfl rfl) ?_
  refine al_nil ?_
  refine awp_seq ?_
  refine awp_seq ?_
  refine awp_region ?_
  refine al_d rfl rfl rfl (by exact opd_move rfl rfl) ?_
  refine al_d rfl rfl rfl (by exact (by exact opd_len_sl rfl Tryz.underlying25 rfl)) ?_
  refine al_d rfl rfl rfl (by exact opd_move rfl rfl) ?_
  refine al_nil ?_
  refine awp_block ?_
  -- loop
  refine awp_loop (σ := Nat) (fun k => ([(0, .pv (.sl (l.map encEdit))), (1, fv), (7, .pv (.int .i64 (l.map encEdit).length)), (8, .pv (.int .i64 (k : Int)))], H)) (fun k => k ≤ l.length ∧ ∀ j, j < k → ∀ b, l[j]? = some b → p b = false) (fun k => l.length - k) 0 ⟨by omega, by omega⟩ ?_ ?_
  · exact Ent.e0 ⟨⟨_, rfl, rfl⟩, ⟨_, rfl, rfl⟩, ⟨_, rfl, rfl⟩, ⟨_, rfl, rfl⟩, trivial⟩
  · rintro k ⟨hk, hno⟩
    refine awp_seq ?_
    refine awp_region ?_
    refine al_d rfl rfl rfl (by exact opd_lss rfl rfl rfl) ?_
    refine al_nil ?_
    refine awp_seq ?_
    refine awp_cond rfl (fun hc1 => ?_) (fun hc1 => ?_)
    -- cond 1
    · have hlt : k < l.length := by simpa using hc1
      obtain ⟨o, ho⟩ := get_of_lt hlt
      have hi := map_get (f := encEdit) ho
      have hfo := hf o (List.mem_of_getElem? ho)
      refine awp_skip ?_
      refine awp_seq ?_
      refine awp_block ?_
      refine awp_seq ?_
      refine awp_region ?_
      refine al_d rfl rfl rfl (by exact opd_move rfl rfl) ?_
      refine al_d rfl rfl rfl (by exact opd_assign rfl rfl) ?_
      refine al_nil ?_
      refine awp_seq ?_
      refine awp_region ?_
      refine al_d rfl rfl rfl (by exact opd_move rfl rfl) ?_
      refine al_d rfl rfl rfl (by exact opd_move rfl rfl) ?_
      refine al_d rfl rfl rfl (by exact opd_move rfl rfl) ?_
      refine al_d rfl rfl rfl (by exact (by exact x_index_pad rfl so25 rfl rfl (by omega) (by exact Int.toNat_natCast _) (by assumption) rfl)) ?_
      refine al_d rfl rfl rfl (by exact (by exact opd_loadn_pad rfl Tryz.isAgg44 Tryz.sizeOf44 rfl (by omega) (by simp only [List.drop_succ_cons, List.drop_zero, List.take_succ_cons, List.take_zero, List.take_nil, List.map_cons, List.map_nil, List.set_cons_zero, List.set_cons_succ, List.cons_append, List.nil_append, encEdit]; rfl) rfl)) ?_
      refine al_d rfl rfl rfl (by exact opr_callV rfl rfl rfl (hfo)) ?_
      refine al_nil ?_
      refine awp_cond rfl (fun hc2 => ?_) (fun hc2 => ?_)
      -- cond 2
      · skip
        refine awp_seq ?_
        refine awp_region ?_
        refine al_d rfl rfl rfl (by exact opd_move rfl rfl) ?_
        refine al_d rfl rfl rfl (by exact opd_assign rfl rfl) ?_
        refine al_nil ?_
        refine awp_ret ?_
        -- return
        exact aret1 (H' := H) (.inr rfl) rfl (rval_tmp rfl) Fin.refl ⟨by rw [gidx, fidx_some hno ho hc2], rfl⟩
      · skip
        refine awp_skip ?_
        refine awp_region ?_
        refine al_d rfl rfl rfl (by exact opd_add rfl rfl rfl (by exact w64 (by omega) (by omega))) ?_
        refine al_d rfl rfl rfl (by exact opd_move rfl rfl) ?_
        refine al_nil ?_
        -- end of a round
        refine ⟨k + 1, ⟨by omega, fun j hj b hb => ?_⟩, by omega, Ent.e0 ⟨⟨_, rfl, rfl⟩, ⟨_, rfl, rfl⟩, ⟨_, rfl, rfl⟩, ⟨_, rfl, rfl⟩, trivial⟩⟩
        by_cases e : j = k
        · subst e; rw [ho] at hb; cases hb; exact hc2
        · exact hno j (by omega) b hb
    · have hge : k = l.length := by have : l.length ≤ k := by simpa using hc1
                                    omega
      subst hge
      refine awp_exit ?_
      refine awp_seq ?_
      refine awp_region ?_
      refine al_d rfl rfl rfl (by exact opd_assign rfl rfl) ?_
      refine al_nil ?_
      refine awp_ret ?_
      -- return
      exact aret1 (H' := H) (.inr rfl) rfl (rval_tmp rfl) Fin.refl ⟨by rw [gidx, fidx_none hno], rfl⟩
end Go.Proofs.YtdgoodjhndeojaaGreat
end
section
set_option linter.unusedVariables false
set_option linter.unusedSimpArgs false
set_option maxRecDepth 100000
namespace Go.Proofs.YtdgoodjhndeojaaGreat
open Go.Abs
abbrev sName : ByteArray := ⟨#[110, 97, 109, 101]⟩
def idIs (id : ByteArray) (o : GObj) : Bool := decide (o.id = id)
def obOf (m : List GObj) (id : ByteArray) : GObj := (m.find? (idIs id)).getD zObj
def isOb (m : List GObj) (id : ByteArray) : Bool := (m.find? (idIs id)).isSome
def nameIs (t : GTag) : Bool := decide (t.key = sName)
def onP (x y : Int) : Bool := decide (0 ≤ min x y) && decide (max x y < 1048576)
end Go.Proofs.YtdgoodjhndeojaaGreat
end
section
set_option linter.unusedVariables false
set_option linter.unusedSimpArgs false
set_option maxRecDepth 100000
namespace Go.Proofs.YtdgoodjhndeojaaGreat
open Go.Abs
/-- slices.ContainsFunc -/
theorem containsFunc_GEdit (fv : AV) (l : List GEdit) (p : GEdit → Bool) (H : Heap) (hl : l.length < 4611686018427387904) (hf : ∀ o, o ∈ l → CallsV Tryz.prog fv [.agg ((encEdit o).map .pv)] H (fun r H' => r = .pv (.bool (p o)) ∧ H' = H)) :
    ACalls Tryz.prog 58 [.pv (.sl (l.map encEdit)), fv] H (fun r H' => r = .pv (.bool (l.any p)) ∧ H' = H) := by
  refine ACalls.body Tryz.func58 rfl Tryz.ntmps58 (Nat.le_of_ble_eq_true rfl) ?_
  refine awp_seq ?_
  refine awp_region ?_
  refine al_d rfl rfl rfl (by exact opd_assign rfl rfl) ?_
  refine al_nil ?_
  refine awp_seq ?_
  refine awp_region ?_
  refine al_d rfl rfl rfl (by exact opd_move rfl rfl) ?_
  refine al_d rfl rfl rfl (by exact opd_move rfl rfl) ?_
  refine al_d rfl rfl rfl (by exact opr_call rfl rfl Tryz.call114 rfl (indexFunc_GEdit fv l p H hl hf)) ?_
  refine al_d rfl rfl rfl (by exact opd_geq rfl rfl rfl) ?_
  refine al_d rfl rfl rfl (by exact opd_assign rfl rfl) ?_
  refine al_nil ?_
  refine awp_ret ?_
  -- return
  exact aret1 (H' := H) (.inr rfl) rfl (rval_tmp rfl) Fin.refl ⟨by rw [gidx_any], rfl⟩
def gDropped (m : List GObj) (e : GEdit) : Bool := isOb m e.id && decide (e.op = 5)
def gOthers (a b : GEdit) : Bool := !decide (a.id = b.id)
def gNamed (l : List GTag) : Bool := l.any nameIs
def gBlanked (m : List GObj) (e : GEdit) : Bool := decide (e.op = 3) && decide (e.key = sName) && decide (e.val = sNil) && gNamed (obOf m e.id).tags
def gFar (o : GObj) (e : GEdit) : Bool := decide (1000000 ≤ (e.x - o.x) * (e.x - o.x) + (e.y - o.y) * (e.y - o.y))
def gMoved (m : List GObj) (e : GEdit) : Bool := decide (e.op = 2) && decide ((obOf m e.id).kind = 1) && onP (obOf m e.id).x (obOf m e.id).y && onP e.x e.y && gFar (obOf m e.id) e
def gPut (e : GEdit) : Bool := decide (e.op = 1) && decide (e.obj.kind = 1)
def tagEq (a b : GTag) : Bool := decide (a.key = b.key) && decide (a.val = b.val)
def tagsEq : List GTag → List GTag → Bool
  | [], [] => true
  | a :: l, b :: r => tagEq a b && tagsEq l r
  | _, _ => false
def gAlike (a b : GEdit) : Bool := !decide (a.obj.id = b.obj.id) && (decide (a.obj.x = b.obj.x) && decide (a.obj.y = b.obj.y)) && tagsEq a.obj.tags b.obj.tags
end Go.Proofs.YtdgoodjhndeojaaGreat
end
section
set_option linter.unusedVariables false
set_option linter.unusedSimpArgs false
set_option maxRecDepth 100000
namespace Go.Proofs.YtdgoodjhndeojaaGreat
open Go.Abs
theorem tagEq_iff (a b : GTag) : tagEq a b = true ↔ a = b := by
  cases a; cases b; simp [tagEq]
theorem tagsEq_ne : ∀ (a b : List GTag), a.length ≠ b.length → tagsEq a b = false
  | [], [], h => absurd rfl h
  | [], _ :: _, _ => rfl
  | _ :: _, [], _ => rfl
  | x :: a, y :: b, h => by rw [tagsEq, tagsEq_ne a b (by simpa using h)]; simp
theorem tagsEq_at : ∀ (a b : List GTag) (k : Nat) (x y : GTag), a[k]? = some x → b[k]? = some y → tagEq x y = false → tagsEq a b = false
  | [], _, k, x, y, h, _, _ => by simp at h
  | _ :: _, [], k, x, y, _, h, _ => by simp at h
  | u :: a, v :: b, 0, x, y, h1, h2, h => by cases h1; cases h2; rw [tagsEq, h]; rfl
  | u :: a, v :: b, k + 1, x, y, h1, h2, h => by rw [tagsEq, tagsEq_at a b k x y h1 h2 h]; simp
theorem tagsEq_all : ∀ (a b : List GTag), a.length = b.length → (∀ k, k < a.length → ∀ x y, a[k]? = some x → b[k]? = some y → tagEq x y = true) → tagsEq a b = true
  | [], [], _, _ => rfl
  | [], _ :: _, h, _ => by simp at h
  | _ :: _, [], h, _ => by simp at h
  | u :: a, v :: b, hl, h => by
    rw [tagsEq, h 0 (by simp) u v rfl rfl, tagsEq_all a b (by simpa using hl) (fun k hk x y h1 h2 => h (k + 1) (by simpa using hk) x y h1 h2)]; rfl
theorem equalTags_c (a b : List GTag) (H : Heap) (ha : a.length < 4611686018427387904) :
    ACalls Tryz.prog 87 [lv (a.map encTag), lv (b.map encTag)] H (fun r H' => r = bv (tagsEq a b) ∧ H' = H) := by
  refine ACalls.pure ?_ (by simp) H
  refine ACalls.body Tryz.func87 rfl Tryz.ntmps87 (Nat.le_of_ble_eq_true rfl) ?_
  refine awp_seq ?_
  refine awp_region ?_
  refine al_d rfl rfl rfl (by exact opd_assign rfl rfl) ?_
  refine al_nil ?_
  refine awp_seq ?_
  refine awp_seq ?_
  refine awp_region ?_
  refine al_d rfl rfl rfl (by exact opd_move rfl rfl) ?_
  refine al_d rfl rfl rfl (by exact (by exact opd_len_sl rfl Tryz.underlying40 rfl)) ?_
  refine al_d rfl rfl rfl (by exact opd_move rfl rfl) ?_
  refine al_d rfl rfl rfl (by exact (by exact opd_len_sl rfl Tryz.underlying40 rfl)) ?_
  refine al_d rfl rfl rfl (by exact opd_neq rfl rfl rfl) ?_
  refine al_nil ?_
  refine awp_cond rfl (fun hc1 => ?_) (fun hc1 => ?_)
  -- cond 1
  · have hne : a.length ≠ b.length := by simp at hc1; omega
    refine awp_seq ?_
    refine awp_region ?_
    refine al_d rfl rfl rfl (by exact opd_assign rfl rfl) ?_
    refine al_nil ?_
    refine awp_ret ?_
    -- return
    refine aret1 (H' := []) (by exact .inr rfl) rfl (rval_tmp rfl) (Fin.wk (by simp) trivial trivial) ?_
    exact ⟨by rw [tagsEq_ne a b hne], rfl⟩
  · have heq : a.length = b.length := by simp at hc1; omega
    refine awp_skip ?_
    refine awp_seq ?_
    refine awp_seq ?_
    refine awp_region ?_
    refine al_d rfl rfl rfl (by exact opd_move rfl rfl) ?_
    refine al_d rfl rfl rfl (by exact (by exact opd_len_sl rfl Tryz.underlying40 rfl)) ?_
    refine al_d rfl rfl rfl (by exact opd_move rfl rfl) ?_
    refine al_nil ?_
    refine awp_block ?_
    -- loop
    refine awp_loop (σ := Nat) (fun k => ([(0, lv (a.map encTag)), (1, lv (b.map encTag)), (12, iv (a.map encTag).length), (13, iv (k : Int))], [])) (fun k => k ≤ a.length ∧ ∀ j, j < k → ∀ x y, a[j]? = some x → b[j]? = some y → tagEq x y = true) (fun k => a.length - k) 0 ⟨by omega, by omega⟩ ?_ ?_
    · exact Ent.e0 ⟨⟨_, rfl, rfl⟩, ⟨_, rfl, rfl⟩, ⟨_, rfl, rfl⟩, ⟨_, rfl, rfl⟩, trivial⟩
    · rintro k ⟨hk, hall⟩
      refine awp_seq ?_
      refine awp_region ?_
      refine al_d rfl rfl rfl (by exact opd_lss rfl rfl rfl) ?_
      refine al_nil ?_
      refine awp_seq ?_
      refine awp_cond rfl (fun hc2 => ?_) (fun hc2 => ?_)
      -- cond 2
      · have hlt : k < a.length := by simpa using hc2
        obtain ⟨x, hx⟩ := get_of_lt hlt
        obtain ⟨y, hy⟩ := get_of_lt (l := b) (k := k) (by omega)
        have hi := map_get (f := encTag) hx
        have hi2 := map_get (f := encTag) hy
        refine awp_skip ?_
        refine awp_seq ?_
        refine awp_block ?_
        refine awp_seq ?_
        refine awp_region ?_
        refine al_d rfl rfl rfl (by exact opd_move rfl rfl) ?_
        refine al_d rfl rfl rfl (by exact opd_assign rfl rfl) ?_
        refine al_nil ?_
        refine awp_seq ?_
        refine awp_drawc follows ?_
        refine dc_cons (DStep.q rfl (by exact opd_move rfl rfl)) rfl ?_
        refine dc_cons (DStep.q rfl (by exact opd_move rfl rfl)) rfl ?_
        refine dc_cons (DStep.q rfl (by exact (by exact x_index_pad rfl so40 rfl rfl (by omega) (by exact Int.toNat_natCast _) (by assumption) rfl))) rfl ?_
        refine dc_cons (DStep.q rfl (by exact (by exact opd_loadn_pad rfl Tryz.isAgg62 Tryz.sizeOf62 rfl (by omega) (by simp only [List.drop_succ_cons, List.drop_zero, List.take_succ_cons, List.take_zero, List.take_nil, List.map_cons, List.map_nil, List.set_cons_zero, List.set_cons_succ, List.cons_append, List.nil_append, encTag, encObj, encEdit]; rfl) rfl))) rfl ?_
        refine dc_cons (DStep.q rfl (by exact opd_move rfl rfl)) rfl ?_
        refine dc_cons (DStep.q rfl (by exact opd_move rfl rfl)) rfl ?_
        refine dc_cons (DStep.q rfl (by exact (by exact x_index_pad rfl so40 rfl rfl (by omega) (by exact Int.toNat_natCast _) (by assumption) rfl))) rfl ?_
        refine dc_cons (DStep.q rfl (by exact (by exact opd_loadn_pad rfl Tryz.isAgg62 Tryz.sizeOf62 rfl (by omega) (by simp only [List.drop_succ_cons, List.drop_zero, List.take_succ_cons, List.take_zero, List.take_nil, List.map_cons, List.map_nil, List.set_cons_zero, List.set_cons_succ, List.cons_append, List.nil_append, encTag, encObj, encEdit]; rfl) rfl))) rfl ?_
        refine dc_cons (DStep.q rfl (by exact opd_aneq rfl rfl rfl rfl rfl Tryz.eqGuardType62 (se62 _ _ _ _))) rfl ?_
        refine dc_nil ⟨by kernel_rfl, ?_⟩
        refine awp_cond rfl (fun hc3 => ?_) (fun hc3 => ?_)
        -- cond 3
        · have ht : tagEq x y = false := by
            have h : (!tagEq x y) = true := hc3
            simpa using h
          refine awp_seq ?_
          refine awp_region ?_
          refine al_d rfl rfl rfl (by exact opd_assign rfl rfl) ?_
          refine al_nil ?_
          refine awp_ret ?_
          -- return
          refine aret1 (H' := []) (by exact .inr rfl) rfl (rval_tmp rfl) (Fin.wk (by simp) trivial trivial) ?_
          exact ⟨by rw [tagsEq_at a b k x y hx hy ht], rfl⟩
        · have ht : tagEq x y = true := by
            have h : (!tagEq x y) = false := hc3
            simpa using h
          refine awp_skip ?_
          refine awp_region ?_
          refine al_d rfl rfl rfl (by exact opd_add rfl rfl rfl (by exact w64 (by omega) (by omega))) ?_
          refine al_d rfl rfl rfl (by exact opd_move rfl rfl) ?_
          refine al_nil ?_
          -- end of a round
          refine ⟨k + 1, ⟨by omega, fun j hj x' y' h1 h2 => ?_⟩, by omega, Ent.e0 ⟨⟨_, rfl, rfl⟩, ⟨_, rfl, rfl⟩, ⟨_, rfl, rfl⟩, ⟨_, rfl, rfl⟩, trivial⟩⟩
          by_cases e : j = k
          · subst e; rw [hx] at h1; rw [hy] at h2; cases h1; cases h2; exact ht
          · exact hall j (by omega) x' y' h1 h2
      · have hge : k = a.length := by have : a.length ≤ k := by simpa using hc2
                                      omega
        subst hge
        refine awp_exit ?_
        refine awp_seq ?_
        refine awp_region ?_
        refine al_d rfl rfl rfl (by exact opd_assign rfl rfl) ?_
        refine al_nil ?_
        refine awp_ret ?_
        -- return
        refine aret1 (H' := []) (by exact .inr rfl) rfl (rval_tmp rfl) (Fin.wk (by simp) trivial trivial) ?_
        exact ⟨by rw [tagsEq_all a b heq hall], rfl⟩
/-- slices.IndexFunc over an owned slice. -/
theorem indexOwn_GEdit (fv : AV) (l : List GEdit) (p : GEdit → Bool) (H : Heap) (id g sz : Nat) (ob : Ob) (hob : H.get id = some ob) (hg : ob.g = g) (hsz : ob.sz = sz) (hrows : ob.rows = l.map (fun e => (encEdit e).map .pv)) (hs : sz = 15)
    (hl : l.length < 4611686018427387904) (hf : ∀ o, o ∈ l → CallsV Tryz.prog fv [.agg ((encEdit o).map .pv)] H (fun r H' => r = .pv (.bool (p o)) ∧ H' = H)) :
    ACalls Tryz.prog 114 [.osl id g 0 l.length, fv] H (fun r H' => r = .pv (.int .i64 (gidx p l)) ∧ H' = H) := by
  subst hs hg
  refine ACalls.body Tryz.func114 rfl Tryz.ntmps114 (Nat.le_of_ble_eq_true rfl) ?_
  refine awp_seq ?_
  refine awp_region ?_
  refine al_d rfl rfl rfl (by exact opd_assign rfl rfl) ?_
  refine al_nil ?_
  refine awp_seq ?_
  refine awp_seq ?_
  refine awp_region ?_
  refine al_d rfl rfl rfl (by exact opd_move rfl rfl) ?_
  refine al_d rfl rfl rfl (by exact (by exact opd_len_osl rfl Tryz.underlying25 rfl hob rfl)) ?_
  refine al_d rfl rfl rfl (by exact opd_move rfl rfl) ?_
  refine al_nil ?_
  refine awp_block ?_
  -- loop
  refine awp_loop (σ := Nat) (fun k => ([(0, .osl id ob.g 0 l.length), (1, fv), (7, .pv (.int .i64 l.length)), (8, .pv (.int .i64 (k : Int)))], H)) (fun k => k ≤ l.length ∧ ∀ j, j < k → ∀ b, l[j]? = some b → p b = false) (fun k => l.length - k) 0 ⟨by omega, by omega⟩ ?_ ?_
  · exact Ent.e0 ⟨⟨_, rfl, rfl⟩, ⟨_, rfl, rfl⟩, ⟨_, rfl, rfl⟩, ⟨_, rfl, rfl⟩, trivial⟩
  · rintro k ⟨hk, hno⟩
    refine awp_seq ?_
    refine awp_region ?_
    refine al_d rfl rfl rfl (by exact opd_lss rfl rfl rfl) ?_
    refine al_nil ?_
    refine awp_seq ?_
    refine awp_cond rfl (fun hc1 => ?_) (fun hc1 => ?_)
    -- cond 1
    · have hlt : k < l.length := by simpa using hc1
      obtain ⟨o, ho⟩ := get_of_lt hlt
      have hi : ob.rows[0 + k]? = some ((encEdit o).map .pv) := by rw [hrows, Nat.zero_add, List.getElem?_map, ho]; rfl
      have hfo := hf o (List.mem_of_getElem? ho)
      refine awp_skip ?_
      refine awp_seq ?_
      refine awp_block ?_
      refine awp_seq ?_
      refine awp_region ?_
      refine al_d rfl rfl rfl (by exact opd_move rfl rfl) ?_
      refine al_d rfl rfl rfl (by exact opd_assign rfl rfl) ?_
      refine al_nil ?_
      refine awp_seq ?_
      refine awp_region ?_
      refine al_d rfl rfl rfl (by exact opd_move rfl rfl) ?_
      refine al_d rfl rfl rfl (by exact opd_move rfl rfl) ?_
      refine al_d rfl rfl rfl (by exact opd_move rfl rfl) ?_
      refine al_d rfl rfl rfl (by exact x_index_osl rfl so25 rfl hob rfl hsz rfl (by omega) (Int.toNat_natCast _) hlt rfl) ?_
      refine al_d rfl rfl rfl (by exact opd_loadn_ref rfl Tryz.isAgg44 Tryz.sizeOf44 rfl hob rfl hi (by simp only [List.drop_zero, encEdit, List.map_cons, List.map_nil, List.take_succ_cons, List.take_zero, List.take_nil]; rfl) rfl) ?_
      refine al_d rfl rfl rfl (by exact opr_callV rfl rfl rfl (hfo)) ?_
      refine al_nil ?_
      refine awp_cond rfl (fun hc2 => ?_) (fun hc2 => ?_)
      -- cond 2
      · skip
        refine awp_seq ?_
        refine awp_region ?_
        refine al_d rfl rfl rfl (by exact opd_move rfl rfl) ?_
        refine al_d rfl rfl rfl (by exact opd_assign rfl rfl) ?_
        refine al_nil ?_
        refine awp_ret ?_
        -- return
        exact aret1 (H' := H) (.inr rfl) rfl (rval_tmp rfl) Fin.refl ⟨by rw [gidx, fidx_some hno ho hc2], rfl⟩
      · skip
        refine awp_skip ?_
        refine awp_region ?_
        refine al_d rfl rfl rfl (by exact opd_add rfl rfl rfl (by exact w64 (by omega) (by omega))) ?_
        refine al_d rfl rfl rfl (by exact opd_move rfl rfl) ?_
        refine al_nil ?_
        -- end of a round
        refine ⟨k + 1, ⟨by omega, pre_succ hno ho hc2⟩, by omega, Ent.e0 ⟨⟨_, rfl, rfl⟩, ⟨_, rfl, rfl⟩, ⟨_, rfl, rfl⟩, ⟨_, rfl, rfl⟩, trivial⟩⟩
    · have hge : k = l.length := by have : l.length ≤ k := by simpa using hc1
                                    omega
      subst hge
      refine awp_exit ?_
      refine awp_seq ?_
      refine awp_region ?_
      refine al_d rfl rfl rfl (by exact opd_assign rfl rfl) ?_
      refine al_nil ?_
      refine awp_ret ?_
      -- return
      exact aret1 (H' := H) (.inr rfl) rfl (rval_tmp rfl) Fin.refl ⟨by rw [gidx, fidx_none hno], rfl⟩
theorem containsOwn_GEdit (fv : AV) (l : List GEdit) (p : GEdit → Bool) (H : Heap) (id g sz : Nat) (ob : Ob) (hob : H.get id = some ob) (hg : ob.g = g) (hsz : ob.sz = sz) (hrows : ob.rows = l.map (fun e => (encEdit e).map .pv)) (hs : sz = 15)
    (hl : l.length < 4611686018427387904) (hf : ∀ o, o ∈ l → CallsV Tryz.prog fv [.agg ((encEdit o).map .pv)] H (fun r H' => r = .pv (.bool (p o)) ∧ H' = H)) :
    ACalls Tryz.prog 58 [.osl id g 0 l.length, fv] H (fun r H' => r = .pv (.bool (l.any p)) ∧ H' = H) := by
  refine ACalls.body Tryz.func58 rfl Tryz.ntmps58 (Nat.le_of_ble_eq_true rfl) ?_
  refine awp_seq ?_
  refine awp_region ?_
  refine al_d rfl rfl rfl (by exact opd_assign rfl rfl) ?_
  refine al_nil ?_
  refine awp_seq ?_
  refine awp_region ?_
  refine al_d rfl rfl rfl (by exact opd_move rfl rfl) ?_
  refine al_d rfl rfl rfl (by exact opd_move rfl rfl) ?_
  refine al_d rfl rfl rfl (by exact opr_call rfl rfl Tryz.call114 rfl (indexOwn_GEdit fv l p H id g sz ob hob hg hsz hrows hs hl hf)) ?_
  refine al_d rfl rfl rfl (by exact opd_geq rfl rfl rfl) ?_
  refine al_d rfl rfl rfl (by exact opd_assign rfl rfl) ?_
  refine al_nil ?_
  refine awp_ret ?_
  -- return
  exact aret1 (H' := H) (.inr rfl) rfl (rval_tmp rfl) Fin.refl ⟨by rw [gidx_any], rfl⟩
end Go.Proofs.YtdgoodjhndeojaaGreat
end
section
set_option linter.unusedVariables false
set_option linter.unusedSimpArgs false
set_option maxRecDepth 100000
namespace Go.Proofs.YtdgoodjhndeojaaGreat
open Go.Abs
def kMany (k : Nat) : Int := match k with | 0 => 0 | 1 => 5 | 2 => 3 | 3 => 3 | _ => 4
def kF1 (k : Nat) : PV := match k with | 0 => .nilfn | 1 => .fn 128 | 2 => .fn 130 | 3 => .fn 131 | _ => .fn 132
def kF2 (k : Nat) : PV := match k with | 0 => .nilfn | 1 => .fn 129 | 2 => .fn 129 | 3 => .fn 129 | _ => .fn 133
def kindsV : List AV := [iv 0, .pv .nilfn, .pv .nilfn, iv 5, .pv (.fn 128), .pv (.fn 129), iv 3, .pv (.fn 130), .pv (.fn 129),
  iv 3, .pv (.fn 131), .pv (.fn 129), iv 4, .pv (.fn 132), .pv (.fn 133)]
def gShows (k : Nat) (m : List GObj) (e : GEdit) : Bool := match k with | 1 => gDropped m e | 2 => gBlanked m e | 3 => gMoved m e | _ => gPut e
def gTog (k : Nat) (a b : GEdit) : Bool := match k with | 4 => gAlike a b | _ => gOthers a b
/-- What is moderate. -/
def okTagsV (l : List GTag) : Prop := l.length < 4611686018427387904
def okMap (m : List GObj) : Prop := m.length < 4611686018427387904 ∧ ∀ o, o ∈ m → okTagsV o.tags
def okEdits (l : List GEdit) : Prop := l.length < 1099511627776 ∧ ∀ e, e ∈ l → okTagsV e.obj.tags
def gDrop (e : GEdit) : Bool := decide (e.op = 5)
def gAccLoop (k : Nat) (m : List GObj) (l : List GEdit) : List Int → List GEdit → Int → Bool
  | [], _, _ => true
  | i :: r, sh, last => if i ≤ last ∨ (l.length : Int) ≤ i then false else
      match l[i.toNat]? with
      | none => false
      | some y => gShows k m y && !(sh.any fun x => !gTog k x y) && gAccLoop k m l r (sh ++ [y]) i
def gAccept (m : List GObj) (l : List GEdit) (kind : Int) (idx : List Int) : Bool :=
  decide (1 ≤ kind) && decide (kind ≤ 4) && decide ((idx.length : Int) = kMany kind.toNat) && gAccLoop kind.toNat m l idx [] (-1) && (!decide (kind = 1) || decide ((l.length : Int) - (l.countP gDrop : Nat) < (l.countP gDrop : Nat)))
theorem countP_take {α : Type} (p : α → Bool) {l : List α} {k : Nat} {a : α} (h : l[k]? = some a) : (l.take (k + 1)).countP p = (l.take k).countP p + (if p a then 1 else 0) := by
  rw [List.take_add_one, h, List.countP_append]
  simp [List.countP_cons]
theorem drop_of_get {α : Type} {l : List α} {k : Nat} {a : α} (h : l[k]? = some a) : l.drop k = a :: l.drop (k + 1) := by
  obtain ⟨hlt, he⟩ := List.getElem?_eq_some_iff.1 h
  rw [List.drop_eq_getElem_cons hlt, he]
theorem len_snoc {α : Type} (l : List α) (a : α) : l.length + 1 = (l ++ [a]).length := by simp
abbrev edRows (l : List GEdit) : List (List AV) := l.map (fun e => (encEdit e).map .pv)
end Go.Proofs.YtdgoodjhndeojaaGreat
end
section
set_option linter.unusedVariables false
set_option linter.unusedSimpArgs false
set_option maxRecDepth 100000
namespace Go.Proofs.YtdgoodjhndeojaaGreat
open Go.Abs
def longS (n : Int) (s : ByteArray) : Bool := decide (n < (s.size : Int))
def longT (n : Int) (t : GTag) : Bool := decide (n < IntKind.i64.wrap ((t.key.size : Int) + (t.val.size : Int)))
def bad13 (o : GObj) : Bool := (decide (12 < (o.refs.length : Int)) || decide (20 < (o.tags.length : Int)) || longS 60 o.id) || o.refs.any (longS 60) || o.tags.any (longT 300)
def few13 (m : List GObj) (n : Int) : Bool := !(decide (n < (m.length : Int))) && !(m.any bad13)
/-- Lengths that a loop can count. -/
def okObj (o : GObj) : Prop := o.refs.length < 4611686018427387904 ∧ o.tags.length < 4611686018427387904
theorem few13_c (m : List GObj) (n : Int) (H : Heap) (hm : m.length < 4611686018427387904) (ho : ∀ o, o ∈ m → okObj o) :
    ACalls Tryz.prog 53 [.agg [.pv (slObjs m)], iv n] H (fun r H' => r = bv (few13 m n) ∧ H' = H) := by
  refine ACalls.pure ?_ (by simp) H
  have hml : (m.map encObj).length = m.length := List.length_map _
  refine ACalls.body Tryz.func53 rfl Tryz.ntmps53 (Nat.le_of_ble_eq_true rfl) ?_
  refine awp_seq ?_
  refine awp_region ?_
  refine al_d rfl rfl rfl (by exact opd_box (id := 2) rfl rfl rfl rfl rfl) ?_
  refine al_d rfl rfl rfl (by exact opd_assign rfl rfl) ?_
  refine al_nil ?_
  refine awp_seq ?_
  refine awp_seq ?_
  refine awp_region ?_
  refine al_d rfl rfl rfl (by exact (by exact opd_field_ref rfl fo24_0 rfl rfl rfl rfl)) ?_
  refine al_d rfl rfl rfl (by exact (by exact opd_load1_ref rfl Tryz.isAgg22 rfl rfl rfl rfl rfl)) ?_
  refine al_d rfl rfl rfl (by exact (by exact opd_len_sl rfl Tryz.underlying22 rfl)) ?_
  refine al_d rfl rfl rfl (by exact opd_move rfl rfl) ?_
  refine al_d rfl rfl rfl (by exact opd_gtr rfl rfl rfl) ?_
  refine al_nil ?_
  refine awp_cond rfl (fun hc1 => ?_) (fun hc1 => ?_)
  -- cond 1
  · have hb : decide (n < (m.length : Int)) = true := by rw [← hml]; exact hc1
    refine awp_seq ?_
    refine awp_region ?_
    refine al_d rfl rfl rfl (by exact opd_assign rfl rfl) ?_
    refine al_nil ?_
    refine awp_ret ?_
    -- return
    refine aret1 (H' := []) (by exact .inr rfl) rfl (rval_tmp rfl) (Fin.wk (by simp) trivial trivial) ?_
    exact ⟨by rw [few13, hb]; rfl, rfl⟩
  · have hb : decide (n < (m.length : Int)) = false := by rw [← hml]; exact hc1
    rw [few13, hb, Bool.not_false, Bool.true_and]
    refine awp_skip ?_
    refine awp_seq ?_
    refine awp_seq ?_
    refine awp_region ?_
    refine al_d rfl rfl rfl (by exact opd_assign rfl rfl) ?_
    refine al_nil ?_
    refine awp_block ?_
    -- loop
    refine awp_loop (σ := Nat) (fun i => ([(2, .ref 2 0 0 0), (5, iv (i : Int))], [(2, bx 1 24 [.pv (slObjs m)])])) (fun i => i ≤ m.length ∧ ∀ j, j < i → ∀ b, m[j]? = some b → bad13 b = false) (fun i => m.length - i) 0 ⟨by omega, by omega⟩ ?_ ?_
    · exact (Ent.wk ⟨⟨_, rfl, rfl⟩, (by (simp; rfl)), ⟨_, rfl, rfl⟩, (by (simp; done)), trivial⟩ ⟨⟨_, rfl, rfl⟩, (by (simp; done)), trivial⟩ trivial)
    · rintro i ⟨hi, hno⟩
      refine awp_seq ?_
      refine awp_seq ?_
      refine awp_region ?_
      refine al_d rfl rfl rfl (by exact opd_move rfl rfl) ?_
      refine al_d rfl rfl rfl (by exact (by exact opd_field_ref rfl fo24_0 rfl rfl rfl rfl)) ?_
      refine al_d rfl rfl rfl (by exact (by exact opd_load1_ref rfl Tryz.isAgg22 rfl rfl rfl rfl rfl)) ?_
      refine al_d rfl rfl rfl (by exact (by exact opd_len_sl rfl Tryz.underlying22 rfl)) ?_
      refine al_d rfl rfl rfl (by exact opd_lss rfl rfl rfl) ?_
      refine al_nil ?_
      refine awp_cond rfl (fun hc2 => ?_) (fun hc2 => ?_)
      -- cond 2
      · have hlt : i < m.length := by simpa using hc2
        obtain ⟨o, hoi⟩ := get_of_lt hlt
        have hie := map_get (f := encObj) hoi
        have hok := ho o (List.mem_of_getElem? hoi)
        have hrl : (o.refs.map encStr).length = o.refs.length := List.length_map _
        have htl : (o.tags.map encTag).length = o.tags.length := List.length_map _
        have h1 := hok.1
        have h2 := hok.2
        refine awp_skip ?_
        refine awp_seq ?_
        refine awp_block ?_
        refine awp_seq ?_
        refine awp_region ?_
        refine al_d rfl rfl rfl (by exact (by exact opd_field_ref rfl fo24_0 rfl rfl rfl rfl)) ?_
        refine al_d rfl rfl rfl (by exact (by exact opd_load1_ref rfl Tryz.isAgg22 rfl rfl rfl rfl rfl)) ?_
        refine al_d rfl rfl rfl (by exact opd_move rfl rfl) ?_
        refine al_d rfl rfl rfl (by exact (by exact x_index_pad rfl so22 rfl rfl (by omega) (by exact Int.toNat_natCast _) (by assumption) rfl)) ?_
        refine al_d rfl rfl rfl (by exact (by exact opd_loadn_pad rfl Tryz.isAgg42 Tryz.sizeOf42 rfl (by omega) (by simp only [List.drop_succ_cons, List.drop_zero, List.take_succ_cons, List.take_zero, List.take_nil, List.map_cons, List.map_nil, List.set_cons_zero, List.set_cons_succ, List.cons_append, List.nil_append, encTag, encObj, encEdit]; rfl) rfl)) ?_
        refine al_d rfl rfl rfl (by exact x_alloc (id := 6) rfl zo42 rfl rfl) ?_
        refine al_n rfl rfl (by exact (by exact x_store_all rfl Tryz.sizeOf42 rfl rfl rfl rfl rfl rfl rfl rfl)) ?_
        refine al_nil ?_
        refine awp_seq ?_
        refine awp_seq ?_
        refine awp_bool (t := 41) (n := 18) (X := decide (12 < ((o.refs.map encStr).length : Int)) || decide (20 < ((o.tags.map encTag).length : Int)) || longS 60 o.id) ?_ ?_
        · all_goals (refine al_d rfl rfl rfl (by exact (by exact opd_field_ref rfl fo42_3 rfl rfl rfl rfl)) ?_)
          all_goals (refine al_d rfl rfl rfl (by exact (by exact opd_load1_ref rfl Tryz.isAgg39 rfl rfl rfl rfl rfl)) ?_)
          all_goals (refine al_d rfl rfl rfl (by exact (by exact opd_len_sl rfl Tryz.underlying39 rfl)) ?_)
          all_goals (refine al_d rfl rfl rfl (by exact opd_gtr rfl rfl rfl) ?_)
          all_goals (refine al_d rfl rfl rfl (by exact opd_move rfl rfl) ?_)
          all_goals (refine al_split (t := 30) rfl (fun h30 => ?_) (fun h30 => ?_))
          all_goals (try contradiction)
          all_goals (first | refine al_off rfl rfl rfl rfl rfl ?_ | refine al_ond rfl rfl rfl rfl rfl rfl (by exact (by exact opd_field_ref rfl fo42_4 rfl rfl rfl rfl)) ?_)
          all_goals (first | refine al_off rfl rfl rfl rfl rfl ?_ | refine al_ond rfl rfl rfl rfl rfl rfl (by exact (by exact opd_load1_ref rfl Tryz.isAgg40 rfl rfl rfl rfl rfl)) ?_)
          all_goals (first | refine al_off rfl rfl rfl rfl rfl ?_ | refine al_ond rfl rfl rfl rfl rfl rfl (by exact (by exact opd_len_sl rfl Tryz.underlying40 rfl)) ?_)
          all_goals (first | refine al_off rfl rfl rfl rfl rfl ?_ | refine al_ond rfl rfl rfl rfl rfl rfl (by exact opd_gtr rfl rfl rfl) ?_)
          all_goals (refine al_d rfl rfl rfl (by exact (by first | exact opd_pick_t rfl rfl rfl | exact opd_pick_f rfl rfl rfl)) ?_)
          all_goals (refine al_d rfl rfl rfl (by exact opd_move rfl rfl) ?_)
          all_goals (refine al_split (t := 36) rfl (fun h36 => ?_) (fun h36 => ?_))
          all_goals (try contradiction)
          all_goals (first | refine al_off rfl rfl rfl rfl rfl ?_ | refine al_ond rfl rfl rfl rfl rfl rfl (by exact (by exact opd_field_ref rfl fo42_0 rfl rfl rfl rfl)) ?_)
          all_goals (first | refine al_off rfl rfl rfl rfl rfl ?_ | refine al_ond rfl rfl rfl rfl rfl rfl (by exact (by exact opd_load1_ref rfl Tryz.isAgg9 rfl rfl rfl rfl rfl)) ?_)
          all_goals (first | refine al_off rfl rfl rfl rfl rfl ?_ | refine al_ond rfl rfl rfl rfl rfl rfl (by exact opd_len_str rfl Tryz.underlying9 rfl) ?_)
          all_goals (first | refine al_off rfl rfl rfl rfl rfl ?_ | refine al_ond rfl rfl rfl rfl rfl rfl (by exact opd_gtr rfl rfl rfl) ?_)
          all_goals (refine al_d rfl rfl rfl (by exact (by first | exact opd_pick_t rfl rfl rfl | exact opd_pick_f rfl rfl rfl)) ?_)
          all_goals (refine al_nil ?_)
          all_goals (exact ⟨⟨_, rfl, by first | (simp_all [longS]; done) | (simp_all [longS]; omega)⟩, rfl, rfl, rfl⟩)
        refine awp_cond rfl (fun hc3 => ?_) (fun hc3 => ?_)
        -- cond 3
        · have hbad : bad13 o = true := by
            rw [hrl, htl] at hc3
            rw [bad13, hc3]; rfl
          refine awp_seq ?_
          refine awp_region ?_
          refine al_d rfl rfl rfl (by exact opd_assign rfl rfl) ?_
          refine al_nil ?_
          refine awp_ret ?_
          -- return
          refine aret1 (H' := []) (by exact .inr rfl) rfl (rval_tmp rfl) (Fin.wk (by simp) trivial trivial) ?_
          exact ⟨by rw [any_some hoi hbad]; rfl, rfl⟩
        · rw [hrl, htl] at hc3
          have hb1 : bad13 o = (o.refs.any (longS 60) || o.tags.any (longT 300)) := by rw [bad13, hc3]; rfl
          refine awp_skip ?_
          refine awp_seq ?_
          refine awp_seq ?_
          refine awp_region ?_
          refine al_d rfl rfl rfl (by exact opd_assign rfl rfl) ?_
          refine al_nil ?_
          refine awp_block ?_
          -- loop
          refine awp_loop (σ := Nat) (fun q => ([(2, .ref 2 0 0 0), (5, iv (i : Int)), (6, .ref 6 0 0 0), (7, iv (q : Int))], [(6, bx 6 42 ((encObj o).map .pv)), (2, bx 1 24 [.pv (slObjs m)])])) (fun q => q ≤ o.refs.length ∧ ∀ j, j < q → ∀ b, o.refs[j]? = some b → longS 60 b = false) (fun q => o.refs.length - q) 0 ⟨by omega, by omega⟩ ?_ ?_
          · exact (Ent.wk ⟨⟨_, rfl, rfl⟩, (by (simp; rfl)), ⟨_, rfl, rfl⟩, (by (simp; done)), ⟨_, rfl, rfl⟩, (by (simp; rfl)), ⟨_, rfl, rfl⟩, (by (simp; done)), trivial⟩ ⟨⟨_, rfl, rfl⟩, (by (simp; done)), ⟨_, rfl, rfl⟩, (by (simp; done)), trivial⟩ trivial)
          · rintro q ⟨hq, hnr⟩
            refine awp_seq ?_
            refine awp_seq ?_
            refine awp_region ?_
            refine al_d rfl rfl rfl (by exact opd_move rfl rfl) ?_
            refine al_d rfl rfl rfl (by exact (by exact opd_field_ref rfl fo42_3 rfl rfl rfl rfl)) ?_
            refine al_d rfl rfl rfl (by exact (by exact opd_load1_ref rfl Tryz.isAgg39 rfl rfl rfl rfl rfl)) ?_
            refine al_d rfl rfl rfl (by exact (by exact opd_len_sl rfl Tryz.underlying39 rfl)) ?_
            refine al_d rfl rfl rfl (by exact opd_lss rfl rfl rfl) ?_
            refine al_nil ?_
            refine awp_cond rfl (fun hc4 => ?_) (fun hc4 => ?_)
            -- cond 4
            · have hlt2 : q < o.refs.length := by simpa using hc4
              obtain ⟨s, hs⟩ := get_of_lt hlt2
              have hse := map_get (f := encStr) hs
              refine awp_skip ?_
              refine awp_seq ?_
              refine awp_block ?_
              refine awp_seq ?_
              refine awp_region ?_
              refine al_d rfl rfl rfl (by exact (by exact opd_field_ref rfl fo42_3 rfl rfl rfl rfl)) ?_
              refine al_d rfl rfl rfl (by exact (by exact opd_load1_ref rfl Tryz.isAgg39 rfl rfl rfl rfl rfl)) ?_
              refine al_d rfl rfl rfl (by exact opd_move rfl rfl) ?_
              refine al_d rfl rfl rfl (by exact (by exact x_index_pad rfl so39 rfl rfl (by omega) (by exact Int.toNat_natCast _) (by assumption) rfl)) ?_
              refine al_d rfl rfl rfl (by exact (by exact opd_load1_pad rfl Tryz.isAgg9 rfl (by omega) rfl)) ?_
              refine al_d rfl rfl rfl (by exact opd_len_str rfl Tryz.underlying9 rfl) ?_
              refine al_d rfl rfl rfl (by exact opd_gtr rfl rfl rfl) ?_
              refine al_nil ?_
              refine awp_cond rfl (fun hc5 => ?_) (fun hc5 => ?_)
              -- cond 5
              · have hbad : bad13 o = true := by rw [hb1, any_some hs hc5]; rfl
                refine awp_seq ?_
                refine awp_region ?_
                refine al_d rfl rfl rfl (by exact opd_assign rfl rfl) ?_
                refine al_nil ?_
                refine awp_ret ?_
                -- return
                refine aret1 (H' := []) (by exact .inr rfl) rfl (rval_tmp rfl) (Fin.wk (by simp) trivial trivial) ?_
                exact ⟨by rw [any_some hoi hbad]; rfl, rfl⟩
              · skip
                refine awp_skip ?_
                refine awp_region ?_
                refine al_d rfl rfl rfl (by exact opd_move rfl rfl) ?_
                refine al_d rfl rfl rfl (by exact opd_add rfl rfl rfl (by exact w64 (by omega) (by omega))) ?_
                refine al_d rfl rfl rfl (by exact opd_assign rfl rfl) ?_
                refine al_nil ?_
                -- end of a round
                exact ⟨q + 1, ⟨by omega, pre_succ hnr hs hc5⟩, by omega, (Ent.wk ⟨⟨_, rfl, rfl⟩, (by (simp; rfl)), ⟨_, rfl, rfl⟩, (by (simp; done)), ⟨_, rfl, rfl⟩, (by (simp; rfl)), ⟨_, rfl, rfl⟩, (by (simp; done)), trivial⟩ ⟨⟨_, rfl, rfl⟩, (by (simp; done)), ⟨_, rfl, rfl⟩, (by (simp; done)), trivial⟩ trivial)⟩
            · have hge : q = o.refs.length := by
                have : o.refs.length ≤ q := by simpa using hc4
                omega
              subst hge
              rw [any_none hnr, Bool.false_or] at hb1
              refine awp_exit ?_
              refine awp_seq ?_
              refine awp_region ?_
              refine al_d rfl rfl rfl (by exact opd_assign rfl rfl) ?_
              refine al_nil ?_
              refine awp_block ?_
              -- loop
              refine awp_loop (σ := Nat) (fun q => ([(2, .ref 2 0 0 0), (5, iv (i : Int)), (6, .ref 6 0 0 0), (8, iv (q : Int))], [(6, bx 6 42 ((encObj o).map .pv)), (2, bx 1 24 [.pv (slObjs m)])])) (fun q => q ≤ o.tags.length ∧ ∀ j, j < q → ∀ b, o.tags[j]? = some b → longT 300 b = false) (fun q => o.tags.length - q) 0 ⟨by omega, by omega⟩ ?_ ?_
              · exact (Ent.wk ⟨⟨_, rfl, rfl⟩, (by (simp; rfl)), ⟨_, rfl, rfl⟩, (by (simp; done)), ⟨_, rfl, rfl⟩, (by (simp; rfl)), ⟨_, rfl, rfl⟩, (by (simp; done)), trivial⟩ ⟨⟨_, rfl, rfl⟩, (by (simp; done)), ⟨_, rfl, rfl⟩, (by (simp; done)), trivial⟩ trivial)
              · rintro q ⟨hq, hnt⟩
                refine awp_seq ?_
                refine awp_seq ?_
                refine awp_region ?_
                refine al_d rfl rfl rfl (by exact opd_move rfl rfl) ?_
                refine al_d rfl rfl rfl (by exact (by exact opd_field_ref rfl fo42_4 rfl rfl rfl rfl)) ?_
                refine al_d rfl rfl rfl (by exact (by exact opd_load1_ref rfl Tryz.isAgg40 rfl rfl rfl rfl rfl)) ?_
                refine al_d rfl rfl rfl (by exact (by exact opd_len_sl rfl Tryz.underlying40 rfl)) ?_
                refine al_d rfl rfl rfl (by exact opd_lss rfl rfl rfl) ?_
                refine al_nil ?_
                refine awp_cond rfl (fun hc6 => ?_) (fun hc6 => ?_)
                -- cond 6
                · have hlt2 : q < o.tags.length := by simpa using hc6
                  obtain ⟨s, hs⟩ := get_of_lt hlt2
                  have hse := map_get (f := encTag) hs
                  refine awp_skip ?_
                  refine awp_seq ?_
                  refine awp_block ?_
                  refine awp_seq ?_
                  refine awp_drawc follows ?_
                  refine dc_cons (DStep.q rfl (by exact (by exact opd_field_ref rfl fo42_4 rfl rfl rfl rfl))) rfl ?_
                  refine dc_cons (DStep.q rfl (by exact (by exact opd_load1_ref rfl Tryz.isAgg40 rfl rfl rfl rfl rfl))) rfl ?_
                  refine dc_cons (DStep.q rfl (by exact opd_move rfl rfl)) rfl ?_
                  refine dc_cons (DStep.q rfl (by exact (by exact x_index_pad rfl so40 rfl rfl (by omega) (by exact Int.toNat_natCast _) (by assumption) rfl))) rfl ?_
                  refine dc_cons (DStep.q rfl (by exact (by exact opd_field_pad rfl fo62_0 rfl rfl))) rfl ?_
                  refine dc_cons (DStep.q rfl (by exact (by exact opd_load1_pad rfl Tryz.isAgg9 rfl (by omega) rfl))) rfl ?_
                  refine dc_cons (DStep.q rfl (by exact opd_len_str rfl Tryz.underlying9 rfl)) rfl ?_
                  refine dc_cons (DStep.q rfl (by exact (by exact opd_field_ref rfl fo42_4 rfl rfl rfl rfl))) rfl ?_
                  refine dc_cons (DStep.q rfl (by exact (by exact opd_load1_ref rfl Tryz.isAgg40 rfl rfl rfl rfl rfl))) rfl ?_
                  refine dc_cons (DStep.q rfl (by exact opd_move rfl rfl)) rfl ?_
                  refine dc_cons (DStep.q rfl (by exact (by exact x_index_pad rfl so40 rfl rfl (by omega) (by exact Int.toNat_natCast _) (by assumption) rfl))) rfl ?_
                  refine dc_cons (DStep.q rfl (by exact (by exact opd_field_pad rfl fo62_1 rfl rfl))) rfl ?_
                  refine dc_cons (DStep.q rfl (by exact (by exact opd_load1_pad rfl Tryz.isAgg9 rfl (by omega) rfl))) rfl ?_
                  refine dc_cons (DStep.q rfl (by exact opd_len_str rfl Tryz.underlying9 rfl)) rfl ?_
                  refine dc_cons (DStep.q rfl (by exact opd_add rfl rfl rfl rfl)) rfl ?_
                  refine dc_cons (DStep.q rfl (by exact opd_gtr rfl rfl rfl)) rfl ?_
                  refine dc_nil ⟨by kernel_rfl, ?_⟩
                  refine awp_cond rfl (fun hc7 => ?_) (fun hc7 => ?_)
                  -- cond 7
                  · have hbad : bad13 o = true := by rw [hb1, any_some hs hc7]
                    refine awp_seq ?_
                    refine awp_region ?_
                    refine al_d rfl rfl rfl (by exact opd_assign rfl rfl) ?_
                    refine al_nil ?_
                    refine awp_ret ?_
                    -- return
                    refine aret1 (H' := []) (by exact .inr rfl) rfl (rval_tmp rfl) (Fin.wk (by simp) trivial trivial) ?_
                    exact ⟨by rw [any_some hoi hbad]; rfl, rfl⟩
                  · skip
                    refine awp_skip ?_
                    refine awp_region ?_
                    refine al_d rfl rfl rfl (by exact opd_move rfl rfl) ?_
                    refine al_d rfl rfl rfl (by exact opd_add rfl rfl rfl (by exact w64 (by omega) (by omega))) ?_
                    refine al_d rfl rfl rfl (by exact opd_assign rfl rfl) ?_
                    refine al_nil ?_
                    -- end of a round
                    exact ⟨q + 1, ⟨by omega, pre_succ hnt hs hc7⟩, by omega, (Ent.wk ⟨⟨_, rfl, rfl⟩, (by (simp; rfl)), ⟨_, rfl, rfl⟩, (by (simp; done)), ⟨_, rfl, rfl⟩, (by (simp; rfl)), ⟨_, rfl, rfl⟩, (by (simp; done)), trivial⟩ ⟨⟨_, rfl, rfl⟩, (by (simp; done)), ⟨_, rfl, rfl⟩, (by (simp; done)), trivial⟩ trivial)⟩
                · have hge : q = o.tags.length := by
                    have : o.tags.length ≤ q := by simpa using hc6
                    omega
                  subst hge
                  have hgood : bad13 o = false := by rw [hb1, any_none hnt]
                  refine awp_exit ?_
                  refine awp_region ?_
                  refine al_d rfl rfl rfl (by exact opd_move rfl rfl) ?_
                  refine al_d rfl rfl rfl (by exact opd_add rfl rfl rfl (by exact w64 (by omega) (by omega))) ?_
                  refine al_d rfl rfl rfl (by exact opd_assign rfl rfl) ?_
                  refine al_nil ?_
                  -- end of a round
                  exact ⟨i + 1, ⟨by omega, pre_succ hno hoi hgood⟩, by omega, (Ent.wk ⟨⟨_, rfl, rfl⟩, (by (simp; rfl)), ⟨_, rfl, rfl⟩, (by (simp; done)), trivial⟩ ⟨⟨_, rfl, rfl⟩, (by (simp; done)), trivial⟩ trivial)⟩
      · have hge : i = m.length := by
          have : m.length ≤ i := by simpa using hc2
          omega
        subst hge
        refine awp_exit ?_
        refine awp_seq ?_
        refine awp_region ?_
        refine al_d rfl rfl rfl (by exact opd_assign rfl rfl) ?_
        refine al_nil ?_
        refine awp_ret ?_
        -- return
        refine aret1 (H' := []) (by exact .inr rfl) rfl (rval_tmp rfl) (Fin.wk (by simp) trivial trivial) ?_
        exact ⟨by rw [any_none hno]; rfl, rfl⟩
def bad11 (o : GObj) (n : Int) : Bool := (longS 300 o.id || decide (n < (o.refs.length : Int)) || decide (65 < (o.tags.length : Int))) || o.refs.any (longS 300) || o.tags.any (longT 600)
theorem few11_c (o : GObj) (n : Int) (H : Heap) (hok : okObj o) :
    ACalls Tryz.prog 105 [av (encObj o), iv n] H (fun r H' => r = bv (!bad11 o n) ∧ H' = H) := by
  refine ACalls.pure ?_ (by simp) H
  have hrl : (o.refs.map encStr).length = o.refs.length := List.length_map _
  have htl : (o.tags.map encTag).length = o.tags.length := List.length_map _
  have h1 := hok.1
  have h2 := hok.2
  refine ACalls.body Tryz.func105 rfl Tryz.ntmps105 (Nat.le_of_ble_eq_true rfl) ?_
  refine awp_seq ?_
  refine awp_region ?_
  refine al_d rfl rfl rfl (by exact opd_box (id := 2) rfl rfl rfl rfl rfl) ?_
  refine al_d rfl rfl rfl (by exact opd_assign rfl rfl) ?_
  refine al_nil ?_
  refine awp_seq ?_
  refine awp_seq ?_
  refine awp_bool (t := 23) (n := 19) (X := longS 300 o.id || decide (n < ((o.refs.map encStr).length : Int)) || decide (65 < ((o.tags.map encTag).length : Int))) ?_ ?_
  · all_goals (refine al_d rfl rfl rfl (by exact (by exact opd_field_ref rfl fo42_0 rfl rfl rfl rfl)) ?_)
    all_goals (refine al_d rfl rfl rfl (by exact (by exact opd_load1_ref rfl Tryz.isAgg9 rfl rfl rfl rfl rfl)) ?_)
    all_goals (refine al_d rfl rfl rfl (by exact opd_len_str rfl Tryz.underlying9 rfl) ?_)
    all_goals (refine al_d rfl rfl rfl (by exact opd_gtr rfl rfl rfl) ?_)
    all_goals (refine al_d rfl rfl rfl (by exact opd_move rfl rfl) ?_)
    all_goals (refine al_split (t := 11) rfl (fun h11 => ?_) (fun h11 => ?_))
    all_goals (try contradiction)
    all_goals (first | refine al_off rfl rfl rfl rfl rfl ?_ | refine al_ond rfl rfl rfl rfl rfl rfl (by exact (by exact opd_field_ref rfl fo42_3 rfl rfl rfl rfl)) ?_)
    all_goals (first | refine al_off rfl rfl rfl rfl rfl ?_ | refine al_ond rfl rfl rfl rfl rfl rfl (by exact (by exact opd_load1_ref rfl Tryz.isAgg39 rfl rfl rfl rfl rfl)) ?_)
    all_goals (first | refine al_off rfl rfl rfl rfl rfl ?_ | refine al_ond rfl rfl rfl rfl rfl rfl (by exact (by exact opd_len_sl rfl Tryz.underlying39 rfl)) ?_)
    all_goals (first | refine al_off rfl rfl rfl rfl rfl ?_ | refine al_ond rfl rfl rfl rfl rfl rfl (by exact opd_move rfl rfl) ?_)
    all_goals (first | refine al_off rfl rfl rfl rfl rfl ?_ | refine al_ond rfl rfl rfl rfl rfl rfl (by exact opd_gtr rfl rfl rfl) ?_)
    all_goals (refine al_d rfl rfl rfl (by exact (by first | exact opd_pick_t rfl rfl rfl | exact opd_pick_f rfl rfl rfl)) ?_)
    all_goals (refine al_d rfl rfl rfl (by exact opd_move rfl rfl) ?_)
    all_goals (refine al_split (t := 18) rfl (fun h18 => ?_) (fun h18 => ?_))
    all_goals (try contradiction)
    all_goals (first | refine al_off rfl rfl rfl rfl rfl ?_ | refine al_ond rfl rfl rfl rfl rfl rfl (by exact (by exact opd_field_ref rfl fo42_4 rfl rfl rfl rfl)) ?_)
    all_goals (first | refine al_off rfl rfl rfl rfl rfl ?_ | refine al_ond rfl rfl rfl rfl rfl rfl (by exact (by exact opd_load1_ref rfl Tryz.isAgg40 rfl rfl rfl rfl rfl)) ?_)
    all_goals (first | refine al_off rfl rfl rfl rfl rfl ?_ | refine al_ond rfl rfl rfl rfl rfl rfl (by exact (by exact opd_len_sl rfl Tryz.underlying40 rfl)) ?_)
    all_goals (first | refine al_off rfl rfl rfl rfl rfl ?_ | refine al_ond rfl rfl rfl rfl rfl rfl (by exact opd_gtr rfl rfl rfl) ?_)
    all_goals (refine al_d rfl rfl rfl (by exact (by first | exact opd_pick_t rfl rfl rfl | exact opd_pick_f rfl rfl rfl)) ?_)
    all_goals (refine al_nil ?_)
    all_goals (exact ⟨⟨_, rfl, by first | (simp only [longS, *]; rfl) | (simp_all [longS]; done) | (simp_all [longS]; omega)⟩, rfl, rfl, rfl⟩)
  refine awp_cond rfl (fun hc1 => ?_) (fun hc1 => ?_)
  -- cond 1
  · rw [hrl, htl] at hc1
    refine awp_seq ?_
    refine awp_region ?_
    refine al_d rfl rfl rfl (by exact opd_assign rfl rfl) ?_
    refine al_nil ?_
    refine awp_ret ?_
    -- return
    refine aret1 (H' := []) (by exact .inr rfl) rfl (rval_tmp rfl) (Fin.wk (by simp) trivial trivial) ?_
    exact ⟨by rw [bad11, hc1]; rfl, rfl⟩
  · rw [hrl, htl] at hc1
    have hb1 : bad11 o n = (o.refs.any (longS 300) || o.tags.any (longT 600)) := by rw [bad11, hc1]; rfl
    refine awp_skip ?_
    refine awp_seq ?_
    refine awp_seq ?_
    refine awp_region ?_
    refine al_d rfl rfl rfl (by exact opd_assign rfl rfl) ?_
    refine al_nil ?_
    refine awp_block ?_
    -- loop
    refine awp_loop (σ := Nat) (fun q => ([(2, .ref 2 0 0 0), (5, iv (q : Int))], [(2, bx 6 42 ((encObj o).map .pv))])) (fun q => q ≤ o.refs.length ∧ ∀ j, j < q → ∀ b, o.refs[j]? = some b → longS 300 b = false) (fun q => o.refs.length - q) 0 ⟨by omega, by omega⟩ ?_ ?_
    · exact (Ent.wk ⟨⟨_, rfl, rfl⟩, (by (simp; rfl)), ⟨_, rfl, rfl⟩, (by (simp; done)), trivial⟩ ⟨⟨_, rfl, rfl⟩, (by (simp; done)), trivial⟩ trivial)
    · rintro q ⟨hq, hnr⟩
      refine awp_seq ?_
      refine awp_seq ?_
      refine awp_region ?_
      refine al_d rfl rfl rfl (by exact opd_move rfl rfl) ?_
      refine al_d rfl rfl rfl (by exact (by exact opd_field_ref rfl fo42_3 rfl rfl rfl rfl)) ?_
      refine al_d rfl rfl rfl (by exact (by exact opd_load1_ref rfl Tryz.isAgg39 rfl rfl rfl rfl rfl)) ?_
      refine al_d rfl rfl rfl (by exact (by exact opd_len_sl rfl Tryz.underlying39 rfl)) ?_
      refine al_d rfl rfl rfl (by exact opd_lss rfl rfl rfl) ?_
      refine al_nil ?_
      refine awp_cond rfl (fun hc2 => ?_) (fun hc2 => ?_)
      -- cond 2
      · have hlt2 : q < o.refs.length := by simpa using hc2
        obtain ⟨s, hs⟩ := get_of_lt hlt2
        have hse := map_get (f := encStr) hs
        refine awp_skip ?_
        refine awp_seq ?_
        refine awp_block ?_
        refine awp_seq ?_
        refine awp_region ?_
        refine al_d rfl rfl rfl (by exact (by exact opd_field_ref rfl fo42_3 rfl rfl rfl rfl)) ?_
        refine al_d rfl rfl rfl (by exact (by exact opd_load1_ref rfl Tryz.isAgg39 rfl rfl rfl rfl rfl)) ?_
        refine al_d rfl rfl rfl (by exact opd_move rfl rfl) ?_
        refine al_d rfl rfl rfl (by exact (by exact x_index_pad rfl so39 rfl rfl (by omega) (by exact Int.toNat_natCast _) (by assumption) rfl)) ?_
        refine al_d rfl rfl rfl (by exact (by exact opd_load1_pad rfl Tryz.isAgg9 rfl (by omega) rfl)) ?_
        refine al_d rfl rfl rfl (by exact opd_len_str rfl Tryz.underlying9 rfl) ?_
        refine al_d rfl rfl rfl (by exact opd_gtr rfl rfl rfl) ?_
        refine al_nil ?_
        refine awp_cond rfl (fun hc3 => ?_) (fun hc3 => ?_)
        -- cond 3
        · have hbad : bad11 o n = true := by rw [hb1, any_some hs hc3]; rfl
          refine awp_seq ?_
          refine awp_region ?_
          refine al_d rfl rfl rfl (by exact opd_assign rfl rfl) ?_
          refine al_nil ?_
          refine awp_ret ?_
          -- return
          refine aret1 (H' := []) (by exact .inr rfl) rfl (rval_tmp rfl) (Fin.wk (by simp) trivial trivial) ?_
          exact ⟨by rw [hbad]; rfl, rfl⟩
        · skip
          refine awp_skip ?_
          refine awp_region ?_
          refine al_d rfl rfl rfl (by exact opd_move rfl rfl) ?_
          refine al_d rfl rfl rfl (by exact opd_add rfl rfl rfl (by exact w64 (by omega) (by omega))) ?_
          refine al_d rfl rfl rfl (by exact opd_assign rfl rfl) ?_
          refine al_nil ?_
          -- end of a round
          exact ⟨q + 1, ⟨by omega, pre_succ hnr hs hc3⟩, by omega, (Ent.wk ⟨⟨_, rfl, rfl⟩, (by (simp; rfl)), ⟨_, rfl, rfl⟩, (by (simp; done)), trivial⟩ ⟨⟨_, rfl, rfl⟩, (by (simp; done)), trivial⟩ trivial)⟩
      · have hge : q = o.refs.length := by
          have : o.refs.length ≤ q := by simpa using hc2
          omega
        subst hge
        rw [any_none hnr, Bool.false_or] at hb1
        refine awp_exit ?_
        refine awp_seq ?_
        refine awp_seq ?_
        refine awp_region ?_
        refine al_d rfl rfl rfl (by exact opd_assign rfl rfl) ?_
        refine al_nil ?_
        refine awp_block ?_
        -- loop
        refine awp_loop (σ := Nat) (fun q => ([(2, .ref 2 0 0 0), (6, iv (q : Int))], [(2, bx 6 42 ((encObj o).map .pv))])) (fun q => q ≤ o.tags.length ∧ ∀ j, j < q → ∀ b, o.tags[j]? = some b → longT 600 b = false) (fun q => o.tags.length - q) 0 ⟨by omega, by omega⟩ ?_ ?_
        · exact (Ent.wk ⟨⟨_, rfl, rfl⟩, (by (simp; rfl)), ⟨_, rfl, rfl⟩, (by (simp; done)), trivial⟩ ⟨⟨_, rfl, rfl⟩, (by (simp; done)), trivial⟩ trivial)
        · rintro q ⟨hq, hnt⟩
          refine awp_seq ?_
          refine awp_seq ?_
          refine awp_region ?_
          refine al_d rfl rfl rfl (by exact opd_move rfl rfl) ?_
          refine al_d rfl rfl rfl (by exact (by exact opd_field_ref rfl fo42_4 rfl rfl rfl rfl)) ?_
          refine al_d rfl rfl rfl (by exact (by exact opd_load1_ref rfl Tryz.isAgg40 rfl rfl rfl rfl rfl)) ?_
          refine al_d rfl rfl rfl (by exact (by exact opd_len_sl rfl Tryz.underlying40 rfl)) ?_
          refine al_d rfl rfl rfl (by exact opd_lss rfl rfl rfl) ?_
          refine al_nil ?_
          refine awp_cond rfl (fun hc4 => ?_) (fun hc4 => ?_)
          -- cond 4
          · have hlt2 : q < o.tags.length := by simpa using hc4
            obtain ⟨s, hs⟩ := get_of_lt hlt2
            have hse := map_get (f := encTag) hs
            refine awp_skip ?_
            refine awp_seq ?_
            refine awp_block ?_
            refine awp_seq ?_
            refine awp_drawc follows ?_
            refine dc_cons (DStep.q rfl (by exact (by exact opd_field_ref rfl fo42_4 rfl rfl rfl rfl))) rfl ?_
            refine dc_cons (DStep.q rfl (by exact (by exact opd_load1_ref rfl Tryz.isAgg40 rfl rfl rfl rfl rfl))) rfl ?_
            refine dc_cons (DStep.q rfl (by exact opd_move rfl rfl)) rfl ?_
            refine dc_cons (DStep.q rfl (by exact (by exact x_index_pad rfl so40 rfl rfl (by omega) (by exact Int.toNat_natCast _) (by assumption) rfl))) rfl ?_
            refine dc_cons (DStep.q rfl (by exact (by exact opd_field_pad rfl fo62_0 rfl rfl))) rfl ?_
            refine dc_cons (DStep.q rfl (by exact (by exact opd_load1_pad rfl Tryz.isAgg9 rfl (by omega) rfl))) rfl ?_
            refine dc_cons (DStep.q rfl (by exact opd_len_str rfl Tryz.underlying9 rfl)) rfl ?_
            refine dc_cons (DStep.q rfl (by exact (by exact opd_field_ref rfl fo42_4 rfl rfl rfl rfl))) rfl ?_
            refine dc_cons (DStep.q rfl (by exact (by exact opd_load1_ref rfl Tryz.isAgg40 rfl rfl rfl rfl rfl))) rfl ?_
            refine dc_cons (DStep.q rfl (by exact opd_move rfl rfl)) rfl ?_
            refine dc_cons (DStep.q rfl (by exact (by exact x_index_pad rfl so40 rfl rfl (by omega) (by exact Int.toNat_natCast _) (by assumption) rfl))) rfl ?_
            refine dc_cons (DStep.q rfl (by exact (by exact opd_field_pad rfl fo62_1 rfl rfl))) rfl ?_
            refine dc_cons (DStep.q rfl (by exact (by exact opd_load1_pad rfl Tryz.isAgg9 rfl (by omega) rfl))) rfl ?_
            refine dc_cons (DStep.q rfl (by exact opd_len_str rfl Tryz.underlying9 rfl)) rfl ?_
            refine dc_cons (DStep.q rfl (by exact opd_add rfl rfl rfl rfl)) rfl ?_
            refine dc_cons (DStep.q rfl (by exact opd_gtr rfl rfl rfl)) rfl ?_
            refine dc_nil ⟨by kernel_rfl, ?_⟩
            refine awp_cond rfl (fun hc5 => ?_) (fun hc5 => ?_)
            -- cond 5
            · have hbad : bad11 o n = true := by rw [hb1, any_some hs hc5]
              refine awp_seq ?_
              refine awp_region ?_
              refine al_d rfl rfl rfl (by exact opd_assign rfl rfl) ?_
              refine al_nil ?_
              refine awp_ret ?_
              -- return
              refine aret1 (H' := []) (by exact .inr rfl) rfl (rval_tmp rfl) (Fin.wk (by simp) trivial trivial) ?_
              exact ⟨by rw [hbad]; rfl, rfl⟩
            · skip
              refine awp_skip ?_
              refine awp_region ?_
              refine al_d rfl rfl rfl (by exact opd_move rfl rfl) ?_
              refine al_d rfl rfl rfl (by exact opd_add rfl rfl rfl (by exact w64 (by omega) (by omega))) ?_
              refine al_d rfl rfl rfl (by exact opd_assign rfl rfl) ?_
              refine al_nil ?_
              -- end of a round
              exact ⟨q + 1, ⟨by omega, pre_succ hnt hs hc5⟩, by omega, (Ent.wk ⟨⟨_, rfl, rfl⟩, (by (simp; rfl)), ⟨_, rfl, rfl⟩, (by (simp; done)), trivial⟩ ⟨⟨_, rfl, rfl⟩, (by (simp; done)), trivial⟩ trivial)⟩
          · have hge : q = o.tags.length := by
              have : o.tags.length ≤ q := by simpa using hc4
              omega
            subst hge
            have hgood : bad11 o n = false := by rw [hb1, any_none hnt]
            refine awp_exit ?_
            refine awp_seq ?_
            refine awp_region ?_
            refine al_d rfl rfl rfl (by exact opd_assign rfl rfl) ?_
            refine al_nil ?_
            refine awp_ret ?_
            -- return
            refine aret1 (H' := []) (by exact .inr rfl) rfl (rval_tmp rfl) (Fin.wk (by simp) trivial trivial) ?_
            exact ⟨by rw [hgood]; rfl, rfl⟩
def bad22 (e : GEdit) : Bool := (longS 300 e.id || longS 300 e.other || longS 300 e.node || longS 300 e.key || longS 300 e.val || decide (20 < (e.refs.length : Int)) || bad11 e.obj 20 || decide (20 < (e.obj.tags.length : Int))) || e.refs.any (longS 300)
def few22 (l : List GEdit) (n : Int) : Bool := !(decide (n < (l.length : Int))) && !(l.any bad22)
def okEdit (e : GEdit) : Prop := e.refs.length < 4611686018427387904 ∧ okObj e.obj
theorem few22_c (l : List GEdit) (n : Int) (H : Heap) (hl : l.length < 4611686018427387904) (ho : ∀ e, e ∈ l → okEdit e) :
    ACalls Tryz.prog 54 [.pv (slEdits l), iv n] H (fun r H' => r = bv (few22 l n) ∧ H' = H) := by
  refine ACalls.pure ?_ (by simp) H
  have hml : (l.map encEdit).length = l.length := List.length_map _
  refine ACalls.body Tryz.func54 rfl Tryz.ntmps54 (Nat.le_of_ble_eq_true rfl) ?_
  refine awp_seq ?_
  refine awp_region ?_
  refine al_d rfl rfl rfl (by exact opd_assign rfl rfl) ?_
  refine al_nil ?_
  refine awp_seq ?_
  refine awp_seq ?_
  refine awp_region ?_
  refine al_d rfl rfl rfl (by exact opd_move rfl rfl) ?_
  refine al_d rfl rfl rfl (by exact (by exact opd_len_sl rfl Tryz.underlying25 rfl)) ?_
  refine al_d rfl rfl rfl (by exact opd_move rfl rfl) ?_
  refine al_d rfl rfl rfl (by exact opd_gtr rfl rfl rfl) ?_
  refine al_nil ?_
  refine awp_cond rfl (fun hc1 => ?_) (fun hc1 => ?_)
  -- cond 1
  · have hb : decide (n < (l.length : Int)) = true := by rw [← hml]; exact hc1
    refine awp_seq ?_
    refine awp_region ?_
    refine al_d rfl rfl rfl (by exact opd_assign rfl rfl) ?_
    refine al_nil ?_
    refine awp_ret ?_
    -- return
    refine aret1 (H' := []) (by exact .inr rfl) rfl (rval_tmp rfl) (Fin.wk (by simp) trivial trivial) ?_
    exact ⟨by rw [few22, hb]; rfl, rfl⟩
  · have hb : decide (n < (l.length : Int)) = false := by rw [← hml]; exact hc1
    rw [few22, hb, Bool.not_false, Bool.true_and]
    refine awp_skip ?_
    refine awp_seq ?_
    refine awp_seq ?_
    refine awp_region ?_
    refine al_d rfl rfl rfl (by exact opd_assign rfl rfl) ?_
    refine al_nil ?_
    refine awp_block ?_
    -- loop
    refine awp_loop (σ := Nat) (fun i => ([(0, .pv (slEdits l)), (5, iv (i : Int))], [])) (fun i => i ≤ l.length ∧ ∀ j, j < i → ∀ b, l[j]? = some b → bad22 b = false) (fun i => l.length - i) 0 ⟨by omega, by omega⟩ ?_ ?_
    · exact (Ent.wk ⟨⟨_, rfl, rfl⟩, (by (simp; done)), ⟨_, rfl, rfl⟩, (by (simp; done)), trivial⟩ trivial trivial)
    · rintro i ⟨hi, hno⟩
      refine awp_seq ?_
      refine awp_seq ?_
      refine awp_region ?_
      refine al_d rfl rfl rfl (by exact opd_move rfl rfl) ?_
      refine al_d rfl rfl rfl (by exact opd_move rfl rfl) ?_
      refine al_d rfl rfl rfl (by exact (by exact opd_len_sl rfl Tryz.underlying25 rfl)) ?_
      refine al_d rfl rfl rfl (by exact opd_lss rfl rfl rfl) ?_
      refine al_nil ?_
      refine awp_cond rfl (fun hc2 => ?_) (fun hc2 => ?_)
      -- cond 2
      · have hlt : i < l.length := by simpa using hc2
        obtain ⟨e, hoi⟩ := get_of_lt hlt
        have hie := map_get (f := encEdit) hoi
        have hok := ho e (List.mem_of_getElem? hoi)
        have hrl : (e.refs.map encStr).length = e.refs.length := List.length_map _
        have htl : (e.obj.tags.map encTag).length = e.obj.tags.length := List.length_map _
        have h1 := hok.1
        refine awp_skip ?_
        refine awp_seq ?_
        refine awp_block ?_
        refine awp_seq ?_
        refine awp_region ?_
        refine al_d rfl rfl rfl (by exact opd_move rfl rfl) ?_
        refine al_d rfl rfl rfl (by exact opd_move rfl rfl) ?_
        refine al_d rfl rfl rfl (by exact (by exact x_index_pad rfl so25 rfl rfl (by omega) (by exact Int.toNat_natCast _) (by assumption) rfl)) ?_
        refine al_d rfl rfl rfl (by exact (by exact opd_loadn_pad rfl Tryz.isAgg44 Tryz.sizeOf44 rfl (by omega) (by simp only [List.drop_succ_cons, List.drop_zero, List.take_succ_cons, List.take_zero, List.take_nil, List.map_cons, List.map_nil, List.set_cons_zero, List.set_cons_succ, List.cons_append, List.nil_append, encTag, encObj, encEdit]; rfl) rfl)) ?_
        refine al_d rfl rfl rfl (by exact x_alloc (id := 6) rfl zo44 rfl rfl) ?_
        refine al_n rfl rfl (by exact (by exact x_store_all rfl Tryz.sizeOf44 rfl rfl rfl rfl rfl rfl rfl rfl)) ?_
        refine al_nil ?_
        refine awp_seq ?_
        refine awp_seq ?_
        refine awp_bool (t := 68) (n := 54) (X := longS 300 e.id || longS 300 e.other || longS 300 e.node || longS 300 e.key || longS 300 e.val || decide (20 < ((e.refs.map encStr).length : Int)) || bad11 e.obj 20 || decide (20 < ((e.obj.tags.map encTag).length : Int))) ?_ ?_
        · all_goals (refine al_d rfl rfl rfl (by exact (by exact opd_field_ref rfl fo44_1 rfl rfl rfl rfl)) ?_)
          all_goals (refine al_d rfl rfl rfl (by exact (by exact opd_load1_ref rfl Tryz.isAgg9 rfl rfl rfl rfl rfl)) ?_)
          all_goals (refine al_d rfl rfl rfl (by exact opd_len_str rfl Tryz.underlying9 rfl) ?_)
          all_goals (refine al_d rfl rfl rfl (by exact opd_gtr rfl rfl rfl) ?_)
          all_goals (refine al_d rfl rfl rfl (by exact opd_move rfl rfl) ?_)
          all_goals (refine al_split (t := 26) rfl (fun h26 => ?_) (fun h26 => ?_))
          all_goals (try contradiction)
          all_goals (first | refine al_off rfl rfl rfl rfl rfl ?_ | refine al_ond rfl rfl rfl rfl rfl rfl (by exact (by exact opd_field_ref rfl fo44_2 rfl rfl rfl rfl)) ?_)
          all_goals (first | refine al_off rfl rfl rfl rfl rfl ?_ | refine al_ond rfl rfl rfl rfl rfl rfl (by exact (by exact opd_load1_ref rfl Tryz.isAgg9 rfl rfl rfl rfl rfl)) ?_)
          all_goals (first | refine al_off rfl rfl rfl rfl rfl ?_ | refine al_ond rfl rfl rfl rfl rfl rfl (by exact opd_len_str rfl Tryz.underlying9 rfl) ?_)
          all_goals (first | refine al_off rfl rfl rfl rfl rfl ?_ | refine al_ond rfl rfl rfl rfl rfl rfl (by exact opd_gtr rfl rfl rfl) ?_)
          all_goals (refine al_d rfl rfl rfl (by exact (by first | exact opd_pick_t rfl rfl rfl | exact opd_pick_f rfl rfl rfl)) ?_)
          all_goals (refine al_d rfl rfl rfl (by exact opd_move rfl rfl) ?_)
          all_goals (refine al_split (t := 32) rfl (fun h32 => ?_) (fun h32 => ?_))
          all_goals (try contradiction)
          all_goals (first | refine al_off rfl rfl rfl rfl rfl ?_ | refine al_ond rfl rfl rfl rfl rfl rfl (by exact (by exact opd_field_ref rfl fo44_3 rfl rfl rfl rfl)) ?_)
          all_goals (first | refine al_off rfl rfl rfl rfl rfl ?_ | refine al_ond rfl rfl rfl rfl rfl rfl (by exact (by exact opd_load1_ref rfl Tryz.isAgg9 rfl rfl rfl rfl rfl)) ?_)
          all_goals (first | refine al_off rfl rfl rfl rfl rfl ?_ | refine al_ond rfl rfl rfl rfl rfl rfl (by exact opd_len_str rfl Tryz.underlying9 rfl) ?_)
          all_goals (first | refine al_off rfl rfl rfl rfl rfl ?_ | refine al_ond rfl rfl rfl rfl rfl rfl (by exact opd_gtr rfl rfl rfl) ?_)
          all_goals (refine al_d rfl rfl rfl (by exact (by first | exact opd_pick_t rfl rfl rfl | exact opd_pick_f rfl rfl rfl)) ?_)
          all_goals (refine al_d rfl rfl rfl (by exact opd_move rfl rfl) ?_)
          all_goals (refine al_split (t := 38) rfl (fun h38 => ?_) (fun h38 => ?_))
          all_goals (try contradiction)
          all_goals (first | refine al_off rfl rfl rfl rfl rfl ?_ | refine al_ond rfl rfl rfl rfl rfl rfl (by exact (by exact opd_field_ref rfl fo44_5 rfl rfl rfl rfl)) ?_)
          all_goals (first | refine al_off rfl rfl rfl rfl rfl ?_ | refine al_ond rfl rfl rfl rfl rfl rfl (by exact (by exact opd_load1_ref rfl Tryz.isAgg9 rfl rfl rfl rfl rfl)) ?_)
          all_goals (first | refine al_off rfl rfl rfl rfl rfl ?_ | refine al_ond rfl rfl rfl rfl rfl rfl (by exact opd_len_str rfl Tryz.underlying9 rfl) ?_)
          all_goals (first | refine al_off rfl rfl rfl rfl rfl ?_ | refine al_ond rfl rfl rfl rfl rfl rfl (by exact opd_gtr rfl rfl rfl) ?_)
          all_goals (refine al_d rfl rfl rfl (by exact (by first | exact opd_pick_t rfl rfl rfl | exact opd_pick_f rfl rfl rfl)) ?_)
          all_goals (refine al_d rfl rfl rfl (by exact opd_move rfl rfl) ?_)
          all_goals (refine al_split (t := 44) rfl (fun h44 => ?_) (fun h44 => ?_))
          all_goals (try contradiction)
          all_goals (first | refine al_off rfl rfl rfl rfl rfl ?_ | refine al_ond rfl rfl rfl rfl rfl rfl (by exact (by exact opd_field_ref rfl fo44_6 rfl rfl rfl rfl)) ?_)
          all_goals (first | refine al_off rfl rfl rfl rfl rfl ?_ | refine al_ond rfl rfl rfl rfl rfl rfl (by exact (by exact opd_load1_ref rfl Tryz.isAgg9 rfl rfl rfl rfl rfl)) ?_)
          all_goals (first | refine al_off rfl rfl rfl rfl rfl ?_ | refine al_ond rfl rfl rfl rfl rfl rfl (by exact opd_len_str rfl Tryz.underlying9 rfl) ?_)
          all_goals (first | refine al_off rfl rfl rfl rfl rfl ?_ | refine al_ond rfl rfl rfl rfl rfl rfl (by exact opd_gtr rfl rfl rfl) ?_)
          all_goals (refine al_d rfl rfl rfl (by exact (by first | exact opd_pick_t rfl rfl rfl | exact opd_pick_f rfl rfl rfl)) ?_)
          all_goals (refine al_d rfl rfl rfl (by exact opd_move rfl rfl) ?_)
          all_goals (refine al_split (t := 50) rfl (fun h50 => ?_) (fun h50 => ?_))
          all_goals (try contradiction)
          all_goals (first | refine al_off rfl rfl rfl rfl rfl ?_ | refine al_ond rfl rfl rfl rfl rfl rfl (by exact (by exact opd_field_ref rfl fo44_7 rfl rfl rfl rfl)) ?_)
          all_goals (first | refine al_off rfl rfl rfl rfl rfl ?_ | refine al_ond rfl rfl rfl rfl rfl rfl (by exact (by exact opd_load1_ref rfl Tryz.isAgg39 rfl rfl rfl rfl rfl)) ?_)
          all_goals (first | refine al_off rfl rfl rfl rfl rfl ?_ | refine al_ond rfl rfl rfl rfl rfl rfl (by exact (by exact opd_len_sl rfl Tryz.underlying39 rfl)) ?_)
          all_goals (first | refine al_off rfl rfl rfl rfl rfl ?_ | refine al_ond rfl rfl rfl rfl rfl rfl (by exact opd_gtr rfl rfl rfl) ?_)
          all_goals (refine al_d rfl rfl rfl (by exact (by first | exact opd_pick_t rfl rfl rfl | exact opd_pick_f rfl rfl rfl)) ?_)
          all_goals (refine al_d rfl rfl rfl (by exact opd_move rfl rfl) ?_)
          all_goals (refine al_split (t := 56) rfl (fun h56 => ?_) (fun h56 => ?_))
          all_goals (try contradiction)
          all_goals (first | refine al_off rfl rfl rfl rfl rfl ?_ | refine al_ond rfl rfl rfl rfl rfl rfl (by exact (by exact opd_field_ref rfl fo44_8 rfl rfl rfl rfl)) ?_)
          all_goals (first | refine al_off rfl rfl rfl rfl rfl ?_ | refine al_ond rfl rfl rfl rfl rfl rfl (by exact (by exact opd_loadn_ref rfl Tryz.isAgg42 Tryz.sizeOf42 rfl rfl rfl rfl (by simp only [List.drop_succ_cons, List.drop_zero, List.take_succ_cons, List.take_zero, List.take_nil, List.map_cons, List.map_nil, List.set_cons_zero, List.set_cons_succ, List.cons_append, List.nil_append, encTag, encObj, encEdit]; rfl) rfl)) ?_)
          all_goals (first | refine al_off rfl rfl rfl rfl rfl ?_ | refine al_ond rfl rfl rfl rfl rfl rfl (by exact opr_call rfl rfl Tryz.call105 rfl (few11_c e.obj 20 _ hok.2)) ?_)
          all_goals (first | refine al_off rfl rfl rfl rfl rfl ?_ | refine al_ond rfl rfl rfl rfl rfl rfl (by exact opd_not rfl rfl) ?_)
          all_goals (refine al_d rfl rfl rfl (by exact (by first | exact opd_pick_t rfl rfl rfl | exact opd_pick_f rfl rfl rfl)) ?_)
          all_goals (refine al_d rfl rfl rfl (by exact opd_move rfl rfl) ?_)
          all_goals (refine al_split (t := 62) rfl (fun h62 => ?_) (fun h62 => ?_))
          all_goals (try contradiction)
          all_goals (first | refine al_off rfl rfl rfl rfl rfl ?_ | refine al_ond rfl rfl rfl rfl rfl rfl (by exact (by exact opd_field_ref rfl fo44_8 rfl rfl rfl rfl)) ?_)
          all_goals (first | refine al_off rfl rfl rfl rfl rfl ?_ | refine al_ond rfl rfl rfl rfl rfl rfl (by exact (by exact opd_field_ref rfl fo42_4 rfl rfl rfl rfl)) ?_)
          all_goals (first | refine al_off rfl rfl rfl rfl rfl ?_ | refine al_ond rfl rfl rfl rfl rfl rfl (by exact (by exact opd_load1_ref rfl Tryz.isAgg40 rfl rfl rfl rfl rfl)) ?_)
          all_goals (first | refine al_off rfl rfl rfl rfl rfl ?_ | refine al_ond rfl rfl rfl rfl rfl rfl (by exact (by exact opd_len_sl rfl Tryz.underlying40 rfl)) ?_)
          all_goals (first | refine al_off rfl rfl rfl rfl rfl ?_ | refine al_ond rfl rfl rfl rfl rfl rfl (by exact opd_gtr rfl rfl rfl) ?_)
          all_goals (refine al_d rfl rfl rfl (by exact (by first | exact opd_pick_t rfl rfl rfl | exact opd_pick_f rfl rfl rfl)) ?_)
          all_goals (refine al_nil ?_)
          all_goals (exact ⟨⟨_, rfl, by first | (simp only [longS, *]; rfl) | (simp_all [longS]; done) | (simp_all [longS]; omega)⟩, rfl, rfl, rfl⟩)
        refine awp_cond rfl (fun hc3 => ?_) (fun hc3 => ?_)
        -- cond 3
        · have hbad : bad22 e = true := by
            rw [hrl, htl] at hc3
            rw [bad22, hc3]; rfl
          refine awp_seq ?_
          refine awp_region ?_
          refine al_d rfl rfl rfl (by exact opd_assign rfl rfl) ?_
          refine al_nil ?_
          refine awp_ret ?_
          -- return
          refine aret1 (H' := []) (by exact .inr rfl) rfl (rval_tmp rfl) (Fin.wk (by simp) trivial trivial) ?_
          exact ⟨by rw [any_some hoi hbad]; rfl, rfl⟩
        · rw [hrl, htl] at hc3
          have hb1 : bad22 e = (e.refs.any (longS 300)) := by rw [bad22, hc3]; rfl
          refine awp_skip ?_
          refine awp_seq ?_
          refine awp_region ?_
          refine al_d rfl rfl rfl (by exact opd_assign rfl rfl) ?_
          refine al_nil ?_
          refine awp_block ?_
          -- loop
          refine awp_loop (σ := Nat) (fun q => ([(0, .pv (slEdits l)), (5, iv (i : Int)), (6, .ref 6 0 0 0), (7, iv (q : Int))], [(6, bx 15 44 ((encEdit e).map .pv))])) (fun q => q ≤ e.refs.length ∧ ∀ j, j < q → ∀ b, e.refs[j]? = some b → longS 300 b = false) (fun q => e.refs.length - q) 0 ⟨by omega, by omega⟩ ?_ ?_
          · exact (Ent.wk ⟨⟨_, rfl, rfl⟩, (by (simp; done)), ⟨_, rfl, rfl⟩, (by (simp; done)), ⟨_, rfl, rfl⟩, (by (simp; rfl)), ⟨_, rfl, rfl⟩, (by (simp; done)), trivial⟩ ⟨⟨_, rfl, rfl⟩, (by (simp; done)), trivial⟩ trivial)
          · rintro q ⟨hq, hnr⟩
            refine awp_seq ?_
            refine awp_seq ?_
            refine awp_region ?_
            refine al_d rfl rfl rfl (by exact opd_move rfl rfl) ?_
            refine al_d rfl rfl rfl (by exact (by exact opd_field_ref rfl fo44_7 rfl rfl rfl rfl)) ?_
            refine al_d rfl rfl rfl (by exact (by exact opd_load1_ref rfl Tryz.isAgg39 rfl rfl rfl rfl rfl)) ?_
            refine al_d rfl rfl rfl (by exact (by exact opd_len_sl rfl Tryz.underlying39 rfl)) ?_
            refine al_d rfl rfl rfl (by exact opd_lss rfl rfl rfl) ?_
            refine al_nil ?_
            refine awp_cond rfl (fun hc4 => ?_) (fun hc4 => ?_)
            -- cond 4
            · have hlt2 : q < e.refs.length := by simpa using hc4
              obtain ⟨s, hs⟩ := get_of_lt hlt2
              have hse := map_get (f := encStr) hs
              refine awp_skip ?_
              refine awp_seq ?_
              refine awp_block ?_
              refine awp_seq ?_
              refine awp_region ?_
              refine al_d rfl rfl rfl (by exact (by exact opd_field_ref rfl fo44_7 rfl rfl rfl rfl)) ?_
              refine al_d rfl rfl rfl (by exact (by exact opd_load1_ref rfl Tryz.isAgg39 rfl rfl rfl rfl rfl)) ?_
              refine al_d rfl rfl rfl (by exact opd_move rfl rfl) ?_
              refine al_d rfl rfl rfl (by exact (by exact x_index_pad rfl so39 rfl rfl (by omega) (by exact Int.toNat_natCast _) (by assumption) rfl)) ?_
              refine al_d rfl rfl rfl (by exact (by exact opd_load1_pad rfl Tryz.isAgg9 rfl (by omega) rfl)) ?_
              refine al_d rfl rfl rfl (by exact opd_len_str rfl Tryz.underlying9 rfl) ?_
              refine al_d rfl rfl rfl (by exact opd_gtr rfl rfl rfl) ?_
              refine al_nil ?_
              refine awp_cond rfl (fun hc5 => ?_) (fun hc5 => ?_)
              -- cond 5
              · have hbad : bad22 e = true := by rw [hb1, any_some hs hc5]
                refine awp_seq ?_
                refine awp_region ?_
                refine al_d rfl rfl rfl (by exact opd_assign rfl rfl) ?_
                refine al_nil ?_
                refine awp_ret ?_
                -- return
                refine aret1 (H' := []) (by exact .inr rfl) rfl (rval_tmp rfl) (Fin.wk (by simp) trivial trivial) ?_
                exact ⟨by rw [any_some hoi hbad]; rfl, rfl⟩
              · skip
                refine awp_skip ?_
                refine awp_region ?_
                refine al_d rfl rfl rfl (by exact opd_move rfl rfl) ?_
                refine al_d rfl rfl rfl (by exact opd_add rfl rfl rfl (by exact w64 (by omega) (by omega))) ?_
                refine al_d rfl rfl rfl (by exact opd_assign rfl rfl) ?_
                refine al_nil ?_
                -- end of a round
                exact ⟨q + 1, ⟨by omega, pre_succ hnr hs hc5⟩, by omega, (Ent.wk ⟨⟨_, rfl, rfl⟩, (by (simp; done)), ⟨_, rfl, rfl⟩, (by (simp; done)), ⟨_, rfl, rfl⟩, (by (simp; rfl)), ⟨_, rfl, rfl⟩, (by (simp; done)), trivial⟩ ⟨⟨_, rfl, rfl⟩, (by (simp; done)), trivial⟩ trivial)⟩
            · have hge : q = e.refs.length := by
                have : e.refs.length ≤ q := by simpa using hc4
                omega
              subst hge
              have hgood : bad22 e = false := by rw [hb1, any_none hnr]
              refine awp_exit ?_
              refine awp_region ?_
              refine al_d rfl rfl rfl (by exact opd_move rfl rfl) ?_
              refine al_d rfl rfl rfl (by exact opd_add rfl rfl rfl (by exact w64 (by omega) (by omega))) ?_
              refine al_d rfl rfl rfl (by exact opd_assign rfl rfl) ?_
              refine al_nil ?_
              -- end of a round
              exact ⟨i + 1, ⟨by omega, pre_succ hno hoi hgood⟩, by omega, (Ent.wk ⟨⟨_, rfl, rfl⟩, (by (simp; done)), ⟨_, rfl, rfl⟩, (by (simp; done)), trivial⟩ trivial trivial)⟩
      · have hge : i = l.length := by
          have : l.length ≤ i := by simpa using hc2
          omega
        subst hge
        refine awp_exit ?_
        refine awp_seq ?_
        refine awp_region ?_
        refine al_d rfl rfl rfl (by exact opd_assign rfl rfl) ?_
        refine al_nil ?_
        refine awp_ret ?_
        -- return
        refine aret1 (H' := []) (by exact .inr rfl) rfl (rval_tmp rfl) (Fin.wk (by simp) trivial trivial) ?_
        exact ⟨by rw [any_none hno]; rfl, rfl⟩
def gFew (m : List GObj) (l : List GEdit) (idx : List Int) : Bool := few13 m 40 && few22 l 40 && decide ((idx.length : Int) ≤ 10)
end Go.Proofs.YtdgoodjhndeojaaGreat
end
section
set_option linter.unusedVariables false
set_option linter.unusedSimpArgs false
namespace Go.Abs
theorem Clo.up {H H' : Heap} (hs : ∀ i, (H.get i).isSome = true → (H'.get i).isSome = true) {a : AV} (h : Clo H a) : Clo H' a := by
  induction h with
  | any => exact .any
  | pv p => exact .pv p
  | pad rows i k => exact .pad rows i k
  | ref h => exact .ref (hs _ h)
  | osl h => exact .osl (hs _ h)
  | clo h ih => exact .clo ih
  | agg h ih => exact .agg ih
  | tup h ih => exact .tup ih
  | mp h => exact .mp (hs _ h)
  | it h => exact .it (hs _ h)
theorem Clo.app {D K : Heap} {a : AV} (h : Clo K a) : Clo (D ++ K) a := h.up fun i hi => by
  rw [hget_app]
  cases D.get i with
  | none => exact hi
  | some o => rfl
theorem Clo.cons {p : Nat × Ob} {K : Heap} {a : AV} (h : Clo K a) : Clo (p :: K) a := Clo.app (D := [p]) h
theorem Closed.app {D K : Heap} (h3 : ∀ p ∈ D, ∀ r ∈ p.2.rows, ∀ a ∈ r, Clo (D ++ K) a) (h4 : Closed K) : Closed (D ++ K) := by
  intro id o ho
  rw [hget_app] at ho
  cases e : D.get id with
  | some x =>
    rw [e] at ho
    cases ho
    exact h3 _ (mem_of_hget e)
  | none =>
    rw [e] at ho
    exact fun r hr a ha => (h4 id o ho r hr a ha).app
theorem Closed.cons {i : Nat} {o : Ob} {K : Heap} (h3 : ∀ r ∈ o.rows, ∀ a ∈ r, Clo ((i, o) :: K) a) (h4 : Closed K) : Closed ((i, o) :: K) :=
  Closed.app (D := [(i, o)]) (fun p hp => by rw [List.mem_singleton] at hp; subst hp; exact h3) h4
/-- A scope of labels into which nothing jumps. -/
def ANoGoto (Q : Exit → Env → Heap → Prop) : Exit → Env → Heap → Prop
  | .goto _, _, _ => False
  | e, E, H => Q e E H
theorem awp_scope {P : Program} {G0 : Heap} {N : Nat} {E : Env} {H : Heap} {Q : Exit → Env → Heap → Prop} {c : Code} (h : AWp P G0 N c (ANoGoto Q) E H) : AWp P G0 N (.scope c) Q E H := by
  intro G hG a w hs
  refine wp_scope_straight (wp_mono (h G hG a w hs) ?_)
  rintro e a' w' ⟨E', H', q, s⟩
  cases e <;> first | exact ⟨E', H', q, s⟩ | exact q.elim
/-- A region with tests, which writes: its ways join. -/
theorem awp_mergeW {P : Program} {G0 : Heap} {N : Nat} {E : Env} {H H2 : Heap} {ops : Array Oper} {id n t : Nat} {d : Bool} {X : Bool} {Q : Exit → Env → Heap → Prop} (h : AWp P G0 N (.region id ops d) (fun e E1 H1 => e = .normal ∧ Merge n t X E H2 E1 H1) E H) (hk : Q .normal ((t, .pv (.bool X)) :: E) H2) : AWp P G0 N (.region id ops d) Q E H := by
  intro G hG a w hs
  refine wp_mono (h G hG a w hs) ?_
  rintro e a' w' ⟨E1, H1, ⟨rfl, hm⟩, hs'⟩
  exact ⟨_, _, hk, (hm.ent (G0 := G0)) G hG N a' w' hs'⟩
/-- Each object's cells lead into the heap. -/
def ClosedL (H : Heap) : Heap → Prop
  | [] => True
  | (_, o) :: r => (∀ r ∈ o.rows, ∀ a ∈ r, Clo H a) ∧ ClosedL H r
theorem ClosedL.spec {H : Heap} : ∀ {L : Heap}, ClosedL H L → ∀ p ∈ L, ∀ r ∈ p.2.rows, ∀ a ∈ r, Clo H a
  | (i, o) :: L, h, p, hp => by
    rcases List.mem_cons.1 hp with rfl | hp
    · exact h.1
    · exact ClosedL.spec h.2 p hp
theorem Closed.ofL {H : Heap} (h : ClosedL H H) : Closed H := fun _ _ ho => h.spec _ (mem_of_hget ho)
/-- Names of objects of a front. -/
def lo (D : Heap) (n : Nat) : Prop := ∀ p ∈ D, 900 ≤ p.1 ∧ p.1 < n
/-- No names of fronts are in a heap. -/
def clear (K : Heap) : Prop := ∀ i, 900 ≤ i → i < 1000 → K.get i = none
/-- What stands in front in both forms, or not behind. -/
theorem Sub.front' {D D' K : Heap} (h1 : ∀ p ∈ D, (D'.get p.1).isSome = true ∨ K.get p.1 = none) (h2 : ∀ p ∈ D', D.get p.1 = some p.2) : Sub (D' ++ K) (D ++ K) := by
  intro id o ho
  rw [hget_app] at ho ⊢
  cases e : D'.get id with
  | some x =>
    rw [e] at ho
    cases ho
    rw [h2 _ (mem_of_hget e)]
  | none =>
    rw [e] at ho
    cases e2 : D.get id with
    | none => exact ho
    | some x =>
      rcases h1 _ (mem_of_hget e2) with h | h
      · simp only [e] at h; cases h
      · rw [h] at ho; cases ho
theorem Kept.front' {G0 D D' K : Heap} (h2 : ∀ p ∈ D', D.get p.1 = some p.2) (h5 : ∀ p ∈ D, (D'.get p.1).isSome = true ∨ G0.get p.1 = none) : Kept G0 (D' ++ K) (D ++ K) := by
  intro id hi
  rw [hget_app, hget_app]
  cases e : D'.get id with
  | some x => rw [h2 _ (mem_of_hget e)]
  | none =>
    cases e2 : D.get id with
    | none => rfl
    | some x =>
      rcases h5 _ (mem_of_hget e2) with h | h
      · simp only [e] at h; cases h
      · rw [h] at hi; cases hi
theorem Ent.front' {G0 : Heap} {E E' : Env} {K : Heap} (D D' : Heap) (hE : EOk E (D' ++ K) E') (h1 : ∀ p ∈ D, (D'.get p.1).isSome = true ∨ K.get p.1 = none) (h2 : ∀ p ∈ D', D.get p.1 = some p.2) (h3 : ∀ p ∈ D', ∀ r ∈ p.2.rows, ∀ a ∈ r, Clo (D' ++ K) a) (h4 : Closed K)
    (h5 : ∀ p ∈ D, (D'.get p.1).isSome = true ∨ G0.get p.1 = none) : Ent G0 E (D ++ K) E' (D' ++ K) := by
  intro G hG N a w hs
  obtain ⟨I, ι, hr, hst, he⟩ := hs.rel
  subst hG
  have hsub := Sub.front' h1 h2
  refine ⟨hs.defers, hs.size, I, ι, hr.restrict hsub (Closed.app h3 h4), hst.restrict hsub (Kept.front' h2 h5), fun t v ht => ?_⟩
  obtain ⟨k1, k2⟩ := hE.spec _ (mem_of_get ht)
  obtain ⟨c, hc, hv⟩ := he t v k1
  exact ⟨c, hc, hv.restrict hsub k2⟩
end Go.Abs
end
section
set_option linter.unusedVariables false
set_option linter.unusedSimpArgs false
set_option maxRecDepth 100000
namespace Go.Proofs.YtdgoodjhndeojaaGreat
open Go.Abs

/-- The kinds of a map's objects, by Ids. -/
def kM (l : List GObj) : List (ByteArray × AV) := l.map fun o => (o.id, iv o.kind)
abbrev kob (l : List GObj) : Ob := ⟨0, 0, (kM l).length, mrows strK (kM l)⟩
theorem kob_clo (l : List GObj) (H : Heap) : ∀ r ∈ (kob l).rows, ∀ a ∈ r, Clo H a := by
  intro r hr a ha
  obtain ⟨i, hi⟩ := List.mem_iff_getElem?.1 hr
  obtain ⟨p, hp, rfl⟩ := mrows_get.1 hi
  simp only [kM, List.getElem?_map] at hp
  obtain ⟨q, _, rfl⟩ := Option.map_eq_some_iff.1 hp
  simp only [List.mem_cons, List.not_mem_nil, or_false] at ha
  rcases ha with rfl | rfl | rfl <;> simp
theorem kM_get : ∀ (l : List GObj) (s : ByteArray), mget (kM l) s = (l.find? (idIs s)).map (fun o => iv o.kind)
  | [], s => rfl
  | o :: l, s => by
    have ih := kM_get l s
    rw [kM, List.map_cons, mget, List.find?_cons]
    by_cases e : o.id = s
    · rw [if_pos e, show idIs s o = true from decide_eq_true e]; rfl
    · rw [if_neg e, show idIs s o = false from decide_eq_false e]; exact ih
theorem mput_new : ∀ {l : List (ByteArray × AV)} {k : ByteArray} (v : AV), mget l k = none → mput l k v = l ++ [(k, v)]
  | [], k, v, _ => rfl
  | (k', a) :: l, k, v, h => by
    rw [mget] at h
    split at h
    · cases h
    · next e => rw [mput, if_neg e, mput_new v h]; rfl
theorem kM_put {m : List GObj} {k : Nat} {o : GObj} (hu : ups m) (ho : m[k]? = some o) : mput (kM (m.take k)) o.id (iv o.kind) = kM (m.take (k + 1)) := by
  have hn : mget (kM (m.take k)) o.id = none := by
    rw [kM_get, Option.map_eq_none_iff, List.find?_eq_none]
    intro a ha he
    have he := of_decide_eq_true he
    obtain ⟨j, hj⟩ := List.mem_iff_getElem?.1 ha
    have hjk : j < k := by
      have := (List.getElem?_eq_some_iff.1 hj).1
      rw [List.length_take] at this
      omega
    rw [List.getElem?_take_of_lt hjk] at hj
    obtain ⟨jl, je⟩ := List.getElem?_eq_some_iff.1 hj
    obtain ⟨kl, ke⟩ := List.getElem?_eq_some_iff.1 ho
    rw [ups, List.pairwise_iff_getElem] at hu
    have := hu j k jl kl hjk
    rw [je, ke, he, slt_irr] at this
    cases this
  rw [mput_new _ hn, kM, kM, List.take_add_one, ho, List.map_append]
  rfl
def gWanted (kind i : Int) : Int := if (decide (kind = 4) || (decide (kind = 5) && !decide (i = 1))) then 2 else 1
theorem wanted_c (kind i : Int) (H : Heap) : ACalls Tryz.prog 172 [iv kind, iv i] H (fun r H' => r = iv (gWanted kind i) ∧ H' = H) := by
  refine ACalls.pure ?_ (by simp) H
  refine ACalls.body Tryz.func172 rfl Tryz.ntmps172 (Nat.le_of_ble_eq_true rfl) ?_
  refine awp_seq ?_
  refine awp_region ?_
  refine al_d rfl rfl rfl (by exact opd_assign rfl rfl) ?_
  refine al_nil ?_
  refine awp_seq ?_
  refine awp_seq ?_
  refine awp_bool (t := 14) (n := 12) (X := decide (kind = 4) || (decide (kind = 5) && !decide (i = 1))) ?_ ?_
  · all_goals (refine al_d rfl rfl rfl (by exact opd_move rfl rfl) ?_)
    all_goals (refine al_d rfl rfl rfl (by exact opd_eql rfl rfl rfl) ?_)
    all_goals (refine al_d rfl rfl rfl (by exact opd_move rfl rfl) ?_)
    all_goals (refine al_split (t := 7) rfl (fun h7 => ?_) (fun h7 => ?_))
    all_goals (try contradiction)
    all_goals (first | refine al_off rfl rfl rfl rfl rfl ?_ | refine al_ond rfl rfl rfl rfl rfl rfl (by exact opd_move rfl rfl) ?_)
    all_goals (first | refine al_off rfl rfl rfl rfl rfl ?_ | refine al_ond rfl rfl rfl rfl rfl rfl (by exact opd_eql rfl rfl rfl) ?_)
    all_goals (first | refine al_off rfl rfl rfl rfl rfl ?_ | refine al_ond rfl rfl rfl rfl rfl rfl (by exact opd_move rfl rfl) ?_)
    all_goals (first | refine al_split (t := 10) rfl (fun h10 => ?_) (fun h10 => ?_) | refine al_dup (t := 10) rfl ?_)
    all_goals (try contradiction)
    all_goals (first | refine al_off rfl rfl rfl rfl rfl ?_ | refine al_offu rfl rfl rfl rfl ?_ | refine al_ond rfl rfl rfl rfl rfl rfl (by exact opd_move rfl rfl) ?_)
    all_goals (first | refine al_off rfl rfl rfl rfl rfl ?_ | refine al_offu rfl rfl rfl rfl ?_ | refine al_ond rfl rfl rfl rfl rfl rfl (by exact opd_neq rfl rfl rfl) ?_)
    all_goals (first | refine al_off rfl rfl rfl rfl rfl ?_ | refine al_ond rfl rfl rfl rfl rfl rfl (by exact (by first | exact opd_pick_t rfl rfl rfl | exact opd_pick_f rfl rfl rfl)) ?_)
    all_goals (refine al_d rfl rfl rfl (by exact (by first | exact opd_pick_t rfl rfl rfl | exact opd_pick_f rfl rfl rfl)) ?_)
    all_goals (refine al_nil ?_)
    all_goals (exact ⟨⟨_, rfl, by (simp only [*, Bool.false_and, Bool.true_and, Bool.and_false, Bool.and_true, Bool.true_or, Bool.false_or, Bool.or_true, Bool.or_false, Bool.not_true, Bool.not_false]; done)⟩, rfl, rfl, rfl⟩)
  refine awp_cond rfl (fun hc1 => ?_) (fun hc1 => ?_)
  -- cond 1
  · skip
    refine awp_seq ?_
    refine awp_region ?_
    refine al_d rfl rfl rfl (by exact opd_assign rfl rfl) ?_
    refine al_nil ?_
    refine awp_ret ?_
    -- return
    refine aret1 (H' := []) (by exact .inr rfl) rfl (rval_tmp rfl) (Fin.wk (by simp) trivial trivial) ?_
    exact ⟨by rw [gWanted, if_pos hc1], rfl⟩
  · skip
    refine awp_skip ?_
    refine awp_seq ?_
    refine awp_region ?_
    refine al_d rfl rfl rfl (by exact opd_assign rfl rfl) ?_
    refine al_nil ?_
    refine awp_ret ?_
    -- return
    refine aret1 (H' := []) (by exact .inr rfl) rfl (rval_tmp rfl) (Fin.wk (by simp) trivial trivial) ?_
    exact ⟨by rw [gWanted, hc1]; rfl, rfl⟩
def kindOf (m : List GObj) (s : ByteArray) : Option Int := (m.find? (idIs s)).map (·.kind)
def refBad (m : List GObj) (kind : Int) (i : Nat) (s : ByteArray) : Int := match kindOf m s with
  | none => 14
  | some k => if k = gWanted kind (i : Int) then 0 else 13
def refErr (m : List GObj) (kind : Int) : Nat → List ByteArray → Int
  | _, [] => 0
  | i, s :: r => if refBad m kind i s = 0 then refErr m kind (i + 1) r else refBad m kind i s
theorem kM_kind (m : List GObj) (s : ByteArray) : mget (kM m) s = (kindOf m s).map iv := by
  rw [kM_get, kindOf, Option.map_map]; rfl
abbrev cRow (m : List GObj) : Ob := bx 2 105 [.pv (slObjs m), .mp 12 0]
theorem refs_c (m : List GObj) (o : GObj) (H : Heap) (h14 : H.get 14 = some (cRow m)) (h12 : H.get 12 = some (kob m)) (h63 : H.get 963 = none) (hc : Closed H) (hl : o.refs.length < 4611686018427387904) :
    ACalls Tryz.prog 136 [.ref 14 0 0 0, av (encObj o)] H (fun r H' => r = iv (refErr m o.kind 0 o.refs) ∧ H' = H) := by
  have hrl : (o.refs.map encStr).length = o.refs.length := List.length_map _
  have h14' : Heap.get ((963, bx 6 42 ((encObj o).map .pv)) :: H) 14 = some (cRow m) := h14
  have h12' : Heap.get ((963, bx 6 42 ((encObj o).map .pv)) :: H) 12 = some (kob m) := h12
  refine ACalls.body Tryz.func136 rfl Tryz.ntmps136 (Nat.le_of_ble_eq_true rfl) ?_
  refine awp_seq ?_
  refine awp_region ?_
  refine al_d rfl rfl rfl (by exact opd_box (id := 963) rfl rfl rfl rfl h63) ?_
  refine al_d rfl rfl rfl (by exact opd_assign rfl rfl) ?_
  refine al_nil ?_
  refine awp_seq ?_
  refine awp_seq ?_
  refine awp_region ?_
  refine al_d rfl rfl rfl (by exact (by exact opd_field_ref rfl fo42_3 rfl rfl rfl rfl)) ?_
  refine al_d rfl rfl rfl (by exact (by exact opd_load1_ref rfl Tryz.isAgg39 rfl rfl rfl rfl rfl)) ?_
  refine al_d rfl rfl rfl (by exact (by exact opd_len_sl rfl Tryz.underlying39 rfl)) ?_
  refine al_d rfl rfl rfl (by exact opd_move rfl rfl) ?_
  refine al_nil ?_
  refine awp_block ?_
  -- loop
  refine awp_loop (σ := Nat) (fun k => ([(0, .ref 14 0 0 0), (3, .ref 963 0 0 0), (10, .pv (slStrs o.refs)), (11, iv ((o.refs.map encStr).length : Int)), (12, iv (k : Int))], (963, bx 6 42 ((encObj o).map .pv)) :: H)) (fun k => k ≤ o.refs.length ∧ refErr m o.kind 0 o.refs = refErr m o.kind k (o.refs.drop k)) (fun k => o.refs.length - k) 0 ⟨by omega, rfl⟩ ?_ ?_
  · exact Ent.e0 ⟨⟨_, rfl, rfl⟩, ⟨_, rfl, rfl⟩, ⟨_, rfl, rfl⟩, ⟨_, rfl, rfl⟩, ⟨_, rfl, rfl⟩, trivial⟩
  · rintro k ⟨hk, hinv⟩
    refine awp_seq ?_
    refine awp_region ?_
    refine al_d rfl rfl rfl (by exact opd_lss rfl rfl rfl) ?_
    refine al_nil ?_
    refine awp_seq ?_
    refine awp_cond rfl (fun hc1 => ?_) (fun hc1 => ?_)
    -- cond 1
    · have hlt : k < o.refs.length := by have := of_decide_eq_true hc1; omega
      obtain ⟨s, hs⟩ := get_of_lt hlt
      have hi := map_get (f := encStr) hs
      have hdr : o.refs.drop k = s :: o.refs.drop (k + 1) := by
        obtain ⟨hl1, he1⟩ := List.getElem?_eq_some_iff.1 hs
        rw [List.drop_eq_getElem_cons hl1, he1]
      rw [hdr, refErr] at hinv
      refine awp_skip ?_
      refine awp_seq ?_
      refine awp_block ?_
      refine awp_seq ?_
      refine awp_region ?_
      refine al_d rfl rfl rfl (by exact opd_move rfl rfl) ?_
      refine al_d rfl rfl rfl (by exact (by exact x_index_pad rfl so39 rfl rfl (by omega) (by exact Int.toNat_natCast _) (by assumption) rfl)) ?_
      refine al_d rfl rfl rfl (by exact (by exact opd_load1_pad rfl Tryz.isAgg9 rfl (by omega) rfl)) ?_
      refine al_d rfl rfl rfl (by exact opd_assign rfl rfl) ?_
      refine al_d rfl rfl rfl (by exact opd_assign rfl rfl) ?_
      refine al_nil ?_
      refine awp_seq ?_
      refine awp_region ?_
      refine al_d rfl rfl rfl (by exact opd_move rfl rfl) ?_
      refine al_d rfl rfl rfl (by exact (by exact opd_nilCheck_ref rfl rfl h14' rfl)) ?_
      refine al_d rfl rfl rfl (by exact (by exact opd_field_ref rfl fo105_1 rfl h14' rfl rfl)) ?_
      refine al_d rfl rfl rfl (by exact (by exact opd_load1_ref rfl Tryz.isAgg103 rfl h14' rfl rfl rfl)) ?_
      refine al_d rfl rfl rfl (by exact opd_move rfl rfl) ?_
      refine al_d rfl rfl rfl (by exact opd_lookup_ok (κ := strK) rfl Tryz.underlying103 Tryz.underlying9 rfl h12' rfl rfl rfl Tryz.zeroValue3 (.inl rfl)) ?_
      refine al_d rfl rfl rfl (by exact opd_move rfl rfl) ?_
      refine al_d rfl rfl rfl (by exact opd_extract rfl rfl rfl) ?_
      refine al_d rfl rfl rfl (by exact opd_extract rfl rfl rfl) ?_
      refine al_d rfl rfl rfl (by exact opd_assign rfl rfl) ?_
      refine al_d rfl rfl rfl (by exact opd_assign rfl rfl) ?_
      refine al_nil ?_
      refine awp_block ?_
      refine awp_seq ?_
      refine awp_region ?_
      refine al_d rfl rfl rfl (by exact opd_move rfl rfl) ?_
      refine al_d rfl rfl rfl (by exact opd_not rfl rfl) ?_
      refine al_d rfl rfl rfl (by exact opd_assign rfl rfl) ?_
      refine al_nil ?_
      refine awp_cond rfl (fun hc2 => ?_) (fun hc2 => ?_)
      -- cond 2
      · have hko : kindOf m s = none := by
          rw [kM_kind] at hc2
          cases h : kindOf m s with
          | none => rfl
          | some x => rw [h] at hc2; cases hc2
        have hb : refBad m o.kind k s = 14 := by rw [refBad, hko]
        rw [hb, if_neg (by decide)] at hinv
        refine awp_seq ?_
        refine awp_region ?_
        refine al_d rfl rfl rfl (by exact opd_assign rfl rfl) ?_
        refine al_nil ?_
        refine awp_ret ?_
        -- return
        refine aret1 (H' := H) (.inr rfl) rfl (rval_tmp rfl) (Fin.pops [(963, bx 6 42 ((encObj o).map .pv))] (by simp) hc (by simp [h63])) ⟨by rw [hinv], rfl⟩
      · obtain ⟨kd, hko⟩ : ∃ kd, kindOf m s = some kd := by
          rw [kM_kind] at hc2
          cases h : kindOf m s with
          | none => rw [h] at hc2; cases hc2
          | some x => exact ⟨x, rfl⟩
        have hg : mget (kM m) s = some (iv kd) := by rw [kM_kind, hko]; rfl
        rw [hg]
        refine awp_seq ?_
        refine awp_region ?_
        refine al_d rfl rfl rfl (by exact opd_move rfl rfl) ?_
        refine al_d rfl rfl rfl (by exact (by exact opd_field_ref rfl fo42_1 rfl rfl rfl rfl)) ?_
        refine al_d rfl rfl rfl (by exact (by exact opd_load1_ref rfl Tryz.isAgg3 rfl rfl rfl rfl rfl)) ?_
        refine al_d rfl rfl rfl (by exact opd_move rfl rfl) ?_
        refine al_d rfl rfl rfl (by exact opr_call rfl rfl Tryz.call172 rfl (wanted_c o.kind (k : Int) _)) ?_
        refine al_d rfl rfl rfl (by exact opd_neq rfl rfl rfl) ?_
        refine al_d rfl rfl rfl (by exact opd_assign rfl rfl) ?_
        refine al_nil ?_
        refine awp_cond rfl (fun hc3 => ?_) (fun hc3 => ?_)
        -- cond 3
        · have hb : refBad m o.kind k s = 13 := by
            have h : (!decide (kd = gWanted o.kind (k : Int))) = true := hc3
            have h : ¬ kd = gWanted o.kind (k : Int) := by simpa using h
            rw [refBad, hko]
            exact if_neg h
          rw [hb, if_neg (by decide)] at hinv
          refine awp_seq ?_
          refine awp_region ?_
          refine al_d rfl rfl rfl (by exact opd_assign rfl rfl) ?_
          refine al_nil ?_
          refine awp_ret ?_
          -- return
          refine aret1 (H' := H) (.inr rfl) rfl (rval_tmp rfl) (Fin.pops [(963, bx 6 42 ((encObj o).map .pv))] (by simp) hc (by simp [h63])) ⟨by rw [hinv], rfl⟩
        · have hb : refBad m o.kind k s = 0 := by
            have h : (!decide (kd = gWanted o.kind (k : Int))) = false := hc3
            have h : kd = gWanted o.kind (k : Int) := by simpa using h
            rw [refBad, hko]
            exact if_pos h
          rw [if_pos hb] at hinv
          refine awp_skip ?_
          refine awp_region ?_
          refine al_d rfl rfl rfl (by exact opd_add rfl rfl rfl (by exact w64 (by omega) (by omega))) ?_
          refine al_d rfl rfl rfl (by exact opd_move rfl rfl) ?_
          refine al_nil ?_
          -- end of a round
          exact ⟨k + 1, ⟨by omega, hinv⟩, by omega, Ent.e0 ⟨⟨_, rfl, rfl⟩, ⟨_, rfl, rfl⟩, ⟨_, rfl, rfl⟩, ⟨_, rfl, rfl⟩, ⟨_, rfl, rfl⟩, trivial⟩⟩
    · have hge : k = o.refs.length := by have := of_decide_eq_false hc1; omega
      subst hge
      rw [List.drop_length, refErr] at hinv
      refine awp_exit ?_
      refine awp_seq ?_
      refine awp_region ?_
      refine al_d rfl rfl rfl (by exact opd_assign rfl rfl) ?_
      refine al_nil ?_
      refine awp_ret ?_
      -- return
      refine aret1 (H' := H) (.inr rfl) rfl (rval_tmp rfl) (Fin.pops [(963, bx 6 42 ((encObj o).map .pv))] (by simp) hc (by simp [h63])) ⟨by rw [hinv], rfl⟩
def closedB (m : List GObj) : Bool := gMap m && m.all (fun o => decide (refErr m o.kind 0 o.refs = 0))
abbrev cH (m : List GObj) : Heap := [(14, cRow m), (12, kob m)]
theorem of_c (m : List GObj) (hm : okM m) (hcl : closedB m = true) : ACalls Tryz.prog 79 [.agg [.pv (slObjs m)]] [] (fun r H' => r = .ref 14 0 0 0 ∧ H' = cH m) := by
  have hml : (m.map encObj).length = m.length := List.length_map _
  rw [closedB, Bool.and_eq_true, List.all_eq_true] at hcl
  obtain ⟨hg, hall⟩ := hcl
  have hu := (gMap_iff.1 hg).2.1
  have hl := hm.1
  refine ACalls.body Tryz.func79 rfl Tryz.ntmps79 (Nat.le_of_ble_eq_true rfl) ?_
  refine awp_seq ?_
  refine awp_region ?_
  refine al_d rfl rfl rfl (by exact opd_box (id := 1) rfl rfl rfl rfl rfl) ?_
  refine al_d rfl rfl rfl (by exact opd_assign rfl rfl) ?_
  refine al_nil ?_
  refine awp_seq ?_
  refine awp_seq ?_
  refine awp_region ?_
  refine al_d rfl rfl rfl (by exact (by exact opd_loadn_ref rfl Tryz.isAgg24 Tryz.sizeOf24 rfl rfl rfl rfl (by simp only [List.drop_succ_cons, List.drop_zero, List.take_succ_cons, List.take_zero, List.take_nil, List.map_cons, List.map_nil, List.set_cons_zero, List.set_cons_succ, List.cons_append, List.nil_append, encTag, encObj, encStr]; rfl) rfl)) ?_
  refine al_d rfl rfl rfl (by exact opr_call rfl rfl Tryz.call35 rfl (atlasValid_c m _ hm)) ?_
  refine al_d rfl rfl rfl (by exact opd_not rfl rfl) ?_
  refine al_nil ?_
  refine awp_cond rfl (fun hc1 => ?_) (fun hc1 => ?_)
  -- cond 1
  · have h : (!gMap m) = true := hc1
    rw [hg] at h; cases h
  · skip
    refine awp_skip ?_
    refine awp_seq ?_
    refine awp_region ?_
    refine al_d rfl rfl rfl (by exact (by exact opd_loadn_ref rfl Tryz.isAgg24 Tryz.sizeOf24 rfl rfl rfl rfl (by simp only [List.drop_succ_cons, List.drop_zero, List.take_succ_cons, List.take_zero, List.take_nil, List.map_cons, List.map_nil, List.set_cons_zero, List.set_cons_succ, List.cons_append, List.nil_append, encTag, encObj, encStr]; rfl) rfl)) ?_
    refine al_d rfl rfl rfl (by exact opd_makeMap (id := 12) strK rfl rfl) ?_
    refine al_d rfl rfl rfl (by exact x_build rfl bo105 rfl rfl) ?_
    refine al_d rfl rfl rfl (by exact opd_box (id := 14) rfl rfl rfl rfl rfl) ?_
    refine al_d rfl rfl rfl (by exact opd_assign rfl rfl) ?_
    refine al_nil ?_
    refine awp_seq ?_
    refine awp_seq ?_
    refine awp_region ?_
    refine al_d rfl rfl rfl (by exact (by exact opd_field_ref rfl fo24_0 rfl rfl rfl rfl)) ?_
    refine al_d rfl rfl rfl (by exact (by exact opd_load1_ref rfl Tryz.isAgg22 rfl rfl rfl rfl rfl)) ?_
    refine al_d rfl rfl rfl (by exact (by exact opd_len_sl rfl Tryz.underlying22 rfl)) ?_
    refine al_d rfl rfl rfl (by exact opd_move rfl rfl) ?_
    refine al_nil ?_
    refine awp_block ?_
    -- loop
    refine awp_loop (σ := Nat) (fun k => ([(1, .ref 1 0 0 0), (3, .ref 14 0 0 0), (16, .pv (slObjs m)), (17, iv ((m.map encObj).length : Int)), (18, iv (k : Int))], [(14, cRow m), (12, kob (m.take k)), (1, bx 1 24 [.pv (slObjs m)])])) (fun k => k ≤ m.length) (fun k => m.length - k) 0 (by omega) ?_ ?_
    · exact (Ent.wk ⟨⟨_, rfl, rfl⟩, (by (simp; rfl)), ⟨_, rfl, rfl⟩, (by (simp; rfl)), ⟨_, rfl, rfl⟩, (by (simp; done)), ⟨_, rfl, rfl⟩, (by (simp; done)), ⟨_, rfl, rfl⟩, (by (simp; done)), trivial⟩ ⟨⟨_, rfl, rfl⟩, (by (simp; rfl)), ⟨_, rfl, rfl⟩, (by exact kob_clo _ _), ⟨_, rfl, rfl⟩, (by (simp; done)), trivial⟩ trivial)
    · intro k hk
      refine awp_seq ?_
      refine awp_region ?_
      refine al_d rfl rfl rfl (by exact opd_lss rfl rfl rfl) ?_
      refine al_nil ?_
      refine awp_seq ?_
      refine awp_cond rfl (fun hc2 => ?_) (fun hc2 => ?_)
      -- cond 2
      · have hlt : k < m.length := by have := of_decide_eq_true hc2; omega
        obtain ⟨o, ho⟩ := get_of_lt hlt
        have hi := map_get (f := encObj) ho
        refine awp_skip ?_
        refine awp_seq ?_
        refine awp_block ?_
        refine awp_seq ?_
        refine awp_region ?_
        refine al_d rfl rfl rfl (by exact (by exact x_index_pad rfl so22 rfl rfl (by omega) (by exact Int.toNat_natCast _) (by assumption) rfl)) ?_
        refine al_d rfl rfl rfl (by exact (by exact opd_loadn_pad rfl Tryz.isAgg42 Tryz.sizeOf42 rfl (by omega) (by simp only [List.drop_succ_cons, List.drop_zero, List.take_succ_cons, List.take_zero, List.take_nil, List.map_cons, List.map_nil, List.set_cons_zero, List.set_cons_succ, List.cons_append, List.nil_append, encTag, encObj, encStr]; rfl) rfl)) ?_
        refine al_d rfl rfl rfl (by exact x_alloc (id := 5) rfl zo42 rfl rfl) ?_
        refine al_n rfl rfl (by exact (by exact x_store_all rfl Tryz.sizeOf42 rfl rfl rfl rfl rfl rfl rfl rfl)) ?_
        refine al_nil ?_
        refine awp_drawc follows ?_
        refine dc_cons (r := ⟨_, some [14], []⟩) (DStep.plain rfl (fun H1 hH => by exact opd_move rfl rfl)) rfl ?_
        refine dc_cons (r := ⟨_, some [14], []⟩) (DStep.plain rfl (fun H1 hH => by exact (by exact opd_nilCheck_ref rfl rfl ((hH _ rfl).trans rfl) rfl))) rfl ?_
        refine dc_cons (r := ⟨_, some [14], []⟩) (DStep.plain rfl (fun H1 hH => by exact (by exact opd_field_ref rfl fo105_1 rfl ((hH _ rfl).trans rfl) rfl rfl))) rfl ?_
        refine dc_cons (r := ⟨_, some [14], []⟩) (DStep.plain rfl (fun H1 hH => by exact (by exact opd_load1_ref rfl Tryz.isAgg103 rfl ((hH _ rfl).trans rfl) rfl rfl rfl))) rfl ?_
        refine dc_cons (r := ⟨_, some [5], []⟩) (DStep.plain rfl (fun H1 hH => by exact (by exact opd_field_ref rfl fo42_0 rfl ((hH _ rfl).trans rfl) rfl rfl))) rfl ?_
        refine dc_cons (r := ⟨_, some [5], []⟩) (DStep.plain rfl (fun H1 hH => by exact (by exact opd_load1_ref rfl Tryz.isAgg9 rfl ((hH _ rfl).trans rfl) rfl rfl rfl))) rfl ?_
        refine dc_cons (r := ⟨_, some [5], []⟩) (DStep.plain rfl (fun H1 hH => by exact (by exact opd_field_ref rfl fo42_1 rfl ((hH _ rfl).trans rfl) rfl rfl))) rfl ?_
        refine dc_cons (r := ⟨_, some [5], []⟩) (DStep.plain rfl (fun H1 hH => by exact (by exact opd_load1_ref rfl Tryz.isAgg3 rfl ((hH _ rfl).trans rfl) rfl rfl rfl))) rfl ?_
        refine dc_cons (r := ⟨_, some [12], [_]⟩) (DStep.plain rfl (fun H1 hH => by exact x_mapUpdate (κ := strK) (.inl rfl) Tryz.underlying103 Tryz.underlying9 rfl ((hH 12 rfl).trans rfl) rfl rfl rfl rfl rfl (kM_put hu ho))) rfl ?_
        refine dc_nil ⟨by kernel_rfl, ?_⟩
        refine awp_region ?_
        refine al_d rfl rfl rfl (by exact opd_add rfl rfl rfl (by exact w64 (by omega) (by omega))) ?_
        refine al_d rfl rfl rfl (by exact opd_move rfl rfl) ?_
        refine al_nil ?_
        -- end of a round
        exact ⟨k + 1, by omega, by omega, (Ent.wk ⟨⟨_, rfl, rfl⟩, (by (simp; rfl)), ⟨_, rfl, rfl⟩, (by (simp; rfl)), ⟨_, rfl, rfl⟩, (by (simp; done)), ⟨_, rfl, rfl⟩, (by (simp; done)), ⟨_, rfl, rfl⟩, (by (simp; done)), trivial⟩ ⟨⟨_, rfl, rfl⟩, (by (simp; rfl)), ⟨_, rfl, rfl⟩, (by exact kob_clo _ _), ⟨_, rfl, rfl⟩, (by (simp; done)), trivial⟩ trivial)⟩
      · have hge : k = m.length := by have := of_decide_eq_false hc2; omega
        subst hge
        rw [List.take_length]
        refine awp_exit ?_
        refine awp_seq ?_
        refine awp_seq ?_
        refine awp_region ?_
        refine al_d rfl rfl rfl (by exact (by exact opd_field_ref rfl fo24_0 rfl rfl rfl rfl)) ?_
        refine al_d rfl rfl rfl (by exact (by exact opd_load1_ref rfl Tryz.isAgg22 rfl rfl rfl rfl rfl)) ?_
        refine al_d rfl rfl rfl (by exact (by exact opd_len_sl rfl Tryz.underlying22 rfl)) ?_
        refine al_d rfl rfl rfl (by exact opd_move rfl rfl) ?_
        refine al_nil ?_
        refine awp_block ?_
        -- loop
        refine awp_loop (σ := Nat) (fun k => ([(3, .ref 14 0 0 0), (32, .pv (slObjs m)), (33, iv ((m.map encObj).length : Int)), (34, iv (k : Int))], [(14, cRow m), (12, kob m)])) (fun k => k ≤ m.length) (fun k => m.length - k) 0 (by omega) ?_ ?_
        · exact (Ent.wk ⟨⟨_, rfl, rfl⟩, (by (simp; rfl)), ⟨_, rfl, rfl⟩, (by (simp; done)), ⟨_, rfl, rfl⟩, (by (simp; done)), ⟨_, rfl, rfl⟩, (by (simp; done)), trivial⟩ ⟨⟨_, rfl, rfl⟩, (by (simp; rfl)), ⟨_, rfl, rfl⟩, (by exact kob_clo _ _), trivial⟩ trivial)
        · intro k hk
          refine awp_seq ?_
          refine awp_region ?_
          refine al_d rfl rfl rfl (by exact opd_lss rfl rfl rfl) ?_
          refine al_nil ?_
          refine awp_seq ?_
          refine awp_cond rfl (fun hc3 => ?_) (fun hc3 => ?_)
          -- cond 3
          · have hlt : k < m.length := by have := of_decide_eq_true hc3; omega
            obtain ⟨o, ho⟩ := get_of_lt hlt
            have hi := map_get (f := encObj) ho
            have hoo := hm.2 o (List.mem_of_getElem? ho)
            have hr0 : refErr m o.kind 0 o.refs = 0 := of_decide_eq_true (hall o (List.mem_of_getElem? ho))
            refine awp_skip ?_
            refine awp_seq ?_
            refine awp_block ?_
            refine awp_seq ?_
            refine awp_region ?_
            refine al_d rfl rfl rfl (by exact (by exact x_index_pad rfl so22 rfl rfl (by omega) (by exact Int.toNat_natCast _) (by assumption) rfl)) ?_
            refine al_d rfl rfl rfl (by exact (by exact opd_loadn_pad rfl Tryz.isAgg42 Tryz.sizeOf42 rfl (by omega) (by simp only [List.drop_succ_cons, List.drop_zero, List.take_succ_cons, List.take_zero, List.take_nil, List.map_cons, List.map_nil, List.set_cons_zero, List.set_cons_succ, List.cons_append, List.nil_append, encTag, encObj, encStr]; rfl) rfl)) ?_
            refine al_d rfl rfl rfl (by exact x_alloc (id := 7) rfl zo42 rfl rfl) ?_
            refine al_n rfl rfl (by exact (by exact x_store_all rfl Tryz.sizeOf42 rfl rfl rfl rfl rfl rfl rfl rfl)) ?_
            refine al_nil ?_
            refine awp_seq ?_
            refine awp_region ?_
            refine al_d rfl rfl rfl (by exact opd_move rfl rfl) ?_
            refine al_d rfl rfl rfl (by exact (by exact opd_loadn_ref rfl Tryz.isAgg42 Tryz.sizeOf42 rfl rfl rfl rfl (by simp only [List.drop_succ_cons, List.drop_zero, List.take_succ_cons, List.take_zero, List.take_nil, List.map_cons, List.map_nil, List.set_cons_zero, List.set_cons_succ, List.cons_append, List.nil_append, encTag, encObj, encStr]; rfl) rfl)) ?_
            refine al_d rfl rfl rfl (by exact opr_call rfl rfl Tryz.call136 rfl (refs_c m o _ rfl rfl rfl (Closed.ofL ⟨(by (simp; done)), (by (simp; done)), (by (simp; rfl)), (by exact kob_clo _ _), trivial⟩) hoo.2.2.1)) ?_
            refine al_d rfl rfl rfl (by exact opd_neq rfl rfl rfl) ?_
            refine al_nil ?_
            refine awp_cond rfl (fun hc4 => ?_) (fun hc4 => ?_)
            -- cond 4
            · rw [hr0] at hc4; cases hc4
            · skip
              refine awp_skip ?_
              refine awp_region ?_
              refine al_d rfl rfl rfl (by exact opd_add rfl rfl rfl (by exact w64 (by omega) (by omega))) ?_
              refine al_d rfl rfl rfl (by exact opd_move rfl rfl) ?_
              refine al_nil ?_
              -- end of a round
              exact ⟨k + 1, by omega, by omega, (Ent.wk ⟨⟨_, rfl, rfl⟩, (by (simp; rfl)), ⟨_, rfl, rfl⟩, (by (simp; done)), ⟨_, rfl, rfl⟩, (by (simp; done)), ⟨_, rfl, rfl⟩, (by (simp; done)), trivial⟩ ⟨⟨_, rfl, rfl⟩, (by (simp; rfl)), ⟨_, rfl, rfl⟩, (by exact kob_clo _ _), trivial⟩ trivial)⟩
          · skip
            refine awp_exit ?_
            refine awp_seq ?_
            refine awp_region ?_
            refine al_d rfl rfl rfl (by exact opd_move rfl rfl) ?_
            refine al_d rfl rfl rfl (by exact opd_assign rfl rfl) ?_
            refine al_nil ?_
            refine awp_ret ?_
            -- return
            refine aret1 (H' := cH m) (.inr rfl) rfl (rval_tmp rfl) (Fin.wk (by (simp; rfl)) ⟨⟨_, rfl, rfl⟩, (by (simp; rfl)), ⟨_, rfl, rfl⟩, (by exact kob_clo _ _), trivial⟩ trivial) ⟨rfl, rfl⟩
theorem ofN_c (m : List GObj) (hm : okM m) (hcl : closedB m = false) : ACalls Tryz.prog 79 [.agg [.pv (slObjs m)]] [] (fun r H' => r = .pv .nilp ∧ H' = []) := by
  have hml : (m.map encObj).length = m.length := List.length_map _
  have hl := hm.1
  refine ACalls.body Tryz.func79 rfl Tryz.ntmps79 (Nat.le_of_ble_eq_true rfl) ?_
  refine awp_seq ?_
  refine awp_region ?_
  refine al_d rfl rfl rfl (by exact opd_box (id := 1) rfl rfl rfl rfl rfl) ?_
  refine al_d rfl rfl rfl (by exact opd_assign rfl rfl) ?_
  refine al_nil ?_
  refine awp_seq ?_
  refine awp_seq ?_
  refine awp_region ?_
  refine al_d rfl rfl rfl (by exact (by exact opd_loadn_ref rfl Tryz.isAgg24 Tryz.sizeOf24 rfl rfl rfl rfl (by simp only [List.drop_succ_cons, List.drop_zero, List.take_succ_cons, List.take_zero, List.take_nil, List.map_cons, List.map_nil, List.set_cons_zero, List.set_cons_succ, List.cons_append, List.nil_append, encTag, encObj, encStr]; rfl) rfl)) ?_
  refine al_d rfl rfl rfl (by exact opr_call rfl rfl Tryz.call35 rfl (atlasValid_c m _ hm)) ?_
  refine al_d rfl rfl rfl (by exact opd_not rfl rfl) ?_
  refine al_nil ?_
  refine awp_cond rfl (fun hc1 => ?_) (fun hc1 => ?_)
  -- cond 1
  · skip
    refine awp_seq ?_
    refine awp_region ?_
    refine al_d rfl rfl rfl (by exact opd_assign rfl rfl) ?_
    refine al_nil ?_
    refine awp_ret ?_
    -- return
    refine aret1 (H' := []) (.inr rfl) rfl (rval_tmp rfl) (Fin.wk (by (simp; done)) trivial trivial) ⟨rfl, rfl⟩
  · have hg : gMap m = true := by
      have h : (!gMap m) = false := hc1
      simpa using h
    have hu := (gMap_iff.1 hg).2.1
    refine awp_skip ?_
    refine awp_seq ?_
    refine awp_region ?_
    refine al_d rfl rfl rfl (by exact (by exact opd_loadn_ref rfl Tryz.isAgg24 Tryz.sizeOf24 rfl rfl rfl rfl (by simp only [List.drop_succ_cons, List.drop_zero, List.take_succ_cons, List.take_zero, List.take_nil, List.map_cons, List.map_nil, List.set_cons_zero, List.set_cons_succ, List.cons_append, List.nil_append, encTag, encObj, encStr]; rfl) rfl)) ?_
    refine al_d rfl rfl rfl (by exact opd_makeMap (id := 12) strK rfl rfl) ?_
    refine al_d rfl rfl rfl (by exact x_build rfl bo105 rfl rfl) ?_
    refine al_d rfl rfl rfl (by exact opd_box (id := 14) rfl rfl rfl rfl rfl) ?_
    refine al_d rfl rfl rfl (by exact opd_assign rfl rfl) ?_
    refine al_nil ?_
    refine awp_seq ?_
    refine awp_seq ?_
    refine awp_region ?_
    refine al_d rfl rfl rfl (by exact (by exact opd_field_ref rfl fo24_0 rfl rfl rfl rfl)) ?_
    refine al_d rfl rfl rfl (by exact (by exact opd_load1_ref rfl Tryz.isAgg22 rfl rfl rfl rfl rfl)) ?_
    refine al_d rfl rfl rfl (by exact (by exact opd_len_sl rfl Tryz.underlying22 rfl)) ?_
    refine al_d rfl rfl rfl (by exact opd_move rfl rfl) ?_
    refine al_nil ?_
    refine awp_block ?_
    -- loop
    refine awp_loop (σ := Nat) (fun k => ([(1, .ref 1 0 0 0), (3, .ref 14 0 0 0), (16, .pv (slObjs m)), (17, iv ((m.map encObj).length : Int)), (18, iv (k : Int))], [(14, cRow m), (12, kob (m.take k)), (1, bx 1 24 [.pv (slObjs m)])])) (fun k => k ≤ m.length) (fun k => m.length - k) 0 (by omega) ?_ ?_
    · exact (Ent.wk ⟨⟨_, rfl, rfl⟩, (by (simp; rfl)), ⟨_, rfl, rfl⟩, (by (simp; rfl)), ⟨_, rfl, rfl⟩, (by (simp; done)), ⟨_, rfl, rfl⟩, (by (simp; done)), ⟨_, rfl, rfl⟩, (by (simp; done)), trivial⟩ ⟨⟨_, rfl, rfl⟩, (by (simp; rfl)), ⟨_, rfl, rfl⟩, (by exact kob_clo _ _), ⟨_, rfl, rfl⟩, (by (simp; done)), trivial⟩ trivial)
    · intro k hk
      refine awp_seq ?_
      refine awp_region ?_
      refine al_d rfl rfl rfl (by exact opd_lss rfl rfl rfl) ?_
      refine al_nil ?_
      refine awp_seq ?_
      refine awp_cond rfl (fun hc2 => ?_) (fun hc2 => ?_)
      -- cond 2
      · have hlt : k < m.length := by have := of_decide_eq_true hc2; omega
        obtain ⟨o, ho⟩ := get_of_lt hlt
        have hi := map_get (f := encObj) ho
        refine awp_skip ?_
        refine awp_seq ?_
        refine awp_block ?_
        refine awp_seq ?_
        refine awp_region ?_
        refine al_d rfl rfl rfl (by exact (by exact x_index_pad rfl so22 rfl rfl (by omega) (by exact Int.toNat_natCast _) (by assumption) rfl)) ?_
        refine al_d rfl rfl rfl (by exact (by exact opd_loadn_pad rfl Tryz.isAgg42 Tryz.sizeOf42 rfl (by omega) (by simp only [List.drop_succ_cons, List.drop_zero, List.take_succ_cons, List.take_zero, List.take_nil, List.map_cons, List.map_nil, List.set_cons_zero, List.set_cons_succ, List.cons_append, List.nil_append, encTag, encObj, encStr]; rfl) rfl)) ?_
        refine al_d rfl rfl rfl (by exact x_alloc (id := 5) rfl zo42 rfl rfl) ?_
        refine al_n rfl rfl (by exact (by exact x_store_all rfl Tryz.sizeOf42 rfl rfl rfl rfl rfl rfl rfl rfl)) ?_
        refine al_nil ?_
        refine awp_drawc follows ?_
        refine dc_cons (r := ⟨_, some [14], []⟩) (DStep.plain rfl (fun H1 hH => by exact opd_move rfl rfl)) rfl ?_
        refine dc_cons (r := ⟨_, some [14], []⟩) (DStep.plain rfl (fun H1 hH => by exact (by exact opd_nilCheck_ref rfl rfl ((hH _ rfl).trans rfl) rfl))) rfl ?_
        refine dc_cons (r := ⟨_, some [14], []⟩) (DStep.plain rfl (fun H1 hH => by exact (by exact opd_field_ref rfl fo105_1 rfl ((hH _ rfl).trans rfl) rfl rfl))) rfl ?_
        refine dc_cons (r := ⟨_, some [14], []⟩) (DStep.plain rfl (fun H1 hH => by exact (by exact opd_load1_ref rfl Tryz.isAgg103 rfl ((hH _ rfl).trans rfl) rfl rfl rfl))) rfl ?_
        refine dc_cons (r := ⟨_, some [5], []⟩) (DStep.plain rfl (fun H1 hH => by exact (by exact opd_field_ref rfl fo42_0 rfl ((hH _ rfl).trans rfl) rfl rfl))) rfl ?_
        refine dc_cons (r := ⟨_, some [5], []⟩) (DStep.plain rfl (fun H1 hH => by exact (by exact opd_load1_ref rfl Tryz.isAgg9 rfl ((hH _ rfl).trans rfl) rfl rfl rfl))) rfl ?_
        refine dc_cons (r := ⟨_, some [5], []⟩) (DStep.plain rfl (fun H1 hH => by exact (by exact opd_field_ref rfl fo42_1 rfl ((hH _ rfl).trans rfl) rfl rfl))) rfl ?_
        refine dc_cons (r := ⟨_, some [5], []⟩) (DStep.plain rfl (fun H1 hH => by exact (by exact opd_load1_ref rfl Tryz.isAgg3 rfl ((hH _ rfl).trans rfl) rfl rfl rfl))) rfl ?_
        refine dc_cons (r := ⟨_, some [12], [_]⟩) (DStep.plain rfl (fun H1 hH => by exact x_mapUpdate (κ := strK) (.inl rfl) Tryz.underlying103 Tryz.underlying9 rfl ((hH 12 rfl).trans rfl) rfl rfl rfl rfl rfl (kM_put hu ho))) rfl ?_
        refine dc_nil ⟨by kernel_rfl, ?_⟩
        refine awp_region ?_
        refine al_d rfl rfl rfl (by exact opd_add rfl rfl rfl (by exact w64 (by omega) (by omega))) ?_
        refine al_d rfl rfl rfl (by exact opd_move rfl rfl) ?_
        refine al_nil ?_
        -- end of a round
        exact ⟨k + 1, by omega, by omega, (Ent.wk ⟨⟨_, rfl, rfl⟩, (by (simp; rfl)), ⟨_, rfl, rfl⟩, (by (simp; rfl)), ⟨_, rfl, rfl⟩, (by (simp; done)), ⟨_, rfl, rfl⟩, (by (simp; done)), ⟨_, rfl, rfl⟩, (by (simp; done)), trivial⟩ ⟨⟨_, rfl, rfl⟩, (by (simp; rfl)), ⟨_, rfl, rfl⟩, (by exact kob_clo _ _), ⟨_, rfl, rfl⟩, (by (simp; done)), trivial⟩ trivial)⟩
      · have hge : k = m.length := by have := of_decide_eq_false hc2; omega
        subst hge
        rw [List.take_length]
        refine awp_exit ?_
        refine awp_seq ?_
        refine awp_seq ?_
        refine awp_region ?_
        refine al_d rfl rfl rfl (by exact (by exact opd_field_ref rfl fo24_0 rfl rfl rfl rfl)) ?_
        refine al_d rfl rfl rfl (by exact (by exact opd_load1_ref rfl Tryz.isAgg22 rfl rfl rfl rfl rfl)) ?_
        refine al_d rfl rfl rfl (by exact (by exact opd_len_sl rfl Tryz.underlying22 rfl)) ?_
        refine al_d rfl rfl rfl (by exact opd_move rfl rfl) ?_
        refine al_nil ?_
        refine awp_block ?_
        -- loop
        refine awp_loop (σ := Nat) (fun k => ([(3, .ref 14 0 0 0), (32, .pv (slObjs m)), (33, iv ((m.map encObj).length : Int)), (34, iv (k : Int))], [(14, cRow m), (12, kob m)])) (fun k => k ≤ m.length ∧ ∀ j, j < k → ∀ b, m[j]? = some b → (!decide (refErr m b.kind 0 b.refs = 0)) = false) (fun k => m.length - k) 0 ⟨by omega, by omega⟩ ?_ ?_
        · exact (Ent.wk ⟨⟨_, rfl, rfl⟩, (by (simp; rfl)), ⟨_, rfl, rfl⟩, (by (simp; done)), ⟨_, rfl, rfl⟩, (by (simp; done)), ⟨_, rfl, rfl⟩, (by (simp; done)), trivial⟩ ⟨⟨_, rfl, rfl⟩, (by (simp; rfl)), ⟨_, rfl, rfl⟩, (by exact kob_clo _ _), trivial⟩ trivial)
        · rintro k ⟨hk, hno⟩
          refine awp_seq ?_
          refine awp_region ?_
          refine al_d rfl rfl rfl (by exact opd_lss rfl rfl rfl) ?_
          refine al_nil ?_
          refine awp_seq ?_
          refine awp_cond rfl (fun hc3 => ?_) (fun hc3 => ?_)
          -- cond 3
          · have hlt : k < m.length := by have := of_decide_eq_true hc3; omega
            obtain ⟨o, ho⟩ := get_of_lt hlt
            have hi := map_get (f := encObj) ho
            have hoo := hm.2 o (List.mem_of_getElem? ho)
            refine awp_skip ?_
            refine awp_seq ?_
            refine awp_block ?_
            refine awp_seq ?_
            refine awp_region ?_
            refine al_d rfl rfl rfl (by exact (by exact x_index_pad rfl so22 rfl rfl (by omega) (by exact Int.toNat_natCast _) (by assumption) rfl)) ?_
            refine al_d rfl rfl rfl (by exact (by exact opd_loadn_pad rfl Tryz.isAgg42 Tryz.sizeOf42 rfl (by omega) (by simp only [List.drop_succ_cons, List.drop_zero, List.take_succ_cons, List.take_zero, List.take_nil, List.map_cons, List.map_nil, List.set_cons_zero, List.set_cons_succ, List.cons_append, List.nil_append, encTag, encObj, encStr]; rfl) rfl)) ?_
            refine al_d rfl rfl rfl (by exact x_alloc (id := 7) rfl zo42 rfl rfl) ?_
            refine al_n rfl rfl (by exact (by exact x_store_all rfl Tryz.sizeOf42 rfl rfl rfl rfl rfl rfl rfl rfl)) ?_
            refine al_nil ?_
            refine awp_seq ?_
            refine awp_region ?_
            refine al_d rfl rfl rfl (by exact opd_move rfl rfl) ?_
            refine al_d rfl rfl rfl (by exact (by exact opd_loadn_ref rfl Tryz.isAgg42 Tryz.sizeOf42 rfl rfl rfl rfl (by simp only [List.drop_succ_cons, List.drop_zero, List.take_succ_cons, List.take_zero, List.take_nil, List.map_cons, List.map_nil, List.set_cons_zero, List.set_cons_succ, List.cons_append, List.nil_append, encTag, encObj, encStr]; rfl) rfl)) ?_
            refine al_d rfl rfl rfl (by exact opr_call rfl rfl Tryz.call136 rfl (refs_c m o _ rfl rfl rfl (Closed.ofL ⟨(by (simp; done)), (by (simp; done)), (by (simp; rfl)), (by exact kob_clo _ _), trivial⟩) hoo.2.2.1)) ?_
            refine al_d rfl rfl rfl (by exact opd_neq rfl rfl rfl) ?_
            refine al_nil ?_
            refine awp_cond rfl (fun hc4 => ?_) (fun hc4 => ?_)
            -- cond 4
            · skip
              refine awp_seq ?_
              refine awp_region ?_
              refine al_d rfl rfl rfl (by exact opd_assign rfl rfl) ?_
              refine al_nil ?_
              refine awp_ret ?_
              -- return
              refine aret1 (H' := []) (.inr rfl) rfl (rval_tmp rfl) (Fin.wk (by (simp; done)) trivial trivial) ⟨rfl, rfl⟩
            · skip
              refine awp_skip ?_
              refine awp_region ?_
              refine al_d rfl rfl rfl (by exact opd_add rfl rfl rfl (by exact w64 (by omega) (by omega))) ?_
              refine al_d rfl rfl rfl (by exact opd_move rfl rfl) ?_
              refine al_nil ?_
              -- end of a round
              exact ⟨k + 1, ⟨by omega, pre_succ hno ho hc4⟩, by omega, (Ent.wk ⟨⟨_, rfl, rfl⟩, (by (simp; rfl)), ⟨_, rfl, rfl⟩, (by (simp; done)), ⟨_, rfl, rfl⟩, (by (simp; done)), ⟨_, rfl, rfl⟩, (by (simp; done)), trivial⟩ ⟨⟨_, rfl, rfl⟩, (by (simp; rfl)), ⟨_, rfl, rfl⟩, (by exact kob_clo _ _), trivial⟩ trivial)⟩
          · have hge : k = m.length := by have := of_decide_eq_false hc3; omega
            subst hge
            exfalso
            have : closedB m = true := by
              rw [closedB, hg, Bool.true_and, List.all_eq_true]
              intro o ho
              obtain ⟨j, hj⟩ := List.mem_iff_getElem?.1 ho
              have := hno j (List.getElem?_eq_some_iff.1 hj).1 o hj
              simpa using this
            rw [this] at hcl
            cases hcl
theorem ofF_c (m : List GObj) (H : Heap) (hm : okM m) (hcl : closedB m = true) (h14 : H.get 14 = none) (h12 : H.get 12 = none) : ACalls Tryz.prog 79 [.agg [.pv (slObjs m)]] H (fun r H' => r = .ref 14 0 0 0 ∧ H' = cH m ++ H) :=
  ACalls.frame (of_c m hm hcl) (fun _ _ h => by cases h) (fun _ _ h => by cases h) (by simp) (fun id hi => by
    right
    have : id = 14 ∨ id = 12 := by
      simp only [Heap.get] at hi
      cases e1 : Nat.beq 14 id with
      | true => exact .inl (Nat.eq_of_beq_eq_true e1).symm
      | false =>
        cases e2 : Nat.beq 12 id with
        | true => exact .inr (Nat.eq_of_beq_eq_true e2).symm
        | false => rw [e1, e2] at hi; cases hi
    rcases this with rfl | rfl
    · exact h14
    · exact h12)
theorem allNil_c (m : List GObj) (H : Heap) (hm : okM m) : ACalls Tryz.prog 40 [.agg [.pv (slObjs m)], lv []] H (fun r H' => r = .tup [.agg [.pv (slObjs (if closedB m then m else []))], iv (-1), iv (if closedB m then 0 else 1)] ∧ H' = H) := by
  refine ACalls.pure ?_ (by simp) H
  cases hcl : closedB m with
  | true =>
    simp only [if_true]
    refine ACalls.body Tryz.func40 rfl Tryz.ntmps40 (Nat.le_of_ble_eq_true rfl) ?_
    refine awp_seq ?_
    refine awp_region ?_
    refine al_d rfl rfl rfl (by exact opd_box (id := 2) rfl rfl rfl rfl rfl) ?_
    refine al_d rfl rfl rfl (by exact x_alloc (id := 4) rfl zo24 rfl rfl) ?_
    refine al_d rfl rfl rfl (by exact opd_assign rfl rfl) ?_
    refine al_d rfl rfl rfl (by exact opd_assign rfl rfl) ?_
    refine al_nil ?_
    refine awp_seq ?_
    refine awp_region ?_
    refine al_d rfl rfl rfl (by exact (by exact opd_loadn_ref rfl Tryz.isAgg24 Tryz.sizeOf24 rfl rfl rfl rfl (by simp only [List.drop_succ_cons, List.drop_zero, List.take_succ_cons, List.take_zero, List.take_nil, List.map_cons, List.map_nil, List.set_cons_zero, List.set_cons_succ, List.cons_append, List.nil_append, encTag, encObj, encStr]; rfl) rfl)) ?_
    refine al_d rfl rfl rfl (by exact opr_call rfl rfl Tryz.call79 rfl (ofF_c m _ hm hcl rfl rfl)) ?_
    refine al_d rfl rfl rfl (by exact opd_assign rfl rfl) ?_
    refine al_nil ?_
    refine awp_seq ?_
    refine awp_seq ?_
    refine awp_region ?_
    refine al_d rfl rfl rfl (by exact opd_move rfl rfl) ?_
    refine al_d rfl rfl rfl (by exact (by exact opd_peq_ref rfl Tryz.underlying97 rfl rfl rfl rfl)) ?_
    refine al_nil ?_
    refine awp_cond rfl (fun hc1 => ?_) (fun hc1 => ?_)
    -- cond 1
    · cases hc1
    · skip
      refine awp_skip ?_
      refine awp_seq ?_
      refine awp_seq ?_
      refine awp_region ?_
      refine al_d rfl rfl rfl (by exact opd_move rfl rfl) ?_
      refine al_d rfl rfl rfl (by exact (by exact opd_len_sl rfl Tryz.underlying25 rfl)) ?_
      refine al_d rfl rfl rfl (by exact opd_move rfl rfl) ?_
      refine al_nil ?_
      refine awp_block ?_
      -- loop
      refine awp_loop (σ := Unit) (fun _ => ([(4, .ref 4 0 0 0), (7, .ref 14 0 0 0), (18, iv 0), (19, iv 0)], [(14, cRow m), (12, kob m), (4, bx 1 24 [lv []])])) (fun _ => True) (fun _ => 0) () trivial ?_ ?_
      · exact (Ent.wk ⟨⟨_, rfl, rfl⟩, (by (simp; rfl)), ⟨_, rfl, rfl⟩, (by (simp; rfl)), ⟨_, rfl, rfl⟩, (by (simp; done)), ⟨_, rfl, rfl⟩, (by (simp; done)), trivial⟩ ⟨⟨_, rfl, rfl⟩, (by (simp; rfl)), ⟨_, rfl, rfl⟩, (by exact kob_clo _ _), ⟨_, rfl, rfl⟩, (by (simp; done)), trivial⟩ trivial)
      · intro _ _
        refine awp_seq ?_
        refine awp_region ?_
        refine al_d rfl rfl rfl (by exact opd_lss rfl rfl rfl) ?_
        refine al_nil ?_
        refine awp_seq ?_
        refine awp_cond rfl (fun hc2 => ?_) (fun hc2 => ?_)
        -- cond 2
        · cases hc2
        · skip
          refine awp_exit ?_
          refine awp_seq ?_
          refine awp_region ?_
          refine al_d rfl rfl rfl (by exact opd_move rfl rfl) ?_
          refine al_d rfl rfl rfl (by exact (by exact opd_nilCheck_ref rfl rfl rfl rfl)) ?_
          refine al_d rfl rfl rfl (by exact (by exact opd_field_ref rfl fo105_0 rfl rfl rfl rfl)) ?_
          refine al_d rfl rfl rfl (by exact (by exact opd_loadn_ref rfl Tryz.isAgg24 Tryz.sizeOf24 rfl rfl rfl rfl rfl rfl)) ?_
          refine al_n rfl rfl (by exact (by exact x_store_all rfl Tryz.sizeOf24 rfl rfl rfl rfl rfl rfl rfl rfl)) ?_
          refine al_d rfl rfl rfl (by exact opd_assign rfl rfl) ?_
          refine al_d rfl rfl rfl (by exact opd_assign rfl rfl) ?_
          refine al_nil ?_
          refine awp_ret ?_
          -- return
          refine aret3 (H' := []) (by exact .inr rfl) rfl (rval_cell rfl Tryz.isAgg24 Tryz.sizeOf24 rfl rfl rfl rfl rfl) (rval_tmp rfl) (rval_tmp rfl) (Fin.wk (r := .tup [.agg [.pv (slObjs m)], iv (-1), iv 0]) (by simp) trivial trivial) ?_
          exact ⟨rfl, rfl⟩
  | false =>
    simp only [Bool.false_eq_true, if_false]
    have hof := fun H => ACalls.pure (ofN_c m hm hcl) (by simp) H
    refine ACalls.body Tryz.func40 rfl Tryz.ntmps40 (Nat.le_of_ble_eq_true rfl) ?_
    refine awp_seq ?_
    refine awp_region ?_
    refine al_d rfl rfl rfl (by exact opd_box (id := 2) rfl rfl rfl rfl rfl) ?_
    refine al_d rfl rfl rfl (by exact x_alloc (id := 4) rfl zo24 rfl rfl) ?_
    refine al_d rfl rfl rfl (by exact opd_assign rfl rfl) ?_
    refine al_d rfl rfl rfl (by exact opd_assign rfl rfl) ?_
    refine al_nil ?_
    refine awp_seq ?_
    refine awp_region ?_
    refine al_d rfl rfl rfl (by exact (by exact opd_loadn_ref rfl Tryz.isAgg24 Tryz.sizeOf24 rfl rfl rfl rfl (by simp only [List.drop_succ_cons, List.drop_zero, List.take_succ_cons, List.take_zero, List.take_nil, List.map_cons, List.map_nil, List.set_cons_zero, List.set_cons_succ, List.cons_append, List.nil_append, encTag, encObj, encStr]; rfl) rfl)) ?_
    refine al_d rfl rfl rfl (by exact opr_call rfl rfl Tryz.call79 rfl (hof _)) ?_
    refine al_d rfl rfl rfl (by exact opd_assign rfl rfl) ?_
    refine al_nil ?_
    refine awp_seq ?_
    refine awp_seq ?_
    refine awp_region ?_
    refine al_d rfl rfl rfl (by exact opd_move rfl rfl) ?_
    refine al_d rfl rfl rfl (by exact (by exact opd_peq_nil rfl Tryz.underlying97 rfl rfl)) ?_
    refine al_nil ?_
    refine awp_cond rfl (fun hc1 => ?_) (fun hc1 => ?_)
    -- cond 1
    · skip
      refine awp_seq ?_
      refine awp_region ?_
      refine al_d rfl rfl rfl (by exact x_build rfl bo24 rfl rfl) ?_
      refine al_n rfl rfl (by exact (by exact x_store_all rfl Tryz.sizeOf24 rfl rfl rfl rfl rfl rfl rfl rfl)) ?_
      refine al_d rfl rfl rfl (by exact opd_assign rfl rfl) ?_
      refine al_d rfl rfl rfl (by exact opd_assign rfl rfl) ?_
      refine al_nil ?_
      refine awp_ret ?_
      -- return
      refine aret3 (H' := []) (by exact .inr rfl) rfl (rval_cell rfl Tryz.isAgg24 Tryz.sizeOf24 rfl rfl rfl rfl rfl) (rval_tmp rfl) (rval_tmp rfl) (Fin.wk (r := .tup [.agg [lv []], iv (-1), iv 1]) (by simp) trivial trivial) ?_
      exact ⟨rfl, rfl⟩
    · cases hc1
end Go.Proofs.YtdgoodjhndeojaaGreat
end
section
set_option linter.unusedVariables false
set_option linter.unusedSimpArgs false
namespace Go.Proofs.YtdgoodjhndeojaaGreat
open Go.Abs
section
variable {α κ : Type}
/-- The places of at most n elements that are shown, each of which fits with all that were taken. -/
def gr (S : α → Bool) (T : α → α → Bool) : List α → Nat → Nat → List α → List Nat
  | [], _, _, _ => []
  | _ :: _, _, 0, _ => []
  | x :: r, i, n + 1, tk => if S x && !(tk.any fun y => !T y x) then i :: gr S T r (i + 1) n (tk ++ [x]) else gr S T r (i + 1) (n + 1) tk
theorem fits_iff {T : α → α → Bool} {tk : List α} {x : α} : (!(tk.any fun y => !T y x)) = true ↔ ∀ y ∈ tk, T y x = true := by
  rw [Bool.not_eq_true', List.any_eq_false]
  simp
theorem drop_cons {l r : List α} {i : Nat} {x : α} (h : l.drop i = x :: r) : l[i]? = some x ∧ l.drop (i + 1) = r := by
  have hlt : i < l.length := by
    have := congrArg List.length h
    simp only [List.length_drop, List.length_cons] at this
    omega
  rw [List.drop_eq_getElem_cons hlt] at h
  injection h with h1 h2
  exact ⟨by rw [List.getElem?_eq_getElem hlt, h1], h2⟩
theorem gr_sound {S : α → Bool} {T : α → α → Bool} (l : List α) : ∀ (rest : List α) (i n : Nat) (tk : List α), l.drop i = rest →
    (∀ p ∈ gr S T rest i n tk, i ≤ p ∧ ∃ x, l[p]? = some x ∧ S x = true ∧ ∀ y ∈ tk, T y x = true) ∧
    (gr S T rest i n tk).Pairwise (fun p q => p < q ∧ ∀ x y, l[p]? = some x → l[q]? = some y → T x y = true) ∧ (gr S T rest i n tk).length ≤ n
  | [], i, n, tk, h => by simp [gr]
  | x :: r, i, 0, tk, h => by simp [gr]
  | x :: r, i, n + 1, tk, h => by
    obtain ⟨hx, hr⟩ := drop_cons h
    rw [gr]
    split
    · next hc =>
      rw [Bool.and_eq_true, fits_iff] at hc
      obtain ⟨h1, h2, h3⟩ := gr_sound (S := S) (T := T) l r (i + 1) n (tk ++ [x]) hr
      refine ⟨?_, ?_, by simp only [List.length_cons]; omega⟩
      · intro p hp
        rcases List.mem_cons.1 hp with rfl | hp
        · exact ⟨Nat.le_refl _, x, hx, hc.1, hc.2⟩
        · obtain ⟨a, y, b, c, d⟩ := h1 p hp
          exact ⟨by omega, y, b, c, fun z hz => d z (by simp [hz])⟩
      · refine List.pairwise_cons.2 ⟨fun q hq => ?_, h2⟩
        obtain ⟨a, y, b, c, d⟩ := h1 q hq
        refine ⟨by omega, fun u v hu hv => ?_⟩
        rw [hx] at hu; rw [b] at hv
        cases hu; cases hv
        exact d x (by simp)
    · obtain ⟨h1, h2, h3⟩ := gr_sound (S := S) (T := T) l r (i + 1) (n + 1) tk hr
      refine ⟨fun p hp => ?_, h2, h3⟩
      obtain ⟨a, b⟩ := h1 p hp
      exact ⟨by omega, b⟩
/-- With a key for each element, of which none may come twice: no choice is before the greedy one, at any place. -/
theorem gr_least {S : α → Bool} {T : α → α → Bool} {kf : α → κ} (hT : ∀ a b, T a b = true ↔ kf a ≠ kf b) (l : List α) : ∀ (rest : List α) (i n : Nat) (tk : List α) (e : List Nat), l.drop i = rest → n ≤ e.length → e.Pairwise (· < ·) →
    (∀ p ∈ e, i ≤ p ∧ ∃ x, l[p]? = some x ∧ S x = true ∧ ∀ y ∈ tk, kf y ≠ kf x) → e.Pairwise (fun p q => ∀ x y, l[p]? = some x → l[q]? = some y → kf x ≠ kf y) →
    (gr S T rest i n tk).length = n ∧ ∀ (j a b : Nat), (gr S T rest i n tk)[j]? = some a → e[j]? = some b → a ≤ b
  | [], i, n, tk, e, h, hn, hp, he, hk => by
    have h0 : e = [] := by
      cases e with
      | nil => rfl
      | cons p e =>
        obtain ⟨h1, x, h2, _⟩ := he p (by simp)
        have := (List.getElem?_eq_some_iff.1 h2).1
        have := List.drop_eq_nil_iff.1 h
        omega
    subst h0
    simp only [List.length_nil] at hn
    exact ⟨by rw [gr]; simp; omega, fun j a b h1 _ => by rw [gr] at h1; simp at h1⟩
  | x :: r, i, 0, tk, e, h, hn, hp, he, hk => ⟨by rw [gr]; rfl, fun j a b h1 _ => by rw [gr] at h1; simp at h1⟩
  | x :: r, i, n + 1, tk, e, h, hn, hp, he, hk => by
    obtain ⟨hx, hr⟩ := drop_cons h
    rw [gr]
    split
    · next hc =>
      rw [Bool.and_eq_true, fits_iff] at hc
      -- one element leaves 'e': the one with this key, or the first one
      have key : ∃ t, t < e.length ∧ ∀ p ∈ e.eraseIdx t, ∀ y, l[p]? = some y → kf x ≠ kf y := by
        by_cases hh : ∃ p ∈ e, ∃ y, l[p]? = some y ∧ kf x = kf y
        · obtain ⟨p, hpe, y, hy, hxy⟩ := hh
          obtain ⟨t, ht⟩ := List.mem_iff_getElem?.1 hpe
          obtain ⟨htl, hte⟩ := List.getElem?_eq_some_iff.1 ht
          refine ⟨t, htl, fun q hq z hz => ?_⟩
          rw [List.mem_eraseIdx_iff_getElem?] at hq
          obtain ⟨s, hs, hsq⟩ := hq
          obtain ⟨hsl, hse⟩ := List.getElem?_eq_some_iff.1 hsq
          rw [List.pairwise_iff_getElem] at hk
          rcases Nat.lt_or_gt_of_ne hs with hlt | hlt
          · have := hk s t hsl htl hlt z y (by rw [hse]; exact hz) (by rw [hte]; exact hy)
            rw [hxy]; exact this.symm
          · have := hk t s htl hsl hlt y z (by rw [hte]; exact hy) (by rw [hse]; exact hz)
            rw [hxy]; exact this
        · refine ⟨0, by omega, fun p hpe y hy e1 => hh ⟨p, ?_, y, hy, e1⟩⟩
          exact (List.eraseIdx_sublist ..).subset hpe
      obtain ⟨t, htl, ht⟩ := key
      have hsub := List.eraseIdx_sublist e t
      have hlen : (e.eraseIdx t).length = e.length - 1 := List.length_eraseIdx_of_lt htl
      obtain ⟨h1, h2⟩ := gr_least (S := S) hT l r (i + 1) n (tk ++ [x]) (e.eraseIdx t) hr (by omega) (List.Pairwise.sublist hsub hp) (fun p hpe => by
        obtain ⟨a, y, b, c, d⟩ := he p (hsub.subset hpe)
        have hne := ht p hpe y b
        refine ⟨?_, y, b, c, fun z hz => ?_⟩
        · rcases Nat.lt_or_ge i p with h | h
          · exact h
          · have : p = i := by omega
            subst this
            rw [hx] at b; cases b
            exact absurd rfl hne
        · rcases List.mem_append.1 hz with hz | hz
          · exact d z hz
          · rw [List.mem_singleton] at hz; subst hz; exact hne) (List.Pairwise.sublist hsub hk)
      refine ⟨by simp only [List.length_cons, h1], fun j a b ha hb => ?_⟩
      cases j with
      | zero =>
        simp only [List.getElem?_cons_zero, Option.some.injEq] at ha
        have := (he b (List.mem_of_getElem? hb)).1
        omega
      | succ j =>
        simp only [List.getElem?_cons_succ] at ha
        obtain ⟨hjl, hje⟩ := List.getElem?_eq_some_iff.1 hb
        by_cases hjt : j < t
        · have hb' : (e.eraseIdx t)[j]? = some e[j] := by
            rw [List.getElem?_eraseIdx, if_pos hjt]; exact List.getElem?_eq_getElem (by omega)
          have := h2 j a _ ha hb'
          rw [List.pairwise_iff_getElem] at hp
          have := hp j (j + 1) (by omega) hjl (by omega)
          omega
        · have hb' : (e.eraseIdx t)[j]? = some b := by
            rw [List.getElem?_eraseIdx, if_neg hjt]; exact hb
          exact h2 j a b ha hb'
    · next hc =>
      have hno : ∀ p ∈ e, i + 1 ≤ p := fun p hpe => by
        obtain ⟨a, y, b, c, d⟩ := he p hpe
        rcases Nat.lt_or_ge i p with h | h
        · exact h
        · have : p = i := by omega
          subst this
          rw [hx] at b; cases b
          exact absurd (by rw [Bool.and_eq_true, fits_iff]; exact ⟨c, fun z hz => (hT z x).2 (d z hz)⟩) hc
      exact gr_least (S := S) hT l r (i + 1) (n + 1) tk e hr hn hp (fun p hpe => ⟨hno p hpe, (he p hpe).2⟩) hk
/-- The first place from which there is a choice of n; 'one': only the first place that is shown is tried. -/
def kLoop (one : Bool) (S : α → Bool) (T : α → α → Bool) (n : Nat) : List α → Nat → Option (List Nat)
  | [], _ => none
  | x :: r, i => if S x then (if (gr S T (x :: r) i n []).length = n then some (gr S T (x :: r) i n []) else if one then none else kLoop one S T n r (i + 1)) else kLoop one S T n r (i + 1)
theorem kLoop_sound {one : Bool} {S : α → Bool} {T : α → α → Bool} {n : Nat} (l : List α) : ∀ (rest : List α) (i : Nat) (p : List Nat), l.drop i = rest → kLoop one S T n rest i = some p → p.length = n ∧ ∃ j, p = gr S T (l.drop j) j n []
  | [], i, p, h, hk => by simp [kLoop] at hk
  | x :: r, i, p, h, hk => by
    obtain ⟨hx, hr⟩ := drop_cons h
    rw [kLoop] at hk
    split at hk
    · split at hk
      · next hn => cases hk; exact ⟨hn, i, by rw [h]⟩
      · split at hk
        · cases hk
        · exact kLoop_sound l r (i + 1) p hr hk
    · exact kLoop_sound l r (i + 1) p hr hk
/-- Choices: n places in order, shown, that fit. -/
structure Choice (S : α → Bool) (T : α → α → Bool) (l : List α) (n : Nat) (e : List Nat) : Prop where
  len : e.length = n
  up : e.Pairwise (· < ·)
  sh : ∀ p ∈ e, ∃ x, l[p]? = some x ∧ S x = true
  fit : e.Pairwise (fun p q => ∀ x y, l[p]? = some x → l[q]? = some y → T x y = true)
theorem kLoop_choice {one : Bool} {S : α → Bool} {T : α → α → Bool} {n : Nat} {l : List α} {p : List Nat} (h : kLoop one S T n l 0 = some p) : Choice S T l n p := by
  obtain ⟨h1, j, h2⟩ := kLoop_sound l l 0 p rfl h
  obtain ⟨a, b, _⟩ := gr_sound (S := S) (T := T) l (l.drop j) j n [] rfl
  rw [← h2] at a b
  exact ⟨h1, b.imp (fun h => h.1), fun q hq => by obtain ⟨_, x, h3, h4, _⟩ := a q hq; exact ⟨x, h3, h4⟩, b.imp (fun h => h.2)⟩
/-- A list of places does not come behind another one. -/
def gBehind : List Int → List Int → Bool
  | [], _ => false
  | _ :: _, [] => true
  | a :: r, b :: s => if a = b then gBehind r s else decide (b < a)
theorem behind_le : ∀ {p e : List Nat}, p.length = e.length → (∀ (j a b : Nat), p[j]? = some a → e[j]? = some b → a ≤ b) → gBehind (p.map (fun (n : Nat) => (n : Int))) (e.map (fun (n : Nat) => (n : Int))) = false
  | [], _, _, _ => by simp [gBehind]
  | a :: p, [], h, _ => by simp at h
  | a :: p, b :: e, h, hj => by
    rw [List.map_cons, List.map_cons, gBehind]
    have := hj 0 a b rfl rfl
    split
    · exact behind_le (by simpa using h) (fun j a b h1 h2 => hj (j + 1) a b h1 h2)
    · exact decide_eq_false (by omega)
theorem kLoop_least {S : α → Bool} {T : α → α → Bool} {kf : α → κ} (hT : ∀ a b, T a b = true ↔ kf a ≠ kf b) {n : Nat} (hn : 0 < n) {l : List α} {e : List Nat} (hc : Choice S T l n e) : ∀ (rest : List α) (i : Nat), l.drop i = rest → (∀ p ∈ e, i ≤ p) →
    ∃ p, kLoop true S T n rest i = some p ∧ gBehind (p.map (fun (n : Nat) => (n : Int))) (e.map (fun (n : Nat) => (n : Int))) = false
  | [], i, h, he => by
    have h1 := hc.len
    cases e with
    | nil => simp at h1; omega
    | cons p e =>
      obtain ⟨x, hx, _⟩ := hc.sh p (by simp)
      have := (List.getElem?_eq_some_iff.1 hx).1
      have := he p (by simp)
      have := List.drop_eq_nil_iff.1 h
      omega
  | x :: r, i, h, he => by
    obtain ⟨hx, hr⟩ := drop_cons h
    rw [kLoop]
    split
    · obtain ⟨h1, h2⟩ := gr_least (S := S) hT l (x :: r) i n [] e h (by rw [hc.len]; exact Nat.le_refl _) hc.up (fun p hp => by
        obtain ⟨y, a, b⟩ := hc.sh p hp
        exact ⟨he p hp, y, a, b, by simp⟩) (hc.fit.imp (fun h x y a b => (hT x y).1 (h x y a b)))
      rw [if_pos h1]
      exact ⟨_, rfl, behind_le (by rw [h1, hc.len]) h2⟩
    · next hS =>
      refine kLoop_least hT hn hc r (i + 1) hr (fun p hp => ?_)
      have := he p hp
      rcases Nat.lt_or_ge i p with h | h
      · exact h
      · have : p = i := by omega
        subst this
        obtain ⟨y, a, b⟩ := hc.sh p hp
        rw [hx] at a; cases a
        exact absurd b hS
end
end Go.Proofs.YtdgoodjhndeojaaGreat
end
section
set_option linter.unusedVariables false
set_option linter.unusedSimpArgs false
namespace Go.Proofs.YtdgoodjhndeojaaGreat
open Go.Abs
theorem tagsEq_iff : ∀ {a b : List GTag}, tagsEq a b = true ↔ a = b
  | [], [] => by simp [tagsEq]
  | [], _ :: _ => by simp [tagsEq]
  | _ :: _, [] => by simp [tagsEq]
  | x :: a, y :: b => by rw [tagsEq, Bool.and_eq_true, tagEq_iff, tagsEq_iff]; simp
/-- Near points: the squared distance; else 0. -/
def nearP (x y : Int) : Bool := !(decide (2097152 < max x y) || decide (min x y < -2097152))
def gDist (x y u v : Int) : Int := if nearP x y && nearP u v then (u - x) * (u - x) + (v - y) * (v - y) else 0
def eShows (k : Nat) (m : List GObj) (e : GEdit) : Bool := match k with
  | 1 => decide (e.op = 5) && isOb m e.id
  | 2 => decide (e.op = 3) && decide (e.key = sName) && decide (e.val = sNil) && (gGet (obOf m e.id).tags sName).isSome
  | 3 => decide (e.op = 2) && isOb m e.id && decide ((obOf m e.id).kind = 1) && decide (1000000 ≤ gDist (obOf m e.id).x (obOf m e.id).y e.x e.y)
  | _ => decide (e.op = 1) && decide (e.obj.kind = 1)
def eApart (a b : GEdit) : Bool := !decide (a.id = b.id)
def eAlike (a b : GEdit) : Bool := !decide (a.obj.id = b.obj.id) && (decide (a.obj.x = b.obj.x) && decide (a.obj.y = b.obj.y)) && tagsEq a.obj.tags b.obj.tags
def eTog (k : Nat) (a b : GEdit) : Bool := match k with | 4 => eAlike a b | _ => eApart a b
def nMany (k : Nat) : Nat := match k with | 1 => 5 | 2 => 3 | 3 => 3 | _ => 4
def isDrop (e : GEdit) : Bool := decide (e.op = 5)
def nDrops (l : List GEdit) : Nat := l.countP isDrop
def kAns (m : List GObj) (l : List GEdit) (k : Nat) : Option (List Nat) := if k = 1 ∧ 2 * nDrops l ≤ l.length then none else kLoop (decide (k ≠ 4)) (eShows k m) (eTog k) (nMany k) l 0
def kFirst (m : List GObj) (l : List GEdit) : Nat → Nat → Nat × List Nat
  | 0, _ => (0, [])
  | n + 1, k => match kAns m l k with | some p => (k, p) | none => kFirst m l n (k + 1)
/-- What is found, of a closed map and a valid change set. -/
def gFind0 (m : List GObj) (l : List GEdit) : Nat × List Nat := kFirst m l 4 1
/-- Evidence. -/
structure Ev (m : List GObj) (l : List GEdit) (k : Nat) (e : List Nat) : Prop where
  lo : 1 ≤ k
  hi : k ≤ 4
  ch : Choice (eShows k m) (eTog k) l (nMany k) e
  dr : k = 1 → l.length < 2 * nDrops l
theorem nMany_pos (k : Nat) : 3 ≤ nMany k ∧ nMany k ≤ 5 := by
  unfold nMany; split <;> decide
theorem kAns_sound {m : List GObj} {l : List GEdit} {k : Nat} {p : List Nat} (h1 : 1 ≤ k) (h4 : k ≤ 4) (h : kAns m l k = some p) : Ev m l k p := by
  unfold kAns at h
  split at h
  · cases h
  · next hno => exact ⟨h1, h4, kLoop_choice h, fun e => by omega⟩
theorem kFirst_sound {m : List GObj} {l : List GEdit} : ∀ (n k : Nat), 1 ≤ k → k + n = 5 → kFirst m l n k = (0, []) ∨ Ev m l (kFirst m l n k).1 (kFirst m l n k).2
  | 0, k, _, _ => .inl rfl
  | n + 1, k, h1, h2 => by
    rw [kFirst]
    cases h : kAns m l k with
    | some p =>
      have h4 : k ≤ 4 := by omega
      exact .inr (kAns_sound h1 h4 h)
    | none => exact kFirst_sound n (k + 1) (by omega) (by omega)
theorem find_sound (m : List GObj) (l : List GEdit) : gFind0 m l = (0, []) ∨ Ev m l (gFind0 m l).1 (gFind0 m l).2 := kFirst_sound 4 1 (by omega) (by omega)
abbrev toI (l : List Nat) : List Int := l.map (fun (n : Nat) => (n : Int))
end Go.Proofs.YtdgoodjhndeojaaGreat
end
