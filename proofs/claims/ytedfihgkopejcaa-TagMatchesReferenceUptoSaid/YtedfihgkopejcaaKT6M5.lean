/-
  CONTRACTS: strings.Builder. Conditions: lengths below 2^46.
  CONTRACTS: lexer.Quote, strings.Join. Conditions: lengths below 2^44.
  PLAIN LAWS of Go's order of strings, of valid maps and their parts. Conditions: none.
  CONTRACTS: strings.Compare; slices.BinarySearchFunc at lists in strict order, slices.Clone, Insert, Delete at the lists of the map. Conditions: lengths below 2^40.
  CONTRACTS: slices.Clone, Insert, Delete at the lists of the map: the clone is the caller's own object 901; what is put in is object 902; behind Insert and Delete object 901 is dead and the result never changes. Conditions: lengths below 2^40.
  CONTRACTS: tag.Set. Conditions: lengths below 2^40.
  CONTRACTS: tag.Text. Conditions: lengths below 2^62.
-/
import Derived.Test.YtedfihgkopejcaaKT6M4
section
set_option linter.unusedVariables false
set_option linter.unusedSimpArgs false
set_option maxRecDepth 100000
namespace Go.Proofs.Ytedfihgkopejcaa
open Go.Abs
/-- A builder (object 2001), its bytes (object 2002). -/
def bAddr (u : Bool) : AV := if u then .ref 2001 0 0 0 else .pv .nilp
def bOb (buf : AV) (u : Bool) : Ob := ⟨0, 2, 89, [[bAddr u, buf]]⟩
def bld (g : Nat) (l : List UInt8) (u : Bool) : Heap := [(2001, bOb (.osl 2002 g 0 l.length) u), (2002, ⟨g, 1, 5, brows l⟩)]
theorem brows_len (l : List UInt8) : (brows l).length = l.length := by simp [brows]
theorem brows_clo (H : Heap) (l : List UInt8) : ∀ r ∈ brows l, ∀ a ∈ r, Clo H a := by
  intro r hr a ha
  obtain ⟨b, _, rfl⟩ := List.mem_map.1 hr
  rw [List.mem_singleton] at ha
  subst ha
  simp
theorem brows_app (l m : List UInt8) : brows l ++ brows m = brows (l ++ m) := by simp [brows]
theorem bOb_clo {H : Heap} {g n : Nat} {u : Bool} (h1 : (H.get 2001).isSome = true) (h2 : (H.get 2002).isSome = true) : ∀ r ∈ (bOb (.osl 2002 g 0 n) u).rows, ∀ a ∈ r, Clo H a := by
  intro r hr a ha
  simp only [bOb, List.mem_singleton] at hr
  subst hr
  simp only [List.mem_cons, List.not_mem_nil, or_false] at ha
  rcases ha with rfl | rfl
  · cases u <;> simp [bAddr, h1]
  · simp [h2]

/-- copyCheck. -/
theorem copyCheck_c (buf : AV) (u : Bool) (K : Heap) : ACalls Try.prog 71 [.ref 2001 0 0 0] ((2001, bOb buf u) :: K) (fun r H' => r = .tup [] ∧ H' = (2001, bOb buf true) :: K) := by
  cases u with
  | false =>
    refine ACalls.body Try.func71 rfl Try.ntmps71 (Nat.le_of_ble_eq_true rfl) ?_
    refine awp_seq ?_
    refine awp_region ?_
    refine al_d rfl rfl rfl (by exact opd_move rfl rfl) ?_
    refine al_d rfl rfl rfl (by exact (by exact opd_nilCheck_ref rfl rfl rfl rfl)) ?_
    refine al_d rfl rfl rfl (by exact (by exact opd_field_ref rfl fo89_0 rfl rfl rfl rfl)) ?_
    refine al_d rfl rfl rfl (by exact (by exact opd_load1_ref rfl Try.isAgg86 rfl rfl rfl rfl rfl)) ?_
    refine al_d rfl rfl rfl (by exact (by exact opd_peq_nil rfl Try.underlying86 rfl rfl)) ?_
    refine al_nil ?_
    refine awp_cond rfl (fun hc1 => ?_) (fun hc1 => ?_)
    -- cond 1
    · skip
      refine awp_region ?_
      refine al_d rfl rfl rfl (by exact opd_move rfl rfl) ?_
      refine al_d rfl rfl rfl (by exact opd_move rfl rfl) ?_
      refine al_d rfl rfl rfl (by exact opd_to_unsafe (n := 1) rfl Try.underlying86 Try.underlying131 (by kernel_rfl) rfl rfl rfl (by simp [bOb])) ?_
      refine al_d rfl rfl rfl (by exact opd_ext rfl rfl Try.func91 rfl rfl rfl rfl rfl (ext_same (.ref 2001 0 0 0))) ?_
      refine al_d rfl rfl rfl (by exact opd_from_unsafe (n := 1) rfl Try.underlying131 Try.underlying86 (by kernel_rfl) rfl rfl rfl (by simp [bOb]) rfl rfl) ?_
      refine al_d rfl rfl rfl (by exact (by exact opd_nilCheck_ref rfl rfl rfl rfl)) ?_
      refine al_d rfl rfl rfl (by exact (by exact opd_field_ref rfl fo89_0 rfl rfl rfl rfl)) ?_
      refine al_n rfl rfl (by exact (by exact x_store1 rfl Try.sizeOf86 rfl rfl rfl rfl rfl rfl (Nat.le_of_ble_eq_true rfl) rfl rfl)) ?_
      refine al_nil ?_
      -- end of the body
      exact aret0 (.inl rfl) rfl (Fin.get' (H' := (2001, bOb buf true) :: K) (fun j => get_dup 2001 (bOb buf true) (bOb buf false) K j)) ⟨rfl, rfl⟩
    · skip
      cases hc1
  | true =>
    refine ACalls.body Try.func71 rfl Try.ntmps71 (Nat.le_of_ble_eq_true rfl) ?_
    refine awp_seq ?_
    refine awp_region ?_
    refine al_d rfl rfl rfl (by exact opd_move rfl rfl) ?_
    refine al_d rfl rfl rfl (by exact (by exact opd_nilCheck_ref rfl rfl rfl rfl)) ?_
    refine al_d rfl rfl rfl (by exact (by exact opd_field_ref rfl fo89_0 rfl rfl rfl rfl)) ?_
    refine al_d rfl rfl rfl (by exact (by exact opd_load1_ref rfl Try.isAgg86 rfl rfl rfl rfl rfl)) ?_
    refine al_d rfl rfl rfl (by exact (by exact opd_peq_ref rfl Try.underlying86 rfl rfl rfl rfl)) ?_
    refine al_nil ?_
    refine awp_cond rfl (fun hc1 => ?_) (fun hc1 => ?_)
    -- cond 1
    · skip
      cases hc1
    · skip
      refine awp_seq ?_
      refine awp_region ?_
      refine al_d rfl rfl rfl (by exact opd_move rfl rfl) ?_
      refine al_d rfl rfl rfl (by exact (by exact opd_nilCheck_ref rfl rfl rfl rfl)) ?_
      refine al_d rfl rfl rfl (by exact (by exact opd_field_ref rfl fo89_0 rfl rfl rfl rfl)) ?_
      refine al_d rfl rfl rfl (by exact (by exact opd_load1_ref rfl Try.isAgg86 rfl rfl rfl rfl rfl)) ?_
      refine al_d rfl rfl rfl (by exact opd_move rfl rfl) ?_
      refine al_d rfl rfl rfl (by exact opd_pne_same (n := 1) rfl Try.underlying86 (by kernel_rfl) rfl rfl rfl rfl) ?_
      refine al_nil ?_
      refine awp_cond rfl (fun hc2 => ?_) (fun hc2 => ?_)
      -- cond 2
      · skip
        cases hc2
      · skip
        refine awp_skip ?_
        -- end of the body
        exact aret0 (.inl rfl) rfl Fin.refl ⟨rfl, rfl⟩
/-- Heaps with two objects, of which both were written anew. -/
theorem get_two {i j : Nat} {a b a' b' : Ob} {K : Heap} (h : i ≠ j) (k : Nat) : Heap.get ((i, a) :: (j, b) :: K) k = Heap.get ((i, a) :: (j, b) :: (i, a') :: (j, b') :: K) k := by
  simp only [Heap.get]
  cases e1 : Nat.beq i k with
  | true => rfl
  | false => cases e2 : Nat.beq j k <;> simp
theorem zero_u8 : ∀ i, Try.prog.info? 5 = some i → i.zero = some (.int .u8 0) := fun i hi => by
  have h : (Try.prog.info? 5).map (·.zero) = some (some (.int .u8 0)) := by kernel_rfl
  rw [hi] at h
  exact Option.some.inj h
theorem bld_app (g : Nat) (l m : List UInt8) {n : Nat} (h : m.length = n) : bld (g + 1) (l ++ m) true = [(2001, bOb (.osl 2002 (g + 1) 0 (l.length + n)) true), (2002, ⟨g + 1, 1, 5, brows (l ++ m)⟩)] := by
  subst h
  simp [bld]
theorem writeByte_c (g : Nat) (l : List UInt8) (u : Bool) (c : UInt8) (hl : l.length < 70368744177664) : ACalls Try.prog 56 [.ref 2001 0 0 0, .pv (.int .u8 c.toNat)] (bld g l u) (fun r H' => r = .pv nilI ∧ H' = bld (g + 1) (l ++ [c]) true) := by
  refine ACalls.body Try.func56 rfl Try.ntmps56 (Nat.le_of_ble_eq_true rfl) ?_
  refine awp_seq ?_
  refine awp_region ?_
  refine al_d rfl rfl rfl (by exact opd_assign rfl rfl) ?_
  refine al_nil ?_
  refine awp_seq ?_
  refine awp_region ?_
  refine al_d rfl rfl rfl (by exact opd_move rfl rfl) ?_
  refine al_d rfl rfl rfl (by exact opr_call rfl rfl Try.call71 rfl (copyCheck_c _ u _)) ?_
  refine al_nil ?_
  refine awp_seq ?_
  refine awp_region ?_
  refine al_d rfl rfl rfl (by exact opd_move rfl rfl) ?_
  refine al_d rfl rfl rfl (by exact opd_move rfl rfl) ?_
  refine al_d rfl rfl rfl (by exact (by exact opd_nilCheck_ref rfl rfl rfl rfl)) ?_
  refine al_d rfl rfl rfl (by exact (by exact opd_field_ref rfl fo89_1 rfl rfl rfl rfl)) ?_
  refine al_d rfl rfl rfl (by exact (by exact opd_load1_ref rfl Try.isAgg87 rfl rfl rfl rfl rfl)) ?_
  refine al_d rfl rfl rfl (by exact opd_move rfl rfl) ?_
  refine al_d rfl rfl rfl (by exact (by exact x_buildSlice [[.int .u8 c.toNat]] rfl so87 rfl rfl rfl rfl rfl (by intro r hr; rw [List.mem_singleton] at hr; subst hr; rfl))) ?_
  refine al_d rfl rfl rfl (by exact x_append (ps := [[.int .u8 c.toNat]]) rfl so87 ei5 rfl rfl rfl rfl rfl (brows_len l) rfl (by intro r hr; rw [List.mem_singleton] at hr; subst hr; rfl) (m := 1) rfl (by omega) rfl (brows_app l [c])) ?_
  refine al_d rfl rfl rfl (by exact (by exact opd_nilCheck_ref rfl rfl rfl rfl)) ?_
  refine al_d rfl rfl rfl (by exact (by exact opd_field_ref rfl fo89_1 rfl rfl rfl rfl)) ?_
  refine al_n rfl rfl (by exact (by exact x_store1 rfl Try.sizeOf87 rfl rfl rfl rfl rfl rfl (Nat.le_of_ble_eq_true rfl) rfl rfl)) ?_
  refine al_nil ?_
  refine awp_seq ?_
  refine awp_region ?_
  refine al_d rfl rfl rfl (by exact opd_assign rfl rfl) ?_
  refine al_nil ?_
  refine awp_ret ?_
  -- return
  rw [bld_app g l [c] (n := 1) rfl]
  refine aret1 (H' := [(2001, bOb (.osl 2002 (g + 1) 0 (l.length + 1)) true), (2002, ⟨g + 1, 1, 5, brows (l ++ [c])⟩)]) (by exact .inr rfl) rfl (rval_tmp rfl) (Fin.get' (fun j => get_two (by decide) j)) ?_
  exact ⟨rfl, rfl⟩
theorem writeString_c (g : Nat) (l : List UInt8) (u : Bool) (s : ByteArray) (hl : l.length + s.size < 70368744177664) : ACalls Try.prog 57 [.ref 2001 0 0 0, sv s] (bld g l u) (fun r H' => r = .tup [iv (s.size : Int), .pv nilI] ∧ H' = bld (g + 1) (l ++ s.data.toList) true) := by
  refine ACalls.body Try.func57 rfl Try.ntmps57 (Nat.le_of_ble_eq_true rfl) ?_
  refine awp_seq ?_
  refine awp_region ?_
  refine al_d rfl rfl rfl (by exact opd_assign rfl rfl) ?_
  refine al_d rfl rfl rfl (by exact opd_assign rfl rfl) ?_
  refine al_nil ?_
  refine awp_seq ?_
  refine awp_region ?_
  refine al_d rfl rfl rfl (by exact opd_move rfl rfl) ?_
  refine al_d rfl rfl rfl (by exact opr_call rfl rfl Try.call71 rfl (copyCheck_c _ u _)) ?_
  refine al_nil ?_
  refine awp_seq ?_
  refine awp_region ?_
  refine al_d rfl rfl rfl (by exact opd_move rfl rfl) ?_
  refine al_d rfl rfl rfl (by exact opd_move rfl rfl) ?_
  refine al_d rfl rfl rfl (by exact (by exact opd_nilCheck_ref rfl rfl rfl rfl)) ?_
  refine al_d rfl rfl rfl (by exact (by exact opd_field_ref rfl fo89_1 rfl rfl rfl rfl)) ?_
  refine al_d rfl rfl rfl (by exact (by exact opd_load1_ref rfl Try.isAgg87 rfl rfl rfl rfl rfl)) ?_
  refine al_d rfl rfl rfl (by exact opd_move rfl rfl) ?_
  refine al_d rfl rfl rfl (by exact x_append_str rfl so87 Try.underlying9 ei5 zero_u8 rfl rfl rfl rfl rfl (brows_len l) rfl (by omega) rfl (brows_app l s.data.toList)) ?_
  refine al_d rfl rfl rfl (by exact (by exact opd_nilCheck_ref rfl rfl rfl rfl)) ?_
  refine al_d rfl rfl rfl (by exact (by exact opd_field_ref rfl fo89_1 rfl rfl rfl rfl)) ?_
  refine al_n rfl rfl (by exact (by exact x_store1 rfl Try.sizeOf87 rfl rfl rfl rfl rfl rfl (Nat.le_of_ble_eq_true rfl) rfl rfl)) ?_
  refine al_nil ?_
  refine awp_seq ?_
  refine awp_region ?_
  refine al_d rfl rfl rfl (by exact opd_move rfl rfl) ?_
  refine al_d rfl rfl rfl (by exact opd_len_str rfl Try.underlying9 rfl) ?_
  refine al_d rfl rfl rfl (by exact opd_assign rfl rfl) ?_
  refine al_d rfl rfl rfl (by exact opd_assign rfl rfl) ?_
  refine al_nil ?_
  refine awp_ret ?_
  -- return
  rw [bld_app g l s.data.toList (n := s.size) rfl]
  refine aret2 (H' := [(2001, bOb (.osl 2002 (g + 1) 0 (l.length + s.size)) true), (2002, ⟨g + 1, 1, 5, brows (l ++ s.data.toList)⟩)]) (by exact .inr rfl) rfl (rval_tmp rfl) (rval_tmp rfl) (Fin.get' (fun j => get_two (by decide) j)) ?_
  exact ⟨rfl, rfl⟩
def bEnd (g : Nat) (l : List UInt8) (u : Bool) : Heap := [(2002, ⟨g + 1, 1, 5, []⟩), (2001, bOb (.osl 2002 g 0 l.length) u)]
theorem get_mid {i j : Nat} {a b a' : Ob} {K : Heap} (h : i ≠ j) (k : Nat) : Heap.get ((i, a) :: (j, b) :: K) k = Heap.get ((i, a) :: (j, b) :: (i, a') :: K) k := by
  simp only [Heap.get]
  cases e1 : Nat.beq i k with
  | true => rfl
  | false => cases e2 : Nat.beq j k <;> simp
/-- The text of a builder; its bytes are given up. -/
theorem str_c (g : Nat) (l : List UInt8) (u : Bool) (hl : l.length < 70368744177664) : ACalls Try.prog 58 [.ref 2001 0 0 0] (bld g l u) (fun r H' => r = sv ⟨l.toArray⟩ ∧ H' = bEnd g l u) := by
  by_cases h0 : l = []
  · subst h0
    refine ACalls.body Try.func58 rfl Try.ntmps58 (Nat.le_of_ble_eq_true rfl) ?_
    refine awp_seq ?_
    refine awp_region ?_
    refine al_d rfl rfl rfl (by exact opd_assign rfl rfl) ?_
    refine al_nil ?_
    refine awp_seq ?_
    refine awp_drawc follows ?_
    refine dc_cons (DStep.q rfl (by exact opd_move rfl rfl)) rfl ?_
    refine dc_cons (DStep.q rfl (by exact (by exact opd_nilCheck_ref rfl rfl rfl rfl))) rfl ?_
    refine dc_cons (DStep.q rfl (by exact (by exact opd_field_ref rfl fo89_1 rfl rfl rfl rfl))) rfl ?_
    refine dc_cons (DStep.q rfl (by exact (by exact opd_load1_ref rfl Try.isAgg87 rfl rfl rfl rfl rfl))) rfl ?_
    refine dc_cons (DStep.q rfl (by exact opd_sliceData0 rfl Try.underlying110 rfl rfl rfl)) rfl ?_
    refine dc_cons (DStep.q rfl (by exact opd_move rfl rfl)) rfl ?_
    refine dc_cons (DStep.q rfl (by exact (by exact opd_nilCheck_ref rfl rfl rfl rfl))) rfl ?_
    refine dc_cons (DStep.q rfl (by exact (by exact opd_field_ref rfl fo89_1 rfl rfl rfl rfl))) rfl ?_
    refine dc_cons (DStep.q rfl (by exact (by exact opd_load1_ref rfl Try.isAgg87 rfl rfl rfl rfl rfl))) rfl ?_
    refine dc_cons (DStep.q rfl (by exact (by exact opd_len_osl rfl Try.underlying87 rfl rfl rfl))) rfl ?_
    refine dc_cons (DStep.q rfl (by exact opd_unsafeString0 rfl rfl rfl)) rfl ?_
    refine dc_cons (DStep.q rfl (by exact opd_assign rfl rfl)) rfl ?_
    refine dc_nil ⟨by kernel_rfl, ?_⟩
    refine awp_ret ?_
    -- return
    refine aret1 (H' := (bEnd g [] u)) (by exact .inr rfl) rfl (rval_tmp rfl) (Fin.trans (Fin.deadO (id := 2002) (k := g + 1) (ob := ⟨g, 1, 5, brows []⟩) rfl (Nat.lt_succ_self g) Nat.zero_lt_one rfl rfl) (Fin.get' (fun j => get_mid (by decide) j))) ?_
    exact ⟨rfl, rfl⟩
  · have hpos : 0 < l.length := List.length_pos_iff.2 h0
    refine ACalls.body Try.func58 rfl Try.ntmps58 (Nat.le_of_ble_eq_true rfl) ?_
    refine awp_seq ?_
    refine awp_region ?_
    refine al_d rfl rfl rfl (by exact opd_assign rfl rfl) ?_
    refine al_nil ?_
    refine awp_seq ?_
    refine awp_drawc follows ?_
    refine dc_cons (r := ⟨_, some [2001], []⟩) (DStep.plain rfl (fun H1 hH => by exact opd_move rfl rfl)) rfl ?_
    refine dc_cons (r := ⟨_, some [2001], []⟩) (DStep.plain rfl (fun H1 hH => by exact (by exact opd_nilCheck_ref rfl rfl ((hH _ rfl).trans rfl) rfl))) rfl ?_
    refine dc_cons (r := ⟨_, some [2001], []⟩) (DStep.plain rfl (fun H1 hH => by exact (by exact opd_field_ref rfl fo89_1 rfl ((hH _ rfl).trans rfl) rfl rfl))) rfl ?_
    refine dc_cons (r := ⟨_, some [2001], []⟩) (DStep.plain rfl (fun H1 hH => by exact (by exact opd_load1_ref rfl Try.isAgg87 rfl ((hH _ rfl).trans rfl) rfl rfl rfl))) rfl ?_
    refine dc_cons (r := ⟨_, some [2002], []⟩) (DStep.plain rfl (fun H1 hH => by exact opd_sliceData rfl rfl ((hH _ rfl).trans rfl) rfl hpos)) rfl ?_
    refine dc_cons (r := ⟨_, some [2001], []⟩) (DStep.plain rfl (fun H1 hH => by exact opd_move rfl rfl)) rfl ?_
    refine dc_cons (r := ⟨_, some [2001], []⟩) (DStep.plain rfl (fun H1 hH => by exact (by exact opd_nilCheck_ref rfl rfl ((hH _ rfl).trans rfl) rfl))) rfl ?_
    refine dc_cons (r := ⟨_, some [2001], []⟩) (DStep.plain rfl (fun H1 hH => by exact (by exact opd_field_ref rfl fo89_1 rfl ((hH _ rfl).trans rfl) rfl rfl))) rfl ?_
    refine dc_cons (r := ⟨_, some [2001], []⟩) (DStep.plain rfl (fun H1 hH => by exact (by exact opd_load1_ref rfl Try.isAgg87 rfl ((hH _ rfl).trans rfl) rfl rfl rfl))) rfl ?_
    refine dc_cons (r := ⟨_, some [2002], []⟩) (DStep.plain rfl (fun H1 hH => by exact (by exact opd_len_osl rfl Try.underlying87 rfl ((hH _ rfl).trans rfl) rfl))) rfl ?_
    refine dc_cons (r := ⟨_, some [2001, 2002], [_]⟩) (DStep.plain rfl (fun H1 hH => by exact opd_unsafeString (l := l) rfl Try.underlying110 (by kernel_rfl) rfl rfl ((hH _ rfl).trans rfl) rfl rfl rfl rfl rfl hpos (by omega) rfl)) rfl ?_
    refine dc_cons (r := ⟨_, some [], []⟩) (DStep.plain rfl (fun H1 hH => by exact opd_assign rfl rfl)) rfl ?_
    refine dc_nil ⟨by kernel_rfl, ?_⟩
    refine awp_ret ?_
    -- return
    refine aret1 (H' := (bEnd g l u)) (by exact .inr rfl) rfl (rval_tmp rfl) (Fin.get' (fun j => get_mid (by decide) j)) ?_
    exact ⟨rfl, rfl⟩
/-- A fresh builder. -/
def bFresh : Heap := [(2001, bOb (.pv .nils) false)]
theorem grow_c (m n : Nat) (hn : m = n) (hl : n < 70368744177664) : ACalls Try.prog 72 [.ref 2001 0 0 0, iv (n : Int)] [(2001, bOb (.pv .nils) true)] (fun r H' => r = .tup [] ∧ H' = bld 1 [] true) := by
  refine ACalls.body Try.func72 rfl Try.ntmps72 (Nat.le_of_ble_eq_true rfl) ?_
  refine awp_seq ?_
  refine awp_drawc follows ?_
  refine dc_cons (r := ⟨_, some [2001], []⟩) (DStep.plain rfl (fun H1 hH => by exact opd_move rfl rfl)) rfl ?_
  refine dc_cons (r := ⟨_, some [2001], []⟩) (DStep.plain rfl (fun H1 hH => by exact (by exact opd_nilCheck_ref rfl rfl ((hH _ rfl).trans rfl) rfl))) rfl ?_
  refine dc_cons (r := ⟨_, some [2001], []⟩) (DStep.plain rfl (fun H1 hH => by exact (by exact opd_field_ref rfl fo89_1 rfl ((hH _ rfl).trans rfl) rfl rfl))) rfl ?_
  refine dc_cons (r := ⟨_, some [2001], []⟩) (DStep.plain rfl (fun H1 hH => by exact (by exact opd_load1_ref rfl Try.isAgg87 rfl ((hH _ rfl).trans rfl) rfl rfl rfl))) rfl ?_
  refine dc_cons (r := ⟨_, some [], []⟩) (DStep.plain rfl (fun H1 hH => by exact opd_cap_nils rfl Try.underlying87 rfl)) rfl ?_
  refine dc_cons (r := ⟨_, some [], []⟩) (DStep.plain rfl (fun H1 hH => by exact opd_mul rfl rfl rfl (by exact w64 (by omega) (by omega)))) rfl ?_
  refine dc_cons (r := ⟨_, some [], []⟩) (DStep.plain rfl (fun H1 hH => by exact opd_move rfl rfl)) rfl ?_
  refine dc_cons (r := ⟨_, some [], []⟩) (DStep.plain rfl (fun H1 hH => by exact opd_add rfl rfl rfl (show IntKind.i64.wrap (0 + (n : Int)) = (n : Int) by rw [IntKind.wrap_i64]; omega))) rfl ?_
  refine dc_cons (r := ⟨_, some [2002], [_]⟩) (DStep.plain rfl (fun H1 hH => by exact opd_noZero (id := 2002) (n := n) rfl rfl Try.func92 (by decide) rfl rfl rfl Try.underlying87 rfl rfl (by omega) ((hH _ rfl).trans rfl))) rfl ?_
  refine dc_cons (r := ⟨_, some [2001], []⟩) (DStep.plain rfl (fun H1 hH => by exact opd_move rfl rfl)) rfl ?_
  refine dc_cons (r := ⟨_, some [2001], []⟩) (DStep.plain rfl (fun H1 hH => by exact (by exact opd_nilCheck_ref rfl rfl ((hH _ rfl).trans rfl) rfl))) rfl ?_
  refine dc_cons (r := ⟨_, some [2001], []⟩) (DStep.plain rfl (fun H1 hH => by exact (by exact opd_field_ref rfl fo89_1 rfl ((hH _ rfl).trans rfl) rfl rfl))) rfl ?_
  refine dc_cons (r := ⟨_, some [2001], []⟩) (DStep.plain rfl (fun H1 hH => by exact (by exact opd_load1_ref rfl Try.isAgg87 rfl ((hH _ rfl).trans rfl) rfl rfl rfl))) rfl ?_
  refine dc_cons (r := ⟨_, some [], []⟩) (DStep.plain rfl (fun H1 hH => by exact opd_len_nils rfl Try.underlying87 rfl)) rfl ?_
  refine dc_cons (r := ⟨_, some [2002], [_]⟩) (DStep.plain rfl (fun H1 hH => by exact x_slice_cut (h := 0) (k := 1) (rows' := []) rfl so87 rfl ((hH _ rfl).trans rfl) rfl rfl rfl rfl (Nat.zero_le _) rfl rfl)) rfl ?_
  refine dc_cons (r := ⟨_, some [], []⟩) (DStep.plain rfl (fun H1 hH => by exact opd_assign rfl rfl)) rfl ?_
  refine dc_nil ⟨by kernel_rfl, ?_⟩
  refine awp_seq ?_
  refine awp_region ?_
  refine al_d rfl rfl rfl (by exact opd_move rfl rfl) ?_
  refine al_d rfl rfl rfl (by exact opd_move rfl rfl) ?_
  refine al_d rfl rfl rfl (by exact (by exact opd_nilCheck_ref rfl rfl rfl rfl)) ?_
  refine al_d rfl rfl rfl (by exact (by exact opd_field_ref rfl fo89_1 rfl rfl rfl rfl)) ?_
  refine al_d rfl rfl rfl (by exact (by exact opd_load1_ref rfl Try.isAgg87 rfl rfl rfl rfl rfl)) ?_
  refine al_d rfl rfl rfl (by exact x_copy (rows' := []) rfl so87 (dst_of_osl rfl rfl rfl) rfl rfl rfl (Nat.zero_le _) (src_of_nils rfl) (by simp) rfl rfl rfl) ?_
  refine al_nil ?_
  refine awp_region ?_
  refine al_d rfl rfl rfl (by exact opd_move rfl rfl) ?_
  refine al_d rfl rfl rfl (by exact opd_move rfl rfl) ?_
  refine al_d rfl rfl rfl (by exact (by exact opd_nilCheck_ref rfl rfl rfl rfl)) ?_
  refine al_d rfl rfl rfl (by exact (by exact opd_field_ref rfl fo89_1 rfl rfl rfl rfl)) ?_
  refine al_n rfl rfl (by exact (by exact x_store1 rfl Try.sizeOf87 rfl rfl rfl rfl rfl rfl (Nat.le_of_ble_eq_true rfl) rfl rfl)) ?_
  refine al_nil ?_
  -- end of the body
  exact aret0 (H' := bld 1 [] true) (.inl rfl) rfl (Fin.wk (by (simp; done)) ⟨⟨_, rfl, rfl⟩, (by exact bOb_clo rfl rfl), ⟨_, rfl, rfl⟩, (by exact brows_clo _ _), trivial⟩ ⟨rfl, trivial⟩) ⟨rfl, rfl⟩
theorem growF_c (n : Nat) (h0 : 0 < n) (hl : n < 70368744177664) : ACalls Try.prog 59 [.ref 2001 0 0 0, iv (n : Int)] bFresh (fun r H' => r = .tup [] ∧ H' = bld 1 [] true) := by
  refine ACalls.body Try.func59 rfl Try.ntmps59 (Nat.le_of_ble_eq_true rfl) ?_
  refine awp_seq ?_
  refine awp_region ?_
  refine al_d rfl rfl rfl (by exact opd_move rfl rfl) ?_
  refine al_d rfl rfl rfl (by exact opr_call rfl rfl Try.call71 rfl (copyCheck_c _ false _)) ?_
  refine al_nil ?_
  refine awp_seq ?_
  refine awp_seq ?_
  refine awp_region ?_
  refine al_d rfl rfl rfl (by exact opd_move rfl rfl) ?_
  refine al_d rfl rfl rfl (by exact opd_lss rfl rfl rfl) ?_
  refine al_nil ?_
  refine awp_cond rfl (fun hc1 => ?_) (fun hc1 => ?_)
  -- cond 1
  · skip
    exact absurd (of_decide_eq_true hc1) (by omega)
  · skip
    refine awp_skip ?_
    refine awp_seq ?_
    refine awp_drawc follows ?_
    refine dc_cons (DStep.q rfl (by exact opd_move rfl rfl)) rfl ?_
    refine dc_cons (DStep.q rfl (by exact (by exact opd_nilCheck_ref rfl rfl rfl rfl))) rfl ?_
    refine dc_cons (DStep.q rfl (by exact (by exact opd_field_ref rfl fo89_1 rfl rfl rfl rfl))) rfl ?_
    refine dc_cons (DStep.q rfl (by exact (by exact opd_load1_ref rfl Try.isAgg87 rfl rfl rfl rfl rfl))) rfl ?_
    refine dc_cons (DStep.q rfl (by exact opd_cap_nils rfl Try.underlying87 rfl)) rfl ?_
    refine dc_cons (DStep.q rfl (by exact opd_move rfl rfl)) rfl ?_
    refine dc_cons (DStep.q rfl (by exact (by exact opd_nilCheck_ref rfl rfl rfl rfl))) rfl ?_
    refine dc_cons (DStep.q rfl (by exact (by exact opd_field_ref rfl fo89_1 rfl rfl rfl rfl))) rfl ?_
    refine dc_cons (DStep.q rfl (by exact (by exact opd_load1_ref rfl Try.isAgg87 rfl rfl rfl rfl rfl))) rfl ?_
    refine dc_cons (DStep.q rfl (by exact opd_len_nils rfl Try.underlying87 rfl)) rfl ?_
    refine dc_cons (DStep.q rfl (by exact opd_sub rfl rfl rfl (by exact w64 (by omega) (by omega)))) rfl ?_
    refine dc_cons (DStep.q rfl (by exact opd_move rfl rfl)) rfl ?_
    refine dc_cons (DStep.q rfl (by exact opd_lss rfl rfl rfl)) rfl ?_
    refine dc_nil ⟨by kernel_rfl, ?_⟩
    refine awp_cond rfl (fun hc2 => ?_) (fun hc2 => ?_)
    -- cond 2
    · skip
      refine awp_region ?_
      refine al_d rfl rfl rfl (by exact opd_move rfl rfl) ?_
      refine al_d rfl rfl rfl (by exact opd_move rfl rfl) ?_
      refine al_d rfl rfl rfl (by exact opr_call rfl rfl Try.call72 rfl (grow_c n n rfl hl)) ?_
      refine al_nil ?_
      -- end of the body
      exact aret0 (H' := bld 1 [] true) (.inl rfl) rfl (Fin.wk (by (simp; done)) ⟨⟨_, rfl, rfl⟩, (by exact bOb_clo rfl rfl), ⟨_, rfl, rfl⟩, (by exact brows_clo _ _), trivial⟩ ⟨rfl, trivial⟩) ⟨rfl, rfl⟩
    · skip
      exact absurd (of_decide_eq_false hc2) (by omega)
end Go.Proofs.Ytedfihgkopejcaa
end
section
set_option linter.unusedVariables false
set_option linter.unusedSimpArgs false
set_option maxRecDepth 100000
namespace Go.Proofs.Ytedfihgkopejcaa
open Go.Abs

def bAt (s : ByteArray) (k : Nat) : UInt8 := (s.data.toList[k]?).getD 0
theorem byteAt_b (s : ByteArray) (k : Nat) : byteAt s k = ((bAt s k).toNat : Int) := rfl
def gEsc (b : UInt8) : List UInt8 := if b = 10 then [92, 110] else if b = 34 ∨ b = 92 then [92, b] else [b]
def gQuote (l : List UInt8) : List UInt8 := 34 :: (l.flatMap gEsc ++ [34])
theorem esc_len (b : UInt8) : (gEsc b).length ≤ 2 := by
  unfold gEsc
  split
  · exact Nat.le_refl _
  · split
    · exact Nat.le_refl _
    · exact Nat.le_succ _
theorem escs_len (l : List UInt8) : (l.flatMap gEsc).length ≤ 2 * l.length := by
  induction l with
  | nil => exact Nat.zero_le _
  | cons b l ih =>
    rw [List.flatMap_cons, List.length_append, List.length_cons]
    have := esc_len b
    omega
theorem take_bAt {s : ByteArray} {k : Nat} (h : k < s.size) : s.data.toList.take (k + 1) = s.data.toList.take k ++ [bAt s k] := by
  have hk : k < s.data.toList.length := by simpa using h
  rw [List.take_add_one, List.getElem?_eq_getElem hk, bAt, List.getElem?_eq_getElem hk]
  rfl
theorem u8_eq {b : UInt8} {n : Nat} (hn : n < 256) : decide ((b.toNat : Int) = (n : Int)) = decide (b = UInt8.ofNat n) := by
  rw [Bool.eq_iff_iff, decide_eq_true_eq, decide_eq_true_eq]
  constructor
  · intro h
    have : b.toNat = n := by omega
    apply UInt8.toNat.inj
    rw [this, UInt8.toNat_ofNat']
    omega
  · intro h
    rw [h, UInt8.toNat_ofNat']
    omega
/-- A fresh builder, its bytes an object of its own. -/
theorem Ent.bld0 {E E' : Env} (hE : NzE E [(2002, ⟨0, 1, 5, []⟩), (2001, bOb (.osl 2002 0 0 0) false)] 2002 E') : Ent [] E bFresh E' (bld 0 [] false) := by
  refine (Ent.nz (G0 := []) (H := bFresh) (H' := [(2001, bOb (.osl 2002 0 0 0) false)]) 2002 1 5 rfl rfl hE ⟨⟨bOb (.pv .nils) false, rfl, rfl, rfl, rfl, .inr ⟨_, _, rfl, rfl, ⟨.same (by simp [bAddr]), ⟨.own, trivial⟩⟩⟩⟩, trivial⟩ trivial).trans ?_
  exact Ent.get (fun _ => rfl) (fun j => get_swap (by decide) j)
def qPre (s : ByteArray) (k : Nat) : List UInt8 := 34 :: (s.data.toList.take k).flatMap gEsc
theorem qPre_len {s : ByteArray} {k : Nat} (hs : s.size < 17592186044416) : (qPre s k).length < 70368744170000 := by
  have := escs_len (s.data.toList.take k)
  rw [List.length_take] at this
  have h2 : s.data.toList.length = s.size := by simp
  rw [qPre, List.length_cons]
  omega
theorem qPre_next {s : ByteArray} {k : Nat} (h : k < s.size) : qPre s (k + 1) = qPre s k ++ gEsc (bAt s k) := by
  rw [qPre, qPre, take_bAt h, List.flatMap_append]
  simp
theorem quote_c (s : ByteArray) (H : Heap) (hs : s.size < 17592186044416) : ACalls Try.prog 40 [sv s] H (fun r H' => r = sv ⟨(gQuote s.data.toList).toArray⟩ ∧ H' = H) := by
  refine ACalls.pure ?_ (by simp) H
  have hsl : s.data.toList.length = s.size := by simp
  refine ACalls.body Try.func40 rfl Try.ntmps40 (Nat.le_of_ble_eq_true rfl) ?_
  refine awp_seq ?_
  refine awp_region ?_
  refine al_d rfl rfl rfl (by exact opd_assign rfl rfl) ?_
  refine al_nil ?_
  refine awp_seq ?_
  refine awp_region ?_
  refine al_d rfl rfl rfl (by exact x_alloc (id := 2001) rfl zoN89 rfl rfl) ?_
  refine al_nil ?_
  refine awp_seq ?_
  -- before the slot
  refine AWp.ent (E' := [(0, sv s), (3, .ref 2001 0 0 0)]) (H' := bld 0 [] false) (Ent.bld0 ⟨⟨_, rfl, .same (by simp)⟩, ⟨_, rfl, .same (by simp; rfl)⟩, trivial⟩) ?_
  · skip
    refine awp_region ?_
    refine al_d rfl rfl rfl (by exact opr_call rfl rfl Try.call56 rfl (writeByte_c 0 [] false 34 (by decide))) ?_
    refine al_nil ?_
    refine awp_seq ?_
    refine awp_seq ?_
    refine awp_region ?_
    refine al_d rfl rfl rfl (by exact opd_move rfl rfl) ?_
    refine al_d rfl rfl rfl (by exact opd_len_str rfl Try.underlying9 rfl) ?_
    refine al_d rfl rfl rfl (by exact opd_move rfl rfl) ?_
    refine al_nil ?_
    refine awp_block ?_
    -- loop
    refine awp_loop2 (fun (k g : Nat) => ([(0, sv s), (3, .ref 2001 0 0 0), (8, iv (s.size : Int)), (9, iv (k : Int))], bld g (qPre s k) true)) (fun k g => k ≤ s.size) (fun k g => s.size - k) 0 1 (Nat.zero_le _) ?_ ?_
    · exact (Ent.wk ⟨⟨_, rfl, rfl⟩, (by (simp; done)), ⟨_, rfl, rfl⟩, (by (simp; rfl)), ⟨_, rfl, rfl⟩, (by (simp; done)), ⟨_, rfl, rfl⟩, (by (simp; done)), trivial⟩ ⟨⟨_, rfl, rfl⟩, (by exact bOb_clo rfl rfl), ⟨_, rfl, rfl⟩, (by exact brows_clo _ _), trivial⟩ trivial)
    · intro k g hk
      have hL := qPre_len (k := k) hs
      refine awp_seq ?_
      refine awp_region ?_
      refine al_d rfl rfl rfl (by exact opd_lss rfl rfl rfl) ?_
      refine al_nil ?_
      refine awp_seq ?_
      refine awp_cond rfl (fun hc1 => ?_) (fun hc1 => ?_)
      -- cond 1
      · have hlt : k < s.size := by have := of_decide_eq_true hc1; omega
        have hnext := qPre_next hlt
        refine awp_skip ?_
        refine awp_seq ?_
        refine awp_block ?_
        refine awp_seq ?_
        refine awp_region ?_
        refine al_d rfl rfl rfl (by exact opd_move rfl rfl) ?_
        refine al_d rfl rfl rfl (by exact opd_assign rfl rfl) ?_
        refine al_nil ?_
        refine awp_seq ?_
        refine awp_region ?_
        refine al_d rfl rfl rfl (by exact opd_move rfl rfl) ?_
        refine al_d rfl rfl rfl (by exact opd_move rfl rfl) ?_
        refine al_d rfl rfl rfl (by exact opd_index_str rfl Try.underlying9 rfl rfl (by omega) (by exact Int.toNat_natCast _) (by omega) rfl) ?_
        refine al_d rfl rfl rfl (by exact opd_assign rfl rfl) ?_
        refine al_nil ?_
        refine awp_seq ?_
        refine awp_region ?_
        refine al_d rfl rfl rfl (by exact opd_move rfl rfl) ?_
        refine al_nil ?_
        refine awp_block ?_
        refine awp_seq ?_
        refine awp_region ?_
        refine al_d rfl rfl rfl (by exact opd_eql rfl rfl rfl) ?_
        refine al_d rfl rfl rfl (by exact opd_assign rfl rfl) ?_
        refine al_nil ?_
        refine awp_cond rfl (fun hc2 => ?_) (fun hc2 => ?_)
        -- cond 2
        · have hb : bAt s k = 10 := by
            have h := hc2
            rw [byteAt_b, show (10 : Int) = ((10 : Nat) : Int) by rfl, u8_eq (by decide)] at h
            exact of_decide_eq_true h
          have hE : bld (g + 1) (qPre s (k + 1)) true = bld (g + 1) (qPre s k ++ (⟨#[92, 110]⟩ : ByteArray).data.toList) true := by rw [hnext, hb]; rfl
          refine awp_region ?_
          refine al_d rfl rfl rfl (by exact opr_call rfl rfl Try.call57 rfl (writeString_c g (qPre s k) true ⟨#[92, 110]⟩ (by show _ + 2 < _; omega))) ?_
          refine al_nil ?_
          refine awp_region ?_
          refine al_d rfl rfl rfl (by exact opd_add rfl rfl rfl (by exact w64 (by omega) (by omega))) ?_
          refine al_d rfl rfl rfl (by exact opd_move rfl rfl) ?_
          refine al_nil ?_
          -- end of a round
          refine ⟨k + 1, g + 1, by omega, by omega, ?_⟩
          show Ent _ _ _ _ (bld (g + 1) (qPre s (k + 1)) true)
          rw [hE]
          exact (Ent.wk ⟨⟨_, rfl, rfl⟩, (by (simp; done)), ⟨_, rfl, rfl⟩, (by (simp; rfl)), ⟨_, rfl, rfl⟩, (by (simp; done)), ⟨_, rfl, rfl⟩, (by (simp; done)), trivial⟩ ⟨⟨_, rfl, rfl⟩, (by exact bOb_clo rfl rfl), ⟨_, rfl, rfl⟩, (by exact brows_clo _ _), trivial⟩ trivial)
        · have hb10 : ¬ bAt s k = 10 := by
            have h := hc2
            rw [byteAt_b, show (10 : Int) = ((10 : Nat) : Int) by rfl, u8_eq (by decide)] at h
            exact of_decide_eq_false h
          refine awp_seq ?_
          refine awp_seq ?_
          refine awp_region ?_
          refine al_d rfl rfl rfl (by exact opd_eql rfl rfl rfl) ?_
          refine al_d rfl rfl rfl (by exact opd_assign rfl rfl) ?_
          refine al_nil ?_
          refine awp_cond rfl (fun hc3 => ?_) (fun hc3 => ?_)
          -- cond 3
          · have hb : bAt s k = 34 := by
              have h := hc3
              rw [byteAt_b, show (34 : Int) = ((34 : Nat) : Int) by rfl, u8_eq (by decide)] at h
              exact of_decide_eq_true h
            have hE : bld (g + 1 + 1) (qPre s (k + 1)) true = bld (g + 1 + 1) (qPre s k ++ [92] ++ [bAt s k]) true := by rw [hnext, hb]; simp [gEsc]
            refine awp_skip ?_
            refine awp_cond rfl (fun hc4 => ?_) (fun hc4 => ?_)
            -- cond 4
            · skip
              refine awp_seq ?_
              refine awp_region ?_
              refine al_d rfl rfl rfl (by exact opr_call rfl rfl Try.call56 rfl (writeByte_c g (qPre s k) true 92 (by omega))) ?_
              refine al_nil ?_
              refine awp_region ?_
              refine al_d rfl rfl rfl (by exact opd_move rfl rfl) ?_
              refine al_d rfl rfl rfl (by exact opr_call rfl rfl Try.call56 rfl (writeByte_c (g + 1) (qPre s k ++ [92]) true (bAt s k) (by rw [List.length_append, List.length_singleton]; omega))) ?_
              refine al_nil ?_
              refine awp_region ?_
              refine al_d rfl rfl rfl (by exact opd_add rfl rfl rfl (by exact w64 (by omega) (by omega))) ?_
              refine al_d rfl rfl rfl (by exact opd_move rfl rfl) ?_
              refine al_nil ?_
              -- end of a round
              refine ⟨k + 1, g + 1 + 1, by omega, by omega, ?_⟩
              show Ent _ _ _ _ (bld (g + 1 + 1) (qPre s (k + 1)) true)
              rw [hE]
              exact (Ent.wk ⟨⟨_, rfl, rfl⟩, (by (simp; done)), ⟨_, rfl, rfl⟩, (by (simp; rfl)), ⟨_, rfl, rfl⟩, (by (simp; done)), ⟨_, rfl, rfl⟩, (by (simp; done)), trivial⟩ ⟨⟨_, rfl, rfl⟩, (by exact bOb_clo rfl rfl), ⟨_, rfl, rfl⟩, (by exact brows_clo _ _), trivial⟩ trivial)
            · skip
              exact absurd (hc3.symm.trans hc4) (by decide)
          · have hb34 : ¬ bAt s k = 34 := by
              have h := hc3
              rw [byteAt_b, show (34 : Int) = ((34 : Nat) : Int) by rfl, u8_eq (by decide)] at h
              exact of_decide_eq_false h
            refine awp_region ?_
            refine al_d rfl rfl rfl (by exact opd_eql rfl rfl rfl) ?_
            refine al_d rfl rfl rfl (by exact opd_assign rfl rfl) ?_
            refine al_nil ?_
            refine awp_cond rfl (fun hc5 => ?_) (fun hc5 => ?_)
            -- cond 5
            · have hb : bAt s k = 92 := by
                have h := hc5
                rw [byteAt_b, show (92 : Int) = ((92 : Nat) : Int) by rfl, u8_eq (by decide)] at h
                exact of_decide_eq_true h
              have hE : bld (g + 1 + 1) (qPre s (k + 1)) true = bld (g + 1 + 1) (qPre s k ++ [92] ++ [bAt s k]) true := by rw [hnext, hb]; simp [gEsc]
              refine awp_seq ?_
              refine awp_region ?_
              refine al_d rfl rfl rfl (by exact opr_call rfl rfl Try.call56 rfl (writeByte_c g (qPre s k) true 92 (by omega))) ?_
              refine al_nil ?_
              refine awp_region ?_
              refine al_d rfl rfl rfl (by exact opd_move rfl rfl) ?_
              refine al_d rfl rfl rfl (by exact opr_call rfl rfl Try.call56 rfl (writeByte_c (g + 1) (qPre s k ++ [92]) true (bAt s k) (by rw [List.length_append, List.length_singleton]; omega))) ?_
              refine al_nil ?_
              refine awp_region ?_
              refine al_d rfl rfl rfl (by exact opd_add rfl rfl rfl (by exact w64 (by omega) (by omega))) ?_
              refine al_d rfl rfl rfl (by exact opd_move rfl rfl) ?_
              refine al_nil ?_
              -- end of a round
              refine ⟨k + 1, g + 1 + 1, by omega, by omega, ?_⟩
              show Ent _ _ _ _ (bld (g + 1 + 1) (qPre s (k + 1)) true)
              rw [hE]
              exact (Ent.wk ⟨⟨_, rfl, rfl⟩, (by (simp; done)), ⟨_, rfl, rfl⟩, (by (simp; rfl)), ⟨_, rfl, rfl⟩, (by (simp; done)), ⟨_, rfl, rfl⟩, (by (simp; done)), trivial⟩ ⟨⟨_, rfl, rfl⟩, (by exact bOb_clo rfl rfl), ⟨_, rfl, rfl⟩, (by exact brows_clo _ _), trivial⟩ trivial)
            · have hb92 : ¬ bAt s k = 92 := by
                have h := hc5
                rw [byteAt_b, show (92 : Int) = ((92 : Nat) : Int) by rfl, u8_eq (by decide)] at h
                exact of_decide_eq_false h
              have hE : bld (g + 1) (qPre s (k + 1)) true = bld (g + 1) (qPre s k ++ [bAt s k]) true := by rw [hnext, gEsc, if_neg hb10, if_neg (fun h => h.elim hb34 hb92)]
              refine awp_region ?_
              refine al_d rfl rfl rfl (by exact opd_move rfl rfl) ?_
              refine al_d rfl rfl rfl (by exact opr_call rfl rfl Try.call56 rfl (writeByte_c g (qPre s k) true (bAt s k) (by omega))) ?_
              refine al_nil ?_
              refine awp_region ?_
              refine al_d rfl rfl rfl (by exact opd_add rfl rfl rfl (by exact w64 (by omega) (by omega))) ?_
              refine al_d rfl rfl rfl (by exact opd_move rfl rfl) ?_
              refine al_nil ?_
              -- end of a round
              refine ⟨k + 1, g + 1, by omega, by omega, ?_⟩
              show Ent _ _ _ _ (bld (g + 1) (qPre s (k + 1)) true)
              rw [hE]
              exact (Ent.wk ⟨⟨_, rfl, rfl⟩, (by (simp; done)), ⟨_, rfl, rfl⟩, (by (simp; rfl)), ⟨_, rfl, rfl⟩, (by (simp; done)), ⟨_, rfl, rfl⟩, (by (simp; done)), trivial⟩ ⟨⟨_, rfl, rfl⟩, (by exact bOb_clo rfl rfl), ⟨_, rfl, rfl⟩, (by exact brows_clo _ _), trivial⟩ trivial)
      · have hge : k = s.size := by have := of_decide_eq_false hc1; omega
        refine awp_exit ?_
        refine awp_seq ?_
        refine awp_region ?_
        refine al_d rfl rfl rfl (by exact opr_call rfl rfl Try.call56 rfl (writeByte_c g (qPre s k) true 34 (by omega))) ?_
        refine al_nil ?_
        refine awp_seq ?_
        refine awp_region ?_
        refine al_d rfl rfl rfl (by exact opr_call rfl rfl Try.call58 rfl (str_c (g + 1) (qPre s k ++ [34]) true (by rw [List.length_append, List.length_singleton]; omega))) ?_
        refine al_d rfl rfl rfl (by exact opd_assign rfl rfl) ?_
        refine al_nil ?_
        refine awp_ret ?_
        -- return
        have hres : (⟨(qPre s k ++ [34]).toArray⟩ : ByteArray) = ⟨(gQuote s.data.toList).toArray⟩ := by
          rw [qPre, gQuote, hge, List.take_of_length_le (by omega)]
          rfl
        rw [← hres]
        refine aret1 (H' := []) (by exact .inr rfl) rfl (rval_tmp rfl) (Fin.wk (by simp) trivial trivial) ?_
        exact ⟨rfl, rfl⟩
/-- Texts joined. -/
def gJoin (sep : List UInt8) : List (List UInt8) → List UInt8
  | [] => []
  | x :: l => x ++ l.flatMap (fun y => sep ++ y)
def bs (l : List ByteArray) : List (List UInt8) := l.map fun s => s.data.toList
def sizes (l : List ByteArray) : Nat := (l.map ByteArray.size).sum
theorem sizes_take {l : List ByteArray} {k : Nat} {s : ByteArray} (h : l[k]? = some s) : sizes (l.take (k + 1)) = sizes (l.take k) + s.size := by
  rw [List.take_add_one, h, sizes, sizes, List.map_append, List.sum_append]
  simp
theorem sizes_le (l : List ByteArray) (k : Nat) : sizes (l.take k) ≤ sizes l := by
  have h : sizes l = sizes (l.take k) + sizes (l.drop k) := by
    rw [sizes, sizes, sizes, ← List.sum_append, ← List.map_append, List.take_append_drop]
  omega
theorem join_len (sep : List UInt8) : ∀ l : List ByteArray, ((bs l).flatMap (fun y => sep ++ y)).length = sep.length * l.length + sizes l
  | [] => by simp [bs, sizes]
  | s :: l => by
    have ih := join_len sep l
    show (((s.data.toList) :: bs l).flatMap (fun y => sep ++ y)).length = _
    rw [List.flatMap_cons, List.length_append, ih, List.length_append, List.length_cons, Nat.mul_add, sizes, sizes, List.map_cons, List.sum_cons]
    have h2 : s.data.toList.length = s.size := by simp
    omega
def jPre (sep x : ByteArray) (l : List ByteArray) (k : Nat) : List UInt8 := x.data.toList ++ (bs (l.take k)).flatMap (fun y => sep.data.toList ++ y)
theorem jPre_next {sep x s : ByteArray} {l : List ByteArray} {k : Nat} (h : l[k]? = some s) : jPre sep x l (k + 1) = jPre sep x l k ++ (sep.data.toList ++ s.data.toList) := by
  rw [jPre, jPre, List.take_add_one, h, bs, List.map_append, List.flatMap_append]
  simp [bs]
theorem sizes_ge {l : List ByteArray} {s : ByteArray} (h : s ∈ l) : s.size ≤ sizes l := by
  induction l with
  | nil => cases h
  | cons a l ih =>
    rw [sizes, List.map_cons, List.sum_cons]
    rcases List.mem_cons.1 h with rfl | h
    · exact Nat.le_add_right _ _
    · exact Nat.le_trans (ih h) (Nat.le_add_left _ _)
theorem jPre_len {sep x : ByteArray} {l : List ByteArray} {k : Nat} (hk : k ≤ l.length) : (jPre sep x l k).length ≤ x.size + sep.size * l.length + sizes l := by
  rw [jPre, List.length_append, join_len, List.length_take, Nat.min_eq_left hk]
  have h1 := sizes_le l k
  have h2 : sep.data.toList.length = sep.size := by simp
  have h3 : x.data.toList.length = x.size := by simp
  have h4 : sep.size * k ≤ sep.size * l.length := Nat.mul_le_mul_left _ hk
  rw [h2]
  omega
theorem joins_c (l : List ByteArray) (sep : ByteArray) (H : Heap) (h0 : 0 < sep.size) (hl : sep.size * l.length + sizes l + l.length < 17592186044416) : ACalls Try.prog 41 [.pv (slStrs l), sv sep] H (fun r H' => r = sv ⟨(gJoin sep.data.toList (bs l)).toArray⟩ ∧ H' = H) := by
  refine ACalls.pure ?_ (by simp) H
  have hml : (l.map encStr).length = l.length := List.length_map _
  rcases l with _ | ⟨x, _ | ⟨y, l⟩⟩
  · skip
    refine ACalls.body Try.func41 rfl Try.ntmps41 (Nat.le_of_ble_eq_true rfl) ?_
    refine awp_seq ?_
    refine awp_region ?_
    refine al_d rfl rfl rfl (by exact opd_assign rfl rfl) ?_
    refine al_nil ?_
    refine awp_seq ?_
    refine awp_seq ?_
    refine awp_region ?_
    refine al_d rfl rfl rfl (by exact opd_move rfl rfl) ?_
    refine al_d rfl rfl rfl (by exact (by exact opd_len_sl rfl Try.underlying28 rfl)) ?_
    refine al_nil ?_
    refine awp_block ?_
    refine awp_seq ?_
    refine awp_region ?_
    refine al_d rfl rfl rfl (by exact opd_eql rfl rfl rfl) ?_
    refine al_d rfl rfl rfl (by exact opd_assign rfl rfl) ?_
    refine al_nil ?_
    refine awp_cond rfl (fun hc1 => ?_) (fun hc1 => ?_)
    -- cond 1
    · skip
      refine awp_seq ?_
      refine awp_region ?_
      refine al_d rfl rfl rfl (by exact opd_assign rfl rfl) ?_
      refine al_nil ?_
      refine awp_ret ?_
      -- return
      refine aret1 (H' := []) (by exact .inr rfl) rfl (rval_tmp rfl) (Fin.wk (by simp) trivial trivial) ?_
      exact ⟨rfl, rfl⟩
    · skip
      cases hc1
  · skip
    refine ACalls.body Try.func41 rfl Try.ntmps41 (Nat.le_of_ble_eq_true rfl) ?_
    refine awp_seq ?_
    refine awp_region ?_
    refine al_d rfl rfl rfl (by exact opd_assign rfl rfl) ?_
    refine al_nil ?_
    refine awp_seq ?_
    refine awp_seq ?_
    refine awp_region ?_
    refine al_d rfl rfl rfl (by exact opd_move rfl rfl) ?_
    refine al_d rfl rfl rfl (by exact (by exact opd_len_sl rfl Try.underlying28 rfl)) ?_
    refine al_nil ?_
    refine awp_block ?_
    refine awp_seq ?_
    refine awp_region ?_
    refine al_d rfl rfl rfl (by exact opd_eql rfl rfl rfl) ?_
    refine al_d rfl rfl rfl (by exact opd_assign rfl rfl) ?_
    refine al_nil ?_
    refine awp_cond rfl (fun hc1 => ?_) (fun hc1 => ?_)
    -- cond 1
    · skip
      cases hc1
    · skip
      refine awp_seq ?_
      refine awp_region ?_
      refine al_d rfl rfl rfl (by exact opd_eql rfl rfl rfl) ?_
      refine al_d rfl rfl rfl (by exact opd_assign rfl rfl) ?_
      refine al_nil ?_
      refine awp_cond rfl (fun hc2 => ?_) (fun hc2 => ?_)
      -- cond 2
      · skip
        refine awp_seq ?_
        refine awp_region ?_
        refine al_d rfl rfl rfl (by exact opd_move rfl rfl) ?_
        refine al_d rfl rfl rfl (by exact (by exact x_index_pad rfl so28 rfl rfl (by omega) (by exact Int.toNat_natCast _) rfl rfl)) ?_
        refine al_d rfl rfl rfl (by exact (by exact opd_load1_pad rfl Try.isAgg9 rfl rfl rfl)) ?_
        refine al_d rfl rfl rfl (by exact opd_assign rfl rfl) ?_
        refine al_nil ?_
        refine awp_ret ?_
        -- return
        have hx : x = ⟨(gJoin sep.data.toList (bs [x])).toArray⟩ := by simp [gJoin, bs]
        rw [← hx]
        refine aret1 (H' := []) (by exact .inr rfl) rfl (rval_tmp rfl) (Fin.wk (by simp) trivial trivial) ?_
        exact ⟨rfl, rfl⟩
      · skip
        cases hc2
  · skip
    have hll : ((x :: y :: l).map encStr).length = l.length + 2 := by rw [hml]; rfl
    have hn2 : (x :: y :: l).length = l.length + 2 := rfl
    rw [hn2] at hl
    have hmul : sep.size * (l.length + 2) = sep.size * (l.length + 1) + sep.size := by rw [← Nat.mul_succ]
    obtain ⟨M, hM⟩ : ∃ M, M = sep.size * (l.length + 1) := ⟨_, rfl⟩
    rw [← hM] at hmul
    rw [hmul] at hl
    have hdiv : sep.size + 1 ≤ 9223372036854775807 / (l.length + 1) := by
      rw [Nat.le_div_iff_mul_le (Nat.succ_pos _), Nat.add_mul, ← hM]
      omega
    have hdl : 9223372036854775807 / (l.length + 1) ≤ 9223372036854775807 := Nat.div_le_self _ _
    have hMp : 0 < M := by rw [hM]; exact Nat.mul_pos h0 (Nat.succ_pos _)
    have hsz : ∀ k, sizes ((x :: y :: l).take k) ≤ sizes (x :: y :: l) := sizes_le _
    refine ACalls.body Try.func41 rfl Try.ntmps41 (Nat.le_of_ble_eq_true rfl) ?_
    refine awp_seq ?_
    refine awp_region ?_
    refine al_d rfl rfl rfl (by exact opd_assign rfl rfl) ?_
    refine al_nil ?_
    refine awp_seq ?_
    refine awp_seq ?_
    refine awp_region ?_
    refine al_d rfl rfl rfl (by exact opd_move rfl rfl) ?_
    refine al_d rfl rfl rfl (by exact (by exact opd_len_sl rfl Try.underlying28 rfl)) ?_
    refine al_nil ?_
    refine awp_block ?_
    refine awp_seq ?_
    refine awp_region ?_
    refine al_d rfl rfl rfl (by exact opd_eql rfl rfl rfl) ?_
    refine al_d rfl rfl rfl (by exact opd_assign rfl rfl) ?_
    refine al_nil ?_
    refine awp_cond rfl (fun hc1 => ?_) (fun hc1 => ?_)
    -- cond 1
    · skip
      exact absurd (of_decide_eq_true hc1) (by rw [hll]; omega)
    · skip
      refine awp_seq ?_
      refine awp_region ?_
      refine al_d rfl rfl rfl (by exact opd_eql rfl rfl rfl) ?_
      refine al_d rfl rfl rfl (by exact opd_assign rfl rfl) ?_
      refine al_nil ?_
      refine awp_cond rfl (fun hc2 => ?_) (fun hc2 => ?_)
      -- cond 2
      · skip
        exact absurd (of_decide_eq_true hc2) (by rw [hll]; omega)
      · skip
        refine awp_skip ?_
        refine awp_seq ?_
        refine awp_region ?_
        refine al_d rfl rfl rfl (by exact opd_assign rfl rfl) ?_
        refine al_nil ?_
        refine awp_seq ?_
        refine awp_seq ?_
        refine awp_region ?_
        refine al_d rfl rfl rfl (by exact opd_move rfl rfl) ?_
        refine al_d rfl rfl rfl (by exact opd_len_str rfl Try.underlying9 rfl) ?_
        refine al_d rfl rfl rfl (by exact opd_gtr rfl rfl rfl) ?_
        refine al_nil ?_
        refine awp_cond rfl (fun hc3 => ?_) (fun hc3 => ?_)
        -- cond 3
        · skip
          refine awp_seq ?_
          refine awp_seq ?_
          refine awp_region ?_
          refine al_d rfl rfl rfl (by exact opd_move rfl rfl) ?_
          refine al_d rfl rfl rfl (by exact opd_len_str rfl Try.underlying9 rfl) ?_
          refine al_d rfl rfl rfl (by exact opd_move rfl rfl) ?_
          refine al_d rfl rfl rfl (by exact (by exact opd_len_sl rfl Try.underlying28 rfl)) ?_
          refine al_d rfl rfl rfl (by exact opd_sub rfl rfl rfl (show IntKind.i64.wrap ((((x :: y :: l).map encStr).length : Int) - 1) = ((l.length + 1 : Nat) : Int) by rw [IntKind.wrap_i64, hll]; omega)) ?_
          refine al_d rfl rfl rfl (by exact opd_quo (r := ((9223372036854775807 / (l.length + 1) : Nat) : Int)) rfl rfl rfl (by omega) (by rw [show (9223372036854775807 : Int) = ((9223372036854775807 : Nat) : Int) by rfl, ← Int.ofNat_tdiv, IntKind.wrap_i64]; omega)) ?_
          refine al_d rfl rfl rfl (by exact opd_geq rfl rfl rfl) ?_
          refine al_nil ?_
          refine awp_cond rfl (fun hc4 => ?_) (fun hc4 => ?_)
          -- cond 4
          · skip
            exact absurd (of_decide_eq_true hc4) (by omega)
          · skip
            refine awp_skip ?_
            refine awp_region ?_
            refine al_d rfl rfl rfl (by exact opd_move rfl rfl) ?_
            refine al_d rfl rfl rfl (by exact opd_move rfl rfl) ?_
            refine al_d rfl rfl rfl (by exact opd_len_str rfl Try.underlying9 rfl) ?_
            refine al_d rfl rfl rfl (by exact opd_move rfl rfl) ?_
            refine al_d rfl rfl rfl (by exact (by exact opd_len_sl rfl Try.underlying28 rfl)) ?_
            refine al_d rfl rfl rfl (by exact opd_sub rfl rfl rfl (show IntKind.i64.wrap ((((x :: y :: l).map encStr).length : Int) - 1) = ((l.length + 1 : Nat) : Int) by rw [IntKind.wrap_i64, hll]; omega)) ?_
            refine al_d rfl rfl rfl (by exact opd_mul rfl rfl rfl (show IntKind.i64.wrap ((sep.size : Int) * ((l.length + 1 : Nat) : Int)) = (M : Int) by rw [← Int.natCast_mul, ← hM, IntKind.wrap_i64]; omega)) ?_
            refine al_d rfl rfl rfl (by exact opd_add rfl rfl rfl (show IntKind.i64.wrap (0 + (M : Int)) = (M : Int) by rw [IntKind.wrap_i64]; omega)) ?_
            refine al_d rfl rfl rfl (by exact opd_assign rfl rfl) ?_
            refine al_nil ?_
            refine awp_seq ?_
            refine awp_seq ?_
            refine awp_region ?_
            refine al_d rfl rfl rfl (by exact opd_move rfl rfl) ?_
            refine al_d rfl rfl rfl (by exact (by exact opd_len_sl rfl Try.underlying28 rfl)) ?_
            refine al_d rfl rfl rfl (by exact opd_move rfl rfl) ?_
            refine al_nil ?_
            refine awp_block ?_
            -- loop
            refine awp_loop (σ := Nat) (fun k => ([(0, .pv (slStrs (x :: y :: l))), (1, sv sep), (5, iv ((M + sizes ((x :: y :: l).take k) : Nat) : Int)), (39, .pv (slStrs (x :: y :: l))), (40, iv (((x :: y :: l).map encStr).length : Int)), (41, iv (k : Int))], [])) (fun k => k ≤ l.length + 2) (fun k => l.length + 2 - k) 0 (Nat.zero_le _) ?_ ?_
            · exact (Ent.wk ⟨⟨_, rfl, rfl⟩, (by (simp; done)), ⟨_, rfl, rfl⟩, (by (simp; done)), ⟨_, rfl, rfl⟩, (by (simp; done)), ⟨_, rfl, rfl⟩, (by (simp; done)), ⟨_, rfl, rfl⟩, (by (simp; done)), ⟨_, rfl, rfl⟩, (by (simp; done)), trivial⟩ trivial trivial)
            · intro k hk
              refine awp_seq ?_
              refine awp_region ?_
              refine al_d rfl rfl rfl (by exact opd_lss rfl rfl rfl) ?_
              refine al_nil ?_
              refine awp_seq ?_
              refine awp_cond rfl (fun hc5 => ?_) (fun hc5 => ?_)
              -- cond 5
              · have hlt : k < l.length + 2 := by have := of_decide_eq_true hc5; omega
                obtain ⟨s, hs⟩ := get_of_lt (show k < (x :: y :: l).length by omega)
                have hi := map_get (f := encStr) hs
                have hst := sizes_take hs
                have h1 := hsz (k + 1)
                refine awp_skip ?_
                refine awp_seq ?_
                refine awp_block ?_
                refine awp_seq ?_
                refine awp_region ?_
                refine al_d rfl rfl rfl (by exact (by exact x_index_pad rfl so28 rfl rfl (by omega) (by exact Int.toNat_natCast _) hi rfl)) ?_
                refine al_d rfl rfl rfl (by exact (by exact opd_load1_pad rfl Try.isAgg9 rfl hi rfl)) ?_
                refine al_d rfl rfl rfl (by exact opd_assign rfl rfl) ?_
                refine al_nil ?_
                refine awp_seq ?_
                refine awp_seq ?_
                refine awp_region ?_
                refine al_d rfl rfl rfl (by exact opd_move rfl rfl) ?_
                refine al_d rfl rfl rfl (by exact opd_len_str rfl Try.underlying9 rfl) ?_
                refine al_d rfl rfl rfl (by exact opd_move rfl rfl) ?_
                refine al_d rfl rfl rfl (by exact opd_sub rfl rfl rfl (show IntKind.i64.wrap (9223372036854775807 - ((M + sizes ((x :: y :: l).take k) : Nat) : Int)) = 9223372036854775807 - ((M + sizes ((x :: y :: l).take k) : Nat) : Int) by rw [IntKind.wrap_i64]; omega)) ?_
                refine al_d rfl rfl rfl (by exact opd_gtr rfl rfl rfl) ?_
                refine al_nil ?_
                refine awp_cond rfl (fun hc6 => ?_) (fun hc6 => ?_)
                -- cond 6
                · skip
                  exact absurd (of_decide_eq_true hc6) (by omega)
                · skip
                  refine awp_skip ?_
                  refine awp_region ?_
                  refine al_d rfl rfl rfl (by exact opd_move rfl rfl) ?_
                  refine al_d rfl rfl rfl (by exact opd_move rfl rfl) ?_
                  refine al_d rfl rfl rfl (by exact opd_len_str rfl Try.underlying9 rfl) ?_
                  refine al_d rfl rfl rfl (by exact opd_add rfl rfl rfl (show IntKind.i64.wrap (((M + sizes ((x :: y :: l).take k) : Nat) : Int) + (s.size : Int)) = ((M + sizes ((x :: y :: l).take (k + 1)) : Nat) : Int) by rw [IntKind.wrap_i64, hst]; omega)) ?_
                  refine al_d rfl rfl rfl (by exact opd_assign rfl rfl) ?_
                  refine al_nil ?_
                  refine awp_region ?_
                  refine al_d rfl rfl rfl (by exact opd_add rfl rfl rfl (by exact w64 (by omega) (by omega))) ?_
                  refine al_d rfl rfl rfl (by exact opd_move rfl rfl) ?_
                  refine al_nil ?_
                  -- end of a round
                  exact ⟨k + 1, by omega, by omega, (Ent.wk ⟨⟨_, rfl, rfl⟩, (by (simp; done)), ⟨_, rfl, rfl⟩, (by (simp; done)), ⟨_, rfl, rfl⟩, (by (simp; done)), ⟨_, rfl, rfl⟩, (by (simp; done)), ⟨_, rfl, rfl⟩, (by (simp; done)), ⟨_, rfl, rfl⟩, (by (simp; done)), trivial⟩ trivial trivial)⟩
              · have hge : k = l.length + 2 := by have := of_decide_eq_false hc5; omega
                have hall : sizes ((x :: y :: l).take k) = sizes (x :: y :: l) := by rw [hge, ← hn2, List.take_length]
                have h2 := hsz k
                refine awp_exit ?_
                refine awp_seq ?_
                refine awp_region ?_
                refine al_d rfl rfl rfl (by exact x_alloc (id := 2001) rfl zoN89 rfl rfl) ?_
                refine al_nil ?_
                refine awp_seq ?_
                refine awp_region ?_
                refine al_d rfl rfl rfl (by exact opd_move rfl rfl) ?_
                refine al_d rfl rfl rfl (by exact opr_call rfl rfl Try.call59 rfl (growF_c (M + sizes ((x :: y :: l).take k)) (by omega) (by omega))) ?_
                refine al_nil ?_
                refine awp_seq ?_
                refine awp_region ?_
                refine al_d rfl rfl rfl (by exact opd_move rfl rfl) ?_
                refine al_d rfl rfl rfl (by exact (by exact x_index_pad rfl so28 rfl rfl (by omega) (by exact Int.toNat_natCast _) rfl rfl)) ?_
                refine al_d rfl rfl rfl (by exact (by exact opd_load1_pad rfl Try.isAgg9 rfl rfl rfl)) ?_
                refine al_d rfl rfl rfl (by exact opr_call rfl rfl Try.call57 rfl (writeString_c 1 [] true x (by show 0 + _ < _; have := sizes_le (x :: y :: l) 1; simp [sizes] at this hl; omega))) ?_
                refine al_nil ?_
                refine awp_seq ?_
                refine awp_seq ?_
                refine awp_region ?_
                refine al_d rfl rfl rfl (by exact opd_move rfl rfl) ?_
                refine al_d rfl rfl rfl (by exact x_slice_sl (l := 1) (h := ((x :: y :: l).map encStr).length) (rows' := (y :: l).map encStr) rfl so28 rfl (sz := 1) (by intro r hr; obtain ⟨q, _, rfl⟩ := List.mem_map.1 hr; rfl) rfl rfl (by rw [hll]; omega) (Nat.le_refl _) (by rw [List.take_length]; rfl)) ?_
                refine al_d rfl rfl rfl (by exact (by exact opd_len_sl rfl Try.underlying28 rfl)) ?_
                refine al_d rfl rfl rfl (by exact opd_move rfl rfl) ?_
                refine al_nil ?_
                refine awp_block ?_
                -- loop
                have hyl : ((y :: l).map encStr).length = l.length + 1 := by rw [List.length_map]; rfl
                refine awp_loop2 (fun (q g : Nat) => ([(1, sv sep), (8, .ref 2001 0 0 0), (63, .pv (slStrs (y :: l))), (64, iv (((y :: l).map encStr).length : Int)), (65, iv (q : Int))], bld g (jPre sep x (y :: l) q) true)) (fun q g => q ≤ l.length + 1) (fun q g => l.length + 1 - q) 0 2 (Nat.zero_le _) ?_ ?_
                · show Ent _ _ _ _ (bld (1 + 1) ([] ++ x.data.toList ++ []) true)
                  rw [List.append_nil]
                  exact (Ent.wk ⟨⟨_, rfl, rfl⟩, (by (simp; done)), ⟨_, rfl, rfl⟩, (by (simp; rfl)), ⟨_, rfl, rfl⟩, (by (simp; done)), ⟨_, rfl, rfl⟩, (by (simp; done)), ⟨_, rfl, rfl⟩, (by (simp; done)), trivial⟩ ⟨⟨_, rfl, rfl⟩, (by exact bOb_clo rfl rfl), ⟨_, rfl, rfl⟩, (by exact brows_clo _ _), trivial⟩ trivial)
                · intro q g hq
                  refine awp_seq ?_
                  refine awp_region ?_
                  refine al_d rfl rfl rfl (by exact opd_lss rfl rfl rfl) ?_
                  refine al_nil ?_
                  refine awp_seq ?_
                  refine awp_cond rfl (fun hc7 => ?_) (fun hc7 => ?_)
                  -- cond 7
                  · have hlt : q < l.length + 1 := by have := of_decide_eq_true hc7; omega
                    obtain ⟨s, hs⟩ := get_of_lt (show q < (y :: l).length by rw [List.length_cons]; exact hlt)
                    have hi := map_get (f := encStr) hs
                    have hpl := jPre_len (sep := sep) (x := x) (l := y :: l) (k := q) (Nat.le_of_lt hlt)
                    have hnx := jPre_next (sep := sep) (x := x) hs
                    have hss := sizes_ge (List.mem_of_getElem? hs)
                    have hxs : x.size + sizes (y :: l) = sizes (x :: y :: l) := by simp [sizes]
                    have hll2 : (y :: l).length = l.length + 1 := rfl
                    rw [hll2, ← hM] at hpl
                    refine awp_skip ?_
                    refine awp_seq ?_
                    refine awp_block ?_
                    refine awp_seq ?_
                    refine awp_region ?_
                    refine al_d rfl rfl rfl (by exact (by exact x_index_pad rfl so28 rfl rfl (by omega) (by exact Int.toNat_natCast _) hi rfl)) ?_
                    refine al_d rfl rfl rfl (by exact (by exact opd_load1_pad rfl Try.isAgg9 rfl hi rfl)) ?_
                    refine al_d rfl rfl rfl (by exact opd_assign rfl rfl) ?_
                    refine al_nil ?_
                    refine awp_seq ?_
                    refine awp_region ?_
                    refine al_d rfl rfl rfl (by exact opd_move rfl rfl) ?_
                    refine al_d rfl rfl rfl (by exact opr_call rfl rfl Try.call57 rfl (writeString_c g (jPre sep x (y :: l) q) true sep (by omega))) ?_
                    refine al_nil ?_
                    refine awp_region ?_
                    refine al_d rfl rfl rfl (by exact opd_move rfl rfl) ?_
                    refine al_d rfl rfl rfl (by exact opr_call rfl rfl Try.call57 rfl (writeString_c (g + 1) (jPre sep x (y :: l) q ++ sep.data.toList) true s (by rw [List.length_append]; show _ + sep.size + _ < _; omega))) ?_
                    refine al_nil ?_
                    refine awp_region ?_
                    refine al_d rfl rfl rfl (by exact opd_add rfl rfl rfl (by exact w64 (by omega) (by omega))) ?_
                    refine al_d rfl rfl rfl (by exact opd_move rfl rfl) ?_
                    refine al_nil ?_
                    -- end of a round
                    refine ⟨q + 1, g + 1 + 1, by omega, by omega, ?_⟩
                    show Ent _ _ _ _ (bld (g + 1 + 1) (jPre sep x (y :: l) (q + 1)) true)
                    rw [hnx, ← List.append_assoc]
                    exact (Ent.wk ⟨⟨_, rfl, rfl⟩, (by (simp; done)), ⟨_, rfl, rfl⟩, (by (simp; rfl)), ⟨_, rfl, rfl⟩, (by (simp; done)), ⟨_, rfl, rfl⟩, (by (simp; done)), ⟨_, rfl, rfl⟩, (by (simp; done)), trivial⟩ ⟨⟨_, rfl, rfl⟩, (by exact bOb_clo rfl rfl), ⟨_, rfl, rfl⟩, (by exact brows_clo _ _), trivial⟩ trivial)
                  · have hge2 : q = l.length + 1 := by have := of_decide_eq_false hc7; omega
                    have hpl := jPre_len (sep := sep) (x := x) (l := y :: l) hq
                    have hll2 : (y :: l).length = l.length + 1 := rfl
                    have hxs : x.size + sizes (y :: l) = sizes (x :: y :: l) := by simp [sizes]
                    rw [hll2, ← hM] at hpl
                    refine awp_exit ?_
                    refine awp_seq ?_
                    refine awp_region ?_
                    refine al_d rfl rfl rfl (by exact opr_call rfl rfl Try.call58 rfl (str_c g (jPre sep x (y :: l) q) true (by omega))) ?_
                    refine al_d rfl rfl rfl (by exact opd_assign rfl rfl) ?_
                    refine al_nil ?_
                    refine awp_ret ?_
                    -- return
                    have hres : (⟨(jPre sep x (y :: l) q).toArray⟩ : ByteArray) = ⟨(gJoin sep.data.toList (bs (x :: y :: l))).toArray⟩ := by
                      rw [jPre, hge2, ← hll2, List.take_length]
                      rfl
                    rw [← hres]
                    refine aret1 (H' := []) (by exact .inr rfl) rfl (rval_tmp rfl) (Fin.wk (by simp) trivial trivial) ?_
                    exact ⟨rfl, rfl⟩
        · skip
          exact absurd (of_decide_eq_false hc3) (by omega)
end Go.Proofs.Ytedfihgkopejcaa
end
section
set_option linter.unusedVariables false
set_option linter.unusedSimpArgs false
namespace Go.Proofs.Ytedfihgkopejcaa
open Go.Abs
/-- The model's order of texts is the lexical one. -/
theorem bytesLess_eq : ∀ (x y : List UInt8), Op.bytesLess x y = decide (x < y)
  | [], [] => by simp [Op.bytesLess]
  | _ :: _, [] => by simp [Op.bytesLess]
  | [], _ :: _ => by simp [Op.bytesLess]
  | a :: x, b :: y => by
    rw [Op.bytesLess, bytesLess_eq x y]
    simp only [List.cons_lt_cons_iff]
    by_cases h1 : a < b <;> by_cases h2 : a = b <;> by_cases h3 : x < y <;> simp [h1, h2, h3]
theorem slt_irr (s : ByteArray) : slt s s = false := by
  unfold slt
  rw [bytesLess_eq]
  exact decide_eq_false (List.lt_irrefl _)
theorem slt_tri {a b : ByteArray} (h1 : slt a b = false) (h2 : slt b a = false) : a = b := by
  unfold slt at h1 h2
  rw [bytesLess_eq] at h1 h2
  have e : a.toList = b.toList := List.le_antisymm (List.not_lt.1 (of_decide_eq_false h2)) (List.not_lt.1 (of_decide_eq_false h1))
  have := list_beq a b
  rw [e] at this
  simpa using this.symm
theorem slt_trans {a b c : ByteArray} (h1 : slt a b = true) (h2 : slt b c = true) : slt a c = true := by
  unfold slt at *
  rw [bytesLess_eq] at *
  exact decide_eq_true (List.lt_trans (of_decide_eq_true h1) (of_decide_eq_true h2))
theorem slt_nil (s : ByteArray) : slt s sNil = false := by
  unfold slt
  rw [bytesLess_eq, ByteArray.toList_eq sNil]
  exact decide_eq_false (List.not_lt_nil _)
theorem sle_iff {a b : ByteArray} : sle a b = false ↔ slt b a = true := by
  unfold sle
  constructor
  · intro h
    simp only [Bool.or_eq_false_iff, decide_eq_false_iff_not] at h
    cases e : slt b a with
    | true => rfl
    | false => exact absurd (slt_tri h.1 e) h.2
  · intro h
    simp only [Bool.or_eq_false_iff, decide_eq_false_iff_not]
    refine ⟨?_, fun e => ?_⟩
    · cases e : slt a b with
      | false => rfl
      | true => have := slt_trans e h; rw [slt_irr] at this; cases this
    · subst e; rw [slt_irr] at h; cases h
/-- Ids in increasing order. -/
def ups (m : List GObj) : Prop := m.Pairwise (fun a b => slt a.id b.id = true)
theorem gName_ne {s : ByteArray} (h : gName s = true) : s ≠ sNil := by
  simp only [gName, Bool.and_eq_true, Bool.not_eq_true', decide_eq_false_iff_not] at h
  exact h.2.1
end Go.Proofs.Ytedfihgkopejcaa
end
section
set_option linter.unusedVariables false
set_option linter.unusedSimpArgs false
set_option maxRecDepth 100000
namespace Go.Proofs.Ytedfihgkopejcaa
open Go.Abs
/-- Go's strings.Compare. -/
def gCmp (a b : ByteArray) : Int := if slt a b then -1 else if slt b a then 1 else 0
theorem compareBytes_eq : ∀ (x y : List UInt8), Lib.compareBytes x y = if x < y then -1 else if y < x then 1 else 0
  | [], [] => by simp [Lib.compareBytes]
  | [], b :: y => by simp [Lib.compareBytes]
  | a :: x, [] => by simp [Lib.compareBytes]
  | a :: x, b :: y => by
    have ih := compareBytes_eq x y
    simp only [Lib.compareBytes, List.cons_lt_cons_iff]
    by_cases h1 : a < b
    · simp [h1]
    · by_cases h2 : b < a
      · have hne : ¬ a = b := fun e => by subst e; exact h1 h2
        simp [h1, h2, hne]
      · have e : a = b := UInt8.le_antisymm (UInt8.not_lt.1 h2) (UInt8.not_lt.1 h1)
        subst e
        simp [ih]
theorem slt_dat (a b : ByteArray) : slt a b = decide (a.data.toList < b.data.toList) := by
  unfold slt
  rw [bytesLess_eq, ByteArray.toList_eq, ByteArray.toList_eq]
theorem gCmp_eq (a b : ByteArray) : Lib.compareBytes a.data.toList b.data.toList = gCmp a b := by
  rw [compareBytes_eq, gCmp, slt_dat, slt_dat]
  simp only [decide_eq_true_eq]
theorem compare_c (a b : ByteArray) (H : Heap) : ACalls Try.prog 29 [sv a, sv b] H (fun r H' => r = iv (gCmp a b) ∧ H' = H) := by
  have hx : ∀ H, ACalls Try.prog 47 [sv a, sv b] H (fun r H' => r = iv (gCmp a b) ∧ H' = H) := fun H => by
    refine ACalls.pure ?_ (by simp) H
    have he : ∀ H, ExtR Try.prog Extern.BytealgCompare.compare H [sv a, sv b] (iv (gCmp a b)) := fun H => by
      have := ext_compare (P := Try.prog) (H := H) a b
      rwa [gCmp_eq] at this
    refine ACalls.body Try.func47 rfl Try.ntmps47 (Nat.le_of_ble_eq_true rfl) ?_
    refine awp_seq ?_
    refine awp_region ?_
    refine al_d rfl rfl rfl (by exact opd_assign rfl rfl) ?_
    refine al_nil ?_
    refine awp_seq ?_
    refine awp_region ?_
    refine al_d rfl rfl rfl (by exact opd_move rfl rfl) ?_
    refine al_d rfl rfl rfl (by exact opd_move rfl rfl) ?_
    refine al_d rfl rfl rfl (by exact opd_ext rfl rfl Try.func65 rfl rfl rfl rfl rfl (he _)) ?_
    refine al_d rfl rfl rfl (by exact opd_assign rfl rfl) ?_
    refine al_nil ?_
    refine awp_ret ?_
    -- return
    refine aret1 (H' := []) (by exact .inr rfl) rfl (rval_tmp rfl) (Fin.wk (by simp) trivial trivial) ?_
    exact ⟨rfl, rfl⟩
  refine ACalls.pure ?_ (by simp) H
  refine ACalls.body Try.func29 rfl Try.ntmps29 (Nat.le_of_ble_eq_true rfl) ?_
  refine awp_seq ?_
  refine awp_region ?_
  refine al_d rfl rfl rfl (by exact opd_assign rfl rfl) ?_
  refine al_nil ?_
  refine awp_seq ?_
  refine awp_region ?_
  refine al_d rfl rfl rfl (by exact opd_move rfl rfl) ?_
  refine al_d rfl rfl rfl (by exact opd_move rfl rfl) ?_
  refine al_d rfl rfl rfl (by exact opr_call rfl rfl Try.call47 rfl (hx _)) ?_
  refine al_d rfl rfl rfl (by exact opd_assign rfl rfl) ?_
  refine al_nil ?_
  refine awp_ret ?_
  -- return
  refine aret1 (H' := []) (by exact .inr rfl) rfl (rval_tmp rfl) (Fin.wk (by simp) trivial trivial) ?_
  exact ⟨rfl, rfl⟩
theorem gCmp_lt (a b : ByteArray) : decide (gCmp a b < 0) = slt a b := by
  unfold gCmp
  cases h1 : slt a b with
  | true => simp
  | false => cases h2 : slt b a <;> simp
theorem gCmp_zero (a b : ByteArray) : decide (gCmp a b = 0) = decide (a = b) := by
  unfold gCmp
  cases h1 : slt a b with
  | true =>
    have : ¬ a = b := fun e => by subst e; rw [slt_irr] at h1; cases h1
    simp [this]
  | false =>
    cases h2 : slt b a with
    | true =>
      have : ¬ a = b := fun e => by subst e; rw [slt_irr] at h2; cases h2
      simp [this]
    | false => simp [slt_tri h1 h2]
/-- Where a key stands, or would stand. -/
def lbI {α : Type} (f : α → ByteArray) (l : List α) (s : ByteArray) : Nat := l.findIdx (fun o => !slt (f o) s)
def hasK {α : Type} (f : α → ByteArray) (l : List α) (s : ByteArray) : Bool := l.any (fun o => decide (f o = s))
def asc {α : Type} (f : α → ByteArray) (l : List α) : Prop := l.Pairwise (fun a b => slt (f a) (f b) = true)
theorem asc_get {α : Type} {f : α → ByteArray} {l : List α} (h : asc f l) {i j : Nat} {a b : α} (hij : i < j) (ha : l[i]? = some a) (hb : l[j]? = some b) : slt (f a) (f b) = true := by
  obtain ⟨i1, i2⟩ := List.getElem?_eq_some_iff.1 ha
  obtain ⟨j1, j2⟩ := List.getElem?_eq_some_iff.1 hb
  have := List.pairwise_iff_getElem.1 h i j i1 j1 hij
  rwa [i2, j2] at this
theorem lbI_of {α : Type} {f : α → ByteArray} {l : List α} {s : ByteArray} {i : Nat} (hi : i ≤ l.length) (h1 : ∀ k, k < i → ∀ o, l[k]? = some o → slt (f o) s = true) (h2 : ∀ o, l[i]? = some o → slt (f o) s = false) : lbI f l s = i := by
  unfold lbI
  by_cases e : i < l.length
  · rw [List.findIdx_eq e]
    refine ⟨by simp [h2 _ (List.getElem?_eq_getElem e)], fun j hj => ?_⟩
    simp [h1 j hj _ (List.getElem?_eq_getElem (by omega))]
  · have e2 : i = l.length := by omega
    rw [e2]
    refine List.findIdx_eq_length.2 fun o ho => ?_
    obtain ⟨k, hk⟩ := List.mem_iff_getElem?.1 ho
    have := (List.getElem?_eq_some_iff.1 hk).1
    simp [h1 k (by omega) o hk]
theorem hasK_of {α : Type} {f : α → ByteArray} {l : List α} {s : ByteArray} {i : Nat} {o : α} (ha : asc f l) (h1 : ∀ k, k < i → ∀ o, l[k]? = some o → slt (f o) s = true) (ho : l[i]? = some o) (h2 : slt (f o) s = false) : hasK f l s = decide (f o = s) := by
  rw [hasK, Bool.eq_iff_iff, List.any_eq_true, decide_eq_true_eq]
  constructor
  · rintro ⟨x, hx, he⟩
    have he := of_decide_eq_true he
    obtain ⟨k, hk⟩ := List.mem_iff_getElem?.1 hx
    rcases Nat.lt_trichotomy k i with h | h | h
    · have := h1 k h x hk
      rw [he, slt_irr] at this; cases this
    · subst h
      rw [ho] at hk; cases hk
      exact he
    · have := asc_get ha h ho hk
      rw [he, h2] at this; cases this
  · intro e
    exact ⟨o, List.mem_of_getElem? ho, decide_eq_true e⟩
theorem hasK_none {α : Type} {f : α → ByteArray} {l : List α} {s : ByteArray} (h1 : ∀ k, k < l.length → ∀ o, l[k]? = some o → slt (f o) s = true) : hasK f l s = false := by
  rw [hasK, List.any_eq_false]
  intro o ho
  obtain ⟨k, hk⟩ := List.mem_iff_getElem?.1 ho
  have := h1 k (List.getElem?_eq_some_iff.1 hk).1 o hk
  simp only [decide_eq_true_eq]
  intro e
  rw [e, slt_irr] at this; cases this
theorem half_lt {i j : Nat} (h : i < j) : i ≤ (i + j) / 2 ∧ (i + j) / 2 < j := by omega
/-- slices.BinarySearchFunc at planisphere/api.Tag. -/
theorem bsf_GTag (fv : AV) (l : List GTag) (s : ByteArray) (H : Heap) (hl : l.length < 1099511627776) (ha : asc GTag.key l) (hf : ∀ o, o ∈ l → CallsV Try.prog fv [.agg ((encTag o).map .pv), sv s] H (fun r H' => r = iv (gCmp (GTag.key o) s) ∧ H' = H)) :
    ACalls Try.prog 27 [.pv (.sl (l.map encTag)), sv s, fv] H (fun r H' => r = .tup [iv (lbI GTag.key l s : Nat), bv (hasK GTag.key l s)] ∧ H' = H) := by
  have hml : (l.map encTag).length = l.length := List.length_map _
  refine ACalls.body Try.func27 rfl Try.ntmps27 (Nat.le_of_ble_eq_true rfl) ?_
  refine awp_seq ?_
  refine awp_region ?_
  refine al_d rfl rfl rfl (by exact opd_assign rfl rfl) ?_
  refine al_d rfl rfl rfl (by exact opd_assign rfl rfl) ?_
  refine al_nil ?_
  refine awp_seq ?_
  refine awp_region ?_
  refine al_d rfl rfl rfl (by exact opd_move rfl rfl) ?_
  refine al_d rfl rfl rfl (by exact (by exact opd_len_sl rfl Try.underlying22 rfl)) ?_
  refine al_d rfl rfl rfl (by exact opd_assign rfl rfl) ?_
  refine al_nil ?_
  refine awp_seq ?_
  refine awp_region ?_
  refine al_d rfl rfl rfl (by exact opd_move rfl rfl) ?_
  refine al_d rfl rfl rfl (by exact opd_assign rfl rfl) ?_
  refine al_d rfl rfl rfl (by exact opd_assign rfl rfl) ?_
  refine al_nil ?_
  refine awp_seq ?_
  refine awp_block ?_
  -- loop
  refine awp_loop2 (fun (i j : Nat) => ([(0, .pv (.sl (l.map encTag))), (1, sv s), (2, fv), (8, iv ((l.map encTag).length : Int)), (9, iv (i : Int)), (10, iv (j : Int))], H)) (fun i j => i ≤ j ∧ j ≤ l.length ∧ (∀ k, k < i → ∀ o, l[k]? = some o → slt (GTag.key o) s = true) ∧ ∀ k, j ≤ k → ∀ o, l[k]? = some o → slt (GTag.key o) s = false) (fun i j => j - i) 0 l.length ⟨by omega, by omega, by omega, fun k hk o ho => ?_⟩ ?_ ?_
  · have := (List.getElem?_eq_some_iff.1 ho).1
    omega
  · rw [← hml]
    exact Ent.e0 ⟨⟨_, rfl, rfl⟩, ⟨_, rfl, rfl⟩, ⟨_, rfl, rfl⟩, ⟨_, rfl, rfl⟩, ⟨_, rfl, rfl⟩, ⟨_, rfl, rfl⟩, trivial⟩
  · rintro i j ⟨hij, hj, hlo, hhi⟩
    refine awp_seq ?_
    refine awp_seq ?_
    refine awp_region ?_
    refine al_d rfl rfl rfl (by exact opd_move rfl rfl) ?_
    refine al_d rfl rfl rfl (by exact opd_move rfl rfl) ?_
    refine al_d rfl rfl rfl (by exact opd_lss rfl rfl rfl) ?_
    refine al_nil ?_
    refine awp_cond rfl (fun hc1 => ?_) (fun hc1 => ?_)
    -- cond 1
    · have hlt : i < j := by have := of_decide_eq_true hc1; omega
      obtain ⟨q1, q2⟩ := half_lt hlt
      obtain ⟨m, hm⟩ : ∃ m, m = (i + j) / 2 := ⟨_, rfl⟩
      rw [← hm] at q1 q2
      obtain ⟨o, ho⟩ := get_of_lt (l := l) (k := m) (by omega)
      have hi := map_get (f := encTag) ho
      have hfo := hf o (List.mem_of_getElem? ho)
      have e1 : IntKind.u64.wrap ((i : Int) + (j : Int)) = ((i + j : Nat) : Int) := by rw [IntKind.wrap_u64]; omega
      have e2 : IntKind.i64.wrap (((i + j : Nat) : Int) / 2) = (m : Int) := by rw [IntKind.wrap_i64]; omega
      refine awp_skip ?_
      refine awp_block ?_
      refine awp_seq ?_
      refine awp_region ?_
      refine al_d rfl rfl rfl (by exact opd_move rfl rfl) ?_
      refine al_d rfl rfl rfl (by exact opd_move rfl rfl) ?_
      refine al_d rfl rfl rfl (by exact opd_add rfl rfl rfl (by exact w64 (by omega) (by omega))) ?_
      refine al_d rfl rfl rfl (by exact opd_conv_int rfl Try.underlying3 Try.underlying81 rfl e1) ?_
      refine al_d rfl rfl rfl (by exact opd_shr rfl rfl rfl (by omega) (by simp [IntKind.bits]; try omega) rfl) ?_
      refine al_d rfl rfl rfl (by exact opd_conv_int rfl Try.underlying81 Try.underlying3 rfl e2) ?_
      refine al_d rfl rfl rfl (by exact opd_assign rfl rfl) ?_
      refine al_nil ?_
      refine awp_seq ?_
      refine awp_region ?_
      refine al_d rfl rfl rfl (by exact opd_move rfl rfl) ?_
      refine al_d rfl rfl rfl (by exact opd_move rfl rfl) ?_
      refine al_d rfl rfl rfl (by exact opd_move rfl rfl) ?_
      refine al_d rfl rfl rfl (by exact (by exact x_index_pad rfl so22 rfl rfl (by omega) (by exact Int.toNat_natCast _) (by assumption) rfl)) ?_
      refine al_d rfl rfl rfl (by exact (by exact opd_loadn_pad rfl Try.isAgg46 Try.sizeOf46 rfl (by omega) (by simp only [List.drop_succ_cons, List.drop_zero, List.take_succ_cons, List.take_zero, List.take_nil, List.map_cons, List.map_nil, List.set_cons_zero, List.set_cons_succ, List.cons_append, List.nil_append, encTag]; rfl) rfl)) ?_
      refine al_d rfl rfl rfl (by exact opd_move rfl rfl) ?_
      refine al_d rfl rfl rfl (by exact opr_callV rfl rfl rfl (hfo)) ?_
      refine al_d rfl rfl rfl (by exact opd_lss rfl rfl rfl) ?_
      refine al_nil ?_
      refine awp_cond rfl (fun hc2 => ?_) (fun hc2 => ?_)
      -- cond 2
      · rw [gCmp_lt] at hc2
        refine awp_region ?_
        refine al_d rfl rfl rfl (by exact opd_move rfl rfl) ?_
        refine al_d rfl rfl rfl (by exact opd_add rfl rfl rfl (by exact w64 (by omega) (by omega))) ?_
        refine al_d rfl rfl rfl (by exact opd_assign rfl rfl) ?_
        refine al_nil ?_
        -- end of a round
        refine ⟨m + 1, j, ⟨by omega, by omega, fun k hk x hx => ?_, hhi⟩, by omega, Ent.e0 ⟨⟨_, rfl, rfl⟩, ⟨_, rfl, rfl⟩, ⟨_, rfl, rfl⟩, ⟨_, rfl, rfl⟩, ⟨_, rfl, rfl⟩, ⟨_, rfl, rfl⟩, trivial⟩⟩
        by_cases e : k = m
        · subst e; rw [ho] at hx; cases hx; exact hc2
        · exact slt_trans (asc_get ha (by omega) hx ho) hc2
      · rw [gCmp_lt] at hc2
        refine awp_region ?_
        refine al_d rfl rfl rfl (by exact opd_move rfl rfl) ?_
        refine al_d rfl rfl rfl (by exact opd_assign rfl rfl) ?_
        refine al_nil ?_
        -- end of a round
        refine ⟨i, m, ⟨by omega, by omega, hlo, fun k hk x hx => ?_⟩, by omega, Ent.e0 ⟨⟨_, rfl, rfl⟩, ⟨_, rfl, rfl⟩, ⟨_, rfl, rfl⟩, ⟨_, rfl, rfl⟩, ⟨_, rfl, rfl⟩, ⟨_, rfl, rfl⟩, trivial⟩⟩
        by_cases e : k = m
        · subst e; rw [ho] at hx; cases hx; exact hc2
        · cases h : slt (GTag.key x) s with
          | false => rfl
          | true =>
            have := slt_trans (asc_get ha (by omega) ho hx) h
            rw [hc2] at this; cases this
    · have hge : i = j := by have := of_decide_eq_false hc1; omega
      subst hge
      have hlb : lbI GTag.key l s = i := lbI_of hj hlo (fun o ho => hhi i (Nat.le_refl _) o ho)
      by_cases hlt : i < l.length
      · obtain ⟨o, ho⟩ := get_of_lt hlt
        have hi := map_get (f := encTag) ho
        have hfo := hf o (List.mem_of_getElem? ho)
        have hlt2 : decide ((i : Int) < ((l.map encTag).length : Int)) = true := decide_eq_true (by omega)
        have hk := hasK_of ha hlo ho (hhi i (Nat.le_refl _) o ho)
        rw [hlb, hk, ← gCmp_zero]
        refine awp_exit ?_
        refine awp_seq ?_
        refine awp_region ?_
        refine al_d rfl rfl rfl (by exact opd_move rfl rfl) ?_
        refine al_d rfl rfl rfl (by exact opd_move rfl rfl) ?_
        refine al_d rfl rfl rfl (by exact opd_move rfl rfl) ?_
        refine al_d rfl rfl rfl (by exact opd_lss rfl rfl rfl) ?_
        refine al_d rfl rfl rfl (by exact opd_move rfl rfl) ?_
        refine al_ond rfl rfl rfl (by assumption) rfl rfl (by exact opd_move rfl rfl) ?_
        refine al_ond rfl rfl rfl (by assumption) rfl rfl (by exact opd_move rfl rfl) ?_
        refine al_ond rfl rfl rfl (by assumption) rfl rfl (by exact opd_move rfl rfl) ?_
        refine al_ond rfl rfl rfl (by assumption) rfl rfl (by exact (by exact x_index_pad rfl so22 rfl rfl (by omega) (by exact Int.toNat_natCast _) (by assumption) rfl)) ?_
        refine al_ond rfl rfl rfl (by assumption) rfl rfl (by exact (by exact opd_loadn_pad rfl Try.isAgg46 Try.sizeOf46 rfl (by omega) (by simp only [List.drop_succ_cons, List.drop_zero, List.take_succ_cons, List.take_zero, List.take_nil, List.map_cons, List.map_nil, List.set_cons_zero, List.set_cons_succ, List.cons_append, List.nil_append, encTag]; rfl) rfl)) ?_
        refine al_ond rfl rfl rfl (by assumption) rfl rfl (by exact opd_move rfl rfl) ?_
        refine al_ond rfl rfl rfl (by assumption) rfl rfl (by exact opr_callV rfl rfl rfl (hfo)) ?_
        refine al_ond rfl rfl rfl (by assumption) rfl rfl (by exact opd_eql rfl rfl rfl) ?_
        refine al_d rfl rfl rfl (by exact (by exact opd_pickt rfl rfl (by assumption) rfl)) ?_
        refine al_d rfl rfl rfl (by exact opd_assign rfl rfl) ?_
        refine al_d rfl rfl rfl (by exact opd_assign rfl rfl) ?_
        refine al_nil ?_
        refine awp_ret ?_
        -- return
        refine aret2 (H' := H) (by exact .inr rfl) rfl (rval_tmp rfl) (rval_tmp rfl) Fin.refl ?_
        exact ⟨rfl, rfl⟩
      · have hlt2 : decide ((i : Int) < ((l.map encTag).length : Int)) = false := decide_eq_false (by omega)
        have hk := hasK_none (fun k hk o ho => hlo k (by omega) o ho)
        rw [hlb, hk]
        refine awp_exit ?_
        refine awp_seq ?_
        refine awp_region ?_
        refine al_d rfl rfl rfl (by exact opd_move rfl rfl) ?_
        refine al_d rfl rfl rfl (by exact opd_move rfl rfl) ?_
        refine al_d rfl rfl rfl (by exact opd_move rfl rfl) ?_
        refine al_d rfl rfl rfl (by exact opd_lss rfl rfl rfl) ?_
        refine al_d rfl rfl rfl (by exact opd_move rfl rfl) ?_
        refine al_off rfl rfl rfl (by assumption) rfl ?_
        refine al_off rfl rfl rfl (by assumption) rfl ?_
        refine al_off rfl rfl rfl (by assumption) rfl ?_
        refine al_off rfl rfl rfl (by assumption) rfl ?_
        refine al_off rfl rfl rfl (by assumption) rfl ?_
        refine al_off rfl rfl rfl (by assumption) rfl ?_
        refine al_off rfl rfl rfl (by assumption) rfl ?_
        refine al_off rfl rfl rfl (by assumption) rfl ?_
        refine al_d rfl rfl rfl (by exact (by exact opd_pickf rfl rfl (by assumption) rfl)) ?_
        refine al_d rfl rfl rfl (by exact opd_assign rfl rfl) ?_
        refine al_d rfl rfl rfl (by exact opd_assign rfl rfl) ?_
        refine al_nil ?_
        refine awp_ret ?_
        -- return
        refine aret2 (H' := H) (by exact .inr rfl) rfl (rval_tmp rfl) (rval_tmp rfl) Fin.refl ?_
        exact ⟨rfl, rfl⟩
end Go.Proofs.Ytedfihgkopejcaa
end
section
set_option linter.unusedVariables false
set_option linter.unusedSimpArgs false
set_option maxRecDepth 100000
namespace Go.Proofs.Ytedfihgkopejcaa
open Go.Abs
theorem lbI_le {α : Type} (f : α → ByteArray) (l : List α) (s : ByteArray) : lbI f l s ≤ l.length := List.findIdx_le_length
theorem hasK_get {α : Type} {f : α → ByteArray} {l : List α} {s : ByteArray} (ha : asc f l) (h : hasK f l s = true) : ∃ o, l[lbI f l s]? = some o ∧ f o = s := by
  rw [hasK, List.any_eq_true] at h
  obtain ⟨x, hx, he⟩ := h
  have he := of_decide_eq_true he
  obtain ⟨k, hk⟩ := List.mem_iff_getElem?.1 hx
  have : lbI f l s = k := lbI_of (by have := (List.getElem?_eq_some_iff.1 hk).1; omega) (fun j hj o ho => by rw [← he]; exact asc_get ha hj ho hk) (fun o ho => by rw [hk] at ho; cases ho; rw [he, slt_irr])
  exact ⟨x, by rw [this]; exact hk, he⟩
abbrev pvR (ps : List (List PV)) : List (List AV) := ps.map (·.map .pv)
theorem pvR_take (ps : List (List PV)) (i : Nat) : (pvR ps).take i = pvR (ps.take i) := List.map_take.symm
theorem pvR_drop (ps : List (List PV)) (i : Nat) : (pvR ps).drop i = pvR (ps.drop i) := List.map_drop.symm
theorem pvR_len (ps : List (List PV)) : (pvR ps).length = ps.length := List.length_map _
theorem pvR_rl {ps : List (List PV)} {n : Nat} (h : ∀ r ∈ ps, r.length = n) : ∀ r ∈ pvR ps, r.length = n := fun r hr => by
  obtain ⟨q, hq, rfl⟩ := List.mem_map.1 hr
  rw [List.length_map]; exact h q hq
theorem clo_two (a b : PV) (H : Heap) : ∀ r ∈ [[AV.pv a, AV.pv b]], ∀ x ∈ r, Clo H x := by simp
/-- The rows while an element is put in. -/
theorem ins_a {α : Type} {R : List α} {z : α} {i n : Nat} (q : α) (hn : R.length = n) (hi : i < n) : (R.take i ++ List.replicate (n + 1 - i) z).take i ++ ([q] ++ (R.take i ++ List.replicate (n + 1 - i) z).drop (i + 1)) = R.take i ++ q :: List.replicate (n - i) z := by
  apply List.ext_getElem?
  intro k
  simp only [List.getElem?_append, List.getElem?_take, List.getElem?_drop, List.getElem?_replicate, List.length_append, List.length_take, List.length_replicate, List.length_drop, List.length_cons, List.length_nil, List.getElem?_cons]
  repeat' split
  all_goals first | rfl | omega
theorem ins_b {α : Type} {R : List α} {z q : α} {i n : Nat} (hn : R.length = n) (hi : i < n) : (R.take i ++ q :: List.replicate (n - i) z).take (i + 1) ++ ((R.drop i).take (n - i) ++ (R.take i ++ q :: List.replicate (n - i) z).drop (i + 1 + (n - i))) = R.take i ++ q :: R.drop i := by
  apply List.ext_getElem?
  intro k
  simp only [List.getElem?_append, List.getElem?_take, List.getElem?_drop, List.getElem?_replicate, List.length_append, List.length_take, List.length_replicate, List.length_drop, List.length_cons, List.length_nil, List.getElem?_cons]
  repeat' split
  all_goals first | rfl | omega | (congr 1; omega) | (symm; apply List.getElem?_eq_none; omega)
theorem ins_c {α : Type} {R : List α} {i n : Nat} (hn : R.length = n) (hi : i < n) : ∃ x, R.take (i + 1) ++ ((R.drop i).take (n - i) ++ R.drop (i + 1 + (n - i))) = R.take i ++ x :: R.drop i := by
  have hlt : i < R.length := by omega
  refine ⟨R[i], ?_⟩
  rw [List.take_succ_eq_append_getElem hlt, List.take_of_length_le (l := R.drop i) (by rw [List.length_drop]; omega), show R.drop (i + 1 + (n - i)) = [] from List.drop_eq_nil_of_le (by omega), List.append_nil, List.append_assoc]
  rfl
theorem ins_d {α : Type} {R : List α} {i n : Nat} (q x : α) (hn : R.length = n) (hi : i < n) : (R.take i ++ x :: R.drop i).take i ++ ([q] ++ (R.take i ++ x :: R.drop i).drop (i + 1)) = R.take i ++ q :: R.drop i := by
  have h1 : (R.take i).length = i := by rw [List.length_take]; omega
  rw [List.take_left' h1, show R.take i ++ x :: R.drop i = (R.take i ++ [x]) ++ R.drop i by simp, List.drop_left' (by simp [h1])]
  simp
/-- The rows while elements are taken out. -/
theorem del_a {α : Type} {R : List α} {i j n : Nat} (hn : R.length = n) (hij : i ≤ j) (hj : j ≤ n) : (R.take i ++ ((R.drop j).take (n - j) ++ R.drop (i + (n - j)))).take (i + (n - j)) = R.take i ++ R.drop j := by
  have h1 : (R.take i).length = i := by rw [List.length_take]; omega
  have h2 : (R.drop j).length = n - j := by rw [List.length_drop]; omega
  rw [List.take_of_length_le (l := R.drop j) (by omega), ← List.append_assoc, List.take_left' (by simp [h1, h2])]
/-- The one object in front is what is returned, for good. -/
theorem Fin.sliceG {G0 H H1 : Heap} {id g n : Nat} (ob : Ob) (ps : List (List PV)) (hH1 : ∀ j, Heap.get ((id, ob) :: H) j = H1.get j) (hg : ob.g = g) (hps : ob.rows = ps.map (·.map .pv)) (hn : ps.length = n) (hc : Closed H) (hid : H.get id = none) (hG : G0.get id = none) :
    Fin G0 H1 (.osl id g 0 n) H (.pv (.sl ps)) :=
  (Fin.get' (H' := (id, ob) :: H) hH1).trans (Fin.slice [(id, ob)] ps (get_cons_same _ _ _) hg hps hn hc (by simp [hid]) (by simp [hG]) hid)
/-- An object of the caller's ends with what is returned. -/
theorem Fin.deadG {G0 H H1 : Heap} {id k g off n sz ty : Nat} {rows : List (List AV)} {qs : List (List PV)} (ps : List (List PV)) (hH1 : ∀ j, Heap.get ((id, (⟨g, sz, ty, rows⟩ : Ob)) :: H) j = H1.get j) (hk : g < k) (hsz : Nat.blt 0 sz = true) (hps : rows = ps.map (·.map .pv)) (hq : (ps.take (off + n)).drop off = qs) :
    Fin G0 H1 (.osl id g off n) ((id, ⟨k, sz, ty, []⟩) :: H) (.pv (.sl qs)) :=
  ((Fin.get' (H' := (id, ⟨g, sz, ty, rows⟩) :: H) hH1).trans (Fin.deadS ps (get_cons_same _ _ _) rfl hk (by simpa [Nat.blt_eq] using hsz) rfl rfl hps hq)).trans (Fin.get' (fun j => get_dup _ _ _ _ j))
/-- slices.Clone at planisphere/api.Tag. -/
theorem clone_Tag (ps : List (List PV)) (H : Heap) (hc : Closed H) (h1 : H.get 901 = none) (h2 : H.get 902 = none) (hl : ps.length < 1099511627776) (hrl : ∀ r ∈ ps, r.length = 2) :
    ACalls Try.prog 30 [.pv (.sl ps)] H (fun r H' => r = .osl 901 1 0 ps.length ∧ H' = (901, ⟨1, 2, 46, pvR ps⟩) :: H) := by
  refine ACalls.body Try.func30 rfl Try.ntmps30 (Nat.le_of_ble_eq_true rfl) ?_
  refine awp_seq ?_
  refine awp_region ?_
  refine al_d rfl rfl rfl (by exact opd_assign rfl rfl) ?_
  refine al_nil ?_
  refine awp_seq ?_
  refine awp_seq ?_
  refine awp_region ?_
  refine al_d rfl rfl rfl (by exact opd_move rfl rfl) ?_
  -- op at slices.go:357 slot 4 binOp [["id", "BinOp.eql"], ["num", 22], ["app", "Operand.tmp", [["num", 3]]], ["app", "Operand.const", [["app", "Value.slice", [["id", "none"], ["num", 0], ["num", 0
  refine al_r rfl rfl (opr_sl_nil rfl Try.underlying22 rfl) ?_
  rintro _ H2 ⟨e2, b, rfl, hb⟩
  rw [e2]
  clear e2 H2
  refine al_nil ?_
  refine awp_cond rfl (fun hc1 => ?_) (fun hc1 => ?_)
  -- cond 1
  · have h0 := hb hc1
    subst h0
    refine awp_seq ?_
    refine awp_region ?_
    refine al_d rfl rfl rfl (by exact opd_assign_own (id := 901) (sz := 2) (ty := 46) rfl h1 rfl) ?_
    refine al_nil ?_
    refine awp_ret ?_
    -- return
    refine aret1 (H' := ((901, ⟨1, 2, 46, []⟩) :: H)) (by exact .inr rfl) rfl (rval_tmp rfl) ((Fin.bump (g := 0) (k := 1) rfl rfl (by decide) rfl rfl rfl).trans (Fin.get' (fun j => get_dup _ _ _ _ j))) ?_
    exact ⟨rfl, rfl⟩
  · skip
    refine awp_skip ?_
    refine awp_seq ?_
    refine awp_region ?_
    refine al_d rfl rfl rfl (by exact x_buildSlice_own (id := 901) rfl so22 rfl rfl rfl rfl (by simp) h1) ?_
    refine al_d rfl rfl rfl (by exact opd_move rfl rfl) ?_
    refine al_d rfl rfl rfl (by exact (by exact x_append rfl so22 ei46 rfl rfl rfl rfl rfl rfl rfl hrl rfl (by omega) (Nat.zero_add _) (List.nil_append _))) ?_
    refine al_d rfl rfl rfl (by exact opd_assign rfl rfl) ?_
    refine al_nil ?_
    refine awp_ret ?_
    -- return
    refine aret1 (H' := ((901, ⟨1, 2, 46, pvR ps⟩) :: H)) (by exact .inr rfl) rfl (rval_tmp rfl) (Fin.get' (fun j => get_dup _ _ _ _ j)) ?_
    exact ⟨rfl, rfl⟩
/-- The model's entry for slices.overlaps. -/
theorem ov_Tag : (Try.f48.name == "runtime.NumGoroutine") = false ∧ Try.f48.body.isNone = true ∧ Extern.findNext Try.f48 = none ∧ Extern.find Try.f48 = some (Extern.SlicesOverlaps.overlaps #[22, 22] #[4]) := ⟨by kernel_rfl, by kernel_rfl, by kernel_rfl, by kernel_rfl⟩
theorem ovop_Tag {N : Nat} {o : Oper} {E : Env} {H : Heap} {x y : Operand} {at_ : Array TypeId} {id1 g1 off1 n1 id2 g2 off2 n2 c2 : Nat} {o1 o2 : Ob} (ho : o.op = .call { callee := .value (.func 48), args := #[x, y], argTypes := at_ }) (hx : aeval E x = some (.osl id1 g1 off1 n1)) (hy : aeval E y = some (.osc id2 g2 off2 n2 c2))
    (h1 : H.get id1 = some o1) (hg1 : o1.g = g1) (h2 : H.get id2 = some o2) (hg2 : o2.g = g2) (hne : Nat.beq id1 id2 = false) (hp1 : 0 < n1) (hpos : 0 < n2 + c2) : OpD Try.prog N o E H (.pv (.bool false)) H := by
  have hv : aargs E (#[x, y] : Array Operand).toList = some [.osl id1 g1 off1 n1, .osc id2 g2 off2 n2 c2] := by simp only [aargs, hx, hy]
  have hF : Try.prog.funcs[(48 : Nat)]? = some Try.f48 := Try.func48
  exact opd_extr ho (f := .func 48) (F := 48) rfl hF ov_Tag.1 ov_Tag.2.1 ov_Tag.2.2.1 ov_Tag.2.2.2 hv (ext_overlaps so22 h1 hg1 h2 hg2 hne hp1 hpos)
/-- slices.Insert of one element at planisphere/api.Tag. -/
theorem insert_Tag (ps : List (List PV)) (p : List PV) (i g : Nat) (H : Heap) (hc : Closed H) (h1 : H.get 901 = some ⟨g, 2, 46, pvR ps⟩) (h2 : H.get 902 = some ⟨0, 2, 46, [p.map .pv]⟩) (h3 : H.get 903 = none) (hl : ps.length < 1099511627776) (hi : i ≤ ps.length) (hrl : ∀ r ∈ ps, r.length = 2) (hp : p.length = 2) :
    ACalls Try.prog 32 [.osl 901 g 0 ps.length, iv (i : Int), .osl 902 0 0 1] H (fun r H' => r = .pv (.sl (ps.take i ++ p :: ps.drop i)) ∧ H' = (901, ⟨g + 3, 2, 46, []⟩) :: H) := by
  have hpl : (pvR ps).length = ps.length := pvR_len ps
  have hR := pvR_rl hrl
  have hp1 : ∀ r ∈ [p.map AV.pv], r.length = 2 := by intro r hr; rw [List.mem_singleton] at hr; subst hr; rw [List.length_map]; exact hp
  have hfin : pvR (ps.take i ++ p :: ps.drop i) = (pvR ps).take i ++ p.map AV.pv :: (pvR ps).drop i := by rw [pvR_take, pvR_drop, pvR, List.map_append, List.map_cons]
  refine ACalls.body Try.func32 rfl Try.ntmps32 (Nat.le_of_ble_eq_true rfl) ?_
  refine awp_cap (t := 0) rfl h1 rfl ?_
  intro c hcn hcm
  refine awp_seq ?_
  refine awp_region ?_
  refine al_d rfl rfl rfl (by exact opd_assign rfl rfl) ?_
  refine al_nil ?_
  refine awp_seq ?_
  refine awp_region ?_
  refine al_d rfl rfl rfl (by exact opd_move rfl rfl) ?_
  refine al_d rfl rfl rfl (by exact opd_move rfl rfl) ?_
  refine al_d rfl rfl rfl (by exact x_slice_osc (l := i) (h := ps.length) rfl so22 rfl h1 rfl rfl rfl rfl hi hcn rfl rfl rfl) ?_
  refine al_nil ?_
  refine awp_seq ?_
  refine awp_region ?_
  refine al_d rfl rfl rfl (by exact opd_move rfl rfl) ?_
  refine al_d rfl rfl rfl (by exact (by exact opd_len_osl rfl Try.underlying22 rfl h2 rfl)) ?_
  refine al_d rfl rfl rfl (by exact opd_assign rfl rfl) ?_
  refine al_nil ?_
  refine awp_seq ?_
  refine awp_seq ?_
  refine awp_region ?_
  refine al_d rfl rfl rfl (by exact opd_move rfl rfl) ?_
  refine al_d rfl rfl rfl (by exact opd_eql rfl rfl rfl) ?_
  refine al_nil ?_
  refine awp_cond rfl (fun hc1 => ?_) (fun hc1 => ?_)
  -- cond 1
  · cases hc1
  · skip
    refine awp_skip ?_
    refine awp_seq ?_
    refine awp_region ?_
    refine al_d rfl rfl rfl (by exact opd_move rfl rfl) ?_
    refine al_d rfl rfl rfl (by exact opd_len_osc rfl Try.underlying22 rfl h1 rfl) ?_
    refine al_d rfl rfl rfl (by exact opd_assign rfl rfl) ?_
    refine al_nil ?_
    refine awp_seq ?_
    refine awp_seq ?_
    refine awp_region ?_
    refine al_d rfl rfl rfl (by exact opd_move rfl rfl) ?_
    refine al_d rfl rfl rfl (by exact opd_move rfl rfl) ?_
    refine al_d rfl rfl rfl (by exact opd_eql rfl rfl rfl) ?_
    refine al_nil ?_
    refine awp_cond rfl (fun hc2 => ?_) (fun hc2 => ?_)
    -- cond 2
    · have hin : i = ps.length := by have := of_decide_eq_true hc2; omega
      subst hin
      refine awp_uncap (t := 0) rfl h1 rfl (by rw [hpl]; omega) ?_
      refine awp_seq ?_
      refine awp_region ?_
      refine al_d rfl rfl rfl (by exact opd_move rfl rfl) ?_
      refine al_d rfl rfl rfl (by exact opd_move rfl rfl) ?_
      refine al_d rfl rfl rfl (by exact x_append_osl rfl so22 ei46 rfl h1 rfl rfl rfl hpl rfl h2 rfl rfl hp1 (by simp) (by omega) rfl rfl) ?_
      refine al_d rfl rfl rfl (by exact opd_assign rfl rfl) ?_
      refine al_nil ?_
      refine awp_ret ?_
      -- return
      refine aret1 (H' := ((901, ⟨g + 3, 2, 46, []⟩) :: H)) (by exact .inr rfl) rfl (rval_tmp rfl) ((Fin.deadS (g := g + 1) (k := g + 3) (sz := 2) (ty := 46) (ps ++ [p]) rfl rfl (by omega) (Nat.le_of_ble_eq_true rfl) rfl rfl (by rw [List.map_append]; rfl) (qs := ps.take ps.length ++ p :: ps.drop ps.length) (by rw [List.take_of_length_le (by simp), List.drop_zero, List.take_length, List.drop_length])).trans (Fin.get' (fun j => get_dup _ _ _ _ j))) ?_
      exact ⟨rfl, rfl⟩
    · have hin : i < ps.length := by have := of_decide_eq_false hc2; omega
      refine awp_skip ?_
      refine awp_seq ?_
      refine awp_seq ?_
      refine awp_region ?_
      refine al_d rfl rfl rfl (by exact opd_move rfl rfl) ?_
      refine al_d rfl rfl rfl (by exact opd_move rfl rfl) ?_
      refine al_d rfl rfl rfl (by exact opd_add rfl rfl rfl (by exact w64 (by omega) (by omega))) ?_
      refine al_d rfl rfl rfl (by exact opd_move rfl rfl) ?_
      refine al_d rfl rfl rfl (by exact opd_cap_osc rfl Try.underlying22 rfl h1 rfl) ?_
      refine al_d rfl rfl rfl (by exact opd_gtr rfl rfl rfl) ?_
      refine al_nil ?_
      refine awp_cond rfl (fun hc3 => ?_) (fun hc3 => ?_)
      -- cond 3
      · have hgt : c < ps.length + 1 := by have := of_decide_eq_true hc3; omega
        refine awp_seq ?_
        refine awp_region ?_
        refine al_d rfl rfl rfl (by exact opd_move rfl rfl) ?_
        refine al_d rfl rfl rfl (by exact opd_move rfl rfl) ?_
        refine al_d rfl rfl rfl (by exact x_slice_osc (l := 0) (h := i) rfl so22 rfl h1 rfl rfl rfl rfl (by omega) (by omega) rfl rfl rfl) ?_
        refine al_d rfl rfl rfl (by exact opd_move rfl rfl) ?_
        refine al_d rfl rfl rfl (by exact opd_move rfl rfl) ?_
        refine al_d rfl rfl rfl (by exact opd_add rfl rfl rfl (by exact w64 (by omega) (by omega))) ?_
        refine al_d rfl rfl rfl (by exact opd_move rfl rfl) ?_
        refine al_d rfl rfl rfl (by exact opd_sub rfl rfl rfl (by exact w64 (by omega) (by omega))) ?_
        refine al_d rfl rfl rfl (by exact x_append_zeros (id2 := 903) (m := ps.length + 1 - i) rfl so22 Try.underlying3 ei46 zo46 rfl rfl h1 rfl rfl (by rw [hpl]; omega) rfl (by omega) (by omega) (by omega) rfl (by omega) h3 rfl) ?_
        refine al_d rfl rfl rfl (by exact opd_assign rfl rfl) ?_
        refine al_nil ?_
        refine awp_seq ?_
        refine awp_region ?_
        refine al_d rfl rfl rfl (by exact opd_move rfl rfl) ?_
        refine al_d rfl rfl rfl (by exact opd_move rfl rfl) ?_
        refine al_d rfl rfl rfl (by exact x_slice_osl (l := i) (h := i + (ps.length + 1 - i)) rfl so22 rfl rfl rfl rfl rfl rfl (by omega) (by omega) (Nat.zero_add _) (by omega : i + (ps.length + 1 - i) - i = ps.length + 1 - i)) ?_
        refine al_d rfl rfl rfl (by exact opd_move rfl rfl) ?_
        refine al_d rfl rfl rfl (by exact x_copy (n := 1) rfl so22 (dst_of_osl rfl rfl rfl) rfl rfl rfl (by simp only [List.length_append, List.length_take, List.length_replicate, hpl]; omega) (src_of_osl (k := 1) rfl h2 rfl rfl (by omega) rfl) hp1 rfl (by omega) (ins_a (p.map AV.pv) hpl hin)) ?_
        refine al_nil ?_
        refine awp_seq ?_
        refine awp_drawc follows ?_
        refine dc_cons (r := ⟨_, some [], []⟩) (DStep.plain rfl (fun H1 hH => by exact opd_move rfl rfl)) rfl ?_
        refine dc_cons (r := ⟨_, some [], []⟩) (DStep.plain rfl (fun H1 hH => by exact opd_move rfl rfl)) rfl ?_
        refine dc_cons (r := ⟨_, some [], []⟩) (DStep.plain rfl (fun H1 hH => by exact opd_move rfl rfl)) rfl ?_
        refine dc_cons (r := ⟨_, some [], []⟩) (DStep.plain rfl (fun H1 hH => by exact opd_add rfl rfl rfl (by exact w64 (by omega) (by omega)))) rfl ?_
        refine dc_cons (r := ⟨_, some [903], []⟩) (DStep.plain rfl (fun H1 hH => by exact x_slice_osl (l := i + 1) (h := i + (ps.length + 1 - i)) rfl so22 rfl ((hH 903 rfl).trans rfl) rfl rfl rfl rfl (by omega) (by omega) (Nat.zero_add _) (by omega : i + (ps.length + 1 - i) - (i + 1) = ps.length - i))) rfl ?_
        refine dc_cons (r := ⟨_, some [], []⟩) (DStep.plain rfl (fun H1 hH => by exact opd_move rfl rfl)) rfl ?_
        refine dc_cons (r := ⟨_, some [], []⟩) (DStep.plain rfl (fun H1 hH => by exact opd_move rfl rfl)) rfl ?_
        refine dc_cons (r := ⟨_, some [901], []⟩) (DStep.plain rfl (fun H1 hH => by exact x_slice_osc (l := i) (h := ps.length) rfl so22 rfl ((hH 901 rfl).trans h1) rfl rfl rfl rfl (by omega) (by omega) (Nat.zero_add _) rfl rfl)) rfl ?_
        refine dc_cons (r := ⟨_, some [901, 903], [_]⟩) (DStep.plain rfl (fun H1 hH => by exact x_copy (n := ps.length - i) rfl so22 (dst_of_osl rfl ((hH 903 rfl).trans rfl) rfl) ((hH 903 rfl).trans rfl) rfl rfl (by simp only [List.length_append, List.length_take, List.length_replicate, List.length_cons, hpl]; omega) (src_of_osc (k := ps.length - i) rfl ((hH 901 rfl).trans h1) rfl rfl (by omega) (by rw [hpl]; omega) rfl) (fun r hr => hR r (List.mem_of_mem_drop (List.mem_of_mem_take hr))) (by rw [List.length_take, List.length_drop, hpl]; omega) (by omega) (ins_b hpl hin))) rfl ?_
        refine dc_nil ⟨by kernel_rfl, ?_⟩
        refine awp_seq ?_
        refine awp_region ?_
        refine al_d rfl rfl rfl (by exact opd_move rfl rfl) ?_
        refine al_d rfl rfl rfl (by exact opd_assign rfl rfl) ?_
        refine al_nil ?_
        refine awp_ret ?_
        -- return
        refine aret1 (H' := ((901, ⟨g + 3, 2, 46, []⟩) :: H)) (by exact .inr rfl) rfl (rval_tmp rfl) ((Fin.sliceG (id := 903) (g := 0) ⟨0, 2, 46, (pvR ps).take i ++ p.map AV.pv :: (pvR ps).drop i⟩ (ps.take i ++ p :: ps.drop i) (fun j => by cases e : Nat.beq 903 j <;> simp [Heap.get, e]) rfl hfin.symm (by simp only [List.length_append, List.length_take, List.length_cons, List.length_drop]; omega) hc h3 h3).trans (Fin.deadO (k := g + 3) (sz := 2) (ty := 46) h1 (by show g < g + 3; omega) (Nat.le_of_ble_eq_true rfl) rfl rfl)) ?_
        exact ⟨rfl, rfl⟩
      · have hle : ps.length + 1 ≤ c := by have := of_decide_eq_false hc3; omega
        obtain ⟨x, hx⟩ := ins_c hpl hin
        refine awp_skip ?_
        refine awp_seq ?_
        refine awp_region ?_
        refine al_d rfl rfl rfl (by exact opd_move rfl rfl) ?_
        refine al_d rfl rfl rfl (by exact opd_move rfl rfl) ?_
        refine al_d rfl rfl rfl (by exact opd_move rfl rfl) ?_
        refine al_d rfl rfl rfl (by exact opd_add rfl rfl rfl (by exact w64 (by omega) (by omega))) ?_
        refine al_d rfl rfl rfl (by exact x_slice_osc (l := 0) (h := ps.length + 1) rfl so22 rfl h1 rfl rfl rfl rfl (by omega) hle rfl rfl rfl) ?_
        refine al_d rfl rfl rfl (by exact opd_assign rfl rfl) ?_
        refine al_nil ?_
        refine awp_seq ?_
        refine awp_seq ?_
        refine awp_region ?_
        refine al_d rfl rfl rfl (by exact opd_move rfl rfl) ?_
        refine al_d rfl rfl rfl (by exact opd_move rfl rfl) ?_
        refine al_d rfl rfl rfl (by exact opd_move rfl rfl) ?_
        refine al_d rfl rfl rfl (by exact opd_move rfl rfl) ?_
        refine al_d rfl rfl rfl (by exact opd_add rfl rfl rfl (by exact w64 (by omega) (by omega))) ?_
        refine al_d rfl rfl rfl (by exact x_slice_osc (l := i + 1) (h := ps.length + 1) rfl so22 rfl h1 rfl rfl rfl rfl (by omega) hle (Nat.zero_add _) (by omega : ps.length + 1 - (i + 1) = ps.length - i) rfl) ?_
        refine al_d rfl rfl rfl (by exact ovop_Tag rfl rfl rfl h2 rfl h1 rfl rfl (by omega) (by omega)) ?_
        refine al_d rfl rfl rfl (by exact opd_not rfl rfl) ?_
        refine al_nil ?_
        refine awp_cond rfl (fun hc4 => ?_) (fun hc4 => ?_)
        -- cond 4
        · skip
          refine awp_seq ?_
          refine awp_drawc follows ?_
          refine dc_cons (r := ⟨_, some [], []⟩) (DStep.plain rfl (fun H1 hH => by exact opd_move rfl rfl)) rfl ?_
          refine dc_cons (r := ⟨_, some [], []⟩) (DStep.plain rfl (fun H1 hH => by exact opd_move rfl rfl)) rfl ?_
          refine dc_cons (r := ⟨_, some [], []⟩) (DStep.plain rfl (fun H1 hH => by exact opd_move rfl rfl)) rfl ?_
          refine dc_cons (r := ⟨_, some [], []⟩) (DStep.plain rfl (fun H1 hH => by exact opd_add rfl rfl rfl (by exact w64 (by omega) (by omega)))) rfl ?_
          refine dc_cons (r := ⟨_, some [901], []⟩) (DStep.plain rfl (fun H1 hH => by exact x_slice_osc (l := i + 1) (h := ps.length + 1) rfl so22 rfl ((hH 901 rfl).trans h1) rfl rfl rfl rfl (by omega) hle (Nat.zero_add _) (by omega : ps.length + 1 - (i + 1) = ps.length - i) rfl)) rfl ?_
          refine dc_cons (r := ⟨_, some [], []⟩) (DStep.plain rfl (fun H1 hH => by exact opd_move rfl rfl)) rfl ?_
          refine dc_cons (r := ⟨_, some [], []⟩) (DStep.plain rfl (fun H1 hH => by exact opd_move rfl rfl)) rfl ?_
          refine dc_cons (r := ⟨_, some [901], []⟩) (DStep.plain rfl (fun H1 hH => by exact x_slice_osc (l := i) (h := ps.length + 1) rfl so22 rfl ((hH 901 rfl).trans h1) rfl rfl rfl rfl (by omega) hle (Nat.zero_add _) rfl rfl)) rfl ?_
          refine dc_cons (r := ⟨_, some [901], [_]⟩) (DStep.plain rfl (fun H1 hH => by exact x_copy (n := ps.length - i) rfl so22 (dst_of_osc rfl) ((hH 901 rfl).trans h1) rfl rfl (by rw [hpl]; omega) (src_of_osc (k := ps.length - i) rfl ((hH 901 rfl).trans h1) rfl rfl (by omega) (by rw [hpl]; omega) rfl) (fun r hr => hR r (List.mem_of_mem_drop (List.mem_of_mem_take hr))) (by rw [List.length_take, List.length_drop, hpl]; omega) (by omega) hx)) rfl ?_
          refine dc_nil ⟨by kernel_rfl, ?_⟩
          refine awp_seq ?_
          refine awp_region ?_
          refine al_d rfl rfl rfl (by exact opd_move rfl rfl) ?_
          refine al_d rfl rfl rfl (by exact opd_move rfl rfl) ?_
          refine al_d rfl rfl rfl (by exact x_slice_osc (l := i) (h := ps.length + 1) rfl so22 rfl rfl rfl rfl rfl rfl (by omega) hle (Nat.zero_add _) rfl rfl) ?_
          refine al_d rfl rfl rfl (by exact opd_move rfl rfl) ?_
          refine al_d rfl rfl rfl (by exact x_copy (n := 1) rfl so22 (dst_of_osc rfl) rfl rfl rfl (by simp only [List.length_append, List.length_take, List.length_cons, hpl]; omega) (src_of_osl (k := 1) rfl h2 rfl rfl (by omega) rfl) hp1 rfl (by omega) (ins_d (p.map AV.pv) x hpl hin)) ?_
          refine al_nil ?_
          refine awp_seq ?_
          -- before the slot
          refine awp_uncap (t := 0) rfl rfl rfl (by simp only [List.length_append, List.length_take, List.length_cons, List.length_drop, hpl]; omega) ?_
          refine awp_region ?_
          refine al_d rfl rfl rfl (by exact opd_move rfl rfl) ?_
          refine al_d rfl rfl rfl (by exact opd_assign rfl rfl) ?_
          refine al_nil ?_
          refine awp_ret ?_
          -- return
          refine aret1 (H' := ((901, ⟨g + 3, 2, 46, []⟩) :: H)) (by exact .inr rfl) rfl (rval_tmp rfl) (Fin.deadG (id := 901) (k := g + 3) (sz := 2) (ty := 46) (rows := (pvR ps).take i ++ p.map AV.pv :: (pvR ps).drop i) (qs := ps.take i ++ p :: ps.drop i) (ps.take i ++ p :: ps.drop i) (fun j => by cases e : Nat.beq 901 j <;> simp [Heap.get, e]) (by omega) rfl hfin.symm (by rw [List.drop_zero]; exact List.take_of_length_le (by simp only [List.length_append, List.length_take, List.length_cons, List.length_drop]; omega))) ?_
          exact ⟨rfl, rfl⟩
        · cases hc4
/-- slices.Delete at planisphere/api.Tag. -/
theorem delete_Tag (ps : List (List PV)) (i j g : Nat) (H : Heap) (hc : Closed H) (h1 : H.get 901 = some ⟨g, 2, 46, pvR ps⟩) (hl : ps.length < 1099511627776) (hij : i ≤ j) (hj : j ≤ ps.length) (hrl : ∀ r ∈ ps, r.length = 2) :
    ACalls Try.prog 31 [.osl 901 g 0 ps.length, iv (i : Int), iv (j : Int)] H (fun r H' => r = .pv (.sl (ps.take i ++ ps.drop j)) ∧ H' = (901, ⟨g + 3, 2, 46, []⟩) :: H) := by
  have hpl : (pvR ps).length = ps.length := pvR_len ps
  have hR := pvR_rl hrl
  refine ACalls.body Try.func31 rfl Try.ntmps31 (Nat.le_of_ble_eq_true rfl) ?_
  refine awp_cap (t := 0) rfl h1 rfl ?_
  intro c hcn hcm
  refine awp_seq ?_
  refine awp_region ?_
  refine al_d rfl rfl rfl (by exact opd_assign rfl rfl) ?_
  refine al_nil ?_
  refine awp_seq ?_
  refine awp_region ?_
  refine al_d rfl rfl rfl (by exact opd_move rfl rfl) ?_
  refine al_d rfl rfl rfl (by exact opd_move rfl rfl) ?_
  refine al_d rfl rfl rfl (by exact opd_move rfl rfl) ?_
  refine al_d rfl rfl rfl (by exact opd_move rfl rfl) ?_
  refine al_d rfl rfl rfl (by exact opd_len_osc rfl Try.underlying22 rfl h1 rfl) ?_
  refine al_d rfl rfl rfl (by exact x_slice_chk (l := i) (h := j) (m := ps.length) rfl so22 rfl h1 rfl rfl rfl rfl hij hj hcn) ?_
  refine al_nil ?_
  refine awp_seq ?_
  refine awp_seq ?_
  refine awp_region ?_
  refine al_d rfl rfl rfl (by exact opd_move rfl rfl) ?_
  refine al_d rfl rfl rfl (by exact opd_move rfl rfl) ?_
  refine al_d rfl rfl rfl (by exact opd_eql rfl rfl rfl) ?_
  refine al_nil ?_
  refine awp_cond rfl (fun hc1 => ?_) (fun hc1 => ?_)
  -- cond 1
  · have e : i = j := by have := of_decide_eq_true hc1; omega
    subst e
    refine awp_uncap (t := 0) rfl h1 rfl (by rw [hpl]; omega) ?_
    refine awp_seq ?_
    refine awp_region ?_
    refine al_d rfl rfl rfl (by exact opd_move rfl rfl) ?_
    refine al_d rfl rfl rfl (by exact opd_assign rfl rfl) ?_
    refine al_nil ?_
    refine awp_ret ?_
    -- return
    refine aret1 (H' := ((901, ⟨g + 3, 2, 46, []⟩) :: H)) (by exact .inr rfl) rfl (rval_tmp rfl) ((Fin.deadS (g := g) (k := g + 3) (sz := 2) (ty := 46) ps h1 rfl (by omega) (Nat.le_of_ble_eq_true rfl) rfl rfl rfl (qs := ps.take i ++ ps.drop i) (by rw [Nat.zero_add, List.drop_zero, List.take_length, List.take_append_drop]))) ?_
    exact ⟨rfl, rfl⟩
  · have hne : i < j := by have := of_decide_eq_false hc1; omega
    have hd := del_a hpl hij hj
    have hlen : ((pvR ps).take i ++ (((pvR ps).drop j).take (ps.length - j) ++ (pvR ps).drop (i + (ps.length - j)))).length = ps.length := by
      simp only [List.length_append, List.length_take, List.length_drop, hpl]; omega
    refine awp_skip ?_
    refine awp_seq ?_
    refine awp_region ?_
    refine al_d rfl rfl rfl (by exact opd_move rfl rfl) ?_
    refine al_d rfl rfl rfl (by exact opd_len_osc rfl Try.underlying22 rfl h1 rfl) ?_
    refine al_d rfl rfl rfl (by exact opd_assign rfl rfl) ?_
    refine al_nil ?_
    refine awp_seq ?_
    refine awp_drawc follows ?_
    refine dc_cons (r := ⟨_, some [], []⟩) (DStep.plain rfl (fun H1 hH => by exact opd_move rfl rfl)) rfl ?_
    refine dc_cons (r := ⟨_, some [], []⟩) (DStep.plain rfl (fun H1 hH => by exact opd_move rfl rfl)) rfl ?_
    refine dc_cons (r := ⟨_, some [901], []⟩) (DStep.plain rfl (fun H1 hH => by exact x_slice_osc (l := 0) (h := i) rfl so22 rfl ((hH 901 rfl).trans h1) rfl rfl rfl rfl (by omega) (by omega) rfl (Nat.sub_zero _) (Nat.sub_zero _))) rfl ?_
    refine dc_cons (r := ⟨_, some [], []⟩) (DStep.plain rfl (fun H1 hH => by exact opd_move rfl rfl)) rfl ?_
    refine dc_cons (r := ⟨_, some [], []⟩) (DStep.plain rfl (fun H1 hH => by exact opd_move rfl rfl)) rfl ?_
    refine dc_cons (r := ⟨_, some [901], []⟩) (DStep.plain rfl (fun H1 hH => by exact x_slice_osc (l := j) (h := ps.length) rfl so22 rfl ((hH 901 rfl).trans h1) rfl rfl rfl rfl (by omega) hcn (Nat.zero_add _) rfl rfl)) rfl ?_
    refine dc_cons (r := ⟨_, some [901], [_]⟩) (DStep.plain rfl (fun H1 hH => by exact x_append_room (m := ps.length - j) (rows' := (pvR ps).take i ++ (((pvR ps).drop j).take (ps.length - j) ++ (pvR ps).drop (i + (ps.length - j)))) rfl so22 ei46 rfl ((hH 901 rfl).trans h1) rfl rfl rfl (by rw [hpl]; omega) (src_of_osc (k := ps.length - j) rfl ((hH 901 rfl).trans h1) rfl rfl (by omega) (by rw [hpl]; omega) rfl) (fun r hr => hR r (List.mem_of_mem_drop (List.mem_of_mem_take hr))) (by rw [List.length_take, List.length_drop, hpl]; omega) (by omega) rfl (by rw [Nat.zero_add]))) rfl ?_
    refine dc_cons (r := ⟨_, some [], []⟩) (DStep.plain rfl (fun H1 hH => by exact opd_assign rfl rfl)) rfl ?_
    refine dc_nil ⟨by kernel_rfl, ?_⟩
    refine awp_seq ?_
    refine awp_region ?_
    refine al_d rfl rfl rfl (by exact opd_move rfl rfl) ?_
    refine al_d rfl rfl rfl (by exact opd_move rfl rfl) ?_
    refine al_d rfl rfl rfl (by exact opd_len_osc rfl Try.underlying22 rfl rfl rfl) ?_
    refine al_d rfl rfl rfl (by exact opd_move rfl rfl) ?_
    refine al_d rfl rfl rfl (by exact x_slice_osc (l := i + (ps.length - j)) (h := ps.length) rfl so22 rfl rfl rfl rfl rfl rfl (by omega) hcn (Nat.zero_add _) rfl rfl) ?_
    refine al_n rfl rfl (by exact opd_clear rfl so22 zo46 rfl rfl rfl rfl rfl (by rw [hlen]; omega) (by rw [hd, show i + (ps.length - j) + (ps.length - (i + (ps.length - j))) = ps.length by omega, List.drop_eq_nil_of_le (Nat.le_of_eq hlen), List.append_nil])) ?_
    refine al_nil ?_
    refine awp_seq ?_
    -- before the slot
    refine awp_uncap (t := 0) rfl rfl rfl (by simp only [List.length_append, List.length_take, List.length_drop, hpl]; omega) ?_
    refine awp_region ?_
    refine al_d rfl rfl rfl (by exact opd_move rfl rfl) ?_
    refine al_d rfl rfl rfl (by exact opd_assign rfl rfl) ?_
    refine al_nil ?_
    refine awp_ret ?_
    -- return
    refine aret1 (H' := ((901, ⟨g + 3, 2, 46, []⟩) :: H)) (by exact .inr rfl) rfl (rval_tmp rfl) (Fin.deadG (id := 901) (k := g + 3) (sz := 2) (ty := 46) (rows := (pvR ps).take i ++ (pvR ps).drop j ++ List.replicate (ps.length - (i + (ps.length - j))) (List.map AV.pv [.str ⟨#[]⟩, .str ⟨#[]⟩])) (qs := ps.take i ++ ps.drop j) ((ps.take i ++ ps.drop j) ++ List.replicate (ps.length - (i + (ps.length - j))) [.str ⟨#[]⟩, .str ⟨#[]⟩]) (fun j => by cases e : Nat.beq 901 j <;> simp [Heap.get, e]) (by omega) rfl (by rw [List.map_append, List.map_replicate, List.map_append, pvR_take, pvR_drop]) (by rw [List.drop_zero]; exact List.take_left' (by simp only [List.length_append, List.length_take, List.length_drop]; omega))) ?_
    exact ⟨rfl, rfl⟩
end Go.Proofs.Ytedfihgkopejcaa
end
section
set_option linter.unusedVariables false
set_option linter.unusedSimpArgs false
set_option maxRecDepth 100000
namespace Go.Proofs.Ytedfihgkopejcaa
open Go.Abs

def ascT (l : List GTag) : Prop := asc GTag.key l
theorem badTag_iff {last : ByteArray} {t : GTag} : badTag last t = false ↔ gName t.key = true ∧ slt last t.key = true ∧ t.val ≠ sNil ∧ t.val.size ≤ 200 := by
  simp only [badTag, Bool.or_eq_false_iff, Bool.not_eq_false', sle_iff, decide_eq_false_iff_not]
  constructor
  · rintro ⟨⟨⟨h1, h2⟩, h3⟩, h4⟩
    exact ⟨h1, h2, h3, by omega⟩
  · rintro ⟨h1, h2, h3, h4⟩
    exact ⟨⟨⟨h1, h2⟩, h3⟩, by omega⟩
theorem slt_pos {s : ByteArray} (h : s ≠ sNil) : slt sNil s = true := by
  cases e : slt sNil s with
  | true => rfl
  | false => exact absurd (slt_tri (slt_nil s) e) h
theorem gTags_iff {l : List GTag} : gTags l = true ↔ (∀ t, t ∈ l → gName t.key = true ∧ t.val ≠ sNil ∧ t.val.size ≤ 200) ∧ asc GTag.key l ∧ l.length ≤ 60 := by
  have hlen : decide ((l.length : Int) ≤ 60) = decide (l.length ≤ 60) := by
    rw [Bool.eq_iff_iff, decide_eq_true_eq, decide_eq_true_eq]; omega
  rw [gTags, hlen, Bool.and_eq_true, Bool.not_eq_true', List.any_eq_false, decide_eq_true_eq]
  constructor
  · rintro ⟨h, hn⟩
    have hb : ∀ k t, l[k]? = some t → gName t.key = true ∧ slt (before GTag.key l k) t.key = true ∧ t.val ≠ sNil ∧ t.val.size ≤ 200 := fun k t hk => by
      have h1 := h k (List.mem_range.2 (List.getElem?_eq_some_iff.1 hk).1)
      rw [badAt, hk] at h1
      simp only [Bool.not_eq_true] at h1
      exact badTag_iff.1 h1
    refine ⟨fun t ht => ?_, ?_, hn⟩
    · obtain ⟨k, hk⟩ := List.mem_iff_getElem?.1 ht
      obtain ⟨a, _, b, c⟩ := hb k t hk
      exact ⟨a, b, c⟩
    · have key : ∀ (d i : Nat) (a b : GTag), l[i]? = some a → l[i + d + 1]? = some b → slt a.key b.key = true := by
        intro d
        induction d with
        | zero =>
          intro i a b ha hb'
          have := (hb (i + 1) b hb').2.1
          rw [before, ha] at this
          exact this
        | succ d ih =>
          intro i a b ha hb'
          have hlt : i + d + 1 < l.length := by have := (List.getElem?_eq_some_iff.1 hb').1; omega
          obtain ⟨x, hx⟩ := get_of_lt hlt
          have h2 := (hb (i + (d + 1) + 1) b hb').2.1
          rw [before, show i + (d + 1) = i + d + 1 by omega, hx] at h2
          exact slt_trans (ih i a x ha hx) h2
      rw [asc, List.pairwise_iff_getElem]
      intro i j hi hj hij
      exact key (j - i - 1) i _ _ (List.getElem?_eq_getElem hi) (by rw [show i + (j - i - 1) + 1 = j by omega]; exact List.getElem?_eq_getElem hj)
  · rintro ⟨h1, h2, h3⟩
    refine ⟨fun k hk => ?_, h3⟩
    have hlt := List.mem_range.1 hk
    rw [badAt, List.getElem?_eq_getElem hlt]
    simp only [Bool.not_eq_true]
    obtain ⟨a, b, c⟩ := h1 _ (List.getElem_mem hlt)
    refine badTag_iff.2 ⟨a, ?_, b, c⟩
    cases k with
    | zero =>
      have : l[0].key ≠ sNil := gName_ne a
      exact slt_pos this
    | succ k =>
      rw [before, List.getElem?_eq_getElem (show k < l.length by omega)]
      exact asc_get h2 (Nat.lt_succ_self k) (List.getElem?_eq_getElem (by omega)) (List.getElem?_eq_getElem hlt)
/-- Tags with another value of a key. -/
def gSet (l : List GTag) (key val : ByteArray) : List GTag × Int :=
  if !gTags l || !gName key || decide (200 < (val.size : Int)) then ([], 1)
  else if hasK GTag.key l key then (if val = sNil then (l.take (lbI GTag.key l key) ++ l.drop (lbI GTag.key l key + 1), 0) else (l.set (lbI GTag.key l key) ⟨key, val⟩, 0))
  else if val = sNil then (l, 0)
  else if l.length = 60 then ([], 2)
  else (l.take (lbI GTag.key l key) ++ ⟨key, val⟩ :: l.drop (lbI GTag.key l key), 0)
theorem tagSet1_c (t : GTag) (s : ByteArray) (H : Heap) : ACalls Try.prog 28 [av (encTag t), sv s] H (fun r H' => r = iv (gCmp t.key s) ∧ H' = H) := by
  refine ACalls.pure ?_ (by simp) H
  refine ACalls.body Try.func28 rfl Try.ntmps28 (Nat.le_of_ble_eq_true rfl) ?_
  refine awp_seq ?_
  refine awp_region ?_
  refine al_d rfl rfl rfl (by exact opd_box (id := 2) rfl rfl rfl rfl rfl) ?_
  refine al_d rfl rfl rfl (by exact opd_assign rfl rfl) ?_
  refine al_nil ?_
  refine awp_seq ?_
  refine awp_region ?_
  refine al_d rfl rfl rfl (by exact (by exact opd_field_ref rfl fo46_0 rfl rfl rfl rfl)) ?_
  refine al_d rfl rfl rfl (by exact (by exact opd_load1_ref rfl Try.isAgg9 rfl rfl rfl rfl rfl)) ?_
  refine al_d rfl rfl rfl (by exact opd_move rfl rfl) ?_
  refine al_d rfl rfl rfl (by exact opr_call rfl rfl Try.call29 rfl (compare_c t.key s _)) ?_
  refine al_d rfl rfl rfl (by exact opd_assign rfl rfl) ?_
  refine al_nil ?_
  refine awp_ret ?_
  -- return
  refine aret1 (H' := []) (by exact .inr rfl) rfl (rval_tmp rfl) (Fin.wk (by simp) trivial trivial) ?_
  exact ⟨rfl, rfl⟩
theorem encTag_rl (l : List GTag) : ∀ r ∈ l.map encTag, r.length = 2 := fun r hr => by
  obtain ⟨t, _, rfl⟩ := List.mem_map.1 hr
  rfl
/-- A slice and another value are returned. -/
theorem Fin.tup1 {H1 : Heap} {id g n : Nat} {x : AV} (ob : Ob) (ps : List (List PV)) (hH1 : ∀ j, Heap.get [(id, ob)] j = H1.get j) (hg : ob.g = g) (hps : ob.rows = ps.map (·.map .pv)) (hn : ps.length = n) (hx : Clo [] x) :
    Fin [] H1 (.tup [.osl id g 0 n, x]) [] (.tup [.pv (.sl ps), x]) := by
  subst hg hn
  exact (Fin.get' (H' := [(id, ob)]) hH1).trans (Fin.fz (id := id) (ob := ob) ps (get_cons_same _ _ _) hps (.tup rfl (fz_cons (.osl (by rw [Nat.zero_add, List.drop_zero, List.take_length])) (fz_cons (.same hx) fz_nil))) rfl trivial trivial)
theorem tagSet_c (l : List GTag) (key val : ByteArray) (H : Heap) (hl : okTags l) (hk : key.size < 4611686018427387904) (hv : val.size < 4611686018427387904) (hl2 : l.length < 1099511627776) :
    ACalls Try.prog 11 [.pv (slTags l), sv key, sv val] H (fun r H' => r = .tup [.pv (slTags (gSet l key val).1), iv (gSet l key val).2] ∧ H' = H) := by
  refine ACalls.pure ?_ (by simp) H
  have hml : (l.map encTag).length = l.length := List.length_map _
  have hrl := encTag_rl l
  refine ACalls.body Try.func11 rfl Try.ntmps11 (Nat.le_of_ble_eq_true rfl) ?_
  refine awp_seq ?_
  refine awp_region ?_
  refine al_d rfl rfl rfl (by exact opd_assign rfl rfl) ?_
  refine al_d rfl rfl rfl (by exact opd_assign rfl rfl) ?_
  refine al_nil ?_
  refine awp_seq ?_
  refine awp_seq ?_
  refine awp_bool (t := 23) (n := 15) (X := !gTags l || !gName key || decide (200 < (val.size : Int))) ?_ ?_
  · all_goals (refine al_d rfl rfl rfl (by exact opd_move rfl rfl) ?_)
    all_goals (refine al_d rfl rfl rfl (by exact opr_call rfl rfl Try.call23 rfl (tagValid_c l _ hl)) ?_)
    all_goals (refine al_d rfl rfl rfl (by exact opd_not rfl rfl) ?_)
    all_goals (refine al_d rfl rfl rfl (by exact opd_move rfl rfl) ?_)
    all_goals (refine al_split (t := 14) rfl (fun h14 => ?_) (fun h14 => ?_))
    all_goals (try contradiction)
    all_goals (first | refine al_off rfl rfl rfl rfl rfl ?_ | refine al_ond rfl rfl rfl rfl rfl rfl (by exact opd_move rfl rfl) ?_)
    all_goals (first | refine al_off rfl rfl rfl rfl rfl ?_ | refine al_ond rfl rfl rfl rfl rfl rfl (by exact opr_call rfl rfl Try.call26 rfl (name_c key _ hk)) ?_)
    all_goals (first | refine al_off rfl rfl rfl rfl rfl ?_ | refine al_ond rfl rfl rfl rfl rfl rfl (by exact opd_not rfl rfl) ?_)
    all_goals (refine al_d rfl rfl rfl (by exact (by first | exact opd_pick_t rfl rfl rfl | exact opd_pick_f rfl rfl rfl)) ?_)
    all_goals (refine al_d rfl rfl rfl (by exact opd_move rfl rfl) ?_)
    all_goals (refine al_split (t := 19) rfl (fun h19 => ?_) (fun h19 => ?_))
    all_goals (try contradiction)
    all_goals (first | refine al_off rfl rfl rfl rfl rfl ?_ | refine al_ond rfl rfl rfl rfl rfl rfl (by exact opd_move rfl rfl) ?_)
    all_goals (first | refine al_off rfl rfl rfl rfl rfl ?_ | refine al_ond rfl rfl rfl rfl rfl rfl (by exact opd_len_str rfl Try.underlying9 rfl) ?_)
    all_goals (first | refine al_off rfl rfl rfl rfl rfl ?_ | refine al_ond rfl rfl rfl rfl rfl rfl (by exact opd_gtr rfl rfl rfl) ?_)
    all_goals (refine al_d rfl rfl rfl (by exact (by first | exact opd_pick_t rfl rfl rfl | exact opd_pick_f rfl rfl rfl)) ?_)
    all_goals (refine al_nil ?_)
    all_goals (exact ⟨⟨_, rfl, by (simp only [*, Bool.false_and, Bool.true_and, Bool.and_false, Bool.and_true, Bool.true_or, Bool.false_or, Bool.or_true, Bool.or_false, Bool.not_true, Bool.not_false]; done)⟩, rfl, rfl, rfl⟩)
  refine awp_cond rfl (fun hc1 => ?_) (fun hc1 => ?_)
  -- cond 1
  · have e : gSet l key val = ([], 1) := by rw [gSet, if_pos hc1]
    rw [e]
    refine awp_seq ?_
    refine awp_region ?_
    refine al_d rfl rfl rfl (by exact opd_assign rfl rfl) ?_
    refine al_d rfl rfl rfl (by exact opd_assign rfl rfl) ?_
    refine al_nil ?_
    refine awp_ret ?_
    -- return
    refine aret2 (H' := []) (by exact .inr rfl) rfl (rval_tmp rfl) (rval_tmp rfl) (Fin.wk (by simp) trivial trivial) ?_
    exact ⟨rfl, rfl⟩
  · have hg : gTags l = true := by
      have h := hc1
      revert h
      cases gTags l <;> simp
    obtain ⟨g1, g2, g3⟩ := gTags_iff.1 hg
    have hle := lbI_le GTag.key l key
    have hb := bsf_GTag (.pv (.fn 28)) l key [] hl2 g2 (fun o ho => CallsV.fn Try.call28 (tagSet1_c o key _))
    obtain ⟨i, hi0⟩ : ∃ i, i = lbI GTag.key l key := ⟨_, rfl⟩
    have hw : IntKind.i64.wrap ((i : Int) + 1) = ((i + 1 : Nat) : Int) := by rw [IntKind.wrap_i64]; omega
    have hgs : gSet l key val = if hasK GTag.key l key then (if val = sNil then (l.take i ++ l.drop (i + 1), 0) else (l.set i ⟨key, val⟩, 0)) else if val = sNil then (l, 0) else if l.length = 60 then ([], 2) else (l.take i ++ ⟨key, val⟩ :: l.drop i, 0) := by
      rw [gSet, if_neg (by rw [hc1]; simp), hi0]
    rw [← hi0] at hle hb
    refine awp_skip ?_
    refine awp_seq ?_
    refine awp_region ?_
    refine al_d rfl rfl rfl (by exact opd_move rfl rfl) ?_
    refine al_d rfl rfl rfl (by exact opd_move rfl rfl) ?_
    refine al_d rfl rfl rfl (by exact opr_call rfl rfl Try.call27 rfl (hb)) ?_
    refine al_d rfl rfl rfl (by exact opd_move rfl rfl) ?_
    refine al_d rfl rfl rfl (by exact opd_extract rfl rfl rfl) ?_
    refine al_d rfl rfl rfl (by exact opd_extract rfl rfl rfl) ?_
    refine al_d rfl rfl rfl (by exact opd_assign rfl rfl) ?_
    refine al_d rfl rfl rfl (by exact opd_assign rfl rfl) ?_
    refine al_nil ?_
    refine awp_seq ?_
    refine awp_region ?_
    refine al_d rfl rfl rfl (by exact opd_move rfl rfl) ?_
    refine al_d rfl rfl rfl (by exact opr_call rfl rfl Try.call30 rfl (clone_Tag (l.map encTag) [] (Closed.of (by simp)) rfl rfl (by omega) hrl)) ?_
    refine al_d rfl rfl rfl (by exact opd_assign rfl rfl) ?_
    refine al_nil ?_
    refine awp_seq ?_
    refine awp_block ?_
    refine awp_seq ?_
    refine awp_bool (t := 32) (n := 7) (X := hasK GTag.key l key && decide (val = sNil)) ?_ ?_
    · all_goals (refine al_d rfl rfl rfl (by exact opd_move rfl rfl) ?_)
      all_goals (refine al_d rfl rfl rfl (by exact opd_move rfl rfl) ?_)
      all_goals (refine al_split (t := 34) rfl (fun h34 => ?_) (fun h34 => ?_))
      all_goals (try contradiction)
      all_goals (first | refine al_off rfl rfl rfl rfl rfl ?_ | refine al_ond rfl rfl rfl rfl rfl rfl (by exact opd_move rfl rfl) ?_)
      all_goals (first | refine al_off rfl rfl rfl rfl rfl ?_ | refine al_ond rfl rfl rfl rfl rfl rfl (by exact opd_seql rfl rfl rfl) ?_)
      all_goals (refine al_d rfl rfl rfl (by exact (by first | exact opd_pick_t rfl rfl rfl | exact opd_pick_f rfl rfl rfl)) ?_)
      all_goals (refine al_d rfl rfl rfl (by exact opd_assign rfl rfl) ?_)
      all_goals (refine al_nil ?_)
      all_goals (exact ⟨⟨_, rfl, by (simp_all [hasK]; done)⟩, rfl, rfl, rfl⟩)
    refine awp_cond rfl (fun hc2 => ?_) (fun hc2 => ?_)
    -- cond 2
    · have h := hc2
      rw [Bool.and_eq_true, decide_eq_true_eq] at h
      obtain ⟨hf, hvn⟩ := h
      obtain ⟨o, ho, hok⟩ := hasK_get g2 hf
      rw [← hi0] at ho
      have hlt := (List.getElem?_eq_some_iff.1 ho).1
      rw [hgs, if_pos hf, if_pos hvn]
      refine awp_region ?_
      refine al_d rfl rfl rfl (by exact opd_move rfl rfl) ?_
      refine al_d rfl rfl rfl (by exact opd_move rfl rfl) ?_
      refine al_d rfl rfl rfl (by exact opd_move rfl rfl) ?_
      refine al_d rfl rfl rfl (by exact opd_add rfl rfl rfl hw) ?_
      refine al_d rfl rfl rfl (by exact opr_call rfl rfl Try.call31 rfl (delete_Tag (l.map encTag) i (i + 1) 1 _ (Closed.of (by simp)) rfl (by omega) (by omega) (by omega) hrl)) ?_
      refine al_d rfl rfl rfl (by exact opd_assign rfl rfl) ?_
      refine al_nil ?_
      refine awp_seq ?_
      refine awp_region ?_
      refine al_d rfl rfl rfl (by exact opd_move rfl rfl) ?_
      refine al_d rfl rfl rfl (by exact opd_assign rfl rfl) ?_
      refine al_d rfl rfl rfl (by exact opd_assign rfl rfl) ?_
      refine al_nil ?_
      refine awp_ret ?_
      -- return
      refine aret2 (H' := []) (by exact .inr rfl) rfl (rval_tmp rfl) (rval_tmp rfl) (Fin.wk (by simp) trivial trivial) ?_
      exact ⟨by rw [slTags, List.map_append, List.map_take, List.map_drop], rfl⟩
    · skip
      refine awp_seq ?_
      refine awp_region ?_
      refine al_d rfl rfl rfl (by exact opd_move rfl rfl) ?_
      refine al_d rfl rfl rfl (by exact opd_assign rfl rfl) ?_
      refine al_nil ?_
      refine awp_cond rfl (fun hc3 => ?_) (fun hc3 => ?_)
      -- cond 3
      · have hf : hasK GTag.key l key = true := hc3
        have hvn : ¬ val = sNil := by
          have h := hc2
          rw [hf, Bool.true_and] at h
          exact of_decide_eq_false h
        obtain ⟨o, ho, hok⟩ := hasK_get g2 hf
        rw [← hi0] at ho
        have hlt := (List.getElem?_eq_some_iff.1 ho).1
        rw [hgs, if_pos hf, if_neg hvn]
        have hir : (pvR (l.map encTag))[i]? = some [sv o.key, sv o.val] := by rw [pvR, List.map_map, List.getElem?_map, ho]; rfl
        refine awp_region ?_
        refine al_d rfl rfl rfl (by exact opd_move rfl rfl) ?_
        refine al_d rfl rfl rfl (by exact opd_move rfl rfl) ?_
        refine al_d rfl rfl rfl (by exact opd_move rfl rfl) ?_
        refine al_d rfl rfl rfl (by exact (by exact x_index_osl rfl so22 rfl rfl rfl rfl rfl (by omega) (by exact Int.toNat_natCast _) (by rw [hml]; exact hlt) (Nat.zero_add _))) ?_
        refine al_d rfl rfl rfl (by exact (by exact opd_field_ref rfl fo46_1 rfl rfl rfl rfl)) ?_
        refine al_n rfl rfl (by exact x_store1 rfl Try.sizeOf9 rfl rfl rfl rfl rfl hir (Nat.le_of_ble_eq_true rfl) rfl rfl) ?_
        refine al_nil ?_
        refine awp_seq ?_
        refine awp_region ?_
        refine al_d rfl rfl rfl (by exact opd_move rfl rfl) ?_
        refine al_d rfl rfl rfl (by exact opd_assign rfl rfl) ?_
        refine al_d rfl rfl rfl (by exact opd_assign rfl rfl) ?_
        refine al_nil ?_
        refine awp_ret ?_
        -- return
        refine aret2 (H' := []) (by exact .inr rfl) rfl (rval_tmp rfl) (rval_tmp rfl) (Fin.tup1 (id := 901) ⟨1, 2, 46, (pvR (l.map encTag)).set i [sv o.key, sv val]⟩ ((l.set i ⟨key, val⟩).map encTag) (fun j => by cases e : Nat.beq 901 j <;> simp [Heap.get, e]) rfl (by rw [List.map_set, List.map_set, ← hok]; rfl) (by rw [List.length_map, List.length_set, List.length_map]) (by simp)) ?_
        exact ⟨rfl, rfl⟩
      · have hf : hasK GTag.key l key = false := hc3
        rw [hgs, if_neg (by rw [hf]; simp)]
        refine awp_seq ?_
        refine awp_bool (t := 50) (n := 9) (X := (!decide (val = sNil)) && decide ((l.length : Int) = 60)) ?_ ?_
        · all_goals (refine al_d rfl rfl rfl (by exact opd_move rfl rfl) ?_)
          all_goals (refine al_d rfl rfl rfl (by exact opd_sneq rfl rfl rfl) ?_)
          all_goals (refine al_d rfl rfl rfl (by exact opd_move rfl rfl) ?_)
          all_goals (refine al_split (t := 53) rfl (fun h53 => ?_) (fun h53 => ?_))
          all_goals (try contradiction)
          all_goals (first | refine al_off rfl rfl rfl rfl rfl ?_ | refine al_ond rfl rfl rfl rfl rfl rfl (by exact opd_move rfl rfl) ?_)
          all_goals (first | refine al_off rfl rfl rfl rfl rfl ?_ | refine al_ond rfl rfl rfl rfl rfl rfl (by exact (by exact opd_len_sl rfl Try.underlying22 rfl)) ?_)
          all_goals (first | refine al_off rfl rfl rfl rfl rfl ?_ | refine al_ond rfl rfl rfl rfl rfl rfl (by exact opd_eql rfl rfl rfl) ?_)
          all_goals (refine al_d rfl rfl rfl (by exact (by first | exact opd_pick_t rfl rfl rfl | exact opd_pick_f rfl rfl rfl)) ?_)
          all_goals (refine al_d rfl rfl rfl (by exact opd_assign rfl rfl) ?_)
          all_goals (refine al_nil ?_)
          all_goals (exact ⟨⟨_, rfl, by (simp only [hasK, *]; rfl)⟩, rfl, rfl, rfl⟩)
        refine awp_cond rfl (fun hc4 => ?_) (fun hc4 => ?_)
        -- cond 4
        · have h := hc4
          rw [Bool.and_eq_true, Bool.not_eq_true', decide_eq_false_iff_not, decide_eq_true_eq] at h
          rw [if_neg h.1, if_pos (by omega)]
          refine awp_seq ?_
          refine awp_region ?_
          refine al_d rfl rfl rfl (by exact opd_assign rfl rfl) ?_
          refine al_d rfl rfl rfl (by exact opd_assign rfl rfl) ?_
          refine al_nil ?_
          refine awp_ret ?_
          -- return
          refine aret2 (H' := []) (by exact .inr rfl) rfl (rval_tmp rfl) (rval_tmp rfl) (Fin.wk (by simp) trivial trivial) ?_
          exact ⟨rfl, rfl⟩
        · skip
          refine awp_seq ?_
          refine awp_region ?_
          refine al_d rfl rfl rfl (by exact opd_move rfl rfl) ?_
          refine al_d rfl rfl rfl (by exact opd_sneq rfl rfl rfl) ?_
          refine al_d rfl rfl rfl (by exact opd_assign rfl rfl) ?_
          refine al_nil ?_
          refine awp_cond rfl (fun hc5 => ?_) (fun hc5 => ?_)
          -- cond 5
          · have hvn : ¬ val = sNil := by
              have h := hc5
              simpa using h
            have h60 : ¬ l.length = 60 := by
              have h := hc4
              simp only [Bool.and_eq_false_iff, Bool.not_eq_false', decide_eq_true_eq, decide_eq_false_iff_not] at h
              rcases h with h | h
              · exact absurd h hvn
              · omega
            rw [if_neg hvn, if_neg h60]
            refine awp_region ?_
            refine al_d rfl rfl rfl (by exact opd_move rfl rfl) ?_
            refine al_d rfl rfl rfl (by exact opd_move rfl rfl) ?_
            refine al_d rfl rfl rfl (by exact opd_move rfl rfl) ?_
            refine al_d rfl rfl rfl (by exact opd_move rfl rfl) ?_
            refine al_d rfl rfl rfl (by exact x_build rfl bo46 rfl rfl) ?_
            refine al_d rfl rfl rfl (by exact x_buildSlice_own (id := 902) rfl so22 rfl rfl rfl rfl (by intro r hr; rw [List.mem_singleton] at hr; subst hr; rfl) rfl) ?_
            refine al_d rfl rfl rfl (by exact opr_call rfl rfl Try.call32 rfl (insert_Tag (l.map encTag) (encTag ⟨key, val⟩) i 1 _ (Closed.ofL ⟨(by exact clo_two _ _ _), (by (simp; done)), trivial⟩) rfl rfl rfl (by omega) (by omega) hrl rfl)) ?_
            refine al_d rfl rfl rfl (by exact opd_assign rfl rfl) ?_
            refine al_nil ?_
            refine awp_seq ?_
            refine awp_region ?_
            refine al_d rfl rfl rfl (by exact opd_move rfl rfl) ?_
            refine al_d rfl rfl rfl (by exact opd_assign rfl rfl) ?_
            refine al_d rfl rfl rfl (by exact opd_assign rfl rfl) ?_
            refine al_nil ?_
            refine awp_ret ?_
            -- return
            refine aret2 (H' := []) (by exact .inr rfl) rfl (rval_tmp rfl) (rval_tmp rfl) (Fin.wk (by simp) trivial trivial) ?_
            exact ⟨by rw [slTags, List.map_append, List.map_take, List.map_cons, List.map_drop], rfl⟩
          · have hvn : val = sNil := by
              have h := hc5
              simpa using h
            rw [if_pos hvn]
            refine awp_skip ?_
            refine awp_seq ?_
            refine awp_region ?_
            refine al_d rfl rfl rfl (by exact opd_move rfl rfl) ?_
            refine al_d rfl rfl rfl (by exact opd_assign rfl rfl) ?_
            refine al_d rfl rfl rfl (by exact opd_assign rfl rfl) ?_
            refine al_nil ?_
            refine awp_ret ?_
            -- return
            refine aret2 (H' := []) (by exact .inr rfl) rfl (rval_tmp rfl) (rval_tmp rfl) (Fin.tup1 (id := 901) ⟨1, 2, 46, pvR (l.map encTag)⟩ (l.map encTag) (fun j => rfl) rfl rfl rfl (by simp)) ?_
            exact ⟨rfl, rfl⟩
end Go.Proofs.Ytedfihgkopejcaa
end
section
set_option linter.unusedVariables false
set_option linter.unusedSimpArgs false
set_option maxRecDepth 100000
namespace Go.Proofs.Ytedfihgkopejcaa
open Go.Abs
def wRows (l : List ByteArray) : List (List AV) := l.map fun s => [.pv (.str s)]
theorem wRows_len (l : List ByteArray) : (wRows l).length = l.length := List.length_map _
theorem wRows_app (l : List ByteArray) (s : ByteArray) : wRows l ++ [[.pv (.str s)]] = wRows (l ++ [s]) := by rw [wRows, wRows, List.map_append]; rfl
theorem wRows_clo (H : Heap) (l : List ByteArray) : ∀ r ∈ wRows l, ∀ a ∈ r, Clo H a := by
  intro r hr a ha
  obtain ⟨b, _, rfl⟩ := List.mem_map.1 hr
  rw [List.mem_singleton] at ha
  subst ha
  simp
theorem wRows_enc (l : List ByteArray) : wRows l = (l.map encStr).map (·.map .pv) := by rw [List.map_map]; rfl

/-- A tag as text. -/
def gLine (t : GTag) : ByteArray := t.key ++ ⟨#[61]⟩ ++ ⟨(gQuote t.val.data.toList).toArray⟩
def wK (L : List ByteArray) : Heap := [(903, ⟨L.length, 1, 9, wRows L⟩), (4, bx 1 28 [.osl 903 L.length 0 L.length])]
theorem wK_app (L : List ByteArray) (s : ByteArray) : wK (L ++ [s]) = [(903, ⟨L.length + 1, 1, 9, wRows (L ++ [s])⟩), (4, bx 1 28 [.osl 903 (L.length + 1) 0 (L.length + 1)])] := by simp [wK]
theorem quote_size (s : ByteArray) : (⟨(gQuote s.data.toList).toArray⟩ : ByteArray).size ≤ 2 * s.size + 2 := by
  show (gQuote s.data.toList).length ≤ _
  have := escs_len s.data.toList
  have h : s.data.toList.length = s.size := by simp
  rw [gQuote, List.length_cons, List.length_append, List.length_singleton]
  omega
theorem keys2 {i j : Nat} {a b a' b' : Ob} {id : Nat} (h : (Heap.get [(i, a), (j, b)] id).isSome = true) : (Heap.get [(i, a'), (j, b')] id).isSome = true := by
  simp only [Heap.get] at h ⊢
  cases e1 : Nat.beq i id with
  | true => rfl
  | false =>
    rw [e1] at h
    cases e2 : Nat.beq j id with
    | true => rfl
    | false => rw [e2] at h; exact h
theorem text1_c (t : GTag) (L : List ByteArray) (hk : t.key.size < 1099511627776) (hv : t.val.size < 1099511627776) (hL : L.length < 1099511627776) :
    ACalls Try.prog 39 [av (encTag t), .ref 4 0 0 0] (wK L) (fun r H' => r = .tup [] ∧ H' = wK (L ++ [gLine t])) := by
  rw [wK_app]
  have hq := quote_size t.val
  have h61 : (⟨#[61]⟩ : ByteArray).size = 1 := rfl
  have hks : (t.key ++ ⟨#[61]⟩ : ByteArray).size = t.key.size + 1 := by rw [ByteArray.size_append]; rfl
  refine ACalls.body Try.func39 rfl Try.ntmps39 (Nat.le_of_ble_eq_true rfl) ?_
  refine awp_seq ?_
  refine awp_region ?_
  refine al_d rfl rfl rfl (by exact opd_box (id := 2) rfl rfl rfl rfl rfl) ?_
  refine al_nil ?_
  refine awp_drawc follows ?_
  refine dc_cons (r := ⟨_, some [4], []⟩) (DStep.plain rfl (fun H1 hH => by exact (by exact opd_load1_ref rfl Try.isAgg28 rfl ((hH _ rfl).trans rfl) rfl rfl rfl))) rfl ?_
  refine dc_cons (r := ⟨_, some [2], []⟩) (DStep.plain rfl (fun H1 hH => by exact (by exact opd_field_ref rfl fo46_0 rfl ((hH _ rfl).trans rfl) rfl rfl))) rfl ?_
  refine dc_cons (r := ⟨_, some [2], []⟩) (DStep.plain rfl (fun H1 hH => by exact (by exact opd_load1_ref rfl Try.isAgg9 rfl ((hH _ rfl).trans rfl) rfl rfl rfl))) rfl ?_
  refine dc_cons (r := ⟨_, some [], []⟩) (DStep.plain rfl (fun H1 hH => by exact opd_sadd rfl rfl rfl (by omega) rfl)) rfl ?_
  refine dc_cons (r := ⟨_, some [2], []⟩) (DStep.plain rfl (fun H1 hH => by exact (by exact opd_field_ref rfl fo46_1 rfl ((hH _ rfl).trans rfl) rfl rfl))) rfl ?_
  refine dc_cons (r := ⟨_, some [2], []⟩) (DStep.plain rfl (fun H1 hH => by exact (by exact opd_load1_ref rfl Try.isAgg9 rfl ((hH _ rfl).trans rfl) rfl rfl rfl))) rfl ?_
  refine dc_cons (r := ⟨_, some [], []⟩) (DStep.plain rfl (fun H1 hH => by exact opr_call rfl rfl Try.call40 rfl (quote_c t.val _ (by omega)))) rfl ?_
  refine dc_cons (r := ⟨_, some [], []⟩) (DStep.plain rfl (fun H1 hH => by exact opd_sadd rfl rfl rfl (by omega) rfl)) rfl ?_
  refine dc_cons (r := ⟨_, some [], []⟩) (DStep.plain rfl (fun H1 hH => by exact (by exact x_buildSlice [[.str (gLine t)]] rfl so28 rfl rfl rfl rfl rfl (by intro r hr; rw [List.mem_singleton] at hr; subst hr; rfl)))) rfl ?_
  refine dc_cons (r := ⟨_, some [903], [_]⟩) (DStep.plain rfl (fun H1 hH => by exact x_append (ps := [[.str (gLine t)]]) rfl so28 ei9 rfl ((hH _ rfl).trans rfl) rfl rfl rfl (wRows_len L) rfl (by intro r hr; rw [List.mem_singleton] at hr; subst hr; rfl) (m := 1) rfl (by omega) rfl (wRows_app L (gLine t)))) rfl ?_
  refine dc_cons (r := ⟨_, some [4], [_]⟩) (DStep.plain rfl (fun H1 hH => by exact (by exact x_store_all rfl Try.sizeOf28 rfl rfl rfl rfl ((hH _ rfl).trans rfl) rfl rfl rfl))) rfl ?_
  refine dc_nil ⟨by kernel_rfl, ?_⟩
  -- end of the body
  exact aret0 (H' := [(903, ⟨L.length + 1, 1, 9, wRows (L ++ [gLine t])⟩), (4, bx 1 28 [.osl 903 (L.length + 1) 0 (L.length + 1)])]) (.inl rfl) rfl (Fin.wk (by (simp; done)) ⟨⟨_, rfl, rfl⟩, (by exact wRows_clo _ _), ⟨_, rfl, rfl⟩, (by (simp; rfl)), trivial⟩ ⟨rfl, rfl, trivial⟩) ⟨rfl, rfl⟩
def gTagS (l : List GTag) : ByteArray := ⟨(gJoin [32] (bs (l.map gLine))).toArray⟩
/-- The text of tags. -/
def gText (l : List GTag) : ByteArray × Int := if gTags l then (if 20000 < (gTagS l).size then (sNil, 2) else (gTagS l, 0)) else (sNil, 1)
theorem line_size {t : GTag} (hk : t.key.size ≤ 24) (hv : t.val.size ≤ 200) : (gLine t).size ≤ 427 := by
  have hq := quote_size t.val
  have h61 : (⟨#[61]⟩ : ByteArray).size = 1 := rfl
  rw [gLine, ByteArray.size_append, ByteArray.size_append, h61]
  omega
theorem gName_size {s : ByteArray} (h : gName s = true) : s.size ≤ 24 := by
  rw [gName, Bool.and_eq_true, Bool.and_eq_true, decide_eq_true_eq] at h
  omega
theorem sizes_bound {l : List ByteArray} {n : Nat} (h : ∀ s, s ∈ l → s.size ≤ n) : sizes l ≤ n * l.length := by
  induction l with
  | nil => exact Nat.zero_le _
  | cons a l ih =>
    rw [sizes, List.map_cons, List.sum_cons, List.length_cons, Nat.mul_succ]
    have h1 := h a List.mem_cons_self
    have h2 := ih (fun s hs => h s (List.mem_cons_of_mem _ hs))
    rw [sizes] at h2
    omega
/-- strings.Join of words that the caller holds as an object of its own. -/
theorem joinO {L : List ByteArray} {K : Heap} {r : ByteArray} (h : ACalls Try.prog 41 [.pv (slStrs L), sv ⟨#[32]⟩] [] (fun x H' => x = sv r ∧ H' = [])) : ACalls Try.prog 41 [.osl 903 L.length 0 L.length, sv ⟨#[32]⟩] ((903, ⟨L.length, 1, 9, wRows L⟩) :: K) (fun x H' => x = sv r ∧ H' = (903, ⟨L.length, 1, 9, wRows L⟩) :: K) := by
  exact RO.calls (RO.lend (id := 903) (H1 := []) (L.map encStr) (RO.of h rfl) (get_cons_same _ _ _) (wRows_enc L) rfl
    (fz_cons (.osl (by rw [Nat.zero_add, List.drop_zero, List.take_of_length_le (by rw [List.length_map]; exact Nat.le_refl _)])) (fz_cons (.same (by simp)) fz_nil)) (fun _ _ h => by cases h) (fun _ _ h => by cases h) rfl)
theorem tagText_c (l : List GTag) (H : Heap) (hl : okTags l) : ACalls Try.prog 15 [.pv (slTags l)] H (fun r H' => r = .tup [sv (gText l).1, iv (gText l).2] ∧ H' = H) := by
  refine ACalls.pure ?_ (by simp) H
  have hml : (l.map encTag).length = l.length := List.length_map _
  refine ACalls.body Try.func15 rfl Try.ntmps15 (Nat.le_of_ble_eq_true rfl) ?_
  refine awp_seq ?_
  refine awp_region ?_
  refine al_d rfl rfl rfl (by exact opd_assign rfl rfl) ?_
  refine al_d rfl rfl rfl (by exact opd_assign rfl rfl) ?_
  refine al_nil ?_
  refine awp_seq ?_
  refine awp_seq ?_
  refine awp_region ?_
  refine al_d rfl rfl rfl (by exact opd_move rfl rfl) ?_
  refine al_d rfl rfl rfl (by exact opr_call rfl rfl Try.call23 rfl (tagValid_c l _ hl)) ?_
  refine al_d rfl rfl rfl (by exact opd_not rfl rfl) ?_
  refine al_nil ?_
  refine awp_cond rfl (fun hc1 => ?_) (fun hc1 => ?_)
  -- cond 1
  · have hg : gTags l = false := by rw [← Bool.not_eq_true']; exact hc1
    have e : gText l = (sNil, 1) := by rw [gText, if_neg (by rw [hg]; decide)]
    rw [e]
    refine awp_seq ?_
    refine awp_region ?_
    refine al_d rfl rfl rfl (by exact opd_assign rfl rfl) ?_
    refine al_d rfl rfl rfl (by exact opd_assign rfl rfl) ?_
    refine al_nil ?_
    refine awp_ret ?_
    -- return
    refine aret2 (H' := []) (by exact .inr rfl) rfl (rval_tmp rfl) (rval_tmp rfl) (Fin.wk (by simp) trivial trivial) ?_
    exact ⟨rfl, rfl⟩
  · have hg : gTags l = true := by rw [← Bool.not_eq_false']; exact hc1
    obtain ⟨g1, g2, g3⟩ := gTags_iff.1 hg
    refine awp_skip ?_
    refine awp_seq ?_
    refine awp_region ?_
    refine al_d rfl rfl rfl (by exact x_alloc (id := 4) rfl zoN28 rfl rfl) ?_
    refine al_nil ?_
    refine awp_seq ?_
    refine awp_region ?_
    refine al_d rfl rfl rfl (by exact opd_makeFunc rfl rfl) ?_
    refine al_d rfl rfl rfl (by exact opd_assign rfl rfl) ?_
    refine al_nil ?_
    refine awp_seq ?_
    refine awp_seq ?_
    -- before the slot
    refine AWp.ent (E' := [(0, .pv (slTags l)), (4, .ref 4 0 0 0), (5, .clo 39 [.ref 4 0 0 0])]) (H' := wK []) (Ent.nz 903 1 9 rfl rfl ⟨⟨_, rfl, (by exact Nz.same (by (simp; done)))⟩, ⟨_, rfl, (by exact Nz.same (by (simp; rfl)))⟩, ⟨_, rfl, (by exact Nz.same (by (simp; rfl)))⟩, trivial⟩ ⟨⟨_, rfl, rfl, rfl, rfl, (by exact .inr ⟨_, _, rfl, rfl, (by repeat (first | exact trivial | refine ⟨(by exact Nz.own), ?_⟩))⟩)⟩, trivial⟩ trivial) ?_
    refine awp_region ?_
    refine al_d rfl rfl rfl (by exact opd_move rfl rfl) ?_
    refine al_d rfl rfl rfl (by exact (by exact opd_len_sl rfl Try.underlying22 rfl)) ?_
    refine al_d rfl rfl rfl (by exact opd_move rfl rfl) ?_
    refine al_nil ?_
    refine awp_block ?_
    -- loop
    refine awp_loop (σ := Nat) (fun k => ([(4, .ref 4 0 0 0), (5, .clo 39 [.ref 4 0 0 0]), (13, .pv (slTags l)), (14, iv ((l.map encTag).length : Int)), (15, iv (k : Int))], wK ((l.take k).map gLine))) (fun k => k ≤ l.length) (fun k => l.length - k) 0 (Nat.zero_le _) ?_ ?_
    · exact (Ent.wk ⟨⟨_, rfl, rfl⟩, (by (simp; rfl)), ⟨_, rfl, rfl⟩, (by (simp; rfl)), ⟨_, rfl, rfl⟩, (by (simp; done)), ⟨_, rfl, rfl⟩, (by (simp; done)), ⟨_, rfl, rfl⟩, (by (simp; done)), trivial⟩ ⟨⟨_, rfl, rfl⟩, (by exact wRows_clo _ _), ⟨_, rfl, rfl⟩, (by (simp; rfl)), trivial⟩ trivial)
    · intro k hk
      refine awp_seq ?_
      refine awp_region ?_
      refine al_d rfl rfl rfl (by exact opd_lss rfl rfl rfl) ?_
      refine al_nil ?_
      refine awp_seq ?_
      refine awp_cond rfl (fun hc2 => ?_) (fun hc2 => ?_)
      -- cond 2
      · have hlt : k < l.length := by have := of_decide_eq_true hc2; omega
        obtain ⟨t, ht⟩ := get_of_lt hlt
        have hi := map_get (f := encTag) ht
        obtain ⟨b1, b2, b3⟩ := g1 t (List.mem_of_getElem? ht)
        have b4 := gName_size b1
        have hLl : ((l.take k).map gLine).length < 1099511627776 := by rw [List.length_map, List.length_take]; omega
        have hnx : (l.take (k + 1)).map gLine = (l.take k).map gLine ++ [gLine t] := by rw [List.take_add_one, ht, List.map_append]; rfl
        refine awp_skip ?_
        refine awp_seq ?_
        refine awp_block ?_
        refine awp_seq ?_
        refine awp_region ?_
        refine al_d rfl rfl rfl (by exact (by exact x_index_pad rfl so22 rfl rfl (by omega) (by exact Int.toNat_natCast _) hi rfl)) ?_
        refine al_d rfl rfl rfl (by exact (by exact opd_loadn_pad rfl Try.isAgg46 Try.sizeOf46 rfl hi (by simp only [List.drop_succ_cons, List.drop_zero, List.take_succ_cons, List.take_zero, List.take_nil, List.map_cons, List.map_nil, List.set_cons_zero, List.set_cons_succ, List.cons_append, List.nil_append, encTag]; rfl) rfl)) ?_
        refine al_d rfl rfl rfl (by exact x_alloc (id := 7) rfl zo46 rfl rfl) ?_
        refine al_n rfl rfl (by exact (by exact x_store_all rfl Try.sizeOf46 rfl rfl rfl rfl rfl rfl rfl rfl)) ?_
        refine al_nil ?_
        refine awp_region ?_
        refine al_d rfl rfl rfl (by exact opd_move rfl rfl) ?_
        refine al_d rfl rfl rfl (by exact (by exact opd_loadn_ref rfl Try.isAgg46 Try.sizeOf46 rfl rfl rfl rfl rfl rfl)) ?_
        refine al_d rfl rfl rfl (by exact opr_callV rfl rfl rfl (CallsV.clo Try.call39 (ACalls.frame (text1_c t ((l.take k).map gLine) (by omega) (by omega) hLl) (subL.sub ⟨rfl, rfl, trivial⟩) (Closed.ofL ⟨(by exact wRows_clo _ _), (by (simp; rfl)), trivial⟩) (by simp; rfl) (fun id h => .inl (keys2 h))))) ?_
        refine al_nil ?_
        refine awp_region ?_
        refine al_d rfl rfl rfl (by exact opd_add rfl rfl rfl (by exact w64 (by omega) (by omega))) ?_
        refine al_d rfl rfl rfl (by exact opd_move rfl rfl) ?_
        refine al_nil ?_
        -- end of a round
        refine ⟨k + 1, by omega, by omega, ?_⟩
        show Ent _ _ _ _ (wK ((l.take (k + 1)).map gLine))
        rw [hnx]
        exact (Ent.wk ⟨⟨_, rfl, rfl⟩, (by (simp; rfl)), ⟨_, rfl, rfl⟩, (by (simp; rfl)), ⟨_, rfl, rfl⟩, (by (simp; done)), ⟨_, rfl, rfl⟩, (by (simp; done)), ⟨_, rfl, rfl⟩, (by (simp; done)), trivial⟩ ⟨⟨_, rfl, rfl⟩, (by exact wRows_clo _ _), ⟨_, rfl, rfl⟩, (by (simp; rfl)), trivial⟩ trivial)
      · have hge : k = l.length := by have := of_decide_eq_false hc2; omega
        subst hge
        have hsb : sizes (l.map gLine) ≤ 427 * l.length := by
          have := sizes_bound (l := l.map gLine) (n := 427) (fun s hs => by
            obtain ⟨t, ht, rfl⟩ := List.mem_map.1 hs
            obtain ⟨b1, b2, b3⟩ := g1 t ht
            exact line_size (gName_size b1) b3)
          rwa [List.length_map] at this
        have hj : ACalls Try.prog 41 [.pv (slStrs (l.map gLine)), sv ⟨#[32]⟩] [] (fun x H' => x = sv (gTagS l) ∧ H' = []) := joins_c (l.map gLine) ⟨#[32]⟩ [] (by decide) (by rw [List.length_map]; show 1 * _ + _ + _ < _; omega)
        have hj2 := joinO (L := l.map gLine) (K := [(4, bx 1 28 [.osl 903 (l.map gLine).length 0 (l.map gLine).length])]) hj
        rw [List.take_length]
        refine awp_exit ?_
        refine awp_seq ?_
        refine awp_region ?_
        refine al_d rfl rfl rfl (by exact (by exact opd_load1_ref rfl Try.isAgg28 rfl rfl rfl rfl rfl)) ?_
        refine al_d rfl rfl rfl (by exact opr_call rfl rfl Try.call41 rfl (hj2)) ?_
        refine al_d rfl rfl rfl (by exact opd_assign rfl rfl) ?_
        refine al_nil ?_
        refine awp_seq ?_
        refine awp_seq ?_
        refine awp_region ?_
        refine al_d rfl rfl rfl (by exact opd_move rfl rfl) ?_
        refine al_d rfl rfl rfl (by exact opd_len_str rfl Try.underlying9 rfl) ?_
        refine al_d rfl rfl rfl (by exact opd_gtr rfl rfl rfl) ?_
        refine al_nil ?_
        refine awp_cond rfl (fun hc3 => ?_) (fun hc3 => ?_)
        -- cond 3
        · have e : gText l = (sNil, 2) := by
            rw [gText, if_pos hg, if_pos (by have := of_decide_eq_true hc3; omega)]
          rw [e]
          refine awp_seq ?_
          refine awp_region ?_
          refine al_d rfl rfl rfl (by exact opd_assign rfl rfl) ?_
          refine al_d rfl rfl rfl (by exact opd_assign rfl rfl) ?_
          refine al_nil ?_
          refine awp_ret ?_
          -- return
          refine aret2 (H' := []) (by exact .inr rfl) rfl (rval_tmp rfl) (rval_tmp rfl) (Fin.wk (by simp) trivial trivial) ?_
          exact ⟨rfl, rfl⟩
        · have e : gText l = (gTagS l, 0) := by
            rw [gText, if_pos hg, if_neg (by have := of_decide_eq_false hc3; omega)]
          rw [e]
          refine awp_skip ?_
          refine awp_seq ?_
          refine awp_region ?_
          refine al_d rfl rfl rfl (by exact opd_move rfl rfl) ?_
          refine al_d rfl rfl rfl (by exact opd_assign rfl rfl) ?_
          refine al_d rfl rfl rfl (by exact opd_assign rfl rfl) ?_
          refine al_nil ?_
          refine awp_ret ?_
          -- return
          refine aret2 (H' := []) (by exact .inr rfl) rfl (rval_tmp rfl) (rval_tmp rfl) (Fin.wk (by simp) trivial trivial) ?_
          exact ⟨rfl, rfl⟩
end Go.Proofs.Ytedfihgkopejcaa
end
