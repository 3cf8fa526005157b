/-
  THE ABSTRACT LOGIC: operations that leave the heap as it is: moves, numbers, strings, tests, addresses, loads.
  Conditions: each rule's own premises.
-/
import Derived.Test.YtdgoodjhndeojaaAbs2
set_option linter.unusedVariables false
set_option linter.unusedSimpArgs false
namespace Go.Abs
section
variable {P : Program} {N : Nat} {o : Oper} {E : Env} {H : Heap}

theorem OpD.of_run {v : AV} (h : ∀ (a : Act) (w : World) (I : Nat → Prop) (ι : Plc), Rel I ι H w → ERel w I ι H E a → ∃ c, (execOp a.eval o).run P w = .ok (.value c) w ∧ VRel w I ι H c v) : OpD P N o E H v H := by
  intro a w I ι _ _ hr he K Q hk
  obtain ⟨c, hrun, hv⟩ := h a w I ι hr he
  unfold Oper.wp
  rw [hrun]
  exact hk c w I ι v H ⟨rfl, rfl⟩ hv hr (Step.refl _ _ _ _)

theorem opd_move {x : Operand} {v : AV} (ho : o.op = .move x) (hx : aeval E x = some v) : OpD P N o E H v H :=
  .of_run fun a w I ι hr he => ⟨a.eval x, by simp [execOp, ho], aeval_rel he hx⟩
theorem opd_assign {x : Operand} {v : AV} (ho : o.op = .assign x) (hx : aeval E x = some v) : OpD P N o E H v H :=
  .of_run fun a w I ι hr he => ⟨a.eval x, by simp [execOp, ho], aeval_rel he hx⟩
theorem opd_pick {c x y : Operand} {b : Bool} {v : AV} (ho : o.op = .pick c x y) (hc : aeval E c = some (.pv (.bool b))) (hv : aeval E (if b then x else y) = some v) : OpD P N o E H v H :=
  .of_run fun a w I ι hr he => by
    have hb := (aeval_rel he hc).bool_inv
    refine ⟨_, by simp [execOp, ho, hb, asBool]; rfl, ?_⟩
    cases b <;> exact aeval_rel he hv
theorem opd_pick_t {c x y : Operand} {v : AV} (ho : o.op = .pick c x y) (hc : aeval E c = some (.pv (.bool true))) (hv : aeval E x = some v) : OpD P N o E H v H :=
  opd_pick ho hc (by simpa using hv)
theorem opd_pick_f {c x y : Operand} {v : AV} (ho : o.op = .pick c x y) (hc : aeval E c = some (.pv (.bool false))) (hv : aeval E y = some v) : OpD P N o E H v H :=
  opd_pick ho hc (by simpa using hv)

theorem opd_not {t : TypeId} {x : Operand} {b : Bool} (ho : o.op = .unOp .not t x) (hx : aeval E x = some (.pv (.bool b))) : OpD P N o E H (.pv (.bool (!b))) H :=
  .of_run fun a w I ι hr he => by
    have hb := (aeval_rel he hx).bool_inv
    exact ⟨_, by simp [execOp, ho, hb, Op.unary], .pv (.bool _)⟩
theorem opd_neg {t : TypeId} {x : Operand} {k : IntKind} {n m : Int} (ho : o.op = .unOp .neg t x) (hx : aeval E x = some (.pv (.int k n))) (hm : k.wrap (0 - n) = m) : OpD P N o E H (.pv (.int k m)) H :=
  .of_run fun a w I ι hr he => by
    have hb := (aeval_rel he hx).int_inv
    subst hm
    exact ⟨_, by simp [execOp, ho, hb, Op.unary, Op.intArith], .pv (.int _ _)⟩

section ints
variable {t t' : TypeId} {x y : Operand} {k : IntKind} {n m r : Int}
theorem run_int2 {op : BinOp} {a : Act} {w : World} (ho : o.op = .binOp op t x y t') (hx : a.eval x = .int k n) : (execOp a.eval o).run P w = ((binOp op t (.int k n) (a.eval y)).run P w).andThen fun v w => .ok (.value v) w := by
  simp only [execOp, ho, hx, eqGuard_at_int, Sem.run_bind, Sem.run_pure, Result.andThen_ok]
theorem opd_add (ho : o.op = .binOp .add t x y t') (hx : aeval E x = some (.pv (.int k n))) (hy : aeval E y = some (.pv (.int k m))) (hr : k.wrap (n + m) = r) : OpD P N o E H (.pv (.int k r)) H :=
  .of_run fun a w I ι _ he => by
    subst hr
    exact ⟨_, by rw [run_int2 ho (aeval_rel he hx).int_inv, (aeval_rel he hy).int_inv]; simp [binOp, Op.intArith], .pv (.int _ _)⟩
theorem opd_sub (ho : o.op = .binOp .sub t x y t') (hx : aeval E x = some (.pv (.int k n))) (hy : aeval E y = some (.pv (.int k m))) (hr : k.wrap (n - m) = r) : OpD P N o E H (.pv (.int k r)) H :=
  .of_run fun a w I ι _ he => by
    subst hr
    exact ⟨_, by rw [run_int2 ho (aeval_rel he hx).int_inv, (aeval_rel he hy).int_inv]; simp [binOp, Op.intArith], .pv (.int _ _)⟩
theorem opd_mul (ho : o.op = .binOp .mul t x y t') (hx : aeval E x = some (.pv (.int k n))) (hy : aeval E y = some (.pv (.int k m))) (hr : k.wrap (n * m) = r) : OpD P N o E H (.pv (.int k r)) H :=
  .of_run fun a w I ι _ he => by
    subst hr
    exact ⟨_, by rw [run_int2 ho (aeval_rel he hx).int_inv, (aeval_rel he hy).int_inv]; simp [binOp, Op.intArith], .pv (.int _ _)⟩
theorem opd_quo (ho : o.op = .binOp .quo t x y t') (hx : aeval E x = some (.pv (.int k n))) (hy : aeval E y = some (.pv (.int k m))) (h0 : m ≠ 0) (hr : k.wrap (n.tdiv m) = r) : OpD P N o E H (.pv (.int k r)) H :=
  .of_run fun a w I ι _ he => by
    subst hr
    exact ⟨_, by rw [run_int2 ho (aeval_rel he hx).int_inv, (aeval_rel he hy).int_inv]; simp [binOp, Op.intDiv, h0], .pv (.int _ _)⟩
theorem opd_rem (ho : o.op = .binOp .rem t x y t') (hx : aeval E x = some (.pv (.int k n))) (hy : aeval E y = some (.pv (.int k m))) (h0 : m ≠ 0) (hr : n.tmod m = r) : OpD P N o E H (.pv (.int k r)) H :=
  .of_run fun a w I ι _ he => by
    subst hr
    exact ⟨_, by rw [run_int2 ho (aeval_rel he hx).int_inv, (aeval_rel he hy).int_inv]; simp [binOp, Op.intDiv, h0], .pv (.int _ _)⟩
theorem opd_bits {op : BinOp} (ho : o.op = .binOp op t x y t') (hop : op = .and ∨ op = .or ∨ op = .xor ∨ op = .andNot) (hx : aeval E x = some (.pv (.int k n))) (hy : aeval E y = some (.pv (.int k m))) (hr : bits op k n m = r) : OpD P N o E H (.pv (.int k r)) H :=
  .of_run fun a w I ι _ he => by
    subst hr
    refine ⟨.int k (bits op k n m), ?_, .pv (.int _ _)⟩
    rw [run_int2 ho (aeval_rel he hx).int_inv, (aeval_rel he hy).int_inv]
    rcases hop with rfl | rfl | rfl | rfl <;> simp [binOp, intBits_and, intBits_or, intBits_xor, intBits_andNot]
theorem opd_shr {yk : IntKind} (ho : o.op = .binOp .shr t x y t') (hx : aeval E x = some (.pv (.int k n))) (hy : aeval E y = some (.pv (.int yk m))) (h0 : 0 ≤ m) (h1 : m ≤ k.bits) (hr : n / 2 ^ m.toNat = r) : OpD P N o E H (.pv (.int k r)) H :=
  .of_run fun a w I ι _ he => by
    subst hr
    refine ⟨.int k (n / 2 ^ m.toNat), ?_, .pv (.int _ _)⟩
    rw [run_int2 ho (aeval_rel he hx).int_inv, (aeval_rel he hy).int_inv]
    simp only [binOp_shr, shift_shr k yk n m h0 h1, Sem.run_pure, Result.andThen_ok]
theorem opd_shl {yk : IntKind} (ho : o.op = .binOp .shl t x y t') (hx : aeval E x = some (.pv (.int k n))) (hy : aeval E y = some (.pv (.int yk m))) (h0 : 0 ≤ m) (h1 : m ≤ k.bits) (hr : k.wrap (n * 2 ^ m.toNat) = r) : OpD P N o E H (.pv (.int k r)) H :=
  .of_run fun a w I ι _ he => by
    subst hr
    refine ⟨.int k (k.wrap (n * 2 ^ m.toNat)), ?_, .pv (.int _ _)⟩
    rw [run_int2 ho (aeval_rel he hx).int_inv, (aeval_rel he hy).int_inv]
    simp only [binOp_shl, shift_shl k yk n m h0 h1, Sem.run_pure, Result.andThen_ok]
theorem opd_lss (ho : o.op = .binOp .lss t x y t') (hx : aeval E x = some (.pv (.int k n))) (hy : aeval E y = some (.pv (.int k m))) : OpD P N o E H (.pv (.bool (decide (n < m)))) H :=
  .of_run fun a w I ι _ he => ⟨_, by rw [run_int2 ho (aeval_rel he hx).int_inv, (aeval_rel he hy).int_inv]; simp [binOp, Op.intCmp], .pv (.bool _)⟩
theorem opd_leq (ho : o.op = .binOp .leq t x y t') (hx : aeval E x = some (.pv (.int k n))) (hy : aeval E y = some (.pv (.int k m))) : OpD P N o E H (.pv (.bool (decide (n ≤ m)))) H :=
  .of_run fun a w I ι _ he => ⟨_, by rw [run_int2 ho (aeval_rel he hx).int_inv, (aeval_rel he hy).int_inv]; simp [binOp, Op.intCmp], .pv (.bool _)⟩
theorem opd_gtr (ho : o.op = .binOp .gtr t x y t') (hx : aeval E x = some (.pv (.int k n))) (hy : aeval E y = some (.pv (.int k m))) : OpD P N o E H (.pv (.bool (decide (m < n)))) H :=
  .of_run fun a w I ι _ he => ⟨_, by rw [run_int2 ho (aeval_rel he hx).int_inv, (aeval_rel he hy).int_inv]; simp [binOp, Op.intCmp], .pv (.bool _)⟩
theorem opd_geq (ho : o.op = .binOp .geq t x y t') (hx : aeval E x = some (.pv (.int k n))) (hy : aeval E y = some (.pv (.int k m))) : OpD P N o E H (.pv (.bool (decide (m ≤ n)))) H :=
  .of_run fun a w I ι _ he => ⟨_, by rw [run_int2 ho (aeval_rel he hx).int_inv, (aeval_rel he hy).int_inv]; simp [binOp, Op.intCmp], .pv (.bool _)⟩
theorem opd_eql (ho : o.op = .binOp .eql t x y t') (hx : aeval E x = some (.pv (.int k n))) (hy : aeval E y = some (.pv (.int k m))) : OpD P N o E H (.pv (.bool (decide (n = m)))) H :=
  .of_run fun a w I ι _ he => ⟨.bool (decide (n = m)), by rw [run_int2 ho (aeval_rel he hx).int_inv, (aeval_rel he hy).int_inv]; simp [binOp, Op.intCmp]; by_cases h : n = m <;> simp [h], .pv (.bool _)⟩
theorem opd_neq (ho : o.op = .binOp .neq t x y t') (hx : aeval E x = some (.pv (.int k n))) (hy : aeval E y = some (.pv (.int k m))) : OpD P N o E H (.pv (.bool (!decide (n = m)))) H :=
  .of_run fun a w I ι _ he => ⟨.bool (!decide (n = m)), by rw [run_int2 ho (aeval_rel he hx).int_inv, (aeval_rel he hy).int_inv]; simp [binOp, Op.intCmp]; by_cases h : n = m <;> simp [h, bne], .pv (.bool _)⟩
end ints

section strings
variable {t t' : TypeId} {x y : Operand} {s u r : ByteArray}
theorem run_str2 {op : BinOp} {a : Act} {w : World} (ho : o.op = .binOp op t x y t') (hx : a.eval x = .string s) (hy : a.eval y = .string u) : (execOp a.eval o).run P w = ((Op.stringOp op s u).run P w).andThen fun v w => .ok (.value v) w := by
  simp only [execOp, ho, hx, hy, eqGuard_at_string, Sem.run_bind, Sem.run_pure, Result.andThen_ok]
  cases op <;> simp [binOp]
theorem list_beq (s u : ByteArray) : (s.toList == u.toList) = decide (s = u) := by
  rw [← beq_toListBytes]
  by_cases h : s = u
  · subst h
    have : (s == s) = true := by rw [beq_toListBytes]; simp
    simp [this]
  · have : (s == u) = false := by
      rw [beq_toListBytes, ByteArray.toList_eq, ByteArray.toList_eq]
      cases e : (s.data.toList == u.data.toList) with
      | false => rfl
      | true =>
        have h1 : s.data.toList = u.data.toList := by simpa using e
        exact absurd (by cases s; cases u; simp_all) h
    simp [this, h]
theorem opd_seql (ho : o.op = .binOp .eql t x y t') (hx : aeval E x = some (.pv (.str s))) (hy : aeval E y = some (.pv (.str u))) : OpD P N o E H (.pv (.bool (decide (s = u)))) H :=
  .of_run fun a w I ι _ he => ⟨_, by rw [run_str2 ho (aeval_rel he hx).str_inv (aeval_rel he hy).str_inv]; simp only [Op.stringOp, list_beq, Sem.run_pure, Result.andThen_ok], .pv (.bool _)⟩
theorem opd_sneq (ho : o.op = .binOp .neq t x y t') (hx : aeval E x = some (.pv (.str s))) (hy : aeval E y = some (.pv (.str u))) : OpD P N o E H (.pv (.bool (!decide (s = u)))) H :=
  .of_run fun a w I ι _ he => ⟨_, by rw [run_str2 ho (aeval_rel he hx).str_inv (aeval_rel he hy).str_inv]; simp only [Op.stringOp, list_beq, Sem.run_pure, Result.andThen_ok], .pv (.bool _)⟩
/-- Go's order of strings. -/
def slt (s u : ByteArray) : Bool := Op.bytesLess s.toList u.toList
theorem opd_slss (ho : o.op = .binOp .lss t x y t') (hx : aeval E x = some (.pv (.str s))) (hy : aeval E y = some (.pv (.str u))) : OpD P N o E H (.pv (.bool (slt s u))) H :=
  .of_run fun a w I ι _ he => ⟨_, by rw [run_str2 ho (aeval_rel he hx).str_inv (aeval_rel he hy).str_inv]; simp only [Op.stringOp, Sem.run_pure, Result.andThen_ok]; rfl, .pv (.bool _)⟩
theorem opd_sleq (ho : o.op = .binOp .leq t x y t') (hx : aeval E x = some (.pv (.str s))) (hy : aeval E y = some (.pv (.str u))) : OpD P N o E H (.pv (.bool (slt s u || decide (s = u)))) H :=
  .of_run fun a w I ι _ he => ⟨_, by rw [run_str2 ho (aeval_rel he hx).str_inv (aeval_rel he hy).str_inv]; simp only [Op.stringOp, list_beq, Sem.run_pure, Result.andThen_ok]; rfl, .pv (.bool _)⟩
theorem opd_sgtr (ho : o.op = .binOp .gtr t x y t') (hx : aeval E x = some (.pv (.str s))) (hy : aeval E y = some (.pv (.str u))) : OpD P N o E H (.pv (.bool (!(slt s u || decide (s = u))))) H :=
  .of_run fun a w I ι _ he => ⟨_, by rw [run_str2 ho (aeval_rel he hx).str_inv (aeval_rel he hy).str_inv]; simp only [Op.stringOp, list_beq, Sem.run_pure, Result.andThen_ok]; rfl, .pv (.bool _)⟩
theorem opd_sgeq (ho : o.op = .binOp .geq t x y t') (hx : aeval E x = some (.pv (.str s))) (hy : aeval E y = some (.pv (.str u))) : OpD P N o E H (.pv (.bool (!(slt s u)))) H :=
  .of_run fun a w I ι _ he => ⟨_, by rw [run_str2 ho (aeval_rel he hx).str_inv (aeval_rel he hy).str_inv]; simp only [Op.stringOp, list_beq, Sem.run_pure, Result.andThen_ok]; rfl, .pv (.bool _)⟩
theorem opd_sadd (ho : o.op = .binOp .add t x y t') (hx : aeval E x = some (.pv (.str s))) (hy : aeval E y = some (.pv (.str u))) (hs : s.size + u.size ≤ 9223372036854775807) (hr : s ++ u = r) : OpD P N o E H (.pv (.str r)) H :=
  .of_run fun a w I ι _ he => ⟨.string r, by
    subst hr
    rw [run_str2 ho (aeval_rel he hx).str_inv (aeval_rel he hy).str_inv]
    have : ¬ (((s.size + u.size : Nat) : Int) > IntKind.i64.max) := by simp only [IntKind.max_i64]; omega
    simp only [Op.stringOp, this, if_false, Sem.run_pure, Result.andThen_ok], .pv (.str _)⟩
end strings

section eqs
variable {t e : TypeId} {w : World}
theorem run_eql_bool {b c : Bool} (ht : P.underlying t = some .bool) : (binOp .eql t (.bool b) (.bool c)).run P w = .ok (.bool (b == c)) w := by
  have h : (Op.equalIn (9999 + 1) t (.bool b) (.bool c)).run P w = .ok (b == c) w := run_equalIn_bool w 9999 t b c ht
  simp only [binOp]
  simp only [Op.equal, Op.maxDepth, Sem.run_bind, h, Result.andThen_ok, Sem.run_pure]
theorem run_neq_bool {b c : Bool} (ht : P.underlying t = some .bool) : (binOp .neq t (.bool b) (.bool c)).run P w = .ok (.bool (!(b == c))) w := by
  have h : (Op.equalIn (9999 + 1) t (.bool b) (.bool c)).run P w = .ok (b == c) w := run_equalIn_bool w 9999 t b c ht
  simp only [binOp]
  simp only [Op.equal, Op.maxDepth, Sem.run_bind, h, Result.andThen_ok, Sem.run_pure]
theorem run_equalIn_pn (d : Nat) {p : Option Addr} (ht : P.underlying t = some (.pointer e)) : (Op.equalIn (d + 1) t (.pointer p) (.pointer none)).run P w = .ok p.isNone w := by
  cases p <;> simp [Op.equalIn, run_underlying ht]
theorem run_eql_pn {p : Option Addr} (ht : P.underlying t = some (.pointer e)) : (binOp .eql t (.pointer p) (.pointer none)).run P w = .ok (.bool p.isNone) w := by
  have h : (Op.equalIn (9999 + 1) t (.pointer p) (.pointer none)).run P w = .ok p.isNone w := run_equalIn_pn 9999 ht
  simp only [binOp]
  simp only [Op.equal, Op.maxDepth, Sem.run_bind, h, Result.andThen_ok, Sem.run_pure]
theorem run_neq_pn {p : Option Addr} (ht : P.underlying t = some (.pointer e)) : (binOp .neq t (.pointer p) (.pointer none)).run P w = .ok (.bool (!p.isNone)) w := by
  have h : (Op.equalIn (9999 + 1) t (.pointer p) (.pointer none)).run P w = .ok p.isNone w := run_equalIn_pn 9999 ht
  simp only [binOp]
  simp only [Op.equal, Op.maxDepth, Sem.run_bind, h, Result.andThen_ok, Sem.run_pure]
end eqs

section bools
variable {t t' : TypeId} {x y : Operand} {b c : Bool}
theorem opd_beql (ho : o.op = .binOp .eql t x y t') (ht : P.underlying t = some .bool) (hx : aeval E x = some (.pv (.bool b))) (hy : aeval E y = some (.pv (.bool c))) : OpD P N o E H (.pv (.bool (b == c))) H :=
  .of_run fun a w I ι _ he => ⟨.bool (b == c), by
    have e1 := (aeval_rel he hx).bool_inv
    have e2 := (aeval_rel he hy).bool_inv
    simp only [execOp, ho, e1, e2, eqGuard_at_bool, Sem.run_bind, Sem.run_pure, Result.andThen_ok, run_eql_bool ht, run_neq_bool ht], .pv (.bool _)⟩
theorem opd_bneq (ho : o.op = .binOp .neq t x y t') (ht : P.underlying t = some .bool) (hx : aeval E x = some (.pv (.bool b))) (hy : aeval E y = some (.pv (.bool c))) : OpD P N o E H (.pv (.bool (!(b == c)))) H :=
  .of_run fun a w I ι _ he => ⟨.bool (!(b == c)), by
    have e1 := (aeval_rel he hx).bool_inv
    have e2 := (aeval_rel he hy).bool_inv
    simp only [execOp, ho, e1, e2, eqGuard_at_bool, Sem.run_bind, Sem.run_pure, Result.andThen_ok, run_eql_bool ht, run_neq_bool ht], .pv (.bool _)⟩
end bools

section ptrs
variable {t t' e : TypeId} {x y : Operand} {id g i k : Nat} {ob : Ob}
theorem ref_ptr {w : World} {I : Nat → Prop} {ι : Plc} {v : Value} (h : VRel w I ι H v (.ref id g i k)) (ho : H.get id = some ob) (hg : ob.g = g) : ∃ b cap, ι id = some (b, cap) ∧ v = .pointer (some ⟨b, i * ob.sz + k, none⟩) := by
  cases h with
  | ref o' h1 h2 _ h3 =>
    rw [ho] at h1; cases h1
    exact (h3 hg).2
theorem ref_sz {w : World} {I : Nat → Prop} {ι : Plc} {v : Value} {id g i k : Nat} {ob : Ob} (h : VRel w I ι H v (.ref id g i k)) (ho : H.get id = some ob) (hg : ob.g = g) : 0 < ob.sz := by
  cases h with
  | ref o' h1 h2 _ h3 =>
    rw [ho] at h1; cases h1
    exact (h3 hg).1
theorem opd_peq_ref (ho : o.op = .binOp .eql t x y t') (ht : P.underlying t = some (.pointer e)) (hx : aeval E x = some (.ref id g i k)) (hH : H.get id = some ob) (hg : ob.g = g) (hy : aeval E y = some (.pv .nilp)) : OpD P N o E H (.pv (.bool false)) H :=
  .of_run fun a w I ι _ he => ⟨.bool false, by
    obtain ⟨b, cap, _, e1⟩ := ref_ptr (aeval_rel he hx) hH hg
    have e2 := (aeval_rel he hy).nilp_inv
    simp only [execOp, ho, e1, e2, eqGuard_at_pointer, Sem.run_bind, Sem.run_pure, Result.andThen_ok, run_eql_pn ht, run_neq_pn ht]
    rfl, .pv (.bool _)⟩
theorem opd_pne_ref (ho : o.op = .binOp .neq t x y t') (ht : P.underlying t = some (.pointer e)) (hx : aeval E x = some (.ref id g i k)) (hH : H.get id = some ob) (hg : ob.g = g) (hy : aeval E y = some (.pv .nilp)) : OpD P N o E H (.pv (.bool true)) H :=
  .of_run fun a w I ι _ he => ⟨.bool true, by
    obtain ⟨b, cap, _, e1⟩ := ref_ptr (aeval_rel he hx) hH hg
    have e2 := (aeval_rel he hy).nilp_inv
    simp only [execOp, ho, e1, e2, eqGuard_at_pointer, Sem.run_bind, Sem.run_pure, Result.andThen_ok, run_eql_pn ht, run_neq_pn ht]
    rfl, .pv (.bool _)⟩
theorem opd_peq_nil (ho : o.op = .binOp .eql t x y t') (ht : P.underlying t = some (.pointer e)) (hx : aeval E x = some (.pv .nilp)) (hy : aeval E y = some (.pv .nilp)) : OpD P N o E H (.pv (.bool true)) H :=
  .of_run fun a w I ι _ he => ⟨.bool true, by
    have e1 := (aeval_rel he hx).nilp_inv
    have e2 := (aeval_rel he hy).nilp_inv
    simp only [execOp, ho, e1, e2, eqGuard_at_pointer, Sem.run_bind, Sem.run_pure, Result.andThen_ok, run_eql_pn ht, run_neq_pn ht]
    rfl, .pv (.bool _)⟩
theorem opd_pne_nil (ho : o.op = .binOp .neq t x y t') (ht : P.underlying t = some (.pointer e)) (hx : aeval E x = some (.pv .nilp)) (hy : aeval E y = some (.pv .nilp)) : OpD P N o E H (.pv (.bool false)) H :=
  .of_run fun a w I ι _ he => ⟨.bool false, by
    have e1 := (aeval_rel he hx).nilp_inv
    have e2 := (aeval_rel he hy).nilp_inv
    simp only [execOp, ho, e1, e2, eqGuard_at_pointer, Sem.run_bind, Sem.run_pure, Result.andThen_ok, run_eql_pn ht, run_neq_pn ht]
    rfl, .pv (.bool _)⟩
theorem opd_nilCheck_ref (ho : o.op = .nilCheck x) (hx : aeval E x = some (.ref id g i k)) (hH : H.get id = some ob) (hg : ob.g = g) : OpD P N o E H (.ref id g i k) H :=
  .of_run fun a w I ι _ he => by
    have hv := aeval_rel he hx
    obtain ⟨b, cap, _, e1⟩ := ref_ptr hv hH hg
    rw [e1] at hv
    exact ⟨_, by simp [execOp, ho, e1], hv⟩
theorem opd_nilCheck_fn {f : FuncId} (ho : o.op = .nilCheck x) (hx : aeval E x = some (.pv (.fn f))) : OpD P N o E H (.pv (.fn f)) H :=
  .of_run fun a w I ι _ he => by
    have hv := aeval_rel he hx
    have e1 := hv.fn_inv
    rw [e1] at hv
    exact ⟨_, by simp [execOp, ho, e1], hv⟩
end ptrs

theorem opd_extract {x : Operand} {vs : List AV} {n : Nat} {v : AV} (ho : o.op = .extract x n) (hx : aeval E x = some (.tup vs)) (hv : vs[n]? = some v) : OpD P N o E H v H :=
  .of_run fun a w I ι _ he => by
    have h := aeval_rel he hx
    generalize hc : a.eval x = c at h
    cases h with
    | @tup us _ hl hh =>
      have hn : n < us.size := by rw [hl]; exact (List.getElem?_eq_some_iff.1 hv).1
      have hu : us[n]? = some us[n] := Array.getElem?_eq_getElem hn
      exact ⟨us[n], by simp only [execOp, ho, hc]; simp [Instr.extract, hu], hh n _ v hu hv⟩

section calls
variable {x y : Operand} {T T2 e : TypeId}
theorem opd_len_str {s : ByteArray} (ho : o.op = .call { callee := .builtin .len, args := #[x], argTypes := #[T] }) (ht : P.underlying T = some .string) (hx : aeval E x = some (.pv (.str s))) : OpD P N o E H (.pv (.int .i64 s.size)) H :=
  .of_run fun a w I ι _ he => ⟨.int .i64 s.size, by
    have e1 := (aeval_rel he hx).str_inv
    simp [execOp, ho, resolve, invoke, builtin, e1, Builtin.len_, run_underlying ht, goInt], .pv (.int _ _)⟩
theorem sl_slice {w : World} {I : Nat → Prop} {ι : Plc} {v : Value} {rows : List (List PV)} (h : VRel w I ι H v (.pv (.sl rows))) : ∃ b cap, v = .slice b rows.length cap := by
  cases h with | pv h =>
  cases h with
  | nilsl => exact ⟨none, 0, rfl⟩
  | empsl a => exact ⟨some a, 0, rfl⟩
  | sl b off cap sz _ cs h1 h2 h3 h4 h5 h6 => exact ⟨_, cap, rfl⟩
theorem opd_len_sl {rows : List (List PV)} (ho : o.op = .call { callee := .builtin .len, args := #[x], argTypes := #[T] }) (ht : P.underlying T = some (.slice e)) (hx : aeval E x = some (.pv (.sl rows))) : OpD P N o E H (.pv (.int .i64 rows.length)) H :=
  .of_run fun a w I ι _ he => ⟨.int .i64 rows.length, by
    obtain ⟨b, cap, e1⟩ := sl_slice (aeval_rel he hx)
    simp [execOp, ho, resolve, invoke, builtin, e1, Builtin.len_, run_underlying ht, goInt], .pv (.int _ _)⟩
theorem osl_slice {w : World} {I : Nat → Prop} {ι : Plc} {v : Value} {id g off len : Nat} {ob : Ob} (h : VRel w I ι H v (.osl id g off len)) (hH : H.get id = some ob) (hg : ob.g = g) :
    off + len ≤ ob.rows.length ∧ ((∃ b cap oo, ι id = some (b, cap) ∧ v = .slice (some ⟨b, oo, none⟩) len (cap - off) ∧ (off < cap ∨ off = 0 → oo = off * ob.sz)) ∨ (ι id = none ∧ v = .slice none 0 0 ∧ off = 0 ∧ len = 0)) := by
  cases h with
  | osl o' h1 h2 _ h3 =>
    rw [hH] at h1; cases h1
    exact (h3 hg).2
theorem osl_sz {w : World} {I : Nat → Prop} {ι : Plc} {v : Value} {id g off len : Nat} {ob : Ob} (h : VRel w I ι H v (.osl id g off len)) (hH : H.get id = some ob) (hg : ob.g = g) : 0 < ob.sz := by
  cases h with
  | osl o' h1 h2 _ h3 =>
    rw [hH] at h1; cases h1
    exact (h3 hg).1
theorem opd_len_osl {id g off len : Nat} {ob : Ob} (ho : o.op = .call { callee := .builtin .len, args := #[x], argTypes := #[T] }) (ht : P.underlying T = some (.slice e)) (hx : aeval E x = some (.osl id g off len)) (hH : H.get id = some ob) (hg : ob.g = g) : OpD P N o E H (.pv (.int .i64 len)) H :=
  .of_run fun a w I ι _ he => ⟨.int .i64 len, by
    obtain ⟨_, ⟨b, cap, oo, _, e1, _⟩ | ⟨_, e1, _, e2⟩⟩ := osl_slice (aeval_rel he hx) hH hg
    · simp [execOp, ho, resolve, invoke, builtin, e1, Builtin.len_, run_underlying ht, goInt]
    · simp [execOp, ho, resolve, invoke, builtin, e1, e2, Builtin.len_, run_underlying ht, goInt], .pv (.int _ _)⟩
theorem opd_min {k : IntKind} {n m r : Int} (ho : o.op = .call { callee := .builtin .min, args := #[x, y], argTypes := #[T, T2] }) (hx : aeval E x = some (.pv (.int k n))) (hy : aeval E y = some (.pv (.int k m))) (hr : min n m = r) : OpD P N o E H (.pv (.int k r)) H :=
  .of_run fun a w I ι _ he => ⟨.int k r, by
    have e1 := (aeval_rel he hx).int_inv
    have e2 := (aeval_rel he hy).int_inv
    have e3 : (if m < n then m else n) = min n m := by rw [Int.min_def]; split <;> split <;> omega
    simp [execOp, ho, resolve, invoke, builtin, e1, e2, Builtin.min_, Builtin.min2, e3, hr], .pv (.int _ _)⟩
theorem opd_max {k : IntKind} {n m r : Int} (ho : o.op = .call { callee := .builtin .max, args := #[x, y], argTypes := #[T, T2] }) (hx : aeval E x = some (.pv (.int k n))) (hy : aeval E y = some (.pv (.int k m))) (hr : max n m = r) : OpD P N o E H (.pv (.int k r)) H :=
  .of_run fun a w I ι _ he => ⟨.int k r, by
    have e1 := (aeval_rel he hx).int_inv
    have e2 := (aeval_rel he hy).int_inv
    have e3 : (if n < m then m else n) = max n m := by rw [Int.max_def]; split <;> split <;> omega
    have e4 : (if m > n then m else n) = max n m := e3
    simp [execOp, ho, resolve, invoke, builtin, e1, e2, Builtin.max_, Builtin.max2, e3, e4, hr], .pv (.int _ _)⟩
end calls

theorem opd_conv_int {S T : TypeId} {x : Operand} {k k' : IntKind} {n r : Int} {ds : TypeDesc} (ho : o.op = .convert S T x) (hS : P.underlying S = some ds) (hT : P.underlying T = some (.int k')) (hx : aeval E x = some (.pv (.int k n))) (hr : k'.wrap n = r) : OpD P N o E H (.pv (.int k' r)) H :=
  .of_run fun a w I ι _ he => ⟨.int k' r, by
    have e1 := (aeval_rel he hx).int_inv
    subst hr
    simp [execOp, ho, e1, convert, run_underlying hS, run_underlying hT, Conv.intToInt], .pv (.int _ _)⟩
theorem opd_makeFunc {f : FuncId} {caps : Array Operand} {vs : List AV} (ho : o.op = .makeFunc (.func f) #[] caps) (hv : caps.toList.mapM (aeval E) = some vs) : OpD P N o E H (.clo f vs) H :=
  .of_run fun a w I ι _ he => by
    refine ⟨.func (.func f) #[] (caps.map a.eval), by simp [execOp, ho, Instr.makeFunc], ?_⟩
    have key : ∀ (l : List Operand) (vs : List AV), l.mapM (aeval E) = some vs → l.length = vs.length ∧ ∀ (i : Nat) (v : Value) (b : AV), (l.map a.eval)[i]? = some v → vs[i]? = some b → VRel w I ι H v b := by
      intro l
      induction l with
      | nil => intro vs h; simp at h; subst h; simp
      | cons x l ih =>
        intro vs h
        simp only [List.mapM_cons, Option.pure_def, Option.bind_eq_bind, Option.bind_eq_some_iff, Option.some.injEq] at h
        obtain ⟨v0, h0, vs0, h1, rfl⟩ := h
        obtain ⟨l1, l2⟩ := ih vs0 h1
        refine ⟨by simp [l1], ?_⟩
        intro i v b hv hb
        cases i with
        | zero => simp at hv hb; subst hv hb; exact aeval_rel he h0
        | succ i => simp at hv hb; exact l2 i v b (by simpa using hv) hb
    obtain ⟨h1, h2⟩ := key caps.toList vs hv
    exact .clo (by simpa using h1) (fun i v b hv hb => h2 i v b (by simpa using hv) hb)
end
end Go.Abs
