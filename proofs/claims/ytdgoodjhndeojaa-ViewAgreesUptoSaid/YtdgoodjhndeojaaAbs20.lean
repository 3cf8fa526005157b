/-
  THE ABSTRACT LOGIC, 20: an array's value is asked; sets (maps of truths). Conditions: each rule's own premises.
-/
import Derived.Test.YtdgoodjhndeojaaAbs19
set_option linter.unusedVariables false
set_option linter.unusedSimpArgs false
namespace Go.Abs
section
variable {P : Program} {N : Nat} {o : Oper} {E : Env} {H : Heap} {T : TypeId} {x y z : Operand}
theorem opd_index_agg {e : TypeId} {cnt : Nat} {kk : IntKind} {n : Int} {m : Nat} {l : List AV} {v : AV} (ho : o.op = .index T x y) (hT : P.underlying T = some (.array cnt e)) (hs : ∀ w, (sizeOf e).run P w = .ok 1 w) (ha : ∀ w, (isAgg e).run P w = .ok false w)
    (hx : aeval E x = some (.agg l)) (hy : aeval E y = some (.pv (.int kk n))) (h0 : 0 ≤ n) (hm : n.toNat = m) (hi : m < cnt) (hv : l[m]? = some v) : OpD P N o E H v H :=
  .of_run fun a w I ι hr he => by
    have h := aeval_rel he hx
    have hn := (aeval_rel he hy).int_inv
    generalize hc : a.eval x = c at h
    cases h with
    | @agg vs _ hl h1 h2 =>
      have hlt : m < vs.size := by rw [hl]; exact (List.getElem?_eq_some_iff.1 hv).1
      have hu : vs[m]? = some vs[m] := Array.getElem?_eq_getElem hlt
      refine ⟨vs[m], ?_, h2 m _ v hu hv⟩
      have h5 : n < (cnt : Int) := by omega
      simp only [execOp, ho, hc, hn]
      simp [Instr.index, run_underlying hT, asIntOf, h0, h5, hs, hm, part, ha, hu]

/-- A set: a map of truths. -/
def sets (l : List ByteArray) : List (ByteArray × AV) := l.map fun s => (s, .pv (.bool true))
def inB (l : List ByteArray) (s : ByteArray) : Bool := l.any fun a => decide (a = s)
def sput (l : List ByteArray) (s : ByteArray) : List ByteArray := if inB l s then l else l ++ [s]
theorem sets_get (l : List ByteArray) (s : ByteArray) : (mget (sets l) s).getD (.pv (.bool false)) = .pv (.bool (inB l s)) := by
  induction l with
  | nil => rfl
  | cons a l ih =>
    by_cases h : a = s
    · subst h; simp [sets, mget, inB]
    · simp only [sets, List.map_cons, mget, h, if_false, inB, List.any_cons, decide_false, Bool.false_or] at ih ⊢
      exact ih
theorem sets_some (l : List ByteArray) (s : ByteArray) : (mget (sets l) s).isSome = inB l s := by
  induction l with
  | nil => rfl
  | cons a l ih =>
    by_cases h : a = s
    · subst h; simp [sets, mget, inB]
    · simp only [sets, List.map_cons, mget, h, if_false, inB, List.any_cons, decide_false, Bool.false_or] at ih ⊢
      exact ih
theorem sets_put (l : List ByteArray) (s : ByteArray) : mput (sets l) s (.pv (.bool true)) = sets (sput l s) := by
  induction l with
  | nil => rfl
  | cons a l ih =>
    by_cases h : a = s
    · subst h; simp [sets, mput, sput, inB]
    · have e : sput (a :: l) s = a :: sput l s := by
        unfold sput inB
        rw [List.any_cons, decide_eq_false h, Bool.false_or]
        split <;> rfl
      rw [e]
      show mput ((a, .pv (.bool true)) :: sets l) s (.pv (.bool true)) = (a, .pv (.bool true)) :: sets (sput l s)
      rw [mput, if_neg h, ih]
theorem sets_length (l : List ByteArray) : (sets l).length = l.length := by simp [sets]
theorem x_lookup_set {kt et : TypeId} {l : List ByteArray} {id g : Nat} {ob : Ob} {s : ByteArray} {zv : Value} (ho : o.op = .lookup T x y false) (hT : P.underlying T = some (.map kt et)) (hd : P.underlying kt = some .string) (hx : aeval E x = some (.mp id g)) (hH : H.get id = some ob) (hg : ob.g = g)
    (hrows : ob.rows = mrows strK (sets l)) (hy : aeval E y = some (.pv (.str s))) (hz : ∀ w, (zeroValue et).run P w = .ok zv w) (hv : ZV zv (.pv (.bool false))) : OpD P N o E H (.pv (.bool (inB l s))) H := by
  rw [← sets_get]
  exact opd_lookup (κ := strK) ho hT hd hx hH hg hrows hy hz hv
theorem x_put_set {kt et : TypeId} {l : List ByteArray} {id g : Nat} {ob : Ob} {s : ByteArray} (ho : o.op = .mapUpdate T x y z ∨ o.op = .insert T x y z) (hT : P.underlying T = some (.map kt et)) (hd : P.underlying kt = some .string) (hx : aeval E x = some (.mp id g)) (hH : H.get id = some ob) (hg : ob.g = g)
    (hty : ob.ty = (sets l).length) (hrows : ob.rows = mrows strK (sets l)) (hy : aeval E y = some (.pv (.str s))) (hz : aeval E z = some (.pv (.bool true))) : OpD P N o E H .any ((id, ⟨g, ob.sz, (sets (sput l s)).length, mrows strK (sets (sput l s))⟩) :: H) :=
  x_mapUpdate (κ := strK) ho hT hd hx hH hg hty hrows hy hz (sets_put l s)
/-- A map of truths, as an object. -/
abbrev sob (l : List ByteArray) : Ob := ⟨0, 0, (sets l).length, mrows strK (sets l)⟩
end
end Go.Abs
