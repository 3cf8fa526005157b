/-
  THE ABSTRACT LOGIC, 11: short names; objects that end with a call; a loop's next round. Conditions: none.
-/
import Derived.Test.YtdgoodjhndeojaaAbs10
set_option linter.unusedVariables false
namespace Go.Abs
abbrev iv (n : Int) : AV := .pv (.int .i64 n)
abbrev bv (b : Bool) : AV := .pv (.bool b)
abbrev sv (s : ByteArray) : AV := .pv (.str s)
abbrev lv (l : List (List PV)) : AV := .pv (.sl l)
abbrev av (l : List PV) : AV := .agg (l.map .pv)
/-- An object of one row. -/
abbrev bx (n T : Nat) (r : List AV) : Ob := ⟨0, n, T, [r]⟩
theorem Closed.of {H : Heap} (h : ∀ p ∈ H, ∀ r ∈ p.2.rows, ∀ a ∈ r, Clo H a) : Closed H := fun _ _ ho => h _ (mem_of_hget ho)
theorem Sub.app {D H : Heap} (hD : ∀ p ∈ D, H.get p.1 = none) : Sub H (D ++ H) := fun id o ho => by
  rw [get_app]
  cases e : D.get id with
  | none => exact ho
  | some o' => exact absurd (hD _ (mem_of_hget e)) (by rw [ho]; simp)
theorem Sub.kept {D H : Heap} (hD : ∀ p ∈ D, H.get p.1 = none) : Kept H H (D ++ H) := fun id hi => by
  obtain ⟨o, ho⟩ := Option.isSome_iff_exists.1 hi
  rw [ho, Sub.app hD id o ho]
/-- The objects in front end with the call. -/
theorem Fin.pops {H : Heap} {r : AV} (D : Heap) (hr : Clo H r) (hc : Closed H) (hD : ∀ p ∈ D, H.get p.1 = none) : Fin H (D ++ H) r H r := by
  intro G hG I ι w v h1 h2 h3
  subst hG
  exact ⟨I, ι, h1.restrict (Sub.app hD) hc, h2.restrict (Sub.app hD) (Sub.kept hD), h3.restrict (Sub.app hD) hr⟩
/-- A state of the same heap in another writing. -/
theorem Ent.eq {G0 : Heap} {E E' : Env} {H H' : Heap} (h : EOk0 E E') (hH : H' = H) : Ent G0 E H E' H' := by subst hH; exact Ent.e0 h
/-! ### the chain of a region that draws, step by step -/
def DC (P : Program) (N : Nat) (ops rest : List Oper) (E : Env) (H : Heap) (K : List Rec → Env → Heap → Prop) : Prop := ∃ rs E' H', DChain P N ops rest E H rs E' H' ∧ K rs E' H'
theorem dc_nil {P : Program} {N : Nat} {ops : List Oper} {E : Env} {H : Heap} {K : List Rec → Env → Heap → Prop} (h : K [] E H) : DC P N ops [] E H K := ⟨_, _, _, .nil, h⟩
theorem dc_cons {P : Program} {N : Nat} {ops rest : List Oper} {o : Oper} {E : Env} {H : Heap} {K : List Rec → Env → Heap → Prop} {r : Rec} (h : DStep P N ops o E H r) (hd : dstOk N o.dst = true)
    (hk : DC P N ops rest (putd E o.dst r.v) (r.W ++ H) (fun rs E' H' => K (r :: rs) E' H')) : DC P N ops (o :: rest) E H K := by
  obtain ⟨rs, E', H', h1, h2⟩ := hk
  exact ⟨_, _, _, .cons h hd h1, h2⟩
theorem awp_drawc {P : Program} {G0 : Heap} {N id : Nat} {Q : Exit → Env → Heap → Prop} {ops : Array Oper} {E : Env} {H : Heap} (hm : P.follows .mixedOrders = true)
    (h : DC P N ops.toList ops.toList E H (fun rs E' H' => okDraw ops.toList rs = true ∧ Q .normal E' H')) : AWp P G0 N (.region id ops true) Q E H := by
  obtain ⟨rs, E', H', h1, h2, h3⟩ := h
  exact awp_draw hm h1 h2 h3
end Go.Abs
