/-
  PROVED: planispherelaw32.VerifyMatchesReference returns true, for all arguments of bulk at most 1048576; the arguments read behind the call as before. Conditions: that bound alone (the statement's own).
-/
import Derived.Test.YtljocbkebhgkoaaDec
import Derived.Test.YtljocbkebhgkoaaV11
set_option linter.unusedVariables false
set_option maxRecDepth 100000
namespace Go.Proofs.Ytljocbkebhgkoaa
open Go.Abs Go.ChangeShapes Go.WideShapes Go.ChangeAt Go.RowKit
theorem own : ownKnob Try.prog.godebug = none := by kernel_rfl
theorem laidOut : laidOutB Try.prog = true := by kernel_rfl
theorem upto_bound {H : Type} {l : List (DataW H)} (hk : Rows.uptoSmall H l = true) : Rows.uptoBulkAll l ≤ 1048576 := of_decide_eq_true hk
theorem bulk_left {H : Type} {l r : List (DataW H)} {n : Nat} (h : Rows.uptoBulkAll (l ++ r) ≤ n) : Rows.uptoBulkAll l ≤ n := by
  induction l generalizing n with
  | nil => simp [Rows.uptoBulkAll]
  | cons x l ih =>
    simp only [List.cons_append, Rows.uptoBulkAll] at h ⊢
    have := ih (n := n - Rows.uptoBulk x) (by omega)
    omega
namespace c1
abbrev F : Nat := 3
theorem contract (H : Type) (enc : TypeId × Value → H) (W : World) (base : Nat) (args : Array Value) (ds gs : List (DataW H)) (before : List MemPlace)
    (hval : ∀ (j : Nat) t v, Try.f3.params[j]? = some t → args[j]? = some v → Value.okWide Try.prog W .any base t v)
    (hW : DataW.Whole enc Try.prog Try.f3.params.toList Rows.verifyMatchesReferenceSpec.vars false W args.toList ds gs before) (hk : Rows.uptoSmall H (ds ++ gs) = true) :
    Calls Try.prog 3 args W fun e W' => ∃ v, e = .returned v ∧ Rows.verifyMatchesReferenceSpec.post enc Try.prog Try.f3 false true false false W args v W' := by
  refine law_true (n := 12) (B := 1048576) (bt := 4) laidOut (by kernel_rfl) (by kernel_rfl) rfl ?_ (by kernel_rfl) Try.underlying4 hval hW (bulk_left (upto_bound hk)) ?_
  · intro ds hl
    rw [Try.params3] at hl
    match ds, hl with
    | [d1, d2, d3], _ => exact ⟨rfl, rfl, rfl⟩
  · rw [Try.params3]
    intro pss h
    obtain ⟨p1, _, rfl, h1, h⟩ := shAll_cons h
    obtain ⟨p2, _, rfl, h2, h⟩ := shAll_cons h
    obtain ⟨p3, _, rfl, h3, h⟩ := shAll_cons h
    obtain rfl := shAll_nil h
    obtain ⟨m, rfl, hm⟩ := d_map h1
    obtain ⟨l, rfl, hl⟩ := d_edits h2
    obtain ⟨k, idx, rfl, _, hx, _⟩ := d_ev h3
    have e : avsOf Try.prog [24, 25, 28] [[slObjs m], [slEdits l], [.int .i64 k, slInts idx]] = [.agg [.pv (slObjs m)], .pv (slEdits l), .agg [iv k, .pv (slInts idx)]] := by
      simp only [avsOf, argAV, Try.underlying24, Try.underlying25, Try.underlying28, List.map_cons, List.map_nil]
    show ACalls Try.prog _ (avsOf Try.prog [24, 25, 28] [[slObjs m], [slEdits l], [.int .i64 k, slInts idx]]) [] _
    rw [e]
    exact verifyMatches_c m l k idx [] (okMap_of (by decide) hm) (fun o ho => ⟨by have := (hm.2 o ho).2.2.2.2.1.1; omega, by have := (hm.2 o ho).2.2.2.2.2.1; omega⟩) (okEdits_of (by decide) hl)
      (fun e he => ⟨by have := (hl.2 e he).2.2.2.2.2.2.2.2.1.1; omega, by have := (hl.2 e he).2.2.2.2.2.2.2.2.2.2.2.2.2.1.1; omega, by have := (hl.2 e he).2.2.2.2.2.2.2.2.2.2.2.2.2.2.1; omega⟩) (by omega)

theorem lifted (os : Os) (started : os.Started) (H : Type) (enc : TypeId × Value → H) (F : Stop.Interp) :
    ReturnsInHanded {} Try.checked os 3 .any ((Rows.OpenSpec.upto Rows.verifyMatchesReferenceSpec).pre6 enc Try.prog Try.f3 Rows.verifyMatchesReferenceUptoRow.domain false) (((Rows.OpenSpec.upto Rows.verifyMatchesReferenceSpec).at F).post enc Try.prog Try.f3 false true false false) := by
  refine returnsInHanded_of_cond (C := Try.checked) (s := Rows.OpenSpec.upto Rows.verifyMatchesReferenceSpec) (k := Rows.uptoSmall) rfl own started (by kernel_rfl) Try.func3
    (OpenSpec.witness (enc := enc) (C := Try.checked) (s := Rows.OpenSpec.upto Rows.verifyMatchesReferenceSpec) (k := Rows.uptoSmall) rfl false ⟨#[], #[.agg #[.slice none 0 0], .slice none 0 0, .agg #[.int .i64 0, .slice none 0 0]], []⟩ 8 (by kernel_rfl) (by kernel_rfl) (by kernel_rfl)
      (x := ([.agg [.nil], .nil, .agg [.lit (.int .i64 0), .nil]], [], [])) (by kernel_rfl) rfl (by kernel_rfl)) ?_
  intro W base args ds gs before hval hW _ hk _
  exact contract H enc W base args ds gs before hval hW hk

theorem over : Rows.verifyMatchesReferenceUptoRow.holds Try.pinned (Rows.OpenSpec.upto Rows.verifyMatchesReferenceSpec) :=
  OpenClaim.holds_of_cond 3 Try.f3 rfl rfl rfl rfl rfl rfl rfl ⟨rfl, rfl, rfl, rfl, rfl⟩ rfl rfl rfl rfl rfl (by kernel_rfl) Try.func3 (by kernel_rfl)
    (of_decide_eq_true (by kernel_rfl)) (by unfold Func.isWrapper; first | (rw [if_pos (by decide +kernel)]; kernel_rfl) | (rw [if_neg (by decide +kernel)]; exact ⟨rfl, rfl⟩))
    (fun os started H enc _ F => lifted os started H enc F)
end c1
theorem verifyMatchesReference_holds : Rows.VerifyMatchesReferenceUptoSaid := c1.over
end Go.Proofs.Ytljocbkebhgkoaa
