/-
  PROVED: planispherelaw32.VerifyOthers returns true, for all arguments of bulk at most 1048576; the arguments read behind the call as before. Conditions: that bound alone (the statement's own).
-/
import Derived.Test.YtljocbkebhgkoaaLaw
import Derived.Test.YtljocbkebhgkoaaV14
set_option linter.unusedVariables false
set_option linter.unusedSimpArgs false
set_option maxRecDepth 100000
namespace Go.Proofs.Ytljocbkebhgkoaa
open Go.Abs Go.ChangeShapes Go.WideShapes Go.ChangeAt Go.RowKit
namespace c3
theorem contract (H : Type) (enc : TypeId × Value → H) (W : World) (base : Nat) (args : Array Value) (ds gs : List (DataW H)) (before : List MemPlace)
    (hval : ∀ (j : Nat) t v, Try.f5.params[j]? = some t → args[j]? = some v → Value.okWide Try.prog W .any base t v)
    (hW : DataW.Whole enc Try.prog Try.f5.params.toList Rows.verifyOthersSpec.vars false W args.toList ds gs before) (hk : Rows.uptoSmall H (ds ++ gs) = true) :
    Calls Try.prog 5 args W fun e W' => ∃ v, e = .returned v ∧ Rows.verifyOthersSpec.post enc Try.prog Try.f5 false true false false W args v W' := by
  refine law_true (n := 12) (B := 1048576) (bt := 4) laidOut (by kernel_rfl) (by kernel_rfl) rfl ?_ (by kernel_rfl) Try.underlying4 hval hW (bulk_left (upto_bound hk)) ?_
  · intro ds hl
    rw [Try.params5] at hl
    match ds, hl with
    | [d1, d2, d3, d4], _ => exact ⟨rfl, rfl, rfl⟩
  · rw [Try.params5]
    intro pss h
    obtain ⟨p1, _, rfl, q1, h⟩ := shAll_cons h
    obtain ⟨p2, _, rfl, q2, h⟩ := shAll_cons h
    obtain ⟨p3, _, rfl, q3, h⟩ := shAll_cons h
    obtain ⟨p4, _, rfl, q4, h⟩ := shAll_cons h
    obtain rfl := shAll_nil h
    obtain ⟨x1, rfl, h1⟩ := d_map q1
    obtain ⟨x2, rfl, h2⟩ := d_edits q2
    obtain ⟨x3, x3l, rfl, h3, h3l, h3i⟩ := d_ev q3
    obtain ⟨x4, rfl, h4⟩ := d_edit q4
    have e : avsOf Try.prog [24, 25, 28, 39] [[slObjs x1], [slEdits x2], [.int .i64 x3, slInts x3l], encEdit x4] = [.agg [.pv (slObjs x1)], .pv (slEdits x2), .agg [iv x3, .pv (slInts x3l)], av (encEdit x4)] := by
      simp only [avsOf, argAV, Try.underlying25, Try.underlying39, Try.underlying28, Try.underlying24, av, List.map_cons, List.map_nil]
    show ACalls Try.prog _ (avsOf Try.prog [24, 25, 28, 39] [[slObjs x1], [slEdits x2], [.int .i64 x3, slInts x3l], encEdit x4]) [] _
    rw [e]
    exact verifyOthers_c x1 x2 x3 x3l x4 [] (okMap_of (by decide) h1) h1.1 (okObjs_of h1) (okEdits_of (by decide) h2) h2.1 (fun e he => okEdit_of (h2.2 e he)) h3l (okEdit_of h4)
theorem lifted (os : Os) (started : os.Started) (H : Type) (enc : TypeId × Value → H) (F : Stop.Interp) :
    ReturnsInHanded {} Try.checked os 5 .any ((Rows.OpenSpec.upto Rows.verifyOthersSpec).pre6 enc Try.prog Try.f5 Rows.verifyOthersUptoRow.domain false) (((Rows.OpenSpec.upto Rows.verifyOthersSpec).at F).post enc Try.prog Try.f5 false true false false) := by
  refine returnsInHanded_of_cond (C := Try.checked) (s := Rows.OpenSpec.upto Rows.verifyOthersSpec) (k := Rows.uptoSmall) rfl own started (by kernel_rfl) Try.func5
    (OpenSpec.witness (enc := enc) (C := Try.checked) (s := Rows.OpenSpec.upto Rows.verifyOthersSpec) (k := Rows.uptoSmall) rfl false ⟨#[], #[.agg #[.slice none 0 0], .slice none 0 0, .agg #[.int .i64 0, .slice none 0 0], .agg #[.int .i64 0, .string ⟨#[]⟩, .string ⟨#[]⟩, .string ⟨#[]⟩, .int .i64 0, .int .i64 0, .string ⟨#[]⟩, .string ⟨#[]⟩, .slice none 0 0, .string ⟨#[]⟩, .int .i64 0, .int .i64 0, .int .i64 0, .slice none 0 0, .slice none 0 0]], []⟩ 8 (by kernel_rfl) (by kernel_rfl) (by kernel_rfl)
      (x := ([.agg [.nil], .nil, .agg [.lit (.int .i64 0), .nil], .agg [.lit (.int .i64 0), .lit (.string []), .lit (.string []), .lit (.string []), .agg [.lit (.int .i64 0), .lit (.int .i64 0)], .lit (.string []), .lit (.string []), .nil, .agg [.lit (.string []), .lit (.int .i64 0), .agg [.lit (.int .i64 0), .lit (.int .i64 0)], .nil, .nil]]], [], [])) (by kernel_rfl) rfl (by kernel_rfl)) ?_
  intro W base args ds gs before hval hW _ hk _
  exact contract H enc W base args ds gs before hval hW hk
theorem over : Rows.verifyOthersUptoRow.holds Try.pinned (Rows.OpenSpec.upto Rows.verifyOthersSpec) :=
  OpenClaim.holds_of_cond 5 Try.f5 rfl rfl rfl rfl rfl rfl rfl ⟨rfl, rfl, rfl, rfl, rfl⟩ rfl rfl rfl rfl rfl (by kernel_rfl) Try.func5 (by kernel_rfl)
    (of_decide_eq_true (by kernel_rfl)) (by unfold Func.isWrapper; first | (rw [if_pos (by decide +kernel)]; kernel_rfl) | (rw [if_neg (by decide +kernel)]; exact ⟨rfl, rfl⟩))
    (fun os started H enc _ F => lifted os started H enc F)
end c3
theorem verifyOthers_holds : Rows.VerifyOthersUptoSaid := c3.over
end Go.Proofs.Ytljocbkebhgkoaa
