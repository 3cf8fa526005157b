/-
  PROVED: planispherelaw46.DiskMatchesReference returns true, for all arguments of bulk at most 1048576; the arguments read behind the call as before. Conditions: that bound alone (the statement's own).
-/
import Derived.Test.YtljocbkebhgkoaaR4
import Derived.Test.YtljocbkebhgkoaaDLaw
set_option linter.unusedVariables false
set_option linter.unusedSimpArgs false
set_option maxRecDepth 100000
namespace Go.Proofs.Ytljocbkebhgkoaa
open Go.Abs Go.ChangeShapes Go.WideShapes Go.ChangeAt Go.RowKit
namespace cd4
theorem contract (H : Type) (enc : TypeId × Value → H) (W : World) (base : Nat) (args : Array Value) (ds gs : List (DataW H)) (before : List MemPlace)
    (hval : ∀ (j : Nat) t v, Try.f6.params[j]? = some t → args[j]? = some v → Value.okWide Try.prog W .any base t v)
    (hW : DataW.Whole enc Try.prog Try.f6.params.toList Rows.diskMatchesReferenceSpec.vars false W args.toList ds gs before) (hk : Rows.uptoSmall H (ds ++ gs) = true) :
    Calls Try.prog 6 args W fun e W' => ∃ v, e = .returned v ∧ Rows.diskMatchesReferenceSpec.post enc Try.prog Try.f6 false true false false W args v W' := by
  refine law_true (n := 12) (B := 1048576) (bt := 4) laidOut (by kernel_rfl) (by kernel_rfl) rfl ?_ (by kernel_rfl) Try.underlying4 hval hW (bulk_left (upto_bound hk)) ?_
  · intro ds hl
    rw [Try.params6] at hl
    match ds, hl with
    | [d1, d2, d3], _ => exact ⟨rfl, rfl, rfl⟩
  · rw [Try.params6]
    intro pss h
    obtain ⟨p1, _, rfl, q1, h⟩ := shAll_cons h
    obtain ⟨p2, _, rfl, q2, h⟩ := shAll_cons h
    obtain ⟨p3, _, rfl, q3, h⟩ := shAll_cons h
    obtain rfl := shAll_nil h
    obtain ⟨x1, rfl, h1, h1b⟩ := d_u8 q1
    obtain ⟨x2, rfl, h2⟩ := d_int q2
    obtain ⟨x3, rfl, h3⟩ := d_acts q3
    have e : avsOf Try.prog [5, 3, 44] [[.int .u8 x1], [.int .i64 x2], [slActs x3]] = [.pv (.int .u8 x1), iv x2, .pv (slActs x3)] := by
      simp only [avsOf, argAV, Try.underlying44, Try.underlying3, Try.underlying5, List.map_cons, List.map_nil]
    show ACalls Try.prog _ (avsOf Try.prog [5, 3, 44] [[.int .u8 x1], [.int .i64 x2], [slActs x3]]) [] _
    rw [e]
    exact diskMatches_c x1 x2 x3 [] h1 h1b h3
theorem lifted (os : Os) (started : os.Started) (H : Type) (enc : TypeId × Value → H) (F : Stop.Interp) :
    ReturnsInHanded {} Try.checked os 6 .any ((Rows.OpenSpec.upto Rows.diskMatchesReferenceSpec).pre6 enc Try.prog Try.f6 Rows.diskMatchesReferenceUptoRow.domain false) (((Rows.OpenSpec.upto Rows.diskMatchesReferenceSpec).at F).post enc Try.prog Try.f6 false true false false) := by
  refine returnsInHanded_of_cond (C := Try.checked) (s := Rows.OpenSpec.upto Rows.diskMatchesReferenceSpec) (k := Rows.uptoSmall) rfl own started (by kernel_rfl) Try.func6
    (OpenSpec.witness (enc := enc) (C := Try.checked) (s := Rows.OpenSpec.upto Rows.diskMatchesReferenceSpec) (k := Rows.uptoSmall) rfl false ⟨#[], #[.int .u8 0, .int .i64 0, .slice none 0 0], []⟩ 8 (by kernel_rfl) (by kernel_rfl) (by kernel_rfl)
      (x := ([.lit (.int .u8 0), .lit (.int .i64 0), .nil], [], [])) (by kernel_rfl) rfl (by kernel_rfl)) ?_
  intro W base args ds gs before hval hW _ hk _
  exact contract H enc W base args ds gs before hval hW hk
theorem over : Rows.diskMatchesReferenceUptoRow.holds Try.pinned (Rows.OpenSpec.upto Rows.diskMatchesReferenceSpec) :=
  OpenClaim.holds_of_cond 6 Try.f6 rfl rfl rfl rfl rfl rfl rfl ⟨rfl, rfl, rfl, rfl, rfl⟩ rfl rfl rfl rfl rfl (by kernel_rfl) Try.func6 (by kernel_rfl)
    (of_decide_eq_true (by kernel_rfl)) (by unfold Func.isWrapper; first | (rw [if_pos (by decide +kernel)]; kernel_rfl) | (rw [if_neg (by decide +kernel)]; exact ⟨rfl, rfl⟩))
    (fun os started H enc _ F => lifted os started H enc F)
end cd4
theorem diskMatchesReference_holds : Rows.DiskMatchesReferenceUptoSaid := cd4.over
end Go.Proofs.Ytljocbkebhgkoaa
