/-
  PROVED: planispherelaw09.TagMatchesReference returns true, for all arguments of bulk at most 1048576; the arguments read behind the call as before. Conditions: that bound alone (the statement's own).
-/
import Derived.Test.YtedfihgkopejcaaKT6M10
set_option linter.unusedVariables false
set_option linter.unusedSimpArgs false
set_option maxRecDepth 100000
namespace Go.Proofs.Ytedfihgkopejcaa
open Go.Abs Go.ChangeShapes Go.WideShapes Go.ChangeAt Go.RowKit
namespace ct6
theorem contract (H : Type) (enc : TypeId × Value → H) (W : World) (base : Nat) (args : Array Value) (ds gs : List (DataW H)) (before : List MemPlace)
    (hval : ∀ (j : Nat) t v, Try.f3.params[j]? = some t → args[j]? = some v → Value.okWide Try.prog W .any base t v)
    (hW : DataW.Whole enc Try.prog Try.f3.params.toList Rows.tagMatchesReferenceSpec.vars false W args.toList ds gs before) (hk : Rows.uptoSmall H (ds ++ gs) = true) :
    Calls Try.prog 3 args W fun e W' => ∃ v, e = .returned v ∧ Rows.tagMatchesReferenceSpec.post enc Try.prog Try.f3 false true false false W args v W' := by
  refine law_true (n := 12) (B := 1048576) (bt := 4) laidOut (by kernel_rfl) (by kernel_rfl) rfl ?_ (by kernel_rfl) Try.underlying4 hval hW (bulk_left (upto_bound hk)) ?_
  · intro ds hl
    rw [Try.params3] at hl
    match ds, hl with
    | [d1, d2, d3, d4, d5, d6], _ => exact ⟨rfl, rfl, rfl⟩
  · rw [Try.params3]
    intro pss h
    obtain ⟨p1, _, rfl, q1, h⟩ := shAll_cons h
    obtain ⟨p2, _, rfl, q2, h⟩ := shAll_cons h
    obtain ⟨p3, _, rfl, q3, h⟩ := shAll_cons h
    obtain ⟨p4, _, rfl, q4, h⟩ := shAll_cons h
    obtain ⟨p5, _, rfl, q5, h⟩ := shAll_cons h
    obtain ⟨p6, _, rfl, q6, h⟩ := shAll_cons h
    obtain rfl := shAll_nil h
    obtain ⟨x1, rfl, h1⟩ := d_tags q1
    obtain ⟨x2, rfl, h2⟩ := d_tags q2
    obtain ⟨x3, rfl, h3⟩ := d_tags q3
    obtain ⟨x4, rfl, h4⟩ := d_str q4
    obtain ⟨x5, rfl, h5⟩ := d_str q5
    obtain ⟨x6, rfl, h6⟩ := d_str q6
    have e : avsOf Try.prog [22, 22, 22, 9, 9, 9] [[slTags x1], [slTags x2], [slTags x3], [.str x4], [.str x5], [.str x6]] = [.pv (slTags x1), .pv (slTags x2), .pv (slTags x3), sv x4, sv x5, sv x6] := by
      simp only [avsOf, argAV, Try.underlying22, Try.underlying9, List.map_cons, List.map_nil]
    show ACalls Try.prog _ (avsOf Try.prog [22, 22, 22, 9, 9, 9] [[slTags x1], [slTags x2], [slTags x3], [.str x4], [.str x5], [.str x6]]) [] _
    rw [e]
    exact tagMatches_c x1 x2 x3 x4 x5 x6 [] (szT_of h1) (szT_of h2) (szT_of h3) (by omega) (by omega) (by omega)
theorem lifted (os : Os) (started : os.Started) (H : Type) (enc : TypeId × Value → H) (F : Stop.Interp) :
    ReturnsInHanded {} Try.checked os 3 .any ((Rows.OpenSpec.upto Rows.tagMatchesReferenceSpec).pre6 enc Try.prog Try.f3 Rows.tagMatchesReferenceUptoRow.domain false) (((Rows.OpenSpec.upto Rows.tagMatchesReferenceSpec).at F).post enc Try.prog Try.f3 false true false false) := by
  refine returnsInHanded_of_cond (C := Try.checked) (s := Rows.OpenSpec.upto Rows.tagMatchesReferenceSpec) (k := Rows.uptoSmall) rfl own started (by kernel_rfl) Try.func3
    (OpenSpec.witness (enc := enc) (C := Try.checked) (s := Rows.OpenSpec.upto Rows.tagMatchesReferenceSpec) (k := Rows.uptoSmall) rfl false ⟨#[], #[.slice none 0 0, .slice none 0 0, .slice none 0 0, .string ⟨#[]⟩, .string ⟨#[]⟩, .string ⟨#[]⟩], []⟩ 8 (by kernel_rfl) (by kernel_rfl) (by kernel_rfl)
      (x := ([.nil, .nil, .nil, .lit (.string []), .lit (.string []), .lit (.string [])], [], [])) (by kernel_rfl) rfl (by kernel_rfl)) ?_
  intro W base args ds gs before hval hW _ hk _
  exact contract H enc W base args ds gs before hval hW hk
theorem in_place : Program.inPlace Try.checked.prog 3 = Rows.tagMatchesReferenceUptoRow.inPlace := by kernel_rfl
theorem un_followed : Program.unfollowed Try.checked.prog 3 = Rows.tagMatchesReferenceUptoRow.unfollowed := by kernel_rfl
theorem re_curses : Program.recurses Try.checked.prog 3 = Rows.tagMatchesReferenceUptoRow.recurses := by
  unfold Program.recurses
  rw [un_followed]
  rfl
theorem vars_named : Program.varsNamed Try.checked.prog 3 = Rows.tagMatchesReferenceUptoRow.named := by kernel_rfl
theorem facts : joinedFacts Try.checked.prog 3 Try.f3 (Rows.OpenSpec.upto Rows.tagMatchesReferenceSpec).bare Rows.tagMatchesReferenceUptoRow = true := by
  unfold joinedFacts
  rw [show laidOutB Try.checked.prog = true from laidOut, in_place, un_followed, re_curses, vars_named]
  kernel_rfl
theorem over : Rows.tagMatchesReferenceUptoRow.holds Try.pinned (Rows.OpenSpec.upto Rows.tagMatchesReferenceSpec) :=
  OpenClaim.holds_of_cond 3 Try.f3 rfl rfl rfl rfl rfl rfl rfl ⟨rfl, rfl, rfl, rfl, rfl⟩ rfl rfl rfl rfl rfl (by kernel_rfl) Try.func3 facts
    (of_decide_eq_true (by kernel_rfl)) (by unfold Func.isWrapper; (rw [if_neg (by decide +kernel)]; exact ⟨rfl, rfl⟩))
    (fun os started H enc _ F => lifted os started H enc F)
end ct6
theorem tagMatchesReference_holds : Rows.TagMatchesReferenceUptoSaid := ct6.over
end Go.Proofs.Ytedfihgkopejcaa
