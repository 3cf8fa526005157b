/-
  PROVED: planispherelaw09.TagTexts returns true, for all arguments of bulk at most 1048576; the arguments read behind the call as before. Conditions: that bound alone (the statement's own).
-/
import Derived.Test.YtedfihgkopejcaaKT5M9
set_option linter.unusedVariables false
set_option linter.unusedSimpArgs false
set_option maxRecDepth 100000
namespace Go.Proofs.Ytedfihgkopejcaa
open Go.Abs Go.ChangeShapes Go.WideShapes Go.ChangeAt Go.RowKit
namespace ct5
theorem contract (H : Type) (enc : TypeId × Value → H) (W : World) (base : Nat) (args : Array Value) (ds gs : List (DataW H)) (before : List MemPlace)
    (hval : ∀ (j : Nat) t v, Try.f4.params[j]? = some t → args[j]? = some v → Value.okWide Try.prog W .any base t v)
    (hW : DataW.Whole enc Try.prog Try.f4.params.toList Rows.tagTextsSpec.vars false W args.toList ds gs before) (hk : Rows.uptoSmall H (ds ++ gs) = true) :
    Calls Try.prog 4 args W fun e W' => ∃ v, e = .returned v ∧ Rows.tagTextsSpec.post enc Try.prog Try.f4 false true false false W args v W' := by
  refine law_true (n := 12) (B := 1048576) (bt := 4) laidOut (by kernel_rfl) (by kernel_rfl) rfl ?_ (by kernel_rfl) Try.underlying4 hval hW (bulk_left (upto_bound hk)) ?_
  · intro ds hl
    rw [Try.params4] at hl
    match ds, hl with
    | [d1, d2, d3], _ => exact ⟨rfl, rfl, rfl⟩
  · rw [Try.params4]
    intro pss h
    obtain ⟨p1, _, rfl, q1, h⟩ := shAll_cons h
    obtain ⟨p2, _, rfl, q2, h⟩ := shAll_cons h
    obtain ⟨p3, _, rfl, q3, h⟩ := shAll_cons h
    obtain rfl := shAll_nil h
    obtain ⟨x1, rfl, h1⟩ := d_tags q1
    obtain ⟨x2, rfl, h2⟩ := d_tags q2
    obtain ⟨x3, rfl, h3⟩ := d_str q3
    have e : avsOf Try.prog [22, 22, 9] [[slTags x1], [slTags x2], [.str x3]] = [.pv (slTags x1), .pv (slTags x2), sv x3] := by
      simp only [avsOf, argAV, Try.underlying22, Try.underlying9, List.map_cons, List.map_nil]
    show ACalls Try.prog _ (avsOf Try.prog [22, 22, 9] [[slTags x1], [slTags x2], [.str x3]]) [] _
    rw [e]
    exact tagTexts_c x1 x2 x3 [] (szT_of h1) (szT_of h2) (by omega)
theorem lifted (os : Os) (started : os.Started) (H : Type) (enc : TypeId × Value → H) (F : Stop.Interp) :
    ReturnsInHanded {} Try.checked os 4 .any ((Rows.OpenSpec.upto Rows.tagTextsSpec).pre6 enc Try.prog Try.f4 Rows.tagTextsUptoRow.domain false) (((Rows.OpenSpec.upto Rows.tagTextsSpec).at F).post enc Try.prog Try.f4 false true false false) := by
  refine returnsInHanded_of_cond (C := Try.checked) (s := Rows.OpenSpec.upto Rows.tagTextsSpec) (k := Rows.uptoSmall) rfl own started (by kernel_rfl) Try.func4
    (OpenSpec.witness (enc := enc) (C := Try.checked) (s := Rows.OpenSpec.upto Rows.tagTextsSpec) (k := Rows.uptoSmall) rfl false ⟨#[], #[.slice none 0 0, .slice none 0 0, .string ⟨#[]⟩], []⟩ 8 (by kernel_rfl) (by kernel_rfl) (by kernel_rfl)
      (x := ([.nil, .nil, .lit (.string [])], [], [])) (by kernel_rfl) rfl (by kernel_rfl)) ?_
  intro W base args ds gs before hval hW _ hk _
  exact contract H enc W base args ds gs before hval hW hk
theorem in_place : Program.inPlace Try.checked.prog 4 = Rows.tagTextsUptoRow.inPlace := by kernel_rfl
theorem un_followed : Program.unfollowed Try.checked.prog 4 = Rows.tagTextsUptoRow.unfollowed := by kernel_rfl
theorem re_curses : Program.recurses Try.checked.prog 4 = Rows.tagTextsUptoRow.recurses := by
  unfold Program.recurses
  rw [un_followed]
  first | rfl | kernel_rfl
theorem vars_named : Program.varsNamed Try.checked.prog 4 = Rows.tagTextsUptoRow.named := by kernel_rfl
theorem facts : joinedFacts Try.checked.prog 4 Try.f4 (Rows.OpenSpec.upto Rows.tagTextsSpec).bare Rows.tagTextsUptoRow = true := by
  unfold joinedFacts
  rw [show laidOutB Try.checked.prog = true from laidOut, in_place, un_followed, re_curses, vars_named]
  kernel_rfl
theorem over : Rows.tagTextsUptoRow.holds Try.pinned (Rows.OpenSpec.upto Rows.tagTextsSpec) :=
  OpenClaim.holds_of_cond 4 Try.f4 rfl rfl rfl rfl rfl rfl rfl ⟨rfl, rfl, rfl, rfl, rfl⟩ rfl rfl rfl rfl rfl (by kernel_rfl) Try.func4 facts
    (of_decide_eq_true (by kernel_rfl)) (by unfold Func.isWrapper; first | (rw [if_pos (by decide +kernel)]; kernel_rfl) | (rw [if_neg (by decide +kernel)]; exact ⟨rfl, rfl⟩))
    (fun os started H enc _ F => lifted os started H enc F)
end ct5
theorem tagTexts_holds : Rows.TagTextsUptoSaid := ct5.over
end Go.Proofs.Ytedfihgkopejcaa
