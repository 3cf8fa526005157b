/-
  PROVED: planispherelaw21.EditCommutes returns true, for all arguments of bulk at most 1048576; the arguments read behind the call as before. Conditions: that bound alone (the statement's own).
-/
import Derived.Test.YtdcifaldfmpapaaGreatKN4M10
set_option linter.unusedVariables false
set_option linter.unusedSimpArgs false
set_option maxRecDepth 100000
namespace Go.Proofs.YtdcifaldfmpapaaGreat
open Go.Abs Go.ChangeShapes Go.WideShapes Go.ChangeAt Go.RowKit
namespace cn4
theorem contract (H : Type) (enc : TypeId × Value → H) (W : World) (base : Nat) (args : Array Value) (ds gs : List (DataW H)) (before : List MemPlace)
    (hval : ∀ (j : Nat) t v, Tryz.f4.params[j]? = some t → args[j]? = some v → Value.okWide Tryz.prog W .any base t v)
    (hW : DataW.Whole enc Tryz.prog Tryz.f4.params.toList Rows.editCommutesSpec.vars false W args.toList ds gs before) (hk : Rows.uptoSmall H (ds ++ gs) = true) :
    Calls Tryz.prog 4 args W fun e W' => ∃ v, e = .returned v ∧ Rows.editCommutesSpec.post enc Tryz.prog Tryz.f4 false true false false W args v W' := by
  refine law_true (n := 12) (B := 1048576) (bt := 4) laidOut (by kernel_rfl) (by kernel_rfl) rfl ?_ (by kernel_rfl) Tryz.underlying4 hval hW (bulk_left (upto_bound hk)) ?_
  · intro ds hl
    rw [Tryz.params4] at hl
    match ds, hl with
    | [d1, d2, d3], _ => exact ⟨rfl, rfl, rfl⟩
  · rw [Tryz.params4]
    intro pss h
    obtain ⟨p1, _, rfl, q1, h⟩ := shAll_cons h
    obtain ⟨p2, _, rfl, q2, h⟩ := shAll_cons h
    obtain ⟨p3, _, rfl, q3, h⟩ := shAll_cons h
    obtain rfl := shAll_nil h
    obtain ⟨x1, rfl, h1⟩ := d_map q1
    obtain ⟨x2, rfl, h2⟩ := d_edit q2
    obtain ⟨x3, rfl, h3⟩ := d_edit q3
    have e : avsOf Tryz.prog [24, 32, 32] [[slObjs x1], encEdit x2, encEdit x3] = [.agg [.pv (slObjs x1)], av (encEdit x2), av (encEdit x3)] := by
      simp only [avsOf, argAV, Tryz.underlying32, Tryz.underlying24, av, List.map_cons, List.map_nil]
    show ACalls Tryz.prog _ (avsOf Tryz.prog [24, 32, 32] [[slObjs x1], encEdit x2, encEdit x3]) [] _
    rw [e]
    exact editCommutes_c x1 x2 x3 [] (okM_of (by decide) h1) (by have := h1.1; omega) (okE_sz (by decide) h2) (okE_sz (by decide) h3) (by have a1 := h2.2.2.2.2.2.2.2.2.1.1; have a2 := h2.2.2.2.2.2.2.2.2.2.2.2.2.2.1.1; omega) (by have a1 := h3.2.2.2.2.2.2.2.2.1.1; have a2 := h3.2.2.2.2.2.2.2.2.2.2.2.2.2.1.1; omega)
theorem lifted (os : Os) (started : os.Started) (H : Type) (enc : TypeId × Value → H) (F : Stop.Interp) :
    ReturnsInHanded {} Tryz.checked os 4 .any ((Rows.OpenSpec.upto Rows.editCommutesSpec).pre6 enc Tryz.prog Tryz.f4 Rows.editCommutesUptoRow.domain false) (((Rows.OpenSpec.upto Rows.editCommutesSpec).at F).post enc Tryz.prog Tryz.f4 false true false false) := by
  refine returnsInHanded_of_cond (C := Tryz.checked) (s := Rows.OpenSpec.upto Rows.editCommutesSpec) (k := Rows.uptoSmall) rfl own started (by kernel_rfl) Tryz.func4
    (OpenSpec.witness (enc := enc) (C := Tryz.checked) (s := Rows.OpenSpec.upto Rows.editCommutesSpec) (k := Rows.uptoSmall) rfl false ⟨#[], #[.agg #[.slice none 0 0], .agg #[.int .i64 0, .string ⟨#[]⟩, .string ⟨#[]⟩, .string ⟨#[]⟩, .int .i64 0, .int .i64 0, .string ⟨#[]⟩, .string ⟨#[]⟩, .slice none 0 0, .string ⟨#[]⟩, .int .i64 0, .int .i64 0, .int .i64 0, .slice none 0 0, .slice none 0 0], .agg #[.int .i64 0, .string ⟨#[]⟩, .string ⟨#[]⟩, .string ⟨#[]⟩, .int .i64 0, .int .i64 0, .string ⟨#[]⟩, .string ⟨#[]⟩, .slice none 0 0, .string ⟨#[]⟩, .int .i64 0, .int .i64 0, .int .i64 0, .slice none 0 0, .slice none 0 0]], []⟩ 8 (by kernel_rfl) (by kernel_rfl) (by kernel_rfl)
      (x := ([.agg [.nil], .agg [.lit (.int .i64 0), .lit (.string []), .lit (.string []), .lit (.string []), .agg [.lit (.int .i64 0), .lit (.int .i64 0)], .lit (.string []), .lit (.string []), .nil, .agg [.lit (.string []), .lit (.int .i64 0), .agg [.lit (.int .i64 0), .lit (.int .i64 0)], .nil, .nil]], .agg [.lit (.int .i64 0), .lit (.string []), .lit (.string []), .lit (.string []), .agg [.lit (.int .i64 0), .lit (.int .i64 0)], .lit (.string []), .lit (.string []), .nil, .agg [.lit (.string []), .lit (.int .i64 0), .agg [.lit (.int .i64 0), .lit (.int .i64 0)], .nil, .nil]]], [], [])) (by kernel_rfl) rfl (by kernel_rfl)) ?_
  intro W base args ds gs before hval hW _ hk _
  exact contract H enc W base args ds gs before hval hW hk
theorem in_place : Program.inPlace Tryz.checked.prog 4 = Rows.editCommutesUptoRow.inPlace := by kernel_rfl
theorem un_followed : Program.unfollowed Tryz.checked.prog 4 = Rows.editCommutesUptoRow.unfollowed := by kernel_rfl
theorem re_curses : Program.recurses Tryz.checked.prog 4 = Rows.editCommutesUptoRow.recurses := by
  unfold Program.recurses
  rw [un_followed]
  rfl
theorem vars_named : Program.varsNamed Tryz.checked.prog 4 = Rows.editCommutesUptoRow.named := by kernel_rfl
theorem facts : joinedFacts Tryz.checked.prog 4 Tryz.f4 (Rows.OpenSpec.upto Rows.editCommutesSpec).bare Rows.editCommutesUptoRow = true := by
  unfold joinedFacts
  rw [show laidOutB Tryz.checked.prog = true from laidOut, in_place, un_followed, re_curses, vars_named]
  kernel_rfl
theorem over : Rows.editCommutesUptoRow.holds Tryz.pinned (Rows.OpenSpec.upto Rows.editCommutesSpec) :=
  OpenClaim.holds_of_cond 4 Tryz.f4 rfl rfl rfl rfl rfl rfl rfl ⟨rfl, rfl, rfl, rfl, rfl⟩ rfl rfl rfl rfl rfl (by kernel_rfl) Tryz.func4 facts
    (of_decide_eq_true (by kernel_rfl)) (by unfold Func.isWrapper; (rw [if_neg (by decide +kernel)]; exact ⟨rfl, rfl⟩))
    (fun os started H enc _ F => lifted os started H enc F)
end cn4
theorem editCommutes_holds : Rows.EditCommutesUptoSaid := cn4.over
end Go.Proofs.YtdcifaldfmpapaaGreat
