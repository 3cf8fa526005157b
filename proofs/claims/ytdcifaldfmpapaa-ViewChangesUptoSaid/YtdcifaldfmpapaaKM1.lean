/-
  PROVED: planispherelaw19.ViewChanges returns true, for all arguments of bulk at most 1048576; the arguments read behind the call as before. Conditions: that bound alone (the statement's own).
-/
import Derived.Test.YtdcifaldfmpapaaKM1M7
set_option linter.unusedVariables false
set_option linter.unusedSimpArgs false
set_option maxRecDepth 100000
namespace Go.Proofs.Ytdcifaldfmpapaa
open Go.Abs Go.ChangeShapes Go.WideShapes Go.ChangeAt Go.RowKit
namespace cm1
theorem contract (H : Type) (enc : TypeId × Value → H) (W : World) (base : Nat) (args : Array Value) (ds gs : List (DataW H)) (before : List MemPlace)
    (hval : ∀ (j : Nat) t v, Try.f3.params[j]? = some t → args[j]? = some v → Value.okWide Try.prog W .any base t v)
    (hW : DataW.Whole enc Try.prog Try.f3.params.toList Rows.viewChangesSpec.vars false W args.toList ds gs before) (hk : Rows.uptoSmall H (ds ++ gs) = true) :
    Calls Try.prog 3 args W fun e W' => ∃ v, e = .returned v ∧ Rows.viewChangesSpec.post enc Try.prog Try.f3 false true false false W args v W' := by
  refine law_true (n := 12) (B := 1048576) (bt := 4) laidOut (by kernel_rfl) (by kernel_rfl) rfl ?_ (by kernel_rfl) Try.underlying4 hval hW (bulk_left (upto_bound hk)) ?_
  · intro ds hl
    rw [Try.params3] at hl
    match ds, hl with
    | [d1, d2, d3], _ => exact ⟨rfl, rfl, rfl⟩
  · rw [Try.params3]
    intro pss h
    obtain ⟨p1, _, rfl, q1, h⟩ := shAll_cons h
    obtain ⟨p2, _, rfl, q2, h⟩ := shAll_cons h
    obtain ⟨p3, _, rfl, q3, h⟩ := shAll_cons h
    obtain rfl := shAll_nil h
    obtain ⟨x1, rfl, h1⟩ := d_map q1
    obtain ⟨x2, rfl, h2⟩ := d_obj q2
    obtain ⟨x3, rfl, h3⟩ := d_str q3
    have e : avsOf Try.prog [24, 30, 9] [[slObjs x1], encObj x2, [.str x3]] = [.agg [.pv (slObjs x1)], av (encObj x2), sv x3] := by
      simp only [avsOf, argAV, Try.underlying24, Try.underlying30, Try.underlying9, av, List.map_cons, List.map_nil]
    show ACalls Try.prog _ (avsOf Try.prog [24, 30, 9] [[slObjs x1], encObj x2, [.str x3]]) [] _
    rw [e]
    exact viewChanges_c x1 x2 x3 [] (okM_of (by decide) h1) (okO_of (by decide) h2) (by have := h1.1; omega) (by omega)
theorem lifted (os : Os) (started : os.Started) (H : Type) (enc : TypeId × Value → H) (F : Stop.Interp) :
    ReturnsInHanded {} Try.checked os 3 .any ((Rows.OpenSpec.upto Rows.viewChangesSpec).pre6 enc Try.prog Try.f3 Rows.viewChangesUptoRow.domain false) (((Rows.OpenSpec.upto Rows.viewChangesSpec).at F).post enc Try.prog Try.f3 false true false false) := by
  refine returnsInHanded_of_cond (C := Try.checked) (s := Rows.OpenSpec.upto Rows.viewChangesSpec) (k := Rows.uptoSmall) rfl own started (by kernel_rfl) Try.func3
    (OpenSpec.witness (enc := enc) (C := Try.checked) (s := Rows.OpenSpec.upto Rows.viewChangesSpec) (k := Rows.uptoSmall) rfl false ⟨#[], #[.agg #[.slice none 0 0], .agg #[.string ⟨#[]⟩, .int .i64 0, .int .i64 0, .int .i64 0, .slice none 0 0, .slice none 0 0], .string ⟨#[]⟩], []⟩ 8 (by kernel_rfl) (by kernel_rfl) (by kernel_rfl)
      (x := ([.agg [.nil], .agg [.lit (.string []), .lit (.int .i64 0), .agg [.lit (.int .i64 0), .lit (.int .i64 0)], .nil, .nil], .lit (.string [])], [], [])) (by kernel_rfl) rfl (by kernel_rfl)) ?_
  intro W base args ds gs before hval hW _ hk _
  exact contract H enc W base args ds gs before hval hW hk
theorem in_place : Program.inPlace Try.checked.prog 3 = Rows.viewChangesUptoRow.inPlace := by kernel_rfl
theorem un_followed : Program.unfollowed Try.checked.prog 3 = Rows.viewChangesUptoRow.unfollowed := by kernel_rfl
theorem re_curses : Program.recurses Try.checked.prog 3 = Rows.viewChangesUptoRow.recurses := by
  unfold Program.recurses
  rw [un_followed]
  first | rfl | kernel_rfl
theorem vars_named : Program.varsNamed Try.checked.prog 3 = Rows.viewChangesUptoRow.named := by kernel_rfl
theorem facts : joinedFacts Try.checked.prog 3 Try.f3 (Rows.OpenSpec.upto Rows.viewChangesSpec).bare Rows.viewChangesUptoRow = true := by
  unfold joinedFacts
  rw [show laidOutB Try.checked.prog = true from laidOut, in_place, un_followed, re_curses, vars_named]
  kernel_rfl
theorem over : Rows.viewChangesUptoRow.holds Try.pinned (Rows.OpenSpec.upto Rows.viewChangesSpec) :=
  OpenClaim.holds_of_cond 3 Try.f3 rfl rfl rfl rfl rfl rfl rfl ⟨rfl, rfl, rfl, rfl, rfl⟩ rfl rfl rfl rfl rfl (by kernel_rfl) Try.func3 facts
    (of_decide_eq_true (by kernel_rfl)) (by unfold Func.isWrapper; first | (rw [if_pos (by decide +kernel)]; kernel_rfl) | (rw [if_neg (by decide +kernel)]; exact ⟨rfl, rfl⟩))
    (fun os started H enc _ F => lifted os started H enc F)
end cm1
theorem viewChanges_holds : Rows.ViewChangesUptoSaid := cm1.over
end Go.Proofs.Ytdcifaldfmpapaa
