/-
 PROVED: planispherelaw21.EditMatchesReference returns true, for all arguments of bulk at most 1048576; the arguments read behind the call as before. Conditions: that bound alone (the statement's own).
-/
import Derived.Test.YtbbnllojhjlaoaaGreatKO1M11
set_option linter.unusedVariables false
set_option linter.unusedSimpArgs false
set_option maxRecDepth 100000
namespace Go.Proofs.YtbbnllojhjlaoaaGreat
open Go.Abs Go.ChangeShapes Go.WideShapes Go.ChangeAt Go.RowKit
namespace co1
theorem contract (H : Type) (enc : TypeId × Value → H) (W : World) (base : Nat) (args : Array Value) (ds gs : List (DataW H)) (before : List MemPlace)
  (hval : ∀ (j : Nat) t v, Tryz.f3.params[j]? = some t → args[j]? = some v → Value.okWide Tryz.prog W .any base t v)
  (hW : DataW.Whole enc Tryz.prog Tryz.f3.params.toList Rows.editMatchesReferenceSpec.vars false W args.toList ds gs before) (hk : Rows.uptoSmall H (ds ++ gs) = true) :
  Calls Tryz.prog 3 args W fun e W' => ∃ v, e = .returned v ∧ Rows.editMatchesReferenceSpec.post enc Tryz.prog Tryz.f3 false true false false W args v W' := by
 refine law_true (n := 12) (B := 1048576) (bt := 4) laidOut (by kernel_rfl) (by kernel_rfl) rfl ?_ (by kernel_rfl) Tryz.underlying4 hval hW (bulk_left (upto_bound hk)) ?_
 ·intro ds hl
  rw [Tryz.params3] at hl
  match ds, hl with
  | [d1, d2], _ => exact ⟨rfl, rfl, rfl⟩
 rw [Tryz.params3]
 intro pss h
 obtain ⟨p1, _, rfl, q1, h⟩ := shAll_cons h
 obtain ⟨p2, _, rfl, q2, h⟩ := shAll_cons h
 obtain rfl := shAll_nil h
 obtain ⟨x1, rfl, h1⟩ := d_map q1
 obtain ⟨x2, rfl, h2⟩ := d_edits q2
 have e : avsOf Tryz.prog [24, 25] [[slObjs x1], [slEdits x2]] = [.agg [.pv (slObjs x1)], .pv (slEdits x2)] := by
  simp only [avsOf, argAV, Tryz.underlying25, Tryz.underlying24, List.map_cons, List.map_nil]
 show ACalls Tryz.prog _ (avsOf Tryz.prog [24, 25] [[slObjs x1], [slEdits x2]]) [] _
 rw [e]
 exact editMatches_c x1 x2 [] (okM_of (by decide) h1) (by have := h1.1; omega) (by have := h2.1; omega) (fun e he => okE_sz (by decide) (h2.2 e he)) (fun e he => by have a0 := h2.2 e he; have a1 := a0.2.2.2.2.2.2.2.2.1.1; have a2 := a0.2.2.2.2.2.2.2.2.2.2.2.2.2.1.1; omega)
theorem lifted (os : Os) (started : os.Started) (H : Type) (enc : TypeId × Value → H) (F : Stop.Interp) :
  ReturnsInHanded {} Tryz.checked os 3 .any ((Rows.OpenSpec.upto Rows.editMatchesReferenceSpec).pre6 enc Tryz.prog Tryz.f3 Rows.editMatchesReferenceUptoRow.domain false) (((Rows.OpenSpec.upto Rows.editMatchesReferenceSpec).at F).post enc Tryz.prog Tryz.f3 false true false false) := by
 refine returnsInHanded_of_cond (C := Tryz.checked) (s := Rows.OpenSpec.upto Rows.editMatchesReferenceSpec) (k := Rows.uptoSmall) rfl own started (by kernel_rfl) Tryz.func3
  (OpenSpec.witness (enc := enc) (C := Tryz.checked) (s := Rows.OpenSpec.upto Rows.editMatchesReferenceSpec) (k := Rows.uptoSmall) rfl false ⟨#[], #[.agg #[.slice none 0 0], .slice none 0 0], []⟩ 8 (by kernel_rfl) (by kernel_rfl) (by kernel_rfl)
   (x := ([.agg [.nil], .nil], [], [])) (by kernel_rfl) rfl (by kernel_rfl)) ?_
 intro W base args ds gs before hval hW _ hk _
 exact contract H enc W base args ds gs before hval hW hk
theorem in_place : Program.inPlace Tryz.checked.prog 3 = Rows.editMatchesReferenceUptoRow.inPlace := by kernel_rfl
theorem un_followed : Program.unfollowed Tryz.checked.prog 3 = Rows.editMatchesReferenceUptoRow.unfollowed := by kernel_rfl
theorem re_curses : Program.recurses Tryz.checked.prog 3 = Rows.editMatchesReferenceUptoRow.recurses := by
 unfold Program.recurses
 rw [un_followed]
 rfl
theorem vars_named : Program.varsNamed Tryz.checked.prog 3 = Rows.editMatchesReferenceUptoRow.named := by kernel_rfl
theorem facts : joinedFacts Tryz.checked.prog 3 Tryz.f3 (Rows.OpenSpec.upto Rows.editMatchesReferenceSpec).bare Rows.editMatchesReferenceUptoRow = true := by
 unfold joinedFacts
 rw [show laidOutB Tryz.checked.prog = true from laidOut, in_place, un_followed, re_curses, vars_named]
 kernel_rfl
theorem over : Rows.editMatchesReferenceUptoRow.holds Tryz.pinned (Rows.OpenSpec.upto Rows.editMatchesReferenceSpec) :=
 OpenClaim.holds_of_cond 3 Tryz.f3 rfl rfl rfl rfl rfl rfl rfl ⟨rfl, rfl, rfl, rfl, rfl⟩ rfl rfl rfl rfl rfl (by kernel_rfl) Tryz.func3 facts
  (of_decide_eq_true (by kernel_rfl)) (by unfold Func.isWrapper; (rw [if_neg (by decide +kernel)]; exact ⟨rfl, rfl⟩))
  (fun os started H enc _ F => lifted os started H enc F)
end co1
theorem editMatchesReference_holds : Rows.EditMatchesReferenceUptoSaid := co1.over
end Go.Proofs.YtbbnllojhjlaoaaGreat
