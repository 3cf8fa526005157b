/-
 PROVED: planispherelaw22.ChangeMatchesReference returns true, for all arguments of bulk at most 1048576; the arguments read behind the call as before. Conditions: that bound alone (the statement's own).
-/
import Derived.Test.YtlnfjkdacimblaaGreatDoorKW6M13
import Derived.Test.YtlnfjkdacimblaaGreatDoorCards
import Derived.Test.YtlnfjkdacimblaaGreatDoorTie
import Derived.WalkKit
import Derived.ProofKit
import Derived.OpenShut
import Derived.Deep.DeepHandedRow
import Derived.Lib.LaidTab
import Derived.Stop.LaidErr
import Derived.Stop.ErrReads
set_option linter.unusedVariables false
set_option linter.unusedSimpArgs false
set_option maxRecDepth 100000
namespace Go.Proofs.YtlnfjkdacimblaaGreatDoor
open Go.Abs Go.ChangeShapes Go.WideShapes Go.ChangeAt Go.RowKit
namespace cw6
theorem OV : "*" ++ "errors.errorString" = "*errors.errorString" := by decide
theorem T4 (u : TypeId) (h : Tryz.prog.typeName? 3 u = some "*errors.errorString") : u = 290 :=
 typeName_ptr_named (nm := "errors.errorString") (by rw [OV]; kernel_rfl) (by kernel_rfl) (by decide) u (by rw [OV]; exact h)
theorem aHp {W : World} (h : laidMet Tryz.prog Rows.changeMatchesReferenceUptoRow.laid W) : JF (VK W) W := by
 intro p hp
 simp only [NP, List.mem_cons, List.not_mem_nil, or_false] at hp
 rcases hp with rfl | rfl | rfl
 ·have h1 : Lib.TabIs Tryz.prog W "internal/strconv.uint64pow10" .u64 [1, 10, 100, 1000, 10000, 100000, 1000000, 10000000, 100000000, 1000000000, 10000000000, 100000000000, 1000000000000, 10000000000000, 100000000000000, 1000000000000000, 10000000000000000, 100000000000000000, 1000000000000000000, 10000000000000000000] := Lib.tabIs_of_head (rest := Rows.changeMatchesReferenceUptoRow.laid.drop 3) (g := 1) (t := 272) (e := 235) (by kernel_rfl) (by kernel_rfl) Tryz.underlying272 Tryz.underlying235 (by kernel_rfl) (by kernel_rfl) h.tail.tail
  unfold Lib.TabIs at h1
  unfold World.var? at h1
  rw [show Tryz.prog.globalNamed "internal/strconv.uint64pow10" = some 1 by kernel_rfl] at h1
  simp only [Option.bind_some] at h1
  split at h1
  ·rename_i cs t f hh
   exact ⟨(Array.getElem?_eq_some_iff.1 hh).1, cs, t, f, hh, Option.some.inj h1⟩
  cases h1
 ·obtain ⟨a, s, h1, _⟩ := laid_sentinel (g := 3) h.tail.tail.tail.tail (by kernel_rfl) (by kernel_rfl) Tryz.underlying65 T4 Tryz.underlying290 Tryz.underlying292 rfl rfl Tryz.underlying9 (by kernel_rfl) (by kernel_rfl)
  unfold World.var? at h1
  rw [show Tryz.prog.globalNamed "strconv.ErrRange" = some 3 by kernel_rfl] at h1
  simp only [Option.bind_some] at h1
  split at h1
  ·rename_i cs t f hh
   exact ⟨(Array.getElem?_eq_some_iff.1 hh).1, cs, t, f, hh, ⟨_, _, Option.some.inj h1⟩⟩
  cases h1
 obtain ⟨a, s, h1, _⟩ := laid_sentinel (g := 2) h.tail.tail.tail.tail.tail (by kernel_rfl) (by kernel_rfl) Tryz.underlying65 T4 Tryz.underlying290 Tryz.underlying292 rfl rfl Tryz.underlying9 (by kernel_rfl) (by kernel_rfl)
 unfold World.var? at h1
 rw [show Tryz.prog.globalNamed "strconv.ErrSyntax" = some 2 by kernel_rfl] at h1
 simp only [Option.bind_some] at h1
 split at h1
 ·rename_i cs t f hh
  exact ⟨(Array.getElem?_eq_some_iff.1 hh).1, cs, t, f, hh, ⟨_, _, Option.some.inj h1⟩⟩
 cases h1
theorem aB6 (H : Type) (enc : TypeId × Value → H) (W : World) (base : Nat) (args : Array Value) (ds gs : List (DataW H)) (eR : List MemPlace)
  (hval : ∀ (j : Nat) t v, Tryz.f3.params[j]? = some t → args[j]? = some v → Value.okWide Tryz.prog W .any base t v)
  (hW : DataW.Whole enc Tryz.prog Tryz.f3.params.toList Rows.changeMatchesReferenceSpec.vars false W args.toList ds gs eR) (hk : Rows.uptoSmall H (ds ++ gs) = true) (hL : laidMetH Tryz.prog Rows.changeMatchesReferenceUptoRow.laid W) :
  Calls Tryz.prog 3 args W fun e W' => ∃ v, e = .returned v ∧ Rows.changeMatchesReferenceSpec.post enc Tryz.prog Tryz.f3 false true false false W args v W' := by
 refine aAx (n := 12) (B := 1048576) (bt := 4) UU (by kernel_rfl) (by kernel_rfl) rfl ?_ (by kernel_rfl) Tryz.underlying4 hval hW (XV (RM hk)) ?_ (aHp hL)
 ·intro ds hl
  rw [Tryz.params3] at hl
  match ds, hl with
  | [d1, d2], _ => exact ⟨rfl, rfl, rfl⟩
 rw [Tryz.params3]
 intro pss h
 obtain ⟨p1, _, rfl, q1, h⟩ := G8 h
 obtain ⟨p2, _, rfl, q2, h⟩ := G8 h
 obtain rfl := V8 h
 obtain ⟨x1, rfl, h1⟩ := aDy q1
 obtain ⟨x2, rfl, h2⟩ := aGv q2
 have e : E8 Tryz.prog [22, 9] [[cD x1], [.str x2]] = [.pv (cD x1), sv x2] := by
  simp only [E8, VF, Tryz.underlying22, Tryz.underlying9, List.map_cons, List.map_nil]
 show aH Tryz.prog _ (E8 Tryz.prog [22, 9] [[cD x1], [.str x2]]) [] _
 rw [e]
 exact FK x1 x2 [] (aFV h1) (aG3 h1) (by have := h1.1; omega) (by omega)
def SA (h : Array Obj) (g : Nat) (cs : Array Value) : Array Obj := h.modify g fun
 | .cells _ t frozen => .cells cs t frozen
 | o => o
noncomputable def D0 (os : Os) : World :=
 let N := (World.settled Tryz.prog os).heap.size
 let w0 := World.holding Tryz.prog os ⟨#[.cells #[.string ⟨#[118, 97, 108, 117, 101, 32, 111, 117, 116, 32, 111, 102, 32, 114, 97, 110, 103, 101]⟩] 292, .cells #[.string ⟨#[105, 110, 118, 97, 108, 105, 100, 32, 115, 121, 110, 116, 97, 120]⟩] 292], #[], []⟩
 { w0 with heap := SA (SA (SA (SA (SA (SA (SA (w0.heap) 6 (#[.int .u8 0, .int .u8 1, .int .u8 28, .int .u8 2, .int .u8 29, .int .u8 14, .int .u8 24, .int .u8 3, .int .u8 30, .int .u8 22, .int .u8 20, .int .u8 15, .int .u8 25, .int .u8 17, .int .u8 4, .int .u8 8, .int .u8 31, .int .u8 27, .int .u8 13, .int .u8 23, .int .u8 21, .int .u8 19, .int .u8 16, .int .u8 7, .int .u8 26, .int .u8 12, .int .u8 18, .int .u8 6, .int .u8 11, .int .u8 5, .int .u8 10, .int .u8 9])) 7 (#[.int .u8 0, .int .u8 1, .int .u8 56, .int .u8 2, .int .u8 57, .int .u8 49, .int .u8 28, .int .u8 3, .int .u8 61, .int .u8 58, .int .u8 42, .int .u8 50, .int .u8 38, .int .u8 29, .int .u8 17, .int .u8 4, .int .u8 62, .int .u8 47, .int .u8 59, .int .u8 36, .int .u8 45, .int .u8 43, .int .u8 51, .int .u8 22, .int .u8 53, .int .u8 39, .int .u8 33, .int .u8 30, .int .u8 24, .int .u8 18, .int .u8 12, .int .u8 5, .int .u8 63, .int .u8 55, .int .u8 48, .int .u8 27, .int .u8 60, .int .u8 41, .int .u8 37, .int .u8 16, .int .u8 46, .int .u8 35, .int .u8 44, .int .u8 21, .int .u8 52, .int .u8 32, .int .u8 23, .int .u8 11, .int .u8 54, .int .u8 26, .int .u8 40, .int .u8 15, .int .u8 34, .int .u8 20, .int .u8 31, .int .u8 10, .int .u8 25, .int .u8 14, .int .u8 19, .int .u8 9, .int .u8 13, .int .u8 8, .int .u8 7, .int .u8 6])) 1 (#[.int .u64 1, .int .u64 10, .int .u64 100, .int .u64 1000, .int .u64 10000, .int .u64 100000, .int .u64 1000000, .int .u64 10000000, .int .u64 100000000, .int .u64 1000000000, .int .u64 10000000000, .int .u64 100000000000, .int .u64 1000000000000, .int .u64 10000000000000, .int .u64 100000000000000, .int .u64 1000000000000000, .int .u64 10000000000000000, .int .u64 100000000000000000, .int .u64 1000000000000000000, .int .u64 10000000000000000000])) 5 (#[.int .u8 128, .int .u8 191, .int .u8 160, .int .u8 191, .int .u8 128, .int .u8 159, .int .u8 144, .int .u8 191, .int .u8 128, .int .u8 143, .int .u8 0, .int .u8 0, .int .u8 0, .int .u8 0, .int .u8 0, .int .u8 0, .int .u8 0, .int .u8 0, .int .u8 0, .int .u8 0, .int .u8 0, .int .u8 0, .int .u8 0, .int .u8 0, .int .u8 0, .int .u8 0, .int .u8 0, .int .u8 0, .int .u8 0, .int .u8 0, .int .u8 0, .int .u8 0])) 3 (#[.iface 290 (.pointer (some ⟨N + 0, 0, none⟩))])) 2 (#[.iface 290 (.pointer (some ⟨N + 1, 0, none⟩))])) 4 ((Go.Pinned.utf8FirstZ.map fun (z : Nat) => Value.int .u8 (z : Int)).toArray) }
theorem aAy (os : Os) : laidMet Tryz.prog Rows.changeMatchesReferenceUptoRow.laid ((D0 os).forCall (fun _ _ => 0) ⟨#[], #[.slice none 0 0, .string ⟨#[]⟩], []⟩).memory :=
 laidMet_of_run' 10 (by kernel_rfl) (by kernel_rfl)
theorem aG2 (os : Os) {H : Type} (enc : TypeId × Value → H) : ∃ places, DataW.whole enc Tryz.prog ((D0 os).forCall (fun _ _ => 0) ⟨#[], #[.slice none 0 0, .string ⟨#[]⟩], []⟩).memory Tryz.f3.params.toList Rows.changeMatchesReferenceSpec.vars false (#[.slice none 0 0, .string ⟨#[]⟩] : Array Value).toList 8 = some ([.nil, .lit (.string [])], [], places) :=
 ⟨[], by kernel_rfl⟩
theorem aF7 (os : Os) (started : os.Started) (H : Type) (enc : TypeId × Value → H) (F : Stop.Interp) :
  ReturnsInHanded {} Tryz.checked os 3 .any ((Rows.OpenSpec.upto Rows.changeMatchesReferenceSpec).preRow enc Tryz.prog Tryz.f3 Rows.changeMatchesReferenceUptoRow.domain false Rows.changeMatchesReferenceUptoRow.laid) (((Rows.OpenSpec.upto Rows.changeMatchesReferenceSpec).at F).post enc Tryz.prog Tryz.f3 false true false false) := by
 obtain ⟨places, hx⟩ := aG2 os enc
 refine returnsInHanded_of_row (C := Tryz.checked) (s := Rows.OpenSpec.upto Rows.changeMatchesReferenceSpec) own started (by kernel_rfl) Tryz.func3
  (witness_row_at (enc := enc) (C := Tryz.checked) false (D0 os) #[.slice none 0 0, .string ⟨#[]⟩] rfl (by kernel_rfl) (by kernel_rfl) (by kernel_rfl)
   (OpenSpec.preRow_of_cond 8 hx (by kernel_rfl) (fun k hk => by cases hk; kernel_rfl) (by kernel_rfl) (aAy os))) ?_
 intro W base args ds gs eR hval hW _ hk _ hL _ _
 exact aB6 H enc W base args ds gs eR hval hW (hk _ rfl) hL
theorem aBL : Program.inPlace Tryz.checked.prog 3 = Rows.changeMatchesReferenceUptoRow.inPlace := by kernel_rfl
theorem EM : Program.unfollowed Tryz.checked.prog 3 = Rows.changeMatchesReferenceUptoRow.unfollowed := by kernel_rfl
theorem WE : Program.recurses Tryz.checked.prog 3 = Rows.changeMatchesReferenceUptoRow.recurses := by
 unfold Program.recurses
 rw [EM]
 rfl
theorem RL : Program.varsNamed Tryz.checked.prog 3 = Rows.changeMatchesReferenceUptoRow.named := by kernel_rfl
theorem aGo : joinedFacts Tryz.checked.prog 3 Tryz.f3 (Rows.OpenSpec.upto Rows.changeMatchesReferenceSpec).bare Rows.changeMatchesReferenceUptoRow = true := by
 unfold joinedFacts
 rw [show laidOutB Tryz.checked.prog = true from UU, aBL, EM, WE, RL]
 kernel_rfl
theorem aHf : Rows.changeMatchesReferenceUptoRow.holds Tryz.pinned (Rows.OpenSpec.upto Rows.changeMatchesReferenceSpec) :=
 OpenClaim.holds_of_cond 3 Tryz.f3 rfl rfl rfl rfl rfl rfl rfl ⟨rfl, rfl, rfl, rfl, rfl⟩ rfl rfl rfl rfl rfl (by kernel_rfl) Tryz.func3 aGo
  (of_decide_eq_true (by kernel_rfl)) (by unfold Func.isWrapper; (rw [if_neg (by decide +kernel)]; exact ⟨rfl, rfl⟩))
  (fun os started H enc _ F => by rw [OpenClaim.pre_eq_preRow]; exact aF7 os started H enc F)
theorem plain (f : FuncId) (fn : Func) (hf : Tryz.pinned.checked.prog.funcNamed "planisphere/planispherelaw22.ChangeMatchesReference" = some f) (hfn : Tryz.pinned.checked.prog.funcs[f]? = some fn) :
  true = Tryz.pinned.checked.prog.looks [] ∧ ∀ (j : Nat) t, fn.params[j]? = some t → Tryz.pinned.checked.prog.wantsStandIn t = false := by
 obtain rfl : f = 3 := Option.some.inj ((show Tryz.prog.funcNamed "planisphere/planispherelaw22.ChangeMatchesReference" = some 3 by kernel_rfl).symm.trans hf) |>.symm
 obtain rfl : fn = Tryz.f3 := (Option.some.inj (Tryz.func3.symm.trans hfn)).symm
 refine ⟨by kernel_rfl, fun j t ht => ?_⟩
 rw [Tryz.params3] at ht
 have ht2 := Array.mem_of_getElem? ht
 simp only [List.mem_toArray, List.mem_cons, List.not_mem_nil, or_false] at ht2
 rcases ht2 with rfl | rfl
 ·exact (show Tryz.prog.wantsStandIn 22 = false by kernel_rfl)
 exact (show Tryz.prog.wantsStandIn 9 = false by kernel_rfl)
theorem XD {P : Program} (h : P.funcs.any Func.goes = false) (f : FuncId) : P.goes f = false := by
 have h1 : ∀ g : FuncId, (P.funcs[g]?).any Func.goes = false := fun g => by
  cases e : P.funcs[g]? with
  | none => rfl
  | some fn =>
   obtain ⟨i, hi⟩ := Array.getElem?_eq_some_iff.1 e
   have := Array.any_eq_false.1 h g i
   rw [hi] at this
   simpa using this
 rw [Program.goes, h, Bool.and_false, Bool.or_false, List.any_eq_false]
 intro g _
 rw [h1]
 decide
theorem aDQ : Tryz.pinned.checked.prog.funcs.any Func.goes = false := by kernel_rfl
theorem XE {P : Program} {c : OpenClaim} (hs : c.start = .entering) (h : P.funcs.any Func.goes = false) : false = c.goesBy P := by
 have h2 : (P.funcNamed c.func).any P.goes = false := by
  cases P.funcNamed c.func with
  | none => rfl
  | some f => exact XD h f
 unfold OpenClaim.goesBy Program.goesAt Program.goesFrom
 rw [h2, hs]
 rfl
theorem XU : false = Rows.changeMatchesReferenceUptoRow.goesBy Tryz.pinned.checked.prog := XE rfl aDQ
theorem aEH : Rows.changeMatchesReferenceUptoRow.wfByText (Rows.OpenSpec.upto Rows.changeMatchesReferenceSpec) = true := by kernel_rfl
theorem XT : Tryz.pinned.checked.prog.mainIs = some (Rows.changeMatchesReferenceUptoCard.stood.harness.1, Rows.changeMatchesReferenceUptoCard.stood.harness.2.toList) := by kernel_rfl
theorem card : Rows.ChangeMatchesReferenceUptoCardSaid :=
 Claim7.holds_tied_plain_at .later [] _ _ _ _ aHf (fun _ h => by cases h) aEH (fun _ h => by cases h) changeMatchesReferenceUpto_row_tie rfl ⟨rfl, rfl⟩ XT rfl plain XU
end cw6
theorem changeMatchesReference_holds : Rows.ChangeMatchesReferenceUptoCardSaid := cw6.card
end Go.Proofs.YtlnfjkdacimblaaGreatDoor
