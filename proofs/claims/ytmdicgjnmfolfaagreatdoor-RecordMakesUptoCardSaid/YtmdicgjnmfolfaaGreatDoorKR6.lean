/-
 PROVED: planispherelaw27.RecordMakes returns true, for all arguments of bulk at most 1048576; the arguments read behind the call as before. Conditions: that bound alone (the statement's own).
-/
import Derived.Test.YtmdicgjnmfolfaaGreatDoorKR6M14
import Derived.Test.YtmdicgjnmfolfaaGreatDoorCards
import Derived.Test.YtmdicgjnmfolfaaGreatDoorTie
import Derived.WalkKit
import Derived.ProofKit
import Derived.OpenShut
import Derived.Deep.DeepHandedRow
import Derived.Lib.LaidTab
import Derived.Stop.LaidErr
import Derived.Stop.ErrReads
set_option linter.unusedVariables false
set_option linter.unusedSimpArgs false
set_option maxRecDepth 100000
namespace Go.Proofs.YtmdicgjnmfolfaaGreatDoor
open Go.Abs Go.ChangeShapes Go.WideShapes Go.ChangeAt Go.RowKit
namespace cr6
theorem VH : "*" ++ "errors.errorString" = "*errors.errorString" := by decide
theorem aBF (u : TypeId) (h : Tryz.prog.typeName? 3 u = some "*errors.errorString") : u = 266 :=
 typeName_ptr_named (nm := "errors.errorString") (by rw [VH]; kernel_rfl) (by kernel_rfl) (by decide) u (by rw [VH]; exact h)
theorem aPB {W : World} (h : laidMet Tryz.prog Rows.recordMakesUptoRow.laid W) : ON (Old W) W := by
 intro p hp
 simp only [TY, List.mem_cons, List.not_mem_nil, or_false] at hp
 rcases hp with rfl | rfl | rfl
 ·have h1 : Lib.TabIs Tryz.prog W "internal/strconv.uint64pow10" .u64 [1, 10, 100, 1000, 10000, 100000, 1000000, 10000000, 100000000, 1000000000, 10000000000, 100000000000, 1000000000000, 10000000000000, 100000000000000, 1000000000000000, 10000000000000000, 100000000000000000, 1000000000000000000, 10000000000000000000] := Lib.tabIs_of_head (rest := Rows.recordMakesUptoRow.laid.drop 3) (g := 3) (t := 257) (e := 122) (by kernel_rfl) (by kernel_rfl) Tryz.underlying257 Tryz.underlying122 (by kernel_rfl) (by kernel_rfl) h.tail.tail
  unfold Lib.TabIs at h1
  unfold World.var? at h1
  rw [show Tryz.prog.globalNamed "internal/strconv.uint64pow10" = some 3 by kernel_rfl] at h1
  simp only [Option.bind_some] at h1
  split at h1
  ·rename_i cs t f hh
   exact ⟨(Array.getElem?_eq_some_iff.1 hh).1, cs, t, f, hh, Option.some.inj h1⟩
  cases h1
 ·obtain ⟨a, s, h1, _⟩ := laid_sentinel (g := 2) h.tail.tail.tail.tail (by kernel_rfl) (by kernel_rfl) Tryz.underlying139 aBF Tryz.underlying266 Tryz.underlying268 rfl rfl Tryz.underlying9 (by kernel_rfl) (by kernel_rfl)
  unfold World.var? at h1
  rw [show Tryz.prog.globalNamed "strconv.ErrRange" = some 2 by kernel_rfl] at h1
  simp only [Option.bind_some] at h1
  split at h1
  ·rename_i cs t f hh
   exact ⟨(Array.getElem?_eq_some_iff.1 hh).1, cs, t, f, hh, ⟨_, _, Option.some.inj h1⟩⟩
  cases h1
 obtain ⟨a, s, h1, _⟩ := laid_sentinel (g := 1) h.tail.tail.tail.tail.tail (by kernel_rfl) (by kernel_rfl) Tryz.underlying139 aBF Tryz.underlying266 Tryz.underlying268 rfl rfl Tryz.underlying9 (by kernel_rfl) (by kernel_rfl)
 unfold World.var? at h1
 rw [show Tryz.prog.globalNamed "strconv.ErrSyntax" = some 1 by kernel_rfl] at h1
 simp only [Option.bind_some] at h1
 split at h1
 ·rename_i cs t f hh
  exact ⟨(Array.getElem?_eq_some_iff.1 hh).1, cs, t, f, hh, ⟨_, _, Option.some.inj h1⟩⟩
 cases h1
theorem aGJ (H : Type) (enc : TypeId × Value → H) (W : World) (base : Nat) (args : Array Value) (ds gs : List (DataW H)) (iQ : List MemPlace)
  (hval : ∀ (j : Nat) t v, Tryz.f4.params[j]? = some t → args[j]? = some v → Value.okWide Tryz.prog W .any base t v)
  (hW : DataW.Whole enc Tryz.prog Tryz.f4.params.toList Rows.recordMakesSpec.vars false W args.toList ds gs iQ) (hk : Rows.uptoSmall H (ds ++ gs) = true) (hL : laidMetH Tryz.prog Rows.recordMakesUptoRow.laid W) :
  Calls Tryz.prog 4 args W fun e W' => ∃ v, e = .returned v ∧ Rows.recordMakesSpec.post enc Tryz.prog Tryz.f4 false true false false W args v W' := by
 refine aF4 (n := 12) (B := 1048576) (bt := 4) aBZ (by kernel_rfl) (by kernel_rfl) rfl ?_ (by kernel_rfl) Tryz.underlying4 hval hW (aDT (YQ hk)) ?_ (aPB hL)
 ·intro ds hl
  rw [Tryz.params4] at hl
  match ds, hl with
  | [d1, d2, d3], _ => exact ⟨rfl, rfl, rfl⟩
 rw [Tryz.params4]
 intro pss h
 obtain ⟨p1, _, rfl, q1, h⟩ := EK h
 obtain ⟨p2, _, rfl, q2, h⟩ := EK h
 obtain ⟨p3, _, rfl, q3, h⟩ := EK h
 obtain rfl := aCU h
 obtain ⟨x1, rfl, h1⟩ := aNl q1
 obtain ⟨x2, rfl, h2⟩ := aNk q2
 obtain ⟨x3, rfl, h3⟩ := aNo q3
 have e : JW Tryz.prog [30, 9, 3] [bS x1, [.str x2], [.int .i64 x3]] = [av (bS x1), sv x2, iv x3] := by
  simp only [JW, aBn, Tryz.underlying30, Tryz.underlying3, Tryz.underlying9, av, List.map_cons, List.map_nil]
 show aI Tryz.prog _ (JW Tryz.prog [30, 9, 3] [bS x1, [.str x2], [.int .i64 x3]]) [] _
 rw [e]
 exact OU x1 x2 x3 (Nat.lt_of_le_of_lt h2 (by decide)) (aFI h1) (aKr h1) (aHq h1) []
def ZG (h : Array Obj) (g : Nat) (cs : Array Value) : Array Obj := h.modify g fun
 | .cells _ t frozen => .cells cs t frozen
 | o => o
noncomputable def IF (os : Os) : World :=
 let N := (World.settled Tryz.prog os).heap.size
 let w0 := World.holding Tryz.prog os ⟨#[.cells #[.string ⟨#[118, 97, 108, 117, 101, 32, 111, 117, 116, 32, 111, 102, 32, 114, 97, 110, 103, 101]⟩] 268, .cells #[.string ⟨#[105, 110, 118, 97, 108, 105, 100, 32, 115, 121, 110, 116, 97, 120]⟩] 268], #[], []⟩
 { w0 with heap := ZG (ZG (ZG (ZG (ZG (ZG (ZG (w0.heap) 6 (#[.int .u8 0, .int .u8 1, .int .u8 28, .int .u8 2, .int .u8 29, .int .u8 14, .int .u8 24, .int .u8 3, .int .u8 30, .int .u8 22, .int .u8 20, .int .u8 15, .int .u8 25, .int .u8 17, .int .u8 4, .int .u8 8, .int .u8 31, .int .u8 27, .int .u8 13, .int .u8 23, .int .u8 21, .int .u8 19, .int .u8 16, .int .u8 7, .int .u8 26, .int .u8 12, .int .u8 18, .int .u8 6, .int .u8 11, .int .u8 5, .int .u8 10, .int .u8 9])) 7 (#[.int .u8 0, .int .u8 1, .int .u8 56, .int .u8 2, .int .u8 57, .int .u8 49, .int .u8 28, .int .u8 3, .int .u8 61, .int .u8 58, .int .u8 42, .int .u8 50, .int .u8 38, .int .u8 29, .int .u8 17, .int .u8 4, .int .u8 62, .int .u8 47, .int .u8 59, .int .u8 36, .int .u8 45, .int .u8 43, .int .u8 51, .int .u8 22, .int .u8 53, .int .u8 39, .int .u8 33, .int .u8 30, .int .u8 24, .int .u8 18, .int .u8 12, .int .u8 5, .int .u8 63, .int .u8 55, .int .u8 48, .int .u8 27, .int .u8 60, .int .u8 41, .int .u8 37, .int .u8 16, .int .u8 46, .int .u8 35, .int .u8 44, .int .u8 21, .int .u8 52, .int .u8 32, .int .u8 23, .int .u8 11, .int .u8 54, .int .u8 26, .int .u8 40, .int .u8 15, .int .u8 34, .int .u8 20, .int .u8 31, .int .u8 10, .int .u8 25, .int .u8 14, .int .u8 19, .int .u8 9, .int .u8 13, .int .u8 8, .int .u8 7, .int .u8 6])) 3 (#[.int .u64 1, .int .u64 10, .int .u64 100, .int .u64 1000, .int .u64 10000, .int .u64 100000, .int .u64 1000000, .int .u64 10000000, .int .u64 100000000, .int .u64 1000000000, .int .u64 10000000000, .int .u64 100000000000, .int .u64 1000000000000, .int .u64 10000000000000, .int .u64 100000000000000, .int .u64 1000000000000000, .int .u64 10000000000000000, .int .u64 100000000000000000, .int .u64 1000000000000000000, .int .u64 10000000000000000000])) 5 (#[.int .u8 128, .int .u8 191, .int .u8 160, .int .u8 191, .int .u8 128, .int .u8 159, .int .u8 144, .int .u8 191, .int .u8 128, .int .u8 143, .int .u8 0, .int .u8 0, .int .u8 0, .int .u8 0, .int .u8 0, .int .u8 0, .int .u8 0, .int .u8 0, .int .u8 0, .int .u8 0, .int .u8 0, .int .u8 0, .int .u8 0, .int .u8 0, .int .u8 0, .int .u8 0, .int .u8 0, .int .u8 0, .int .u8 0, .int .u8 0, .int .u8 0, .int .u8 0])) 2 (#[.iface 266 (.pointer (some ⟨N + 0, 0, none⟩))])) 1 (#[.iface 266 (.pointer (some ⟨N + 1, 0, none⟩))])) 4 ((Go.Pinned.utf8FirstZ.map fun (z : Nat) => Value.int .u8 (z : Int)).toArray) }
theorem aF5 (os : Os) : laidMet Tryz.prog Rows.recordMakesUptoRow.laid ((IF os).forCall (fun _ _ => 0) ⟨#[], #[.agg #[.int .i64 0, .int .i64 0, .int .i64 0, .int .i64 0, .string ⟨#[]⟩, .slice none 0 0, .slice none 0 0, .string ⟨#[]⟩, .bool false, .int .i64 0, .string ⟨#[]⟩, .int .i64 0, .slice none 0 0, .slice none 0 0, .string ⟨#[]⟩, .string ⟨#[]⟩, .slice none 0 0, .slice none 0 0, .int .i64 0, .slice none 0 0, .slice none 0 0], .string ⟨#[]⟩, .int .i64 0], []⟩).memory :=
 laidMet_of_run' 10 (by kernel_rfl) (by kernel_rfl)
theorem aMr (os : Os) {H : Type} (enc : TypeId × Value → H) : ∃ places, DataW.whole enc Tryz.prog ((IF os).forCall (fun _ _ => 0) ⟨#[], #[.agg #[.int .i64 0, .int .i64 0, .int .i64 0, .int .i64 0, .string ⟨#[]⟩, .slice none 0 0, .slice none 0 0, .string ⟨#[]⟩, .bool false, .int .i64 0, .string ⟨#[]⟩, .int .i64 0, .slice none 0 0, .slice none 0 0, .string ⟨#[]⟩, .string ⟨#[]⟩, .slice none 0 0, .slice none 0 0, .int .i64 0, .slice none 0 0, .slice none 0 0], .string ⟨#[]⟩, .int .i64 0], []⟩).memory Tryz.f4.params.toList Rows.recordMakesSpec.vars false (#[.agg #[.int .i64 0, .int .i64 0, .int .i64 0, .int .i64 0, .string ⟨#[]⟩, .slice none 0 0, .slice none 0 0, .string ⟨#[]⟩, .bool false, .int .i64 0, .string ⟨#[]⟩, .int .i64 0, .slice none 0 0, .slice none 0 0, .string ⟨#[]⟩, .string ⟨#[]⟩, .slice none 0 0, .slice none 0 0, .int .i64 0, .slice none 0 0, .slice none 0 0], .string ⟨#[]⟩, .int .i64 0] : Array Value).toList 8 = some ([.agg [.lit (.int .i64 0), .lit (.int .i64 0), .lit (.int .i64 0), .lit (.int .i64 0), .lit (.string []), .nil, .nil, .lit (.string []), .lit (.bool false), .lit (.int .i64 0), .lit (.string []), .agg [.lit (.int .i64 0), .nil, .nil], .agg [.lit (.string []), .lit (.string []), .nil, .nil, .agg [.lit (.int .i64 0), .nil, .nil]]], .lit (.string []), .lit (.int .i64 0)], [], places) :=
 ⟨[], by kernel_rfl⟩
theorem aLY (os : Os) (started : os.Started) (H : Type) (enc : TypeId × Value → H) (F : Stop.Interp) :
  ReturnsInHanded {} Tryz.checked os 4 .any ((Rows.OpenSpec.upto Rows.recordMakesSpec).preRow enc Tryz.prog Tryz.f4 Rows.recordMakesUptoRow.domain false Rows.recordMakesUptoRow.laid) (((Rows.OpenSpec.upto Rows.recordMakesSpec).at F).post enc Tryz.prog Tryz.f4 false true false false) := by
 obtain ⟨places, hx⟩ := aMr os enc
 refine returnsInHanded_of_row (C := Tryz.checked) (s := Rows.OpenSpec.upto Rows.recordMakesSpec) own started (by kernel_rfl) Tryz.func4
  (witness_row_at (enc := enc) (C := Tryz.checked) false (IF os) #[.agg #[.int .i64 0, .int .i64 0, .int .i64 0, .int .i64 0, .string ⟨#[]⟩, .slice none 0 0, .slice none 0 0, .string ⟨#[]⟩, .bool false, .int .i64 0, .string ⟨#[]⟩, .int .i64 0, .slice none 0 0, .slice none 0 0, .string ⟨#[]⟩, .string ⟨#[]⟩, .slice none 0 0, .slice none 0 0, .int .i64 0, .slice none 0 0, .slice none 0 0], .string ⟨#[]⟩, .int .i64 0] rfl (by kernel_rfl) (by kernel_rfl) (by kernel_rfl)
   (OpenSpec.preRow_of_cond 8 hx (by kernel_rfl) (fun k hk => by cases hk; kernel_rfl) (by kernel_rfl) (aF5 os))) ?_
 intro W base args ds gs iQ hval hW _ hk _ hL _ _
 exact aGJ H enc W base args ds gs iQ hval hW (hk _ rfl) hL
theorem aFg : Program.inPlace Tryz.checked.prog 4 = Rows.recordMakesUptoRow.inPlace := by kernel_rfl
theorem JF : Program.unfollowed Tryz.checked.prog 4 = Rows.recordMakesUptoRow.unfollowed := by kernel_rfl
theorem aC1 : Program.recurses Tryz.checked.prog 4 = Rows.recordMakesUptoRow.recurses := by
 unfold Program.recurses
 rw [JF]
 rfl
theorem YO : Program.varsNamed Tryz.checked.prog 4 = Rows.recordMakesUptoRow.named := by kernel_rfl
theorem aNf : joinedFacts Tryz.checked.prog 4 Tryz.f4 (Rows.OpenSpec.upto Rows.recordMakesSpec).bare Rows.recordMakesUptoRow = true := by
 unfold joinedFacts
 rw [show laidOutB Tryz.checked.prog = true from aBZ, aFg, JF, aC1, YO]
 kernel_rfl
theorem aOq : Rows.recordMakesUptoRow.holds Tryz.pinned (Rows.OpenSpec.upto Rows.recordMakesSpec) :=
 OpenClaim.holds_of_cond 4 Tryz.f4 rfl rfl rfl rfl rfl rfl rfl ⟨rfl, rfl, rfl, rfl, rfl⟩ rfl rfl rfl rfl rfl (by kernel_rfl) Tryz.func4 aNf
  (of_decide_eq_true (by kernel_rfl)) (by unfold Func.isWrapper; (rw [if_neg (by decide +kernel)]; exact ⟨rfl, rfl⟩))
  (fun os started H enc _ F => by rw [OpenClaim.pre_eq_preRow]; exact aLY os started H enc F)
theorem plain (f : FuncId) (fn : Func) (hf : Tryz.pinned.checked.prog.funcNamed "planisphere/planispherelaw27.RecordMakes" = some f) (hfn : Tryz.pinned.checked.prog.funcs[f]? = some fn) :
  true = Tryz.pinned.checked.prog.looks [] ∧ ∀ (j : Nat) t, fn.params[j]? = some t → Tryz.pinned.checked.prog.wantsStandIn t = false := by
 obtain rfl : f = 4 := Option.some.inj ((show Tryz.prog.funcNamed "planisphere/planispherelaw27.RecordMakes" = some 4 by kernel_rfl).symm.trans hf) |>.symm
 obtain rfl : fn = Tryz.f4 := (Option.some.inj (Tryz.func4.symm.trans hfn)).symm
 refine ⟨by kernel_rfl, fun j t ht => ?_⟩
 rw [Tryz.params4] at ht
 have ht2 := Array.mem_of_getElem? ht
 simp only [List.mem_toArray, List.mem_cons, List.not_mem_nil, or_false] at ht2
 rcases ht2 with rfl | rfl | rfl
 ·exact (show Tryz.prog.wantsStandIn 30 = false by kernel_rfl)
 ·exact (show Tryz.prog.wantsStandIn 9 = false by kernel_rfl)
 exact (show Tryz.prog.wantsStandIn 3 = false by kernel_rfl)
theorem aCy {P : Program} (h : P.funcs.any Func.goes = false) (f : FuncId) : P.goes f = false := by
 have h1 : ∀ g : FuncId, (P.funcs[g]?).any Func.goes = false := fun g => by
  cases e : P.funcs[g]? with
  | none => rfl
  | some fn =>
   obtain ⟨i, hi⟩ := Array.getElem?_eq_some_iff.1 e
   have := Array.any_eq_false.1 h g i
   rw [hi] at this
   simpa using this
 rw [Program.goes, h, Bool.and_false, Bool.or_false, List.any_eq_false]
 intro g _
 rw [h1]
 decide
theorem aIW : Tryz.pinned.checked.prog.funcs.any Func.goes = false := by kernel_rfl
theorem aCz {P : Program} {c : OpenClaim} (hs : c.start = .entering) (h : P.funcs.any Func.goes = false) : false = c.goesBy P := by
 have h2 : (P.funcNamed c.func).any P.goes = false := by
  cases P.funcNamed c.func with
  | none => rfl
  | some f => exact aCy h f
 unfold OpenClaim.goesBy Program.goesAt Program.goesFrom
 rw [h2, hs]
 rfl
theorem aDS : false = Rows.recordMakesUptoRow.goesBy Tryz.pinned.checked.prog := aCz rfl aIW
theorem aJV : Rows.recordMakesUptoRow.wfByText (Rows.OpenSpec.upto Rows.recordMakesSpec) = true := by kernel_rfl
theorem aDR : Tryz.pinned.checked.prog.mainIs = some (Rows.recordMakesUptoCard.stood.harness.1, Rows.recordMakesUptoCard.stood.harness.2.toList) := by kernel_rfl
theorem card : Rows.RecordMakesUptoCardSaid :=
 Claim7.holds_tied_plain_at .later [] _ _ _ _ aOq (fun _ h => by cases h) aJV (fun _ h => by cases h) recordMakesUpto_row_tie rfl ⟨rfl, rfl⟩ aDR rfl plain aDS
end cr6
theorem recordMakes_holds : Rows.RecordMakesUptoCardSaid := cr6.card
end Go.Proofs.YtmdicgjnmfolfaaGreatDoor
