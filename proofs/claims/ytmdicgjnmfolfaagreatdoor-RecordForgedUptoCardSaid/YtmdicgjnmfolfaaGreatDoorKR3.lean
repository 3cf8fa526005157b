/-
 PROVED: planispherelaw27.RecordForged returns true, for all arguments of bulk at most 1048576; the arguments read behind the call as before. Conditions: that bound alone (the statement's own).
-/
import Derived.Test.YtmdicgjnmfolfaaGreatDoorKR3M13
import Derived.Test.YtmdicgjnmfolfaaGreatDoorCards
import Derived.Test.YtmdicgjnmfolfaaGreatDoorTie
import Derived.WalkKit
import Derived.ProofKit
import Derived.OpenShut
import Derived.Deep.DeepHandedRow
import Derived.Lib.LaidTab
import Derived.Stop.LaidErr
import Derived.Stop.ErrReads
set_option linter.unusedVariables false
set_option linter.unusedSimpArgs false
set_option maxRecDepth 100000
namespace Go.Proofs.YtmdicgjnmfolfaaGreatDoor
open Go.Abs Go.ChangeShapes Go.WideShapes Go.ChangeAt Go.RowKit
namespace cr3
theorem UJ : "*" ++ "errors.errorString" = "*errors.errorString" := by decide
theorem aAY (u : TypeId) (h : Tryz.prog.typeName? 3 u = some "*errors.errorString") : u = 266 :=
 typeName_ptr_named (nm := "errors.errorString") (by rw [UJ]; kernel_rfl) (by kernel_rfl) (by decide) u (by rw [UJ]; exact h)
theorem aOY {W : World} (h : laidMet Tryz.prog Rows.recordForgedUptoRow.laid W) : NV (Old W) W := by
 intro p hp
 simp only [S3, List.mem_cons, List.not_mem_nil, or_false] at hp
 rcases hp with rfl | rfl | rfl
 ·have h1 : Lib.TabIs Tryz.prog W "internal/strconv.uint64pow10" .u64 [1, 10, 100, 1000, 10000, 100000, 1000000, 10000000, 100000000, 1000000000, 10000000000, 100000000000, 1000000000000, 10000000000000, 100000000000000, 1000000000000000, 10000000000000000, 100000000000000000, 1000000000000000000, 10000000000000000000] := Lib.tabIs_of_head (rest := Rows.recordForgedUptoRow.laid.drop 3) (g := 3) (t := 257) (e := 122) (by kernel_rfl) (by kernel_rfl) Tryz.underlying257 Tryz.underlying122 (by kernel_rfl) (by kernel_rfl) h.tail.tail
  unfold Lib.TabIs at h1
  unfold World.var? at h1
  rw [show Tryz.prog.globalNamed "internal/strconv.uint64pow10" = some 3 by kernel_rfl] at h1
  simp only [Option.bind_some] at h1
  split at h1
  ·rename_i cs t f hh
   exact ⟨(Array.getElem?_eq_some_iff.1 hh).1, cs, t, f, hh, Option.some.inj h1⟩
  cases h1
 ·obtain ⟨a, s, h1, _⟩ := laid_sentinel (g := 2) h.tail.tail.tail.tail (by kernel_rfl) (by kernel_rfl) Tryz.underlying139 aAY Tryz.underlying266 Tryz.underlying268 rfl rfl Tryz.underlying9 (by kernel_rfl) (by kernel_rfl)
  unfold World.var? at h1
  rw [show Tryz.prog.globalNamed "strconv.ErrRange" = some 2 by kernel_rfl] at h1
  simp only [Option.bind_some] at h1
  split at h1
  ·rename_i cs t f hh
   exact ⟨(Array.getElem?_eq_some_iff.1 hh).1, cs, t, f, hh, ⟨_, _, Option.some.inj h1⟩⟩
  cases h1
 obtain ⟨a, s, h1, _⟩ := laid_sentinel (g := 1) h.tail.tail.tail.tail.tail (by kernel_rfl) (by kernel_rfl) Tryz.underlying139 aAY Tryz.underlying266 Tryz.underlying268 rfl rfl Tryz.underlying9 (by kernel_rfl) (by kernel_rfl)
 unfold World.var? at h1
 rw [show Tryz.prog.globalNamed "strconv.ErrSyntax" = some 1 by kernel_rfl] at h1
 simp only [Option.bind_some] at h1
 split at h1
 ·rename_i cs t f hh
  exact ⟨(Array.getElem?_eq_some_iff.1 hh).1, cs, t, f, hh, ⟨_, _, Option.some.inj h1⟩⟩
 cases h1
theorem aF5 (H : Type) (enc : TypeId × Value → H) (W : World) (base : Nat) (args : Array Value) (ds gs : List (DataW H)) (iG : List MemPlace)
  (hval : ∀ (j : Nat) t v, Tryz.f5.params[j]? = some t → args[j]? = some v → Value.okWide Tryz.prog W .any base t v)
  (hW : DataW.Whole enc Tryz.prog Tryz.f5.params.toList Rows.recordForgedSpec.vars false W args.toList ds gs iG) (hk : Rows.uptoSmall H (ds ++ gs) = true) (hL : laidMetH Tryz.prog Rows.recordForgedUptoRow.laid W) :
  Calls Tryz.prog 5 args W fun e W' => ∃ v, e = .returned v ∧ Rows.recordForgedSpec.post enc Tryz.prog Tryz.f5 false true false false W args v W' := by
 refine aEo (n := 12) (B := 1048576) (bt := 4) aAj (by kernel_rfl) (by kernel_rfl) rfl ?_ (by kernel_rfl) Tryz.underlying4 hval hW (aCb (XO hk)) ?_ (aOY hL)
 ·intro ds hl
  rw [Tryz.params5] at hl
  match ds, hl with
  | [d1, d2], _ => exact ⟨rfl, rfl, rfl⟩
 rw [Tryz.params5]
 intro pss h
 obtain ⟨p1, _, rfl, q1, h⟩ := LJ h
 obtain ⟨p2, _, rfl, q2, h⟩ := LJ h
 obtain rfl := aBc h
 obtain ⟨x1, rfl, h1⟩ := aNI q1
 obtain ⟨x2, x2k, rfl, h2⟩ := aI6 q2
 have e : JI Tryz.prog [30, 37] [cC x1, F9 x2 x2k] = [av (cC x1), av (F9 x2 x2k)] := by
  simp only [JI, aBF, Tryz.underlying30, Tryz.underlying37, av, List.map_cons, List.map_nil]
 show aI Tryz.prog _ (JI Tryz.prog [30, 37] [cC x1, F9 x2 x2k]) [] _
 rw [e]
 exact LP x1 x2 x2k (aE4 h1) (aKN h1) (aHi h2) (aHO h1) []
def YD (h : Array Obj) (g : Nat) (cs : Array Value) : Array Obj := h.modify g fun
 | .cells _ t frozen => .cells cs t frozen
 | o => o
noncomputable def HU (os : Os) : World :=
 let N := (World.settled Tryz.prog os).heap.size
 let w0 := World.holding Tryz.prog os ⟨#[.cells #[.string ⟨#[118, 97, 108, 117, 101, 32, 111, 117, 116, 32, 111, 102, 32, 114, 97, 110, 103, 101]⟩] 268, .cells #[.string ⟨#[105, 110, 118, 97, 108, 105, 100, 32, 115, 121, 110, 116, 97, 120]⟩] 268], #[], []⟩
 { w0 with heap := YD (YD (YD (YD (YD (YD (YD (w0.heap) 6 (#[.int .u8 0, .int .u8 1, .int .u8 28, .int .u8 2, .int .u8 29, .int .u8 14, .int .u8 24, .int .u8 3, .int .u8 30, .int .u8 22, .int .u8 20, .int .u8 15, .int .u8 25, .int .u8 17, .int .u8 4, .int .u8 8, .int .u8 31, .int .u8 27, .int .u8 13, .int .u8 23, .int .u8 21, .int .u8 19, .int .u8 16, .int .u8 7, .int .u8 26, .int .u8 12, .int .u8 18, .int .u8 6, .int .u8 11, .int .u8 5, .int .u8 10, .int .u8 9])) 7 (#[.int .u8 0, .int .u8 1, .int .u8 56, .int .u8 2, .int .u8 57, .int .u8 49, .int .u8 28, .int .u8 3, .int .u8 61, .int .u8 58, .int .u8 42, .int .u8 50, .int .u8 38, .int .u8 29, .int .u8 17, .int .u8 4, .int .u8 62, .int .u8 47, .int .u8 59, .int .u8 36, .int .u8 45, .int .u8 43, .int .u8 51, .int .u8 22, .int .u8 53, .int .u8 39, .int .u8 33, .int .u8 30, .int .u8 24, .int .u8 18, .int .u8 12, .int .u8 5, .int .u8 63, .int .u8 55, .int .u8 48, .int .u8 27, .int .u8 60, .int .u8 41, .int .u8 37, .int .u8 16, .int .u8 46, .int .u8 35, .int .u8 44, .int .u8 21, .int .u8 52, .int .u8 32, .int .u8 23, .int .u8 11, .int .u8 54, .int .u8 26, .int .u8 40, .int .u8 15, .int .u8 34, .int .u8 20, .int .u8 31, .int .u8 10, .int .u8 25, .int .u8 14, .int .u8 19, .int .u8 9, .int .u8 13, .int .u8 8, .int .u8 7, .int .u8 6])) 3 (#[.int .u64 1, .int .u64 10, .int .u64 100, .int .u64 1000, .int .u64 10000, .int .u64 100000, .int .u64 1000000, .int .u64 10000000, .int .u64 100000000, .int .u64 1000000000, .int .u64 10000000000, .int .u64 100000000000, .int .u64 1000000000000, .int .u64 10000000000000, .int .u64 100000000000000, .int .u64 1000000000000000, .int .u64 10000000000000000, .int .u64 100000000000000000, .int .u64 1000000000000000000, .int .u64 10000000000000000000])) 5 (#[.int .u8 128, .int .u8 191, .int .u8 160, .int .u8 191, .int .u8 128, .int .u8 159, .int .u8 144, .int .u8 191, .int .u8 128, .int .u8 143, .int .u8 0, .int .u8 0, .int .u8 0, .int .u8 0, .int .u8 0, .int .u8 0, .int .u8 0, .int .u8 0, .int .u8 0, .int .u8 0, .int .u8 0, .int .u8 0, .int .u8 0, .int .u8 0, .int .u8 0, .int .u8 0, .int .u8 0, .int .u8 0, .int .u8 0, .int .u8 0, .int .u8 0, .int .u8 0])) 2 (#[.iface 266 (.pointer (some ⟨N + 0, 0, none⟩))])) 1 (#[.iface 266 (.pointer (some ⟨N + 1, 0, none⟩))])) 4 ((Go.Pinned.utf8FirstZ.map fun (z : Nat) => Value.int .u8 (z : Int)).toArray) }
theorem aEp (os : Os) : laidMet Tryz.prog Rows.recordForgedUptoRow.laid ((HU os).forCall (fun _ _ => 0) ⟨#[], #[.agg #[.int .i64 0, .int .i64 0, .int .i64 0, .int .i64 0, .string ⟨#[]⟩, .slice none 0 0, .slice none 0 0, .string ⟨#[]⟩, .bool false, .int .i64 0, .string ⟨#[]⟩, .int .i64 0, .slice none 0 0, .slice none 0 0, .string ⟨#[]⟩, .string ⟨#[]⟩, .slice none 0 0, .slice none 0 0, .int .i64 0, .slice none 0 0, .slice none 0 0], .agg #[.slice none 0 0, .slice none 0 0, .slice none 0 0, .int .i64 0, .slice none 0 0, .slice none 0 0]], []⟩).memory :=
 laidMet_of_run' 10 (by kernel_rfl) (by kernel_rfl)
theorem aMO (os : Os) {H : Type} (enc : TypeId × Value → H) : ∃ places, DataW.whole enc Tryz.prog ((HU os).forCall (fun _ _ => 0) ⟨#[], #[.agg #[.int .i64 0, .int .i64 0, .int .i64 0, .int .i64 0, .string ⟨#[]⟩, .slice none 0 0, .slice none 0 0, .string ⟨#[]⟩, .bool false, .int .i64 0, .string ⟨#[]⟩, .int .i64 0, .slice none 0 0, .slice none 0 0, .string ⟨#[]⟩, .string ⟨#[]⟩, .slice none 0 0, .slice none 0 0, .int .i64 0, .slice none 0 0, .slice none 0 0], .agg #[.slice none 0 0, .slice none 0 0, .slice none 0 0, .int .i64 0, .slice none 0 0, .slice none 0 0]], []⟩).memory Tryz.f5.params.toList Rows.recordForgedSpec.vars false (#[.agg #[.int .i64 0, .int .i64 0, .int .i64 0, .int .i64 0, .string ⟨#[]⟩, .slice none 0 0, .slice none 0 0, .string ⟨#[]⟩, .bool false, .int .i64 0, .string ⟨#[]⟩, .int .i64 0, .slice none 0 0, .slice none 0 0, .string ⟨#[]⟩, .string ⟨#[]⟩, .slice none 0 0, .slice none 0 0, .int .i64 0, .slice none 0 0, .slice none 0 0], .agg #[.slice none 0 0, .slice none 0 0, .slice none 0 0, .int .i64 0, .slice none 0 0, .slice none 0 0]] : Array Value).toList 8 = some ([.agg [.lit (.int .i64 0), .lit (.int .i64 0), .lit (.int .i64 0), .lit (.int .i64 0), .lit (.string []), .nil, .nil, .lit (.string []), .lit (.bool false), .lit (.int .i64 0), .lit (.string []), .agg [.lit (.int .i64 0), .nil, .nil], .agg [.lit (.string []), .lit (.string []), .nil, .nil, .agg [.lit (.int .i64 0), .nil, .nil]]], .agg [.agg [.nil], .nil, .nil, .lit (.int .i64 0), .nil, .nil]], [], places) :=
 ⟨[], by kernel_rfl⟩
theorem aKk (os : Os) (started : os.Started) (H : Type) (enc : TypeId × Value → H) (F : Stop.Interp) :
  ReturnsInHanded {} Tryz.checked os 5 .any ((Rows.OpenSpec.upto Rows.recordForgedSpec).preRow enc Tryz.prog Tryz.f5 Rows.recordForgedUptoRow.domain false Rows.recordForgedUptoRow.laid) (((Rows.OpenSpec.upto Rows.recordForgedSpec).at F).post enc Tryz.prog Tryz.f5 false true false false) := by
 obtain ⟨places, hx⟩ := aMO os enc
 refine returnsInHanded_of_row (C := Tryz.checked) (s := Rows.OpenSpec.upto Rows.recordForgedSpec) own started (by kernel_rfl) Tryz.func5
  (witness_row_at (enc := enc) (C := Tryz.checked) false (HU os) #[.agg #[.int .i64 0, .int .i64 0, .int .i64 0, .int .i64 0, .string ⟨#[]⟩, .slice none 0 0, .slice none 0 0, .string ⟨#[]⟩, .bool false, .int .i64 0, .string ⟨#[]⟩, .int .i64 0, .slice none 0 0, .slice none 0 0, .string ⟨#[]⟩, .string ⟨#[]⟩, .slice none 0 0, .slice none 0 0, .int .i64 0, .slice none 0 0, .slice none 0 0], .agg #[.slice none 0 0, .slice none 0 0, .slice none 0 0, .int .i64 0, .slice none 0 0, .slice none 0 0]] rfl (by kernel_rfl) (by kernel_rfl) (by kernel_rfl)
   (OpenSpec.preRow_of_cond 8 hx (by kernel_rfl) (fun k hk => by cases hk; kernel_rfl) (by kernel_rfl) (aEp os))) ?_
 intro W base args ds gs iG hval hW _ hk _ hL _ _
 exact aF5 H enc W base args ds gs iG hval hW (hk _ rfl) hL
theorem aFB : Program.inPlace Tryz.checked.prog 5 = Rows.recordForgedUptoRow.inPlace := by kernel_rfl
theorem IR : Program.unfollowed Tryz.checked.prog 5 = Rows.recordForgedUptoRow.unfollowed := by kernel_rfl
theorem aBm : Program.recurses Tryz.checked.prog 5 = Rows.recordForgedUptoRow.recurses := by
 unfold Program.recurses
 rw [IR]
 first | rfl | kernel_rfl
theorem XM : Program.varsNamed Tryz.checked.prog 5 = Rows.recordForgedUptoRow.named := by kernel_rfl
theorem aND : joinedFacts Tryz.checked.prog 5 Tryz.f5 (Rows.OpenSpec.upto Rows.recordForgedSpec).bare Rows.recordForgedUptoRow = true := by
 unfold joinedFacts
 rw [show laidOutB Tryz.checked.prog = true from aAj, aFB, IR, aBm, XM]
 kernel_rfl
theorem aON : Rows.recordForgedUptoRow.holds Tryz.pinned (Rows.OpenSpec.upto Rows.recordForgedSpec) :=
 OpenClaim.holds_of_cond 5 Tryz.f5 rfl rfl rfl rfl rfl rfl rfl ⟨rfl, rfl, rfl, rfl, rfl⟩ rfl rfl rfl rfl rfl (by kernel_rfl) Tryz.func5 aND
  (of_decide_eq_true (by kernel_rfl)) (by unfold Func.isWrapper; first | (rw [if_pos (by decide +kernel)]; kernel_rfl) | (rw [if_neg (by decide +kernel)]; exact ⟨rfl, rfl⟩))
  (fun os started H enc _ F => by rw [OpenClaim.pre_eq_preRow]; exact aKk os started H enc F)
theorem plain (f : FuncId) (fn : Func) (hf : Tryz.pinned.checked.prog.funcNamed "planisphere/planispherelaw27.RecordForged" = some f) (hfn : Tryz.pinned.checked.prog.funcs[f]? = some fn) :
  true = Tryz.pinned.checked.prog.looks [] ∧ ∀ (j : Nat) t, fn.params[j]? = some t → Tryz.pinned.checked.prog.wantsStandIn t = false := by
 obtain rfl : f = 5 := Option.some.inj ((show Tryz.prog.funcNamed "planisphere/planispherelaw27.RecordForged" = some 5 by kernel_rfl).symm.trans hf) |>.symm
 obtain rfl : fn = Tryz.f5 := (Option.some.inj (Tryz.func5.symm.trans hfn)).symm
 refine ⟨by kernel_rfl, fun j t ht => ?_⟩
 rw [Tryz.params5] at ht
 have ht2 := Array.mem_of_getElem? ht
 simp only [List.mem_toArray, List.mem_cons, List.not_mem_nil, or_false] at ht2
 rcases ht2 with rfl | rfl
 ·exact (show Tryz.prog.wantsStandIn 30 = false by kernel_rfl)
 exact (show Tryz.prog.wantsStandIn 37 = false by kernel_rfl)
theorem aCQ {P : Program} (h : P.funcs.any Func.goes = false) (f : FuncId) : P.goes f = false := by
 have h1 : ∀ g : FuncId, (P.funcs[g]?).any Func.goes = false := fun g => by
  cases e : P.funcs[g]? with
  | none => rfl
  | some fn =>
   obtain ⟨i, hi⟩ := Array.getElem?_eq_some_iff.1 e
   have := Array.any_eq_false.1 h g i
   rw [hi] at this
   simpa using this
 rw [Program.goes, h, Bool.and_false, Bool.or_false, List.any_eq_false]
 intro g _
 rw [h1]
 decide
theorem aHk : Tryz.pinned.checked.prog.funcs.any Func.goes = false := by kernel_rfl
theorem aCR {P : Program} {c : OpenClaim} (hs : c.start = .entering) (h : P.funcs.any Func.goes = false) : false = c.goesBy P := by
 have h2 : (P.funcNamed c.func).any P.goes = false := by
  cases P.funcNamed c.func with
  | none => rfl
  | some f => exact aCQ h f
 unfold OpenClaim.goesBy Program.goesAt Program.goesFrom
 rw [h2, hs]
 rfl
theorem aCa : false = Rows.recordForgedUptoRow.goesBy Tryz.pinned.checked.prog := aCR rfl aHk
theorem aIk : Rows.recordForgedUptoRow.wfByText (Rows.OpenSpec.upto Rows.recordForgedSpec) = true := by kernel_rfl
theorem aC9 : Tryz.pinned.checked.prog.mainIs = some (Rows.recordForgedUptoCard.stood.harness.1, Rows.recordForgedUptoCard.stood.harness.2.toList) := by kernel_rfl
theorem card : Rows.RecordForgedUptoCardSaid :=
 Claim7.holds_tied_plain_at .later [] _ _ _ _ aON (fun _ h => by cases h) aIk (fun _ h => by cases h) recordForgedUpto_row_tie rfl ⟨rfl, rfl⟩ aC9 rfl plain aCa
end cr3
theorem recordForged_holds : Rows.RecordForgedUptoCardSaid := cr3.card
end Go.Proofs.YtmdicgjnmfolfaaGreatDoor
