/-
 PROVED: planispherelaw53.SyncEqual returns true, for all arguments of bulk at most 1048576; the arguments read behind the call as before. Conditions: that bound alone (the statement's own).
-/
import Derived.Test.YtopnleflllkbmaaGreatDoorKX1rM9
import Derived.Test.YtopnleflllkbmaaGreatDoorCards
import Derived.Test.YtopnleflllkbmaaGreatDoorTie
import Derived.WalkKit
import Derived.ProofKit
import Derived.OpenShut
import Derived.Deep.DeepHandedRow
import Derived.Lib.LaidTab
import Derived.Stop.LaidErr
import Derived.Stop.ErrReads
set_option linter.unusedVariables false
set_option linter.unusedSimpArgs false
set_option maxRecDepth 100000
namespace Go.Proofs.YtopnleflllkbmaaGreatDoor
open Go.Abs Go.ChangeShapes Go.WideShapes Go.ChangeAt Go.RowKit
namespace cx1
theorem Z7 : "*" ++ "errors.errorString" = "*errors.errorString" := by decide
theorem qx (u : TypeId) (h : Tryz.prog.typeName? 3 u = some "*errors.errorString") : u = 309 :=
 typeName_ptr_named (nm := "errors.errorString") (by rw [Z7]; kernel_rfl) (by kernel_rfl) E_ u (by rw [Z7]; exact h)
theorem aDq {W : World} (h : laidMet Tryz.prog Rows.syncEqualUptoRow.laid W) : TG (vi W) W := by
 intro p hp
 simp only [dz, List.mem_cons, List.not_mem_nil, or_false] at hp
 rcases hp with rfl | rfl | rfl
 ·have h1 : Lib.TabIs Tryz.prog W "internal/strconv.uint64pow10" .u64 [1, 10, 100, 1000, 10000, 100000, 1000000, 10000000, 100000000, 1000000000, 10000000000, 100000000000, 1000000000000, 10000000000000, 100000000000000, 1000000000000000, 10000000000000000, 100000000000000000, 1000000000000000000, 10000000000000000000] := Lib.tabIs_of_head (rest := Rows.syncEqualUptoRow.laid.drop 3) (g := 2) (t := 286) (e := 169) (by kernel_rfl) (by kernel_rfl) Tryz.underlying286 Tryz.underlying169 (by kernel_rfl) (by kernel_rfl) h.tail.tail
  unfold Lib.TabIs at h1
  unfold World.var? at h1
  rw [show Tryz.prog.globalNamed "internal/strconv.uint64pow10" = some 2 by kernel_rfl] at h1
  simp only [Option.bind_some] at h1
  split at h1
  ·rename_i cs t f hh
   exact ⟨(Array.getElem?_eq_some_iff.1 hh).1, cs, t, f, hh, Option.some.inj h1⟩
  cases h1
 ·obtain ⟨a, s, h1, _⟩ := laid_sentinel (g := 5) h.tail.tail.tail.tail (by kernel_rfl) (by kernel_rfl) Tryz.underlying163 qx Tryz.underlying309 Tryz.underlying311 rfl rfl Tryz.underlying9 (by kernel_rfl) (by kernel_rfl)
  unfold World.var? at h1
  rw [show Tryz.prog.globalNamed "strconv.ErrRange" = some 5 by kernel_rfl] at h1
  simp only [Option.bind_some] at h1
  split at h1
  ·rename_i cs t f hh
   exact ⟨(Array.getElem?_eq_some_iff.1 hh).1, cs, t, f, hh, ⟨_, _, Option.some.inj h1⟩⟩
  cases h1
 obtain ⟨a, s, h1, _⟩ := laid_sentinel (g := 4) h.tail.tail.tail.tail.tail (by kernel_rfl) (by kernel_rfl) Tryz.underlying163 qx Tryz.underlying309 Tryz.underlying311 rfl rfl Tryz.underlying9 (by kernel_rfl) (by kernel_rfl)
 unfold World.var? at h1
 rw [show Tryz.prog.globalNamed "strconv.ErrSyntax" = some 4 by kernel_rfl] at h1
 simp only [Option.bind_some] at h1
 split at h1
 ·rename_i cs t f hh
  exact ⟨(Array.getElem?_eq_some_iff.1 hh).1, cs, t, f, hh, ⟨_, _, Option.some.inj h1⟩⟩
 cases h1
theorem Kl (H : Type) (enc : TypeId × Value → H) (W : World) (base : Nat) (args : Array Value) (ds gs : List (DataW H)) (kM : List MemPlace)
  (hval : ∀ (j : Nat) t v, Tryz.f4.params[j]? = some t → args[j]? = some v → Value.okWide Tryz.prog W .any base t v)
  (hW : DataW.Whole enc Tryz.prog Tryz.f4.params.toList Rows.syncEqualSpec.vars false W args.toList ds gs kM) (hk : Rows.uptoSmall H (ds ++ gs) = true) (hL : laidMetH Tryz.prog Rows.syncEqualUptoRow.laid W) :
  Calls Tryz.prog 4 args W fun e W' => ∃ v, e = .returned v ∧ Rows.syncEqualSpec.post enc Tryz.prog Tryz.f4 false true false false W args v W' := by
 refine Ix (n := 12) (B := 1048576) (bt := 4) tj (by kernel_rfl) (by kernel_rfl) rfl ?_ (by kernel_rfl) Tryz.underlying4 hval hW (zy (im hk)) ?_ (aDq hL)
 ·intro ds hl
  rw [Tryz.params4] at hl
  match ds, hl with
  | [d1], _ => exact ⟨rfl, rfl, rfl⟩
 rw [Tryz.params4]
 intro pss h
 obtain ⟨p1, _, rfl, q1, h⟩ := ji h
 obtain rfl := xc h
 obtain ⟨x1, rfl, h1⟩ := aA2 q1
 have e : NX Tryz.prog [22] [[aL x1]] = [.pv (aL x1)] := by
  simp only [NX, vd, Tryz.underlying22, List.map_cons, List.map_nil]
 show aS Tryz.prog _ (NX Tryz.prog [22] [[aL x1]]) [] _
 rw [e]
 exact Z6 x1 [] h1.1 h1.2
def jw (h : Array Obj) (g : Nat) (cs : Array Value) : Array Obj := h.modify g fun
 | .cells _ t frozen => .cells cs t frozen
 | o => o
noncomputable def MM (os : Os) : World :=
 let N := (World.settled Tryz.prog os).heap.size
 let w0 := World.holding Tryz.prog os ⟨#[.cells #[.string ⟨#[118, 97, 108, 117, 101, 32, 111, 117, 116, 32, 111, 102, 32, 114, 97, 110, 103, 101]⟩] 311, .cells #[.string ⟨#[105, 110, 118, 97, 108, 105, 100, 32, 115, 121, 110, 116, 97, 120]⟩] 311], #[], []⟩
 { w0 with heap := jw (jw (jw (jw (jw (jw (jw (w0.heap) 6 (#[.int .u8 0, .int .u8 1, .int .u8 28, .int .u8 2, .int .u8 29, .int .u8 14, .int .u8 24, .int .u8 3, .int .u8 30, .int .u8 22, .int .u8 20, .int .u8 15, .int .u8 25, .int .u8 17, .int .u8 4, .int .u8 8, .int .u8 31, .int .u8 27, .int .u8 13, .int .u8 23, .int .u8 21, .int .u8 19, .int .u8 16, .int .u8 7, .int .u8 26, .int .u8 12, .int .u8 18, .int .u8 6, .int .u8 11, .int .u8 5, .int .u8 10, .int .u8 9])) 7 (#[.int .u8 0, .int .u8 1, .int .u8 56, .int .u8 2, .int .u8 57, .int .u8 49, .int .u8 28, .int .u8 3, .int .u8 61, .int .u8 58, .int .u8 42, .int .u8 50, .int .u8 38, .int .u8 29, .int .u8 17, .int .u8 4, .int .u8 62, .int .u8 47, .int .u8 59, .int .u8 36, .int .u8 45, .int .u8 43, .int .u8 51, .int .u8 22, .int .u8 53, .int .u8 39, .int .u8 33, .int .u8 30, .int .u8 24, .int .u8 18, .int .u8 12, .int .u8 5, .int .u8 63, .int .u8 55, .int .u8 48, .int .u8 27, .int .u8 60, .int .u8 41, .int .u8 37, .int .u8 16, .int .u8 46, .int .u8 35, .int .u8 44, .int .u8 21, .int .u8 52, .int .u8 32, .int .u8 23, .int .u8 11, .int .u8 54, .int .u8 26, .int .u8 40, .int .u8 15, .int .u8 34, .int .u8 20, .int .u8 31, .int .u8 10, .int .u8 25, .int .u8 14, .int .u8 19, .int .u8 9, .int .u8 13, .int .u8 8, .int .u8 7, .int .u8 6])) 2 (#[.int .u64 1, .int .u64 10, .int .u64 100, .int .u64 1000, .int .u64 10000, .int .u64 100000, .int .u64 1000000, .int .u64 10000000, .int .u64 100000000, .int .u64 1000000000, .int .u64 10000000000, .int .u64 100000000000, .int .u64 1000000000000, .int .u64 10000000000000, .int .u64 100000000000000, .int .u64 1000000000000000, .int .u64 10000000000000000, .int .u64 100000000000000000, .int .u64 1000000000000000000, .int .u64 10000000000000000000])) 1 (#[.int .u8 128, .int .u8 191, .int .u8 160, .int .u8 191, .int .u8 128, .int .u8 159, .int .u8 144, .int .u8 191, .int .u8 128, .int .u8 143, .int .u8 0, .int .u8 0, .int .u8 0, .int .u8 0, .int .u8 0, .int .u8 0, .int .u8 0, .int .u8 0, .int .u8 0, .int .u8 0, .int .u8 0, .int .u8 0, .int .u8 0, .int .u8 0, .int .u8 0, .int .u8 0, .int .u8 0, .int .u8 0, .int .u8 0, .int .u8 0, .int .u8 0, .int .u8 0])) 5 (#[.iface 309 (.pointer (some ⟨N + 0, 0, none⟩))])) 4 (#[.iface 309 (.pointer (some ⟨N + 1, 0, none⟩))])) 0 ((Go.Pinned.utf8FirstZ.map fun (z : Nat) => Value.int .u8 (z : Int)).toArray) }
theorem Iy (os : Os) : laidMet Tryz.prog Rows.syncEqualUptoRow.laid ((MM os).forCall (fun _ _ => 0) ⟨#[], #[.slice none 0 0], []⟩).memory :=
 laidMet_of_run' 10 (by kernel_rfl) (by kernel_rfl)
theorem aBc (os : Os) {H : Type} (enc : TypeId × Value → H) : ∃ places, DataW.whole enc Tryz.prog ((MM os).forCall (fun _ _ => 0) ⟨#[], #[.slice none 0 0], []⟩).memory Tryz.f4.params.toList Rows.syncEqualSpec.vars false (#[.slice none 0 0] : Array Value).toList 8 = some ([.nil], [], places) :=
 ⟨[], by kernel_rfl⟩
theorem aAA (os : Os) (started : os.Started) (H : Type) (enc : TypeId × Value → H) (F : Stop.Interp) :
  ReturnsInHanded {} Tryz.checked os 4 .any ((Rows.OpenSpec.upto Rows.syncEqualSpec).preRow enc Tryz.prog Tryz.f4 Rows.syncEqualUptoRow.domain false Rows.syncEqualUptoRow.laid) (((Rows.OpenSpec.upto Rows.syncEqualSpec).at F).post enc Tryz.prog Tryz.f4 false true false false) := by
 obtain ⟨places, hx⟩ := aBc os enc
 refine returnsInHanded_of_row (C := Tryz.checked) (s := Rows.OpenSpec.upto Rows.syncEqualSpec) own started (by kernel_rfl) Tryz.func4
  (witness_row_at (enc := enc) (C := Tryz.checked) false (MM os) #[.slice none 0 0] rfl (by kernel_rfl) (by kernel_rfl) (by kernel_rfl)
   (OpenSpec.preRow_of_cond 8 hx (by kernel_rfl) (fun k hk => by cases hk; kernel_rfl) (by kernel_rfl) (Iy os))) ?_
 intro W base args ds gs kM hval hW _ hk _ hL _ _
 exact Kl H enc W base args ds gs kM hval hW (hk _ rfl) hL
theorem Ji : Program.inPlace Tryz.checked.prog 4 = Rows.syncEqualUptoRow.inPlace := by kernel_rfl
theorem NE : Program.unfollowed Tryz.checked.prog 4 = Rows.syncEqualUptoRow.unfollowed := by kernel_rfl
theorem xk : Program.recurses Tryz.checked.prog 4 = Rows.syncEqualUptoRow.recurses := by
 unfold Program.recurses
 rw [NE]
 rfl
theorem il : Program.varsNamed Tryz.checked.prog 4 = Rows.syncEqualUptoRow.named := by kernel_rfl
theorem aC9 : joinedFacts Tryz.checked.prog 4 Tryz.f4 (Rows.OpenSpec.upto Rows.syncEqualSpec).bare Rows.syncEqualUptoRow = true := by
 unfold joinedFacts
 rw [show laidOutB Tryz.checked.prog = true from tj, Ji, NE, xk, il]
 kernel_rfl
theorem aDg : Rows.syncEqualUptoRow.holds Tryz.pinned (Rows.OpenSpec.upto Rows.syncEqualSpec) :=
 OpenClaim.holds_of_cond 4 Tryz.f4 rfl rfl rfl rfl rfl rfl rfl ⟨rfl, rfl, rfl, rfl, rfl⟩ rfl rfl rfl rfl rfl (by kernel_rfl) Tryz.func4 aC9
  (of_decide_eq_true (by kernel_rfl)) (by unfold Func.isWrapper; (rw [if_neg (by decide +kernel)]; exact ⟨rfl, rfl⟩))
  (fun os started H enc _ F => by rw [OpenClaim.pre_eq_preRow]; exact aAA os started H enc F)
theorem plain (f : FuncId) (fn : Func) (hf : Tryz.pinned.checked.prog.funcNamed "planisphere/planispherelaw53.SyncEqual" = some f) (hfn : Tryz.pinned.checked.prog.funcs[f]? = some fn) :
  true = Tryz.pinned.checked.prog.looks [] ∧ ∀ (j : Nat) t, fn.params[j]? = some t → Tryz.pinned.checked.prog.wantsStandIn t = false := by
 obtain rfl : f = 4 := Option.some.inj ((show Tryz.prog.funcNamed "planisphere/planispherelaw53.SyncEqual" = some 4 by kernel_rfl).symm.trans hf) |>.symm
 obtain rfl : fn = Tryz.f4 := (Option.some.inj (Tryz.func4.symm.trans hfn)).symm
 refine ⟨by kernel_rfl, fun j t ht => ?_⟩
 rw [Tryz.params4] at ht
 have ht2 := Array.mem_of_getElem? ht
 simp only [List.mem_toArray, List.mem_cons, List.not_mem_nil, or_false] at ht2
 rcases ht2 with rfl
 exact (show Tryz.prog.wantsStandIn 22 = false by kernel_rfl)
theorem yy {P : Program} (h : P.funcs.any Func.goes = false) (f : FuncId) : P.goes f = false := by
 have h1 : ∀ g : FuncId, (P.funcs[g]?).any Func.goes = false := fun g => by
  cases e : P.funcs[g]? with
  | none => rfl
  | some fn =>
   obtain ⟨i, hi⟩ := Array.getElem?_eq_some_iff.1 e
   have := Array.any_eq_false.1 h g i
   rw [hi] at this
   simpa using this
 rw [Program.goes, h, Bool.and_false, Bool.or_false, List.any_eq_false]
 intro g _
 rw [h1]
 decide
theorem Sc : Tryz.pinned.checked.prog.funcs.any Func.goes = false := by kernel_rfl
theorem yz {P : Program} {c : OpenClaim} (hs : c.start = .entering) (h : P.funcs.any Func.goes = false) : false = c.goesBy P := by
 have h2 : (P.funcNamed c.func).any P.goes = false := by
  cases P.funcNamed c.func with
  | none => rfl
  | some f => exact yy h f
 unfold OpenClaim.goesBy Program.goesAt Program.goesFrom
 rw [h2, hs]
 rfl
theorem zx : false = Rows.syncEqualUptoRow.goesBy Tryz.pinned.checked.prog := yz rfl Sc
theorem Us : Rows.syncEqualUptoRow.wfByText (Rows.OpenSpec.upto Rows.syncEqualSpec) = true := by kernel_rfl
theorem zw : Tryz.pinned.checked.prog.mainIs = some (Rows.syncEqualUptoCard.stood.harness.1, Rows.syncEqualUptoCard.stood.harness.2.toList) := by kernel_rfl
theorem card : Rows.SyncEqualUptoCardSaid :=
 Claim7.holds_tied_plain_at .later [] _ _ _ _ aDg (fun _ h => by cases h) Us (fun _ h => by cases h) syncEqualUpto_row_tie rfl ⟨rfl, rfl⟩ zw rfl plain zx
end cx1
theorem syncEqual_holds : Rows.SyncEqualUptoCardSaid := cx1.card
end Go.Proofs.YtopnleflllkbmaaGreatDoor
