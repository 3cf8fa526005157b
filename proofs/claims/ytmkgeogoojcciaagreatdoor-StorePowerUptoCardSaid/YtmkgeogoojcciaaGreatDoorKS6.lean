/-
 PROVED: planispherelaw47.StorePower returns true, for all arguments of bulk at most 1048576; the arguments read behind the call as before. Conditions: that bound alone (the statement's own).
-/
import Derived.Test.YtmkgeogoojcciaaGreatDoorKS6M9
import Derived.Test.YtmkgeogoojcciaaGreatDoorCards
import Derived.Test.YtmkgeogoojcciaaGreatDoorTie
import Derived.WalkKit
import Derived.ProofKit
import Derived.OpenShut
import Derived.Deep.DeepHandedRow
import Derived.Lib.LaidTab
import Derived.Stop.LaidErr
import Derived.Stop.ErrReads
set_option linter.unusedVariables false
set_option linter.unusedSimpArgs false
set_option maxRecDepth 100000
namespace Go.Proofs.YtmkgeogoojcciaaGreatDoor
open Go.Abs Go.ChangeShapes Go.WideShapes Go.ChangeAt Go.RowKit
namespace cs6
theorem GY : "*" ++ "errors.errorString" = "*errors.errorString" := by decide
theorem LZ (u : TypeId) (h : Tryz.prog.typeName? 3 u = some "*errors.errorString") : u = 220 :=
 typeName_ptr_named (nm := "errors.errorString") (by rw [GY]; kernel_rfl) (by kernel_rfl) (by decide) u (by rw [GY]; exact h)
theorem aAQ {W : World} (h : laidMet Tryz.prog Rows.storePowerUptoRow.laid W) : B2 (NA W) W := by
 intro p hp
 simp only [FU, List.mem_cons, List.not_mem_nil, or_false] at hp
 rcases hp with rfl | rfl | rfl
 ·have h1 : Lib.TabIs Tryz.prog W "internal/strconv.uint64pow10" .u64 [1, 10, 100, 1000, 10000, 100000, 1000000, 10000000, 100000000, 1000000000, 10000000000, 100000000000, 1000000000000, 10000000000000, 100000000000000, 1000000000000000, 10000000000000000, 100000000000000000, 1000000000000000000, 10000000000000000000] := Lib.tabIs_of_head (rest := Rows.storePowerUptoRow.laid.drop 3) (g := 3) (t := 229) (e := 93) (by kernel_rfl) (by kernel_rfl) Tryz.underlying229 Tryz.underlying93 (by kernel_rfl) (by kernel_rfl) h.tail.tail
  unfold Lib.TabIs at h1
  unfold World.var? at h1
  rw [show Tryz.prog.globalNamed "internal/strconv.uint64pow10" = some 3 by kernel_rfl] at h1
  simp only [Option.bind_some] at h1
  split at h1
  ·rename_i cs t f hh
   exact ⟨(Array.getElem?_eq_some_iff.1 hh).1, cs, t, f, hh, Option.some.inj h1⟩
  cases h1
 ·obtain ⟨a, s, h1, _⟩ := laid_sentinel (g := 1) h.tail.tail.tail (by kernel_rfl) (by kernel_rfl) Tryz.underlying132 LZ Tryz.underlying220 Tryz.underlying222 rfl rfl Tryz.underlying9 (by kernel_rfl) (by kernel_rfl)
  unfold World.var? at h1
  rw [show Tryz.prog.globalNamed "strconv.ErrRange" = some 1 by kernel_rfl] at h1
  simp only [Option.bind_some] at h1
  split at h1
  ·rename_i cs t f hh
   exact ⟨(Array.getElem?_eq_some_iff.1 hh).1, cs, t, f, hh, ⟨_, _, Option.some.inj h1⟩⟩
  cases h1
 obtain ⟨a, s, h1, _⟩ := laid_sentinel (g := 0) h.tail.tail.tail.tail (by kernel_rfl) (by kernel_rfl) Tryz.underlying132 LZ Tryz.underlying220 Tryz.underlying222 rfl rfl Tryz.underlying9 (by kernel_rfl) (by kernel_rfl)
 unfold World.var? at h1
 rw [show Tryz.prog.globalNamed "strconv.ErrSyntax" = some 0 by kernel_rfl] at h1
 simp only [Option.bind_some] at h1
 split at h1
 ·rename_i cs t f hh
  exact ⟨(Array.getElem?_eq_some_iff.1 hh).1, cs, t, f, hh, ⟨_, _, Option.some.inj h1⟩⟩
 cases h1
theorem S1 (H : Type) (enc : TypeId × Value → H) (W : World) (base : Nat) (args : Array Value) (ds gs : List (DataW H)) (iQ : List MemPlace)
  (hval : ∀ (j : Nat) t v, Tryz.f7.params[j]? = some t → args[j]? = some v → Value.okWide Tryz.prog W .any base t v)
  (hW : DataW.Whole enc Tryz.prog Tryz.f7.params.toList Rows.storePowerSpec.vars false W args.toList ds gs iQ) (hk : Rows.uptoSmall H (ds ++ gs) = true) (hL : laidMetH Tryz.prog Rows.storePowerUptoRow.laid W) :
  Calls Tryz.prog 7 args W fun e W' => ∃ v, e = .returned v ∧ Rows.storePowerSpec.post enc Tryz.prog Tryz.f7 false true false false W args v W' := by
 refine R2 (n := 12) (B := 1048576) (bt := 4) MD (by kernel_rfl) (by kernel_rfl) rfl ?_ (by kernel_rfl) Tryz.underlying4 hval hW (PB (JF hk)) ?_ (aAQ hL)
 ·intro ds hl
  rw [Tryz.params7] at hl
  match ds, hl with
  | [d1, d2], _ => exact ⟨rfl, rfl, rfl⟩
 rw [Tryz.params7]
 intro pss h
 obtain ⟨p1, _, rfl, q1, h⟩ := AB h
 obtain ⟨p2, _, rfl, q2, h⟩ := AB h
 obtain rfl := NT h
 obtain ⟨x1, rfl, h1, h1b⟩ := aAR q1
 obtain ⟨x2, rfl, h2⟩ := ZP q2
 have e : yM Tryz.prog [5, 22] [[.int .u8 x1], [mR x2]] = [.pv (.int .u8 x1), .pv (mR x2)] := by
  simp only [yM, M2, Tryz.underlying22, Tryz.underlying5, List.map_cons, List.map_nil]
 show aL Tryz.prog _ (yM Tryz.prog [5, 22] [[.int .u8 x1], [mR x2]]) [] _
 rw [e]
 exact RH (fun H => SE H) x1 x2 ⟨h1, h1b⟩ h2.len h2.ok h2.ka
def lY (h : Array Obj) (g : Nat) (cs : Array Value) : Array Obj := h.modify g fun
 | .cells _ t frozen => .cells cs t frozen
 | o => o
noncomputable def xE (os : Os) : World :=
 let N := (World.settled Tryz.prog os).heap.size
 let w0 := World.holding Tryz.prog os ⟨#[.cells #[.string ⟨#[118, 97, 108, 117, 101, 32, 111, 117, 116, 32, 111, 102, 32, 114, 97, 110, 103, 101]⟩] 222, .cells #[.string ⟨#[105, 110, 118, 97, 108, 105, 100, 32, 115, 121, 110, 116, 97, 120]⟩] 222], #[], []⟩
 { w0 with heap := lY (lY (lY (lY (lY (w0.heap) 4 (#[.int .u8 0, .int .u8 1, .int .u8 28, .int .u8 2, .int .u8 29, .int .u8 14, .int .u8 24, .int .u8 3, .int .u8 30, .int .u8 22, .int .u8 20, .int .u8 15, .int .u8 25, .int .u8 17, .int .u8 4, .int .u8 8, .int .u8 31, .int .u8 27, .int .u8 13, .int .u8 23, .int .u8 21, .int .u8 19, .int .u8 16, .int .u8 7, .int .u8 26, .int .u8 12, .int .u8 18, .int .u8 6, .int .u8 11, .int .u8 5, .int .u8 10, .int .u8 9])) 5 (#[.int .u8 0, .int .u8 1, .int .u8 56, .int .u8 2, .int .u8 57, .int .u8 49, .int .u8 28, .int .u8 3, .int .u8 61, .int .u8 58, .int .u8 42, .int .u8 50, .int .u8 38, .int .u8 29, .int .u8 17, .int .u8 4, .int .u8 62, .int .u8 47, .int .u8 59, .int .u8 36, .int .u8 45, .int .u8 43, .int .u8 51, .int .u8 22, .int .u8 53, .int .u8 39, .int .u8 33, .int .u8 30, .int .u8 24, .int .u8 18, .int .u8 12, .int .u8 5, .int .u8 63, .int .u8 55, .int .u8 48, .int .u8 27, .int .u8 60, .int .u8 41, .int .u8 37, .int .u8 16, .int .u8 46, .int .u8 35, .int .u8 44, .int .u8 21, .int .u8 52, .int .u8 32, .int .u8 23, .int .u8 11, .int .u8 54, .int .u8 26, .int .u8 40, .int .u8 15, .int .u8 34, .int .u8 20, .int .u8 31, .int .u8 10, .int .u8 25, .int .u8 14, .int .u8 19, .int .u8 9, .int .u8 13, .int .u8 8, .int .u8 7, .int .u8 6])) 3 (#[.int .u64 1, .int .u64 10, .int .u64 100, .int .u64 1000, .int .u64 10000, .int .u64 100000, .int .u64 1000000, .int .u64 10000000, .int .u64 100000000, .int .u64 1000000000, .int .u64 10000000000, .int .u64 100000000000, .int .u64 1000000000000, .int .u64 10000000000000, .int .u64 100000000000000, .int .u64 1000000000000000, .int .u64 10000000000000000, .int .u64 100000000000000000, .int .u64 1000000000000000000, .int .u64 10000000000000000000])) 1 (#[.iface 220 (.pointer (some ⟨N + 0, 0, none⟩))])) 0 (#[.iface 220 (.pointer (some ⟨N + 1, 0, none⟩))]) }
theorem R3 (os : Os) : laidMet Tryz.prog Rows.storePowerUptoRow.laid ((xE os).forCall (fun _ _ => 0) ⟨#[], #[.int .u8 0, .slice none 0 0], []⟩).memory :=
 laidMet_of_run' 10 (by kernel_rfl) (by kernel_rfl)
theorem ZA (os : Os) {H : Type} (enc : TypeId × Value → H) : ∃ places, DataW.whole enc Tryz.prog ((xE os).forCall (fun _ _ => 0) ⟨#[], #[.int .u8 0, .slice none 0 0], []⟩).memory Tryz.f7.params.toList Rows.storePowerSpec.vars false (#[.int .u8 0, .slice none 0 0] : Array Value).toList 8 = some ([.lit (.int .u8 0), .nil], [], places) :=
 ⟨[], by kernel_rfl⟩
theorem XY (os : Os) (started : os.Started) (H : Type) (enc : TypeId × Value → H) (F : Stop.Interp) :
  ReturnsInHanded {} Tryz.checked os 7 .any ((Rows.OpenSpec.upto Rows.storePowerSpec).preRow enc Tryz.prog Tryz.f7 Rows.storePowerUptoRow.domain false Rows.storePowerUptoRow.laid) (((Rows.OpenSpec.upto Rows.storePowerSpec).at F).post enc Tryz.prog Tryz.f7 false true false false) := by
 obtain ⟨places, hx⟩ := ZA os enc
 refine returnsInHanded_of_row (C := Tryz.checked) (s := Rows.OpenSpec.upto Rows.storePowerSpec) own started (by kernel_rfl) Tryz.func7
  (witness_row_at (enc := enc) (C := Tryz.checked) false (xE os) #[.int .u8 0, .slice none 0 0] rfl (by kernel_rfl) (by kernel_rfl) (by kernel_rfl)
   (OpenSpec.preRow_of_cond 8 hx (by kernel_rfl) (fun k hk => by cases hk; kernel_rfl) (by kernel_rfl) (R3 os))) ?_
 intro W base args ds gs iQ hval hW _ hk _ hL _ _
 exact S1 H enc W base args ds gs iQ hval hW (hk _ rfl) hL
theorem SA : Program.inPlace Tryz.checked.prog 7 = Rows.storePowerUptoRow.inPlace := by kernel_rfl
theorem xX : Program.unfollowed Tryz.checked.prog 7 = Rows.storePowerUptoRow.unfollowed := by kernel_rfl
theorem N1 : Program.recurses Tryz.checked.prog 7 = Rows.storePowerUptoRow.recurses := by
 unfold Program.recurses
 rw [xX]
 first | rfl | kernel_rfl
theorem JE : Program.varsNamed Tryz.checked.prog 7 = Rows.storePowerUptoRow.named := by kernel_rfl
theorem ZL : joinedFacts Tryz.checked.prog 7 Tryz.f7 (Rows.OpenSpec.upto Rows.storePowerSpec).bare Rows.storePowerUptoRow = true := by
 unfold joinedFacts
 rw [show laidOutB Tryz.checked.prog = true from MD, SA, xX, N1, JE]
 kernel_rfl
theorem kY : Rows.storePowerUptoRow.holds Tryz.pinned (Rows.OpenSpec.upto Rows.storePowerSpec) :=
 OpenClaim.holds_of_cond 7 Tryz.f7 rfl rfl rfl rfl rfl rfl rfl ⟨rfl, rfl, rfl, rfl, rfl⟩ rfl rfl rfl rfl rfl (by kernel_rfl) Tryz.func7 ZL
  (of_decide_eq_true (by kernel_rfl)) (by unfold Func.isWrapper; first | (rw [if_pos (by decide +kernel)]; kernel_rfl) | (rw [if_neg (by decide +kernel)]; exact ⟨rfl, rfl⟩))
  (fun os started H enc _ F => by rw [OpenClaim.pre_eq_preRow]; exact XY os started H enc F)
theorem plain (f : FuncId) (fn : Func) (hf : Tryz.pinned.checked.prog.funcNamed "planisphere/planispherelaw47.StorePower" = some f) (hfn : Tryz.pinned.checked.prog.funcs[f]? = some fn) :
  true = Tryz.pinned.checked.prog.looks [] ∧ ∀ (j : Nat) t, fn.params[j]? = some t → Tryz.pinned.checked.prog.wantsStandIn t = false := by
 obtain rfl : f = 7 := Option.some.inj ((show Tryz.prog.funcNamed "planisphere/planispherelaw47.StorePower" = some 7 by kernel_rfl).symm.trans hf) |>.symm
 obtain rfl : fn = Tryz.f7 := (Option.some.inj (Tryz.func7.symm.trans hfn)).symm
 refine ⟨by kernel_rfl, fun j t ht => ?_⟩
 rw [Tryz.params7] at ht
 have ht2 := Array.mem_of_getElem? ht
 simp only [List.mem_toArray, List.mem_cons, List.not_mem_nil, or_false] at ht2
 rcases ht2 with rfl | rfl
 ·exact (show Tryz.prog.wantsStandIn 5 = false by kernel_rfl)
 exact (show Tryz.prog.wantsStandIn 22 = false by kernel_rfl)
theorem OR {P : Program} (h : P.funcs.any Func.goes = false) (f : FuncId) : P.goes f = false := by
 have h1 : ∀ g : FuncId, (P.funcs[g]?).any Func.goes = false := fun g => by
  cases e : P.funcs[g]? with
  | none => rfl
  | some fn =>
   obtain ⟨i, hi⟩ := Array.getElem?_eq_some_iff.1 e
   have := Array.any_eq_false.1 h g i
   rw [hi] at this
   simpa using this
 rw [Program.goes, h, Bool.and_false, Bool.or_false, List.any_eq_false]
 intro g _
 rw [h1]
 decide
theorem VC : Tryz.pinned.checked.prog.funcs.any Func.goes = false := by kernel_rfl
theorem OS {P : Program} {c : OpenClaim} (hs : c.start = .entering) (h : P.funcs.any Func.goes = false) : false = c.goesBy P := by
 have h2 : (P.funcNamed c.func).any P.goes = false := by
  cases P.funcNamed c.func with
  | none => rfl
  | some f => exact OR h f
 unfold OpenClaim.goesBy Program.goesAt Program.goesFrom
 rw [h2, hs]
 rfl
theorem O8 : false = Rows.storePowerUptoRow.goesBy Tryz.pinned.checked.prog := OS rfl VC
theorem WH : Rows.storePowerUptoRow.wfByText (Rows.OpenSpec.upto Rows.storePowerSpec) = true := by kernel_rfl
theorem O7 : Tryz.pinned.checked.prog.mainIs = some (Rows.storePowerUptoCard.stood.harness.1, Rows.storePowerUptoCard.stood.harness.2.toList) := by kernel_rfl
theorem card : Rows.StorePowerUptoCardSaid :=
 Claim7.holds_tied_plain_at .later [] _ _ _ _ kY (fun _ h => by cases h) WH (fun _ h => by cases h) storePowerUpto_row_tie rfl ⟨rfl, rfl⟩ O7 rfl plain O8
end cs6
theorem storePower_holds : Rows.StorePowerUptoCardSaid := cs6.card
end Go.Proofs.YtmkgeogoojcciaaGreatDoor
