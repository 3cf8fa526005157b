/-
 PROVED: planispherelaw47.StoreMatchesReference returns true, for all arguments of bulk at most 1048576; the arguments read behind the call as before. Conditions: that bound alone (the statement's own).
-/
import Derived.Test.YtmkgeogoojcciaaGreatDoorKS7M13
import Derived.Test.YtmkgeogoojcciaaGreatDoorCards
import Derived.Test.YtmkgeogoojcciaaGreatDoorTie
import Derived.WalkKit
import Derived.ProofKit
import Derived.OpenShut
import Derived.Deep.DeepHandedRow
import Derived.Lib.LaidTab
import Derived.Stop.LaidErr
import Derived.Stop.ErrReads
set_option linter.unusedVariables false
set_option linter.unusedSimpArgs false
set_option maxRecDepth 100000
namespace Go.Proofs.YtmkgeogoojcciaaGreatDoor
open Go.Abs Go.ChangeShapes Go.WideShapes Go.ChangeAt Go.RowKit
namespace cs7
theorem ON : "*" ++ "errors.errorString" = "*errors.errorString" := by decide
theorem UH (u : TypeId) (h : Tryz.prog.typeName? 3 u = some "*errors.errorString") : u = 220 :=
 typeName_ptr_named (nm := "errors.errorString") (by rw [ON]; kernel_rfl) (by kernel_rfl) (by decide) u (by rw [ON]; exact h)
theorem aGv {W : World} (h : laidMet Tryz.prog Rows.storeMatchesReferenceUptoRow.laid W) : H8 (V4 W) W := by
 intro p hp
 simp only [M6, List.mem_cons, List.not_mem_nil, or_false] at hp
 rcases hp with rfl | rfl | rfl
 ·have h1 : Lib.TabIs Tryz.prog W "internal/strconv.uint64pow10" .u64 [1, 10, 100, 1000, 10000, 100000, 1000000, 10000000, 100000000, 1000000000, 10000000000, 100000000000, 1000000000000, 10000000000000, 100000000000000, 1000000000000000, 10000000000000000, 100000000000000000, 1000000000000000000, 10000000000000000000] := Lib.tabIs_of_head (rest := Rows.storeMatchesReferenceUptoRow.laid.drop 3) (g := 3) (t := 229) (e := 93) (by kernel_rfl) (by kernel_rfl) Tryz.underlying229 Tryz.underlying93 (by kernel_rfl) (by kernel_rfl) h.tail.tail
  unfold Lib.TabIs at h1
  unfold World.var? at h1
  rw [show Tryz.prog.globalNamed "internal/strconv.uint64pow10" = some 3 by kernel_rfl] at h1
  simp only [Option.bind_some] at h1
  split at h1
  ·rename_i cs t f hh
   exact ⟨(Array.getElem?_eq_some_iff.1 hh).1, cs, t, f, hh, Option.some.inj h1⟩
  cases h1
 ·obtain ⟨a, s, h1, _⟩ := laid_sentinel (g := 1) h.tail.tail.tail (by kernel_rfl) (by kernel_rfl) Tryz.underlying132 UH Tryz.underlying220 Tryz.underlying222 rfl rfl Tryz.underlying9 (by kernel_rfl) (by kernel_rfl)
  unfold World.var? at h1
  rw [show Tryz.prog.globalNamed "strconv.ErrRange" = some 1 by kernel_rfl] at h1
  simp only [Option.bind_some] at h1
  split at h1
  ·rename_i cs t f hh
   exact ⟨(Array.getElem?_eq_some_iff.1 hh).1, cs, t, f, hh, ⟨_, _, Option.some.inj h1⟩⟩
  cases h1
 obtain ⟨a, s, h1, _⟩ := laid_sentinel (g := 0) h.tail.tail.tail.tail (by kernel_rfl) (by kernel_rfl) Tryz.underlying132 UH Tryz.underlying220 Tryz.underlying222 rfl rfl Tryz.underlying9 (by kernel_rfl) (by kernel_rfl)
 unfold World.var? at h1
 rw [show Tryz.prog.globalNamed "strconv.ErrSyntax" = some 0 by kernel_rfl] at h1
 simp only [Option.bind_some] at h1
 split at h1
 ·rename_i cs t f hh
  exact ⟨(Array.getElem?_eq_some_iff.1 hh).1, cs, t, f, hh, ⟨_, _, Option.some.inj h1⟩⟩
 cases h1
theorem aBb (H : Type) (enc : TypeId × Value → H) (W : World) (base : Nat) (args : Array Value) (ds gs : List (DataW H)) (lQ : List MemPlace)
  (hval : ∀ (j : Nat) t v, Tryz.f8.params[j]? = some t → args[j]? = some v → Value.okWide Tryz.prog W .any base t v)
  (hW : DataW.Whole enc Tryz.prog Tryz.f8.params.toList Rows.storeMatchesReferenceSpec.vars false W args.toList ds gs lQ) (hk : Rows.uptoSmall H (ds ++ gs) = true) (hL : laidMetH Tryz.prog Rows.storeMatchesReferenceUptoRow.laid W) :
  Calls Tryz.prog 8 args W fun e W' => ∃ v, e = .returned v ∧ Rows.storeMatchesReferenceSpec.post enc Tryz.prog Tryz.f8 false true false false W args v W' := by
 refine aAz (n := 12) (B := 1048576) (bt := 4) U8 (by kernel_rfl) (by kernel_rfl) rfl ?_ (by kernel_rfl) Tryz.underlying4 hval hW (YN (RK hk)) ?_ (aGv hL)
 ·intro ds hl
  rw [Tryz.params8] at hl
  match ds, hl with
  | [d1, d2], _ => exact ⟨rfl, rfl, rfl⟩
 rw [Tryz.params8]
 intro pss h
 obtain ⟨p1, _, rfl, q1, h⟩ := FS h
 obtain ⟨p2, _, rfl, q2, h⟩ := FS h
 obtain rfl := WK h
 obtain ⟨x1, rfl, h1⟩ := aGP q1
 obtain ⟨x2, rfl, h2⟩ := aGN q2
 have e : EE Tryz.prog [3, 22] [[.int .i64 x1], [oQ x2]] = [iv x1, .pv (oQ x2)] := by
  simp only [EE, VY, Tryz.underlying22, Tryz.underlying3, List.map_cons, List.map_nil]
 show aK Tryz.prog _ (EE Tryz.prog [3, 22] [[.int .i64 x1], [oQ x2]]) [] _
 rw [e]
 exact SW (fun H => aBO H) x1 x2 h2.len h2.ok h2.ka
def pW (h : Array Obj) (g : Nat) (cs : Array Value) : Array Obj := h.modify g fun
 | .cells _ t frozen => .cells cs t frozen
 | o => o
noncomputable def DD (os : Os) : World :=
 let N := (World.settled Tryz.prog os).heap.size
 let w0 := World.holding Tryz.prog os ⟨#[.cells #[.string ⟨#[118, 97, 108, 117, 101, 32, 111, 117, 116, 32, 111, 102, 32, 114, 97, 110, 103, 101]⟩] 222, .cells #[.string ⟨#[105, 110, 118, 97, 108, 105, 100, 32, 115, 121, 110, 116, 97, 120]⟩] 222], #[], []⟩
 { w0 with heap := pW (pW (pW (pW (pW (w0.heap) 4 (#[.int .u8 0, .int .u8 1, .int .u8 28, .int .u8 2, .int .u8 29, .int .u8 14, .int .u8 24, .int .u8 3, .int .u8 30, .int .u8 22, .int .u8 20, .int .u8 15, .int .u8 25, .int .u8 17, .int .u8 4, .int .u8 8, .int .u8 31, .int .u8 27, .int .u8 13, .int .u8 23, .int .u8 21, .int .u8 19, .int .u8 16, .int .u8 7, .int .u8 26, .int .u8 12, .int .u8 18, .int .u8 6, .int .u8 11, .int .u8 5, .int .u8 10, .int .u8 9])) 5 (#[.int .u8 0, .int .u8 1, .int .u8 56, .int .u8 2, .int .u8 57, .int .u8 49, .int .u8 28, .int .u8 3, .int .u8 61, .int .u8 58, .int .u8 42, .int .u8 50, .int .u8 38, .int .u8 29, .int .u8 17, .int .u8 4, .int .u8 62, .int .u8 47, .int .u8 59, .int .u8 36, .int .u8 45, .int .u8 43, .int .u8 51, .int .u8 22, .int .u8 53, .int .u8 39, .int .u8 33, .int .u8 30, .int .u8 24, .int .u8 18, .int .u8 12, .int .u8 5, .int .u8 63, .int .u8 55, .int .u8 48, .int .u8 27, .int .u8 60, .int .u8 41, .int .u8 37, .int .u8 16, .int .u8 46, .int .u8 35, .int .u8 44, .int .u8 21, .int .u8 52, .int .u8 32, .int .u8 23, .int .u8 11, .int .u8 54, .int .u8 26, .int .u8 40, .int .u8 15, .int .u8 34, .int .u8 20, .int .u8 31, .int .u8 10, .int .u8 25, .int .u8 14, .int .u8 19, .int .u8 9, .int .u8 13, .int .u8 8, .int .u8 7, .int .u8 6])) 3 (#[.int .u64 1, .int .u64 10, .int .u64 100, .int .u64 1000, .int .u64 10000, .int .u64 100000, .int .u64 1000000, .int .u64 10000000, .int .u64 100000000, .int .u64 1000000000, .int .u64 10000000000, .int .u64 100000000000, .int .u64 1000000000000, .int .u64 10000000000000, .int .u64 100000000000000, .int .u64 1000000000000000, .int .u64 10000000000000000, .int .u64 100000000000000000, .int .u64 1000000000000000000, .int .u64 10000000000000000000])) 1 (#[.iface 220 (.pointer (some ⟨N + 0, 0, none⟩))])) 0 (#[.iface 220 (.pointer (some ⟨N + 1, 0, none⟩))]) }
theorem aBA (os : Os) : laidMet Tryz.prog Rows.storeMatchesReferenceUptoRow.laid ((DD os).forCall (fun _ _ => 0) ⟨#[], #[.int .i64 0, .slice none 0 0], []⟩).memory :=
 laidMet_of_run' 10 (by kernel_rfl) (by kernel_rfl)
theorem aFw (os : Os) {H : Type} (enc : TypeId × Value → H) : ∃ places, DataW.whole enc Tryz.prog ((DD os).forCall (fun _ _ => 0) ⟨#[], #[.int .i64 0, .slice none 0 0], []⟩).memory Tryz.f8.params.toList Rows.storeMatchesReferenceSpec.vars false (#[.int .i64 0, .slice none 0 0] : Array Value).toList 8 = some ([.lit (.int .i64 0), .nil], [], places) :=
 ⟨[], by kernel_rfl⟩
theorem aFK (os : Os) (started : os.Started) (H : Type) (enc : TypeId × Value → H) (F : Stop.Interp) :
  ReturnsInHanded {} Tryz.checked os 8 .any ((Rows.OpenSpec.upto Rows.storeMatchesReferenceSpec).preRow enc Tryz.prog Tryz.f8 Rows.storeMatchesReferenceUptoRow.domain false Rows.storeMatchesReferenceUptoRow.laid) (((Rows.OpenSpec.upto Rows.storeMatchesReferenceSpec).at F).post enc Tryz.prog Tryz.f8 false true false false) := by
 obtain ⟨places, hx⟩ := aFw os enc
 refine returnsInHanded_of_row (C := Tryz.checked) (s := Rows.OpenSpec.upto Rows.storeMatchesReferenceSpec) own started (by kernel_rfl) Tryz.func8
  (witness_row_at (enc := enc) (C := Tryz.checked) false (DD os) #[.int .i64 0, .slice none 0 0] rfl (by kernel_rfl) (by kernel_rfl) (by kernel_rfl)
   (OpenSpec.preRow_of_cond 8 hx (by kernel_rfl) (fun k hk => by cases hk; kernel_rfl) (by kernel_rfl) (aBA os))) ?_
 intro W base args ds gs lQ hval hW _ hk _ hL _ _
 exact aBb H enc W base args ds gs lQ hval hW (hk _ rfl) hL
theorem aBH : Program.inPlace Tryz.checked.prog 8 = Rows.storeMatchesReferenceUptoRow.inPlace := by kernel_rfl
theorem DS : Program.unfollowed Tryz.checked.prog 8 = Rows.storeMatchesReferenceUptoRow.unfollowed := by kernel_rfl
theorem WU : Program.recurses Tryz.checked.prog 8 = Rows.storeMatchesReferenceUptoRow.recurses := by
 unfold Program.recurses
 rw [DS]
 rfl
theorem RJ : Program.varsNamed Tryz.checked.prog 8 = Rows.storeMatchesReferenceUptoRow.named := by kernel_rfl
theorem aGJ : joinedFacts Tryz.checked.prog 8 Tryz.f8 (Rows.OpenSpec.upto Rows.storeMatchesReferenceSpec).bare Rows.storeMatchesReferenceUptoRow = true := by
 unfold joinedFacts
 rw [show laidOutB Tryz.checked.prog = true from U8, aBH, DS, WU, RJ]
 kernel_rfl
theorem tJ : Rows.storeMatchesReferenceUptoRow.holds Tryz.pinned (Rows.OpenSpec.upto Rows.storeMatchesReferenceSpec) :=
 OpenClaim.holds_of_cond 8 Tryz.f8 rfl rfl rfl rfl rfl rfl rfl ⟨rfl, rfl, rfl, rfl, rfl⟩ rfl rfl rfl rfl rfl (by kernel_rfl) Tryz.func8 aGJ
  (of_decide_eq_true (by kernel_rfl)) (by unfold Func.isWrapper; (rw [if_neg (by decide +kernel)]; exact ⟨rfl, rfl⟩))
  (fun os started H enc _ F => by rw [OpenClaim.pre_eq_preRow]; exact aFK os started H enc F)
theorem plain (f : FuncId) (fn : Func) (hf : Tryz.pinned.checked.prog.funcNamed "planisphere/planispherelaw47.StoreMatchesReference" = some f) (hfn : Tryz.pinned.checked.prog.funcs[f]? = some fn) :
  true = Tryz.pinned.checked.prog.looks [] ∧ ∀ (j : Nat) t, fn.params[j]? = some t → Tryz.pinned.checked.prog.wantsStandIn t = false := by
 obtain rfl : f = 8 := Option.some.inj ((show Tryz.prog.funcNamed "planisphere/planispherelaw47.StoreMatchesReference" = some 8 by kernel_rfl).symm.trans hf) |>.symm
 obtain rfl : fn = Tryz.f8 := (Option.some.inj (Tryz.func8.symm.trans hfn)).symm
 refine ⟨by kernel_rfl, fun j t ht => ?_⟩
 rw [Tryz.params8] at ht
 have ht2 := Array.mem_of_getElem? ht
 simp only [List.mem_toArray, List.mem_cons, List.not_mem_nil, or_false] at ht2
 rcases ht2 with rfl | rfl
 ·exact (show Tryz.prog.wantsStandIn 3 = false by kernel_rfl)
 exact (show Tryz.prog.wantsStandIn 22 = false by kernel_rfl)
theorem XW {P : Program} (h : P.funcs.any Func.goes = false) (f : FuncId) : P.goes f = false := by
 have h1 : ∀ g : FuncId, (P.funcs[g]?).any Func.goes = false := fun g => by
  cases e : P.funcs[g]? with
  | none => rfl
  | some fn =>
   obtain ⟨i, hi⟩ := Array.getElem?_eq_some_iff.1 e
   have := Array.any_eq_false.1 h g i
   rw [hi] at this
   simpa using this
 rw [Program.goes, h, Bool.and_false, Bool.or_false, List.any_eq_false]
 intro g _
 rw [h1]
 decide
theorem aDW : Tryz.pinned.checked.prog.funcs.any Func.goes = false := by kernel_rfl
theorem XX {P : Program} {c : OpenClaim} (hs : c.start = .entering) (h : P.funcs.any Func.goes = false) : false = c.goesBy P := by
 have h2 : (P.funcNamed c.func).any P.goes = false := by
  cases P.funcNamed c.func with
  | none => rfl
  | some f => exact XW h f
 unfold OpenClaim.goesBy Program.goesAt Program.goesFrom
 rw [h2, hs]
 rfl
theorem YJ : false = Rows.storeMatchesReferenceUptoRow.goesBy Tryz.pinned.checked.prog := XX rfl aDW
theorem aEI : Rows.storeMatchesReferenceUptoRow.wfByText (Rows.OpenSpec.upto Rows.storeMatchesReferenceSpec) = true := by kernel_rfl
theorem YI : Tryz.pinned.checked.prog.mainIs = some (Rows.storeMatchesReferenceUptoCard.stood.harness.1, Rows.storeMatchesReferenceUptoCard.stood.harness.2.toList) := by kernel_rfl
theorem card : Rows.StoreMatchesReferenceUptoCardSaid :=
 Claim7.holds_tied_plain_at .later [] _ _ _ _ tJ (fun _ h => by cases h) aEI (fun _ h => by cases h) storeMatchesReferenceUpto_row_tie rfl ⟨rfl, rfl⟩ YI rfl plain YJ
end cs7
theorem storeMatchesReference_holds : Rows.StoreMatchesReferenceUptoCardSaid := cs7.card
end Go.Proofs.YtmkgeogoojcciaaGreatDoor
