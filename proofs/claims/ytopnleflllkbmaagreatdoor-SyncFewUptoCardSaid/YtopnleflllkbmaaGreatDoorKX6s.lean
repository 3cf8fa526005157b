/-
 PROVED: planispherelaw53.SyncFew returns true, for all arguments of bulk at most 1048576; the arguments read behind the call as before. Conditions: that bound alone (the statement's own).
-/
import Derived.Test.YtopnleflllkbmaaGreatDoorKX6sM9
import Derived.Test.YtopnleflllkbmaaGreatDoorCards
import Derived.Test.YtopnleflllkbmaaGreatDoorTie
import Derived.WalkKit
import Derived.ProofKit
import Derived.OpenShut
import Derived.Deep.DeepHandedRow
import Derived.Lib.LaidTab
import Derived.Stop.LaidErr
import Derived.Stop.ErrReads
set_option linter.unusedVariables false
set_option linter.unusedSimpArgs false
set_option maxRecDepth 100000
open Go.Proofs.C
namespace Go.Proofs.YtopnleflllkbmaaGreatDoor
open Go.Abs Go.ChangeShapes Go.WideShapes Go.ChangeAt Go.RowKit
namespace cx6
theorem fj : "*" ++ "errors.errorString" = "*errors.errorString" := by decide
theorem wo (u : TypeId) (h : Tryz.prog.typeName? 3 u = some "*errors.errorString") : u = 309 :=
 typeName_ptr_named (nm := "errors.errorString") (by rw [fj]; kernel_rfl) (by kernel_rfl) E_ u (by rw [fj]; exact h)
theorem aFx {W : World} (h : laidMet Tryz.prog Rows.syncFewUptoRow.laid W) : VG (Ao W) W := by
 intro p hp
 simp only [kh, List.mem_cons, List.not_mem_nil, or_false] at hp
 rcases hp with rfl | rfl | rfl
 ·have h1 : Lib.TabIs Tryz.prog W "internal/strconv.uint64pow10" .u64 [1, 10, 100, 1000, 10000, 100000, 1000000, 10000000, 100000000, 1000000000, 10000000000, 100000000000, 1000000000000, 10000000000000, 100000000000000, 1000000000000000, 10000000000000000, 100000000000000000, 1000000000000000000, 10000000000000000000] := Lib.tabIs_of_head (rest := Rows.syncFewUptoRow.laid.drop 3) (g := 2) (t := 286) (e := 169) (by kernel_rfl) (by kernel_rfl) Tryz.underlying286 Tryz.underlying169 (by kernel_rfl) (by kernel_rfl) h.tail.tail
  unfold Lib.TabIs at h1
  unfold World.var? at h1
  rw [show Tryz.prog.globalNamed "internal/strconv.uint64pow10" = some 2 by kernel_rfl] at h1
  simp only [Option.bind_some] at h1
  split at h1
  ·rename_i cs t f hh
   exact ⟨(Array.getElem?_eq_some_iff.1 hh).1, cs, t, f, hh, Option.some.inj h1⟩
  cases h1
 ·obtain ⟨a, s, h1, _⟩ := laid_sentinel (g := 5) h.tail.tail.tail.tail (by kernel_rfl) (by kernel_rfl) Tryz.underlying163 wo Tryz.underlying309 Tryz.underlying311 rfl rfl Tryz.underlying9 (by kernel_rfl) (by kernel_rfl)
  unfold World.var? at h1
  rw [show Tryz.prog.globalNamed "strconv.ErrRange" = some 5 by kernel_rfl] at h1
  simp only [Option.bind_some] at h1
  split at h1
  ·rename_i cs t f hh
   exact ⟨(Array.getElem?_eq_some_iff.1 hh).1, cs, t, f, hh, ⟨_, _, Option.some.inj h1⟩⟩
  cases h1
 obtain ⟨a, s, h1, _⟩ := laid_sentinel (g := 4) h.tail.tail.tail.tail.tail (by kernel_rfl) (by kernel_rfl) Tryz.underlying163 wo Tryz.underlying309 Tryz.underlying311 rfl rfl Tryz.underlying9 (by kernel_rfl) (by kernel_rfl)
 unfold World.var? at h1
 rw [show Tryz.prog.globalNamed "strconv.ErrSyntax" = some 4 by kernel_rfl] at h1
 simp only [Option.bind_some] at h1
 split at h1
 ·rename_i cs t f hh
  exact ⟨(Array.getElem?_eq_some_iff.1 hh).1, cs, t, f, hh, ⟨_, _, Option.some.inj h1⟩⟩
 cases h1
theorem Px (H : Type) (enc : TypeId × Value → H) (W : World) (base : Nat) (args : Array Value) (ds gs : List (DataW H)) (kW : List MemPlace)
  (hval : ∀ (j : Nat) t v, Tryz.f6.params[j]? = some t → args[j]? = some v → Value.okWide Tryz.prog W .any base t v)
  (hW : DataW.Whole enc Tryz.prog Tryz.f6.params.toList Rows.syncFewSpec.vars false W args.toList ds gs kW) (hk : Rows.uptoSmall H (ds ++ gs) = true) (hL : laidMetH Tryz.prog Rows.syncFewUptoRow.laid W) :
  Calls Tryz.prog 6 args W fun e W' => ∃ v, e = .returned v ∧ Rows.syncFewSpec.post enc Tryz.prog Tryz.f6 false true false false W args v W' := by
 refine Nv (n := 12) (B := 1048576) (J := 4) yl (by kernel_rfl) (by kernel_rfl) rfl ?_ (by kernel_rfl) Tryz.underlying4 hval hW (Fi (oe hk)) ?_ (aFx hL)
 ·intro ds hl
  rw [Tryz.params6] at hl
  match ds, hl with
  | [d1, d2, d3], _ => exact ⟨rfl, rfl, rfl⟩
 rw [Tryz.params6]
 intro pss h
 obtain ⟨p1, _, rfl, q1, h⟩ := IP h
 obtain ⟨p2, _, rfl, q2, h⟩ := IP h
 obtain ⟨p3, _, rfl, q3, h⟩ := IP h
 obtain rfl := Cb h
 obtain ⟨x1, rfl, h1⟩ := aC2 q1
 obtain ⟨x2, rfl, h2, h2b⟩ := aFy q2
 obtain ⟨x3, rfl, h3⟩ := aC3 q3
 have e : O2 Tryz.prog [22, 5, 4] [[aK x1], [.int .u8 x2], [.bool x3]] = [.pv (aK x1), .pv (.int .u8 x2), .pv (.bool x3)] := by
  simp only [O2, Ai, Tryz.underlying22, Tryz.underlying4, Tryz.underlying5, List.map_cons, List.map_nil]
 show aU Tryz.prog _ (O2 Tryz.prog [22, 5, 4] [[aK x1], [.int .u8 x2], [.bool x3]]) [] _
 rw [e]
 exact ot x1 x2 x3 h2 h2b [] h1.1 h1.2
def qa (h : Array Obj) (g : Nat) (cs : Array Value) : Array Obj := h.modify g fun
 | .cells _ t frozen => .cells cs t frozen
 | o => o
noncomputable def NP (os : Os) : World :=
 let r4 := (World.settled Tryz.prog os).heap.size
 let w0 := World.holding Tryz.prog os ⟨#[.cells #[.string ⟨#[118, 97, 108, 117, 101, 32, 111, 117, 116, 32, 111, 102, 32, 114, 97, 110, 103, 101]⟩] 311, .cells #[.string ⟨#[105, 110, 118, 97, 108, 105, 100, 32, 115, 121, 110, 116, 97, 120]⟩] 311], #[], []⟩
 { w0 with heap := qa (qa (qa (qa (qa (qa (qa (w0.heap) 6 (#[.int .u8 0, .int .u8 1, .int .u8 28, .int .u8 2, .int .u8 29, .int .u8 14, .int .u8 24, .int .u8 3, .int .u8 30, .int .u8 22, .int .u8 20, .int .u8 15, .int .u8 25, .int .u8 17, .int .u8 4, .int .u8 8, .int .u8 31, .int .u8 27, .int .u8 13, .int .u8 23, .int .u8 21, .int .u8 19, .int .u8 16, .int .u8 7, .int .u8 26, .int .u8 12, .int .u8 18, .int .u8 6, .int .u8 11, .int .u8 5, .int .u8 10, .int .u8 9])) 7 (#[.int .u8 0, .int .u8 1, .int .u8 56, .int .u8 2, .int .u8 57, .int .u8 49, .int .u8 28, .int .u8 3, .int .u8 61, .int .u8 58, .int .u8 42, .int .u8 50, .int .u8 38, .int .u8 29, .int .u8 17, .int .u8 4, .int .u8 62, .int .u8 47, .int .u8 59, .int .u8 36, .int .u8 45, .int .u8 43, .int .u8 51, .int .u8 22, .int .u8 53, .int .u8 39, .int .u8 33, .int .u8 30, .int .u8 24, .int .u8 18, .int .u8 12, .int .u8 5, .int .u8 63, .int .u8 55, .int .u8 48, .int .u8 27, .int .u8 60, .int .u8 41, .int .u8 37, .int .u8 16, .int .u8 46, .int .u8 35, .int .u8 44, .int .u8 21, .int .u8 52, .int .u8 32, .int .u8 23, .int .u8 11, .int .u8 54, .int .u8 26, .int .u8 40, .int .u8 15, .int .u8 34, .int .u8 20, .int .u8 31, .int .u8 10, .int .u8 25, .int .u8 14, .int .u8 19, .int .u8 9, .int .u8 13, .int .u8 8, .int .u8 7, .int .u8 6])) 2 (#[.int .u64 1, .int .u64 10, .int .u64 100, .int .u64 1000, .int .u64 10000, .int .u64 100000, .int .u64 1000000, .int .u64 10000000, .int .u64 100000000, .int .u64 1000000000, .int .u64 10000000000, .int .u64 100000000000, .int .u64 1000000000000, .int .u64 10000000000000, .int .u64 100000000000000, .int .u64 1000000000000000, .int .u64 10000000000000000, .int .u64 100000000000000000, .int .u64 1000000000000000000, .int .u64 10000000000000000000])) 1 (#[.int .u8 128, .int .u8 191, .int .u8 160, .int .u8 191, .int .u8 128, .int .u8 159, .int .u8 144, .int .u8 191, .int .u8 128, .int .u8 143, .int .u8 0, .int .u8 0, .int .u8 0, .int .u8 0, .int .u8 0, .int .u8 0, .int .u8 0, .int .u8 0, .int .u8 0, .int .u8 0, .int .u8 0, .int .u8 0, .int .u8 0, .int .u8 0, .int .u8 0, .int .u8 0, .int .u8 0, .int .u8 0, .int .u8 0, .int .u8 0, .int .u8 0, .int .u8 0])) 5 (#[.iface 309 (.pointer (some ⟨r4 + 0, 0, none⟩))])) 4 (#[.iface 309 (.pointer (some ⟨r4 + 1, 0, none⟩))])) 0 ((Go.Pinned.utf8FirstZ.map fun (z : Nat) => Value.int .u8 (z : Int)).toArray) }
theorem Nw (os : Os) : laidMet Tryz.prog Rows.syncFewUptoRow.laid ((NP os).forCall (fun _ _ => 0) ⟨#[], #[.slice none 0 0, .int .u8 0, .bool false], []⟩).memory :=
 laidMet_of_run' 10 (by kernel_rfl) (by kernel_rfl)
theorem aDg (os : Os) {H : Type} (enc : TypeId × Value → H) : ∃ places, DataW.whole enc Tryz.prog ((NP os).forCall (fun _ _ => 0) ⟨#[], #[.slice none 0 0, .int .u8 0, .bool false], []⟩).memory Tryz.f6.params.toList Rows.syncFewSpec.vars false (#[.slice none 0 0, .int .u8 0, .bool false] : Array Value).toList 8 = some ([.nil, .lit (.int .u8 0), .lit (.bool false)], [], places) :=
 ⟨[], by kernel_rfl⟩
theorem aBz (os : Os) (started : os.Started) (H : Type) (enc : TypeId × Value → H) (F : Stop.Interp) :
  ReturnsInHanded {} Tryz.checked os 6 .any ((Rows.OpenSpec.upto Rows.syncFewSpec).preRow enc Tryz.prog Tryz.f6 Rows.syncFewUptoRow.domain false Rows.syncFewUptoRow.laid) (((Rows.OpenSpec.upto Rows.syncFewSpec).at F).post enc Tryz.prog Tryz.f6 false true false false) := by
 obtain ⟨places, hx⟩ := aDg os enc
 refine returnsInHanded_of_row (C := Tryz.checked) (s := Rows.OpenSpec.upto Rows.syncFewSpec) own started (by kernel_rfl) Tryz.func6
  (witness_row_at (enc := enc) (C := Tryz.checked) false (NP os) #[.slice none 0 0, .int .u8 0, .bool false] rfl (by kernel_rfl) (by kernel_rfl) (by kernel_rfl)
   (OpenSpec.preRow_of_cond 8 hx (by kernel_rfl) (fun k hk => by cases hk; kernel_rfl) (by kernel_rfl) (Nw os))) ?_
 intro W base args ds gs kW hval hW _ hk _ hL _ _
 exact Px H enc W base args ds gs kW hval hW (hk _ rfl) hL
theorem Ol : Program.inPlace Tryz.checked.prog 6 = Rows.syncFewUptoRow.inPlace := by kernel_rfl
theorem OH : Program.unfollowed Tryz.checked.prog 6 = Rows.syncFewUptoRow.unfollowed := by kernel_rfl
theorem Ck : Program.recurses Tryz.checked.prog 6 = Rows.syncFewUptoRow.recurses := by
 unfold Program.recurses
 rw [OH]
 rfl
theorem oc : Program.varsNamed Tryz.checked.prog 6 = Rows.syncFewUptoRow.named := by kernel_rfl
theorem aEc : joinedFacts Tryz.checked.prog 6 Tryz.f6 (Rows.OpenSpec.upto Rows.syncFewSpec).bare Rows.syncFewUptoRow = true := by
 unfold joinedFacts
 rw [show laidOutB Tryz.checked.prog = true from yl, Ol, OH, Ck, oc]
 kernel_rfl
theorem aFm : Rows.syncFewUptoRow.holds Tryz.pinned (Rows.OpenSpec.upto Rows.syncFewSpec) :=
 OpenClaim.holds_of_cond 6 Tryz.f6 rfl rfl rfl rfl rfl rfl rfl ⟨rfl, rfl, rfl, rfl, rfl⟩ rfl rfl rfl rfl rfl (by kernel_rfl) Tryz.func6 aEc
  (of_decide_eq_true (by kernel_rfl)) (by unfold Func.isWrapper; (rw [if_neg (by decide +kernel)]; exact ⟨rfl, rfl⟩))
  (fun os started H enc _ F => by rw [OpenClaim.pre_eq_preRow]; exact aBz os started H enc F)
theorem plain (f : FuncId) (fn : Func) (hf : Tryz.pinned.checked.prog.funcNamed "planisphere/planispherelaw53.SyncFew" = some f) (hfn : Tryz.pinned.checked.prog.funcs[f]? = some fn) :
  true = Tryz.pinned.checked.prog.looks [] ∧ ∀ (j : Nat) t, fn.params[j]? = some t → Tryz.pinned.checked.prog.wantsStandIn t = false := by
 obtain rfl : f = 6 := Option.some.inj ((show Tryz.prog.funcNamed "planisphere/planispherelaw53.SyncFew" = some 6 by kernel_rfl).symm.trans hf) |>.symm
 obtain rfl : fn = Tryz.f6 := (Option.some.inj (Tryz.func6.symm.trans hfn)).symm
 refine ⟨by kernel_rfl, fun j t ht => ?_⟩
 rw [Tryz.params6] at ht
 have ht2 := Array.mem_of_getElem? ht
 simp only [List.mem_toArray, List.mem_cons, List.not_mem_nil, or_false] at ht2
 rcases ht2 with rfl | rfl | rfl
 ·exact (show Tryz.prog.wantsStandIn 22 = false by kernel_rfl)
 ·exact (show Tryz.prog.wantsStandIn 5 = false by kernel_rfl)
 exact (show Tryz.prog.wantsStandIn 4 = false by kernel_rfl)
theorem Eg {P : Program} (h : P.funcs.any Func.goes = false) (f : FuncId) : P.goes f = false := by
 have h1 : ∀ g : FuncId, (P.funcs[g]?).any Func.goes = false := fun g => by
  cases e : P.funcs[g]? with
  | none => rfl
  | some fn =>
   obtain ⟨i, hi⟩ := Array.getElem?_eq_some_iff.1 e
   have := Array.any_eq_false.1 h g i
   rw [hi] at this
   simpa using this
 rw [Program.goes, h, Bool.and_false, Bool.or_false, List.any_eq_false]
 intro g _
 rw [h1]
 decide
theorem Xa : Tryz.pinned.checked.prog.funcs.any Func.goes = false := by kernel_rfl
theorem Eh {P : Program} {c : OpenClaim} (hs : c.start = .entering) (h : P.funcs.any Func.goes = false) : false = c.goesBy P := by
 have h2 : (P.funcNamed c.func).any P.goes = false := by
  cases P.funcNamed c.func with
  | none => rfl
  | some f => exact Eg h f
 unfold OpenClaim.goesBy Program.goesAt Program.goesFrom
 rw [h2, hs]
 rfl
theorem Fh : false = Rows.syncFewUptoRow.goesBy Tryz.pinned.checked.prog := Eh rfl Xa
theorem Zj : Rows.syncFewUptoRow.wfByText (Rows.OpenSpec.upto Rows.syncFewSpec) = true := by kernel_rfl
theorem Fg : Tryz.pinned.checked.prog.mainIs = some (Rows.syncFewUptoCard.stood.harness.1, Rows.syncFewUptoCard.stood.harness.2.toList) := by kernel_rfl
theorem card : Rows.SyncFewUptoCardSaid :=
 Claim7.holds_tied_plain_at .later [] _ _ _ _ aFm (fun _ h => by cases h) Zj (fun _ h => by cases h) syncFewUpto_row_tie rfl ⟨rfl, rfl⟩ Fg rfl plain Fh
end cx6
theorem syncFew_holds : Rows.SyncFewUptoCardSaid := cx6.card
end Go.Proofs.YtopnleflllkbmaaGreatDoor
