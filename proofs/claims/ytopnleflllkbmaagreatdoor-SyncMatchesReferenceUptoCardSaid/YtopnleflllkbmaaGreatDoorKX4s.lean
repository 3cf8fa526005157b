/-
 PROVED: planispherelaw53.SyncMatchesReference returns true, for all arguments of bulk at most 1048576; the arguments read behind the call as before. Conditions: that bound alone (the statement's own).
-/
import Derived.Test.YtopnleflllkbmaaGreatDoorKX4sM9
import Derived.Test.YtopnleflllkbmaaGreatDoorCards
import Derived.Test.YtopnleflllkbmaaGreatDoorTie
import Derived.WalkKit
import Derived.ProofKit
import Derived.OpenShut
import Derived.Deep.DeepHandedRow
import Derived.Lib.LaidTab
import Derived.Stop.LaidErr
import Derived.Stop.ErrReads
set_option linter.unusedVariables false
set_option linter.unusedSimpArgs false
set_option maxRecDepth 100000
open Go.Proofs.C
namespace Go.Proofs.YtopnleflllkbmaaGreatDoor
open Go.Abs Go.ChangeShapes Go.WideShapes Go.ChangeAt Go.RowKit
namespace cx4
theorem ev : "*" ++ "errors.errorString" = "*errors.errorString" := by decide
theorem vp (u : TypeId) (h : Tryz.prog.typeName? 3 u = some "*errors.errorString") : u = 309 :=
 typeName_ptr_named (nm := "errors.errorString") (by rw [ev]; kernel_rfl) (by kernel_rfl) E_ u (by rw [ev]; exact h)
theorem aFL {W : World} (h : laidMet Tryz.prog Rows.syncMatchesReferenceUptoRow.laid W) : U8 (zb W) W := by
 intro p hp
 simp only [jr, List.mem_cons, List.not_mem_nil, or_false] at hp
 rcases hp with rfl | rfl | rfl
 ·have h1 : Lib.TabIs Tryz.prog W "internal/strconv.uint64pow10" .u64 [1, 10, 100, 1000, 10000, 100000, 1000000, 10000000, 100000000, 1000000000, 10000000000, 100000000000, 1000000000000, 10000000000000, 100000000000000, 1000000000000000, 10000000000000000, 100000000000000000, 1000000000000000000, 10000000000000000000] := Lib.tabIs_of_head (rest := Rows.syncMatchesReferenceUptoRow.laid.drop 3) (g := 2) (t := 286) (e := 169) (by kernel_rfl) (by kernel_rfl) Tryz.underlying286 Tryz.underlying169 (by kernel_rfl) (by kernel_rfl) h.tail.tail
  unfold Lib.TabIs at h1
  unfold World.var? at h1
  rw [show Tryz.prog.globalNamed "internal/strconv.uint64pow10" = some 2 by kernel_rfl] at h1
  simp only [Option.bind_some] at h1
  split at h1
  ·rename_i cs t f hh
   exact ⟨(Array.getElem?_eq_some_iff.1 hh).1, cs, t, f, hh, Option.some.inj h1⟩
  cases h1
 ·obtain ⟨a, s, h1, _⟩ := laid_sentinel (g := 5) h.tail.tail.tail.tail (by kernel_rfl) (by kernel_rfl) Tryz.underlying163 vp Tryz.underlying309 Tryz.underlying311 rfl rfl Tryz.underlying9 (by kernel_rfl) (by kernel_rfl)
  unfold World.var? at h1
  rw [show Tryz.prog.globalNamed "strconv.ErrRange" = some 5 by kernel_rfl] at h1
  simp only [Option.bind_some] at h1
  split at h1
  ·rename_i cs t f hh
   exact ⟨(Array.getElem?_eq_some_iff.1 hh).1, cs, t, f, hh, ⟨_, _, Option.some.inj h1⟩⟩
  cases h1
 obtain ⟨a, s, h1, _⟩ := laid_sentinel (g := 4) h.tail.tail.tail.tail.tail (by kernel_rfl) (by kernel_rfl) Tryz.underlying163 vp Tryz.underlying309 Tryz.underlying311 rfl rfl Tryz.underlying9 (by kernel_rfl) (by kernel_rfl)
 unfold World.var? at h1
 rw [show Tryz.prog.globalNamed "strconv.ErrSyntax" = some 4 by kernel_rfl] at h1
 simp only [Option.bind_some] at h1
 split at h1
 ·rename_i cs t f hh
  exact ⟨(Array.getElem?_eq_some_iff.1 hh).1, cs, t, f, hh, ⟨_, _, Option.some.inj h1⟩⟩
 cases h1
theorem Nw (H : Type) (enc : TypeId × Value → H) (W : World) (base : Nat) (args : Array Value) (ds gs : List (DataW H)) (kW : List MemPlace)
  (hval : ∀ (j : Nat) t v, Tryz.f3.params[j]? = some t → args[j]? = some v → Value.okWide Tryz.prog W .any base t v)
  (hW : DataW.Whole enc Tryz.prog Tryz.f3.params.toList Rows.syncMatchesReferenceSpec.vars false W args.toList ds gs kW) (hk : Rows.uptoSmall H (ds ++ gs) = true) (hL : laidMetH Tryz.prog Rows.syncMatchesReferenceUptoRow.laid W) :
  Calls Tryz.prog 3 args W fun e W' => ∃ v, e = .returned v ∧ Rows.syncMatchesReferenceSpec.post enc Tryz.prog Tryz.f3 false true false false W args v W' := by
 refine Mf (n := 12) (B := 1048576) (J := 4) xg (by kernel_rfl) (by kernel_rfl) rfl ?_ (by kernel_rfl) Tryz.underlying4 hval hW (Dr (nn hk)) ?_ (aFL hL)
 ·intro ds hl
  rw [Tryz.params3] at hl
  match ds, hl with
  | [d1, d2, d3], _ => exact ⟨rfl, rfl, rfl⟩
 rw [Tryz.params3]
 intro pss h
 obtain ⟨p1, _, rfl, q1, h⟩ := IS h
 obtain ⟨p2, _, rfl, q2, h⟩ := IS h
 obtain ⟨p3, _, rfl, q3, h⟩ := IS h
 obtain rfl := Aq h
 obtain ⟨x1, rfl, h1⟩ := Ns q1
 obtain ⟨x2, rfl, h2⟩ := Ns q2
 obtain ⟨x3, rfl, h3⟩ := aDu q3
 have e : O3 Tryz.prog [22, 22, 9] [[aL x1], [aL x2], [.str x3]] = [.pv (aL x1), .pv (aL x2), sv x3] := by
  simp only [O3, yw, Tryz.underlying22, Tryz.underlying9, List.map_cons, List.map_nil]
 show aW Tryz.prog _ (O3 Tryz.prog [22, 22, 9] [[aL x1], [aL x2], [.str x3]]) [] _
 rw [e]
 exact VE x1 x2 x3 [] h1.1 h1.2 h2.1 h2.2 h3
def pd (h : Array Obj) (g : Nat) (cs : Array Value) : Array Obj := h.modify g fun
 | .cells _ t frozen => .cells cs t frozen
 | o => o
noncomputable def NQ (os : Os) : World :=
 let m4 := (World.settled Tryz.prog os).heap.size
 let w0 := World.holding Tryz.prog os ⟨#[.cells #[.string ⟨#[118, 97, 108, 117, 101, 32, 111, 117, 116, 32, 111, 102, 32, 114, 97, 110, 103, 101]⟩] 311, .cells #[.string ⟨#[105, 110, 118, 97, 108, 105, 100, 32, 115, 121, 110, 116, 97, 120]⟩] 311], #[], []⟩
 { w0 with heap := pd (pd (pd (pd (pd (pd (pd (w0.heap) 6 (#[.int .u8 0, .int .u8 1, .int .u8 28, .int .u8 2, .int .u8 29, .int .u8 14, .int .u8 24, .int .u8 3, .int .u8 30, .int .u8 22, .int .u8 20, .int .u8 15, .int .u8 25, .int .u8 17, .int .u8 4, .int .u8 8, .int .u8 31, .int .u8 27, .int .u8 13, .int .u8 23, .int .u8 21, .int .u8 19, .int .u8 16, .int .u8 7, .int .u8 26, .int .u8 12, .int .u8 18, .int .u8 6, .int .u8 11, .int .u8 5, .int .u8 10, .int .u8 9])) 7 (#[.int .u8 0, .int .u8 1, .int .u8 56, .int .u8 2, .int .u8 57, .int .u8 49, .int .u8 28, .int .u8 3, .int .u8 61, .int .u8 58, .int .u8 42, .int .u8 50, .int .u8 38, .int .u8 29, .int .u8 17, .int .u8 4, .int .u8 62, .int .u8 47, .int .u8 59, .int .u8 36, .int .u8 45, .int .u8 43, .int .u8 51, .int .u8 22, .int .u8 53, .int .u8 39, .int .u8 33, .int .u8 30, .int .u8 24, .int .u8 18, .int .u8 12, .int .u8 5, .int .u8 63, .int .u8 55, .int .u8 48, .int .u8 27, .int .u8 60, .int .u8 41, .int .u8 37, .int .u8 16, .int .u8 46, .int .u8 35, .int .u8 44, .int .u8 21, .int .u8 52, .int .u8 32, .int .u8 23, .int .u8 11, .int .u8 54, .int .u8 26, .int .u8 40, .int .u8 15, .int .u8 34, .int .u8 20, .int .u8 31, .int .u8 10, .int .u8 25, .int .u8 14, .int .u8 19, .int .u8 9, .int .u8 13, .int .u8 8, .int .u8 7, .int .u8 6])) 2 (#[.int .u64 1, .int .u64 10, .int .u64 100, .int .u64 1000, .int .u64 10000, .int .u64 100000, .int .u64 1000000, .int .u64 10000000, .int .u64 100000000, .int .u64 1000000000, .int .u64 10000000000, .int .u64 100000000000, .int .u64 1000000000000, .int .u64 10000000000000, .int .u64 100000000000000, .int .u64 1000000000000000, .int .u64 10000000000000000, .int .u64 100000000000000000, .int .u64 1000000000000000000, .int .u64 10000000000000000000])) 1 (#[.int .u8 128, .int .u8 191, .int .u8 160, .int .u8 191, .int .u8 128, .int .u8 159, .int .u8 144, .int .u8 191, .int .u8 128, .int .u8 143, .int .u8 0, .int .u8 0, .int .u8 0, .int .u8 0, .int .u8 0, .int .u8 0, .int .u8 0, .int .u8 0, .int .u8 0, .int .u8 0, .int .u8 0, .int .u8 0, .int .u8 0, .int .u8 0, .int .u8 0, .int .u8 0, .int .u8 0, .int .u8 0, .int .u8 0, .int .u8 0, .int .u8 0, .int .u8 0])) 5 (#[.iface 309 (.pointer (some ⟨m4 + 0, 0, none⟩))])) 4 (#[.iface 309 (.pointer (some ⟨m4 + 1, 0, none⟩))])) 0 ((Go.Pinned.utf8FirstZ.map fun (z : Nat) => Value.int .u8 (z : Int)).toArray) }
theorem Mg (os : Os) : laidMet Tryz.prog Rows.syncMatchesReferenceUptoRow.laid ((NQ os).forCall (fun _ _ => 0) ⟨#[], #[.slice none 0 0, .slice none 0 0, .string ⟨#[]⟩], []⟩).memory :=
 laidMet_of_run' 10 (by kernel_rfl) (by kernel_rfl)
theorem aCv (os : Os) {H : Type} (enc : TypeId × Value → H) : ∃ places, DataW.whole enc Tryz.prog ((NQ os).forCall (fun _ _ => 0) ⟨#[], #[.slice none 0 0, .slice none 0 0, .string ⟨#[]⟩], []⟩).memory Tryz.f3.params.toList Rows.syncMatchesReferenceSpec.vars false (#[.slice none 0 0, .slice none 0 0, .string ⟨#[]⟩] : Array Value).toList 8 = some ([.nil, .nil, .lit (.string [])], [], places) :=
 ⟨[], by kernel_rfl⟩
theorem aBQ (os : Os) (started : os.Started) (H : Type) (enc : TypeId × Value → H) (F : Stop.Interp) :
  ReturnsInHanded {} Tryz.checked os 3 .any ((Rows.OpenSpec.upto Rows.syncMatchesReferenceSpec).preRow enc Tryz.prog Tryz.f3 Rows.syncMatchesReferenceUptoRow.domain false Rows.syncMatchesReferenceUptoRow.laid) (((Rows.OpenSpec.upto Rows.syncMatchesReferenceSpec).at F).post enc Tryz.prog Tryz.f3 false true false false) := by
 obtain ⟨places, hx⟩ := aCv os enc
 refine returnsInHanded_of_row (C := Tryz.checked) (s := Rows.OpenSpec.upto Rows.syncMatchesReferenceSpec) own started (by kernel_rfl) Tryz.func3
  (witness_row_at (enc := enc) (C := Tryz.checked) false (NQ os) #[.slice none 0 0, .slice none 0 0, .string ⟨#[]⟩] rfl (by kernel_rfl) (by kernel_rfl) (by kernel_rfl)
   (OpenSpec.preRow_of_cond 8 hx (by kernel_rfl) (fun k hk => by cases hk; kernel_rfl) (by kernel_rfl) (Mg os))) ?_
 intro W base args ds gs kW hval hW _ hk _ hL _ _
 exact Nw H enc W base args ds gs kW hval hW (hk _ rfl) hL
theorem Mq : Program.inPlace Tryz.checked.prog 3 = Rows.syncMatchesReferenceUptoRow.inPlace := by kernel_rfl
theorem OJ : Program.unfollowed Tryz.checked.prog 3 = Rows.syncMatchesReferenceUptoRow.unfollowed := by kernel_rfl
theorem Az : Program.recurses Tryz.checked.prog 3 = Rows.syncMatchesReferenceUptoRow.recurses := by
 unfold Program.recurses
 rw [OJ]
 first | rfl | kernel_rfl
theorem nk : Program.varsNamed Tryz.checked.prog 3 = Rows.syncMatchesReferenceUptoRow.named := by kernel_rfl
theorem aDr : joinedFacts Tryz.checked.prog 3 Tryz.f3 (Rows.OpenSpec.upto Rows.syncMatchesReferenceSpec).bare Rows.syncMatchesReferenceUptoRow = true := by
 unfold joinedFacts
 rw [show laidOutB Tryz.checked.prog = true from xg, Mq, OJ, Az, nk]
 kernel_rfl
theorem aEz : Rows.syncMatchesReferenceUptoRow.holds Tryz.pinned (Rows.OpenSpec.upto Rows.syncMatchesReferenceSpec) :=
 OpenClaim.holds_of_cond 3 Tryz.f3 rfl rfl rfl rfl rfl rfl rfl ⟨rfl, rfl, rfl, rfl, rfl⟩ rfl rfl rfl rfl rfl (by kernel_rfl) Tryz.func3 aDr
  (of_decide_eq_true (by kernel_rfl)) (by unfold Func.isWrapper; first | (rw [if_pos (by decide +kernel)]; kernel_rfl) | (rw [if_neg (by decide +kernel)]; exact ⟨rfl, rfl⟩))
  (fun os started H enc _ F => by rw [OpenClaim.pre_eq_preRow]; exact aBQ os started H enc F)
theorem plain (f : FuncId) (fn : Func) (hf : Tryz.pinned.checked.prog.funcNamed "planisphere/planispherelaw53.SyncMatchesReference" = some f) (hfn : Tryz.pinned.checked.prog.funcs[f]? = some fn) :
  true = Tryz.pinned.checked.prog.looks [] ∧ ∀ (j : Nat) t, fn.params[j]? = some t → Tryz.pinned.checked.prog.wantsStandIn t = false := by
 obtain rfl : f = 3 := Option.some.inj ((show Tryz.prog.funcNamed "planisphere/planispherelaw53.SyncMatchesReference" = some 3 by kernel_rfl).symm.trans hf) |>.symm
 obtain rfl : fn = Tryz.f3 := (Option.some.inj (Tryz.func3.symm.trans hfn)).symm
 refine ⟨by kernel_rfl, fun j t ht => ?_⟩
 rw [Tryz.params3] at ht
 have ht2 := Array.mem_of_getElem? ht
 simp only [List.mem_toArray, List.mem_cons, List.not_mem_nil, or_false] at ht2
 rcases ht2 with rfl | rfl | rfl
 ·exact (show Tryz.prog.wantsStandIn 22 = false by kernel_rfl)
 ·exact (show Tryz.prog.wantsStandIn 22 = false by kernel_rfl)
 exact (show Tryz.prog.wantsStandIn 9 = false by kernel_rfl)
theorem Cm {P : Program} (h : P.funcs.any Func.goes = false) (f : FuncId) : P.goes f = false := by
 have h1 : ∀ g : FuncId, (P.funcs[g]?).any Func.goes = false := fun g => by
  cases e : P.funcs[g]? with
  | none => rfl
  | some fn =>
   obtain ⟨i, hi⟩ := Array.getElem?_eq_some_iff.1 e
   have := Array.any_eq_false.1 h g i
   rw [hi] at this
   simpa using this
 rw [Program.goes, h, Bool.and_false, Bool.or_false, List.any_eq_false]
 intro g _
 rw [h1]
 decide
theorem Vj : Tryz.pinned.checked.prog.funcs.any Func.goes = false := by kernel_rfl
theorem Co {P : Program} {c : OpenClaim} (hs : c.start = .entering) (h : P.funcs.any Func.goes = false) : false = c.goesBy P := by
 have h2 : (P.funcNamed c.func).any P.goes = false := by
  cases P.funcNamed c.func with
  | none => rfl
  | some f => exact Cm h f
 unfold OpenClaim.goesBy Program.goesAt Program.goesFrom
 rw [h2, hs]
 rfl
theorem Dq : false = Rows.syncMatchesReferenceUptoRow.goesBy Tryz.pinned.checked.prog := Co rfl Vj
theorem Xr : Rows.syncMatchesReferenceUptoRow.wfByText (Rows.OpenSpec.upto Rows.syncMatchesReferenceSpec) = true := by kernel_rfl
theorem Dp : Tryz.pinned.checked.prog.mainIs = some (Rows.syncMatchesReferenceUptoCard.stood.harness.1, Rows.syncMatchesReferenceUptoCard.stood.harness.2.toList) := by kernel_rfl
theorem card : Rows.SyncMatchesReferenceUptoCardSaid :=
 Claim7.holds_tied_plain_at .later [] _ _ _ _ aEz (fun _ h => by cases h) Xr (fun _ h => by cases h) syncMatchesReferenceUpto_row_tie rfl ⟨rfl, rfl⟩ Dp rfl plain Dq
end cx4
theorem syncMatchesReference_holds : Rows.SyncMatchesReferenceUptoCardSaid := cx4.card
end Go.Proofs.YtopnleflllkbmaaGreatDoor
