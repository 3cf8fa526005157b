/-
 PROVED: planispherelaw27.RecordMatchesReference returns true, for all arguments of bulk at most 1048576; the arguments read behind the call as before. Conditions: that bound alone (the statement's own).
-/
import Derived.Test.YtmdicgjnmfolfaaGreatDoorKR7M14
import Derived.Test.YtmdicgjnmfolfaaGreatDoorCards
import Derived.Test.YtmdicgjnmfolfaaGreatDoorTie
import Derived.WalkKit
import Derived.ProofKit
import Derived.OpenShut
import Derived.Deep.DeepHandedRow
import Derived.Lib.LaidTab
import Derived.Stop.LaidErr
import Derived.Stop.ErrReads
set_option linter.unusedVariables false
set_option linter.unusedSimpArgs false
set_option maxRecDepth 100000
namespace Go.Proofs.YtmdicgjnmfolfaaGreatDoor
open Go.Abs Go.ChangeShapes Go.WideShapes Go.ChangeAt Go.RowKit
namespace cr7
def za:Array Value:=#[.agg #[.int .i64 0,.int .i64 0,.int .i64 0,.int .i64 0,.string ⟨#[]⟩,.slice none 0 0,.slice none 0 0,.string ⟨#[]⟩,.bool false,.int .i64 0,.string ⟨#[]⟩,.int .i64 0,.slice none 0 0,.slice none 0 0,.string ⟨#[]⟩,.string ⟨#[]⟩,.slice none 0 0,.slice none 0 0,.int .i64 0,.slice none 0 0,.slice none 0 0],.agg #[.slice none 0 0,.slice none 0 0,.slice none 0 0,.int .i64 0,.slice none 0 0,.slice none 0 0],.string ⟨#[]⟩]
def ua(l:List Int):Array Value:=⟨l.map fun x=>.int .u8 x⟩
def ub(l:List Int):Array Value:=⟨l.map fun x=>.int .u64 x⟩
theorem YO : "*" ++ "errors.errorString" = "*errors.errorString" := by decide
theorem mf(u:TypeId)(h:Tryz.prog.typeName? 3 u=some "*errors.errorString"):u=266 :=
 typeName_ptr_named (nm := "errors.errorString") (by rw[YO];kernel_rfl) (by kernel_rfl) (by decide) u (by rw[YO];exact h)
theorem aB7{W:World}(h:laidMet Tryz.prog Rows.recordMatchesReferenceUptoRow.laid W):RN (pw W) W:=by
 intro p hp
 simp only[ak,List.mem_cons,List.not_mem_nil,or_false]at hp
 rcases hp with rfl|rfl|rfl
 ·have h1:Lib.TabIs Tryz.prog W "internal/strconv.uint64pow10" .u64 [1,10,100,1000,10000,100000,1000000,10000000,100000000,1000000000,10000000000,100000000000,1000000000000,10000000000000,100000000000000,1000000000000000,10000000000000000,100000000000000000,1000000000000000000,10000000000000000000]:=Lib.tabIs_of_head (rest:=Rows.recordMatchesReferenceUptoRow.laid.drop 3) (g:=3) (t:=257) (e:=122) (by kernel_rfl) (by kernel_rfl) Tryz.underlying257 Tryz.underlying122 (by kernel_rfl) (by kernel_rfl) h.tail.tail
  unfold Lib.TabIs at h1
  unfold World.var? at h1
  rw[show Tryz.prog.globalNamed "internal/strconv.uint64pow10" = some 3 by kernel_rfl]at h1
  simp only[Option.bind_some]at h1
  split at h1
  ·rename_i cs t f hh
   exact⟨(Array.getElem?_eq_some_iff.1 hh).1,cs,t,f,hh,Option.some.inj h1⟩
  cases h1
 ·obtain ⟨a,s,h1,_⟩:=laid_sentinel (g:=2) h.tail.tail.tail.tail (by kernel_rfl) (by kernel_rfl) Tryz.underlying139 mf Tryz.underlying266 Tryz.underlying268 rfl rfl Tryz.underlying9 (by kernel_rfl) (by kernel_rfl)
  unfold World.var? at h1
  rw[show Tryz.prog.globalNamed "strconv.ErrRange" = some 2 by kernel_rfl]at h1
  simp only[Option.bind_some]at h1
  split at h1
  ·rename_i cs t f hh
   exact⟨(Array.getElem?_eq_some_iff.1 hh).1,cs,t,f,hh,⟨_,_,Option.some.inj h1⟩⟩
  cases h1
 obtain ⟨a,s,h1,_⟩:=laid_sentinel (g:=1) h.tail.tail.tail.tail.tail (by kernel_rfl) (by kernel_rfl) Tryz.underlying139 mf Tryz.underlying266 Tryz.underlying268 rfl rfl Tryz.underlying9 (by kernel_rfl) (by kernel_rfl)
 unfold World.var? at h1
 rw[show Tryz.prog.globalNamed "strconv.ErrSyntax" = some 1 by kernel_rfl]at h1
 simp only[Option.bind_some]at h1
 split at h1
 ·rename_i cs t f hh
  exact⟨(Array.getElem?_eq_some_iff.1 hh).1,cs,t,f,hh,⟨_,_,Option.some.inj h1⟩⟩
 cases h1
theorem Ex(H:Type)(enc:TypeId×Value->H)(W:World)(base:Nat)(args:Array Value)(ds gs:List (DataW H))(jT:List MemPlace)
  (hval:∀(j:Nat) t v,Tryz.f3.params[j]?=some t->args[j]?=some v->Value.okWide Tryz.prog W .any base t v)
  (hW:DataW.Whole enc Tryz.prog Tryz.f3.params.toList Rows.recordMatchesReferenceSpec.vars false W args.toList ds gs jT) (hk:Rows.uptoSmall H (ds++gs)=true) (hL:laidMetH Tryz.prog Rows.recordMatchesReferenceUptoRow.laid W) :
  Calls Tryz.prog 3 args W fun e W'=>∃v,e=.returned v/\Rows.recordMatchesReferenceSpec.post enc Tryz.prog Tryz.f3 false true false false W args v W':=by
 refine Co (n:=12) (B:=1048576) (bt:=4) nr (by kernel_rfl) (by kernel_rfl) rfl ?_ (by kernel_rfl) Tryz.underlying4 hval hW (uu (dv hk)) ?_ (aB7 hL)
 ·intro ds hl
  rw[Tryz.params3]at hl
  match ds,hl with
  | [d1,d2,d3],_=>exact⟨rfl,rfl,rfl⟩
 rw[Tryz.params3]
 intro pss h
 obtain ⟨p1,_,rfl,q1,h⟩:=GD h
 obtain ⟨p2,_,rfl,q2,h⟩:=GD h
 obtain ⟨p3,_,rfl,q3,h⟩:=GD h
 obtain rfl:=ra h
 obtain ⟨x1,rfl,h1⟩:=aAX q1
 obtain ⟨x2,x2k,rfl,h2⟩:=Ng q2
 obtain ⟨x3,rfl,h3⟩:=aAW q3
 have e:MC Tryz.prog [30,37,9] [cC x1,KX x2 x2k,[.str x3]]=[av (cC x1),av (KX x2 x2k),sv x3]:=by
  simp only[MC,pn,Tryz.underlying30,Tryz.underlying37,Tryz.underlying9,av,List.map_cons,List.map_nil]
 show aW Tryz.prog _ (MC Tryz.prog [30,37,9] [cC x1,KX x2 x2k,[.str x3]]) [] _
 rw[e]
 exact MK x1 x2 x2k x3 (Bp h1) (Su h1) (Lg h2) (Jy h1) (Nat.lt_of_le_of_lt h3 (by decide)) []
def fm(h:Array Obj)(g:Nat)(cs:Array Value):Array Obj:=h.modify g fun
 |.cells _ t frozen=>.cells cs t frozen
 |o=>o
noncomputable def KN(os:Os):World :=
 let N:=(World.settled Tryz.prog os).heap.size
 let w0:=World.holding Tryz.prog os ⟨#[.cells #[.string ⟨#[118,97,108,117,101,32,111,117,116,32,111,102,32,114,97,110,103,101]⟩] 268,.cells #[.string ⟨#[105,110,118,97,108,105,100,32,115,121,110,116,97,120]⟩] 268],#[],[]⟩
 {w0 with heap:=fm (fm (fm (fm (fm (fm (fm (w0.heap) 6 (ua [0,1,28,2,29,14,24,3,30,22,20,15,25,17,4,8,31,27,13,23,21,19,16,7,26,12,18,6,11,5,10,9])) 7 (ua [0,1,56,2,57,49,28,3,61,58,42,50,38,29,17,4,62,47,59,36,45,43,51,22,53,39,33,30,24,18,12,5,63,55,48,27,60,41,37,16,46,35,44,21,52,32,23,11,54,26,40,15,34,20,31,10,25,14,19,9,13,8,7,6])) 3 (ub [1,10,100,1000,10000,100000,1000000,10000000,100000000,1000000000,10000000000,100000000000,1000000000000,10000000000000,100000000000000,1000000000000000,10000000000000000,100000000000000000,1000000000000000000,10000000000000000000])) 5 (ua [128,191,160,191,128,159,144,191,128,143,0,0,0,0,0,0,0,0,0,0,0,0,0,0,0,0,0,0,0,0,0,0])) 2 (#[.iface 266 (.pointer (some ⟨N+0,0,none⟩))])) 1 (#[.iface 266 (.pointer (some ⟨N+1,0,none⟩))])) 4 ((Go.Pinned.utf8FirstZ.map fun(z:Nat)=>Value.int .u8 (z:Int)).toArray)}
theorem Ct(os:Os):laidMet Tryz.prog Rows.recordMatchesReferenceUptoRow.laid ((KN os).forCall (fun _ _=>0) ⟨#[],za,[]⟩).memory :=
 laidMet_of_run' 10 (by kernel_rfl) (by kernel_rfl)
theorem Yi(os:Os){H:Type}(enc:TypeId×Value->H):∃places,DataW.whole enc Tryz.prog ((KN os).forCall (fun _ _=>0) ⟨#[],za,[]⟩).memory Tryz.f3.params.toList Rows.recordMatchesReferenceSpec.vars false za.toList 8=some ([.agg [.lit (.int .i64 0),.lit (.int .i64 0),.lit (.int .i64 0),.lit (.int .i64 0),.lit (.string []),.nil,.nil,.lit (.string []),.lit (.bool false),.lit (.int .i64 0),.lit (.string []),.agg [.lit (.int .i64 0),.nil,.nil],.agg [.lit (.string []),.lit (.string []),.nil,.nil,.agg [.lit (.int .i64 0),.nil,.nil]]],.agg [.agg [.nil],.nil,.nil,.lit (.int .i64 0),.nil,.nil],.lit (.string [])],[],places) :=
 ⟨[],by kernel_rfl⟩
theorem Ud(os:Os)(started:os.Started)(H:Type)(enc:TypeId×Value->H)(F:Stop.Interp):
  ReturnsInHanded {} Tryz.checked os 3 .any ((Rows.OpenSpec.upto Rows.recordMatchesReferenceSpec).preRow enc Tryz.prog Tryz.f3 Rows.recordMatchesReferenceUptoRow.domain false Rows.recordMatchesReferenceUptoRow.laid) (((Rows.OpenSpec.upto Rows.recordMatchesReferenceSpec).at F).post enc Tryz.prog Tryz.f3 false true false false):=by
 obtain ⟨places,hx⟩:=Yi os enc
 refine returnsInHanded_of_row (C:=Tryz.checked) (s:=Rows.OpenSpec.upto Rows.recordMatchesReferenceSpec) own started (by kernel_rfl) Tryz.func3
  (witness_row_at (enc:=enc) (C:=Tryz.checked) false (KN os) za rfl (by kernel_rfl) (by kernel_rfl) (by kernel_rfl)
   (OpenSpec.preRow_of_cond 8 hx (by kernel_rfl) (fun k hk=>by cases hk;kernel_rfl) (by kernel_rfl) (Ct os))) ?_
 intro W base args ds gs jT hval hW _ hk _ hL _ _
 exact Ex H enc W base args ds gs jT hval hW (hk _ rfl) hL
theorem Df:Program.inPlace Tryz.checked.prog 3=Rows.recordMatchesReferenceUptoRow.inPlace:=by kernel_rfl
theorem LI:Program.unfollowed Tryz.checked.prog 3=Rows.recordMatchesReferenceUptoRow.unfollowed:=by kernel_rfl
theorem rl:Program.recurses Tryz.checked.prog 3=Rows.recordMatchesReferenceUptoRow.recurses:=by
 unfold Program.recurses
 rw[LI]
 rfl
theorem dt:Program.varsNamed Tryz.checked.prog 3=Rows.recordMatchesReferenceUptoRow.named:=by kernel_rfl
theorem aAR:joinedFacts Tryz.checked.prog 3 Tryz.f3 (Rows.OpenSpec.upto Rows.recordMatchesReferenceSpec).bare Rows.recordMatchesReferenceUptoRow=true:=by
 unfold joinedFacts
 rw[show laidOutB Tryz.checked.prog=true from nr,Df,LI,rl,dt]
 kernel_rfl
theorem aBW:Rows.recordMatchesReferenceUptoRow.holds Tryz.pinned (Rows.OpenSpec.upto Rows.recordMatchesReferenceSpec) :=
 OpenClaim.holds_of_cond 3 Tryz.f3 rfl rfl rfl rfl rfl rfl rfl ⟨rfl,rfl,rfl,rfl,rfl⟩ rfl rfl rfl rfl rfl (by kernel_rfl) Tryz.func3 aAR
  (of_decide_eq_true (by kernel_rfl)) (by unfold Func.isWrapper;(rw[if_neg (by decide +kernel)];exact⟨rfl,rfl⟩))
  (fun os started H enc _ F=>by rw[OpenClaim.pre_eq_preRow];exact Ud os started H enc F)
theorem plain(f:FuncId)(fn:Func)(hf:Tryz.pinned.checked.prog.funcNamed "planisphere/planispherelaw27.RecordMatchesReference" = some f)(hfn:Tryz.pinned.checked.prog.funcs[f]?=some fn):
  true=Tryz.pinned.checked.prog.looks []/\∀(j:Nat) t,fn.params[j]?=some t->Tryz.pinned.checked.prog.wantsStandIn t=false:=by
 obtain rfl:f=3:=Option.some.inj ((show Tryz.prog.funcNamed "planisphere/planispherelaw27.RecordMatchesReference" = some 3 by kernel_rfl).symm.trans hf) |>.symm
 obtain rfl:fn=Tryz.f3:=(Option.some.inj (Tryz.func3.symm.trans hfn)).symm
 refine⟨by kernel_rfl,fun j t ht=>?_⟩
 rw[Tryz.params3]at ht
 have ht2:=Array.mem_of_getElem? ht
 simp only[List.mem_toArray,List.mem_cons,List.not_mem_nil,or_false]at ht2
 rcases ht2 with rfl|rfl|rfl
 ·exact(show Tryz.prog.wantsStandIn 30=false by kernel_rfl)
 ·exact(show Tryz.prog.wantsStandIn 37=false by kernel_rfl)
 exact(show Tryz.prog.wantsStandIn 9=false by kernel_rfl)
theorem tq{P:Program}(h:P.funcs.any Func.goes=false)(f:FuncId):P.goes f=false:=by
 have h1:∀g:FuncId,(P.funcs[g]?).any Func.goes=false:=fun g=>by
  cases e:P.funcs[g]? with
  |none=>rfl
  |some fn =>
   obtain ⟨i,hi⟩:=Array.getElem?_eq_some_iff.1 e
   have:=Array.any_eq_false.1 h g i
   rw[hi]at this
   simpa using this
 rw[Program.goes,h,Bool.and_false,Bool.or_false,List.any_eq_false]
 intro g _
 rw[h1]
 decide
theorem Lk:Tryz.pinned.checked.prog.funcs.any Func.goes=false:=by kernel_rfl
theorem tt{P:Program}{c:OpenClaim}(hs:c.start=.entering)(h:P.funcs.any Func.goes=false):false=c.goesBy P:=by
 have h2:(P.funcNamed c.func).any P.goes=false:=by
  cases P.funcNamed c.func with
  |none=>rfl
  |some f=>exact tq h f
 unfold OpenClaim.goesBy Program.goesAt Program.goesFrom
 rw[h2,hs]
 rfl
theorem ur:false=Rows.recordMatchesReferenceUptoRow.goesBy Tryz.pinned.checked.prog:=tt rfl Lk
theorem Ny:Rows.recordMatchesReferenceUptoRow.wfByText (Rows.OpenSpec.upto Rows.recordMatchesReferenceSpec)=true:=by kernel_rfl
theorem uq:Tryz.pinned.checked.prog.mainIs=some (Rows.recordMatchesReferenceUptoCard.stood.harness.1,Rows.recordMatchesReferenceUptoCard.stood.harness.2.toList):=by kernel_rfl
theorem card:Rows.RecordMatchesReferenceUptoCardSaid :=
 Claim7.holds_tied_plain_at .later [] _ _ _ _ aBW (fun _ h=>by cases h) Ny (fun _ h=>by cases h) recordMatchesReferenceUpto_row_tie rfl ⟨rfl,rfl⟩ uq rfl plain ur
end cr7
theorem recordMatchesReference_holds:Rows.RecordMatchesReferenceUptoCardSaid:=cr7.card
end Go.Proofs.YtmdicgjnmfolfaaGreatDoor
