/-
  THE ABSTRACT LOGIC, 20: an array's value is asked; sets (maps of truths). Conditions: each rule's own premises.
  CONTRACTS: package object's small functions; slices.ContainsFunc with a function that writes; object.Valid. Conditions: lengths below 2^62.
  CONTRACTS: slices.IndexFunc, ContainsFunc with a function that writes; object.Valid. Conditions: lengths below 2^62.
  CONTRACTS: object.Valid. Conditions: lengths below 2^62.
  CONTRACTS: atlas.Valid. Conditions: lengths below 2^62.
  WHAT THE ARGUMENTS OF THE LAWS HOLD: shapes as plain Lean data. Conditions: none.
  WHAT ALL LAWS' CLAIMS SHARE. Conditions: none.
  STATES AND RESULTS in front of a heap that is not looked into. Conditions: none.
  PLAIN LAWS of Go's order of strings, of valid maps and their parts. Conditions: none.
  CONTRACTS: slices.IndexFunc, ContainsFunc, Equal at the types of the map; package verify's small functions.
 Conditions: lengths below 2^62.
  CONTRACTS: the functions of package verify and of its reference: objects, tags, what an edit shows. Conditions: lengths below 2^62.
  CONTRACTS: what an edit shows: package verify. Conditions: lengths below 2^62.
  CONTRACTS: equal tags, edits that are alike, the closures over the edits that are shown. Conditions: lengths below 2^62.
  CONTRACTS: what is moderate (three references), names, membership. Conditions: lengths below 2^62.
  STATES in front of a heap that is not looked into: objects are dropped. Conditions: none.
  CONTRACTS: package edit: kinds, references, closed maps. Conditions: lengths below 2^62.
  PLAIN LAWS of evidence: what it is, what is found. Conditions: none.
  CONTRACTS: package edit: edits compared, valid edits; valid change sets. Conditions: lengths below 2^62.
-/
import Derived.Test.YtlnfjkdacimblaaGreatDoorKW5M3
import Derived.Scope
import Derived.ChangeKeysEq
set_option linter.unusedVariables false
set_option linter.unusedSimpArgs false
set_option maxRecDepth 100000
set_option maxHeartbeats 2000000
namespace Go.Abs
section
section
variable {P:Program} {N:Nat} {o:Oper} {E:Env} {H:Heap} {T:TypeId} {x y z:Operand}
theorem opd_index_agg {e:TypeId} {cnt:Nat} {kk:IntKind} {n:Int} {m:Nat} {l:List AV} {v:AV} (ho:o.op=.index T x y) (hT:P.underlying T=some (.array cnt e)) (hs:∀ w,(sizeOf e).run P w=.ok 1 w) (ha:∀ w,(isAgg e).run P w=.ok false w)
  (hx:aeval E x=some (.agg l)) (hy:aeval E y=some (.pv (.int kk n))) (h0:0≤n) (hm:n.toNat=m) (hi:m < cnt) (hv:l[m]?=some v):OpD P N o E H v H :=
 .of_run fun a w I ι hr he=>by
  have h:=aeval_rel he hx
  have hn:=(aeval_rel he hy).int_inv
  generalize hc:a.eval x=c at h
  cases h with
  | @agg vs _ hl h1 h2 =>
   have hlt:m < vs.size:=by rw [hl];exact(List.getElem?_eq_some_iff.1 hv).1
   have hu:vs[m]?=some vs[m]:=Array.getElem?_eq_getElem hlt
   refine⟨vs[m],?_,h2 m _ v hu hv⟩
   have h5:n < (cnt:Int):=by omega
   simp only [execOp,ho,hc,hn]
   simp [Instr.index,run_underlying hT,asIntOf,h0,h5,hs,hm,part,ha,hu]
/-- A set: a map of truths. -/
def sets (l:List ByteArray):List (ByteArray×AV):=l.map fun s=>(s,.pv (.bool true))
def inB (l:List ByteArray) (s:ByteArray):Bool:=l.any fun a=>decide (a=s)
def sput (l:List ByteArray) (s:ByteArray):List ByteArray:=if inB l s then l else l++[s]
theorem sets_get (l:List ByteArray) (s:ByteArray):(mget (sets l) s).getD (.pv (.bool false))=.pv (.bool (inB l s)):=by
 induction l with
 | nil=>rfl
 | cons a l ih =>
  by_cases h:a=s
  ·subst h;simp [sets,mget,inB]
  simp only [sets,List.map_cons,mget,h,if_false,inB,List.any_cons,decide_false,Bool.false_or] at ih ⊢
  exact ih
theorem sets_put (l:List ByteArray) (s:ByteArray):mput (sets l) s (.pv (.bool true))=sets (sput l s):=by
 induction l with
 | nil=>rfl
 | cons a l ih =>
  by_cases h:a=s
  ·subst h;simp [sets,mput,sput,inB]
  have e:sput (a::l) s=a::sput l s:=by
   unfold sput inB
   rw [List.any_cons,decide_eq_false h,Bool.false_or]
   split<;>rfl
  rw [e]
  show mput ((a,.pv (.bool true))::sets l) s (.pv (.bool true))=(a,.pv (.bool true))::sets (sput l s)
  rw [mput,if_neg h,ih]
theorem sets_length (l:List ByteArray):(sets l).length=l.length:=by simp [sets]
theorem x_lookup_set {kt et:TypeId} {l:List ByteArray} {id g:Nat} {ob:Ob} {s:ByteArray} {zv:Value} (ho:o.op=.lookup T x y false) (hT:P.underlying T=some (.map kt et)) (hd:P.underlying kt=some .string) (hx:aeval E x=some (.mp id g)) (hH:H.get id=some ob) (hg:ob.g=g)
  (hrows:ob.rows=mrows strK (sets l)) (hy:aeval E y=some (.pv (.str s))) (hz:∀ w,(zeroValue et).run P w=.ok zv w) (hv:ZV zv (.pv (.bool false))):OpD P N o E H (.pv (.bool (inB l s))) H:=by
 rw [← sets_get]
 exact opd_lookup (κ:=strK) ho hT hd hx hH hg hrows hy hz hv
theorem x_put_set {kt et:TypeId} {l:List ByteArray} {id g:Nat} {ob:Ob} {s:ByteArray} (ho:o.op=.mapUpdate T x y z∨o.op=.insert T x y z) (hT:P.underlying T=some (.map kt et)) (hd:P.underlying kt=some .string) (hx:aeval E x=some (.mp id g)) (hH:H.get id=some ob) (hg:ob.g=g)
  (hty:ob.ty=(sets l).length) (hrows:ob.rows=mrows strK (sets l)) (hy:aeval E y=some (.pv (.str s))) (hz:aeval E z=some (.pv (.bool true))):OpD P N o E H .any ((id,⟨g,ob.sz,(sets (sput l s)).length,mrows strK (sets (sput l s))⟩)::H) :=
 x_mapUpdate (κ:=strK) ho hT hd hx hH hg hty hrows hy hz (sets_put l s)
/-- A map of truths, as an object. -/
abbrev sob (l:List ByteArray):Ob:=⟨0,0,(sets l).length,mrows strK (sets l)⟩
end
end
end Go.Abs
namespace Go.Proofs.YtlnfjkdacimblaaGreatDoor
open Go.Abs
section
def gWord (k:Int):ByteArray:=if k=1 then⟨#[110,111,100,101]⟩else if k=2 then⟨#[119,97,121]⟩else if k=3 then⟨#[97,114,101,97]⟩else if k=4 then⟨#[114,111,117,116,101]⟩else if k=5 then⟨#[116,117,114,110]⟩else sNil
abbrev wordRow:List AV:=[sv sNil,sv ⟨#[110,111,100,101]⟩,sv ⟨#[119,97,121]⟩,sv ⟨#[97,114,101,97]⟩,sv ⟨#[114,111,117,116,101]⟩,sv ⟨#[116,117,114,110]⟩]
theorem six {k:Int} (h0:0≤k) (h1:k < 6):k=0∨k=1∨k=2∨k=3∨k=4∨k=5:=by omega
theorem word_at {k:Int} (h0:0≤k) (h1:k < 6):wordRow[k.toNat]?=some (sv (gWord k)):=by
 rcases six h0 h1 with rfl|rfl|rfl|rfl|rfl|rfl<;>rfl
theorem word_c (k:Int) (H:Heap):ACalls Tryz.prog 122 [iv k] H (fun r H'=>r=sv (gWord k)∧H'=H):=by
 refine ACalls.pure ?_ (by simp) H
 refine Bd Tryz.func122 rfl Tryz.ntmps122<|Sq<|Rg<|Dd as'<|Zz<|Sq<|Rg<|Dd (by exact x_build_arr rfl ao206 rfl rfl)<|Dd (by exact x_alloc (id:=3) rfl zo206 rfl rfl)<|Uu (sa' Tryz.sizeOf206)<|Zz<|Sq<|Sq ?_
 refine awp_bool (t:=10) (n:=7) (X:=decide (k < 0)||decide (6≤k)) ?_ ?_
 ·all_goals refine Dd mv' ?_
  all_goals refine Dd lss' ?_
  all_goals refine Dd mv' ?_
  all_goals refine Sp 7 (fun h7=>?_) fun h7=>?_
  all_goals try contradiction
  all_goals first|refine Fo ?_|refine On mv' ?_
  all_goals first|refine Fo ?_|refine On ge' ?_
  all_goals refine Dd pk' ?_
  all_goals refine al_nil ?_
  all_goals(exact⟨⟨_,rfl,by(simp only [*,Zo];done)⟩,rfl,rfl,rfl⟩)
 refine Cn (fun hc1=>?_) fun hc1=>?_
 ·have hn:¬ (k=1)∧¬ (k=2)∧¬ (k=3)∧¬ (k=4)∧¬ (k=5):=by
   simp only [Bool.or_eq_true,decide_eq_true_eq] at hc1
   omega
  refine Sq<|Rg<|Dd as'<|Zz<|awp_ret ?_
  refine Rt ?_
  exact⟨by simp only [gWord,hn.1,hn.2.1,hn.2.2.1,hn.2.2.2.1,hn.2.2.2.2,if_false],rfl⟩
 have hb:0≤k∧k < 6:=by
  simp only [Bool.or_eq_false_iff,decide_eq_false_iff_not] at hc1
  omega
 refine awp_skip<|Sq<|Rg<|Dd mv'<|Dd (by exact opd_index_arr (m:=k.toNat) (k2:=k.toNat) rfl Tryz.underlying206 Tryz.sizeOf9 rfl rfl rfl rfl hb.1 rfl (by omega) (by omega))<|Dd (by exact opd_load1_ref rfl Tryz.isAgg9 rfl rfl rfl rfl (word_at hb.1 hb.2))<|Dd as'<|Zz<|awp_ret ?_
 refine Rt ?_
 exact⟨rfl,rfl⟩
def gLeast (k:Int):Int:=if k=2 then 2 else if k=3 then 3 else if k=4 then 1 else if k=5 then 3 else 0
theorem least_at {k:Int} (h0:0≤k) (h1:k < 6):[iv 0,iv 0,iv 2,iv 3,iv 1,iv 3][k.toNat]?=some (iv (gLeast k)):=by
 rcases six h0 h1 with rfl|rfl|rfl|rfl|rfl|rfl<;>rfl
theorem least_c (k:Int) (H:Heap) (h0:0≤k) (h1:k < 6):ACalls Tryz.prog 144 [iv k] H (fun r H'=>r=iv (gLeast k)∧H'=H):=by
 refine ACalls.pure ?_ (by simp) H
 refine Bd Tryz.func144 rfl Tryz.ntmps144<|Sq<|Rg<|Dd as'<|Zz<|Sq<|Rg<|Dd (by exact x_build_arr rfl ao223 rfl rfl)<|Dd mv'<|Dd (by exact opd_index_agg (m:=k.toNat) rfl Tryz.underlying223 Tryz.sizeOf3 Tryz.isAgg3 rfl rfl h0 rfl (by omega) (least_at h0 h1))<|Dd as'<|Zz<|awp_ret ?_
 refine Rt ?_
 exact⟨rfl,rfl⟩
def gOn (x y:Int):Bool:=((decide (0≤x)&&decide (x < 1048576))&&decide (0≤y))&&decide (y < 1048576)
theorem on_c (x y:Int) (H:Heap):ACalls Tryz.prog 146 [.agg [iv x,iv y]] H (fun r H'=>r=bv (gOn x y)∧H'=H):=by
 refine ACalls.pure ?_ (by simp) H
 refine Bd Tryz.func146 rfl Tryz.ntmps146<|Sq<|Rg<|Dd (by exact opd_box (id:=1) rfl rfl rfl rfl rfl)<|Dd as'<|Zz<|Sq ?_
 refine awp_bool (t:=2) (n:=22) (X:=gOn x y) ?_ ?_
 ·all_goals refine Dd (fr' fo45_0) ?_
  all_goals refine Dd (l1' Tryz.isAgg3) ?_
  all_goals refine Dd ge' ?_
  all_goals refine Dd mv' ?_
  all_goals refine Sp 6 (fun h6=>?_) fun h6=>?_
  all_goals try contradiction
  all_goals first|refine Fo ?_|refine On (fr' fo45_0) ?_
  all_goals first|refine Fo ?_|refine On (l1' Tryz.isAgg3) ?_
  all_goals first|refine Fo ?_|refine On lss' ?_
  all_goals refine Dd pk' ?_
  all_goals refine Dd mv' ?_
  all_goals refine Sp 11 (fun h11=>?_) fun h11=>?_
  all_goals try contradiction
  all_goals first|refine Fo ?_|refine On (fr' fo45_1) ?_
  all_goals first|refine Fo ?_|refine On (l1' Tryz.isAgg3) ?_
  all_goals first|refine Fo ?_|refine On ge' ?_
  all_goals refine Dd pk' ?_
  all_goals refine Dd mv' ?_
  all_goals refine Sp 16 (fun h16=>?_) fun h16=>?_
  all_goals try contradiction
  all_goals first|refine Fo ?_|refine On (fr' fo45_1) ?_
  all_goals first|refine Fo ?_|refine On (l1' Tryz.isAgg3) ?_
  all_goals first|refine Fo ?_|refine On lss' ?_
  all_goals refine Dd pk' ?_
  all_goals refine Dd as' ?_
  all_goals refine al_nil ?_
  all_goals(exact⟨⟨_,rfl,by(simp only [gOn, *];rfl)⟩,rfl,rfl,rfl⟩)
 refine awp_ret ?_
 refine Rt ?_
 exact⟨rfl,rfl⟩
end
section
def gidxN (p:Nat→Bool) (n:Nat):Int:=match (List.range n).find? p with|some k=>(k:Int)|none => -1
def stopN (p:Nat→Bool) (n:Nat):Nat:=match (List.range n).find? p with|some k=>k+1|none=>n
theorem findR_some {p:Nat→Bool} {n k:Nat} (hk:k < n) (hp:p k=true) (hno:∀ j,j < k→p j=false):(List.range n).find? p=some k:=by
 rw [List.find?_range_eq_some]
 exact⟨hp,by simpa using hk,fun j hj=>by simp [hno j hj]⟩
theorem findR_none {p:Nat→Bool} {n:Nat} (hno:∀ j,j < n→p j=false):(List.range n).find? p=none:=by
 rw [List.find?_eq_none]
 intro x hx
 simp [hno x (List.mem_range.1 hx)]
theorem indexFuncS (fv:AV) (l:List ByteArray) (p:Nat→Bool) (Hs:Nat→Heap) (hl:l.length < 4611686018427387904) (hf:∀ k s,l[k]?=some s→CallsV Tryz.prog fv [sv s] (Hs k) (fun r H'=>r=bv (p k)∧H'=Hs (k+1))) :
  ACalls Tryz.prog 155 [.pv (slStrs l),fv] (Hs 0) (fun r H'=>r=iv (gidxN p l.length)∧H'=Hs (stopN p l.length)):=by
 have hml:(l.map encStr).length=l.length:=List.length_map _
 refine Bd Tryz.func155 rfl Tryz.ntmps155<|Sq<|Rg<|Dd as'<|Zz<|Sq<|Sq<|Rg<|Dd mv'<|Dd (ll' Tryz.underlying46)<|Dd mv'<|Zz<|awp_block ?_
 refine awp_loop (σ:=Nat) (fun k=>([(0,.pv (slStrs l)),(1,fv),(7,iv ((l.map encStr).length:Int)),(8,iv (k:Int))],Hs k)) (fun k=>k≤l.length∧∀ j,j < k→p j=false) (fun k=>l.length - k) 0 ⟨by omega,by omega⟩ ?_ ?_
 ·exact E0
 rintro k ⟨hk,hno⟩
 refine Sq<|Rg<|Dd lss'<|Zz<|Sq ?_
 refine Cn (fun hc1=>?_) fun hc1=>?_
 ·have hlt:k < l.length:=by have:=of_decide_eq_true hc1;omega
  obtain ⟨s,hs⟩:=get_of_lt hlt
  have hi:=map_get (f:=encStr) hs
  have hfo:=hf k s hs
  refine awp_skip<|Sq<|awp_block<|Sq<|Rg<|Dd mv'<|Dd as'<|Zz<|Sq<|Rg<|Dd mv'<|Dd mv'<|Dd mv'<|Dd (xp' so46)<|Dd (lp' Tryz.isAgg9)<|Dd (by exact opr_callV rfl rfl rfl (hfo))<|Zz ?_
  refine Cn (fun hc2=>?_) fun hc2=>?_
  ·skip
   refine Sq<|Rg<|Dd mv'<|Dd as'<|Zz<|awp_ret ?_
   exact aret1 (H':=Hs (k+1)) (.inr rfl) rfl (rval_tmp rfl) Fin.refl ⟨by rw [gidxN,findR_some hlt hc2 hno],by rw [stopN,findR_some hlt hc2 hno]⟩
  skip
  refine awp_skip<|Rg<|Dd ad'<|Dd mv'<|Zz ?_
  refine⟨k+1,⟨by omega,fun j hj=>?_⟩,by omega,E0⟩
  by_cases e:j=k
  ·subst e;exact hc2
  exact hno j (by omega)
 have hge:k=l.length:=by have:=of_decide_eq_false hc1;omega
 subst hge
 refine awp_exit<|Sq<|Rg<|Dd as'<|Zz<|awp_ret ?_
 exact aret1 (H':=Hs l.length) (.inr rfl) rfl (rval_tmp rfl) Fin.refl ⟨by rw [gidxN,findR_none hno],by rw [stopN,findR_none hno]⟩
theorem gidxN_any (p:Nat→Bool) (n:Nat):decide (0≤gidxN p n)=(List.range n).any p:=by
 unfold gidxN
 cases h:(List.range n).find? p with
 | none =>
  have:(List.range n).any p=false:=by
   rw [List.find?_eq_none] at h
   rw [List.any_eq_false]
   exact h
  simp [this]
 | some i =>
  have:(List.range n).any p=true:=List.any_eq_true.2 ⟨i,List.mem_of_find?_eq_some h,List.find?_some h⟩
  simp [this]
theorem containsFuncS (fv:AV) (l:List ByteArray) (p:Nat→Bool) (Hs:Nat→Heap) (hl:l.length < 4611686018427387904) (hf:∀ k s,l[k]?=some s→CallsV Tryz.prog fv [sv s] (Hs k) (fun r H'=>r=bv (p k)∧H'=Hs (k+1))) :
  ACalls Tryz.prog 101 [.pv (slStrs l),fv] (Hs 0) (fun r H'=>r=bv ((List.range l.length).any p)∧H'=Hs (stopN p l.length)):=by
 refine Bd Tryz.func101 rfl Tryz.ntmps101<|Sq<|Rg<|Dd as'<|Zz<|Sq<|Rg<|Dd mv'<|Dd mv'<|Dd (by exact opr_call rfl rfl Tryz.call155 rfl (indexFuncS fv l p Hs hl hf))<|Dd ge'<|Dd as'<|Zz<|awp_ret ?_
 exact aret1 (H':=Hs (stopN p l.length)) (.inr rfl) rfl (rval_tmp rfl) Fin.refl ⟨by rw [gidxN_any],rfl⟩
end
section
theorem sob_clo (L:List ByteArray) (H:Heap):∀ r∈(sob L).rows,∀ a∈r,Clo H a:=by
 intro r hr a ha
 obtain ⟨i,hi⟩:=List.mem_iff_getElem?.1 hr
 obtain ⟨p,hp,rfl⟩:=mrows_get.1 hi
 simp only [sets,List.getElem?_map] at hp
 obtain ⟨q,_,rfl⟩:=Option.map_eq_some_iff.1 hp
 simp only [List.mem_cons,List.not_mem_nil,or_false] at ha
 rcases ha with rfl|rfl|rfl<;>simp
def vH (o:GObj) (last:ByteArray) (L:List ByteArray):Heap:=[(37,sob L),(4,bx 1 9 [sv last]),(3,bx 1 89 [.mp 37 0]),(1,bx 6 49 ((encObj o).map .pv))]
theorem vH_clo (o:GObj) (a:ByteArray) (L:List ByteArray) (f:Nat):Clo (vH o a L) (.clo f [.ref 1 0 0 0,.ref 4 0 0 0,.ref 3 0 0 0]):=by
 refine .clo fun x hx=>?_
 simp only [List.mem_cons,List.not_mem_nil,or_false] at hx
 rcases hx with rfl|rfl|rfl<;>exact .ref rfl
def gTwice (o:GObj) (last:ByteArray) (L:List ByteArray) (s:ByteArray):Bool:=(decide (o.kind=2)&&decide (s=last))||(decide (o.kind=3)&&inB L s)
def gWrong (o:GObj) (last:ByteArray) (L:List ByteArray) (s:ByteArray):Bool:=gTwice o last L s||!gName s
theorem valid1_c (o:GObj) (last s:ByteArray) (L:List ByteArray) (hs:s.size < 4611686018427387904) :
  ACalls Tryz.prog 145 [sv s,.ref 1 0 0 0,.ref 4 0 0 0,.ref 3 0 0 0] (vH o last L) (fun r H'=>r=bv (gWrong o last L s)∧H'=vH o s (sput L s)):=by
 unfold vH
 refine Bd Tryz.func145 rfl Tryz.ntmps145<|Sq<|Rg<|Dd as'<|Zz<|Sq ?_
 refine awp_bool (t:=6) (n:=22) (X:=gTwice o last L s) ?_ ?_
 ·all_goals refine Dd (fr' fo49_1) ?_
  all_goals refine Dd (l1' Tryz.isAgg3) ?_
  all_goals refine Dd eql' ?_
  all_goals refine Dd mv' ?_
  all_goals refine Sp 10 (fun h10=>?_) fun h10=>?_
  all_goals try contradiction
  all_goals first|refine Fo ?_|refine On mv' ?_
  all_goals first|refine Fo ?_|refine On (l1' Tryz.isAgg9) ?_
  all_goals first|refine Fo ?_|refine On se' ?_
  all_goals refine Dd pk' ?_
  all_goals refine Dd mv' ?_
  all_goals refine Sp 15 (fun h15=>?_) fun h15=>?_
  all_goals try contradiction
  all_goals first|refine Fo ?_|refine On (fr' fo49_1) ?_
  all_goals first|refine Fo ?_|refine On (l1' Tryz.isAgg3) ?_
  all_goals first|refine Fo ?_|refine On eql' ?_
  all_goals first|refine Fo ?_|refine On mv' ?_
  all_goals(first|refine Sp 19 (fun h19=>?_) fun h19=>?_|refine al_dup (t:=19) rfl ?_)
  all_goals try contradiction
  all_goals first|refine Fo ?_|refine Fu ?_|refine On (l1' Tryz.isAgg89) ?_
  all_goals first|refine Fo ?_|refine Fu ?_|refine On mv' ?_
  all_goals first|refine Fo ?_|refine Fu ?_|refine On (by exact x_lookup_set rfl Tryz.underlying89 Tryz.underlying9 rfl rfl rfl rfl rfl Tryz.zeroValue4 (.inl rfl)) ?_
  all_goals first|refine Fo ?_|refine On pk' ?_
  all_goals refine Dd pk' ?_
  all_goals refine Dd as' ?_
  all_goals refine al_nil ?_
  all_goals(exact⟨⟨_,rfl,by(simp only [gTwice, *];rfl)⟩,rfl,rfl,rfl⟩)
 refine Sq<|Rg<|Dd (l1' Tryz.isAgg89)<|Dd mv'<|Dd mv'<|Uu (by exact x_put_set (.inl rfl) Tryz.underlying89 Tryz.underlying9 rfl rfl rfl rfl rfl rfl rfl)<|Uu (sa' Tryz.sizeOf9)<|Zz<|Sq ?_
 refine awp_bool (t:=5) (n:=8) (X:=gTwice o last L s||!gName s) ?_ ?_
 ·all_goals refine Dd mv' ?_
  all_goals refine Dd mv' ?_
  all_goals refine Sp 29 (fun h29=>?_) fun h29=>?_
  all_goals try contradiction
  all_goals first|refine Fo ?_|refine On mv' ?_
  all_goals first|refine Fo ?_|refine On (by exact opr_call rfl rfl Tryz.call142 rfl (name_c s _ hs)) ?_
  all_goals first|refine Fo ?_|refine On no' ?_
  all_goals refine Dd pk' ?_
  all_goals refine Dd as' ?_
  all_goals refine al_nil ?_
  all_goals(exact⟨⟨_,rfl,by(simp only [*];rfl)⟩,rfl,rfl,rfl⟩)
 refine awp_ret ?_
 refine aret1 (H':=vH o s (sput L s)) (.inr rfl) rfl (rval_tmp rfl) (Fin.wk (by(simp;done)) (Hc (sob_clo _ _)<|Hb<|Ha<|Hb<|trivial) ⟨rfl,rfl,rfl,rfl,trivial⟩) ?_
 exact⟨rfl,rfl⟩
/-- The keys that have come. -/
def seenL (l:List ByteArray):Nat→List ByteArray
 | 0=>[]
 | k+1=>sput (seenL l k) ((l[k]?).getD sNil)
def wrongAt (o:GObj) (k:Nat):Bool:=match o.refs[k]? with
 | some s=>gWrong o (before id o.refs k) (seenL o.refs k) s
 | none=>false
def gKind (o:GObj):Bool:=if o.kind=1 then decide ((o.refs.length:Int)=0)&&gOn o.x o.y else if o.kind=5 then decide ((o.refs.length:Int)=3)&&(decide (o.x=0)&&decide (o.y=0))else decide (o.x=0)&&decide (o.y=0)
def gHeadN (o:GObj) (n:Int):Bool:=decide (gWord o.kind=sNil)||!gName o.id||!gTags o.tags||decide (n < gLeast o.kind)||decide (2000 < n)
def gHead (o:GObj):Bool:=gHeadN o (o.refs.length:Int)
def gObj (o:GObj):Bool:=!gHead o&&(!((List.range o.refs.length).any (wrongAt o))&&gKind o)
def okO (o:GObj):Prop:=o.id.size < 4611686018427387904∧okTags o.tags∧o.refs.length < 4611686018427387904∧∀ s∈o.refs,s.size < 4611686018427387904
theorem word_kind {k:Int} (h:decide (gWord k=sNil)=false):0≤k∧k < 6:=by
 by_cases h0:0≤k∧k < 6
 ·exact h0
 have:gWord k=sNil:=by
  have hn:¬ (k=1)∧¬ (k=2)∧¬ (k=3)∧¬ (k=4)∧¬ (k=5):=by omega
  simp only [gWord,hn.1,hn.2.1,hn.2.2.1,hn.2.2.2.1,hn.2.2.2.2,if_false]
 rw [this] at h
 simp at h
theorem objValid_c (o:GObj) (H:Heap) (ho:okO o):ACalls Tryz.prog 91 [av (encObj o)] H (fun r H'=>r=bv (gObj o)∧H'=H):=by
 refine ACalls.pure ?_ (by simp) H
 obtain ⟨h1,h2,h3,h4⟩:=ho
 have hml:(o.refs.map encStr).length=o.refs.length:=List.length_map _
 refine Bd Tryz.func91 rfl Tryz.ntmps91<|Sq<|Rg<|Dd (by exact opd_box (id:=1) rfl rfl rfl rfl rfl)<|Dd as'<|Zz<|Sq<|Sq ?_
 refine awp_mergeR (t:=36) (n:=31) (X:=gHeadN o ((o.refs.map encStr).length:Int)) ?_ ?_
 ·cases hg10:(decide (gWord o.kind=sNil):Bool)
  ·cases hg16:(!gName o.id:Bool)
   ·cases hg22:(!gTags o.tags:Bool)
    ·cases hg31:(decide (((o.refs.map encStr).length:Int) < gLeast o.kind):Bool)
     ·refine awp_drawc follows ?_
      refine Cq (fr' fo49_1)<|Cq (l1' Tryz.isAgg3)<|Cq (by exact opr_call rfl rfl Tryz.call122 rfl (word_c o.kind _))<|Cq se'<|Cq mv'<|Nf (fr' fo49_0)<|Nf (l1' Tryz.isAgg9)<|Nf (by exact opr_call rfl rfl Tryz.call142 rfl (name_c o.id _ h1))<|Nf no'<|Cq pf'<|Cq mv'<|Nf (fr' fo49_4)<|Nf (l1' Tryz.isAgg47)<|Nf (by exact opr_call rfl rfl Tryz.call143 rfl (tagValid_c o.tags _ h2))<|Nf no'<|Cq pf'<|Cq mv'<|Nf (fr' fo49_3)<|Nf (l1' Tryz.isAgg46)<|Nf (ll' Tryz.underlying46)<|Nf (fr' fo49_1)<|Nf (l1' Tryz.isAgg3)<|Nf (by exact opr_call rfl rfl Tryz.call144 rfl (least_c o.kind _ (word_kind hg10).1 (word_kind hg10).2))<|Nf lss'<|Cq pf'<|Cq mv'<|Nf (fr' fo49_3)<|Nf (l1' Tryz.isAgg46)<|Nf (ll' Tryz.underlying46)<|Nf gt'<|Cq pf' ?_
      refine dc_nil ⟨by kernel_rfl,?_⟩
      exact⟨rfl,⟨_,rfl,by(simp only [gHeadN,hg10,hg16,hg22,hg31];rfl)⟩,rfl,rfl,rfl⟩
     refine awp_drawc follows ?_
     refine Cq (fr' fo49_1)<|Cq (l1' Tryz.isAgg3)<|Cq (by exact opr_call rfl rfl Tryz.call122 rfl (word_c o.kind _))<|Cq se'<|Cq mv'<|Nf (fr' fo49_0)<|Nf (l1' Tryz.isAgg9)<|Nf (by exact opr_call rfl rfl Tryz.call142 rfl (name_c o.id _ h1))<|Nf no'<|Cq pf'<|Cq mv'<|Nf (fr' fo49_4)<|Nf (l1' Tryz.isAgg47)<|Nf (by exact opr_call rfl rfl Tryz.call143 rfl (tagValid_c o.tags _ h2))<|Nf no'<|Cq pf'<|Cq mv'<|Nf (fr' fo49_3)<|Nf (l1' Tryz.isAgg46)<|Nf (ll' Tryz.underlying46)<|Nf (fr' fo49_1)<|Nf (l1' Tryz.isAgg3)<|Nf (by exact opr_call rfl rfl Tryz.call144 rfl (least_c o.kind _ (word_kind hg10).1 (word_kind hg10).2))<|Nf lss'<|Cq pf'<|Cq mv'<|Of<|Of<|Of<|Of<|Cq pt' ?_
     refine dc_nil ⟨by kernel_rfl,?_⟩
     exact⟨rfl,⟨_,rfl,by(simp only [gHeadN,hg10,hg16,hg22,hg31];rfl)⟩,rfl,rfl,rfl⟩
    refine awp_drawc follows ?_
    refine Cq (fr' fo49_1)<|Cq (l1' Tryz.isAgg3)<|Cq (by exact opr_call rfl rfl Tryz.call122 rfl (word_c o.kind _))<|Cq se'<|Cq mv'<|Nf (fr' fo49_0)<|Nf (l1' Tryz.isAgg9)<|Nf (by exact opr_call rfl rfl Tryz.call142 rfl (name_c o.id _ h1))<|Nf no'<|Cq pf'<|Cq mv'<|Nf (fr' fo49_4)<|Nf (l1' Tryz.isAgg47)<|Nf (by exact opr_call rfl rfl Tryz.call143 rfl (tagValid_c o.tags _ h2))<|Nf no'<|Cq pf'<|Cq mv'<|Of<|Of<|Of<|Of<|Of<|Of<|Of<|Cq pt'<|Cq mv'<|Of<|Of<|Of<|Of<|Cq pk' ?_
    refine dc_nil ⟨by kernel_rfl,?_⟩
    exact⟨rfl,⟨_,rfl,by(simp only [gHeadN, *];rfl)⟩,rfl,rfl,rfl⟩
   refine awp_drawc follows ?_
   refine Cq (fr' fo49_1)<|Cq (l1' Tryz.isAgg3)<|Cq (by exact opr_call rfl rfl Tryz.call122 rfl (word_c o.kind _))<|Cq se'<|Cq mv'<|Nf (fr' fo49_0)<|Nf (l1' Tryz.isAgg9)<|Nf (by exact opr_call rfl rfl Tryz.call142 rfl (name_c o.id _ h1))<|Nf no'<|Cq pf'<|Cq mv'<|Of<|Of<|Of<|Of<|Cq pt'<|Cq mv'<|Of<|Of<|Of<|Of<|Of<|Of<|Of<|Cq pk'<|Cq mv'<|Of<|Of<|Of<|Of<|Cq pk' ?_
   refine dc_nil ⟨by kernel_rfl,?_⟩
   exact⟨rfl,⟨_,rfl,by(simp only [gHeadN, *];rfl)⟩,rfl,rfl,rfl⟩
  refine awp_drawc follows ?_
  refine Cq (fr' fo49_1)<|Cq (l1' Tryz.isAgg3)<|Cq (by exact opr_call rfl rfl Tryz.call122 rfl (word_c o.kind _))<|Cq se'<|Cq mv'<|Of<|Of<|Of<|Of<|Cq pt'<|Cq mv'<|Of<|Of<|Of<|Of<|Cq pk'<|Cq mv'<|Of<|Of<|Of<|Of<|Of<|Of<|Of<|Cq pk'<|Cq mv'<|Of<|Of<|Of<|Of<|Cq pk' ?_
  refine dc_nil ⟨by kernel_rfl,?_⟩
  exact⟨rfl,⟨_,rfl,by(simp only [gHeadN, *];rfl)⟩,rfl,rfl,rfl⟩
 refine Cn (fun hc1=>?_) fun hc1=>?_
 ·skip
  refine Sq<|Rg<|Dd as'<|Zz<|awp_ret ?_
  refine Rt ?_
  exact⟨by rw [gObj,gHead,← hml,hc1];rfl,rfl⟩
 skip
 refine awp_skip<|Sq<|Rg<|Dd (by exact opd_makeMap (id:=37) strK rfl rfl)<|Dd (by exact x_alloc (id:=3) rfl zo89 rfl rfl)<|Uu (sa' Tryz.sizeOf89)<|Zz<|Sq<|Rg<|Dd (by exact x_alloc (id:=4) rfl zo9 rfl rfl)<|Uu (sa' Tryz.sizeOf9)<|Zz ?_
 refine awp_seq_to ([(1,.ref 1 0 0 0),(5,.clo 145 [.ref 1 0 0 0,.ref 4 0 0 0,.ref 3 0 0 0])]) (vH o sNil []) ?_ ?_
 ·skip
  refine Rg<|Dd (by exact opd_makeFunc rfl rfl)<|Dd as'<|Zz ?_
  exact(Ent.wk (Ea<|Ec (vH_clo _ _ _ _)<|trivial) (Hc (sob_clo _ _)<|Hb<|Ha<|Hb<|trivial) trivial)
 skip
 refine Sq<|Sq<|Rg<|Dd (fr' fo49_3)<|Dd (l1' Tryz.isAgg46)<|Dd mv'<|Dd (by exact opr_call rfl rfl Tryz.call101 rfl (containsFuncS _ o.refs (wrongAt o) (fun k=>vH o (before id o.refs k) (seenL o.refs k)) h3 (fun k s hk=>CallsV.clo Tryz.call145 (by rw [wrongAt,hk,before_succ hk];simp only [seenL,hk];exact valid1_c o _ s _ (h4 s (List.mem_of_getElem? hk))))))<|Zz ?_
 refine Cn (fun hc2=>?_) fun hc2=>?_
 ·skip
  refine Sq<|Rg<|Dd as'<|Zz<|awp_ret ?_
  refine Rt ?_
  exact⟨by rw [gObj,hc2];simp,rfl⟩
 have hfin:gObj o=gKind o:=by have h:=hc1;rw [hml] at h;rw [gObj,gHead,h,hc2];rfl
 rw [hfin]
 clear hfin
 generalize before id o.refs (stopN (wrongAt o) o.refs.length)=la
 generalize seenL o.refs (stopN (wrongAt o) o.refs.length)=LL
 unfold vH
 refine awp_skip<|Sq<|Sq<|Rg<|Dd (fr' fo49_1)<|Dd (l1' Tryz.isAgg3)<|Zz<|awp_block<|Sq<|Rg<|Dd eql'<|Dd as'<|Zz ?_
 refine Cn (fun hc3=>?_) fun hc3=>?_
 ·skip
  refine Sq ?_
  refine awp_bool (t:=2) (n:=11) (X:=decide (((o.refs.map encStr).length:Int)=0)&&gOn o.x o.y) ?_ ?_
  ·all_goals refine Dd (fr' fo49_3) ?_
   all_goals refine Dd (l1' Tryz.isAgg46) ?_
   all_goals refine Dd (ll' Tryz.underlying46) ?_
   all_goals refine Dd eql' ?_
   all_goals refine Dd mv' ?_
   all_goals refine Sp 51 (fun h51=>?_) fun h51=>?_
   all_goals try contradiction
   all_goals first|refine Fo ?_|refine On (fr' fo49_2) ?_
   all_goals first|refine Fo ?_|refine On (by exact opd_loadn_ref rfl Tryz.isAgg45 Tryz.sizeOf45 rfl rfl rfl rfl (by simp only [Zl,encTag,encObj];rfl) rfl) ?_
   all_goals first|refine Fo ?_|refine On (by exact opr_call rfl rfl Tryz.call146 rfl (on_c o.x o.y _)) ?_
   all_goals refine Dd pk' ?_
   all_goals refine Dd as' ?_
   all_goals refine al_nil ?_
   all_goals(exact⟨⟨_,rfl,by(simp_all;done)⟩,rfl,rfl,rfl⟩)
  refine awp_ret ?_
  refine Rt ?_
  exact⟨by rw [gKind,if_pos (of_decide_eq_true hc3),← hml],rfl⟩
 skip
 refine Sq<|Rg<|Dd eql'<|Dd as'<|Zz ?_
 refine Cn (fun hc4=>?_) fun hc4=>?_
 ·skip
  refine Sq ?_
  refine awp_bool (t:=2) (n:=12) (X:=decide (((o.refs.map encStr).length:Int)=3)&&(decide (o.x=0)&&decide (o.y=0))) ?_ ?_
  ·all_goals refine Dd (fr' fo49_3) ?_
   all_goals refine Dd (l1' Tryz.isAgg46) ?_
   all_goals refine Dd (ll' Tryz.underlying46) ?_
   all_goals refine Dd eql' ?_
   all_goals refine Dd mv' ?_
   all_goals refine Sp 62 (fun h62=>?_) fun h62=>?_
   all_goals try contradiction
   all_goals first|refine Fo ?_|refine On (fr' fo49_2) ?_
   all_goals first|refine Fo ?_|refine On (by exact opd_loadn_ref rfl Tryz.isAgg45 Tryz.sizeOf45 rfl rfl rfl rfl (by simp only [Zl,encTag,encObj];rfl) rfl) ?_
   all_goals first|refine Fo ?_|refine On (bu' bo45) ?_
   all_goals first|refine Fo ?_|refine On (by exact opd_aeql rfl rfl rfl rfl rfl Tryz.eqGuardType45 (se45 _ _ _ _)) ?_
   all_goals refine Dd pk' ?_
   all_goals refine Dd as' ?_
   all_goals refine al_nil ?_
   all_goals(exact⟨⟨_,rfl,by(simp_all;done)⟩,rfl,rfl,rfl⟩)
  refine awp_ret ?_
  refine Rt ?_
  exact⟨by rw [gKind,if_neg (of_decide_eq_false hc3),if_pos (of_decide_eq_true hc4),← hml],rfl⟩
 skip
 refine awp_skip<|Sq<|Rg<|Dd (fr' fo49_2)<|Dd (by exact opd_loadn_ref rfl Tryz.isAgg45 Tryz.sizeOf45 rfl rfl rfl rfl (by simp only [Zl,encTag,encObj];rfl) rfl)<|Dd (bu' bo45)<|Dd (by exact opd_aeql rfl rfl rfl rfl rfl Tryz.eqGuardType45 (se45 _ _ _ _))<|Dd as'<|Zz<|awp_ret ?_
 refine Rt ?_
 exact⟨by rw [gKind,if_neg (of_decide_eq_false hc3),if_neg (of_decide_eq_false hc4)],rfl⟩
end
section
def badObj (last:ByteArray) (o:GObj):Bool:=!gObj o||sle o.id last
def gMap (m:List GObj):Bool:=!((List.range m.length).any (badAt badObj GObj.id m))&&decide ((m.length:Int)≤1000000)
def okM (m:List GObj):Prop:=m.length < 4611686018427387904∧∀ o∈m,okO o
theorem atlasValid_c (m:List GObj) (H:Heap) (hm:okM m):ACalls Tryz.prog 116 [.agg [.pv (slObjs m)]] H (fun r H'=>r=bv (gMap m)∧H'=H):=by
 refine ACalls.pure ?_ (by simp) H
 obtain ⟨hl,hos⟩:=hm
 have hml:(m.map encObj).length=m.length:=List.length_map _
 refine Bd Tryz.func116 rfl Tryz.ntmps116<|Sq<|Rg<|Dd (by exact opd_box (id:=1) rfl rfl rfl rfl rfl)<|Dd as'<|Zz<|Sq<|Rg<|Dd as'<|Zz<|Sq<|Sq<|Rg<|Dd (fr' fo38_0)<|Dd (l1' Tryz.isAgg36)<|Dd (ll' Tryz.underlying36)<|Dd mv'<|Zz<|awp_block ?_
 refine awp_loop (σ:=Nat) (fun k=>([(1,.ref 1 0 0 0),(3,sv (before GObj.id m k)),(7,.pv (slObjs m)),(8,iv ((m.map encObj).length:Int)),(9,iv (k:Int))],[(1,bx 1 38 [.pv (slObjs m)])])) (fun k=>k≤m.length∧∀ j,j < k→badAt badObj GObj.id m j=false) (fun k=>m.length - k) 0 ⟨by omega,by omega⟩ ?_ ?_
 ·exact Wk
 rintro k ⟨hk,hno⟩
 refine Sq<|Rg<|Dd lss'<|Zz<|Sq ?_
 refine Cn (fun hc1=>?_) fun hc1=>?_
 ·have hlt:k < m.length:=by have:=of_decide_eq_true hc1;omega
  obtain ⟨o,ho⟩:=get_of_lt hlt
  have hi:=map_get (f:=encObj) ho
  have hoo:=hos o (List.mem_of_getElem? ho)
  refine awp_skip<|Sq<|awp_block<|Sq<|Rg<|Dd (xp' so36)<|Dd (by exact opd_loadn_pad rfl Tryz.isAgg49 Tryz.sizeOf49 rfl (by omega) (by simp only [Zl,encTag,encObj];rfl) rfl)<|Dd (by exact x_alloc (id:=5) rfl zo49 rfl rfl)<|Uu (sa' Tryz.sizeOf49)<|Zz<|Sq<|Sq ?_
  refine awp_bool (t:=21) (n:=10) (X:=badObj (before GObj.id m k) o) ?_ ?_
  ·all_goals refine Dd (by exact opd_loadn_ref rfl Tryz.isAgg49 Tryz.sizeOf49 rfl rfl rfl rfl (by simp only [Zl,encTag,encObj];rfl) rfl) ?_
   all_goals refine Dd (by exact opr_call rfl rfl Tryz.call91 rfl (objValid_c o _ hoo)) ?_
   all_goals refine Dd no' ?_
   all_goals refine Dd mv' ?_
   all_goals refine Sp 16 (fun h16=>?_) fun h16=>?_
   all_goals try contradiction
   all_goals first|refine Fo ?_|refine On (fr' fo49_0) ?_
   all_goals first|refine Fo ?_|refine On (l1' Tryz.isAgg9) ?_
   all_goals first|refine Fo ?_|refine On mv' ?_
   all_goals first|refine Fo ?_|refine On (by exact opd_sleq rfl rfl rfl) ?_
   all_goals refine Dd pk' ?_
   all_goals refine al_nil ?_
   all_goals(exact⟨⟨_,rfl,by(simp only [badObj,sle, *];rfl)⟩,rfl,rfl,rfl⟩)
  refine Cn (fun hc2=>?_) fun hc2=>?_
  ·skip
   refine Sq<|Rg<|Dd as'<|Zz<|awp_ret ?_
   refine Rt ?_
   exact⟨by rw [gMap,range_some hlt ((badAt_some ho).trans hc2)];rfl,rfl⟩
  skip
  refine awp_skip<|Rg<|Dd (fr' fo49_0)<|Dd (l1' Tryz.isAgg9)<|Dd as'<|Zz<|Rg<|Dd ad'<|Dd mv'<|Zz ?_
  refine⟨k+1,⟨by omega,fun j hj=>?_⟩,by omega,?_⟩
  ·by_cases e:j=k
   ·subst e;exact(badAt_some ho).trans hc2
   exact hno j (by omega)
  rw [before_succ ho]
  exact Wk
 have hge:k=m.length:=by have:=of_decide_eq_false hc1;omega
 subst hge
 refine awp_exit<|Sq<|Rg<|Dd (fr' fo38_0)<|Dd (l1' Tryz.isAgg36)<|Dd (ll' Tryz.underlying36)<|Dd le'<|Dd as'<|Zz<|awp_ret ?_
 refine Rt ?_
 exact⟨by rw [gMap,range_any hno,← hml];rfl,rfl⟩
end
section
def wfI (n:Int):Prop:=(Lit.int .i64 n).wf=true
def szTag (B:Nat) (t:GTag):Prop:=t.key.size≤B∧t.val.size≤B
def szStrs (B:Nat) (l:List ByteArray):Prop:=l.length≤B∧∀ s,s∈l→s.size≤B
def szTags (B:Nat) (l:List GTag):Prop:=l.length≤B∧∀ s,s∈l→szTag B s
def szObj (B:Nat) (o:GObj):Prop:=o.id.size≤B∧wfI o.kind∧wfI o.x∧wfI o.y∧szStrs B o.refs∧szTags B o.tags
def szMap (B:Nat) (m:List GObj):Prop:=m.length≤B∧∀ o,o∈m→szObj B o
section
variable {B n:Nat} {ps:List PV}
theorem d_strs (h:Sh Tryz.prog B (n+2) 46 ps):∃ l,ps=[slStrs l]∧szStrs B l:=by
 obtain ⟨l,rfl,h1,h2⟩:=sh_rows (f:=encStr) (good:=fun s=>s.size≤B) Tryz.underlying46 h (fun r hr=>by
  obtain ⟨s,rfl,hs⟩:=sh_str Tryz.underlying9 hr
  exact⟨s,rfl,hs⟩)
 exact⟨l,rfl,h1,h2⟩
theorem d_tag (h:Sh Tryz.prog B (n+2) 117 ps):∃ t,ps=encTag t∧szTag B t:=by
 obtain ⟨a,b,rfl,_,h1,a2,b2,rfl,_,h2,rfl⟩:=sh_struct Tryz.underlying117 h
 obtain ⟨k,rfl,hk⟩:=sh_str Tryz.underlying9 h1
 obtain ⟨v,rfl,hv⟩:=sh_str Tryz.underlying9 h2
 exact⟨⟨k,v⟩,rfl,hk,hv⟩
theorem d_tags (h:Sh Tryz.prog B (n+3) 47 ps):∃ l,ps=[slTags l]∧szTags B l:=by
 obtain ⟨l,rfl,h1,h2⟩:=sh_rows (f:=encTag) (good:=szTag B) Tryz.underlying47 h (fun r hr=>d_tag hr)
 exact⟨l,rfl,h1,h2⟩
theorem d_point (h:Sh Tryz.prog B (n+2) 45 ps):∃ x y,ps=[.int .i64 x,.int .i64 y]∧wfI x∧wfI y:=by
 obtain ⟨a,b,rfl,_,h1,a2,b2,rfl,_,h2,rfl⟩:=sh_struct Tryz.underlying45 h
 obtain ⟨x,rfl,hx⟩:=sh_int Tryz.underlying3 h1
 obtain ⟨y,rfl,hy⟩:=sh_int Tryz.underlying3 h2
 exact⟨x,y,rfl,hx,hy⟩
theorem d_obj (h:Sh Tryz.prog B (n+4) 49 ps):∃ o,ps=encObj o∧szObj B o:=by
 obtain ⟨_,_,rfl,_,h1,_,_,rfl,_,h2,_,_,rfl,_,h3,_,_,rfl,_,h4,_,_,rfl,_,h5,rfl⟩:=sh_struct Tryz.underlying49 h
 obtain ⟨id,rfl,q1⟩:=sh_str Tryz.underlying9 h1
 obtain ⟨k,rfl,q2⟩:=sh_int Tryz.underlying3 h2
 obtain ⟨x,y,rfl,q3,q4⟩:=d_point h3
 obtain ⟨rs,rfl,q5⟩:=d_strs h4
 obtain ⟨ts,rfl,q6⟩:=d_tags h5
 exact⟨⟨id,k,x,y,rs,ts⟩,rfl,q1,q2,q3,q4,q5,q6⟩
theorem d_objs (h:Sh Tryz.prog B (n+5) 36 ps):∃ l,ps=[slObjs l]∧szMap B l:=by
 obtain ⟨l,rfl,h1,h2⟩:=sh_rows (f:=encObj) (good:=szObj B) Tryz.underlying36 h (fun r hr=>d_obj hr)
 exact⟨l,rfl,h1,h2⟩
theorem d_map (h:Sh Tryz.prog B (n+6) 38 ps):∃ l,ps=[slObjs l]∧szMap B l:=by
 obtain ⟨_,_,rfl,_,h1,rfl⟩:=sh_struct Tryz.underlying38 h
 obtain ⟨l,rfl,q⟩:=d_objs h1
 exact⟨l,rfl,q⟩
end
theorem okTags_of {B:Nat} {l:List GTag} (hB:B < 4611686018427387904) (h:szTags B l):okTags l:=⟨by have:=h.1;omega,fun t ht=>⟨by have:=(h.2 t ht).1;omega,by have:=(h.2 t ht).2;omega⟩⟩
theorem okO_of {B:Nat} {o:GObj} (hB:B < 4611686018427387904) (h:szObj B o):okO o :=
 ⟨by have:=h.1;omega,okTags_of hB h.2.2.2.2.2,by have:=h.2.2.2.2.1.1;omega,fun s hs=>by have:=h.2.2.2.2.1.2 s hs;omega⟩
theorem okM_of {B:Nat} {m:List GObj} (hB:B < 4611686018427387904) (h:szMap B m):okM m:=⟨by have:=h.1;omega,fun o ho=>okO_of hB (h.2 o ho)⟩
end
end Go.Proofs.YtlnfjkdacimblaaGreatDoor
namespace Go.Proofs.YtlnfjkdacimblaaGreatDoor
open Go.Abs Go.ChangeShapes Go.WideShapes Go.ChangeAt Go.RowKit
section
theorem own:ownKnob Tryz.prog.godebug=none:=by kernel_rfl
theorem laidOut:laidOutB Tryz.prog=true:=by kernel_rfl
theorem upto_bound {H:Type} {l:List (DataW H)} (hk:Rows.uptoSmall H l=true):Rows.uptoBulkAll l≤1048576:=of_decide_eq_true hk
theorem bulk_left {H:Type} {l r:List (DataW H)} {n:Nat} (h:Rows.uptoBulkAll (l++r)≤n):Rows.uptoBulkAll l≤n:=by
 induction l generalizing n with
 | nil=>simp [Rows.uptoBulkAll]
 | cons x l ih =>
  simp only [List.cons_append,Rows.uptoBulkAll] at h ⊢
  have:=ih (n:=n - Rows.uptoBulk x) (by omega)
  omega
end
end Go.Proofs.YtlnfjkdacimblaaGreatDoor
namespace Go.Abs
section
theorem Ent.get' {G0:Heap} {E E':Env} {H H':Heap} (h:EOk0 E E') (hH:∀ j,H'.get j=H.get j):Ent G0 E H E' H':=(Ent.e0 h).trans (Ent.get (fun _=>rfl) hH)
theorem get_dup (id:Nat) (o o':Ob) (H:Heap) (j:Nat):Heap.get ((id,o)::H) j=Heap.get ((id,o)::(id,o')::H) j:=by
 cases e:Nat.beq id j<;>simp [Heap.get,e]
/-- The object in front was written anew. -/
theorem Ent.dup {G0:Heap} {E E':Env} {H:Heap} {id:Nat} {o o':Ob} (h:EOk0 E E'):Ent G0 E ((id,o)::(id,o')::H) E' ((id,o)::H):=Ent.get' h (get_dup id o o' H)
theorem Kept.app {D H G0:Heap} (hG:∀ p∈D,G0.get p.1=none):Kept G0 H (D++H):=fun id hi=>by
 rw [hget_app]
 cases e:D.get id with
 | none=>rfl
 | some o =>
  have:=hG _ (mem_of_hget e)
  rw [this] at hi
  cases hi
/-- The objects in front end with the call. -/
theorem Fin.pops' {G0 H:Heap} {r:AV} (D:Heap) (hr:Clo H r) (hc:Closed H) (hD:∀ p∈D,H.get p.1=none) (hG:∀ p∈D,G0.get p.1=none):Fin G0 (D++H) r H r:=by
 intro G hG' I ι w v h1 h2 h3
 subst hG'
 exact⟨I,ι,h1.restrict (Sub.app hD) hc,h2.restrict (Sub.app hD) (Kept.app hG),h3.restrict (Sub.app hD) hr⟩
/-- The result's slice is frozen. -/
theorem Fin.fzC {G0 H H':Heap} {r r':AV} {id:Nat} {ob:Ob} (ps:List (List PV)) (hH:H.get id=some ob) (hps:ob.rows=ps.map (·.map .pv)) (hf:Fz H' id ob.g ps r r') (hno:H'.get id=none) (hs:Sub H' H) (hc:Closed H') (hk:Kept G0 H' H):Fin G0 H r H' r':=by
 intro G hG I ι w v h1 h2 h3
 subst hG
 exact⟨_,ι,h1.freeze hs hc hH hno,h2.freeze hs hk hH,VRel.freeze h1 hs hH hps hf h3⟩
/-- An owned slice in front is what is returned. -/
theorem Fin.slice {G0 H:Heap} {id g n:Nat} {ob:Ob} (D:Heap) (ps:List (List PV)) (hH:Heap.get (D++H) id=some ob) (hg:ob.g=g) (hps:ob.rows=ps.map (·.map .pv)) (hn:ps.length=n) (hc:Closed H) (hD:∀ p∈D,H.get p.1=none) (hG:∀ p∈D,G0.get p.1=none) (hid:H.get id=none) :
  Fin G0 (D++H) (.osl id g 0 n) H (.pv (.sl ps)):=by
 subst hg hn
 exact Fin.fzC ps hH hps (.osl (by rw [Nat.zero_add,List.drop_zero,List.take_length])) hid (Sub.app hD) hc (Kept.app hG)
end
end Go.Abs
namespace Go.Proofs.YtlnfjkdacimblaaGreatDoor
open Go.Abs
section
/-- The model's order of texts is the lexical one. -/
theorem bytesLess_eq:∀ (x y:List UInt8),Op.bytesLess x y=decide (x < y)
 | [],[]=>by simp [Op.bytesLess]
 | _::_,[]=>by simp [Op.bytesLess]
 | [],_::_=>by simp [Op.bytesLess]
 | a::x,b::y=>by
  rw [Op.bytesLess,bytesLess_eq x y]
  simp only [List.cons_lt_cons_iff]
  by_cases h1:a < b<;>by_cases h2:a=b<;>by_cases h3:x < y<;>simp [h1,h2,h3]
theorem slt_irr (s:ByteArray):slt s s=false:=by
 unfold slt
 rw [bytesLess_eq]
 exact decide_eq_false (List.lt_irrefl _)
theorem slt_tri {a b:ByteArray} (h1:slt a b=false) (h2:slt b a=false):a=b:=by
 unfold slt at h1 h2
 rw [bytesLess_eq] at h1 h2
 have e:a.toList=b.toList:=List.le_antisymm (List.not_lt.1 (of_decide_eq_false h2)) (List.not_lt.1 (of_decide_eq_false h1))
 have:=list_beq a b
 rw [e] at this
 simpa using this.symm
theorem slt_trans {a b c:ByteArray} (h1:slt a b=true) (h2:slt b c=true):slt a c=true:=by
 unfold slt at *
 rw [bytesLess_eq] at *
 exact decide_eq_true (List.lt_trans (of_decide_eq_true h1) (of_decide_eq_true h2))
theorem slt_nil (s:ByteArray):slt s sNil=false:=by
 unfold slt
 rw [bytesLess_eq,ByteArray.toList_eq sNil]
 exact decide_eq_false (List.not_lt_nil _)
theorem sle_iff {a b:ByteArray}:sle a b=false↔slt b a=true:=by
 unfold sle
 constructor
 ·intro h
  simp only [Bool.or_eq_false_iff,decide_eq_false_iff_not] at h
  cases e:slt b a with
  | true=>rfl
  | false=>exact absurd (slt_tri h.1 e) h.2
 intro h
 simp only [Bool.or_eq_false_iff,decide_eq_false_iff_not]
 refine⟨?_,fun e=>?_⟩
 ·cases e:slt a b with
  | false=>rfl
  | true=>have:=slt_trans e h;rw [slt_irr] at this;cases this
 subst e;rw [slt_irr] at h;cases h
/-- Ids in increasing order. -/
def ups (m:List GObj):Prop:=m.Pairwise (fun a b=>slt a.id b.id=true)
theorem gObj_name {o:GObj} (h:gObj o=true):gName o.id=true:=by
 simp only [gObj,gHead,gHeadN,Bool.and_eq_true,Bool.not_eq_true',Bool.or_eq_false_iff,Bool.not_eq_false'] at h
 exact h.1.1.1.1.2
theorem gName_ne {s:ByteArray} (h:gName s=true):s≠sNil:=by
 simp only [gName,Bool.and_eq_true,Bool.not_eq_true',decide_eq_false_iff_not] at h
 exact h.2.1
theorem badObj_iff {last:ByteArray} {o:GObj}:badObj last o=false↔gObj o=true∧slt last o.id=true:=by
 rw [badObj,Bool.or_eq_false_iff,sle_iff,Bool.not_eq_false']
theorem badAt_all {m:List GObj}:(List.range m.length).any (badAt badObj GObj.id m)=false↔(∀ o∈m,gObj o=true)∧ups m:=by
 rw [List.any_eq_false]
 constructor
 ·intro h
  have hb:∀ k o,m[k]?=some o→gObj o=true∧slt (before GObj.id m k) o.id=true:=fun k o ho=>by
   have:=h k (List.mem_range.2 (List.getElem?_eq_some_iff.1 ho).1)
   rw [badAt_some ho,Bool.not_eq_true] at this
   exact badObj_iff.1 this
  refine⟨fun o ho=>?_,?_⟩
  ·obtain ⟨k,hk⟩:=List.mem_iff_getElem?.1 ho
   exact(hb k o hk).1
  have key:∀ (d i:Nat) (a b:GObj),m[i]?=some a→m[i+d+1]?=some b→slt a.id b.id=true:=by
   intro d
   induction d with
   | zero =>
    intro i a b ha hb'
    have:=(hb _ _ hb').2
    rw [Nat.add_zero,before_succ ha] at this
    exact this
   | succ d ih =>
    intro i a b ha hb'
    obtain ⟨c,hc⟩:=get_of_lt (l:=m) (k:=i+d+1) (by have:=(List.getElem?_eq_some_iff.1 hb').1;omega)
    have h1:=ih i a c ha hc
    have h2:=(hb _ _ hb').2
    rw [show i+(d+1)=i+d+1 from rfl,before_succ hc] at h2
    exact slt_trans h1 h2
  rw [ups,List.pairwise_iff_getElem]
  intro i j hi hj hij
  have:=key (j - i - 1) i m[i] m[j] (List.getElem?_eq_getElem hi) (by rw [show i+(j - i - 1)+1=j by omega];exact List.getElem?_eq_getElem hj)
  exact this
 rintro⟨h1,h2⟩ k hk
 have hlt:=List.mem_range.1 hk
 have ho:=List.getElem?_eq_getElem hlt
 rw [badAt_some ho,Bool.not_eq_true,badObj_iff]
 refine⟨h1 _ (List.getElem_mem hlt),?_⟩
 cases k with
 | zero =>
  have hn:=gName_ne (gObj_name (h1 _ (List.getElem_mem hlt)))
  show slt sNil _=true
  cases e:slt sNil (m[0]).id with
  | true=>rfl
  | false=>exact absurd (slt_tri (slt_nil _) e) hn
 | succ k =>
  rw [before_succ (List.getElem?_eq_getElem (show k < m.length by omega))]
  rw [ups,List.pairwise_iff_getElem] at h2
  exact h2 k (k+1) (by omega) hlt (by omega)
theorem gMap_iff {m:List GObj}:gMap m=true↔(∀ o∈m,gObj o=true)∧ups m∧(m.length:Int)≤1000000:=by
 rw [gMap,Bool.and_eq_true,Bool.not_eq_true',badAt_all,decide_eq_true_iff,and_assoc]
theorem inB_iff {l:List ByteArray} {s:ByteArray}:inB l s=true↔s∈l:=by
 unfold inB
 rw [List.any_eq_true]
 constructor
 ·rintro⟨a,h1,h2⟩
  rw [← of_decide_eq_true h2];exact h1
 intro h
 exact⟨s,h,decide_eq_true rfl⟩
end
section
/-- slices.IndexFunc at planisphere/api.Object. -/
theorem indexFunc_GObj (fv : AV) (l : List GObj) (p : GObj → Bool) (H : Heap) (hl : l.length < 4611686018427387904) (hf : ∀ o, o ∈ l → CallsV Tryz.prog fv [.agg ((encObj o).map .pv)] H (fun r H' => r = .pv (.bool (p o)) ∧ H' = H)) :
    ACalls Tryz.prog 104 [.pv (.sl (l.map encObj)),fv] H (fun r H'=>r=.pv (.int .i64 (gidx p l))∧H'=H):=by
  refine Bd Tryz.func104 rfl Tryz.ntmps104<|Sq<|Rg<|Dd as'<|Zz<|Sq<|Sq<|Rg<|Dd mv'<|Dd (ll' Tryz.underlying36)<|Dd mv'<|Zz<|awp_block ?_
  refine awp_loop (σ:=Nat) (fun k=>([(0,.pv (.sl (l.map encObj))),(1,fv),(7,.pv (.int .i64 (l.map encObj).length)),(8,.pv (.int .i64 (k:Int)))],H)) (fun k=>k≤l.length∧∀ j,j < k→∀ b,l[j]?=some b→p b=false) (fun k=>l.length - k) 0 ⟨by omega,by omega⟩ ?_ ?_
  · exact E0
  · rintro k ⟨hk,hno⟩
    refine Sq<|Rg<|Dd lss'<|Zz<|Sq ?_
    refine Cn (fun hc1=>?_) fun hc1=>?_
    · have hlt:k < l.length:=by simpa using hc1
      obtain ⟨o,ho⟩:=get_of_lt hlt
      have hi:=map_get (f:=encObj) ho
      have hfo:=hf o (List.mem_of_getElem? ho)
      refine awp_skip<|Sq<|awp_block<|Sq<|Rg<|Dd mv'<|Dd as'<|Zz<|Sq<|Rg<|Dd mv'<|Dd mv'<|Dd mv'<|Dd (xp' so36)<|Dd (by exact opd_loadn_pad rfl Tryz.isAgg49 Tryz.sizeOf49 rfl (by omega) (by simp only [Zl,encObj];rfl) rfl)<|Dd (by exact opr_callV rfl rfl rfl (hfo))<|Zz ?_
      refine Cn (fun hc2=>?_) fun hc2=>?_
      · skip
        refine Sq<|Rg<|Dd mv'<|Dd as'<|Zz<|awp_ret ?_
        exact aret1 (H':=H) (.inr rfl) rfl (rval_tmp rfl) Fin.refl ⟨by rw [gidx,fidx_some hno ho hc2],rfl⟩
      · skip
        refine awp_skip<|Rg<|Dd ad'<|Dd mv'<|Zz ?_
        refine⟨k+1,⟨by omega,fun j hj b hb=>?_⟩,by omega,E0⟩
        by_cases e:j=k
        · subst e;rw [ho] at hb;cases hb;exact hc2
        · exact hno j (by omega) b hb
    · have hge : k = l.length := by have : l.length ≤ k := by simpa using hc1
                                    omega
      subst hge
      refine awp_exit<|Sq<|Rg<|Dd as'<|Zz<|awp_ret ?_
      exact aret1 (H':=H) (.inr rfl) rfl (rval_tmp rfl) Fin.refl ⟨by rw [gidx,fidx_none hno],rfl⟩
/-- slices.IndexFunc at planisphere/api.Edit. -/
theorem indexFunc_GEdit (fv:AV) (l:List GEdit) (p:GEdit→Bool) (H:Heap) (hl:l.length < 4611686018427387904) (hf:∀ o,o∈l→CallsV Tryz.prog fv [.agg ((encEdit o).map .pv)] H (fun r H'=>r=.pv (.bool (p o))∧H'=H)) :
    ACalls Tryz.prog 89 [.pv (.sl (l.map encEdit)),fv] H (fun r H'=>r=.pv (.int .i64 (gidx p l))∧H'=H):=by
  refine Bd Tryz.func89 rfl Tryz.ntmps89<|Sq<|Rg<|Dd as'<|Zz<|Sq<|Sq<|Rg<|Dd mv'<|Dd (ll' Tryz.underlying22)<|Dd mv'<|Zz<|awp_block ?_
  refine awp_loop (σ:=Nat) (fun k=>([(0,.pv (.sl (l.map encEdit))),(1,fv),(7,.pv (.int .i64 (l.map encEdit).length)),(8,.pv (.int .i64 (k:Int)))],H)) (fun k=>k≤l.length∧∀ j,j < k→∀ b,l[j]?=some b→p b=false) (fun k=>l.length - k) 0 ⟨by omega,by omega⟩ ?_ ?_
  · exact E0
  · rintro k ⟨hk,hno⟩
    refine Sq<|Rg<|Dd lss'<|Zz<|Sq ?_
    refine Cn (fun hc1=>?_) fun hc1=>?_
    · have hlt:k < l.length:=by simpa using hc1
      obtain ⟨o,ho⟩:=get_of_lt hlt
      have hi:=map_get (f:=encEdit) ho
      have hfo:=hf o (List.mem_of_getElem? ho)
      refine awp_skip<|Sq<|awp_block<|Sq<|Rg<|Dd mv'<|Dd as'<|Zz<|Sq<|Rg<|Dd mv'<|Dd mv'<|Dd mv'<|Dd (xp' so22)<|Dd (by exact opd_loadn_pad rfl Tryz.isAgg51 Tryz.sizeOf51 rfl (by omega) (by simp only [Zl,encEdit];rfl) rfl)<|Dd (by exact opr_callV rfl rfl rfl (hfo))<|Zz ?_
      refine Cn (fun hc2=>?_) fun hc2=>?_
      · skip
        refine Sq<|Rg<|Dd mv'<|Dd as'<|Zz<|awp_ret ?_
        exact aret1 (H':=H) (.inr rfl) rfl (rval_tmp rfl) Fin.refl ⟨by rw [gidx,fidx_some hno ho hc2],rfl⟩
      · skip
        refine awp_skip<|Rg<|Dd ad'<|Dd mv'<|Zz ?_
        refine⟨k+1,⟨by omega,fun j hj b hb=>?_⟩,by omega,E0⟩
        by_cases e:j=k
        · subst e;rw [ho] at hb;cases hb;exact hc2
        · exact hno j (by omega) b hb
    · have hge : k = l.length := by have : l.length ≤ k := by simpa using hc1
                                    omega
      subst hge
      refine awp_exit<|Sq<|Rg<|Dd as'<|Zz<|awp_ret ?_
      exact aret1 (H':=H) (.inr rfl) rfl (rval_tmp rfl) Fin.refl ⟨by rw [gidx,fidx_none hno],rfl⟩
end
section
def idIs (id:ByteArray) (o:GObj):Bool:=decide (o.id=id)
def onP (x y:Int):Bool:=decide (0≤min x y)&&decide (max x y < 1048576)
end
section
/-- slices.ContainsFunc -/
theorem containsFunc_GEdit (fv:AV) (l:List GEdit) (p:GEdit→Bool) (H:Heap) (hl:l.length < 4611686018427387904) (hf:∀ o,o∈l→CallsV Tryz.prog fv [.agg ((encEdit o).map .pv)] H (fun r H'=>r=.pv (.bool (p o))∧H'=H)) :
  ACalls Tryz.prog 41 [.pv (.sl (l.map encEdit)),fv] H (fun r H'=>r=.pv (.bool (l.any p))∧H'=H):=by
 refine ACalls.body Tryz.func41 rfl Tryz.ntmps41 (Nat.le_of_ble_eq_true rfl) ?_
 refine awp_seq ?_
 refine awp_region ?_
 refine al_d rfl rfl rfl (by exact opd_assign rfl rfl) ?_
 refine al_nil ?_
 refine awp_seq ?_
 refine awp_region ?_
 refine al_d rfl rfl rfl (by exact opd_move rfl rfl) ?_
 refine al_d rfl rfl rfl (by exact opd_move rfl rfl) ?_
 refine al_d rfl rfl rfl (by exact opr_call rfl rfl Tryz.call89 rfl (indexFunc_GEdit fv l p H hl hf)) ?_
 refine al_d rfl rfl rfl (by exact opd_geq rfl rfl rfl) ?_
 refine al_d rfl rfl rfl (by exact opd_assign rfl rfl) ?_
 refine al_nil ?_
 refine awp_ret ?_
 exact aret1 (H':=H) (.inr rfl) rfl (rval_tmp rfl) Fin.refl ⟨by rw [gidx_any],rfl⟩
def tagEq (a b:GTag):Bool:=decide (a.key=b.key)&&decide (a.val=b.val)
def tagsEq:List GTag→List GTag→Bool
 | [],[]=>true
 | a::l,b::r=>tagEq a b&&tagsEq l r
 | _,_=>false
end
section
theorem tagEq_iff (a b:GTag):tagEq a b=true↔a=b:=by
 cases a;cases b;simp [tagEq]
theorem tagsEq_ne:∀ (a b:List GTag),a.length≠b.length→tagsEq a b=false
 | [],[],h=>absurd rfl h
 | [],_::_,_=>rfl
 | _::_,[],_=>rfl
 | x::a,y::b,h=>by rw [tagsEq,tagsEq_ne a b (by simpa using h)];simp
theorem tagsEq_at:∀ (a b:List GTag) (k:Nat) (x y:GTag),a[k]?=some x→b[k]?=some y→tagEq x y=false→tagsEq a b=false
 | [],_,k,x,y,h,_,_=>by simp at h
 | _::_,[],k,x,y,_,h,_=>by simp at h
 | u::a,v::b,0,x,y,h1,h2,h=>by cases h1;cases h2;rw [tagsEq,h];rfl
 | u::a,v::b,k+1,x,y,h1,h2,h=>by rw [tagsEq,tagsEq_at a b k x y h1 h2 h];simp
theorem tagsEq_all:∀ (a b:List GTag),a.length=b.length→(∀ k,k < a.length→∀ x y,a[k]?=some x→b[k]?=some y→tagEq x y=true)→tagsEq a b=true
 | [],[],_,_=>rfl
 | [],_::_,h,_=>by simp at h
 | _::_,[],h,_=>by simp at h
 | u::a,v::b,hl,h=>by
  rw [tagsEq,h 0 (by simp) u v rfl rfl,tagsEq_all a b (by simpa using hl) (fun k hk x y h1 h2=>h (k+1) (by simpa using hk) x y h1 h2)];rfl
theorem equalTags_c (a b : List GTag) (H : Heap) (ha : a.length < 4611686018427387904) :
    ACalls Tryz.prog 190 [lv (a.map encTag),lv (b.map encTag)] H (fun r H'=>r=bv (tagsEq a b)∧H'=H):=by
  refine ACalls.pure ?_ (by simp) H
  refine Bd Tryz.func190 rfl Tryz.ntmps190<|Sq<|Rg<|Dd as'<|Zz<|Sq<|Sq<|Rg<|Dd mv'<|Dd (ll' Tryz.underlying47)<|Dd mv'<|Dd (ll' Tryz.underlying47)<|Dd ne'<|Zz ?_
  refine Cn (fun hc1=>?_) fun hc1=>?_
  · have hne:a.length≠b.length:=by simp at hc1;omega
    refine Sq<|Rg<|Dd as'<|Zz<|awp_ret ?_
    refine Rt ?_
    exact⟨by rw [tagsEq_ne a b hne],rfl⟩
  · have heq : a.length = b.length := by simp at hc1; omega
    refine awp_skip<|Sq<|Sq<|Rg<|Dd mv'<|Dd (ll' Tryz.underlying47)<|Dd mv'<|Zz<|awp_block ?_
    refine awp_loop (σ:=Nat) (fun k=>([(0,lv (a.map encTag)),(1,lv (b.map encTag)),(12,iv (a.map encTag).length),(13,iv (k:Int))],[])) (fun k=>k≤a.length∧∀ j,j < k→∀ x y,a[j]?=some x→b[j]?=some y→tagEq x y=true) (fun k=>a.length - k) 0 ⟨by omega,by omega⟩ ?_ ?_
    · exact E0
    · rintro k ⟨hk,hall⟩
      refine Sq<|Rg<|Dd lss'<|Zz<|Sq ?_
      refine Cn (fun hc2=>?_) fun hc2=>?_
      · have hlt:k < a.length:=by simpa using hc2
        obtain ⟨x,hx⟩:=get_of_lt hlt
        obtain ⟨y,hy⟩:=get_of_lt (l:=b) (k:=k) (by omega)
        have hi:=map_get (f:=encTag) hx
        have hi2:=map_get (f:=encTag) hy
        refine awp_skip<|Sq<|awp_block<|Sq<|Rg<|Dd mv'<|Dd as'<|Zz<|Sq ?_
        refine awp_drawc follows ?_
        refine Cq mv'<|Cq mv'<|Cq (xp' so47)<|Cq (by exact opd_loadn_pad rfl Tryz.isAgg117 Tryz.sizeOf117 rfl (by omega) (by simp only [Zl,encTag,encObj,encEdit];rfl) rfl)<|Cq mv'<|Cq mv'<|Cq (xp' so47)<|Cq (by exact opd_loadn_pad rfl Tryz.isAgg117 Tryz.sizeOf117 rfl (by omega) (by simp only [Zl,encTag,encObj,encEdit];rfl) rfl)<|Cq (by exact opd_aneq rfl rfl rfl rfl rfl Tryz.eqGuardType117 (se117 _ _ _ _)) ?_
        refine dc_nil ⟨by kernel_rfl,?_⟩
        refine Cn (fun hc3=>?_) fun hc3=>?_
        · have ht:tagEq x y=false:=by
            have h:(!tagEq x y)=true:=hc3
            simpa using h
          refine Sq<|Rg<|Dd as'<|Zz<|awp_ret ?_
          refine Rt ?_
          exact⟨by rw [tagsEq_at a b k x y hx hy ht],rfl⟩
        · have ht:tagEq x y=true:=by
            have h:(!tagEq x y)=false:=hc3
            simpa using h
          refine awp_skip<|Rg<|Dd ad'<|Dd mv'<|Zz ?_
          refine⟨k+1,⟨by omega,fun j hj x' y' h1 h2=>?_⟩,by omega,E0⟩
          by_cases e:j=k
          · subst e;rw [hx] at h1;rw [hy] at h2;cases h1;cases h2;exact ht
          · exact hall j (by omega) x' y' h1 h2
      · have hge : k = a.length := by have : a.length ≤ k := by simpa using hc2
                                      omega
        subst hge
        refine awp_exit<|Sq<|Rg<|Dd as'<|Zz<|awp_ret ?_
        refine Rt ?_
        exact⟨by rw [tagsEq_all a b heq hall],rfl⟩
end
section
def longS (n:Int) (s:ByteArray):Bool:=decide (n < (s.size:Int))
def longT (n:Int) (t:GTag):Bool:=decide (n < IntKind.i64.wrap ((t.key.size:Int)+(t.val.size:Int)))
def bad13 (o:GObj):Bool:=(decide (12 < (o.refs.length:Int))||decide (20 < (o.tags.length:Int))||longS 60 o.id)||o.refs.any (longS 60)||o.tags.any (longT 300)
def few13 (m:List GObj) (n:Int):Bool:=!(decide (n < (m.length:Int)))&&!(m.any bad13)
/-- Lengths that a loop can count. -/
def okObj (o:GObj):Prop:=o.refs.length < 4611686018427387904∧o.tags.length < 4611686018427387904
theorem few13_c (m:List GObj) (n:Int) (H:Heap) (hm:m.length < 4611686018427387904) (ho:∀ o,o∈m→okObj o) :
  ACalls Tryz.prog 50 [.agg [.pv (slObjs m)],iv n] H (fun r H'=>r=bv (few13 m n)∧H'=H):=by
 refine ACalls.pure ?_ (by simp) H
 have hml:(m.map encObj).length=m.length:=List.length_map _
 refine Bd Tryz.func50 rfl Tryz.ntmps50<|Sq<|Rg<|Dd (by exact opd_box (id:=2) rfl rfl rfl rfl rfl)<|Dd as'<|Zz<|Sq<|Sq<|Rg<|Dd (fr' fo38_0)<|Dd (l1' Tryz.isAgg36)<|Dd (ll' Tryz.underlying36)<|Dd mv'<|Dd gt'<|Zz ?_
 refine Cn (fun hc1=>?_) fun hc1=>?_
 ·have hb:decide (n < (m.length:Int))=true:=by rw [← hml];exact hc1
  refine Sq<|Rg<|Dd as'<|Zz<|awp_ret ?_
  refine Rt ?_
  exact⟨by rw [few13,hb];rfl,rfl⟩
 have hb:decide (n < (m.length:Int))=false:=by rw [← hml];exact hc1
 rw [few13,hb,Bool.not_false,Bool.true_and]
 refine awp_skip<|Sq<|Sq<|Rg<|Dd as'<|Zz<|awp_block ?_
 refine awp_loop (σ:=Nat) (fun i=>([(2,.ref 2 0 0 0),(5,iv (i:Int))],[(2,bx 1 38 [.pv (slObjs m)])])) (fun i=>i≤m.length∧∀ j,j < i→∀ b,m[j]?=some b→bad13 b=false) (fun i=>m.length - i) 0 ⟨by omega,by omega⟩ ?_ ?_
 ·exact Wk
 rintro i ⟨hi,hno⟩
 refine Sq<|Sq<|Rg<|Dd mv'<|Dd (fr' fo38_0)<|Dd (l1' Tryz.isAgg36)<|Dd (ll' Tryz.underlying36)<|Dd lss'<|Zz ?_
 refine Cn (fun hc2=>?_) fun hc2=>?_
 ·have hlt:i < m.length:=by simpa using hc2
  obtain ⟨o,hoi⟩:=get_of_lt hlt
  have hie:=map_get (f:=encObj) hoi
  have hok:=ho o (List.mem_of_getElem? hoi)
  have hrl:(o.refs.map encStr).length=o.refs.length:=List.length_map _
  have htl:(o.tags.map encTag).length=o.tags.length:=List.length_map _
  have h1:=hok.1
  have h2:=hok.2
  refine awp_skip<|Sq<|awp_block<|Sq<|Rg<|Dd (fr' fo38_0)<|Dd (l1' Tryz.isAgg36)<|Dd mv'<|Dd (xp' so36)<|Dd (by exact opd_loadn_pad rfl Tryz.isAgg49 Tryz.sizeOf49 rfl (by omega) (by simp only [Zl,encTag,encObj,encEdit];rfl) rfl)<|Dd (by exact x_alloc (id:=6) rfl zo49 rfl rfl)<|Uu (sa' Tryz.sizeOf49)<|Zz<|Sq<|Sq ?_
  refine awp_bool (t:=41) (n:=18) (X:=decide (12 < ((o.refs.map encStr).length:Int))||decide (20 < ((o.tags.map encTag).length:Int))||longS 60 o.id) ?_ ?_
  ·all_goals refine Dd (fr' fo49_3) ?_
   all_goals refine Dd (l1' Tryz.isAgg46) ?_
   all_goals refine Dd (ll' Tryz.underlying46) ?_
   all_goals refine Dd gt' ?_
   all_goals refine Dd mv' ?_
   all_goals refine Sp 30 (fun h30=>?_) fun h30=>?_
   all_goals try contradiction
   all_goals first|refine Fo ?_|refine On (fr' fo49_4) ?_
   all_goals first|refine Fo ?_|refine On (l1' Tryz.isAgg47) ?_
   all_goals first|refine Fo ?_|refine On (ll' Tryz.underlying47) ?_
   all_goals first|refine Fo ?_|refine On gt' ?_
   all_goals refine Dd pk' ?_
   all_goals refine Dd mv' ?_
   all_goals refine Sp 36 (fun h36=>?_) fun h36=>?_
   all_goals try contradiction
   all_goals first|refine Fo ?_|refine On (fr' fo49_0) ?_
   all_goals first|refine Fo ?_|refine On (l1' Tryz.isAgg9) ?_
   all_goals first|refine Fo ?_|refine On (ls' Tryz.underlying9) ?_
   all_goals first|refine Fo ?_|refine On gt' ?_
   all_goals refine Dd pk' ?_
   all_goals refine al_nil ?_
   all_goals(exact⟨⟨_,rfl,by first|(simp_all [longS];done)|(simp_all [longS];omega)⟩,rfl,rfl,rfl⟩)
  refine Cn (fun hc3=>?_) fun hc3=>?_
  ·have hbad:bad13 o=true:=by
    rw [hrl,htl] at hc3
    rw [bad13,hc3];rfl
   refine Sq<|Rg<|Dd as'<|Zz<|awp_ret ?_
   refine Rt ?_
   exact⟨by rw [any_some hoi hbad];rfl,rfl⟩
  rw [hrl,htl] at hc3
  have hb1:bad13 o=(o.refs.any (longS 60)||o.tags.any (longT 300)):=by rw [bad13,hc3];rfl
  refine awp_skip<|Sq<|Sq<|Rg<|Dd as'<|Zz<|awp_block ?_
  refine awp_loop (σ:=Nat) (fun q=>([(2,.ref 2 0 0 0),(5,iv (i:Int)),(6,.ref 6 0 0 0),(7,iv (q:Int))],[(6,bx 6 49 ((encObj o).map .pv)),(2,bx 1 38 [.pv (slObjs m)])])) (fun q=>q≤o.refs.length∧∀ j,j < q→∀ b,o.refs[j]?=some b→longS 60 b=false) (fun q=>o.refs.length - q) 0 ⟨by omega,by omega⟩ ?_ ?_
  ·exact Wk
  rintro q ⟨hq,hnr⟩
  refine Sq<|Sq<|Rg<|Dd mv'<|Dd (fr' fo49_3)<|Dd (l1' Tryz.isAgg46)<|Dd (ll' Tryz.underlying46)<|Dd lss'<|Zz ?_
  refine Cn (fun hc4=>?_) fun hc4=>?_
  ·have hlt2:q < o.refs.length:=by simpa using hc4
   obtain ⟨s,hs⟩:=get_of_lt hlt2
   have hse:=map_get (f:=encStr) hs
   refine awp_skip<|Sq<|awp_block<|Sq<|Rg<|Dd (fr' fo49_3)<|Dd (l1' Tryz.isAgg46)<|Dd mv'<|Dd (xp' so46)<|Dd (lp' Tryz.isAgg9)<|Dd (ls' Tryz.underlying9)<|Dd gt'<|Zz ?_
   refine Cn (fun hc5=>?_) fun hc5=>?_
   ·have hbad:bad13 o=true:=by rw [hb1,any_some hs hc5];rfl
    refine Sq<|Rg<|Dd as'<|Zz<|awp_ret ?_
    refine Rt ?_
    exact⟨by rw [any_some hoi hbad];rfl,rfl⟩
   skip
   refine awp_skip<|Rg<|Dd mv'<|Dd ad'<|Dd as'<|Zz ?_
   exact⟨q+1,⟨by omega,pre_succ hnr hs hc5⟩,by omega,Wk⟩
  have hge:q=o.refs.length:=by
   have:o.refs.length≤q:=by simpa using hc4
   omega
  subst hge
  rw [any_none hnr,Bool.false_or] at hb1
  refine awp_exit<|Sq<|Rg<|Dd as'<|Zz<|awp_block ?_
  refine awp_loop (σ:=Nat) (fun q=>([(2,.ref 2 0 0 0),(5,iv (i:Int)),(6,.ref 6 0 0 0),(8,iv (q:Int))],[(6,bx 6 49 ((encObj o).map .pv)),(2,bx 1 38 [.pv (slObjs m)])])) (fun q=>q≤o.tags.length∧∀ j,j < q→∀ b,o.tags[j]?=some b→longT 300 b=false) (fun q=>o.tags.length - q) 0 ⟨by omega,by omega⟩ ?_ ?_
  ·exact Wk
  rintro q ⟨hq,hnt⟩
  refine Sq<|Sq<|Rg<|Dd mv'<|Dd (fr' fo49_4)<|Dd (l1' Tryz.isAgg47)<|Dd (ll' Tryz.underlying47)<|Dd lss'<|Zz ?_
  refine Cn (fun hc6=>?_) fun hc6=>?_
  ·have hlt2:q < o.tags.length:=by simpa using hc6
   obtain ⟨s,hs⟩:=get_of_lt hlt2
   have hse:=map_get (f:=encTag) hs
   refine awp_skip<|Sq<|awp_block<|Sq ?_
   refine awp_drawc follows ?_
   refine Cq (fr' fo49_4)<|Cq (l1' Tryz.isAgg47)<|Cq mv'<|Cq (xp' so47)<|Cq (fp' fo117_0)<|Cq (lp' Tryz.isAgg9)<|Cq (ls' Tryz.underlying9)<|Cq (fr' fo49_4)<|Cq (l1' Tryz.isAgg47)<|Cq mv'<|Cq (xp' so47)<|Cq (fp' fo117_1)<|Cq (lp' Tryz.isAgg9)<|Cq (ls' Tryz.underlying9)<|Cq (by exact opd_add rfl rfl rfl rfl)<|Cq gt' ?_
   refine dc_nil ⟨by kernel_rfl,?_⟩
   refine Cn (fun hc7=>?_) fun hc7=>?_
   ·have hbad:bad13 o=true:=by rw [hb1,any_some hs hc7]
    refine Sq<|Rg<|Dd as'<|Zz<|awp_ret ?_
    refine Rt ?_
    exact⟨by rw [any_some hoi hbad];rfl,rfl⟩
   skip
   refine awp_skip<|Rg<|Dd mv'<|Dd ad'<|Dd as'<|Zz ?_
   exact⟨q+1,⟨by omega,pre_succ hnt hs hc7⟩,by omega,Wk⟩
  have hge:q=o.tags.length:=by
   have:o.tags.length≤q:=by simpa using hc6
   omega
  subst hge
  have hgood:bad13 o=false:=by rw [hb1,any_none hnt]
  refine awp_exit<|Rg<|Dd mv'<|Dd ad'<|Dd as'<|Zz ?_
  exact⟨i+1,⟨by omega,pre_succ hno hoi hgood⟩,by omega,Wk⟩
 have hge:i=m.length:=by
  have:m.length≤i:=by simpa using hc2
  omega
 subst hge
 refine awp_exit<|Sq<|Rg<|Dd as'<|Zz<|awp_ret ?_
 refine Rt ?_
 exact⟨by rw [any_none hno];rfl,rfl⟩
end
end Go.Proofs.YtlnfjkdacimblaaGreatDoor
namespace Go.Abs
section
theorem Clo.up {H H':Heap} (hs:∀ i,(H.get i).isSome=true→(H'.get i).isSome=true) {a:AV} (h:Clo H a):Clo H' a:=by
 induction h with
 | any=>exact .any
 | pv p=>exact .pv p
 | pad rows i k=>exact .pad rows i k
 | ref h=>exact .ref (hs _ h)
 | osl h=>exact .osl (hs _ h)
 | clo h ih=>exact .clo ih
 | agg h ih=>exact .agg ih
 | tup h ih=>exact .tup ih
 | mp h=>exact .mp (hs _ h)
 | it h=>exact .it (hs _ h)
 | yld h=>exact .yld (hs _ h)
 | raw x ts=>exact .raw x ts
 | osc h=>exact .osc (hs _ h)
theorem Clo.app {D K:Heap} {a:AV} (h:Clo K a):Clo (D++K) a:=h.up fun i hi=>by
 rw [hget_app]
 cases D.get i with
 | none=>exact hi
 | some o=>rfl
theorem Closed.app {D K:Heap} (h3:∀ p∈D,∀ r∈p.2.rows,∀ a∈r,Clo (D++K) a) (h4:Closed K):Closed (D++K):=by
 intro id o ho
 rw [hget_app] at ho
 cases e:D.get id with
 | some x =>
  rw [e] at ho
  cases ho
  exact h3 _ (mem_of_hget e)
 | none =>
  rw [e] at ho
  exact fun r hr a ha=>(h4 id o ho r hr a ha).app
theorem Sub.front {D D' K:Heap} (h1:∀ p∈D,K.get p.1=none) (h2:∀ p∈D',D.get p.1=some p.2):Sub (D'++K) (D++K):=by
 intro id o ho
 rw [hget_app] at ho ⊢
 cases e:D'.get id with
 | some x =>
  rw [e] at ho
  cases ho
  rw [h2 _ (mem_of_hget e)]
 | none =>
  rw [e] at ho
  cases e2:D.get id with
  | none=>exact ho
  | some x =>
   have:=h1 _ (mem_of_hget e2)
   rw [this] at ho;cases ho
theorem Kept.front {G0 D D' K:Heap} (h2:∀ p∈D',D.get p.1=some p.2) (h5:∀ p∈D,G0.get p.1=none):Kept G0 (D'++K) (D++K):=by
 intro id hi
 have hD:D.get id=none:=by
  cases e:D.get id with
  | none=>rfl
  | some x =>
   have:=h5 _ (mem_of_hget e)
   rw [this] at hi;cases hi
 have hD':D'.get id=none:=by
  cases e:D'.get id with
  | none=>rfl
  | some x =>
   have:=h2 _ (mem_of_hget e)
   rw [hD] at this;cases this
 rw [hget_app,hget_app,hD,hD']
/-- Objects in front are dropped, the others stay. -/
theorem Ent.front {G0:Heap} {E E':Env} {K:Heap} (D D':Heap) (hE:EOk E (D'++K) E') (h1:∀ p∈D,K.get p.1=none) (h2:∀ p∈D',D.get p.1=some p.2) (h3:∀ p∈D',∀ r∈p.2.rows,∀ a∈r,Clo (D'++K) a) (h4:Closed K)
  (h5:∀ p∈D,G0.get p.1=none):Ent G0 E (D++K) E' (D'++K):=by
 intro G hG N a w hs
 obtain ⟨I,ι,hr,hst,he⟩:=hs.rel
 subst hG
 have hsub:=Sub.front h1 h2
 refine⟨hs.defers,hs.size,I,ι,hr.restrict hsub (Closed.app h3 h4),hst.restrict hsub (Kept.front h2 h5),fun t v ht=>?_⟩
 obtain ⟨k1,k2⟩:=hE.spec _ (mem_of_get ht)
 obtain ⟨c,hc,hv⟩:=he t v k1
 exact⟨c,hc,hv.restrict hsub k2⟩
section
variable {F:Fence} {n:Nat} {P:Program} {b:Frame} {a:Act} {k:List Item} {cs:List Frame} {w:World} {Q:Exit→Act→World→Prop}
theorem stepR_scope {c:Code}:step P (lone (b.atR a (.code (.scope c)::k)) cs w)=.next (lone (b.atR a (.code c::.inScope c::k)) cs w) :=
 step_lone_go (by simp [stepG,stepG.exec,Frame.atR])
theorem stepR_inScope {c:Code}:step P (lone (b.atR a (.inScope c::k)) cs w)=.next (lone (b.atR a k) cs w) :=
 step_lone_go (by simp [stepG,stepG.exec,Frame.atR])
theorem wpIn_scope_straight {c:Code} (h:c.wpIn F n P (Exit.noGoto Q) a w):(Code.scope c).wpIn F n P Q a w:=by
 intro b k cs hro hb hr
 have h0:(lone (b.atR a (.code (.scope c)::k)) cs w).fenced P F:=fenced_calm hb hr rfl
 obtain ⟨e,a₁,w₁,hq,harr⟩:=h b (.inScope c::k) cs hro hb hr
 cases e with
 | normal=>exact⟨.normal,a₁,w₁,hq,.head h0 stepR_scope (StepsIn.trans harr (.one (fenced_calm hb hr rfl) stepR_inScope))⟩
 | exit id =>
  have hx:exitTo id (.inScope c::k)=exitTo id k:=by simp [exitTo]
  exact⟨_,a₁,w₁,hq,fun k' hk=>.head h0 stepR_scope (harr.1 k' (by rw [hx];exact hk)),
   fun hr' hk=>let ⟨k₁,h1,h2⟩:=harr.2 hr' (by rw [hx];exact hk);⟨k₁,h1,.head h0 stepR_scope h2⟩⟩
 | goto l=>exact hq.elim
 | ret=>exact⟨_,a₁,w₁,hq,.of_steps (.one h0 stepR_scope) harr⟩
 | panic ch=>exact⟨_,a₁,w₁,hq,.of_steps (.one h0 stepR_scope) harr⟩
 | outgrown=>exact⟨_,a₁,w₁,hq,.of_steps (.one h0 stepR_scope) harr⟩
end
/-- A scope of labels into which nothing jumps. -/
def ANoGoto (Q:Exit→Env→Heap→Prop):Exit→Env→Heap→Prop
 | .goto _,_,_=>False
 | e,E,H=>Q e E H
theorem awp_scope {P:Program} {G0:Heap} {N:Nat} {E:Env} {H:Heap} {Q:Exit→Env→Heap→Prop} {c:Code} (h:AWp P G0 N c (ANoGoto Q) E H):AWp P G0 N (.scope c) Q E H:=by
 intro G hG a w hs ro hr
 refine wpIn_scope_straight (wpIn_mono (h G hG a w hs ro hr) ?_)
 rintro e a' w' ⟨E',H',q,s⟩
 cases e<;>first|exact⟨E',H',q,s⟩|exact q.elim
/-- A region with tests, which writes: its ways join. -/
theorem awp_mergeW {P:Program} {G0:Heap} {N:Nat} {E:Env} {H H2:Heap} {ops:Array Oper} {id n t:Nat} {d:Bool} {X:Bool} {Q:Exit→Env→Heap→Prop} (h:AWp P G0 N (.region id ops d) (fun e E1 H1=>e=.normal∧Merge n t X E H2 E1 H1) E H) (hk:Q .normal ((t,.pv (.bool X))::E) H2):AWp P G0 N (.region id ops d) Q E H:=by
 intro G hG a w hs ro hr
 refine wpIn_mono (h G hG a w hs ro hr) ?_
 rintro e a' w' ⟨E1,H1,⟨rfl,hm⟩,hs'⟩
 exact⟨_,_,hk,(hm.ent (G0:=G0)) G hG N a' w' hs'⟩
/-- Each object's cells lead into the heap. -/
def ClosedL (H:Heap):Heap→Prop
 | []=>True
 | (_,o)::r=>(∀ r∈o.rows,∀ a∈r,Clo H a)∧ClosedL H r
theorem ClosedL.spec {H:Heap}:∀ {L:Heap},ClosedL H L→∀ p∈L,∀ r∈p.2.rows,∀ a∈r,Clo H a
 | (i,o)::L,h,p,hp=>by
  rcases List.mem_cons.1 hp with rfl|hp
  ·exact h.1
  exact ClosedL.spec h.2 p hp
theorem Closed.ofL {H:Heap} (h:ClosedL H H):Closed H:=fun _ _ ho=>h.spec _ (mem_of_hget ho)
/-- Names of objects of a front. -/
def lo (D:Heap) (n:Nat):Prop:=∀ p∈D,900≤p.1∧p.1 < n
/-- No names of fronts are in a heap. -/
def clear (K:Heap):Prop:=∀ i,900≤i→i < 1000→K.get i=none
/-- A returned value and the heap in another writing. -/
theorem Fin.of_ent {G0 H H':Heap} {r r':AV} (h:Ent G0 [(0,r)] H [(0,r')] H'):Fin G0 H r H' r':=by
 intro G hG I ι w v h1 h2 h3
 obtain ⟨_,_,I',ι',k1,k2,k3⟩:=h G hG 1 ⟨#[v],[]⟩ w ⟨Marks.nil _ _,rfl,I,ι,h1,h2,fun t x hx=>by
  simp only [Env.get] at hx
  cases e:Nat.beq 0 t with
  | true=>rw [e] at hx;cases hx;rw [← Nat.eq_of_beq_eq_true e];exact⟨v,rfl,h3⟩
  | false=>rw [e] at hx;cases hx⟩
 obtain ⟨c,hc,hv⟩:=k3 0 r' rfl
 cases hc
 exact⟨I',ι',k1,k2,hv⟩
/-- What stands in front in both forms, or not behind. -/
theorem Sub.front' {D D' K:Heap} (h1:∀ p∈D,(D'.get p.1).isSome=true∨K.get p.1=none) (h2:∀ p∈D',D.get p.1=some p.2):Sub (D'++K) (D++K):=by
 intro id o ho
 rw [hget_app] at ho ⊢
 cases e:D'.get id with
 | some x =>
  rw [e] at ho
  cases ho
  rw [h2 _ (mem_of_hget e)]
 | none =>
  rw [e] at ho
  cases e2:D.get id with
  | none=>exact ho
  | some x =>
   rcases h1 _ (mem_of_hget e2)with h|h
   ·simp only [e] at h;cases h
   rw [h] at ho;cases ho
theorem Kept.front' {G0 D D' K:Heap} (h2:∀ p∈D',D.get p.1=some p.2) (h5:∀ p∈D,(D'.get p.1).isSome=true∨G0.get p.1=none):Kept G0 (D'++K) (D++K):=by
 intro id hi
 rw [hget_app,hget_app]
 cases e:D'.get id with
 | some x=>rw [h2 _ (mem_of_hget e)]
 | none =>
  cases e2:D.get id with
  | none=>rfl
  | some x =>
   rcases h5 _ (mem_of_hget e2)with h|h
   ·simp only [e] at h;cases h
   rw [h] at hi;cases hi
theorem Ent.front' {G0:Heap} {E E':Env} {K:Heap} (D D':Heap) (hE:EOk E (D'++K) E') (h1:∀ p∈D,(D'.get p.1).isSome=true∨K.get p.1=none) (h2:∀ p∈D',D.get p.1=some p.2) (h3:∀ p∈D',∀ r∈p.2.rows,∀ a∈r,Clo (D'++K) a) (h4:Closed K)
  (h5:∀ p∈D,(D'.get p.1).isSome=true∨G0.get p.1=none):Ent G0 E (D++K) E' (D'++K):=by
 intro G hG N a w hs
 obtain ⟨I,ι,hr,hst,he⟩:=hs.rel
 subst hG
 have hsub:=Sub.front' h1 h2
 refine⟨hs.defers,hs.size,I,ι,hr.restrict hsub (Closed.app h3 h4),hst.restrict hsub (Kept.front' h2 h5),fun t v ht=>?_⟩
 obtain ⟨k1,k2⟩:=hE.spec _ (mem_of_get ht)
 obtain ⟨c,hc,hv⟩:=he t v k1
 exact⟨c,hc,hv.restrict hsub k2⟩
theorem Fin.front' {G0 K:Heap} {r:AV} (D D':Heap) (hr:Clo (D'++K) r) (h1:∀ p∈D,(D'.get p.1).isSome=true∨K.get p.1=none) (h2:∀ p∈D',D.get p.1=some p.2) (h3:∀ p∈D',∀ r∈p.2.rows,∀ a∈r,Clo (D'++K) a) (h4:Closed K)
  (h5:∀ p∈D,(D'.get p.1).isSome=true∨G0.get p.1=none):Fin G0 (D++K) r (D'++K) r:=by
 intro G hG I ι w v k1 k2 k3
 subst hG
 have hsub:=Sub.front' h1 h2
 exact⟨I,ι,k1.restrict hsub (Closed.app h3 h4),k2.restrict hsub (Kept.front' h2 h5),k3.restrict hsub hr⟩
theorem Fin.get' {G0 H H':Heap} {r:AV} (hH:∀ j,H'.get j=H.get j):Fin G0 H r H' r:=Fin.of_ent (Ent.get' ⟨⟨_,rfl,rfl⟩,trivial⟩ hH)
end
end Go.Abs
namespace Go.Proofs.YtlnfjkdacimblaaGreatDoor
open Go.Abs
section
/-- The kinds of a map's objects, by Ids. -/
def kM (l:List GObj):List (ByteArray×AV):=l.map fun o=>(o.id,iv o.kind)
abbrev kob (l:List GObj):Ob:=⟨0,0,(kM l).length,mrows strK (kM l)⟩
theorem kob_clo (l:List GObj) (H:Heap):∀ r∈(kob l).rows,∀ a∈r,Clo H a:=by
 intro r hr a ha
 obtain ⟨i,hi⟩:=List.mem_iff_getElem?.1 hr
 obtain ⟨p,hp,rfl⟩:=mrows_get.1 hi
 simp only [kM,List.getElem?_map] at hp
 obtain ⟨q,_,rfl⟩:=Option.map_eq_some_iff.1 hp
 simp only [List.mem_cons,List.not_mem_nil,or_false] at ha
 rcases ha with rfl|rfl|rfl<;>simp
theorem kM_get:∀ (l:List GObj) (s:ByteArray),mget (kM l) s=(l.find? (idIs s)).map (fun o=>iv o.kind)
 | [],s=>rfl
 | o::l,s=>by
  have ih:=kM_get l s
  rw [kM,List.map_cons,mget,List.find?_cons]
  by_cases e:o.id=s
  ·rw [if_pos e,show idIs s o=true from decide_eq_true e];rfl
  rw [if_neg e,show idIs s o=false from decide_eq_false e];exact ih
theorem mput_new:∀ {l:List (ByteArray×AV)} {k:ByteArray} (v:AV),mget l k=none→mput l k v=l++[(k,v)]
 | [],k,v,_=>rfl
 | (k',a)::l,k,v,h=>by
  rw [mget] at h
  split at h
  ·cases h
  next e=>rw [mput,if_neg e,mput_new v h];rfl
theorem kM_put {m:List GObj} {k:Nat} {o:GObj} (hu:ups m) (ho:m[k]?=some o):mput (kM (m.take k)) o.id (iv o.kind)=kM (m.take (k+1)):=by
 have hn:mget (kM (m.take k)) o.id=none:=by
  rw [kM_get,Option.map_eq_none_iff,List.find?_eq_none]
  intro a ha he
  have he:=of_decide_eq_true he
  obtain ⟨j,hj⟩:=List.mem_iff_getElem?.1 ha
  have hjk:j < k:=by
   have:=(List.getElem?_eq_some_iff.1 hj).1
   rw [List.length_take] at this
   omega
  rw [List.getElem?_take_of_lt hjk] at hj
  obtain ⟨jl,je⟩:=List.getElem?_eq_some_iff.1 hj
  obtain ⟨kl,ke⟩:=List.getElem?_eq_some_iff.1 ho
  rw [ups,List.pairwise_iff_getElem] at hu
  have:=hu j k jl kl hjk
  rw [je,ke,he,slt_irr] at this
  cases this
 rw [mput_new _ hn,kM,kM,List.take_add_one,ho,List.map_append]
 rfl
def gWanted (kind i:Int):Int:=if(decide (kind=4)||(decide (kind=5)&&!decide (i=1)))then 2 else 1
theorem wanted_c (kind i:Int) (H:Heap):ACalls Tryz.prog 159 [iv kind,iv i] H (fun r H'=>r=iv (gWanted kind i)∧H'=H):=by
 refine ACalls.pure ?_ (by simp) H
 refine Bd Tryz.func159 rfl Tryz.ntmps159<|Sq<|Rg<|Dd as'<|Zz<|Sq<|Sq ?_
 refine awp_bool (t:=14) (n:=12) (X:=decide (kind=4)||(decide (kind=5)&&!decide (i=1))) ?_ ?_
 ·all_goals refine Dd mv' ?_
  all_goals refine Dd eql' ?_
  all_goals refine Dd mv' ?_
  all_goals refine Sp 7 (fun h7=>?_) fun h7=>?_
  all_goals try contradiction
  all_goals first|refine Fo ?_|refine On mv' ?_
  all_goals first|refine Fo ?_|refine On eql' ?_
  all_goals first|refine Fo ?_|refine On mv' ?_
  all_goals(first|refine Sp 10 (fun h10=>?_) fun h10=>?_|refine al_dup (t:=10) rfl ?_)
  all_goals try contradiction
  all_goals first|refine Fo ?_|refine Fu ?_|refine On mv' ?_
  all_goals first|refine Fo ?_|refine Fu ?_|refine On ne' ?_
  all_goals first|refine Fo ?_|refine On pk' ?_
  all_goals refine Dd pk' ?_
  all_goals refine al_nil ?_
  all_goals(exact⟨⟨_,rfl,by(simp only [*,Zo];done)⟩,rfl,rfl,rfl⟩)
 refine Cn (fun hc1=>?_) fun hc1=>?_
 ·skip
  refine Sq<|Rg<|Dd as'<|Zz<|awp_ret ?_
  refine Rt ?_
  exact⟨by rw [gWanted,if_pos hc1],rfl⟩
 skip
 refine awp_skip<|Sq<|Rg<|Dd as'<|Zz<|awp_ret ?_
 refine Rt ?_
 exact⟨by rw [gWanted,hc1];rfl,rfl⟩
def kindOf (m:List GObj) (s:ByteArray):Option Int:=(m.find? (idIs s)).map (·.kind)
def refBad (m:List GObj) (kind:Int) (i:Nat) (s:ByteArray):Int:=match kindOf m s with
 | none=>14
 | some k=>if k=gWanted kind (i:Int)then 0 else 13
def refErr (m:List GObj) (kind:Int):Nat→List ByteArray→Int
 | _,[]=>0
 | i,s::r=>if refBad m kind i s=0 then refErr m kind (i+1) r else refBad m kind i s
theorem kM_kind (m:List GObj) (s:ByteArray):mget (kM m) s=(kindOf m s).map iv:=by
 rw [kM_get,kindOf,Option.map_map];rfl
abbrev cRow (m:List GObj):Ob:=bx 2 114 [.pv (slObjs m),.mp 12 0]
theorem refs_c (m:List GObj) (o:GObj) (H:Heap) (h14:H.get 14=some (cRow m)) (h12:H.get 12=some (kob m)) (h63:H.get 963=none) (hc:Closed H) (hl:o.refs.length < 4611686018427387904) :
  ACalls Tryz.prog 117 [.ref 14 0 0 0,av (encObj o)] H (fun r H'=>r=iv (refErr m o.kind 0 o.refs)∧H'=H):=by
 have hrl:(o.refs.map encStr).length=o.refs.length:=List.length_map _
 have h14':Heap.get ((963,bx 6 49 ((encObj o).map .pv))::H) 14=some (cRow m):=h14
 have h12':Heap.get ((963,bx 6 49 ((encObj o).map .pv))::H) 12=some (kob m):=h12
 refine Bd Tryz.func117 rfl Tryz.ntmps117<|Sq<|Rg<|Dd (by exact opd_box (id:=963) rfl rfl rfl rfl h63)<|Dd as'<|Zz<|Sq<|Sq<|Rg<|Dd (fr' fo49_3)<|Dd (l1' Tryz.isAgg46)<|Dd (ll' Tryz.underlying46)<|Dd mv'<|Zz<|awp_block ?_
 refine awp_loop (σ:=Nat) (fun k=>([(0,.ref 14 0 0 0),(3,.ref 963 0 0 0),(10,.pv (slStrs o.refs)),(11,iv ((o.refs.map encStr).length:Int)),(12,iv (k:Int))],(963,bx 6 49 ((encObj o).map .pv))::H)) (fun k=>k≤o.refs.length∧refErr m o.kind 0 o.refs=refErr m o.kind k (o.refs.drop k)) (fun k=>o.refs.length - k) 0 ⟨by omega,rfl⟩ ?_ ?_
 ·exact E0
 rintro k ⟨hk,hinv⟩
 refine Sq<|Rg<|Dd lss'<|Zz<|Sq ?_
 refine Cn (fun hc1=>?_) fun hc1=>?_
 ·have hlt:k < o.refs.length:=by have:=of_decide_eq_true hc1;omega
  obtain ⟨s,hs⟩:=get_of_lt hlt
  have hi:=map_get (f:=encStr) hs
  have hdr:o.refs.drop k=s::o.refs.drop (k+1):=by
   obtain ⟨hl1,he1⟩:=List.getElem?_eq_some_iff.1 hs
   rw [List.drop_eq_getElem_cons hl1,he1]
  rw [hdr,refErr] at hinv
  refine awp_skip<|Sq<|awp_block<|Sq<|Rg<|Dd mv'<|Dd (xp' so46)<|Dd (lp' Tryz.isAgg9)<|Dd as'<|Dd as'<|Zz<|Sq<|Rg<|Dd mv'<|Dd (by exact opd_nilCheck_ref rfl rfl h14' rfl)<|Dd (by exact opd_field_ref rfl fo114_1 rfl h14' rfl rfl)<|Dd (by exact opd_load1_ref rfl Tryz.isAgg80 rfl h14' rfl rfl rfl)<|Dd mv'<|Dd (by exact opd_lookup_ok (κ:=strK) rfl Tryz.underlying80 Tryz.underlying9 rfl h12' rfl rfl rfl Tryz.zeroValue3 (.inl rfl))<|Dd mv'<|Dd ex'<|Dd ex'<|Dd as'<|Dd as'<|Zz<|awp_block<|Sq<|Rg<|Dd mv'<|Dd no'<|Dd as'<|Zz ?_
  refine Cn (fun hc2=>?_) fun hc2=>?_
  ·have hko:kindOf m s=none:=by
    rw [kM_kind] at hc2
    cases h:kindOf m s with
    | none=>rfl
    | some x=>rw [h] at hc2;cases hc2
   have hb:refBad m o.kind k s=14:=by rw [refBad,hko]
   rw [hb,if_neg (by decide)] at hinv
   refine Sq<|Rg<|Dd as'<|Zz<|awp_ret ?_
   refine aret1 (H':=H) (.inr rfl) rfl (rval_tmp rfl) (Fin.pops [(963,bx 6 49 ((encObj o).map .pv))] (by simp) hc (by simp [h63])) ⟨by rw [hinv],rfl⟩
  obtain ⟨kd,hko⟩:∃ kd,kindOf m s=some kd:=by
   rw [kM_kind] at hc2
   cases h:kindOf m s with
   | none=>rw [h] at hc2;cases hc2
   | some x=>exact⟨x,rfl⟩
  have hg:mget (kM m) s=some (iv kd):=by rw [kM_kind,hko];rfl
  rw [hg]
  refine Sq<|Rg<|Dd mv'<|Dd (fr' fo49_1)<|Dd (l1' Tryz.isAgg3)<|Dd mv'<|Dd (by exact opr_call rfl rfl Tryz.call159 rfl (wanted_c o.kind (k:Int) _))<|Dd ne'<|Dd as'<|Zz ?_
  refine Cn (fun hc3=>?_) fun hc3=>?_
  ·have hb:refBad m o.kind k s=13:=by
    have h:(!decide (kd=gWanted o.kind (k:Int)))=true:=hc3
    have h:¬ kd=gWanted o.kind (k:Int):=by simpa using h
    rw [refBad,hko]
    exact if_neg h
   rw [hb,if_neg (by decide)] at hinv
   refine Sq<|Rg<|Dd as'<|Zz<|awp_ret ?_
   refine aret1 (H':=H) (.inr rfl) rfl (rval_tmp rfl) (Fin.pops [(963,bx 6 49 ((encObj o).map .pv))] (by simp) hc (by simp [h63])) ⟨by rw [hinv],rfl⟩
  have hb:refBad m o.kind k s=0:=by
   have h:(!decide (kd=gWanted o.kind (k:Int)))=false:=hc3
   have h:kd=gWanted o.kind (k:Int):=by simpa using h
   rw [refBad,hko]
   exact if_pos h
  rw [if_pos hb] at hinv
  refine awp_skip<|Rg<|Dd ad'<|Dd mv'<|Zz ?_
  exact⟨k+1,⟨by omega,hinv⟩,by omega,E0⟩
 have hge:k=o.refs.length:=by have:=of_decide_eq_false hc1;omega
 subst hge
 rw [List.drop_length,refErr] at hinv
 refine awp_exit<|Sq<|Rg<|Dd as'<|Zz<|awp_ret ?_
 refine aret1 (H':=H) (.inr rfl) rfl (rval_tmp rfl) (Fin.pops [(963,bx 6 49 ((encObj o).map .pv))] (by simp) hc (by simp [h63])) ⟨by rw [hinv],rfl⟩
def closedB (m:List GObj):Bool:=gMap m&&m.all (fun o=>decide (refErr m o.kind 0 o.refs=0))
abbrev cH (m:List GObj):Heap:=[(14,cRow m),(12,kob m)]
theorem of_c (m:List GObj) (hm:okM m) (hcl:closedB m=true):ACalls Tryz.prog 64 [.agg [.pv (slObjs m)]] [] (fun r H'=>r=.ref 14 0 0 0∧H'=cH m):=by
 have hml:(m.map encObj).length=m.length:=List.length_map _
 rw [closedB,Bool.and_eq_true,List.all_eq_true] at hcl
 obtain ⟨hg,hall⟩:=hcl
 have hu:=(gMap_iff.1 hg).2.1
 have hl:=hm.1
 refine Bd Tryz.func64 rfl Tryz.ntmps64<|Sq<|Rg<|Dd (by exact opd_box (id:=1) rfl rfl rfl rfl rfl)<|Dd as'<|Zz<|Sq<|Sq<|Rg<|Dd (by exact opd_loadn_ref rfl Tryz.isAgg38 Tryz.sizeOf38 rfl rfl rfl rfl (by simp only [Zl,encTag,encObj,encStr];rfl) rfl)<|Dd (by exact opr_call rfl rfl Tryz.call116 rfl (atlasValid_c m _ hm))<|Dd no'<|Zz ?_
 refine Cn (fun hc1=>?_) fun hc1=>?_
 ·have h:(!gMap m)=true:=hc1
  rw [hg] at h;cases h
 skip
 refine awp_skip<|Sq<|Rg<|Dd (by exact opd_loadn_ref rfl Tryz.isAgg38 Tryz.sizeOf38 rfl rfl rfl rfl (by simp only [Zl,encTag,encObj,encStr];rfl) rfl)<|Dd (by exact opd_makeMap (id:=12) strK rfl rfl)<|Dd (bu' bo114)<|Dd (by exact opd_box (id:=14) rfl rfl rfl rfl rfl)<|Dd as'<|Zz<|Sq<|Sq<|Rg<|Dd (fr' fo38_0)<|Dd (l1' Tryz.isAgg36)<|Dd (ll' Tryz.underlying36)<|Dd mv'<|Zz<|awp_block ?_
 refine awp_loop (σ:=Nat) (fun k=>([(1,.ref 1 0 0 0),(3,.ref 14 0 0 0),(16,.pv (slObjs m)),(17,iv ((m.map encObj).length:Int)),(18,iv (k:Int))],[(14,cRow m),(12,kob (m.take k)),(1,bx 1 38 [.pv (slObjs m)])])) (fun k=>k≤m.length) (fun k=>m.length - k) 0 (by omega) ?_ ?_
 ·exact(Ent.wk (Ea<|Ea<|Eb<|Eb<|Eb<|trivial) (Ha<|Hc (kob_clo _ _)<|Hb<|trivial) trivial)
 intro k hk
 refine Sq<|Rg<|Dd lss'<|Zz<|Sq ?_
 refine Cn (fun hc2=>?_) fun hc2=>?_
 ·have hlt:k < m.length:=by have:=of_decide_eq_true hc2;omega
  obtain ⟨o,ho⟩:=get_of_lt hlt
  have hi:=map_get (f:=encObj) ho
  refine awp_skip<|Sq<|awp_block<|Sq<|Rg<|Dd (xp' so36)<|Dd (by exact opd_loadn_pad rfl Tryz.isAgg49 Tryz.sizeOf49 rfl (by omega) (by simp only [Zl,encTag,encObj,encStr];rfl) rfl)<|Dd (by exact x_alloc (id:=5) rfl zo49 rfl rfl)<|Uu (sa' Tryz.sizeOf49)<|Zz ?_
  refine awp_drawc follows ?_
  refine Cr [14] (fun _ _=>mv')<|Cr [14] (fun H1 hH=>by exact opd_nilCheck_ref rfl rfl ((hH _ rfl).trans rfl) rfl)<|Cr [14] (fun _ h=>fh fo114_1 h)<|Cr [14] (fun _ h=>lh Tryz.isAgg80 h)<|Cr [5] (fun _ h=>fh fo49_0 h)<|Cr [5] (fun _ h=>lh Tryz.isAgg9 h)<|Cr [5] (fun _ h=>fh fo49_1 h)<|Cr [5] (fun _ h=>lh Tryz.isAgg3 h)<|Cp [12] (fun H1 hH=>by exact x_mapUpdate (κ:=strK) (.inl rfl) Tryz.underlying80 Tryz.underlying9 rfl ((hH 12 rfl).trans rfl) rfl rfl rfl rfl rfl (kM_put hu ho)) ?_
  refine dc_nil ⟨by kernel_rfl,?_⟩
  refine Rg<|Dd ad'<|Dd mv'<|Zz ?_
  exact⟨k+1,by omega,by omega,(Ent.wk (Ea<|Ea<|Eb<|Eb<|Eb<|trivial) (Ha<|Hc (kob_clo _ _)<|Hb<|trivial) trivial)⟩
 have hge:k=m.length:=by have:=of_decide_eq_false hc2;omega
 subst hge
 rw [List.take_length]
 refine awp_exit<|Sq<|Sq<|Rg<|Dd (fr' fo38_0)<|Dd (l1' Tryz.isAgg36)<|Dd (ll' Tryz.underlying36)<|Dd mv'<|Zz<|awp_block ?_
 refine awp_loop (σ:=Nat) (fun k=>([(3,.ref 14 0 0 0),(32,.pv (slObjs m)),(33,iv ((m.map encObj).length:Int)),(34,iv (k:Int))],[(14,cRow m),(12,kob m)])) (fun k=>k≤m.length) (fun k=>m.length - k) 0 (by omega) ?_ ?_
 ·exact(Ent.wk (Ea<|Eb<|Eb<|Eb<|trivial) (Ha<|Hc (kob_clo _ _)<|trivial) trivial)
 intro k hk
 refine Sq<|Rg<|Dd lss'<|Zz<|Sq ?_
 refine Cn (fun hc3=>?_) fun hc3=>?_
 ·have hlt:k < m.length:=by have:=of_decide_eq_true hc3;omega
  obtain ⟨o,ho⟩:=get_of_lt hlt
  have hi:=map_get (f:=encObj) ho
  have hoo:=hm.2 o (List.mem_of_getElem? ho)
  have hr0:refErr m o.kind 0 o.refs=0:=of_decide_eq_true (hall o (List.mem_of_getElem? ho))
  refine awp_skip<|Sq<|awp_block<|Sq<|Rg<|Dd (xp' so36)<|Dd (by exact opd_loadn_pad rfl Tryz.isAgg49 Tryz.sizeOf49 rfl (by omega) (by simp only [Zl,encTag,encObj,encStr];rfl) rfl)<|Dd (by exact x_alloc (id:=7) rfl zo49 rfl rfl)<|Uu (sa' Tryz.sizeOf49)<|Zz<|Sq<|Rg<|Dd mv'<|Dd (by exact opd_loadn_ref rfl Tryz.isAgg49 Tryz.sizeOf49 rfl rfl rfl rfl (by simp only [Zl,encTag,encObj,encStr];rfl) rfl)<|Dd (by exact opr_call rfl rfl Tryz.call117 rfl (refs_c m o _ rfl rfl rfl (Closed.ofL ⟨(by(simp;done)),(by(simp;done)),(by(simp;rfl)),(by exact kob_clo _ _),trivial⟩) hoo.2.2.1))<|Dd ne'<|Zz ?_
  refine Cn (fun hc4=>?_) fun hc4=>?_
  ·rw [hr0] at hc4;cases hc4
  skip
  refine awp_skip<|Rg<|Dd ad'<|Dd mv'<|Zz ?_
  exact⟨k+1,by omega,by omega,(Ent.wk (Ea<|Eb<|Eb<|Eb<|trivial) (Ha<|Hc (kob_clo _ _)<|trivial) trivial)⟩
 skip
 refine awp_exit<|Sq<|Rg<|Dd mv'<|Dd as'<|Zz<|awp_ret ?_
 refine aret1 (H':=cH m) (.inr rfl) rfl (rval_tmp rfl) (Fin.wk (by(simp;rfl)) (Ha<|Hc (kob_clo _ _)<|trivial) trivial) ⟨rfl,rfl⟩
theorem ofN_c (m:List GObj) (hm:okM m) (hcl:closedB m=false):ACalls Tryz.prog 64 [.agg [.pv (slObjs m)]] [] (fun r H'=>r=.pv .nilp∧H'=[]):=by
 have hml:(m.map encObj).length=m.length:=List.length_map _
 have hl:=hm.1
 refine Bd Tryz.func64 rfl Tryz.ntmps64<|Sq<|Rg<|Dd (by exact opd_box (id:=1) rfl rfl rfl rfl rfl)<|Dd as'<|Zz<|Sq<|Sq<|Rg<|Dd (by exact opd_loadn_ref rfl Tryz.isAgg38 Tryz.sizeOf38 rfl rfl rfl rfl (by simp only [Zl,encTag,encObj,encStr];rfl) rfl)<|Dd (by exact opr_call rfl rfl Tryz.call116 rfl (atlasValid_c m _ hm))<|Dd no'<|Zz ?_
 refine Cn (fun hc1=>?_) fun hc1=>?_
 ·skip
  refine Sq<|Rg<|Dd as'<|Zz<|awp_ret ?_
  refine aret1 (H':=[]) (.inr rfl) rfl (rval_tmp rfl) (Fin.wk (by(simp;done)) trivial trivial) ⟨rfl,rfl⟩
 have hg:gMap m=true:=by
  have h:(!gMap m)=false:=hc1
  simpa using h
 have hu:=(gMap_iff.1 hg).2.1
 refine awp_skip<|Sq<|Rg<|Dd (by exact opd_loadn_ref rfl Tryz.isAgg38 Tryz.sizeOf38 rfl rfl rfl rfl (by simp only [Zl,encTag,encObj,encStr];rfl) rfl)<|Dd (by exact opd_makeMap (id:=12) strK rfl rfl)<|Dd (bu' bo114)<|Dd (by exact opd_box (id:=14) rfl rfl rfl rfl rfl)<|Dd as'<|Zz<|Sq<|Sq<|Rg<|Dd (fr' fo38_0)<|Dd (l1' Tryz.isAgg36)<|Dd (ll' Tryz.underlying36)<|Dd mv'<|Zz<|awp_block ?_
 refine awp_loop (σ:=Nat) (fun k=>([(1,.ref 1 0 0 0),(3,.ref 14 0 0 0),(16,.pv (slObjs m)),(17,iv ((m.map encObj).length:Int)),(18,iv (k:Int))],[(14,cRow m),(12,kob (m.take k)),(1,bx 1 38 [.pv (slObjs m)])])) (fun k=>k≤m.length) (fun k=>m.length - k) 0 (by omega) ?_ ?_
 ·exact(Ent.wk (Ea<|Ea<|Eb<|Eb<|Eb<|trivial) (Ha<|Hc (kob_clo _ _)<|Hb<|trivial) trivial)
 intro k hk
 refine Sq<|Rg<|Dd lss'<|Zz<|Sq ?_
 refine Cn (fun hc2=>?_) fun hc2=>?_
 ·have hlt:k < m.length:=by have:=of_decide_eq_true hc2;omega
  obtain ⟨o,ho⟩:=get_of_lt hlt
  have hi:=map_get (f:=encObj) ho
  refine awp_skip<|Sq<|awp_block<|Sq<|Rg<|Dd (xp' so36)<|Dd (by exact opd_loadn_pad rfl Tryz.isAgg49 Tryz.sizeOf49 rfl (by omega) (by simp only [Zl,encTag,encObj,encStr];rfl) rfl)<|Dd (by exact x_alloc (id:=5) rfl zo49 rfl rfl)<|Uu (sa' Tryz.sizeOf49)<|Zz ?_
  refine awp_drawc follows ?_
  refine Cr [14] (fun _ _=>mv')<|Cr [14] (fun H1 hH=>by exact opd_nilCheck_ref rfl rfl ((hH _ rfl).trans rfl) rfl)<|Cr [14] (fun _ h=>fh fo114_1 h)<|Cr [14] (fun _ h=>lh Tryz.isAgg80 h)<|Cr [5] (fun _ h=>fh fo49_0 h)<|Cr [5] (fun _ h=>lh Tryz.isAgg9 h)<|Cr [5] (fun _ h=>fh fo49_1 h)<|Cr [5] (fun _ h=>lh Tryz.isAgg3 h)<|Cp [12] (fun H1 hH=>by exact x_mapUpdate (κ:=strK) (.inl rfl) Tryz.underlying80 Tryz.underlying9 rfl ((hH 12 rfl).trans rfl) rfl rfl rfl rfl rfl (kM_put hu ho)) ?_
  refine dc_nil ⟨by kernel_rfl,?_⟩
  refine Rg<|Dd ad'<|Dd mv'<|Zz ?_
  exact⟨k+1,by omega,by omega,(Ent.wk (Ea<|Ea<|Eb<|Eb<|Eb<|trivial) (Ha<|Hc (kob_clo _ _)<|Hb<|trivial) trivial)⟩
 have hge:k=m.length:=by have:=of_decide_eq_false hc2;omega
 subst hge
 rw [List.take_length]
 refine awp_exit<|Sq<|Sq<|Rg<|Dd (fr' fo38_0)<|Dd (l1' Tryz.isAgg36)<|Dd (ll' Tryz.underlying36)<|Dd mv'<|Zz<|awp_block ?_
 refine awp_loop (σ:=Nat) (fun k=>([(3,.ref 14 0 0 0),(32,.pv (slObjs m)),(33,iv ((m.map encObj).length:Int)),(34,iv (k:Int))],[(14,cRow m),(12,kob m)])) (fun k=>k≤m.length∧∀ j,j < k→∀ b,m[j]?=some b→(!decide (refErr m b.kind 0 b.refs=0))=false) (fun k=>m.length - k) 0 ⟨by omega,by omega⟩ ?_ ?_
 ·exact(Ent.wk (Ea<|Eb<|Eb<|Eb<|trivial) (Ha<|Hc (kob_clo _ _)<|trivial) trivial)
 rintro k ⟨hk,hno⟩
 refine Sq<|Rg<|Dd lss'<|Zz<|Sq ?_
 refine Cn (fun hc3=>?_) fun hc3=>?_
 ·have hlt:k < m.length:=by have:=of_decide_eq_true hc3;omega
  obtain ⟨o,ho⟩:=get_of_lt hlt
  have hi:=map_get (f:=encObj) ho
  have hoo:=hm.2 o (List.mem_of_getElem? ho)
  refine awp_skip<|Sq<|awp_block<|Sq<|Rg<|Dd (xp' so36)<|Dd (by exact opd_loadn_pad rfl Tryz.isAgg49 Tryz.sizeOf49 rfl (by omega) (by simp only [Zl,encTag,encObj,encStr];rfl) rfl)<|Dd (by exact x_alloc (id:=7) rfl zo49 rfl rfl)<|Uu (sa' Tryz.sizeOf49)<|Zz<|Sq<|Rg<|Dd mv'<|Dd (by exact opd_loadn_ref rfl Tryz.isAgg49 Tryz.sizeOf49 rfl rfl rfl rfl (by simp only [Zl,encTag,encObj,encStr];rfl) rfl)<|Dd (by exact opr_call rfl rfl Tryz.call117 rfl (refs_c m o _ rfl rfl rfl (Closed.ofL ⟨(by(simp;done)),(by(simp;done)),(by(simp;rfl)),(by exact kob_clo _ _),trivial⟩) hoo.2.2.1))<|Dd ne'<|Zz ?_
  refine Cn (fun hc4=>?_) fun hc4=>?_
  ·skip
   refine Sq<|Rg<|Dd as'<|Zz<|awp_ret ?_
   refine aret1 (H':=[]) (.inr rfl) rfl (rval_tmp rfl) (Fin.wk (by(simp;done)) trivial trivial) ⟨rfl,rfl⟩
  skip
  refine awp_skip<|Rg<|Dd ad'<|Dd mv'<|Zz ?_
  exact⟨k+1,⟨by omega,pre_succ hno ho hc4⟩,by omega,(Ent.wk (Ea<|Eb<|Eb<|Eb<|trivial) (Ha<|Hc (kob_clo _ _)<|trivial) trivial)⟩
 have hge:k=m.length:=by have:=of_decide_eq_false hc3;omega
 subst hge
 exfalso
 have:closedB m=true:=by
  rw [closedB,hg,Bool.true_and,List.all_eq_true]
  intro o ho
  obtain ⟨j,hj⟩:=List.mem_iff_getElem?.1 ho
  have:=hno j (List.getElem?_eq_some_iff.1 hj).1 o hj
  simpa using this
 rw [this] at hcl
 cases hcl
theorem ofF_c (m:List GObj) (H:Heap) (hm:okM m) (hcl:closedB m=true) (h14:H.get 14=none) (h12:H.get 12=none):ACalls Tryz.prog 64 [.agg [.pv (slObjs m)]] H (fun r H'=>r=.ref 14 0 0 0∧H'=cH m++H) :=
 ACalls.frame (of_c m hm hcl) (fun _ _ h=>by cases h) (fun _ _ h=>by cases h) (by simp) (fun id hi=>by
  right
  have:id=14∨id=12:=by
   simp only [Heap.get] at hi
   cases e1:Nat.beq 14 id with
   | true=>exact .inl (Nat.eq_of_beq_eq_true e1).symm
   | false =>
    cases e2:Nat.beq 12 id with
    | true=>exact .inr (Nat.eq_of_beq_eq_true e2).symm
    | false=>rw [e1,e2] at hi;cases hi
  rcases this with rfl|rfl
  ·exact h14
  exact h12)
theorem allNil_c (m:List GObj) (H:Heap) (hm:okM m):ACalls Tryz.prog 25 [.agg [.pv (slObjs m)],lv []] H (fun r H'=>r=.tup [.agg [.pv (slObjs (if closedB m then m else[]))],iv (-1),iv (if closedB m then 0 else 1)]∧H'=H):=by
 refine ACalls.pure ?_ (by simp) H
 cases hcl:closedB m with
 | true =>
  simp only [if_true]
  refine Bd Tryz.func25 rfl Tryz.ntmps25<|Sq<|Rg<|Dd (by exact opd_box (id:=2) rfl rfl rfl rfl rfl)<|Dd (by exact x_alloc (id:=4) rfl zo38 rfl rfl)<|Dd as'<|Dd as'<|Zz<|Sq<|Rg<|Dd (by exact opd_loadn_ref rfl Tryz.isAgg38 Tryz.sizeOf38 rfl rfl rfl rfl (by simp only [Zl,encTag,encObj,encStr];rfl) rfl)<|Dd (by exact opr_call rfl rfl Tryz.call64 rfl (ofF_c m _ hm hcl rfl rfl))<|Dd as'<|Zz<|Sq<|Sq<|Rg<|Dd mv'<|Dd (by exact opd_peq_ref rfl Tryz.underlying109 rfl rfl rfl rfl)<|Zz ?_
  refine Cn (fun hc1=>?_) fun hc1=>?_
  ·cases hc1
  skip
  refine awp_skip<|Sq<|Sq<|Rg<|Dd mv'<|Dd (ll' Tryz.underlying22)<|Dd mv'<|Zz<|awp_block ?_
  refine awp_loop (σ:=Unit) (fun _=>([(4,.ref 4 0 0 0),(7,.ref 14 0 0 0),(18,iv 0),(19,iv 0)],[(14,cRow m),(12,kob m),(4,bx 1 38 [lv []])])) (fun _=>True) (fun _=>0) () trivial ?_ ?_
  ·exact(Ent.wk (Ea<|Ea<|Eb<|Eb<|trivial) (Ha<|Hc (kob_clo _ _)<|Hb<|trivial) trivial)
  intro _ _
  refine Sq<|Rg<|Dd lss'<|Zz<|Sq ?_
  refine Cn (fun hc2=>?_) fun hc2=>?_
  ·cases hc2
  skip
  refine awp_exit<|Sq<|Rg<|Dd mv'<|Dd nc'<|Dd (fr' fo114_0)<|Dd (ln' Tryz.isAgg38 Tryz.sizeOf38)<|Uu (sa' Tryz.sizeOf38)<|Dd as'<|Dd as'<|Zz<|awp_ret ?_
  refine aret3 (H':=[]) (.inr rfl) rfl (rl' Tryz.isAgg38 Tryz.sizeOf38) (rval_tmp rfl) (rval_tmp rfl) (Fin.wk (r:=.tup [.agg [.pv (slObjs m)],iv (-1),iv 0]) (by simp) trivial trivial) ?_
  exact⟨rfl,rfl⟩
 | false =>
  simp only [Bool.false_eq_true,if_false]
  have hof:=fun H=>ACalls.pure (ofN_c m hm hcl) (by simp) H
  refine Bd Tryz.func25 rfl Tryz.ntmps25<|Sq<|Rg<|Dd (by exact opd_box (id:=2) rfl rfl rfl rfl rfl)<|Dd (by exact x_alloc (id:=4) rfl zo38 rfl rfl)<|Dd as'<|Dd as'<|Zz<|Sq<|Rg<|Dd (by exact opd_loadn_ref rfl Tryz.isAgg38 Tryz.sizeOf38 rfl rfl rfl rfl (by simp only [Zl,encTag,encObj,encStr];rfl) rfl)<|Dd (by exact opr_call rfl rfl Tryz.call64 rfl (hof _))<|Dd as'<|Zz<|Sq<|Sq<|Rg<|Dd mv'<|Dd (by exact opd_peq_nil rfl Tryz.underlying109 rfl rfl)<|Zz ?_
  refine Cn (fun hc1=>?_) fun hc1=>?_
  ·skip
   refine Sq<|Rg<|Dd (bu' bo38)<|Uu (sa' Tryz.sizeOf38)<|Dd as'<|Dd as'<|Zz<|awp_ret ?_
   refine aret3 (H':=[]) (.inr rfl) rfl (rl' Tryz.isAgg38 Tryz.sizeOf38) (rval_tmp rfl) (rval_tmp rfl) (Fin.wk (r:=.tup [.agg [lv []],iv (-1),iv 1]) (by simp) trivial trivial) ?_
   exact⟨rfl,rfl⟩
  cases hc1
end
section
theorem tagsEq_iff:∀ {a b:List GTag},tagsEq a b=true↔a=b
 | [],[]=>by simp [tagsEq]
 | [],_::_=>by simp [tagsEq]
 | _::_,[]=>by simp [tagsEq]
 | x::a,y::b=>by rw [tagsEq,Bool.and_eq_true,tagEq_iff,tagsEq_iff];simp
end
section
theorem seS4 (a0 b0 a1 b1 a2 b2 a3 b3:ByteArray) (w:World):(Op.equalIn 10000 182 (.agg [.string a0,.string a1,.string a2,.string a3].toArray) (.agg [.string b0,.string b1,.string b2,.string b3].toArray)).run Tryz.prog w =
  .ok (decide (a0=b0)&&decide (a1=b1)&&decide (a2=b2)&&decide (a3=b3)) w:=by
 obtain ⟨i,hi⟩:=info_of_underlying Tryz.underlying9
 refine(run_equalIn_array (P:=Tryz.prog) w 9999 _ _ Tryz.underlying182 hi).trans ?_
 have hs:∀ (d:Nat) (a b:ByteArray) (w:World),(Op.equalIn (d+1) 9 (.string a) (.string b)).run Tryz.prog w=.ok (decide (a=b)) w:=fun d a b w=>by rw [run_equalIn_string w d 9 a b Tryz.underlying9,list_beq]
 have hc:Tryz.prog.cellsOf 9=1:=by kernel_rfl
 by_cases e0:a0=b0<;>by_cases e1:a1=b1<;>by_cases e2:a2=b2<;>by_cases e3:a3=b3<;>simp [List.range_succ,Op.eqItems,part,hc,hs,Tryz.isAgg9,e0,e1,e2,e3]
theorem eqStrs_c (a b:List ByteArray) (H:Heap) (ha:a.length < 4611686018427387904):ACalls Tryz.prog 100 [.pv (slStrs a),.pv (slStrs b)] H (fun r H'=>r=bv (decide (a=b))∧H'=H):=by
 refine ACalls.pure ?_ (by simp) H
 have hma:(a.map encStr).length=a.length:=List.length_map _
 have hmb:(b.map encStr).length=b.length:=List.length_map _
 refine Bd Tryz.func100 rfl Tryz.ntmps100<|Sq<|Rg<|Dd as'<|Zz<|Sq<|Sq<|Rg<|Dd mv'<|Dd (ll' Tryz.underlying46)<|Dd mv'<|Dd (ll' Tryz.underlying46)<|Dd ne'<|Zz ?_
 refine Cn (fun hc1=>?_) fun hc1=>?_
 ·have hne:¬ a=b:=by
   intro e
   subst e
   simp at hc1
  refine Sq<|Rg<|Dd as'<|Zz<|awp_ret ?_
  refine Rt ?_
  exact⟨by rw [decide_eq_false hne],rfl⟩
 have heq:a.length=b.length:=by
  simp only [hma,hmb,Bool.not_eq_false',decide_eq_true_eq] at hc1
  omega
 refine awp_skip<|Sq<|Sq<|Rg<|Dd mv'<|Dd (ll' Tryz.underlying46)<|Dd mv'<|Zz<|awp_block ?_
 refine awp_loop (σ:=Nat) (fun k=>([(0,.pv (slStrs a)),(1,.pv (slStrs b)),(12,iv ((a.map encStr).length:Int)),(13,iv (k:Int))],[])) (fun k=>k≤a.length∧a.take k=b.take k) (fun k=>a.length - k) 0 ⟨by omega,by simp⟩ ?_ ?_
 ·exact E0
 rintro k ⟨hk,hall⟩
 refine Sq<|Rg<|Dd lss'<|Zz<|Sq ?_
 refine Cn (fun hc2=>?_) fun hc2=>?_
 ·have hlt:k < a.length:=by have:=of_decide_eq_true hc2;omega
  obtain ⟨x,hx⟩:=get_of_lt hlt
  obtain ⟨y,hy⟩:=get_of_lt (l:=b) (k:=k) (by omega)
  have hi:=map_get (f:=encStr) hx
  have hi2:=map_get (f:=encStr) hy
  refine awp_skip<|Sq<|awp_block<|Sq<|Rg<|Dd mv'<|Dd as'<|Zz<|Sq ?_
  refine awp_drawc follows ?_
  refine Cq mv'<|Cq mv'<|Cq (xp' so46)<|Cq (lp' Tryz.isAgg9)<|Cq mv'<|Cq mv'<|Cq (xp' so46)<|Cq (lp' Tryz.isAgg9)<|Cq sn' ?_
  refine dc_nil ⟨by kernel_rfl,?_⟩
  refine Cn (fun hc3=>?_) fun hc3=>?_
  ·have ht:¬ x=y:=by
    have h:(!decide (x=y))=true:=hc3
    simpa using h
   have hne:¬ a=b:=by
    intro e
    subst e
    rw [hx] at hy
    exact ht (Option.some.inj hy)
   refine Sq<|Rg<|Dd as'<|Zz<|awp_ret ?_
   refine Rt ?_
   exact⟨by rw [decide_eq_false hne],rfl⟩
  have ht:x=y:=by
   have h:(!decide (x=y))=false:=hc3
   simpa using h
  refine awp_skip<|Rg<|Dd ad'<|Dd mv'<|Zz ?_
  refine⟨k+1,⟨by omega,?_⟩,by omega,E0⟩
  rw [List.take_add_one,List.take_add_one,hx,hy,hall,ht]
 have hge:k=a.length:=by have:=of_decide_eq_false hc2;omega
 have he:a=b:=by
  have h:=hall
  rw [hge,List.take_length,heq,List.take_length] at h
  exact h
 refine awp_exit<|Sq<|Rg<|Dd as'<|Zz<|awp_ret ?_
 refine Rt ?_
 exact⟨by rw [decide_eq_true he],rfl⟩
def gSameO (a b:GObj):Bool:=((decide (a.id=b.id)&&decide (a.kind=b.kind)&&(decide (a.x=b.x)&&decide (a.y=b.y)))&&decide (a.refs=b.refs))&&tagsEq a.tags b.tags
theorem gSameO_iff {a b:GObj}:gSameO a b=true↔a=b:=by
 cases a;cases b
 simp only [gSameO,Bool.and_eq_true,decide_eq_true_eq,tagsEq_iff,GObj.mk.injEq]
 constructor
 ·rintro⟨⟨⟨⟨a1,a2⟩,a3,a4⟩,a5⟩,a6⟩
  exact⟨a1,a2,a3,a4,a5,a6⟩
 rintro⟨a1,a2,a3,a4,a5,a6⟩
 exact⟨⟨⟨⟨a1,a2⟩,a3,a4⟩,a5⟩,a6⟩
def okS (o:GObj):Prop:=o.refs.length < 4611686018427387904∧o.tags.length < 4611686018427387904
theorem sameO_c (a b:GObj) (H:Heap) (ha:okS a):ACalls Tryz.prog 147 [av (encObj a),av (encObj b)] H (fun r H'=>r=bv (gSameO a b)∧H'=H):=by
 refine ACalls.pure ?_ (by simp) H
 refine Bd Tryz.func147 rfl Tryz.ntmps147<|Sq<|Rg<|Dd (by exact opd_box (id:=2) rfl rfl rfl rfl rfl)<|Dd (by exact opd_box (id:=3) rfl rfl rfl rfl rfl)<|Dd as'<|Zz<|Sq ?_
 refine awp_bool (t:=4) (n:=38) (X:=gSameO a b) ?_ ?_
 ·all_goals refine Dd (fr' fo49_0) ?_
  all_goals refine Dd (l1' Tryz.isAgg9) ?_
  all_goals refine Dd (fr' fo49_0) ?_
  all_goals refine Dd (l1' Tryz.isAgg9) ?_
  all_goals refine Dd se' ?_
  all_goals refine Dd mv' ?_
  all_goals refine Sp 10 (fun h10=>?_) fun h10=>?_
  all_goals try contradiction
  all_goals first|refine Fo ?_|refine On (fr' fo49_1) ?_
  all_goals first|refine Fo ?_|refine On (l1' Tryz.isAgg3) ?_
  all_goals first|refine Fo ?_|refine On (fr' fo49_1) ?_
  all_goals first|refine Fo ?_|refine On (l1' Tryz.isAgg3) ?_
  all_goals first|refine Fo ?_|refine On eql' ?_
  all_goals refine Dd pk' ?_
  all_goals refine Dd mv' ?_
  all_goals refine Sp 17 (fun h17=>?_) fun h17=>?_
  all_goals try contradiction
  all_goals first|refine Fo ?_|refine On (fr' fo49_2) ?_
  all_goals first|refine Fo ?_|refine On (by exact opd_loadn_ref rfl Tryz.isAgg45 Tryz.sizeOf45 rfl rfl rfl rfl (by simp only [Zl,encTag,encObj,encStr,encEdit];rfl) rfl) ?_
  all_goals first|refine Fo ?_|refine On (fr' fo49_2) ?_
  all_goals first|refine Fo ?_|refine On (by exact opd_loadn_ref rfl Tryz.isAgg45 Tryz.sizeOf45 rfl rfl rfl rfl (by simp only [Zl,encTag,encObj,encStr,encEdit];rfl) rfl) ?_
  all_goals first|refine Fo ?_|refine On (by exact opd_aeql rfl rfl rfl rfl rfl Tryz.eqGuardType45 (se45 _ _ _ _)) ?_
  all_goals refine Dd pk' ?_
  all_goals refine Dd mv' ?_
  all_goals refine Sp 24 (fun h24=>?_) fun h24=>?_
  all_goals try contradiction
  all_goals first|refine Fo ?_|refine On (fr' fo49_3) ?_
  all_goals first|refine Fo ?_|refine On (l1' Tryz.isAgg46) ?_
  all_goals first|refine Fo ?_|refine On (fr' fo49_3) ?_
  all_goals first|refine Fo ?_|refine On (l1' Tryz.isAgg46) ?_
  all_goals first|refine Fo ?_|refine On (by exact opr_call rfl rfl Tryz.call100 rfl (eqStrs_c a.refs b.refs _ ha.1)) ?_
  all_goals refine Dd pk' ?_
  all_goals refine Dd mv' ?_
  all_goals refine Sp 31 (fun h31=>?_) fun h31=>?_
  all_goals try contradiction
  all_goals first|refine Fo ?_|refine On (fr' fo49_4) ?_
  all_goals first|refine Fo ?_|refine On (l1' Tryz.isAgg47) ?_
  all_goals first|refine Fo ?_|refine On (fr' fo49_4) ?_
  all_goals first|refine Fo ?_|refine On (l1' Tryz.isAgg47) ?_
  all_goals first|refine Fo ?_|refine On (by exact opr_call rfl rfl Tryz.call190 rfl (equalTags_c a.tags b.tags _ ha.2)) ?_
  all_goals refine Dd pk' ?_
  all_goals refine Dd as' ?_
  all_goals refine al_nil ?_
  all_goals(exact⟨⟨_,rfl,by(simp only [gSameO, *];rfl)⟩,rfl,rfl,rfl⟩)
 refine awp_ret ?_
 refine Rt ?_
 exact⟨rfl,rfl⟩
def gSameE (a b:GEdit):Bool:=((((decide (a.refs=b.refs)&&gSameO a.obj b.obj)&&decide (a.op=b.op))&&(decide (a.id=b.id)&&decide (a.other=b.other)&&decide (a.node=b.node)&&decide (a.key=b.key)))&&decide (a.val=b.val))&&(decide (a.x=b.x)&&decide (a.y=b.y))
theorem gSameE_iff {a b:GEdit}:gSameE a b=true↔a=b:=by
 cases a;cases b
 simp only [gSameE,Bool.and_eq_true,decide_eq_true_eq,gSameO_iff,GEdit.mk.injEq]
 constructor
 ·rintro⟨⟨⟨⟨⟨a1,a2⟩,a3⟩,⟨⟨a4,a5⟩,a6⟩,a7⟩,a8⟩,a9,a10⟩
  exact⟨a3,a4,a5,a6,a9,a10,a7,a8,a1,a2⟩
 rintro⟨a3,a4,a5,a6,a9,a10,a7,a8,a1,a2⟩
 exact⟨⟨⟨⟨⟨a1,a2⟩,a3⟩,⟨⟨a4,a5⟩,a6⟩,a7⟩,a8⟩,a9,a10⟩
theorem sameE_c (a b:GEdit) (H:Heap) (h1:a.refs.length < 4611686018427387904) (h2:okS a.obj):ACalls Tryz.prog 92 [av (encEdit a),av (encEdit b)] H (fun r H'=>r=bv (gSameE a b)∧H'=H):=by
 refine ACalls.pure ?_ (by simp) H
 refine Bd Tryz.func92 rfl Tryz.ntmps92<|Sq<|Rg<|Dd (by exact opd_box (id:=2) rfl rfl rfl rfl rfl)<|Dd (by exact opd_box (id:=3) rfl rfl rfl rfl rfl)<|Dd as'<|Zz<|Sq ?_
 refine awp_bool (t:=5) (n:=14) (X:=decide (a.refs=b.refs)&&gSameO a.obj b.obj) ?_ ?_
 ·all_goals refine Dd (fr' fo51_7) ?_
  all_goals refine Dd (l1' Tryz.isAgg46) ?_
  all_goals refine Dd (fr' fo51_7) ?_
  all_goals refine Dd (l1' Tryz.isAgg46) ?_
  all_goals refine Dd (by exact opr_call rfl rfl Tryz.call100 rfl (eqStrs_c a.refs b.refs _ h1)) ?_
  all_goals refine Dd mv' ?_
  all_goals refine Sp 11 (fun h11=>?_) fun h11=>?_
  all_goals try contradiction
  all_goals first|refine Fo ?_|refine On (fr' fo51_8) ?_
  all_goals first|refine Fo ?_|refine On (by exact opd_loadn_ref rfl Tryz.isAgg49 Tryz.sizeOf49 rfl rfl rfl rfl (by simp only [Zl,encTag,encObj,encStr,encEdit];rfl) rfl) ?_
  all_goals first|refine Fo ?_|refine On (fr' fo51_8) ?_
  all_goals first|refine Fo ?_|refine On (by exact opd_loadn_ref rfl Tryz.isAgg49 Tryz.sizeOf49 rfl rfl rfl rfl (by simp only [Zl,encTag,encObj,encStr,encEdit];rfl) rfl) ?_
  all_goals first|refine Fo ?_|refine On (by exact opr_call rfl rfl Tryz.call147 rfl (sameO_c a.obj b.obj _ h2)) ?_
  all_goals refine Dd pk' ?_
  all_goals refine Dd as' ?_
  all_goals refine al_nil ?_
  all_goals(exact⟨⟨_,rfl,by(simp only [*];rfl)⟩,rfl,rfl,rfl⟩)
 refine Sq ?_
 refine awp_bool (t:=4) (n:=48) (X:=gSameE a b) ?_ ?_
 ·all_goals refine Dd mv' ?_
  all_goals refine Dd mv' ?_
  all_goals refine Sp 19 (fun h19=>?_) fun h19=>?_
  all_goals try contradiction
  all_goals first|refine Fo ?_|refine On (fr' fo51_0) ?_
  all_goals first|refine Fo ?_|refine On (l1' Tryz.isAgg3) ?_
  all_goals first|refine Fo ?_|refine On (fr' fo51_0) ?_
  all_goals first|refine Fo ?_|refine On (l1' Tryz.isAgg3) ?_
  all_goals first|refine Fo ?_|refine On eql' ?_
  all_goals refine Dd pk' ?_
  all_goals refine Dd mv' ?_
  all_goals refine Sp 26 (fun h26=>?_) fun h26=>?_
  all_goals try contradiction
  all_goals first|refine Fo ?_|refine On (fr' fo51_1) ?_
  all_goals first|refine Fo ?_|refine On (l1' Tryz.isAgg9) ?_
  all_goals first|refine Fo ?_|refine On (fr' fo51_2) ?_
  all_goals first|refine Fo ?_|refine On (l1' Tryz.isAgg9) ?_
  all_goals first|refine Fo ?_|refine On (fr' fo51_3) ?_
  all_goals first|refine Fo ?_|refine On (l1' Tryz.isAgg9) ?_
  all_goals first|refine Fo ?_|refine On (fr' fo51_5) ?_
  all_goals first|refine Fo ?_|refine On (l1' Tryz.isAgg9) ?_
  all_goals first|refine Fo ?_|refine On (by exact x_build_arr rfl ao182 rfl rfl) ?_
  all_goals first|refine Fo ?_|refine On (fr' fo51_1) ?_
  all_goals first|refine Fo ?_|refine On (l1' Tryz.isAgg9) ?_
  all_goals first|refine Fo ?_|refine On (fr' fo51_2) ?_
  all_goals first|refine Fo ?_|refine On (l1' Tryz.isAgg9) ?_
  all_goals first|refine Fo ?_|refine On (fr' fo51_3) ?_
  all_goals first|refine Fo ?_|refine On (l1' Tryz.isAgg9) ?_
  all_goals first|refine Fo ?_|refine On (fr' fo51_5) ?_
  all_goals first|refine Fo ?_|refine On (l1' Tryz.isAgg9) ?_
  all_goals first|refine Fo ?_|refine On (by exact x_build_arr rfl ao182 rfl rfl) ?_
  all_goals first|refine Fo ?_|refine On (by exact opd_aeql rfl rfl rfl rfl rfl Tryz.eqGuardType182 (seS4 a.id b.id a.other b.other a.node b.node a.key b.key)) ?_
  all_goals refine Dd pk' ?_
  all_goals refine Dd mv' ?_
  all_goals refine Sp 47 (fun h47=>?_) fun h47=>?_
  all_goals try contradiction
  all_goals first|refine Fo ?_|refine On (fr' fo51_6) ?_
  all_goals first|refine Fo ?_|refine On (l1' Tryz.isAgg9) ?_
  all_goals first|refine Fo ?_|refine On (fr' fo51_6) ?_
  all_goals first|refine Fo ?_|refine On (l1' Tryz.isAgg9) ?_
  all_goals first|refine Fo ?_|refine On se' ?_
  all_goals refine Dd pk' ?_
  all_goals refine Dd mv' ?_
  all_goals refine Sp 54 (fun h54=>?_) fun h54=>?_
  all_goals try contradiction
  all_goals first|refine Fo ?_|refine On (fr' fo51_4) ?_
  all_goals first|refine Fo ?_|refine On (by exact opd_loadn_ref rfl Tryz.isAgg45 Tryz.sizeOf45 rfl rfl rfl rfl (by simp only [Zl,encTag,encObj,encStr,encEdit];rfl) rfl) ?_
  all_goals first|refine Fo ?_|refine On (fr' fo51_4) ?_
  all_goals first|refine Fo ?_|refine On (by exact opd_loadn_ref rfl Tryz.isAgg45 Tryz.sizeOf45 rfl rfl rfl rfl (by simp only [Zl,encTag,encObj,encStr,encEdit];rfl) rfl) ?_
  all_goals first|refine Fo ?_|refine On (by exact opd_aeql rfl rfl rfl rfl rfl Tryz.eqGuardType45 (se45 _ _ _ _)) ?_
  all_goals refine Dd pk' ?_
  all_goals refine Dd as' ?_
  all_goals refine al_nil ?_
  all_goals(exact⟨⟨_,rfl,by(simp only [gSameE, *];rfl)⟩,rfl,rfl,rfl⟩)
 refine awp_ret ?_
 refine Rt ?_
 exact⟨rfl,rfl⟩
def atP {α:Type} (l:List α) (p:α→Bool) (k:Nat):Bool:=match l[k]? with
 | some s=>p s
 | none=>false
theorem atP_some {α:Type} {l:List α} {p:α→Bool} {k:Nat} {s:α} (h:l[k]?=some s):atP l p k=p s:=by rw [atP,h]
theorem range_any_get {α:Type} (l:List α) (p:α→Bool):(List.range l.length).any (atP l p)=l.any p:=by
 rw [Bool.eq_iff_iff,List.any_eq_true,List.any_eq_true]
 constructor
 ·rintro⟨k,hk,h⟩
  have hlt:=List.mem_range.1 hk
  rw [atP_some (List.getElem?_eq_getElem hlt)] at h
  exact⟨_,List.getElem_mem hlt,h⟩
 rintro⟨x,hx,h⟩
 obtain ⟨k,hk⟩:=List.mem_iff_getElem?.1 hx
 exact⟨k,List.mem_range.2 (List.getElem?_eq_some_iff.1 hk).1,by rw [atP_some hk];exact h⟩
theorem names1_c (s:ByteArray) (H:Heap) (hs:s.size < 4611686018427387904):ACalls Tryz.prog 141 [sv s] H (fun r H'=>r=bv (!gName s)∧H'=H):=by
 refine ACalls.pure ?_ (by simp) H
 refine Bd Tryz.func141 rfl Tryz.ntmps141<|Sq<|Rg<|Dd as'<|Zz<|Sq<|Rg<|Dd mv'<|Dd (by exact opr_call rfl rfl Tryz.call142 rfl (name_c s _ hs))<|Dd no'<|Dd as'<|Zz<|awp_ret ?_
 refine Rt ?_
 exact⟨rfl,rfl⟩
theorem names_c (l:List ByteArray) (H:Heap) (hl:l.length < 4611686018427387904) (hs:∀ s∈l,s.size < 4611686018427387904):ACalls Tryz.prog 90 [.pv (slStrs l)] H (fun r H'=>r=bv (l.all gName)∧H'=H):=by
 refine ACalls.pure ?_ (by simp) H
 have e:l.all gName=!(List.range l.length).any (atP l (fun s=>!gName s)):=by
  rw [range_any_get l (fun s=>!gName s),List.any_eq_not_all_not]
  simp
 rw [e]
 refine Bd Tryz.func90 rfl Tryz.ntmps90<|Sq<|Rg<|Dd as'<|Zz<|Sq<|Rg<|Dd mv'<|Dd (by exact opr_call rfl rfl Tryz.call101 rfl (containsFuncS (.pv (.fn 141)) l (atP l (fun s=>!gName s)) (fun _=>[]) hl (fun k s hk=>CallsV.fn Tryz.call141 (by rw [atP_some hk];exact names1_c s _ (hs s (List.mem_of_getElem? hk))))))<|Dd no'<|Dd as'<|Zz<|awp_ret ?_
 refine Rt ?_
 exact⟨rfl,rfl⟩
end
end Go.Proofs.YtlnfjkdacimblaaGreatDoor
