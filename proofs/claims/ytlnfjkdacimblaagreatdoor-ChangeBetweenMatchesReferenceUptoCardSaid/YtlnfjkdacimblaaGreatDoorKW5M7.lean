/-
  CONTRACTS: the reference: references, objects. Conditions: lengths below 2^62.
  CONTRACTS: the reference: maps, finding, references, closed maps, lists of indices. Conditions: lengths below 2^62.
  CONTRACTS: what is moderate (planisphereref13.Few); objects and maps compared (planisphereref11.Same, 12.Same). Conditions: lengths below 2^62.
  THE ABSTRACT LOGIC: an owned slice is frozen while other objects hold it. Conditions: each rule's own premises.
  THE ABSTRACT LOGIC, 31: a range over a function. Conditions: the rule's own premises.
  THE ABSTRACT LOGIC, 32: a contract, at heaps that hold the same. Conditions: the rules' own premises.
  THE ABSTRACT LOGIC, 17: a text's bytes are appended. Conditions: each rule's own premises.
  THE ABSTRACT LOGIC, 33: pointers turned to unsafe pointers and back, a pointer held against itself; the string that shares the bytes of an owned row (strings.Builder). Conditions: the rules' own premises.
  THE ABSTRACT LOGIC, 34: bytes without content (MakeNoZero), a slice that is made shorter for good, s[i:j:j]; capacities and lengths of nil. Conditions: the rules' own premises.
  CONTRACTS: strings.Builder. Conditions: lengths below 2^46.
  CONTRACTS: lexer.Quote, strings.Join. Conditions: lengths below 2^44.
  CONTRACTS: tag.Text. Conditions: lengths below 2^62.
  CONTRACTS: lexer.unquoted. Conditions: lengths below 2^40.
  THE ABSTRACT LOGIC, 35: ways that meet in one of several states. Conditions: the rule's own premises.
-/
import Derived.Test.YtlnfjkdacimblaaGreatDoorKW5M6
import Derived.Lib.AppendStr
import Derived.Lib.UnsafeStr
import Derived.Lib.MakeNoZero
import Derived.Lib.Builder
set_option linter.unusedVariables false
set_option linter.unusedSimpArgs false
set_option maxRecDepth 100000
set_option maxHeartbeats 2000000
namespace Go.Proofs.YtlnfjkdacimblaaGreatDoor
open Go.Abs
section
theorem wrong_eq (o:GObj) (k:Nat) (s p:ByteArray) (hp:0 < k→o.refs[k - 1]?=some p) :
  ((!gName s||((decide (o.kind=2)&&decide ((0:Int) < (k:Int)))&&decide (p=s)))||(decide (o.kind=3)&&inB (seenL o.refs k) s))=gWrong o (before id o.refs k) (seenL o.refs k) s:=by
 rw [gWrong,gTwice]
 cases hg:gName s with
 | false=>simp
 | true =>
  have hs:(decide ((0:Int) < (k:Int))&&decide (p=s))=decide (s=before id o.refs k):=by
   cases k with
   | zero=>rw [before,decide_eq_false (gName_ne hg)];rfl
   | succ k =>
    have h:=hp (by omega)
    rw [show k+1 - 1=k from rfl] at h
    rw [before_succ h,decide_eq_true (show (0:Int) < ((k+1:Nat):Int)by omega),Bool.true_and]
    exact decide_eq_decide.2 eq_comm
  rw [← hs]
  simp [Bool.and_assoc]
theorem seenL_at {l:List ByteArray} {k:Nat} {s:ByteArray} (h:l[k]?=some s):seenL l (k+1)=sput (seenL l k) s:=by rw [seenL,h];rfl
def gNum (k n:Int):Bool:=if k=1 then decide (n=0)else if k=2 then decide (2≤n)else if k=3 then decide (3≤n)else if k=4 then decide (1≤n)else decide (n=3)
def rRefs (o:GObj):Bool:=(decide ((o.refs.length:Int)≤2000)&&!((List.range o.refs.length).any (wrongAt o)))&&gNum o.kind (o.refs.length:Int)
theorem rRefs_c (o:GObj) (H:Heap) (ho:okO o):ACalls Tryz.prog 149 [av (encObj o)] H (fun r H'=>r=bv (rRefs o)∧H'=H):=by
 refine ACalls.pure ?_ (by simp) H
 obtain ⟨h1,h2,h3,h4⟩:=ho
 have hml:(o.refs.map encStr).length=o.refs.length:=List.length_map _
 refine Bd Tryz.func149 rfl Tryz.ntmps149<|Sq<|Rg<|Dd (by exact opd_box (id:=1) rfl rfl rfl rfl rfl)<|Dd as'<|Zz<|Sq<|Rg<|Dd (fr' fo49_3)<|Dd (l1' Tryz.isAgg46)<|Dd (ll' Tryz.underlying46)<|Dd as'<|Zz<|Sq<|Sq<|Rg<|Dd mv'<|Dd gt'<|Zz ?_
 refine Cn (fun hc1=>?_) fun hc1=>?_
 ·have hb:decide ((o.refs.length:Int)≤2000)=false:=by
   have:=of_decide_eq_true hc1
   exact decide_eq_false (by omega)
  refine Sq<|Rg<|Dd as'<|Zz<|awp_ret ?_
  refine Rt ?_
  exact⟨by rw [rRefs,hb];rfl,rfl⟩
 have hb:decide ((o.refs.length:Int)≤2000)=true:=by
  have:=of_decide_eq_false hc1
  exact decide_eq_true (by omega)
 rw [rRefs,hb,Bool.true_and]
 refine awp_skip<|Sq<|Rg<|Dd (by exact opd_makeMap (id:=11) strK rfl rfl)<|Dd as'<|Zz<|Sq<|Sq<|Rg<|Dd as'<|Zz<|awp_block ?_
 refine awp_loop (σ:=Nat) (fun k=>([(1,.ref 1 0 0 0),(3,iv ((o.refs.map encStr).length:Int)),(4,.mp 11 0),(5,iv (k:Int))],[(11,sob (seenL o.refs k)),(1,bx 6 49 ((encObj o).map .pv))])) (fun k=>k≤o.refs.length∧∀ j,j < k→wrongAt o j=false) (fun k=>o.refs.length - k) 0 ⟨by omega,by omega⟩ ?_ ?_
 ·exact(Ent.wk (Ea<|Eb<|Ea<|Eb<|trivial) (Hc (sob_clo _ _)<|Hb<|trivial) trivial)
 rintro k ⟨hk,hno⟩
 refine Sq<|Sq<|Rg<|Dd mv'<|Dd mv'<|Dd lss'<|Zz ?_
 refine Cn (fun hc2=>?_) fun hc2=>?_
 ·have hlt:k < o.refs.length:=by have:=of_decide_eq_true hc2;omega
  obtain ⟨s,hs⟩:=get_of_lt hlt
  have hi:=map_get (f:=encStr) hs
  obtain ⟨p,hp⟩:∃ p,0 < k→o.refs[k - 1]?=some p:=by
   by_cases k0:0 < k
   ·obtain ⟨p,hp⟩:=get_of_lt (l:=o.refs) (k:=k - 1) (by omega)
    exact⟨p,fun _=>hp⟩
   exact⟨s,fun h=>absurd h k0⟩
  have hpv:0 < k→(o.refs.map encStr)[k - 1]?=some (encStr p):=fun h=>map_get (f:=encStr) (hp h)
  have hbe:=wrong_eq o k s p hp
  have hw:wrongAt o k=gWrong o (before id o.refs k) (seenL o.refs k) s:=by rw [wrongAt,hs]
  have hse:=seenL_at hs
  refine awp_skip<|Sq<|awp_block<|Sq<|Sq ?_
  refine awp_mergeR (t:=60) (n:=44) (X:=(!gName s||((decide (o.kind=2)&&decide ((0:Int) < (k:Int)))&&decide (p=s)))||(decide (o.kind=3)&&inB (seenL o.refs k) s)) ?_ ?_
  ·cases hg24:(!gName s:Bool)
   ·cases hg28:(decide (o.kind=2):Bool)
    ·cases hg51:(decide (o.kind=3):Bool)
     ·refine awp_drawc follows ?_
      refine Cq (fr' fo49_3)<|Cq (l1' Tryz.isAgg46)<|Cq mv'<|Cq (xp' so46)<|Cq (lp' Tryz.isAgg9)<|Cq (by exact opr_call rfl rfl Tryz.call95 rfl (rName_c s _ (h4 s (List.mem_of_getElem? hs))))<|Cq no'<|Cq mv'<|Nf (fr' fo49_1)<|Nf (l1' Tryz.isAgg3)<|Nf eql'<|Nf mv'<|Ot<|Ot<|Nf pf'<|Nf mv'<|Ot<|Ot<|Ot<|Ot<|Ot<|Ot<|Ot<|Ot<|Ot<|Ot<|Ot<|Ot<|Nf pk'<|Cq pf'<|Cq mv'<|Nf (fr' fo49_1)<|Nf (l1' Tryz.isAgg3)<|Nf eql'<|Nf mv'<|Ot<|Ot<|Ot<|Ot<|Ot<|Ot<|Ot<|Nf pf'<|Cq pk' ?_
      refine dc_nil ⟨by kernel_rfl,?_⟩
      exact⟨rfl,⟨_,rfl,by rfl⟩,rfl,rfl,rfl⟩
     refine awp_drawc follows ?_
     refine Cq (fr' fo49_3)<|Cq (l1' Tryz.isAgg46)<|Cq mv'<|Cq (xp' so46)<|Cq (lp' Tryz.isAgg9)<|Cq (by exact opr_call rfl rfl Tryz.call95 rfl (rName_c s _ (h4 s (List.mem_of_getElem? hs))))<|Cq no'<|Cq mv'<|Nf (fr' fo49_1)<|Nf (l1' Tryz.isAgg3)<|Nf eql'<|Nf mv'<|Ot<|Ot<|Nf pf'<|Nf mv'<|Ot<|Ot<|Ot<|Ot<|Ot<|Ot<|Ot<|Ot<|Ot<|Ot<|Ot<|Ot<|Nf pk'<|Cq pf'<|Cq mv'<|Nf (fr' fo49_1)<|Nf (l1' Tryz.isAgg3)<|Nf eql'<|Nf mv'<|Nt mv'<|Nt (fr' fo49_3)<|Nt (l1' Tryz.isAgg46)<|Nt mv'<|Nt (xp' so46)<|Nt (lp' Tryz.isAgg9)<|Nt (by exact x_lookup_set rfl Tryz.underlying89 Tryz.underlying9 rfl rfl rfl rfl rfl Tryz.zeroValue4 (.inl rfl))<|Nf pt'<|Cq pk' ?_
     refine dc_nil ⟨by kernel_rfl,?_⟩
     exact⟨rfl,⟨_,rfl,by rfl⟩,rfl,rfl,rfl⟩
    cases hg32:(decide ((0:Int) < (k:Int)):Bool)
    ·cases hg51:(decide (o.kind=3):Bool)
     ·refine awp_drawc follows ?_
      refine Cq (fr' fo49_3)<|Cq (l1' Tryz.isAgg46)<|Cq mv'<|Cq (xp' so46)<|Cq (lp' Tryz.isAgg9)<|Cq (by exact opr_call rfl rfl Tryz.call95 rfl (rName_c s _ (h4 s (List.mem_of_getElem? hs))))<|Cq no'<|Cq mv'<|Nf (fr' fo49_1)<|Nf (l1' Tryz.isAgg3)<|Nf eql'<|Nf mv'<|Nt mv'<|Nt gt'<|Nf pt'<|Nf mv'<|Ot<|Ot<|Ot<|Ot<|Ot<|Ot<|Ot<|Ot<|Ot<|Ot<|Ot<|Ot<|Nf pf'<|Cq pf'<|Cq mv'<|Nf (fr' fo49_1)<|Nf (l1' Tryz.isAgg3)<|Nf eql'<|Nf mv'<|Ot<|Ot<|Ot<|Ot<|Ot<|Ot<|Ot<|Nf pf'<|Cq pk' ?_
      refine dc_nil ⟨by kernel_rfl,?_⟩
      exact⟨rfl,⟨_,rfl,by rfl⟩,rfl,rfl,rfl⟩
     refine awp_drawc follows ?_
     refine Cq (fr' fo49_3)<|Cq (l1' Tryz.isAgg46)<|Cq mv'<|Cq (xp' so46)<|Cq (lp' Tryz.isAgg9)<|Cq (by exact opr_call rfl rfl Tryz.call95 rfl (rName_c s _ (h4 s (List.mem_of_getElem? hs))))<|Cq no'<|Cq mv'<|Nf (fr' fo49_1)<|Nf (l1' Tryz.isAgg3)<|Nf eql'<|Nf mv'<|Nt mv'<|Nt gt'<|Nf pt'<|Nf mv'<|Ot<|Ot<|Ot<|Ot<|Ot<|Ot<|Ot<|Ot<|Ot<|Ot<|Ot<|Ot<|Nf pf'<|Cq pf'<|Cq mv'<|Nf (fr' fo49_1)<|Nf (l1' Tryz.isAgg3)<|Nf eql'<|Nf mv'<|Nt mv'<|Nt (fr' fo49_3)<|Nt (l1' Tryz.isAgg46)<|Nt mv'<|Nt (xp' so46)<|Nt (lp' Tryz.isAgg9)<|Nt (by exact x_lookup_set rfl Tryz.underlying89 Tryz.underlying9 rfl rfl rfl rfl rfl Tryz.zeroValue4 (.inl rfl))<|Nf pt'<|Cq pk' ?_
     refine dc_nil ⟨by kernel_rfl,?_⟩
     exact⟨rfl,⟨_,rfl,by rfl⟩,rfl,rfl,rfl⟩
    cases hg47:(decide (p=s):Bool)
    ·cases hg51:(decide (o.kind=3):Bool)
     ·refine awp_drawc follows ?_
      refine Cq (fr' fo49_3)<|Cq (l1' Tryz.isAgg46)<|Cq mv'<|Cq (xp' so46)<|Cq (lp' Tryz.isAgg9)<|Cq (by exact opr_call rfl rfl Tryz.call95 rfl (rName_c s _ (h4 s (List.mem_of_getElem? hs))))<|Cq no'<|Cq mv'<|Nf (fr' fo49_1)<|Nf (l1' Tryz.isAgg3)<|Nf eql'<|Nf mv'<|Nt mv'<|Nt gt'<|Nf pt'<|Nf mv'<|Nt (fr' fo49_3)<|Nt (l1' Tryz.isAgg46)<|Nt mv'<|Nt (by exact opd_sub rfl rfl rfl (by exact w64 (by omega) (by omega)))<|Nt (by exact x_index_pad rfl so46 rfl rfl (by have:=of_decide_eq_true hg32;omega) (show ((k:Int) - 1).toNat=k - 1 by omega) (hpv (by have:=of_decide_eq_true hg32;omega)) rfl)<|Nt (by exact opd_load1_pad rfl Tryz.isAgg9 rfl (hpv (by have:=of_decide_eq_true hg32;omega)) rfl)<|Nt (fr' fo49_3)<|Nt (l1' Tryz.isAgg46)<|Nt mv'<|Nt (xp' so46)<|Nt (lp' Tryz.isAgg9)<|Nt se'<|Nf pt'<|Cq pf'<|Cq mv'<|Nf (fr' fo49_1)<|Nf (l1' Tryz.isAgg3)<|Nf eql'<|Nf mv'<|Ot<|Ot<|Ot<|Ot<|Ot<|Ot<|Ot<|Nf pf'<|Cq pf' ?_
      refine dc_nil ⟨by kernel_rfl,?_⟩
      exact⟨rfl,⟨_,rfl,by rfl⟩,rfl,rfl,rfl⟩
     refine awp_drawc follows ?_
     refine Cq (fr' fo49_3)<|Cq (l1' Tryz.isAgg46)<|Cq mv'<|Cq (xp' so46)<|Cq (lp' Tryz.isAgg9)<|Cq (by exact opr_call rfl rfl Tryz.call95 rfl (rName_c s _ (h4 s (List.mem_of_getElem? hs))))<|Cq no'<|Cq mv'<|Nf (fr' fo49_1)<|Nf (l1' Tryz.isAgg3)<|Nf eql'<|Nf mv'<|Nt mv'<|Nt gt'<|Nf pt'<|Nf mv'<|Nt (fr' fo49_3)<|Nt (l1' Tryz.isAgg46)<|Nt mv'<|Nt (by exact opd_sub rfl rfl rfl (by exact w64 (by omega) (by omega)))<|Nt (by exact x_index_pad rfl so46 rfl rfl (by have:=of_decide_eq_true hg32;omega) (show ((k:Int) - 1).toNat=k - 1 by omega) (hpv (by have:=of_decide_eq_true hg32;omega)) rfl)<|Nt (by exact opd_load1_pad rfl Tryz.isAgg9 rfl (hpv (by have:=of_decide_eq_true hg32;omega)) rfl)<|Nt (fr' fo49_3)<|Nt (l1' Tryz.isAgg46)<|Nt mv'<|Nt (xp' so46)<|Nt (lp' Tryz.isAgg9)<|Nt se'<|Nf pt'<|Cq pf'<|Cq mv'<|Nf (fr' fo49_1)<|Nf (l1' Tryz.isAgg3)<|Nf eql'<|Nf mv'<|Nt mv'<|Nt (fr' fo49_3)<|Nt (l1' Tryz.isAgg46) ?_
     refine Nt mv'<|Nt (xp' so46)<|Nt (lp' Tryz.isAgg9)<|Nt (by exact x_lookup_set rfl Tryz.underlying89 Tryz.underlying9 rfl rfl rfl rfl rfl Tryz.zeroValue4 (.inl rfl))<|Nf pt'<|Cq pf' ?_
     refine dc_nil ⟨by kernel_rfl,?_⟩
     exact⟨rfl,⟨_,rfl,by rfl⟩,rfl,rfl,rfl⟩
    refine awp_drawc follows ?_
    refine Cq (fr' fo49_3)<|Cq (l1' Tryz.isAgg46)<|Cq mv'<|Cq (xp' so46)<|Cq (lp' Tryz.isAgg9)<|Cq (by exact opr_call rfl rfl Tryz.call95 rfl (rName_c s _ (h4 s (List.mem_of_getElem? hs))))<|Cq no'<|Cq mv'<|Nf (fr' fo49_1)<|Nf (l1' Tryz.isAgg3)<|Nf eql'<|Nf mv'<|Nt mv'<|Nt gt'<|Nf pt'<|Nf mv'<|Nt (fr' fo49_3)<|Nt (l1' Tryz.isAgg46)<|Nt mv'<|Nt (by exact opd_sub rfl rfl rfl (by exact w64 (by omega) (by omega)))<|Nt (by exact x_index_pad rfl so46 rfl rfl (by have:=of_decide_eq_true hg32;omega) (show ((k:Int) - 1).toNat=k - 1 by omega) (hpv (by have:=of_decide_eq_true hg32;omega)) rfl)<|Nt (by exact opd_load1_pad rfl Tryz.isAgg9 rfl (hpv (by have:=of_decide_eq_true hg32;omega)) rfl)<|Nt (fr' fo49_3)<|Nt (l1' Tryz.isAgg46)<|Nt mv'<|Nt (xp' so46)<|Nt (lp' Tryz.isAgg9)<|Nt se'<|Nf pt'<|Cq pf'<|Cq mv'<|Of<|Of<|Of<|Of<|Ou<|Ou<|Ou<|Ou<|Ou<|Ou<|Ou<|Of<|Cq pt' ?_
    refine dc_nil ⟨by kernel_rfl,?_⟩
    exact⟨rfl,⟨_,rfl,by rfl⟩,rfl,rfl,rfl⟩
   refine awp_drawc follows ?_
   refine Cq (fr' fo49_3)<|Cq (l1' Tryz.isAgg46)<|Cq mv'<|Cq (xp' so46)<|Cq (lp' Tryz.isAgg9)<|Cq (by exact opr_call rfl rfl Tryz.call95 rfl (rName_c s _ (h4 s (List.mem_of_getElem? hs))))<|Cq no'<|Cq mv'<|Of<|Of<|Of<|Of<|Ou<|Ou<|Of<|Of<|Ou<|Ou<|Ou<|Ou<|Ou<|Ou<|Ou<|Ou<|Ou<|Ou<|Ou<|Ou<|Of<|Cq pt'<|Cq mv'<|Of<|Of<|Of<|Of<|Ou<|Ou<|Ou<|Ou<|Ou<|Ou<|Ou<|Of<|Cq pk' ?_
   refine dc_nil ⟨by kernel_rfl,?_⟩
   exact⟨rfl,⟨_,rfl,by rfl⟩,rfl,rfl,rfl⟩
  refine Cn (fun hc3=>?_) fun hc3=>?_
  ·rw [hbe,← hw] at hc3
   refine Sq<|Rg<|Dd as'<|Zz<|awp_ret ?_
   refine Rt ?_
   exact⟨by rw [range_some hlt hc3];rfl,rfl⟩
  rw [hbe,← hw] at hc3
  refine awp_skip<|Rg<|Dd mv'<|Dd (fr' fo49_3)<|Dd (l1' Tryz.isAgg46)<|Dd mv'<|Dd (xp' so46)<|Dd (lp' Tryz.isAgg9)<|Uu (by exact x_put_set (.inl rfl) Tryz.underlying89 Tryz.underlying9 rfl rfl rfl rfl rfl rfl rfl)<|Zz<|Rg<|Dd mv'<|Dd ad'<|Dd as'<|Zz ?_
  refine⟨k+1,⟨by omega,fun j hj=>?_⟩,by omega,?_⟩
  ·by_cases e:j=k
   ·subst e;exact hc3
   exact hno j (by omega)
  rw [hse]
  exact(Ent.wk (Ea<|Eb<|Ea<|Eb<|trivial) (Hc (sob_clo _ _)<|Hb<|trivial) trivial)
 have hge:k=o.refs.length:=by have:=of_decide_eq_false hc2;omega
 subst hge
 rw [range_any hno,Bool.not_false,Bool.true_and,gNum,← hml]
 refine awp_exit<|Sq<|Sq<|Rg<|Dd (fr' fo49_1)<|Dd (l1' Tryz.isAgg3)<|Zz<|awp_block<|Sq<|Rg<|Dd eql'<|Dd as'<|Zz ?_
 refine Cn (fun hc4=>?_) fun hc4=>?_
 ·rw [if_pos (of_decide_eq_true hc4)]
  refine Sq<|Rg<|Dd mv'<|Dd eql'<|Dd as'<|Zz<|awp_ret ?_
  refine Rt ?_
  exact⟨rfl,rfl⟩
 rw [if_neg (of_decide_eq_false hc4)]
 refine Sq<|Rg<|Dd eql'<|Dd as'<|Zz ?_
 refine Cn (fun hc5=>?_) fun hc5=>?_
 ·rw [if_pos (of_decide_eq_true hc5)]
  refine Sq<|Rg<|Dd mv'<|Dd ge'<|Dd as'<|Zz<|awp_ret ?_
  refine Rt ?_
  exact⟨rfl,rfl⟩
 rw [if_neg (of_decide_eq_false hc5)]
 refine Sq<|Rg<|Dd eql'<|Dd as'<|Zz ?_
 refine Cn (fun hc6=>?_) fun hc6=>?_
 ·rw [if_pos (of_decide_eq_true hc6)]
  refine Sq<|Rg<|Dd mv'<|Dd ge'<|Dd as'<|Zz<|awp_ret ?_
  refine Rt ?_
  exact⟨rfl,rfl⟩
 rw [if_neg (of_decide_eq_false hc6)]
 refine Sq<|Rg<|Dd eql'<|Dd as'<|Zz ?_
 refine Cn (fun hc7=>?_) fun hc7=>?_
 ·rw [if_pos (of_decide_eq_true hc7)]
  refine Sq<|Rg<|Dd mv'<|Dd ge'<|Dd as'<|Zz<|awp_ret ?_
  refine Rt ?_
  exact⟨rfl,rfl⟩
 rw [if_neg (of_decide_eq_false hc7)]
 refine awp_skip<|Sq<|Rg<|Dd mv'<|Dd eql'<|Dd as'<|Zz<|awp_ret ?_
 refine Rt ?_
 exact⟨rfl,rfl⟩
def atO (o:GObj):Bool:=if o.kind=1 then gOn o.x o.y else(decide (o.x=0)&&decide (o.y=0))
theorem rObj_eq (o:GObj):((((gName o.id&&!decide (gWord o.kind=sNil))&&atO o)&&gTags o.tags)&&rRefs o)=gObj o:=by
 cases hw:decide (gWord o.kind=sNil)with
 | true=>simp [gObj,gHead,gHeadN,hw]
 | false =>
  have hk:=word_kind hw
  have hk0:¬ o.kind=0:=fun e=>by rw [e] at hw;simp [gWord] at hw
  simp only [gObj,gHead,gHeadN,hw,rRefs,atO,gKind,gNum,gLeast]
  generalize gName o.id=a
  generalize gTags o.tags=b
  generalize (List.range o.refs.length).any (wrongAt o)=w
  generalize gOn o.x o.y=c
  generalize (decide (o.x=0)&&decide (o.y=0))=d
  generalize (o.refs.length:Int)=n
  generalize o.kind=k at *
  rcases(by omega:k=1∨k=2∨k=3∨k=4∨k=5)with rfl|rfl|rfl|rfl|rfl<;>cases a<;>cases b<;>cases w<;>cases c<;>cases d<;>rw [Bool.eq_iff_iff]<;>simp<;>omega
theorem rObj_c (o:GObj) (H:Heap) (ho:okO o):ACalls Tryz.prog 94 [av (encObj o)] H (fun r H'=>r=bv (gObj o)∧H'=H):=by
 refine ACalls.pure ?_ (by simp) H
 rw [← rObj_eq]
 refine Bd Tryz.func94 rfl Tryz.ntmps94<|Sq<|Rg<|Dd (by exact opd_box (id:=1) rfl rfl rfl rfl rfl)<|Dd as'<|Zz<|Sq<|Rg<|Dd (fr' fo49_2)<|Dd (by exact opd_loadn_ref rfl Tryz.isAgg45 Tryz.sizeOf45 rfl rfl rfl rfl (by simp only [Zl,encTag,encObj,encStr];rfl) rfl)<|Dd (by exact opr_call rfl rfl Tryz.call96 rfl (rOn_c o.x o.y _))<|Dd as'<|Zz<|Sq<|Sq<|Rg<|Dd (fr' fo49_1)<|Dd (l1' Tryz.isAgg3)<|Dd ne'<|Zz ?_
 refine Cn (fun hc1=>?_) fun hc1=>?_
 ·have hat:atO o=(decide (o.x=0)&&decide (o.y=0)):=by
   have h:(!decide (o.kind=1))=true:=hc1
   rw [atO,if_neg (by simpa using h)]
  refine Rg<|Dd (fr' fo49_2)<|Dd (by exact opd_loadn_ref rfl Tryz.isAgg45 Tryz.sizeOf45 rfl rfl rfl rfl (by simp only [Zl,encTag,encObj,encStr];rfl) rfl)<|Dd (bu' bo45)<|Dd (by exact opd_aeql rfl rfl rfl rfl rfl Tryz.eqGuardType45 (se45 _ _ _ _))<|Dd as'<|Zz<|Sq ?_
  refine awp_bool (t:=2) (n:=26) (X:=(((gName o.id&&!decide (gWord o.kind=sNil))&&atO o)&&gTags o.tags)&&rRefs o) ?_ ?_
  ·all_goals refine Dd (fr' fo49_0) ?_
   all_goals refine Dd (l1' Tryz.isAgg9) ?_
   all_goals refine Dd (by exact opr_call rfl rfl Tryz.call95 rfl (rName_c o.id _ ho.1)) ?_
   all_goals refine Dd mv' ?_
   all_goals refine Sp 17 (fun h17=>?_) fun h17=>?_
   all_goals try contradiction
   all_goals first|refine Fo ?_|refine On (fr' fo49_1) ?_
   all_goals first|refine Fo ?_|refine On (l1' Tryz.isAgg3) ?_
   all_goals first|refine Fo ?_|refine On (by exact opr_call rfl rfl Tryz.call129 rfl (rWordOf_c o.kind _)) ?_
   all_goals first|refine Fo ?_|refine On sn' ?_
   all_goals refine Dd pk' ?_
   all_goals refine Dd mv' ?_
   all_goals refine Sp 23 (fun h23=>?_) fun h23=>?_
   all_goals try contradiction
   all_goals first|refine Fo ?_|refine On mv' ?_
   all_goals refine Dd pk' ?_
   all_goals refine Dd mv' ?_
   all_goals refine Sp 26 (fun h26=>?_) fun h26=>?_
   all_goals try contradiction
   all_goals first|refine Fo ?_|refine On (fr' fo49_4) ?_
   all_goals first|refine Fo ?_|refine On (l1' Tryz.isAgg47) ?_
   all_goals first|refine Fo ?_|refine On (by exact opr_call rfl rfl Tryz.call148 rfl (rTags_c o.tags _ ho.2.1)) ?_
   all_goals refine Dd pk' ?_
   all_goals refine Dd mv' ?_
   all_goals refine Sp 31 (fun h31=>?_) fun h31=>?_
   all_goals try contradiction
   all_goals first|refine Fo ?_|refine On (by exact opd_loadn_ref rfl Tryz.isAgg49 Tryz.sizeOf49 rfl rfl rfl rfl (by simp only [Zl,encTag,encObj,encStr];rfl) rfl) ?_
   all_goals first|refine Fo ?_|refine On (by exact opr_call rfl rfl Tryz.call149 rfl (rRefs_c o _ ho)) ?_
   all_goals refine Dd pk' ?_
   all_goals refine Dd as' ?_
   all_goals refine al_nil ?_
   all_goals(exact⟨⟨_,rfl,by(simp only [hat, *];rfl)⟩,rfl,rfl,rfl⟩)
  refine awp_ret ?_
  refine Rt ?_
  exact⟨rfl,rfl⟩
 have hat:atO o=gOn o.x o.y:=by
  have h:(!decide (o.kind=1))=false:=hc1
  rw [atO,if_pos (by simpa using h)]
 refine awp_skip<|Sq ?_
 refine awp_bool (t:=2) (n:=26) (X:=(((gName o.id&&!decide (gWord o.kind=sNil))&&atO o)&&gTags o.tags)&&rRefs o) ?_ ?_
 ·all_goals refine Dd (fr' fo49_0) ?_
  all_goals refine Dd (l1' Tryz.isAgg9) ?_
  all_goals refine Dd (by exact opr_call rfl rfl Tryz.call95 rfl (rName_c o.id _ ho.1)) ?_
  all_goals refine Dd mv' ?_
  all_goals refine Sp 17 (fun h17=>?_) fun h17=>?_
  all_goals try contradiction
  all_goals first|refine Fo ?_|refine On (fr' fo49_1) ?_
  all_goals first|refine Fo ?_|refine On (l1' Tryz.isAgg3) ?_
  all_goals first|refine Fo ?_|refine On (by exact opr_call rfl rfl Tryz.call129 rfl (rWordOf_c o.kind _)) ?_
  all_goals first|refine Fo ?_|refine On sn' ?_
  all_goals refine Dd pk' ?_
  all_goals refine Dd mv' ?_
  all_goals refine Sp 23 (fun h23=>?_) fun h23=>?_
  all_goals try contradiction
  all_goals first|refine Fo ?_|refine On mv' ?_
  all_goals refine Dd pk' ?_
  all_goals refine Dd mv' ?_
  all_goals refine Sp 26 (fun h26=>?_) fun h26=>?_
  all_goals try contradiction
  all_goals first|refine Fo ?_|refine On (fr' fo49_4) ?_
  all_goals first|refine Fo ?_|refine On (l1' Tryz.isAgg47) ?_
  all_goals first|refine Fo ?_|refine On (by exact opr_call rfl rfl Tryz.call148 rfl (rTags_c o.tags _ ho.2.1)) ?_
  all_goals refine Dd pk' ?_
  all_goals refine Dd mv' ?_
  all_goals refine Sp 31 (fun h31=>?_) fun h31=>?_
  all_goals try contradiction
  all_goals first|refine Fo ?_|refine On (by exact opd_loadn_ref rfl Tryz.isAgg49 Tryz.sizeOf49 rfl rfl rfl rfl (by simp only [Zl,encTag,encObj,encStr];rfl) rfl) ?_
  all_goals first|refine Fo ?_|refine On (by exact opr_call rfl rfl Tryz.call149 rfl (rRefs_c o _ ho)) ?_
  all_goals refine Dd pk' ?_
  all_goals refine Dd as' ?_
  all_goals refine al_nil ?_
  all_goals(exact⟨⟨_,rfl,by(simp only [hat, *];rfl)⟩,rfl,rfl,rfl⟩)
 refine awp_ret ?_
 refine Rt ?_
 exact⟨rfl,rfl⟩
end
section
theorem badObj_eq (m:List GObj) (k:Nat) (o po:GObj) (hp:0 < k→m[k - 1]?=some po):(!gObj o||(decide ((0:Int) < (k:Int))&&!slt po.id o.id))=badObj (before GObj.id m k) o:=by
 rw [badObj]
 cases hg:gObj o with
 | false=>simp
 | true =>
  have hs:sle o.id (before GObj.id m k)=(decide ((0:Int) < (k:Int))&&!slt po.id o.id):=by
   cases k with
   | zero =>
    have:slt sNil o.id=true:=by
     cases e:slt sNil o.id with
     | true=>rfl
     | false=>exact absurd (slt_tri (slt_nil _) e) (gName_ne (gObj_name hg))
    rw [before,sle_iff.2 this];rfl
   | succ k =>
    have h:=hp (by omega)
    rw [show k+1 - 1=k from rfl] at h
    rw [before_succ h,decide_eq_true (show (0:Int) < ((k+1:Nat):Int)by omega),Bool.true_and]
    cases e:slt po.id o.id with
    | true=>rw [sle_iff.2 e];rfl
    | false =>
     cases e2:sle o.id po.id with
     | true=>rfl
     | false=>rw [sle_iff] at e2;rw [e] at e2;cases e2
  rw [hs]
theorem rMap_c (m:List GObj) (H:Heap) (hm:okM m):ACalls Tryz.prog 112 [.agg [.pv (slObjs m)]] H (fun r H'=>r=bv (gMap m)∧H'=H):=by
 refine ACalls.pure ?_ (by simp) H
 obtain ⟨hl,hks⟩:=hm
 have hml:(m.map encObj).length=m.length:=List.length_map _
 refine Bd Tryz.func112 rfl Tryz.ntmps112<|Sq<|Rg<|Dd (by exact opd_box (id:=1) rfl rfl rfl rfl rfl)<|Dd as'<|Zz<|Sq<|Sq<|Rg<|Dd (fr' fo38_0)<|Dd (l1' Tryz.isAgg36)<|Dd (ll' Tryz.underlying36)<|Dd gt'<|Zz ?_
 refine Cn (fun hc1=>?_) fun hc1=>?_
 ·have h60:decide ((m.length:Int)≤1000000)=false:=by
   have:=of_decide_eq_true hc1
   exact decide_eq_false (by omega)
  refine Sq<|Rg<|Dd as'<|Zz<|awp_ret ?_
  refine Rt ?_
  exact⟨by rw [gMap,h60,Bool.and_false],rfl⟩
 have h60:decide ((m.length:Int)≤1000000)=true:=by
  have:=of_decide_eq_false hc1
  exact decide_eq_true (by omega)
 rw [gMap,h60,Bool.and_true]
 refine awp_skip<|Sq<|Sq<|Rg<|Dd as'<|Zz<|awp_block ?_
 refine awp_loop (σ:=Nat) (fun k=>([(1,.ref 1 0 0 0),(3,iv (k:Int))],[(1,bx 1 38 [.pv (slObjs m)])])) (fun k=>k≤m.length∧∀ j,j < k→badAt badObj GObj.id m j=false) (fun k=>m.length - k) 0 ⟨by omega,by omega⟩ ?_ ?_
 ·exact Wk
 rintro k ⟨hk,hno⟩
 refine Sq<|Sq<|Rg<|Dd mv'<|Dd (fr' fo38_0)<|Dd (l1' Tryz.isAgg36)<|Dd (ll' Tryz.underlying36)<|Dd lss'<|Zz ?_
 refine Cn (fun hc2=>?_) fun hc2=>?_
 ·have hlt:k < m.length:=by have:=of_decide_eq_true hc2;omega
  obtain ⟨o,ho⟩:=get_of_lt hlt
  have hi:=map_get (f:=encObj) ho
  obtain ⟨po,hp⟩:∃ po,0 < k→m[k - 1]?=some po:=by
   by_cases k0:0 < k
   ·obtain ⟨po,hp⟩:=get_of_lt (l:=m) (k:=k - 1) (by omega)
    exact⟨po,fun _=>hp⟩
   exact⟨o,fun h=>absurd h k0⟩
  have hpv:0 < k→(m.map encObj)[k - 1]?=some (encObj po):=fun h=>map_get (f:=encObj) (hp h)
  have hbe:=badObj_eq m k o po hp
  refine awp_skip<|Sq<|awp_block<|Sq ?_
  refine awp_mergeR (t:=41) (n:=27) (X:=!gObj o||(decide ((0:Int) < (k:Int))&&!slt po.id o.id)) ?_ ?_
  ·cases hg22:(!gObj o:Bool)
   ·cases hg25:(decide ((0:Int) < (k:Int)):Bool)
    ·refine awp_drawc follows ?_
     refine Cq (fr' fo38_0)<|Cq (l1' Tryz.isAgg36)<|Cq mv'<|Cq (xp' so36)<|Cq (by exact opd_loadn_pad rfl Tryz.isAgg49 Tryz.sizeOf49 rfl (by omega) (by simp only [Zl,encTag,encObj,encStr,encInt];rfl) rfl)<|Cq (by exact opr_call rfl rfl Tryz.call94 rfl (rObj_c o _ (hks o (List.mem_of_getElem? ho))))<|Cq no'<|Cq mv'<|Nf mv'<|Nf gt'<|Nf mv'<|Ot<|Ot<|Ot<|Ot<|Ot<|Ot<|Ot<|Ot<|Ot<|Ot<|Ot<|Ot<|Ot<|Ot<|Nf pf'<|Cq pf' ?_
     refine dc_nil ⟨by kernel_rfl,?_⟩
     exact⟨rfl,⟨_,rfl,by rfl⟩,rfl,rfl,rfl⟩
    refine awp_drawc follows ?_
    refine Cq (fr' fo38_0)<|Cq (l1' Tryz.isAgg36)<|Cq mv'<|Cq (xp' so36)<|Cq (by exact opd_loadn_pad rfl Tryz.isAgg49 Tryz.sizeOf49 rfl (by omega) (by simp only [Zl,encTag,encObj,encStr,encInt];rfl) rfl)<|Cq (by exact opr_call rfl rfl Tryz.call94 rfl (rObj_c o _ (hks o (List.mem_of_getElem? ho))))<|Cq no'<|Cq mv'<|Nf mv'<|Nf gt'<|Nf mv'<|Nt (fr' fo38_0)<|Nt (l1' Tryz.isAgg36)<|Nt mv'<|Nt (by exact opd_sub rfl rfl rfl (by exact w64 (by omega) (by omega)))<|Nt (by exact x_index_pad rfl so36 rfl rfl (by have:=of_decide_eq_true hg25;omega) (show ((k:Int) - 1).toNat=k - 1 by omega) (hpv (by have:=of_decide_eq_true hg25;omega)) rfl)<|Nt (fp' fo49_0)<|Nt (by exact opd_load1_pad rfl Tryz.isAgg9 rfl (hpv (by have:=of_decide_eq_true hg25;omega)) rfl)<|Nt (fr' fo38_0)<|Nt (l1' Tryz.isAgg36)<|Nt mv'<|Nt (xp' so36)<|Nt (fp' fo49_0)<|Nt (lp' Tryz.isAgg9)<|Nt (by exact opd_sgeq rfl rfl rfl)<|Nf pt' ?_
    refine Cq pf' ?_
    refine dc_nil ⟨by kernel_rfl,?_⟩
    exact⟨rfl,⟨_,rfl,by rfl⟩,rfl,rfl,rfl⟩
   refine awp_drawc follows ?_
   refine Cq (fr' fo38_0)<|Cq (l1' Tryz.isAgg36)<|Cq mv'<|Cq (xp' so36)<|Cq (by exact opd_loadn_pad rfl Tryz.isAgg49 Tryz.sizeOf49 rfl (by omega) (by simp only [Zl,encTag,encObj,encStr,encInt];rfl) rfl)<|Cq (by exact opr_call rfl rfl Tryz.call94 rfl (rObj_c o _ (hks o (List.mem_of_getElem? ho))))<|Cq no'<|Cq mv'<|Of<|Of<|Of<|Ou<|Ou<|Ou<|Ou<|Ou<|Ou<|Ou<|Ou<|Ou<|Ou<|Ou<|Ou<|Ou<|Ou<|Of<|Cq pt' ?_
   refine dc_nil ⟨by kernel_rfl,?_⟩
   exact⟨rfl,⟨_,rfl,by rfl⟩,rfl,rfl,rfl⟩
  refine Cn (fun hc3=>?_) fun hc3=>?_
  ·rw [hbe] at hc3
   refine Sq<|Rg<|Dd as'<|Zz<|awp_ret ?_
   refine Rt ?_
   exact⟨by rw [range_some hlt ((badAt_some ho).trans hc3)];rfl,rfl⟩
  rw [hbe] at hc3
  refine awp_skip<|Rg<|Dd mv'<|Dd ad'<|Dd as'<|Zz ?_
  refine⟨k+1,⟨by omega,fun j hj=>?_⟩,by omega,Wk⟩
  by_cases e:j=k
  ·subst e;exact(badAt_some ho).trans hc3
  exact hno j (by omega)
 have hge:k=m.length:=by have:=of_decide_eq_false hc2;omega
 subst hge
 refine awp_exit<|Sq<|Rg<|Dd as'<|Zz<|awp_ret ?_
 refine Rt ?_
 exact⟨by rw [range_any hno];rfl,rfl⟩
theorem rFind_c (m:List GObj) (id:ByteArray) (H:Heap) (hm:m.length < 4611686018427387904):ACalls Tryz.prog 27 [.agg [.pv (slObjs m)],sv id] H (fun r H'=>r=iv (gidx (idIs id) m)∧H'=H):=by
 refine ACalls.pure ?_ (by simp) H
 have hml:(m.map encObj).length=m.length:=List.length_map _
 refine Bd Tryz.func27 rfl Tryz.ntmps27<|Sq<|Rg<|Dd (by exact opd_box (id:=2) rfl rfl rfl rfl rfl)<|Dd as'<|Zz<|Sq<|Sq<|Rg<|Dd as'<|Zz<|awp_block ?_
 refine awp_loop (σ:=Nat) (fun k=>([(1,sv id),(2,.ref 2 0 0 0),(5,iv (k:Int))],[(2,bx 1 38 [.pv (slObjs m)])])) (fun k=>k≤m.length∧∀ j,j < k→∀ b,m[j]?=some b→idIs id b=false) (fun k=>m.length - k) 0 ⟨by omega,by omega⟩ ?_ ?_
 ·exact Wk
 rintro k ⟨hk,hno⟩
 refine Sq<|Sq<|Rg<|Dd mv'<|Dd (fr' fo38_0)<|Dd (l1' Tryz.isAgg36)<|Dd (ll' Tryz.underlying36)<|Dd lss'<|Zz ?_
 refine Cn (fun hc1=>?_) fun hc1=>?_
 ·have hlt:k < m.length:=by have:=of_decide_eq_true hc1;omega
  obtain ⟨o,ho⟩:=get_of_lt hlt
  have hi:=map_get (f:=encObj) ho
  refine awp_skip<|Sq<|awp_block<|Sq<|Rg<|Dd (fr' fo38_0)<|Dd (l1' Tryz.isAgg36)<|Dd mv'<|Dd (xp' so36)<|Dd (fp' fo49_0)<|Dd (lp' Tryz.isAgg9)<|Dd mv'<|Dd se'<|Zz ?_
  refine Cn (fun hc2=>?_) fun hc2=>?_
  ·have h:idIs id o=true:=hc2
   refine Sq<|Rg<|Dd mv'<|Dd as'<|Zz<|awp_ret ?_
   refine Rt ?_
   exact⟨by rw [gidx,fidx_some hno ho h],rfl⟩
  have h:idIs id o=false:=hc2
  refine awp_skip<|Rg<|Dd mv'<|Dd ad'<|Dd as'<|Zz ?_
  exact⟨k+1,⟨by omega,pre_succ hno ho h⟩,by omega,Wk⟩
 have hge:k=m.length:=by have:=of_decide_eq_false hc1;omega
 subst hge
 refine awp_exit<|Sq<|Rg<|Dd as'<|Zz<|awp_ret ?_
 refine Rt ?_
 exact⟨by rw [gidx,fidx_none hno],rfl⟩
end
section
/-- The k-th elements are equal, for all k below n. -/
def eqTo {α:Type} (e:α→α→Bool) (a b:List α):Bool:=decide (a.length=b.length)&&(List.range a.length).all fun k=>match a[k]?,b[k]? with|some x,some y=>e x y|_,_=>true
theorem eqTo_iff {α:Type} {e:α→α→Bool} (he:∀ x y,e x y=true↔x=y) {a b:List α}:eqTo e a b=true↔a=b:=by
 constructor
 ·intro h
  simp only [eqTo,Bool.and_eq_true,decide_eq_true_eq,List.all_eq_true,List.mem_range] at h
  apply List.ext_getElem h.1
  intro k h1 h2
  have:=h.2 k h1
  rw [List.getElem?_eq_getElem h1,List.getElem?_eq_getElem h2] at this
  exact(he _ _).1 this
 rintro rfl
 simp only [eqTo,Bool.and_eq_true,decide_eq_true_eq,List.all_eq_true,List.mem_range,true_and]
 intro k hk
 rw [List.getElem?_eq_getElem hk]
 exact(he _ _).2 rfl
theorem eqTo_bad {α:Type} {e:α→α→Bool} {a b:List α} {k:Nat} {x y:α} (hx:a[k]?=some x) (hy:b[k]?=some y) (h:e x y=false):eqTo e a b=false:=by
 have hk:=(List.getElem?_eq_some_iff.1 hx).1
 rw [eqTo,Bool.and_eq_false_iff]
 right
 rw [List.all_eq_false]
 exact⟨k,List.mem_range.2 hk,by rw [hx,hy];simp [h]⟩
theorem eqTo_len {α:Type} {e:α→α→Bool} {a b:List α} (h:¬ a.length=b.length):eqTo e a b=false:=by simp [eqTo,h]
theorem eqTo_good {α:Type} {e:α→α→Bool} {a b:List α} (hl:a.length=b.length) (h:∀ k,k < a.length→∀ x y,a[k]?=some x→b[k]?=some y→e x y=true):eqTo e a b=true:=by
 simp only [eqTo,Bool.and_eq_true,decide_eq_true_eq,List.all_eq_true,List.mem_range]
 refine⟨hl,fun k hk=>?_⟩
 rw [List.getElem?_eq_getElem hk,List.getElem?_eq_getElem (by omega)]
 exact h k hk _ _ (List.getElem?_eq_getElem hk) (List.getElem?_eq_getElem (by omega))
def strEq (a b:ByteArray):Bool:=decide (a=b)
theorem strEq_iff (a b:ByteArray):strEq a b=true↔a=b:=by simp [strEq]
def headEq (a b:GObj):Bool:=decide (a.id=b.id)&&decide (a.kind=b.kind)&&(decide (a.x=b.x)&&decide (a.y=b.y))&&decide (a.refs.length=b.refs.length)&&decide (a.tags.length=b.tags.length)
def gSameR (a b:GObj):Bool:=headEq a b&&(eqTo strEq a.refs b.refs&&eqTo tagEq a.tags b.tags)
theorem gSameR_iff {a b:GObj}:gSameR a b=true↔a=b:=by
 rw [gSameR,Bool.and_eq_true,Bool.and_eq_true,eqTo_iff strEq_iff,eqTo_iff tagEq_iff]
 cases a;cases b
 simp only [headEq,Bool.and_eq_true,decide_eq_true_eq,GObj.mk.injEq]
 constructor
 ·rintro⟨⟨⟨⟨⟨a1,a2⟩,a3,a4⟩,a5⟩,a6⟩,a7,a8⟩
  exact⟨a1,a2,a3,a4,a7,a8⟩
 rintro⟨a1,a2,a3,a4,a7,a8⟩
 exact⟨⟨⟨⟨⟨a1,a2⟩,a3,a4⟩,by rw [a7]⟩,by rw [a8]⟩,a7,a8⟩
def headNe (a b:GObj) (n1 n2 n3 n4:Int):Bool:=!decide (a.id=b.id)||!decide (a.kind=b.kind)||!(decide (a.x=b.x)&&decide (a.y=b.y))||!decide (n1=n2)||!decide (n3=n4)
theorem headNe_eq (a b:GObj):headNe a b ((a.refs.map encStr).length:Int) ((b.refs.map encStr).length:Int) ((a.tags.map encTag).length:Int) ((b.tags.map encTag).length:Int)=!headEq a b:=by
 simp only [headNe,headEq,List.length_map,Bool.not_and,Int.natCast_inj]
theorem same11_c (a b:GObj) (H:Heap) (ha:a.refs.length < 4611686018427387904) (ha2:a.tags.length < 4611686018427387904):ACalls Tryz.prog 66 [av (encObj a),av (encObj b)] H (fun r H'=>r=bv (gSameR a b)∧H'=H):=by
 refine ACalls.pure ?_ (by simp) H
 have hra:(a.refs.map encStr).length=a.refs.length:=List.length_map _
 have hta:(a.tags.map encTag).length=a.tags.length:=List.length_map _
 refine Bd Tryz.func66 rfl Tryz.ntmps66<|Sq<|Rg<|Dd (by exact opd_box (id:=2) rfl rfl rfl rfl rfl)<|Dd (by exact opd_box (id:=3) rfl rfl rfl rfl rfl)<|Dd as'<|Zz<|Sq<|Sq ?_
 refine awp_bool (t:=43) (n:=41) (X:=headNe a b ((a.refs.map encStr).length:Int) ((b.refs.map encStr).length:Int) ((a.tags.map encTag).length:Int) ((b.tags.map encTag).length:Int)) ?_ ?_
 ·all_goals refine Dd (fr' fo49_0) ?_
  all_goals refine Dd (l1' Tryz.isAgg9) ?_
  all_goals refine Dd (fr' fo49_0) ?_
  all_goals refine Dd (l1' Tryz.isAgg9) ?_
  all_goals refine Dd sn' ?_
  all_goals refine Dd mv' ?_
  all_goals refine Sp 12 (fun h12=>?_) fun h12=>?_
  all_goals try contradiction
  all_goals first|refine Fo ?_|refine On (fr' fo49_1) ?_
  all_goals first|refine Fo ?_|refine On (l1' Tryz.isAgg3) ?_
  all_goals first|refine Fo ?_|refine On (fr' fo49_1) ?_
  all_goals first|refine Fo ?_|refine On (l1' Tryz.isAgg3) ?_
  all_goals first|refine Fo ?_|refine On ne' ?_
  all_goals refine Dd pk' ?_
  all_goals refine Dd mv' ?_
  all_goals refine Sp 19 (fun h19=>?_) fun h19=>?_
  all_goals try contradiction
  all_goals first|refine Fo ?_|refine On (fr' fo49_2) ?_
  all_goals first|refine Fo ?_|refine On (by exact opd_loadn_ref rfl Tryz.isAgg45 Tryz.sizeOf45 rfl rfl rfl rfl (by simp only [Zl,encTag,encObj,encStr];rfl) rfl) ?_
  all_goals first|refine Fo ?_|refine On (fr' fo49_2) ?_
  all_goals first|refine Fo ?_|refine On (by exact opd_loadn_ref rfl Tryz.isAgg45 Tryz.sizeOf45 rfl rfl rfl rfl (by simp only [Zl,encTag,encObj,encStr];rfl) rfl) ?_
  all_goals first|refine Fo ?_|refine On (by exact opd_aneq rfl rfl rfl rfl rfl Tryz.eqGuardType45 (se45 _ _ _ _)) ?_
  all_goals refine Dd pk' ?_
  all_goals refine Dd mv' ?_
  all_goals refine Sp 26 (fun h26=>?_) fun h26=>?_
  all_goals try contradiction
  all_goals first|refine Fo ?_|refine On (fr' fo49_3) ?_
  all_goals first|refine Fo ?_|refine On (l1' Tryz.isAgg46) ?_
  all_goals first|refine Fo ?_|refine On (ll' Tryz.underlying46) ?_
  all_goals first|refine Fo ?_|refine On (fr' fo49_3) ?_
  all_goals first|refine Fo ?_|refine On (l1' Tryz.isAgg46) ?_
  all_goals first|refine Fo ?_|refine On (ll' Tryz.underlying46) ?_
  all_goals first|refine Fo ?_|refine On ne' ?_
  all_goals refine Dd pk' ?_
  all_goals refine Dd mv' ?_
  all_goals refine Sp 35 (fun h35=>?_) fun h35=>?_
  all_goals try contradiction
  all_goals first|refine Fo ?_|refine On (fr' fo49_4) ?_
  all_goals first|refine Fo ?_|refine On (l1' Tryz.isAgg47) ?_
  all_goals first|refine Fo ?_|refine On (ll' Tryz.underlying47) ?_
  all_goals first|refine Fo ?_|refine On (fr' fo49_4) ?_
  all_goals first|refine Fo ?_|refine On (l1' Tryz.isAgg47) ?_
  all_goals first|refine Fo ?_|refine On (ll' Tryz.underlying47) ?_
  all_goals first|refine Fo ?_|refine On ne' ?_
  all_goals refine Dd pk' ?_
  all_goals refine al_nil ?_
  all_goals(exact⟨⟨_,rfl,by first|(simp only [headNe, *];rfl)|(simp_all [headNe];done)⟩,rfl,rfl,rfl⟩)
 refine Cn (fun hc1=>?_) fun hc1=>?_
 ·rw [headNe_eq] at hc1
  refine Sq<|Rg<|Dd as'<|Zz<|awp_ret ?_
  refine Rt ?_
  refine⟨?_,rfl⟩
  have:headEq a b=false:=by simpa using hc1
  rw [gSameR,this];rfl
 rw [headNe_eq] at hc1
 have hh:headEq a b=true:=by simpa using hc1
 have hlens:a.refs.length=b.refs.length∧a.tags.length=b.tags.length:=by
  simp only [headEq,Bool.and_eq_true,decide_eq_true_eq] at hh
  exact⟨hh.1.2,hh.2⟩
 obtain ⟨hl1,hl2⟩:=hlens
 rw [gSameR,hh,Bool.true_and]
 refine awp_skip<|Sq<|Sq<|Rg<|Dd as'<|Zz<|awp_block ?_
 refine awp_loop (σ:=Nat) (fun k=>([(2,.ref 2 0 0 0),(3,.ref 3 0 0 0),(5,iv (k:Int))],[(3,bx 6 49 ((encObj b).map .pv)),(2,bx 6 49 ((encObj a).map .pv))])) (fun k=>k≤a.refs.length∧∀ j,j < k→∀ x y,a.refs[j]?=some x→b.refs[j]?=some y→strEq x y=true) (fun k=>a.refs.length - k) 0 ⟨by omega,by omega⟩ ?_ ?_
 ·exact Wk
 rintro k ⟨hk,hall⟩
 refine Sq<|Sq<|Rg<|Dd mv'<|Dd (fr' fo49_3)<|Dd (l1' Tryz.isAgg46)<|Dd (ll' Tryz.underlying46)<|Dd lss'<|Zz ?_
 refine Cn (fun hc2=>?_) fun hc2=>?_
 ·have hlt:k < a.refs.length:=by have:=of_decide_eq_true hc2;omega
  obtain ⟨x,hx⟩:=get_of_lt hlt
  obtain ⟨y,hy⟩:=get_of_lt (l:=b.refs) (k:=k) (by omega)
  have hi:=map_get (f:=encStr) hx
  have hi2:=map_get (f:=encStr) hy
  refine awp_skip<|Sq<|awp_block<|Sq ?_
  refine awp_drawc follows ?_
  refine Cq (fr' fo49_3)<|Cq (l1' Tryz.isAgg46)<|Cq mv'<|Cq (xp' so46)<|Cq (lp' Tryz.isAgg9)<|Cq (fr' fo49_3)<|Cq (l1' Tryz.isAgg46)<|Cq mv'<|Cq (xp' so46)<|Cq (lp' Tryz.isAgg9)<|Cq sn' ?_
  refine dc_nil ⟨by kernel_rfl,?_⟩
  refine Cn (fun hc3=>?_) fun hc3=>?_
  ·have ht:strEq x y=false:=by
    have h:(!strEq x y)=true:=hc3
    simpa using h
   refine Sq<|Rg<|Dd as'<|Zz<|awp_ret ?_
   refine Rt ?_
   exact⟨by rw [eqTo_bad hx hy ht];rfl,rfl⟩
  have ht:strEq x y=true:=by
   have h:(!strEq x y)=false:=hc3
   simpa using h
  refine awp_skip<|Rg<|Dd mv'<|Dd ad'<|Dd as'<|Zz ?_
  refine⟨k+1,⟨by omega,fun j hj x' y' h1 h2=>?_⟩,by omega,Wk⟩
  by_cases e:j=k
  ·subst e;rw [hx] at h1;rw [hy] at h2;cases h1;cases h2;exact ht
  exact hall j (by omega) x' y' h1 h2
 have hge:k=a.refs.length:=by have:=of_decide_eq_false hc2;omega
 subst hge
 rw [eqTo_good hl1 hall,Bool.true_and]
 refine awp_exit<|Sq<|Sq<|Rg<|Dd as'<|Zz<|awp_block ?_
 refine awp_loop (σ:=Nat) (fun k=>([(2,.ref 2 0 0 0),(3,.ref 3 0 0 0),(6,iv (k:Int))],[(3,bx 6 49 ((encObj b).map .pv)),(2,bx 6 49 ((encObj a).map .pv))])) (fun k=>k≤a.tags.length∧∀ j,j < k→∀ x y,a.tags[j]?=some x→b.tags[j]?=some y→tagEq x y=true) (fun k=>a.tags.length - k) 0 ⟨by omega,by omega⟩ ?_ ?_
 ·exact Wk
 rintro k ⟨hk,hall2⟩
 refine Sq<|Sq<|Rg<|Dd mv'<|Dd (fr' fo49_4)<|Dd (l1' Tryz.isAgg47)<|Dd (ll' Tryz.underlying47)<|Dd lss'<|Zz ?_
 refine Cn (fun hc4=>?_) fun hc4=>?_
 ·have hlt:k < a.tags.length:=by have:=of_decide_eq_true hc4;omega
  obtain ⟨x,hx⟩:=get_of_lt hlt
  obtain ⟨y,hy⟩:=get_of_lt (l:=b.tags) (k:=k) (by omega)
  have hi:=map_get (f:=encTag) hx
  have hi2:=map_get (f:=encTag) hy
  refine awp_skip<|Sq<|awp_block<|Sq ?_
  refine awp_drawc follows ?_
  refine Cq (fr' fo49_4)<|Cq (l1' Tryz.isAgg47)<|Cq mv'<|Cq (xp' so47)<|Cq (by exact opd_loadn_pad rfl Tryz.isAgg117 Tryz.sizeOf117 rfl (by omega) (by simp only [Zl,encTag,encObj,encStr];rfl) rfl)<|Cq (fr' fo49_4)<|Cq (l1' Tryz.isAgg47)<|Cq mv'<|Cq (xp' so47)<|Cq (by exact opd_loadn_pad rfl Tryz.isAgg117 Tryz.sizeOf117 rfl (by omega) (by simp only [Zl,encTag,encObj,encStr];rfl) rfl)<|Cq (by exact opd_aneq rfl rfl rfl rfl rfl Tryz.eqGuardType117 (se117 _ _ _ _)) ?_
  refine dc_nil ⟨by kernel_rfl,?_⟩
  refine Cn (fun hc5=>?_) fun hc5=>?_
  ·have ht:tagEq x y=false:=by
    have h:(!tagEq x y)=true:=hc5
    simpa using h
   refine Sq<|Rg<|Dd as'<|Zz<|awp_ret ?_
   refine Rt ?_
   exact⟨by rw [eqTo_bad hx hy ht],rfl⟩
  have ht:tagEq x y=true:=by
   have h:(!tagEq x y)=false:=hc5
   simpa using h
  refine awp_skip<|Rg<|Dd mv'<|Dd ad'<|Dd as'<|Zz ?_
  refine⟨k+1,⟨by omega,fun j hj x' y' h1 h2=>?_⟩,by omega,Wk⟩
  by_cases e:j=k
  ·subst e;rw [hx] at h1;rw [hy] at h2;cases h1;cases h2;exact ht
  exact hall2 j (by omega) x' y' h1 h2
 have hge:k=a.tags.length:=by have:=of_decide_eq_false hc4;omega
 subst hge
 refine awp_exit<|Sq<|Rg<|Dd as'<|Zz<|awp_ret ?_
 refine Rt ?_
 exact⟨by rw [eqTo_good hl2 hall2],rfl⟩
def gSameM (a b:List GObj):Bool:=eqTo gSameR a b
theorem gSameM_iff {a b:List GObj}:gSameM a b=true↔a=b:=eqTo_iff (fun _ _=>gSameR_iff)
def okL (m:List GObj):Prop:=m.length < 4611686018427387904∧∀ o∈m,o.refs.length < 4611686018427387904∧o.tags.length < 4611686018427387904
theorem same12_c (a b:List GObj) (H:Heap) (ha:okL a):ACalls Tryz.prog 26 [.agg [.pv (slObjs a)],.agg [.pv (slObjs b)]] H (fun r H'=>r=bv (gSameM a b)∧H'=H):=by
 refine ACalls.pure ?_ (by simp) H
 have hma:(a.map encObj).length=a.length:=List.length_map _
 have hmb:(b.map encObj).length=b.length:=List.length_map _
 have hl:=ha.1
 rw [gSameM]
 refine Bd Tryz.func26 rfl Tryz.ntmps26<|Sq<|Rg<|Dd (by exact opd_box (id:=2) rfl rfl rfl rfl rfl)<|Dd (by exact opd_box (id:=3) rfl rfl rfl rfl rfl)<|Dd as'<|Zz<|Sq<|Sq<|Rg<|Dd (fr' fo38_0)<|Dd (l1' Tryz.isAgg36)<|Dd (ll' Tryz.underlying36)<|Dd (fr' fo38_0)<|Dd (l1' Tryz.isAgg36)<|Dd (ll' Tryz.underlying36)<|Dd ne'<|Zz ?_
 refine Cn (fun hc1=>?_) fun hc1=>?_
 ·have hne:¬ a.length=b.length:=by
   simp only [hma,hmb,Bool.not_eq_true',decide_eq_false_iff_not] at hc1
   omega
  refine Sq<|Rg<|Dd as'<|Zz<|awp_ret ?_
  refine Rt ?_
  exact⟨by rw [eqTo_len hne],rfl⟩
 have heq:a.length=b.length:=by
  simp only [hma,hmb,Bool.not_eq_false',decide_eq_true_eq] at hc1
  omega
 refine awp_skip<|Sq<|Sq<|Rg<|Dd as'<|Zz<|awp_block ?_
 refine awp_loop (σ:=Nat) (fun k=>([(2,.ref 2 0 0 0),(3,.ref 3 0 0 0),(5,iv (k:Int))],[(3,bx 1 38 [.pv (slObjs b)]),(2,bx 1 38 [.pv (slObjs a)])])) (fun k=>k≤a.length∧∀ j,j < k→∀ x y,a[j]?=some x→b[j]?=some y→gSameR x y=true) (fun k=>a.length - k) 0 ⟨by omega,by omega⟩ ?_ ?_
 ·exact Wk
 rintro k ⟨hk,hall⟩
 refine Sq<|Sq<|Rg<|Dd mv'<|Dd (fr' fo38_0)<|Dd (l1' Tryz.isAgg36)<|Dd (ll' Tryz.underlying36)<|Dd lss'<|Zz ?_
 refine Cn (fun hc2=>?_) fun hc2=>?_
 ·have hlt:k < a.length:=by have:=of_decide_eq_true hc2;omega
  obtain ⟨x,hx⟩:=get_of_lt hlt
  obtain ⟨y,hy⟩:=get_of_lt (l:=b) (k:=k) (by omega)
  have hi:=map_get (f:=encObj) hx
  have hi2:=map_get (f:=encObj) hy
  have hox:=ha.2 x (List.mem_of_getElem? hx)
  refine awp_skip<|Sq<|awp_block<|Sq ?_
  refine awp_drawc follows ?_
  refine Cq (fr' fo38_0)<|Cq (l1' Tryz.isAgg36)<|Cq mv'<|Cq (xp' so36)<|Cq (by exact opd_loadn_pad rfl Tryz.isAgg49 Tryz.sizeOf49 rfl (by omega) (by simp only [Zl,encTag,encObj,encStr];rfl) rfl)<|Cq (fr' fo38_0)<|Cq (l1' Tryz.isAgg36)<|Cq mv'<|Cq (xp' so36)<|Cq (by exact opd_loadn_pad rfl Tryz.isAgg49 Tryz.sizeOf49 rfl (by omega) (by simp only [Zl,encTag,encObj,encStr];rfl) rfl)<|Cq (by exact opr_call rfl rfl Tryz.call66 rfl (same11_c x y _ hox.1 hox.2))<|Cq no' ?_
  refine dc_nil ⟨by kernel_rfl,?_⟩
  refine Cn (fun hc3=>?_) fun hc3=>?_
  ·have ht:gSameR x y=false:=by
    have h:(!gSameR x y)=true:=hc3
    simpa using h
   refine Sq<|Rg<|Dd as'<|Zz<|awp_ret ?_
   refine Rt ?_
   exact⟨by rw [eqTo_bad hx hy ht],rfl⟩
  have ht:gSameR x y=true:=by
   have h:(!gSameR x y)=false:=hc3
   simpa using h
  refine awp_skip<|Rg<|Dd mv'<|Dd ad'<|Dd as'<|Zz ?_
  refine⟨k+1,⟨by omega,fun j hj x' y' h1 h2=>?_⟩,by omega,Wk⟩
  by_cases e:j=k
  ·subst e;rw [hx] at h1;rw [hy] at h2;cases h1;cases h2;exact ht
  exact hall j (by omega) x' y' h1 h2
 have hge:k=a.length:=by have:=of_decide_eq_false hc2;omega
 subst hge
 refine awp_exit<|Sq<|Rg<|Dd as'<|Zz<|awp_ret ?_
 refine Rt ?_
 exact⟨by rw [eqTo_good heq hall],rfl⟩
theorem gSameR_eq (a b:GObj):gSameR a b=gSameO a b:=by rw [Bool.eq_iff_iff,gSameR_iff,gSameO_iff]
theorem rSame_c (a b:GObj) (H:Heap) (ha:a.refs.length < 4611686018427387904) (ha2:a.tags.length < 4611686018427387904):ACalls Tryz.prog 66 [av (encObj a),av (encObj b)] H (fun r H'=>r=bv (gSameO a b)∧H'=H):=by
 rw [← gSameR_eq]
 exact same11_c a b H ha ha2
end
end Go.Proofs.YtlnfjkdacimblaaGreatDoor
namespace Go.Abs
section
def SubG (H' H:Heap):Prop:=∀ j o',H'.get j=some o'→∃ o,H.get j=some o∧o'.g=o.g∧o'.sz=o.sz∧o'.rows.length=o.rows.length
theorem VRel.restrictG {w:World} {I:Nat→Prop} {ι:Plc} {H H':Heap} (hs:SubG H' H) {v:Value} {a:AV} (h:VRel w I ι H v a):Clo H' a→VRel w I ι H' v a:=by
 induction h with
 | any v=>exact fun _=>.any v
 | pv h=>exact fun _=>.pv h
 | ref o h1 h2 h3 h4 =>
  intro hc
  cases hc with
  | ref hc =>
   obtain ⟨o',ho'⟩:=Option.isSome_iff_exists.1 hc
   obtain ⟨o2,e1,e2,e3,e4⟩:=hs _ _ ho'
   rw [h1] at e1;cases e1
   exact .ref o' ho' (by omega) h3 (fun hg=>by rw [e3];exact h4 (by omega))
 | pad b off cap sz h1 h2 h3 cs h4 h5 h6=>exact fun _=>.pad b off cap sz h1 h2 h3 cs h4 h5 h6
 | osl o h1 h2 h3 h4 =>
  intro hc
  cases hc with
  | osl hc =>
   obtain ⟨o',ho'⟩:=Option.isSome_iff_exists.1 hc
   obtain ⟨o2,e1,e2,e3,e4⟩:=hs _ _ ho'
   rw [h1] at e1;cases e1
   exact .osl o' ho' (by omega) h3 (fun hg=>by rw [e3,e4];exact h4 (by omega))
 | clo hl h ih =>
  intro hc
  cases hc with|clo hc=>exact .clo hl fun i v a hv ha=>ih i v a hv ha (hc a (List.mem_of_getElem? ha))
 | agg hl h1 h ih =>
  intro hc
  cases hc with|agg hc=>exact .agg hl h1 fun i v a hv ha=>ih i v a hv ha (hc a (List.mem_of_getElem? ha))
 | tup hl h ih =>
  intro hc
  cases hc with|tup hc=>exact .tup hl fun i v a hv ha=>ih i v a hv ha (hc a (List.mem_of_getElem? ha))
 | mp o h1 h2 h3 h4 =>
  intro hc
  cases hc with
  | mp hc =>
   obtain ⟨o',ho'⟩:=Option.isSome_iff_exists.1 hc
   obtain ⟨o2,e1,e2,e3,e4⟩:=hs _ _ ho'
   rw [h1] at e1;cases e1
   exact .mp o' ho' (by omega) h3 (fun hg=>by rw [e3];exact h4 (by omega))
 | it o h1 h2 h3 h4 =>
  intro hc
  cases hc with
  | it hc =>
   obtain ⟨o',ho'⟩:=Option.isSome_iff_exists.1 hc
   obtain ⟨o2,e1,e2,e3,e4⟩:=hs _ _ ho'
   rw [h1] at e1;cases e1
   exact .it o' ho' (by omega) h3 (fun hg=>by rw [e3];exact h4 (by omega))
 | yld o h1 h2 h3 h4 =>
  intro hc
  cases hc with
  | yld hc =>
   obtain ⟨o',ho'⟩:=Option.isSome_iff_exists.1 hc
   obtain ⟨o2,e1,e2,e3,e4⟩:=hs _ _ ho'
   rw [h1] at e1;cases e1
   exact .yld o' ho' (by omega) h3 (fun hg=>by rw [e3];exact h4 (by omega))
 | osc o h1 h2 h3 h4 =>
  intro hc
  cases hc with
  | osc hc =>
   obtain ⟨o',ho'⟩:=Option.isSome_iff_exists.1 hc
   obtain ⟨o2,e1,e2,e3,e4⟩:=hs _ _ ho'
   rw [h1] at e1;cases e1
   exact .osc o' ho' (by omega) h3 (fun hg=>by rw [e3];exact h4 (by omega))
theorem VRel.freezeG {w:World} {I:Nat→Prop} {ι:Plc} {H H':Heap} {id:Nat} {ob:Ob} {ps:List (List PV)} (hr:Rel I ι H w) (hs:SubG H' H) (hH:H.get id=some ob) (hps:ob.rows=ps.map (·.map .pv)) {a a':AV} (hf:Fz H' id ob.g ps a a') :
  ∀ {v:Value},VRel w I ι H v a→VRel w (ImmPlus I ι id) ι H' v a':=by
 induction hf with
 | same h=>exact fun hv=>(hv.restrictG hs h).mono' (fun _ _=>rfl) (fun _ h=>.inl h) (fun _ o h=>⟨o,h,Nat.le_refl _,fun _=>⟨rfl,rfl,fun _=>Nat.le_refl _⟩⟩)
 | osl hq =>
  intro v hv
  subst hq
  exact .pv (freeze_prep hr hH hps hv)
 | agg hl h ih =>
  intro v hv
  cases hv with
  | agg h1 h2 h3 =>
   refine .agg (h1.trans hl) h2 fun i u a' hu ha'=>?_
   have hi:=(List.getElem?_eq_some_iff.1 ha').1
   exact ih i _ a' (List.getElem?_eq_getElem (by omega)) ha' (h3 i u _ hu (List.getElem?_eq_getElem (by omega)))
 | tup hl h ih =>
  intro v hv
  cases hv with
  | tup h1 h3 =>
   refine .tup (h1.trans hl) fun i u a' hu ha'=>?_
   have hi:=(List.getElem?_eq_some_iff.1 ha').1
   exact ih i _ a' (List.getElem?_eq_getElem (by omega)) ha' (h3 i u _ hu (List.getElem?_eq_getElem (by omega)))
/-- Rows that become other rows, a slice in them frozen. -/
def FzRows (H':Heap) (id g:Nat) (ps:List (List PV)) (rows rows':List (List AV)):Prop :=
 rows'.length=rows.length∧∀ (i:Nat) (r':List AV),rows'[i]?=some r'→∃ r,rows[i]?=some r∧r.length=r'.length∧∀ (k:Nat) (a a':AV),r[k]?=some a→r'[k]?=some a'→Fz H' id g ps a a'
theorem fzr_same {H':Heap} {id g:Nat} {ps:List (List PV)} {rows:List (List AV)} (h:∀ r∈rows,∀ a∈r,Clo H' a):FzRows H' id g ps rows rows :=
 ⟨rfl,fun i r hi=>⟨r,hi,rfl,fun k a a' h1 h2=>by rw [h1] at h2;cases h2;exact .same (h r (List.mem_of_getElem? hi) a (List.mem_of_getElem? h1))⟩⟩
theorem fzr_one {H':Heap} {id g:Nat} {ps:List (List PV)} {r r':List AV} (hl:r.length=r'.length) (h:∀ (k:Nat) (a a':AV),r[k]?=some a→r'[k]?=some a'→Fz H' id g ps a a'):FzRows H' id g ps [r] [r'] :=
 ⟨rfl,fun i x hi=>by
  match i,hi with
  | 0,hi=>cases hi;exact⟨r,rfl,hl,h⟩⟩
def FOk (H H':Heap) (id g:Nat) (ps:List (List PV)):Heap→Prop
 | []=>True
 | (j,o')::r=>(∃ o,H.get j=some o∧o'.g=o.g∧o'.sz=o.sz∧o'.ty=o.ty∧FzRows H' id g ps o.rows o'.rows)∧FOk H H' id g ps r
theorem FOk.spec {H H':Heap} {id g:Nat} {ps:List (List PV)} {L:Heap} (h:FOk H H' id g ps L):∀ p∈L,∃ o,H.get p.1=some o∧p.2.g=o.g∧p.2.sz=o.sz∧p.2.ty=o.ty∧FzRows H' id g ps o.rows p.2.rows:=by
 induction L with
 | nil=>simp
 | cons x r ih =>
  obtain ⟨t,v⟩:=x
  obtain ⟨h1,h2⟩:=h
  intro p hp
  rcases List.mem_cons.1 hp with e|e
  ·subst e;exact h1
  exact ih h2 p e
theorem Ent.fzG {G0:Heap} {E E':Env} {H H':Heap} {id:Nat} {ob:Ob} (ps:List (List PV)) (hH:H.get id=some ob) (hps:ob.rows=ps.map (·.map .pv)) (hE:∀ p∈E',∃ v0,E.get p.1=some v0∧Fz H' id ob.g ps v0 p.2) (hno:H'.get id=none)
    (hF:FOk H H' id ob.g ps H') (hk:KOk H' H G0):Ent G0 E H E' H':=by
  intro G hG N a w hs
  obtain ⟨I,ι,hr,hst,he⟩:=hs.rel
  subst hG
  have hf:∀ j o',H'.get j=some o'→∃ o,H.get j=some o∧o'.g=o.g∧o'.sz=o.sz∧o'.ty=o.ty∧FzRows H' id ob.g ps o.rows o'.rows:=fun j o' hj=>hF.spec _ (mem_of_hget hj)
  have hsub:SubG H' H:=fun j o' hj=>by
    obtain ⟨o,e1,e2,e3,_,e5⟩:=hf j o' hj
    exact⟨o,e1,e2,e3,e5.1⟩
  have hown:∀ b,Own ι H' b→Own ι H b:=fun b ⟨j,o',c,h1,h2⟩=>by
    obtain ⟨o,e1,_⟩:=hf j o' h1
    exact⟨j,o,c,e1,h2⟩
  have hrel:Rel (ImmPlus I ι id) ι H' w:=by
    refine⟨fun b hb=>?_,fun j o' hj=>?_,fun j j' o o' b c c' h1 h2=>?_,hr.glob.mono (fun _ _=>rfl) (fun _ h=>.inl h)⟩
    · rcases hb with hb|⟨cap,hb⟩
      · exact hr.imm b hb
      · exact hr.lt ⟨id,ob,cap,hH,hb⟩
    · obtain ⟨o,e1,e2,e3,e4,e5,e6⟩:=hf j o' hj
      refine(hr.obj j o e1).keepG e3 e4 e5 (raw_rows e5.symm (fun i r' hi=>by
        obtain ⟨r,z1,z2,z3⟩:=e6 i r' hi
        exact⟨r,z1,z2,fun k a a' h1 h2 y ts e=>(z3 k a a' h1 h2).raw e⟩)) rfl (fun b' cap' q1 _=>⟨rfl,fun q3=>?_⟩) (fun i r' hi=>?_)
      · rintro(h|⟨cap,h⟩)
        · exact q3 h
        · have:j=id:=hr.inj j id o ob b' cap' cap e1 hH q1 h
          rw [this,hno] at hj
          cases hj
      · obtain ⟨r,z1,z2,z3⟩:=e6 i r' hi
        exact⟨r,z1,z2,fun k a a' h1 h2 v hv=>VRel.freezeG hr hsub hH hps (z3 k a a' h1 h2) hv⟩
    · obtain ⟨p,e1,_⟩:=hf j o h1
      obtain ⟨p',e1',_⟩:=hf j' o' h2
      exact hr.inj j j' p p' b c c' e1 e1'
  have hstep:Step G.I G.ι G.H G.w (ImmPlus I ι id) ι H' w :=
    { os := hst.os, tape := hst.tape, output := hst.output, size := hst.size, froz := hst.froz, keep := hst.keep
      imm:=fun b hb=>.inl (hst.imm b hb)
      immNew:=fun b hb=>by
        rcases hb with hb|⟨cap,hb⟩
        · exact hst.immNew b hb
        · rcases hst.own b ⟨id,ob,cap,hH,hb⟩with h1|h1
          · exact .inr (.inl h1)
          · exact .inr (.inr h1)
      own:=fun b hb=>hst.own b (hown b hb)
      objs:=fun j o ho=>by
        obtain ⟨o',h1,h2⟩:=hst.objs j o ho
        exact⟨o',(hk.kept j (by simp [ho])).trans h1,h2⟩}
  refine⟨hs.defers,hs.size,_,ι,hrel,hstep,fun t v ht=>?_⟩
  obtain ⟨v0,h1,h2⟩:=hE _ (mem_of_get ht)
  obtain ⟨c,hc,hv⟩:=he t v0 h1
  exact⟨c,hc,VRel.freezeG hr hsub hH hps h2 hv⟩
end
section
/-- The record of a loop as an object: the record, and what it keeps of the frame. -/
def LR (x:Go.Loop) (E0:Env):Ob:=⟨0,0,0,[[.raw x (E0.map (·.1))],E0.map (·.2)]⟩
section
variable {I:Nat→Prop} {ι:Plc} {H:Heap} {w:World}
theorem rec_at {id:Nat} {x:Go.Loop} {E0:Env} (hr:Rel I ι H w) (hH:H.get id=some (LR x E0)) {v:Value} (hv:VRel w I ι H v (.yld id 0)) :
  ∃ b,ι id=some (b,2)∧v=.func (.yield b) #[] #[]∧w.heap[b]?=some (.loop x)∧¬ I b∧∀ (i t:Nat) (a:AV),(E0.map (·.1))[i]?=some t→(E0.map (·.2))[i]?=some a→∃ c,x.tmps[t]?=some c∧VRel w I ι H c a:=by
 cases hv with
 | yld o h1 h2 h3 h4 =>
  rw [hH] at h1;cases h1
  obtain ⟨_,b,e1,e2⟩:=h4 rfl
  obtain ⟨_,b',y,k1,k2,k3,k4⟩:=(hr.obj id _ hH).rec rfl e1
  rw [e1] at k1;cases k1
  obtain ⟨q1,q2⟩:=k4 x _ _ rfl
  subst q1
  exact⟨b,e1,e2,k2,k3,q2⟩
/-- The record turns: its state, and what is pending. -/
theorem Rel.setRec {id b:Nat} {x y:Go.Loop} {E0:Env} {H':Heap} (hr:Rel I ι H w) (hH:H.get id=some (LR x E0)) (hι:ι id=some (b,2)) (hy:y.tmps=x.tmps)
  (h1:H'.get id=some (LR y E0)) (h2:∀ j,j≠id→H'.get j=H.get j):Rel I ι H' (w.putObj b (.loop y))∧Step I ι H w I ι H' (w.putObj b (.loop y)):=by
 obtain ⟨_,b',z,k1,k2,k3,k4⟩:=(hr.obj id _ hH).rec rfl hι
 rw [hι] at k1;cases k1
 obtain ⟨q1,q2⟩:=k4 x _ _ rfl
 subst q1
 have hlt:=(Array.getElem?_eq_some_iff.1 k2).1
 have hown:∀ c,Own ι H' c→Own ι H c:=fun c ⟨j,o,cap,ho,hc⟩=>by
  by_cases e:j=id
  ·subst e;exact⟨j,_,cap,hH,hc⟩
  exact⟨j,o,cap,(h2 j e).symm.trans ho,hc⟩
 have hst:Step I ι H w I ι H' (w.putObj b (.loop y)):=by
  refine⟨rfl,rfl,rfl,by rw [World.putObj_size];exact Nat.le_refl _,fun a ha _=>?_,fun _ h=>h,fun _ h=>.inl h,fun c hc=>.inl (hown c hc),fun c hc hn=>?_,fun j o hj=>?_⟩
  ·unfold World.frozen?
   by_cases e:a.block=b
   ·rw [e,World.putObj_heap_same hlt,k2]
   rw [World.putObj_heap_other e]
  ·exact World.putObj_heap_other fun e=>hn ⟨id,_,2,hH,by rw [e];exact hι⟩
  by_cases e:j=id
  ·subst e
   rw [hH] at hj;cases hj
   exact⟨_,h1,Nat.le_refl _,fun _=>⟨rfl,rfl,fun h=>by cases h⟩⟩
  exact⟨o,(h2 j e).trans hj,Nat.le_refl _,fun _=>⟨rfl,rfl,fun _=>Nat.le_refl _⟩⟩
 refine⟨⟨fun c hc=>by rw [World.putObj_size];exact hr.imm c hc,fun j o hj=>?_,fun j j' o o' c d d' hj hj' hc hc'=>?_,hst.glob hr⟩,hst⟩
 ·by_cases e:j=id
  ·subst e
   rw [h1] at hj;cases hj
   refine .inr (.inr (.inr ⟨rfl,b,y,hι,World.putObj_heap_same hlt,k3,fun z ts r hz=>?_⟩))
   simp only [LR,List.cons.injEq,AV.raw.injEq,and_true] at hz
   obtain ⟨⟨rfl,rfl⟩,rfl⟩:=hz
   refine⟨rfl,fun i t a ht ha=>?_⟩
   obtain ⟨c,c1,c2⟩:=q2 i t a ht ha
   exact⟨c,by rw [hy];exact c1,c2.mono hr hst⟩
  rw [h2 j e] at hj
  exact(hr.obj j o hj).keep rfl (fun c d hc _=>⟨World.putObj_heap_other (fun hb=>e (hr.inj j id o _ c d 2 hj hH hc (by rw [hb];exact hι))),fun h=>h⟩) (fun r _ a _ v hv=>hv.mono hr hst)
 have key:∀ j o,H'.get j=some o→∃ o,H.get j=some o:=fun j o hj=>by
  by_cases e:j=id
  ·subst e;exact⟨_,hH⟩
  exact⟨o,(h2 j e).symm.trans hj⟩
 obtain ⟨q,hq⟩:=key j o hj
 obtain ⟨q',hq'⟩:=key j' o' hj'
 exact hr.inj j j' q q' c d d' hq hq' hc hc'
/-- A new block that nobody owns. -/
theorem Rel.push (o:Obj) (hr:Rel I ι H w):Rel I ι H (w.alloc o)∧Step I ι H w I ι H (w.alloc o):=by
 have hk:∀ b,b < w.heap.size→(w.alloc o).heap[b]?=w.heap[b]?:=fun b hb=>by
  show (w.heap.push o)[b]?=_
  rw [Array.getElem?_push,if_neg (Nat.ne_of_lt hb)]
 have hst:Step I ι H w I ι H (w.alloc o):=by
  refine⟨rfl,rfl,rfl,by rw [World.size_alloc];omega,fun a ha _=>?_,fun _ h=>h,fun _ h=>.inl h,fun _ h=>.inl h,fun b hb _=>hk b hb,fun _ o h=>⟨o,h,Nat.le_refl _,fun _=>⟨rfl,rfl,fun _=>Nat.le_refl _⟩⟩⟩
  unfold World.frozen?
  rw [hk _ ha]
 refine⟨⟨fun b hb=>by have:=hr.imm b hb;rw [World.size_alloc];omega,fun j o hj=>?_,hr.inj,hst.glob hr⟩,hst⟩
 exact(hr.obj j o hj).keep rfl (fun b c _ hb=>⟨hk b hb,fun h=>h⟩) (fun r _ a _ v hv=>hv.mono hr hst)
end
def busy (x:Go.Loop):Go.Loop:={x with state:=.busy}
def left (x:Go.Loop) (c:Code):Go.Loop:={x with state:=.done,pending:=some c}
/-- How a round ends: K is the heap behind it, without the record. -/
def RoundQ (H0:Heap) (id:Nat) (x:Go.Loop) (E0:Env) (Q:AV→Heap→Prop):Exit→Env→Heap→Prop
 | .normal,E,H=>∃ K,Ent H0 E H [] ((id,LR (busy x) E0)::K)∧Q (.pv (.bool true)) ((id,LR x E0)::K)
 | .ret,E,H=>∃ K,Ent H0 E H [] ((id,LR (busy x) E0)::K)∧Q (.pv (.bool false)) ((id,LR (left x .ret) E0)::K)
 | .exit j,E,H=>∃ K,Ent H0 E H [] ((id,LR (busy x) E0)::K)∧Q (.pv (.bool false)) ((id,LR (left x (.exit j)) E0)::K)
 | _,_,_=>False
theorem same_place {G:Entry} {I:Nat→Prop} {ι:Plc} {H:Heap} {w:World} {id b:Nat} {x y:Go.Loop} {E0:Env} (hst:Step G.I G.ι G.H G.w I ι H w) (hG:G.H.get id=some (LR x E0)) (hι:G.ι id=some (b,2)) (hH:H.get id=some (LR y E0)):ι id=some (b,2):=by
 obtain ⟨o',e1,_,e3⟩:=hst.objs id _ hG
 rw [hH] at e1;cases e1
 exact(e3 rfl).1.trans hι
theorem rec_heap {I:Nat→Prop} {ι:Plc} {H:Heap} {w:World} {id b:Nat} {x:Go.Loop} {E0:Env} (hr:Rel I ι H w) (hH:H.get id=some (LR x E0)) (hι:ι id=some (b,2)):w.heap[b]?=some (.loop x):=by
 obtain ⟨_,b',z,k1,k2,k3,k4⟩:=(hr.obj id _ hH).rec rfl hι
 rw [hι] at k1;cases k1
 obtain ⟨q1,_⟩:=k4 x _ _ rfl
 subst q1
 exact k2
theorem hd_get (id:Nat) (o:Ob) (K:Heap):Heap.get ((id,o)::K) id=some o:=by simp [Heap.get,beq_self]
theorem hd_other {id j:Nat} (o o':Ob) (K:Heap) (h:j≠id):Heap.get ((id,o)::K) j=Heap.get ((id,o')::K) j:=by simp [Heap.get,beq_ne (Ne.symm h)]
/-- A ROUND, out of the walk of its assignment and of its body. -/
theorem ycalls {P:Program} {id p N:Nat} {x:Go.Loop} {assign body:Code} {E0:Env} {a:AV} {K:Heap} {Q:AV→Heap→Prop} (E2:Env) (K2:Heap) (hx1:x.state=.ready) (hx2:x.pending=none) (hp:x.params=#[p]) (hN:x.tmps.size=N) (hxa:x.assign=assign) (hxb:x.body=body) (hpN:Nat.blt p N=true)
  (hok:okRound assign=true) (hok2:okRound body=true)
  (h1:AWp P ((id,LR x E0)::K) N assign (AThen (fun E1 H1=>Ent ((id,LR x E0)::K) E1 H1 E2 ((id,LR x E0)::K2)) (fun _ _ _=>False)) ((p,a)::E0) ((id,LR x E0)::K))
  (h2:AWp P ((id,LR x E0)::K) N body (RoundQ ((id,LR x E0)::K) id x E0 Q) E2 ((id,LR (busy x) E0)::K2)):YCalls P id 0 [a] ((id,LR x E0)::K) Q:=by
 subst hxa hxb
 have hpN:p < N:=by simpa [Nat.blt_eq] using hpN
 intro I ι w vs v hr hv hl hvs
 obtain ⟨b,e1,e2,e3,e4,e5⟩:=rec_at hr (hd_get _ _ _) hv
 obtain ⟨u,rfl⟩:∃ u,vs=#[u]:=by
  match vs,hl with
  | ⟨[u]⟩,_=>exact⟨u,rfl⟩
 have hu:=hvs 0 u a rfl rfl
 refine⟨b,x.fn,_,x.assign,x.body,e2,run_yield e3 (by rw [hp];rfl),?_⟩
 refine roundIn_of_wpIn (F:=Fence.wide) trivial ?_
 have hG:(⟨I,ι,(id,LR x E0)::K,w⟩:Entry).H=(id,LR x E0)::K:=rfl
 have hst:St ⟨I,ι,(id,LR x E0)::K,w⟩ N ((p,a)::E0) ((id,LR x E0)::K) {tmps:=(x.params.zip #[u]).foldl (fun tmps (t,a)=>tmps.setIfInBounds t a) x.tmps,defers:=[]} w:=by
  have ht:(x.params.zip #[u]).foldl (fun tmps (t,a)=>tmps.setIfInBounds t a) x.tmps=x.tmps.setIfInBounds p u:=by rw [hp];simp
  rw [ht]
  refine⟨Marks.nil _ _,by simp [hN],I,ι,hr,Step.refl _ _ _ _,fun t y hy=>?_⟩
  by_cases e:p=t
  ·subst e
   rw [Env.get_cons_same] at hy;cases hy
   exact⟨u,by simp [hN,hpN],hu⟩
  rw [Env.get_cons_other _ _ e] at hy
  obtain ⟨i,hi⟩:=List.mem_iff_getElem?.1 (mem_of_get hy)
  obtain ⟨c,c1,c2⟩:=e5 i t y (by rw [List.getElem?_map,hi];rfl) (by rw [List.getElem?_map,hi];rfl)
  exact⟨c,by show (x.tmps.setIfInBounds p u)[t]?=some c;rw [Array.getElem?_setIfInBounds_ne e];exact c1,c2⟩
 refine wpIn_mono (h1 _ hG _ w hst (some b) (.inr hok)) ?_
 rintro e a1 w1 ⟨E1,H1,q,hs1⟩
 cases e with
 | normal =>
  have hs2:=q _ hG N a1 w1 hs1
  obtain ⟨I1,ι1,hr1,hst1,he1⟩:=hs2.rel
  have hι1:=same_place hst1 (hd_get _ _ _) e1 (hd_get _ _ _)
  have hb1:=rec_heap hr1 (hd_get _ _ _) hι1
  obtain ⟨k1,k2⟩:=hr1.setRec (y:=busy x) (H':=(id,LR (busy x) E0)::K2) (hd_get _ _ _) hι1 rfl (hd_get _ _ _) (fun j hj=>hd_other _ _ _ hj)
  refine⟨_,run_beginRound hb1 hx1,?_⟩
  have hs3:St ⟨I,ι,(id,LR x E0)::K,w⟩ N E2 ((id,LR (busy x) E0)::K2) a1 (w1.putObj b (.loop (busy x))) :=
   ⟨hs2.defers.step hr1 k2,hs2.size,I1,ι1,k1,hst1.trans k2,fun t y hy=>let ⟨c,c1,c2⟩:=he1 t y hy;⟨c,c1,c2.mono hr1 k2⟩⟩
  refine wpIn_mono (h2 _ hG a1 _ hs3 (some b) (.inr hok2)) ?_
  rintro e a2 w3 ⟨E3,H3,q3,hs4⟩
  have fin:∀ (jump:Option Code) (y:Go.Loop) (K3:Heap),y={busy x with state:=if jump.isNone then .ready else .done,pending:=jump}→Ent ((id,LR x E0)::K) E3 H3 [] ((id,LR (busy x) E0)::K3)→Q (.pv (.bool jump.isNone)) ((id,LR y E0)::K3) →
    ∃ v w',(Instr.endRound b jump).run P w3=.ok v w'∧∃ r H' I' ι' v',Ending.returned v=.returned v'∧Q r H'∧VRel w' I' ι' H' v' r∧Rel I' ι' H' w'∧Step I ι ((id,LR x E0)::K) w I' ι' H' w':=by
   intro jump y K3 hy hent hQ
   have hs5:=hent _ hG N a2 w3 hs4
   obtain ⟨I5,ι5,hr5,hst5,_⟩:=hs5.rel
   have hι5:=same_place hst5 (hd_get _ _ _) e1 (hd_get _ _ _)
   have hb5:=rec_heap hr5 (hd_get _ _ _) hι5
   obtain ⟨z1,z2⟩:=hr5.setRec (y:=y) (H':=(id,LR y E0)::K3) (hd_get _ _ _) hι5 (by rw [hy]) (hd_get _ _ _) (fun j hj=>hd_other _ _ _ hj)
   refine⟨_,_,run_endRound jump hb5,_,_,I5,ι5,_,rfl,hQ,.pv (.bool _),?_,?_⟩
   ·rw [← hy];exact z1
   rw [← hy];exact hst5.trans z2
  cases e with
  | normal =>
   obtain ⟨K3,hent,hQ⟩:=q3
   refine fin none x K3 ?_ hent hQ
   obtain ⟨st,pe,fn,tm,pa,ax,bo,de⟩:=x
   simp only at hx1 hx2
   subst hx1 hx2
   rfl
  | ret =>
   obtain ⟨K3,hent,hQ⟩:=q3
   exact fin (some .ret) (left x .ret) K3 rfl hent hQ
  | exit j =>
   obtain ⟨K3,hent,hQ⟩:=q3
   exact fin (some (.exit j)) (left x (.exit j)) K3 rfl hent hQ
  | goto l=>exact q3.elim
  | panic ch=>exact q3.elim
  | outgrown=>exact q3.elim
 | exit j=>exact q.elim
 | goto l=>exact q.elim
 | ret=>exact q.elim
 | panic ch=>exact q.elim
 | outgrown=>exact q.elim
/-- What a loop leads to, by what is pending. -/
def RangeQ (Q:Exit→Env→Heap→Prop) (E:Env) (H:Heap):Option Code→Prop
 | none=>Q .normal E H
 | some .ret=>Q .ret E H
 | some (.exit j)=>Q (.exit j) E H
 | _=>False
/-- THE STATEMENT, out of the iterator's contract. -/
theorem awp_range {P:Program} {G0:Heap} {N f id p:Nat} {caps:List AV} {g:Operand} {ps:Array Tmp} {assign body:Code} {Q:Exit→Env→Heap→Prop} {E:Env} {H:Heap} (E0:Env) (hg:aeval E g=some (.clo f caps)) (hc:∀ (args:Array Value) (w:World),(callFunc f args).run P w=.ok (.enter f args) w)
  (hps:ps=#[p]) (hid:H.get id=none) (hE0:∀ q∈E0,E.get q.1=some q.2)
  (h:∀ x:Go.Loop,x.state=.ready→x.pending=none→x.params=#[p]→x.tmps.size=N→x.assign=assign→x.body=body →
   ACalls P f (.yld id 0::caps) ((id,LR x E0)::H) (fun r H'=>∃ (y:Go.Loop) (K:Heap),y.tmps=x.tmps∧y.state≠.busy∧H'=(id,LR y E0)::K∧∀ z:Go.Loop,RangeQ Q E ((id,LR z E0)::K) y.pending)) :
  AWp P G0 N (.rangeFunc g ps assign body) Q E H:=by
 intro G hG a w hs ro hro
 obtain rfl:ro=none:=hro.resolve_right (fun h=>by cases h)
 obtain ⟨I,ι,hr,hst,he⟩:=hs.rel
 refine wpIn_rangeFunc (F:=RF none) ?_
 intro fn _
 have hgv:=aeval_rel he hg
 generalize hfc:a.eval g=fc at hgv
 cases hgv with
 | @clo _ us _ hl hh =>
  obtain ⟨x,hx⟩:∃ x:Go.Loop,x={state:=.ready,pending:=none,fn,tmps:=a.tmps,params:=ps,assign,body,defers:=w.heap.size}:=⟨_,rfl⟩
  obtain ⟨a1,a2⟩:=hr.push (.deferred (some []))
  obtain ⟨wd,hwd⟩:∃ wd,wd=w.alloc (.deferred (some [])):=⟨_,rfl⟩
  rw [← hwd] at a1 a2
  have hwds:wd.heap.size=w.heap.size+1:=by rw [hwd,World.size_alloc]
  have hDd:wd.heap[w.heap.size]?=some (.deferred (some [])):=by rw [hwd];exact World.alloc_heap_new w _
  have hidH:Heap.get ((id,LR x E0)::H) id=some (LR x E0):=hd_get _ _ _
  obtain ⟨b1,b2⟩:=a1.placeX (id:=id) (cap:=2) (x:=.loop x) (w':=wd.alloc (.loop x)) (H':=(id,LR x E0)::H) (ob':=LR x E0) rfl rfl rfl rfl (fun o ho=>by rw [hid] at ho;cases ho)
   (fun hnew hI hmono=>.inr (.inr (.inr ⟨rfl,_,x,by simp,hnew,hI,fun y ts r hy=>by
    simp only [LR,List.cons.injEq,AV.raw.injEq,and_true] at hy
    obtain ⟨⟨rfl,rfl⟩,rfl⟩:=hy
    refine⟨rfl,fun i t v ht hv=>?_⟩
    rw [List.getElem?_map] at ht hv
    obtain ⟨q,hq,rfl⟩:=Option.map_eq_some_iff.1 ht
    rw [hq] at hv
    cases hv
    obtain ⟨c,c1,c2⟩:=he q.1 q.2 (hE0 q (List.mem_of_getElem? hq))
    exact⟨c,by rw [hx];exact c1,hmono _ _ (c2.mono hr a2)⟩⟩)))
   hidH (fun j hj=>by simp [Heap.get,beq_ne (Ne.symm hj)])
  obtain ⟨w1,hw1⟩:∃ w1,w1=wd.alloc (.loop x):=⟨_,rfl⟩
  rw [← hw1] at b1 b2
  obtain ⟨ι1,hι1⟩:∃ ι1:Plc,ι1=fun j=>if j=id then some (wd.heap.size,2)else ι j:=⟨_,rfl⟩
  rw [← hι1] at b1 b2
  have hιid:ι1 id=some (w.heap.size+1,2):=by rw [hι1,hwds];simp
  have hL1:=rec_heap b1 hidH hιid
  have hD1:w1.heap[w.heap.size]?=some (.deferred (some [])):=by
   rw [b2.keep _ (by rw [hwds];omega) (own_mark a1 hDd)]
   exact hDd
  have hcall:=h x (by rw [hx]) (by rw [hx]) (by rw [hx,hps]) (by rw [hx];exact hs.size) (by rw [hx]) (by rw [hx]) I ι1 w1 (#[.func (.yield (w.heap.size+1)) #[] #[]]++us) b1 (by simp [hl];omega) (fun i v c hv hc'=>by
   cases i with
   | zero =>
    rw [Array.getElem?_append_left (by simp)] at hv
    simp at hv hc'
    subst hv hc'
    exact .yld (LR x E0) hidH (Nat.le_refl _) rfl (fun _=>⟨rfl,_,hιid,rfl⟩)
   | succ i =>
    rw [Array.getElem?_append_right (by simp)] at hv
    simp only [List.getElem?_cons_succ] at hc'
    have:=hh i v c (by simpa using hv) hc'
    exact(this.mono hr a2).mono a1 b2)
  refine⟨w.heap.size+1,[mark w.heap.size],w1,{target:=.fn (.func f) us,args:=#[.func (.yield (w.heap.size+1)) #[] #[]]},w1,f,#[.func (.yield (w.heap.size+1)) #[] #[]]++us,w1,?_,?_,fun _ _=>trivial,?_,(fun q=>by cases q),?_⟩
  ·rw [hw1,hwd,hx];exact run_enterLoop_outer _ _ _ _ _
  ·simp only [resolve,hfc]
   simp [go_sem]
  ·simp [invoke,go_sem,hc]
  refine((callsIn_wide (n:=0)).2 hcall).mono ?_
  rintro e w3 ⟨r,H',I3,ι3,v3,rfl,⟨y,K,hy1,hy2,rfl,hq⟩,_,hr3,hst3⟩
  have hι3:=same_place (G:=⟨I,ι1,(id,LR x E0)::H,w1⟩) hst3 hidH hιid (hd_get _ _ _)
  have hb3:=rec_heap hr3 (hd_get _ _ _) hι3
  obtain ⟨z,hz⟩:∃ z:Go.Loop,z={y with state:=.exhausted}:=⟨_,rfl⟩
  obtain ⟨z1,z2⟩:=hr3.setRec (y:=z) (H':=(id,LR z E0)::K) (hd_get _ _ _) hι3 (by rw [hz]) (hd_get _ _ _) (fun j hj=>hd_other _ _ _ hj)
  obtain ⟨w4,hw4⟩:∃ w4,w4=w3.putObj (w.heap.size+1) (.loop z):=⟨_,rfl⟩
  rw [← hw4] at z1 z2
  refine⟨y.pending,w4,by rw [hw4,hz];exact run_endLoop hb3 hy2,?_⟩
  have hall:Step I ι H w I3 ι3 ((id,LR z E0)::K) w4:=((a2.trans b2).trans hst3).trans z2
  have hD4:w4.heap[w.heap.size]?=some (.deferred (some [])):=by
   rw [(hst3.trans z2).keep _ (Array.getElem?_eq_some_iff.1 hD1).1 (own_mark b1 hD1)]
   exact hD1
  have hs4:St G N E ((id,LR z E0)::K) {a with defers:=[mark w.heap.size]++a.defers} w4:=by
   refine⟨?_,hs.size,I3,ι3,z1,hst.trans hall,fun t v hv=>let ⟨c,c1,c2⟩:=he t v hv;⟨c,c1,c2.mono hr hall⟩⟩
   obtain ⟨Ds,d1,d2,d3⟩:=hs.defers.step hr hall
   refine⟨w.heap.size::Ds,by rw [d1];rfl,List.nodup_cons.2 ⟨fun hmem=>?_,d2⟩,fun D hD=>?_⟩
   ·have hold:∀ D∈Ds,D < w.heap.size:=by
     obtain ⟨Ds',d1',_,d3'⟩:=hs.defers
     have he:Ds'=Ds:=by
      have h0:Ds'.map mark=Ds.map mark:=by rw [← d1',← d1]
      have hinj:∀ (l l':List Nat),l.map mark=l'.map mark→l=l':=by
       intro l
       induction l with
       | nil=>intro l' h;cases l' with
        | nil=>rfl
        | cons _ _=>cases h
       | cons D l ih=>intro l' h;cases l' with
        | nil=>cases h
        | cons D' l' =>
         simp only [List.map_cons,List.cons.injEq,mark,Deferred.mk.injEq,Target.collected.injEq,and_true] at h
         rw [h.1,ih l' h.2]
      exact hinj _ _ h0
     subst he
     exact fun D hD=>(Array.getElem?_eq_some_iff.1 (d3' D hD).2).1
    exact Nat.lt_irrefl _ (hold _ hmem)
   rcases List.mem_cons.1 hD with rfl|hD
   ·exact⟨hst.size,hD4⟩
   exact d3 D hD
  have hq':=hq z
  generalize y.pending=pend at hq' ⊢
  match pend,hq' with
  | none,hq'=>exact⟨E,_,hq',hs4⟩
  | some .ret,hq'=>exact wpIn_ret ⟨E,_,hq',hs4⟩
  | some (.exit j),hq'=>exact wpIn_exit ⟨E,_,hq',hs4⟩
end
section
theorem ACalls.congrG {P:Program} {f:FuncId} {args:List AV} {H H1 K K1:Heap} {r0:AV} (h:ACalls P f args H1 (fun r X=>r=r0∧X=K1)) (he:∀ j,H1.get j=H.get j) (hk:∀ j,K.get j=K1.get j):ACalls P f args H (fun r X=>r=r0∧X=K):=by
 intro I ι w vs hr hl hv
 obtain ⟨p1,p2⟩:=hr.congr he
 refine(h I ι w vs p1 hl (fun i v a h1 h2=>(hv i v a h1 h2).mono hr p2)).mono ?_
 rintro e w' ⟨r,H',I',ι',v,rfl,⟨rfl,rfl⟩,k1,k2,k3⟩
 obtain ⟨q1,q2⟩:=k2.congr hk
 exact⟨r,K,I',ι',v,rfl,⟨rfl,rfl⟩,k1.mono k2 q2,q1,(p2.trans k3).trans q2⟩
theorem YCalls.congrG {P:Program} {id g:Nat} {args:List AV} {H H1 K K1:Heap} {r0:AV} (h:YCalls P id g args H1 (fun r X=>r=r0∧X=K1)) (he:∀ j,H1.get j=H.get j) (hk:∀ j,K.get j=K1.get j):YCalls P id g args H (fun r X=>r=r0∧X=K):=by
 intro I ι w vs v hr hvy hl hv
 obtain ⟨p1,p2⟩:=hr.congr he
 obtain ⟨l,f,tmps,assign,body,e1,e2,e3⟩:=h I ι w vs v p1 (hvy.mono hr p2) hl (fun i v a h1 h2=>(hv i v a h1 h2).mono hr p2)
 refine⟨l,f,tmps,assign,body,e1,e2,e3.mono ?_⟩
 rintro e w' ⟨r,H',I',ι',v,rfl,⟨rfl,rfl⟩,k1,k2,k3⟩
 obtain ⟨q1,q2⟩:=k2.congr hk
 exact⟨r,K,I',ι',v,rfl,⟨rfl,rfl⟩,k1.mono k2 q2,q1,(p2.trans k3).trans q2⟩
theorem CallsV.congrG {P:Program} {fv:AV} {args:List AV} {H H1 K K1:Heap} {r0:AV} (h:CallsV P fv args H1 (fun r X=>r=r0∧X=K1)) (he:∀ j,H1.get j=H.get j) (hk:∀ j,K.get j=K1.get j):CallsV P fv args H (fun r X=>r=r0∧X=K):=by
 rcases h with⟨id,g,e,h⟩|⟨F,caps,e,hc,h⟩
 ·exact .inl ⟨id,g,e,h.congrG he hk⟩
 exact .inr ⟨F,caps,e,hc,h.congrG he hk⟩
/-- Two objects in front change places. -/
theorem get_swap {i j:Nat} {a b:Ob} {K:Heap} (h:i≠j) (k:Nat):Heap.get ((i,a)::(j,b)::K) k=Heap.get ((j,b)::(i,a)::K) k:=by
 simp only [Heap.get]
 cases e1:Nat.beq i k with
 | true =>
  have:=Nat.eq_of_beq_eq_true e1
  subst this
  rw [beq_ne (Ne.symm h)];rfl
 | false=>cases e2:Nat.beq j k<;>rfl
end
end Go.Abs
namespace Go.Abs
open Go.Lib
section
section
variable {P:Program} {N:Nat} {o:Oper} {E:Env} {H:Heap} {T S:TypeId} {x y:Operand}
theorem strCells_rel {w:World} {I:Nat→Prop} {ι:Plc} (s:ByteArray):LRel w I ι H 1 (strCells s) (brows s.data.toList):=by
 intro i r hi k a hk
 rw [brows,List.getElem?_map] at hi
 obtain ⟨b,hb,rfl⟩:=Option.map_eq_some_iff.1 hi
 cases k with
 | zero =>
  cases hk
  exact⟨.int .u8 b.toNat,by rw [strCells,Nat.mul_one,Nat.add_zero,List.getElem?_map,hb];rfl,rfl,.pv (.int _ _)⟩
 | succ k=>simp at hk
theorem opd_append_str {e:TypeId} {id g n:Nat} {ob:Ob} {s:ByteArray} {H2:Heap} (ho:o.op=.call {callee:=.builtin .append,args:=#[x,y],argTypes:=#[T,S]}) (hT:P.underlying T=some (.slice e)) (hS:P.underlying S=some .string) (hinf:EInfo P e 1 1) (hz0:∀ i,P.info? e=some i→i.zero=some (.int .u8 0))
  (hx:aeval E x=some (.osl id g 0 n)) (hH:H.get id=some ob) (hg:ob.g=g) (hosz:ob.sz=1) (hty:ob.ty=e) (hn:ob.rows.length=n)
  (hy:aeval E y=some (.pv (.str s))) (hmax:n+s.size≤140737488355328)
  (hH2:H.set id ⟨g+1,1,e,ob.rows++brows s.data.toList⟩=H2):OpD P N o E H (.osl id (g+1) 0 (n+s.size)) H2:=by
 intro a w I ι _ _ hr he K Q hk
 obtain ⟨i,z,hi,hz,hsize,hby,hzs,hsz0⟩:=hinf
 have hzi:=hz0 i hi
 subst hg hty hn hH2
 have hlen2:(brows s.data.toList).length=s.size:=by simp [brows]
 have hml:ob.rows.length+s.size≤maxLen:=by simp only [maxLen];omega
 have h1:(H.set id ⟨ob.g+1,1,ob.ty,ob.rows++brows s.data.toList⟩).get id=some ⟨ob.g+1,1,ob.ty,ob.rows++brows s.data.toList⟩:=Heap.get_set_same _ _ _
 have h2:∀ j,j≠id→(H.set id ⟨ob.g+1,1,ob.ty,ob.rows++brows s.data.toList⟩).get j=H.get j:=fun j hj=>Heap.get_set_other _ _ hj
 have hpos:0 < ob.sz:=osl_sz (aeval_rel he hx) hH rfl
 have p2:=((hr.obj id ob hH).cells hpos).2.1
 rw [hosz] at p2
 have hrl:∀ r∈ob.rows++brows s.data.toList,r.length=1:=fun r hr'=>by
  rcases List.mem_append.1 hr' with h|h
  ·exact p2 r h
  obtain ⟨b,_,rfl⟩:=List.mem_map.1 h;rfl
 have hys:=(aeval_rel he hy).str_inv
 have fin:∀ (v':Value) (w':World) (ι':Plc),(Builtin.append_ #[T,S] o.type #[a.eval x,.string s]).run P w=.ok v' w'→VRel w' I ι' (H.set id ⟨ob.g+1,1,ob.ty,ob.rows++brows s.data.toList⟩) v' (.osl id (ob.g+1) 0 (ob.rows.length+s.size)) →
   Rel I ι' (H.set id ⟨ob.g+1,1,ob.ty,ob.rows++brows s.data.toList⟩) w'→Step I ι H w I ι' (H.set id ⟨ob.g+1,1,ob.ty,ob.rows++brows s.data.toList⟩) w'→o.wpW P a w K Q:=by
  intro v' w' ι' hrun k1 k2 k3
  unfold Oper.wpW execOp
  simp only [ho,resolve,invoke,builtin,Sem.run_bind,Sem.run_pure,Result.andThen_ok,List.map_toArray,List.map_cons,List.map_nil,hys,hrun]
  exact hk v' w' I ι' _ _ ⟨rfl,rfl⟩ k1 k2 k3
 have hvx:=aeval_rel he hx
 obtain ⟨_,hcase⟩:=osl_slice hvx hH rfl
 rcases hcase with⟨b,cap,oo,c1,c2,c3⟩|⟨c1,c2,_,c4⟩
 ·obtain ⟨p1,_,⟨b',cap',cs,e1,e2,e3,e4,e5,e5',e6⟩|⟨e1,_⟩⟩:=(hr.obj id ob hH).cells hpos
  ·rw [c1] at e1;cases e1
   rw [hosz] at e4 e6
   have hoo:oo=0:=by rw [c3 (by omega)];simp
   subst hoo
   rw [Nat.sub_zero] at c2
   have olds:LRel w I ι H 1 (cs.toList.take (ob.rows.length*1)) ob.rows:=by
    intro i' r hi' k a' hk'
    obtain ⟨u,q1,q2,q3⟩:=e6 i' r hi' k a' hk'
    have hk2:k < 1:=by rw [← p2 r (List.mem_of_getElem? hi')];exact(List.getElem?_eq_some_iff.1 hk').1
    have hi2:i' < ob.rows.length:=(List.getElem?_eq_some_iff.1 hi').1
    exact⟨u,by rw [List.getElem?_take,if_pos (by omega)];simpa using q1,q2,q3⟩
   have holen:(cs.toList.take (ob.rows.length*1)).length=ob.rows.length*1:=by simp;omega
   have hslen:(strCells s).length=s.size:=strCells_length s
   by_cases hroom:ob.rows.length+s.size≤cap
   ·have hrun:=run_append_room_string (P:=P) w T S o.type ob.ty i hT hS hi hsize b ob.rows.length cap cs e2 s hroom (by omega)
    obtain ⟨k2,k3⟩:=Rel.update (H':=H.set id ⟨ob.g+1,1,ob.ty,ob.rows++brows s.data.toList⟩) (ob':=⟨ob.g+1,1,ob.ty,ob.rows++brows s.data.toList⟩)
     (cs':=(cs.toList.take ob.rows.length++strCells s++cs.toList.drop (ob.rows.length+s.size)).toArray) hr hH c1 e2 (by simp) hosz.symm rfl (fun e=>by simp at e) (by
      simp only [List.size_toArray,List.length_append,List.length_take,List.length_drop,Array.length_toList,hslen,hosz]
      omega) (by simp only [List.length_append,hlen2];exact hroom) (by rw [hosz];exact hrl) (fun i' r hi' k a' hk'=>by
       have:=LRel.app (l3:=cs.toList.drop (ob.rows.length+s.size)) olds holen (strCells_rel (H:=H) s) i' r hi' k a' hk'
       rw [hosz]
       simpa [List.append_assoc] using this) h1 h2
    exact fin _ _ ι (by rw [c2];exact hrun) (.osl _ h1 (Nat.le_refl _) rfl fun _=>⟨Nat.zero_lt_one,by simp [hlen2],.inl ⟨b,cap,0,c1,by simp,fun _=>by simp⟩⟩) k2 k3
   have holds:∀ j v,(cs.toList.take ob.rows.length)[j]?=some v→w.cell? ((⟨b,0,none⟩:Addr).add j)=some v:=by
    intro j v hv
    rw [Addr.add_lit,Nat.zero_add,cell_of_row w b _ cs ob.ty (0,0) e2]
    rw [List.getElem?_take] at hv
    split at hv
    ·simpa using hv
    cases hv
   have hrun:=run_append_grow_string (P:=P) w T S o.type ob.ty i (.int .u8 0) hT hS hi hzi ⟨b,0,none⟩ ob.rows.length cap _ (by rw [hsize];simpa using holen) holds s (by omega) (by omega) (growslice_fits (by omega) (by rw [hby];omega))
   have hge:=grownCap_ge w (ob.rows.length+s.size) cap ob.ty
   have hcm:=grownCap_le_maxLen w (ob.rows.length+s.size) cap ob.ty hml
   have hz1:(Value.int IntKind.u8 0).cells.size=1:=rfl
   obtain ⟨k2,k3⟩:=Rel.place (H':=H.set id ⟨ob.g+1,1,ob.ty,ob.rows++brows s.data.toList⟩) (id:=id) (cap:=grownCap w (ob.rows.length+s.size) cap ob.ty) (ob':=⟨ob.g+1,1,ob.ty,ob.rows++brows s.data.toList⟩)
    (cs':=(cs.toList.take ob.rows.length).toArray++(strCells s).toArray++Builtin.zeroCells (Value.int .u8 0).cells (grownCap w (ob.rows.length+s.size) cap ob.ty - (ob.rows.length+s.size)))
    (w':=w.drew.alloc (.cells ((cs.toList.take ob.rows.length).toArray++(strCells s).toArray++Builtin.zeroCells (Value.int .u8 0).cells (grownCap w (ob.rows.length+s.size) cap ob.ty - (ob.rows.length+s.size))) ob.ty)) hr rfl rfl rfl rfl
    (fun o' ho'=>by rw [hH] at ho';cases ho';simp) Nat.zero_lt_one (by
     simp only [Array.size_append,List.size_toArray,size_zeroCells,hz1,hslen,List.length_take,Array.length_toList]
     omega) (by simp only [List.length_append,hlen2];exact hge) hcm hrl (fun i' r hi' k a' hk'=>by
      obtain ⟨u,q1,q2,q3⟩:=LRel.app (l3:=(Builtin.zeroCells (Value.int .u8 0).cells (grownCap w (ob.rows.length+s.size) cap ob.ty - (ob.rows.length+s.size))).toList) olds holen (strCells_rel (H:=H) s) i' r hi' k a' hk'
      refine⟨u,?_,q2,q3⟩
      rw [← Array.getElem?_toList]
      simpa [List.append_assoc] using q1) h1 h2
   exact fin _ _ _ (by rw [c2];exact hrun) (.osl _ h1 (Nat.le_refl _) rfl fun _=>⟨Nat.zero_lt_one,by simp [hlen2],.inl ⟨w.heap.size,_,0,by simp;rfl,by simp,fun _=>by simp⟩⟩) k2 k3
  rw [c1] at e1;cases e1
 have hnil:ob.rows=[]:=List.eq_nil_of_length_eq_zero c4
 by_cases h0:s.size=0
 ·have hb0:brows s.data.toList=[]:=List.eq_nil_of_length_eq_zero (by rw [hlen2];exact h0)
  have hrun:(Builtin.append_ #[T,S] o.type #[.slice none 0 0,.string s]).run P w=.ok (.slice none 0 0) w:=by
   have hf:=run_firstCells_string (P:=P) w 1 s
   rw [h0] at hf
   simp [Builtin.append_,run_underlying hT,run_underlying hS,sizeOf,typeInfo,hi,hsize,Builtin.lenOf,h0,hf]
  obtain ⟨k2,k3⟩:=Rel.tick (H':=H.set id ⟨ob.g+1,1,ob.ty,ob.rows++brows s.data.toList⟩) (ob':=⟨ob.g+1,1,ob.ty,ob.rows++brows s.data.toList⟩) hr hH (by simp) hosz.symm rfl (by simp [hb0]) h1 h2
  exact fin _ _ ι (by rw [c2];exact hrun) (.osl _ h1 (Nat.le_refl _) rfl fun _=>⟨Nat.zero_lt_one,by simp [hlen2],.inr ⟨c1,rfl,rfl,by simp [hnil,h0]⟩⟩) k2 k3
 have hr0:=run_append_nil_string (P:=P) w T S o.type ob.ty i (.int .u8 0) hT hS hi hzi s (by omega) (by omega) (by rw [hby];omega)
 have hslen:(strCells s).length=s.size:=strCells_length s
 have e1:(s.data.map fun b=>Value.int .u8 b.toNat)=(strCells s).toArray:=by
  apply Array.ext'
  simp [strCells]
 rw [e1] at hr0
 have hml0:s.size≤maxLen:=by omega
 have hge:=grownCap_ge w s.size 0 ob.ty
 have hcm:=grownCap_le_maxLen w s.size 0 ob.ty hml0
 have hz1:(Value.int IntKind.u8 0).cells.size=1:=rfl
 obtain ⟨k2,k3⟩:=Rel.place (H':=H.set id ⟨ob.g+1,1,ob.ty,ob.rows++brows s.data.toList⟩) (id:=id) (cap:=grownCap w s.size 0 ob.ty) (ob':=⟨ob.g+1,1,ob.ty,ob.rows++brows s.data.toList⟩)
  (cs':=(strCells s).toArray++Builtin.zeroCells (Value.int .u8 0).cells (grownCap w s.size 0 ob.ty - s.size))
  (w':=w.drew.alloc (.cells ((strCells s).toArray++Builtin.zeroCells (Value.int .u8 0).cells (grownCap w s.size 0 ob.ty - s.size)) ob.ty)) hr rfl rfl rfl rfl
  (fun o' ho'=>by rw [hH] at ho';cases ho';simp) Nat.zero_lt_one (by
   simp only [Array.size_append,List.size_toArray,size_zeroCells,hz1,hslen]
   omega) (by simp only [List.length_append,hlen2,hnil,List.length_nil,Nat.zero_add];exact hge) hcm hrl (fun i' r hi' k a' hk'=>by
    simp only [hnil,List.nil_append] at hi'
    obtain ⟨u,q1,q2,q3⟩:=strCells_rel (w:=w) (I:=I) (ι:=ι) (H:=H) s i' r hi' k a' hk'
    have hlt:=(List.getElem?_eq_some_iff.1 q1).1
    refine⟨u,?_,q2,q3⟩
    rw [Array.getElem?_append_left (by simpa using hlt)]
    simpa using q1) h1 h2
 exact fin _ _ _ (by rw [c2];exact hr0) (.osl _ h1 (Nat.le_refl _) rfl fun _=>⟨Nat.zero_lt_one,by simp [hlen2],.inl ⟨w.heap.size,_,0,by simp;rfl,by simp [hnil],fun _=>by simp⟩⟩) k2 k3
/-- The rule in the form in which a walk uses it. -/
theorem x_append_str {e:TypeId} {id g n k:Nat} {ob:Ob} {s:ByteArray} {rows':List (List AV)} (ho:o.op=.call {callee:=.builtin .append,args:=#[x,y],argTypes:=#[T,S]}) (hSl:SliceOf P T e 1) (hS:P.underlying S=some .string) (hinf:EI P e 1 1) (hz0:∀ i,P.info? e=some i→i.zero=some (.int .u8 0))
  (hx:aeval E x=some (.osl id g 0 n)) (hH:H.get id=some ob) (hg:ob.g=g) (hosz:ob.sz=1) (hty:ob.ty=e) (hn:ob.rows.length=n)
  (hy:aeval E y=some (.pv (.str s))) (hmax:n+s.size≤140737488355328) (hk:n+s.size=k) (hrows:ob.rows++brows s.data.toList=rows') :
  OpD P N o E H (.osl id (g+1) 0 k) ((id,⟨g+1,1,e,rows'⟩)::H):=by
 subst hk hrows
 exact OpD.congr (opd_append_str ho hSl.1 hS hinf.1 hz0 hx hH hg hosz hty hn hy hmax rfl) (fun j=>set_cons _ _ _ j)
end
end
end Go.Abs
namespace Go.Abs
section
def isPtr (v:Value):Prop:=∃ p,v=.pointer p
theorem liesAt_self {P:Program} {e:TypeId} {s:Nat} (hc:P.cellsOf e=s+1) (count:Nat) (hn:1≤count):liesAt P P.depth e count 0 e 1=true:=by
 have hd:P.depth=(2*(P.types.size+Made.depth)+1)+1:=rfl
 rw [hd]
 simp only [liesAt,Bool.or_eq_true]
 left
 rw [hd]
 simp [rowAt,hc,hn,sameLayout]
theorem ref_shape {I:Nat→Prop} {ι:Plc} {H:Heap} {w:World} {v:Value} {id g:Nat} {ob:Ob} (hr:Rel I ι H w) (h:VRel w I ι H v (.ref id g 0 0)) (hH:H.get id=some ob) (hg:ob.g=g) (hne:ob.rows≠[]) :
  ∃ b cap,v=.pointer (some ⟨b,0,none⟩)∧w.shape? b=some (ob.ty,cap*ob.sz)∧0 < cap∧0 < ob.sz:=by
 obtain ⟨b,cap,e1,e2⟩:=ref_ptr h hH hg
 have hz:=ref_sz h hH hg
 obtain ⟨_,_,⟨b',cap',cs,f1,f2,f3,f4,f5,_⟩|⟨f1,_⟩⟩:=(hr.obj id ob hH).cells hz
 ·rw [e1] at f1;cases f1
  refine⟨b,cap,by rw [e2];simp,by simp [World.shape?,f2,f4],?_,hz⟩
  have:0 < ob.rows.length:=List.length_pos_iff.2 hne
  omega
 rw [e1] at f1;cases f1
theorem VRel.sat_inv {w:World} {I:Nat→Prop} {ι:Plc} {H:Heap} {v:Value} {p:Value→Prop} (h:VRel w I ι H v (.pv (.sat p))):p v:=by
 have:=h.pv_inv
 cases this with
 | sat h1 h2=>exact h2
section
variable {P:Program} {N:Nat} {o:Oper} {E:Env} {H:Heap} {S T t t' e:TypeId} {x y:Operand} {id g n:Nat} {ob:Ob}
theorem info_size {P:Program} {t:TypeId} {n:Nat} (h:(P.info? t).map (·.size)=some n):∃ j,P.info? t=some j∧j.size=n:=by
 cases hi:P.info? t with
 | none=>rw [hi] at h;cases h
 | some j=>rw [hi] at h;exact⟨j,rfl,Option.some.inj h⟩
theorem opd_to_unsafe (ho:o.op=.convert S T x) (hS:P.underlying S=some (.pointer t)) (hT:P.underlying T=some .unsafePointer) (hi:(P.info? t).map (·.size)=some (n+1)) (hx:aeval E x=some (.ref id g 0 0)) (hH:H.get id=some ob) (hg:ob.g=g) (hne:ob.rows≠[]):OpD P N o E H (.ref id g 0 0) H :=
 .of_run fun a w I ι hr he=>by
  have hv:=aeval_rel he hx
  obtain ⟨b,cap,e1,e2,e3,e4⟩:=ref_shape hr hv hH hg hne
  obtain ⟨j,h1,h2⟩:=info_size hi
  rw [e1] at hv
  have hpos:0 < cap*ob.sz:=Nat.mul_pos e3 e4
  refine⟨_,?_,hv⟩
  simp only [execOp,ho,e1]
  rw [Sem.run_bind,Lib.run_to_unsafe w ⟨b,0,none⟩ hS hT h1 (by omega) e2 hpos]
  rfl
theorem opd_from_unsafe (ho:o.op=.convert S T x) (hS:P.underlying S=some .unsafePointer) (hT:P.underlying T=some (.pointer t)) (hi:(P.info? t).map (·.size)=some (n+1)) (hx:aeval E x=some (.ref id g 0 0)) (hH:H.get id=some ob) (hg:ob.g=g) (hne:ob.rows≠[]) (hty:ob.ty=t) (hsz:ob.sz=n+1):OpD P N o E H (.ref id g 0 0) H :=
 .of_run fun a w I ι hr he=>by
  have hv:=aeval_rel he hx
  obtain ⟨b,cap,e1,e2,e3,e4⟩:=ref_shape hr hv hH hg hne
  obtain ⟨j,h1,h2⟩:=info_size hi
  rw [e1] at hv
  have hc:P.cellsOf t=n+1:=by simp [Program.cellsOf,h1,h2]
  refine⟨_,?_,hv⟩
  simp only [execOp,ho,e1]
  rw [hty] at e2
  rw [Sem.run_bind,Lib.run_from_unsafe w ⟨b,0,none⟩ hS hT h1 e2 (liesAt_self hc _ (by rw [hc,hsz,Nat.mul_div_cancel _ (by omega)];exact e3))]
  rfl
theorem opd_pne_same {i k:Nat} (ho:o.op=.binOp .neq t x y t') (ht:P.underlying t=some (.pointer e)) (hi:(P.info? e).map (·.size)=some (n+1)) (hx:aeval E x=some (.ref id g i k)) (hy:aeval E y=some (.ref id g i k)) (hH:H.get id=some ob) (hg:ob.g=g):OpD P N o E H (.pv (.bool false)) H :=
 .of_run fun a w I ι _ he=>⟨.bool false,by
  obtain ⟨b,cap,q1,e1⟩:=ref_ptr (aeval_rel he hx) hH hg
  obtain ⟨b',cap',q2,e2⟩:=ref_ptr (aeval_rel he hy) hH hg
  rw [q1] at q2;cases q2
  obtain ⟨j,h1,h2⟩:=info_size hi
  simp only [execOp,ho,e1,e2,eqGuard_at_pointer,Sem.run_bind,Sem.run_pure,Result.andThen_ok,Lib.run_neq_ptr_same w _ ht h1],.pv (.bool _)⟩
theorem ext_same (v:AV):ExtR P Extern.AbiNoEscape.same H [v] v:=by
 intro w I ι cs hl h
 obtain ⟨l⟩:=cs
 match l,hl with
 | [u],_=>exact⟨u,rfl,h 0 u v rfl rfl⟩
/-- The pointer to the bytes of an owned slice. -/
theorem opd_sliceData (ho:o.op=.call {callee:=.builtin .unsafeSliceData,args:=#[x],argTypes:=#[T]}) (hx:aeval E x=some (.osl id g 0 n)) (hH:H.get id=some ob) (hg:ob.g=g) (hn:0 < n):OpD P N o E H (.ref id g 0 0) H :=
 .of_run fun a w I ι hr he=>by
  have hv:=aeval_rel he hx
  have hz:=osl_sz hv hH hg
  obtain ⟨hl,⟨b,cap,oo,e1,e2,e3⟩|⟨_,_,_,e4⟩⟩:=osl_slice hv hH hg
  ·obtain ⟨_,_,⟨b',cap',cs,f1,f2,f3,f4,f5,_⟩|⟨f1,_⟩⟩:=(hr.obj id ob hH).cells hz
   ·rw [e1] at f1;cases f1
    obtain rfl:oo=0:=by rw [e3 (.inr rfl)];simp
    refine⟨.pointer (some ⟨b,0,none⟩),?_,.ref ob hH (Nat.le_of_eq hg.symm) rfl fun _=>⟨hz,b,cap,e1,by simp⟩⟩
    have hc:cap≠0:=by omega
    simp [execOp,ho,resolve,invoke,builtin,e2,Lib.run_unsafeSliceData_row w _ _ _ _ _ hc]
   rw [e1] at f1;cases f1
  omega
/-- .. of a slice of no bytes. -/
theorem opd_sliceData0 (ho:o.op=.call {callee:=.builtin .unsafeSliceData,args:=#[x],argTypes:=#[T]}) (hp:P.underlying o.type=some (.pointer e)) (hx:aeval E x=some (.osl id g 0 0)) (hH:H.get id=some ob) (hg:ob.g=g):OpD P N o E H (.pv (.sat isPtr)) H:=by
 intro a w I ι _ _ hr he K Q hk
 have hv:=aeval_rel he hx
 have hz:=osl_sz hv hH hg
 have fin:∀ (c:Value) (w':World),(Builtin.unsafeSliceData_ #[T] o.type #[a.eval x]).run P w=.ok c w'→isPtr c→Rel I ι H w'→Step I ι H w I ι H w'→o.wpW P a w K Q:=fun c w' hrun hc k1 k2=>by
  have hone:c.oneCell'=true:=by obtain ⟨p,rfl⟩:=hc;rfl
  unfold Oper.wpW
  have:(execOp a.eval o).run P w=.ok (.value c) w':=by
   simp [execOp,ho,resolve,invoke,builtin,hrun]
  rw [this]
  exact hk c w' I ι _ H ⟨rfl,rfl⟩ (.pv (.sat hone hc)) k1 k2
 obtain ⟨hl,⟨b,cap,oo,e1,e2,e3⟩|⟨_,e2,_,e4⟩⟩:=osl_slice hv hH hg
 ·by_cases hc:cap=0
  ·obtain ⟨_,_,⟨b',cap',cs,f1,f2,f3,f4,f5,_⟩|⟨f1,_⟩⟩:=(hr.obj id ob hH).cells hz
   ·rw [e1] at f1;cases f1
    obtain ⟨k1,k2⟩:=hr.push (.view ⟨b,oo,none⟩ e)
    refine fin (.pointer (some ⟨w.heap.size,0,none⟩)) _ ?_ ⟨_,rfl⟩ k1 k2
    rw [e2,hc]
    exact Lib.run_unsafeSliceData_zero w #[T] o.type e hp ⟨b,oo,none⟩ 0 (ob.ty,cs.size) (by simp [World.shape?,f2])
   rw [e1] at f1;cases f1
  refine fin (.pointer (some ⟨b,oo,none⟩)) _ ?_ ⟨_,rfl⟩ hr (Step.refl _ _ _ _)
  rw [e2]
  exact Lib.run_unsafeSliceData_row w #[T] o.type ⟨b,oo,none⟩ 0 _ (by omega)
 refine fin (.pointer none) _ ?_ ⟨_,rfl⟩ hr (Step.refl _ _ _ _)
 rw [e2]
 exact Lib.run_unsafeSliceData_nil w #[T] o.type 0 0
theorem opd_unsafeString0 {T2:TypeId} (ho:o.op=.call {callee:=.builtin .unsafeString,args:=#[x,y],argTypes:=#[T,T2]}) (hx:aeval E x=some (.pv (.sat isPtr))) (hy:aeval E y=some (.pv (.int .i64 0))):OpD P N o E H (.pv (.str ⟨#[]⟩)) H :=
 .of_run fun a w I ι hr he=>by
  have h2:=(aeval_rel he hy).int_inv
  have h1:=(aeval_rel he hx).sat_inv
  obtain ⟨p,hp⟩:=h1
  refine⟨_,?_,.pv (.str _)⟩
  simp [execOp,ho,resolve,invoke,builtin,hp,h2,Lib.run_unsafeString_none w T T2 o.type p]
  rfl
/-- An object is given up; its block turns. -/
theorem Rel.lost {I:Nat→Prop} {ι:Plc} {w w':World} {b cap:Nat} (hr:Rel I ι H w) (hH:H.get id=some ob) (hz:0 < ob.sz) (hι:ι id=some (b,cap)) (hos:w'.os=w.os) (htape:w'.tape=w.tape) (hout:w'.output=w.output) (hsize:w'.heap.size=w.heap.size)
  (hw:∀ c,c≠b→w'.heap[c]?=w.heap[c]?):Rel I (away ι id) ((id,gone ob)::H) w'∧Step I ι H w I (away ι id) ((id,gone ob)::H) w':=by
 have hown:Own ι H b:=⟨id,ob,cap,hH,hι⟩
 have hst:Step I ι H w I (away ι id) ((id,gone ob)::H) w':=by
  refine⟨hos,htape,hout,by omega,fun a _ hn=>?_,fun _ h=>h,fun _ h=>.inl h,fun c hc=>?_,fun c _ hn=>hw c (fun e=>hn (e▸hown)),fun j o hj=>?_⟩
  ·unfold World.frozen?
   rw [hw a.block (fun e=>hn (by rw [e];exact hown))]
  ·obtain ⟨j,o,cp,hj,hi⟩:=hc
   by_cases e:j=id
   ·rw [away,if_pos e] at hi;cases hi
   rw [away,if_neg e] at hi
   rw [get_cons_other _ _ e] at hj
   exact .inl ⟨j,o,cp,hj,hi⟩
  by_cases e:j=id
  ·subst e
   rw [hH] at hj;cases hj
   exact⟨gone ob,get_cons_same _ _ _,Nat.le_succ _,fun h=>absurd h (by simp [gone])⟩
  exact⟨o,by rw [get_cons_other _ _ e];exact hj,Nat.le_refl _,fun _=>⟨if_neg e,rfl,fun _=>Nat.le_refl _⟩⟩
 refine⟨⟨fun c hc=>by rw [hsize];exact hr.imm c hc,fun j o hj=>?_,fun j j' o o' c d d' hj hj' hi hi'=>?_,hst.glob hr⟩,hst⟩
 ·by_cases e:j=id
  ·subst e
   rw [get_cons_same] at hj;cases hj
   exact .inl ⟨hz,by simp [gone],.inr ⟨if_pos rfl,rfl⟩⟩
  rw [get_cons_other _ _ e] at hj
  exact(hr.obj j o hj).keep (if_neg e) (fun c d e1 _=>⟨hw c (fun hc=>e (hr.inj j id o ob b d cap hj hH (by rw [← hc];exact e1) hι)),fun h=>h⟩) (fun r _ a _ v hv=>hv.mono hr hst)
 have n1:j≠id:=fun e=>by rw [away,if_pos e] at hi;cases hi
 have n2:j'≠id:=fun e=>by rw [away,if_pos e] at hi';cases hi'
 rw [away,if_neg n1] at hi
 rw [away,if_neg n2] at hi'
 rw [get_cons_other _ _ n1] at hj
 rw [get_cons_other _ _ n2] at hj'
 exact hr.inj j j' o o' c d d' hj hj' hi hi'
/-- The string that shares the bytes of a row: the row is given up. -/
theorem opd_unsafeString {T2:TypeId} {l:List UInt8} {s:ByteArray} (ho:o.op=.call {callee:=.builtin .unsafeString,args:=#[x,y],argTypes:=#[T,T2]}) (hT:P.underlying T=some (.pointer e)) (hi:(P.info? e).map (·.size)=some 1) (hx:aeval E x=some (.ref id g 0 0)) (hy:aeval E y=some (.pv (.int .i64 n)))
  (hH:H.get id=some ob) (hg:ob.g=g) (hsz:ob.sz=1) (hty:ob.ty=e) (hrows:ob.rows=brows l) (hl:l.length=n) (hn:0 < n) (hn2:n≤9223372036854775807) (hs:(⟨l.toArray⟩:ByteArray)=s):OpD P N o E H (.pv (.str s)) ((id,gone ob)::H):=by
 subst hs hl
 intro a w I ι _ _ hr he K Q hk
 have hv:=aeval_rel he hx
 obtain ⟨b,cap,e1,e2⟩:=ref_ptr hv hH hg
 have h2:=(aeval_rel he hy).int_inv
 obtain ⟨j,h3,h4⟩:=info_size hi
 have hc:P.cellsOf e=1:=by simp [Program.cellsOf,h3,h4]
 have hlen:ob.rows.length=l.length:=by rw [hrows];simp [brows]
 obtain ⟨_,_,⟨b',cap',cs,f1,f2,f3,f4,f5,_,f6⟩|⟨f1,_⟩⟩:=(hr.obj id ob hH).cells (by omega)
 ·rw [e1] at f1;cases f1
  rw [hsz,Nat.mul_one] at f4
  have hcell:∀ j x,l[j]?=some x→w.cell? ((⟨b,0,none⟩:Addr).add j)=some (.int .u8 x.toNat):=fun j x hj=>by
   obtain ⟨v,q1,_,q3⟩:=f6 j [.pv (.int .u8 x.toNat)] (by rw [hrows,brows,List.getElem?_map,hj];rfl) 0 _ rfl
   rw [hsz,Nat.mul_one,Nat.add_zero,q3.int_inv] at q1
   rw [Addr.add_lit,Nat.zero_add,cell_of_row w b _ cs ob.ty (0,0) f2]
   exact q1
  have hrun:=Lib.run_unsafeString_row (P:=P) w T T2 o.type e hT hc b cs.size (by rw [← hty];simp [World.shape?,f2]) l (fun h0=>by rw [h0] at hn;exact Nat.lt_irrefl _ hn) (by omega) hn2 hcell
  have hw:∀ c,c≠b→(w.freeze ⟨b,0,none⟩ l.length).heap[c]?=w.heap[c]?:=fun c hcb=>by
   unfold World.freeze
   split
   ·rfl
   simp only [Array.getElem?_modify]
   rw [if_neg (fun h=>hcb h.symm)]
  obtain ⟨k1,k2⟩:=hr.lost (w':=w.freeze ⟨b,0,none⟩ l.length) hH (by omega) e1 (by unfold World.freeze;split<;>rfl) (by unfold World.freeze;split<;>rfl) (by unfold World.freeze;split<;>rfl) (by unfold World.freeze;split<;>simp) hw
  unfold Oper.wpW
  have:(execOp a.eval o).run P w=.ok (.value (.string ⟨l.toArray⟩)) (w.freeze ⟨b,0,none⟩ l.length):=by
   rw [hsz] at e2
   simp [execOp,ho,resolve,invoke,builtin,e2,h2,hrun]
  rw [this]
  exact hk _ _ I (away ι id) _ _ ⟨rfl,rfl⟩ (.pv (.str _)) k1 k2
 rw [e1] at f1;cases f1
end
end
section
theorem nils_inv {w:World} {I:Nat→Prop} {ι:Plc} {H:Heap} {v:Value} (h:VRel w I ι H v (.pv .nils)):v=.slice none 0 0:=by
 have:=h.pv_inv
 cases this;rfl
section
variable {P:Program} {N:Nat} {o:Oper} {E:Env} {H:Heap} {S T t t' e:TypeId} {x y:Operand} {id g n:Nat} {ob:Ob}
theorem opd_cap_nils (ho:o.op=.call {callee:=.builtin .cap,args:=#[x],argTypes:=#[T]}) (ht:P.underlying T=some (.slice e)) (hx:aeval E x=some (.pv .nils)):OpD P N o E H (.pv (.int .i64 0)) H :=
 .of_run fun a w I ι _ he=>⟨.int .i64 0,by
  have e1:=nils_inv (aeval_rel he hx)
  simp [execOp,ho,resolve,invoke,builtin,e1,Builtin.cap_,run_underlying ht,goInt],.pv (.int _ _)⟩
theorem opd_len_nils (ho:o.op=.call {callee:=.builtin .len,args:=#[x],argTypes:=#[T]}) (ht:P.underlying T=some (.slice e)) (hx:aeval E x=some (.pv .nils)):OpD P N o E H (.pv (.int .i64 0)) H :=
 .of_run fun a w I ι _ he=>⟨.int .i64 0,by
  have e1:=nils_inv (aeval_rel he hx)
  simp [execOp,ho,resolve,invoke,builtin,e1,Builtin.len_,run_underlying ht,goInt],.pv (.int _ _)⟩
theorem src_of_nils {sz:Nat} (hy:aeval E y=some (.pv .nils)):SrcOk E H sz y 0 []:=fun a w I ι hr he=>.inr ⟨nils_inv (aeval_rel he hy),rfl,rfl⟩
/-- A slice that is cut: its object loses the rest. -/
theorem x_slice_cut {lo hi:Option Operand} {len h sz k:Nat} {rows':List (List AV)} (ho:o.op=.slice T x lo hi none) (hS:SliceOf P T e sz) (hx:aeval E x=some (.osl id g 0 len))
  (hH:H.get id=some ob) (hg:ob.g=g) (hsz:ob.sz=sz) (hlo:bnd E lo 0=some ((0:Nat):Int)) (hhi:bnd E hi len=some (h:Int)) (h2:h≤len) (hk:g+1=k) (hrows:ob.rows.take h=rows'):OpD P N o E H (.osl id k 0 h) ((id,⟨k,sz,ob.ty,rows'⟩)::H):=by
 subst hk hrows hsz
 intro a w I ι h1 h1' hr he K Q hkk
 refine opd_slice_osl ho hS.1 hS.2.1 hx hH hg rfl hlo hhi (Nat.zero_le _) h2 rfl (Nat.sub_zero h) a w I ι h1 h1' hr he K Q ?_
 rintro c w' I' ι' r H' ⟨rfl,rfl⟩ hv hr' hst
 have hz:=osl_sz hv hH hg
 obtain ⟨q1,q2⟩:=osl_slice hv hH hg
 obtain ⟨k2,k3⟩:=Rel.cut (k:=g+1) (n:=h) (H':=(id,⟨g+1,ob.sz,ob.ty,ob.rows.take h⟩)::H') hr' hH (by omega) hz (get_cons_same _ _ _) (fun j hj=>get_cons_other _ _ hj)
 have hone:c.oneCell'=true:=by
  rcases q2 with⟨b,cap,oo,_,e,_⟩|⟨_,e,_⟩<;>subst e<;>rfl
 exact hkk c w' I' ι' _ _ ⟨rfl,rfl⟩ (.osl _ (get_cons_same _ _ _) (Nat.le_refl _) hone fun _=>⟨hz,by simp only [List.length_take];omega,q2⟩) k2 (hst.trans k3)
theorem digits_one:∀ (n t:Nat) (acc:Array Value),(∀ v∈acc.toList,v.oneCell'=true)→∀ v∈(Extern.BytealgMakeNoZero.digits n t acc).toList,v.oneCell'=true
 | 0,_,_,h=>h
 | n+1,t,acc,h=>by
  rw [Extern.BytealgMakeNoZero.digits]
  refine digits_one n _ _ fun v hv=>?_
  rw [Array.toList_push,List.mem_append,List.mem_singleton] at hv
  rcases hv with hv|rfl
  ·exact h v hv
  rfl
theorem run_noZero (w:World) (ps:Array TypeId) (t e:TypeId) (ht:P.underlying t=some (.slice e)) (n:Nat) (hn:n≤281474976710656) :
  ∃ cs:Array Value,(Extern.BytealgMakeNoZero.makeNoZero ps #[t] #[.int .i64 n]).run P w=.ok (.slice (some ⟨w.heap.size,0,none⟩) n cs.size) (w.drew.drew.alloc (.cells cs e))∧n≤cs.size∧(n≤maxLen→cs.size≤maxLen)∧∀ v∈cs.toList,v.oneCell'=true:=by
 have hdef:Extern.BytealgMakeNoZero.makeNoZero ps #[t] #[.int .i64 n] =
   (do
    let .slice elem ← underlying t|stuck "bytealg.MakeNoZero: slice type expected"
    if(n:Int) < 0||(n:Int) > 2 ^ 48 then runtimePanic (.error "makeslice: len out of range")
    let cap ← choose (.appendCap (n:Int).toNat 0 elem)
    askRoom cap
    let bytes ← choose (.extern "internal/bytealg.MakeNoZero.bytes" 0)
    let a ← newRow elem (Extern.BytealgMakeNoZero.digits cap bytes #[])
    pure (.slice (some a) (n:Int).toNat cap)):=rfl
 refine⟨Extern.BytealgMakeNoZero.digits (grownCap w n 0 e) ((Question.extern "internal/bytealg.MakeNoZero.bytes" 0).cut (w.tape (w.drawn+1) (.extern "internal/bytealg.MakeNoZero.bytes" 0))) #[],?_,?_,?_,?_⟩
 ·rw [hdef]
  have h1:¬ (n:Int) < 0:=by omega
  have h2:¬ (281474976710656:Int) < (n:Int):=by omega
  simp [run_underlying ht,h1,h2,Question.forced,newRow,Lib.size_digits,grownCap]
 ·rw [Lib.size_digits]
  simpa using grownCap_ge w n 0 e
 ·intro hm
  rw [Lib.size_digits]
  simpa using grownCap_le_maxLen w n 0 e hm
 exact digits_one _ _ _ (by simp)
/-- New bytes, whatever they are. -/
theorem opd_noZero {f:Operand} {at_:Array TypeId} {F:FuncId} {fn:Func} {ps:Array TypeId} {m:Int} (ho:o.op=.call {callee:=.value f,args:=#[x],argTypes:=at_}) (hf:aeval E f=some (.pv (.fn F))) (hF:P.funcs[F]?=some fn) (hname:(fn.name == "runtime.NumGoroutine")=false)
  (hb:fn.body.isNone=true) (hn:Extern.findNext fn=none) (he:Extern.find fn=some (Extern.BytealgMakeNoZero.makeNoZero ps #[t])) (ht:P.underlying t=some (.slice e)) (hx:aeval E x=some (.pv (.int .i64 m))) (hm:m=(n:Int)) (hml:n≤140737488355328) (hid:H.get id=none) :
  OpD P N o E H (.osl id 0 0 n) ((id,⟨0,1,e,List.replicate n [.any]⟩)::H):=by
 subst hm
 intro a w I ι _ _ hr hE K Q hk
 have hfv:=(aeval_rel hE hf).fn_inv
 have hxv:=(aeval_rel hE hx).int_inv
 obtain ⟨cs,e1,e2,e3,e4⟩:=run_noZero (P:=P) w ps t e ht n (by omega)
 have hrd:=Rel.drawn (w':=w.drew.drew) hr rfl rfl rfl rfl
 obtain ⟨d1,d2⟩:=hrd
 obtain ⟨k1,k2⟩:=Rel.place (H':=(id,⟨0,1,e,List.replicate n [.any]⟩)::H) (id:=id) (cap:=cs.size) (ob':=⟨0,1,e,List.replicate n [.any]⟩) (cs':=cs) (w':=w.drew.drew.alloc (.cells cs e)) d1 rfl rfl rfl rfl
  (fun o' ho'=>by rw [hid] at ho';cases ho') Nat.zero_lt_one (by simp) (by simpa using e2) (e3 (Nat.le_trans hml (by decide))) (fun r hr'=>by obtain ⟨_,rfl⟩:=List.mem_replicate.1 hr';rfl) (fun i r hi k b hk'=>by
   rw [List.getElem?_replicate] at hi
   split at hi
   ·cases hi
    cases k with
    | zero =>
     cases hk'
     have hlt:i*1+0 < cs.size:=by omega
     exact⟨cs[i*1+0],Array.getElem?_eq_getElem hlt,e4 _ (Array.getElem_mem_toList hlt),.any _⟩
    | succ k=>simp at hk'
   cases hi) (get_cons_same _ _ _) (fun j hj=>get_cons_other _ _ hj)
 unfold Oper.wpW
 have hrun:(execOp a.eval o).run P w=.ok (.value (.slice (some ⟨w.heap.size,0,none⟩) n cs.size)) (w.drew.drew.alloc (.cells cs e)):=by
  unfold execOp
  simp only [ho,resolve,hfv,Deferred.ofValue,Sem.run_bind,Sem.run_pure,Result.andThen_ok,invoke,Array.empty_append,Array.append_empty,run_callFunc_extern hF hname hb hn he]
  simp [hxv,e1]
 rw [hrun]
 exact hk _ _ I _ _ _ ⟨rfl,rfl⟩ (.osl ⟨0,1,e,List.replicate n [.any]⟩ (get_cons_same _ _ _) (Nat.le_refl _) rfl fun _=>⟨Nat.zero_lt_one,by simp,.inl ⟨w.heap.size,cs.size,0,by simp,by simp,fun _=>by simp⟩⟩) k1 (d2.trans k2)
end
end
end Go.Abs
namespace Go.Proofs.YtlnfjkdacimblaaGreatDoor
open Go.Abs
section
/-- A builder (object 2001), its bytes (object 2002). -/
def bAddr (u:Bool):AV:=if u then .ref 2001 0 0 0 else .pv .nilp
def bObT (buf:AV) (u:Bool):Ob:=⟨0,2,62,[[bAddr u,buf]]⟩
def bld (g:Nat) (l:List UInt8) (u:Bool):Heap:=[(2001,bObT (.osl 2002 g 0 l.length) u),(2002,⟨g,1,5,brows l⟩)]
theorem brows_len (l:List UInt8):(brows l).length=l.length:=by simp [brows]
theorem brows_clo (H:Heap) (l:List UInt8):∀ r∈brows l,∀ a∈r,Clo H a:=by
 intro r hr a ha
 obtain ⟨b,_,rfl⟩:=List.mem_map.1 hr
 rw [List.mem_singleton] at ha
 subst ha
 simp
theorem brows_app (l m:List UInt8):brows l++brows m=brows (l++m):=by simp [brows]
theorem bOb_cloT {H:Heap} {g n:Nat} {u:Bool} (h1:(H.get 2001).isSome=true) (h2:(H.get 2002).isSome=true):∀ r∈(bObT (.osl 2002 g 0 n) u).rows,∀ a∈r,Clo H a:=by
 intro r hr a ha
 simp only [bObT,List.mem_singleton] at hr
 subst hr
 simp only [List.mem_cons,List.not_mem_nil,or_false] at ha
 rcases ha with rfl|rfl
 ·cases u<;>simp [bAddr,h1]
 simp [h2]
/-- copyCheck. -/
theorem copyCheck_c (buf:AV) (u:Bool) (K:Heap):ACalls Tryz.prog 72 [.ref 2001 0 0 0] ((2001,bObT buf u)::K) (fun r H'=>r=.tup []∧H'=(2001,bObT buf true)::K):=by
 cases u with
 | false =>
  refine Bd Tryz.func72 rfl Tryz.ntmps72<|Sq<|Rg<|Dd mv'<|Dd nc'<|Dd (fr' fo62_0)<|Dd (l1' Tryz.isAgg60)<|Dd (by exact opd_peq_nil rfl Tryz.underlying60 rfl rfl)<|Zz ?_
  refine Cn (fun hc1=>?_) fun hc1=>?_
  ·skip
   refine Rg<|Dd mv'<|Dd mv'<|Dd (by exact opd_to_unsafe (n:=1) rfl Tryz.underlying60 Tryz.underlying166 (by kernel_rfl) rfl rfl rfl (by simp [bObT]))<|Dd (by exact opd_ext rfl rfl Tryz.func128 rfl rfl rfl rfl rfl (ext_same (.ref 2001 0 0 0)))<|Dd (by exact opd_from_unsafe (n:=1) rfl Tryz.underlying166 Tryz.underlying60 (by kernel_rfl) rfl rfl rfl (by simp [bObT]) rfl rfl)<|Dd nc'<|Dd (fr' fo62_0)<|Uu (by exact x_store1 rfl Tryz.sizeOf60 rfl rfl rfl rfl rfl rfl (Nat.le_of_ble_eq_true rfl) rfl rfl)<|Zz ?_
   exact aret0 (.inl rfl) rfl (Fin.get' (H':=(2001,bObT buf true)::K) (fun j=>get_dup 2001 (bObT buf true) (bObT buf false) K j)) ⟨rfl,rfl⟩
  skip
  cases hc1
 | true =>
  refine Bd Tryz.func72 rfl Tryz.ntmps72<|Sq<|Rg<|Dd mv'<|Dd nc'<|Dd (fr' fo62_0)<|Dd (l1' Tryz.isAgg60)<|Dd (by exact opd_peq_ref rfl Tryz.underlying60 rfl rfl rfl rfl)<|Zz ?_
  refine Cn (fun hc1=>?_) fun hc1=>?_
  ·skip
   cases hc1
  skip
  refine Sq<|Rg<|Dd mv'<|Dd nc'<|Dd (fr' fo62_0)<|Dd (l1' Tryz.isAgg60)<|Dd mv'<|Dd (by exact opd_pne_same (n:=1) rfl Tryz.underlying60 (by kernel_rfl) rfl rfl rfl rfl)<|Zz ?_
  refine Cn (fun hc2=>?_) fun hc2=>?_
  ·skip
   cases hc2
  skip
  refine awp_skip ?_
  exact aret0 (.inl rfl) rfl Fin.refl ⟨rfl,rfl⟩
/-- Heaps with two objects, of which both were written anew. -/
theorem get_two {i j:Nat} {a b a' b':Ob} {K:Heap} (h:i≠j) (k:Nat):Heap.get ((i,a)::(j,b)::K) k=Heap.get ((i,a)::(j,b)::(i,a')::(j,b')::K) k:=by
 simp only [Heap.get]
 cases e1:Nat.beq i k with
 | true=>rfl
 | false=>cases e2:Nat.beq j k<;>simp
theorem zero_u8:∀ i,Tryz.prog.info? 5=some i→i.zero=some (.int .u8 0):=fun i hi=>by
 have h:(Tryz.prog.info? 5).map (·.zero)=some (some (.int .u8 0)):=by kernel_rfl
 rw [hi] at h
 exact Option.some.inj h
theorem bld_app (g:Nat) (l m:List UInt8) {n:Nat} (h:m.length=n):bld (g+1) (l++m) true=[(2001,bObT (.osl 2002 (g+1) 0 (l.length+n)) true),(2002,⟨g+1,1,5,brows (l++m)⟩)]:=by
 subst h
 simp [bld]
theorem writeByte_c (g:Nat) (l:List UInt8) (u:Bool) (c:UInt8) (hl:l.length < 70368744177664):ACalls Tryz.prog 125 [.ref 2001 0 0 0,.pv (.int .u8 c.toNat)] (bld g l u) (fun r H'=>r=.pv nilI∧H'=bld (g+1) (l++[c]) true):=by
 refine Bd Tryz.func125 rfl Tryz.ntmps125<|Sq<|Rg<|Dd as'<|Zz<|Sq<|Rg<|Dd mv'<|Dd (by exact opr_call rfl rfl Tryz.call72 rfl (copyCheck_c _ u _))<|Zz<|Sq<|Rg<|Dd mv'<|Dd mv'<|Dd nc'<|Dd (fr' fo62_1)<|Dd (l1' Tryz.isAgg52)<|Dd mv'<|Dd (by exact x_buildSlice [[.int .u8 c.toNat]] rfl so52 rfl rfl rfl rfl rfl (by intro r hr;rw [List.mem_singleton] at hr;subst hr;rfl))<|Dd (by exact x_append (ps:=[[.int .u8 c.toNat]]) rfl so52 ei5 rfl rfl rfl rfl rfl (brows_len l) rfl (by intro r hr;rw [List.mem_singleton] at hr;subst hr;rfl) (m:=1) rfl (by omega) rfl (brows_app l [c]))<|Dd nc'<|Dd (fr' fo62_1)<|Uu (by exact x_store1 rfl Tryz.sizeOf52 rfl rfl rfl rfl rfl rfl (Nat.le_of_ble_eq_true rfl) rfl rfl)<|Zz<|Sq<|Rg<|Dd as'<|Zz<|awp_ret ?_
 rw [bld_app g l [c] (n:=1) rfl]
 refine aret1 (H':=[(2001,bObT (.osl 2002 (g+1) 0 (l.length+1)) true),(2002,⟨g+1,1,5,brows (l++[c])⟩)]) (.inr rfl) rfl (rval_tmp rfl) (Fin.get' (fun j=>get_two (by decide) j)) ?_
 exact⟨rfl,rfl⟩
theorem writeString_c (g:Nat) (l:List UInt8) (u:Bool) (s:ByteArray) (hl:l.length+s.size < 70368744177664):ACalls Tryz.prog 33 [.ref 2001 0 0 0,sv s] (bld g l u) (fun r H'=>r=.tup [iv (s.size:Int),.pv nilI]∧H'=bld (g+1) (l++s.data.toList) true):=by
 refine Bd Tryz.func33 rfl Tryz.ntmps33<|Sq<|Rg<|Dd as'<|Dd as'<|Zz<|Sq<|Rg<|Dd mv'<|Dd (by exact opr_call rfl rfl Tryz.call72 rfl (copyCheck_c _ u _))<|Zz<|Sq<|Rg<|Dd mv'<|Dd mv'<|Dd nc'<|Dd (fr' fo62_1)<|Dd (l1' Tryz.isAgg52)<|Dd mv'<|Dd (by exact x_append_str rfl so52 Tryz.underlying9 ei5 zero_u8 rfl rfl rfl rfl rfl (brows_len l) rfl (by omega) rfl (brows_app l s.data.toList))<|Dd nc'<|Dd (fr' fo62_1)<|Uu (by exact x_store1 rfl Tryz.sizeOf52 rfl rfl rfl rfl rfl rfl (Nat.le_of_ble_eq_true rfl) rfl rfl)<|Zz<|Sq<|Rg<|Dd mv'<|Dd (ls' Tryz.underlying9)<|Dd as'<|Dd as'<|Zz<|awp_ret ?_
 rw [bld_app g l s.data.toList (n:=s.size) rfl]
 refine aret2 (H':=[(2001,bObT (.osl 2002 (g+1) 0 (l.length+s.size)) true),(2002,⟨g+1,1,5,brows (l++s.data.toList)⟩)]) (.inr rfl) rfl (rval_tmp rfl) (rval_tmp rfl) (Fin.get' (fun j=>get_two (by decide) j)) ?_
 exact⟨rfl,rfl⟩
def bEnd (g:Nat) (l:List UInt8) (u:Bool):Heap:=[(2002,⟨g+1,1,5,[]⟩),(2001,bObT (.osl 2002 g 0 l.length) u)]
theorem get_mid {i j:Nat} {a b a':Ob} {K:Heap} (h:i≠j) (k:Nat):Heap.get ((i,a)::(j,b)::K) k=Heap.get ((i,a)::(j,b)::(i,a')::K) k:=by
 simp only [Heap.get]
 cases e1:Nat.beq i k with
 | true=>rfl
 | false=>cases e2:Nat.beq j k<;>simp
/-- The text of a builder; its bytes are given up. -/
theorem str_c (g:Nat) (l:List UInt8) (u:Bool) (hl:l.length < 70368744177664):ACalls Tryz.prog 35 [.ref 2001 0 0 0] (bld g l u) (fun r H'=>r=sv ⟨l.toArray⟩∧H'=bEnd g l u):=by
 by_cases h0:l=[]
 ·subst h0
  refine Bd Tryz.func35 rfl Tryz.ntmps35<|Sq<|Rg<|Dd as'<|Zz<|Sq ?_
  refine awp_drawc follows ?_
  refine Cq mv'<|Cq nc'<|Cq (fr' fo62_1)<|Cq (l1' Tryz.isAgg52)<|Cq (by exact opd_sliceData0 rfl Tryz.underlying123 rfl rfl rfl)<|Cq mv'<|Cq nc'<|Cq (fr' fo62_1)<|Cq (l1' Tryz.isAgg52)<|Cq (by exact opd_len_osl rfl Tryz.underlying52 rfl rfl rfl)<|Cq (by exact opd_unsafeString0 rfl rfl rfl)<|Cq as' ?_
  refine dc_nil ⟨by kernel_rfl,?_⟩
  refine awp_ret ?_
  refine aret1 (H':=(bEnd g [] u)) (.inr rfl) rfl (rval_tmp rfl) (Fin.trans (Fin.deadO (id:=2002) (k:=g+1) (ob:=⟨g,1,5,brows []⟩) rfl (Nat.lt_succ_self g) Nat.zero_lt_one rfl rfl) (Fin.get' (fun j=>get_mid (by decide) j))) ?_
  exact⟨rfl,rfl⟩
 have hpos:0 < l.length:=List.length_pos_iff.2 h0
 refine Bd Tryz.func35 rfl Tryz.ntmps35<|Sq<|Rg<|Dd as'<|Zz<|Sq ?_
 refine awp_drawc follows ?_
 refine Cr [2001] (fun _ _=>mv')<|Cr [2001] (fun H1 hH=>by exact opd_nilCheck_ref rfl rfl ((hH _ rfl).trans rfl) rfl)<|Cr [2001] (fun _ h=>fh fo62_1 h)<|Cr [2001] (fun _ h=>lh Tryz.isAgg52 h)<|Cr [2002] (fun H1 hH=>by exact opd_sliceData rfl rfl ((hH _ rfl).trans rfl) rfl hpos)<|Cr [2001] (fun _ _=>mv')<|Cr [2001] (fun H1 hH=>by exact opd_nilCheck_ref rfl rfl ((hH _ rfl).trans rfl) rfl)<|Cr [2001] (fun _ h=>fh fo62_1 h)<|Cr [2001] (fun _ h=>lh Tryz.isAgg52 h)<|Cr [2002] (fun H1 hH=>by exact opd_len_osl rfl Tryz.underlying52 rfl ((hH _ rfl).trans rfl) rfl)<|Cp [2001,2002] (fun H1 hH=>by exact opd_unsafeString (l:=l) rfl Tryz.underlying123 (by kernel_rfl) rfl rfl ((hH _ rfl).trans rfl) rfl rfl rfl rfl rfl hpos (by omega) rfl)<|Cr [] (fun _ _=>as') ?_
 refine dc_nil ⟨by kernel_rfl,?_⟩
 refine awp_ret ?_
 refine aret1 (H':=(bEnd g l u)) (.inr rfl) rfl (rval_tmp rfl) (Fin.get' (fun j=>get_mid (by decide) j)) ?_
 exact⟨rfl,rfl⟩
/-- A fresh builder. -/
def bFresh:Heap:=[(2001,bObT (.pv .nils) false)]
theorem grow_c (m n:Nat) (hn:m=n) (hl:n < 70368744177664):ACalls Tryz.prog 173 [.ref 2001 0 0 0,iv (n:Int)] [(2001,bObT (.pv .nils) true)] (fun r H'=>r=.tup []∧H'=bld 1 [] true):=by
 refine Bd Tryz.func173 rfl Tryz.ntmps173<|Sq ?_
 refine awp_drawc follows ?_
 refine Cr [2001] (fun _ _=>mv')<|Cr [2001] (fun H1 hH=>by exact opd_nilCheck_ref rfl rfl ((hH _ rfl).trans rfl) rfl)<|Cr [2001] (fun _ h=>fh fo62_1 h)<|Cr [2001] (fun _ h=>lh Tryz.isAgg52 h)<|Cr [] (fun H1 hH=>by exact opd_cap_nils rfl Tryz.underlying52 rfl)<|Cr [] (fun H1 hH=>by exact opd_mul rfl rfl rfl (by exact w64 (by omega) (by omega)))<|Cr [] (fun _ _=>mv')<|Cr [] (fun H1 hH=>by exact opd_add rfl rfl rfl (show IntKind.i64.wrap (0+(n:Int))=(n:Int)by rw [IntKind.wrap_i64];omega))<|Cp [2002] (fun H1 hH=>by exact opd_noZero (id:=2002) (n:=n) rfl rfl Tryz.func224 (by decide) rfl rfl rfl Tryz.underlying52 rfl rfl (by omega) ((hH _ rfl).trans rfl))<|Cr [2001] (fun _ _=>mv')<|Cr [2001] (fun H1 hH=>by exact opd_nilCheck_ref rfl rfl ((hH _ rfl).trans rfl) rfl)<|Cr [2001] (fun _ h=>fh fo62_1 h)<|Cr [2001] (fun _ h=>lh Tryz.isAgg52 h)<|Cr [] (fun H1 hH=>by exact opd_len_nils rfl Tryz.underlying52 rfl) ?_
 refine Cp [2002] (fun H1 hH=>by exact x_slice_cut (h:=0) (k:=1) (rows':=[]) rfl so52 rfl ((hH _ rfl).trans rfl) rfl rfl rfl rfl (Nat.zero_le _) rfl rfl)<|Cr [] (fun _ _=>as') ?_
 refine dc_nil ⟨by kernel_rfl,?_⟩
 refine Sq<|Rg<|Dd mv'<|Dd mv'<|Dd nc'<|Dd (fr' fo62_1)<|Dd (l1' Tryz.isAgg52)<|Dd (by exact x_copy (rows':=[]) rfl so52 (dst_of_osl rfl rfl rfl) rfl rfl rfl (Nat.zero_le _) (src_of_nils rfl) (by simp) rfl rfl rfl)<|Zz<|Rg<|Dd mv'<|Dd mv'<|Dd nc'<|Dd (fr' fo62_1)<|Uu (by exact x_store1 rfl Tryz.sizeOf52 rfl rfl rfl rfl rfl rfl (Nat.le_of_ble_eq_true rfl) rfl rfl)<|Zz ?_
 exact aret0 (H':=bld 1 [] true) (.inl rfl) rfl (Fin.wk (by(simp;done)) (Hc (bOb_cloT rfl rfl)<|Hc (brows_clo _ _)<|trivial) ⟨rfl,trivial⟩) ⟨rfl,rfl⟩
theorem growF_c (n:Nat) (h0:0 < n) (hl:n < 70368744177664):ACalls Tryz.prog 127 [.ref 2001 0 0 0,iv (n:Int)] bFresh (fun r H'=>r=.tup []∧H'=bld 1 [] true):=by
 refine Bd Tryz.func127 rfl Tryz.ntmps127<|Sq<|Rg<|Dd mv'<|Dd (by exact opr_call rfl rfl Tryz.call72 rfl (copyCheck_c _ false _))<|Zz<|Sq<|Sq<|Rg<|Dd mv'<|Dd lss'<|Zz ?_
 refine Cn (fun hc1=>?_) fun hc1=>?_
 ·skip
  exact absurd (of_decide_eq_true hc1) (by omega)
 skip
 refine awp_skip<|Sq ?_
 refine awp_drawc follows ?_
 refine Cq mv'<|Cq nc'<|Cq (fr' fo62_1)<|Cq (l1' Tryz.isAgg52)<|Cq (by exact opd_cap_nils rfl Tryz.underlying52 rfl)<|Cq mv'<|Cq nc'<|Cq (fr' fo62_1)<|Cq (l1' Tryz.isAgg52)<|Cq (by exact opd_len_nils rfl Tryz.underlying52 rfl)<|Cq (by exact opd_sub rfl rfl rfl (by exact w64 (by omega) (by omega)))<|Cq mv'<|Cq lss' ?_
 refine dc_nil ⟨by kernel_rfl,?_⟩
 refine Cn (fun hc2=>?_) fun hc2=>?_
 ·skip
  refine Rg<|Dd mv'<|Dd mv'<|Dd (by exact opr_call rfl rfl Tryz.call173 rfl (grow_c n n rfl hl))<|Zz ?_
  exact aret0 (H':=bld 1 [] true) (.inl rfl) rfl (Fin.wk (by(simp;done)) (Hc (bOb_cloT rfl rfl)<|Hc (brows_clo _ _)<|trivial) ⟨rfl,trivial⟩) ⟨rfl,rfl⟩
 skip
 exact absurd (of_decide_eq_false hc2) (by omega)
end
section
def bAt (s:ByteArray) (k:Nat):UInt8:=(s.data.toList[k]?).getD 0
theorem byteAt_b (s:ByteArray) (k:Nat):byteAt s k=((bAt s k).toNat:Int):=rfl
def gEsc (b:UInt8):List UInt8:=if b=10 then[92,110] else if b=34∨b=92 then[92,b] else[b]
def gQuote (l:List UInt8):List UInt8:=34::(l.flatMap gEsc++[34])
theorem esc_len (b:UInt8):(gEsc b).length≤2:=by
 unfold gEsc
 split
 ·exact Nat.le_refl _
 split
 ·exact Nat.le_refl _
 exact Nat.le_succ _
theorem escs_len (l:List UInt8):(l.flatMap gEsc).length≤2*l.length:=by
 induction l with
 | nil=>exact Nat.zero_le _
 | cons b l ih =>
  rw [List.flatMap_cons,List.length_append,List.length_cons]
  have:=esc_len b
  omega
theorem take_bAt {s:ByteArray} {k:Nat} (h:k < s.size):s.data.toList.take (k+1)=s.data.toList.take k++[bAt s k]:=by
 have hk:k < s.data.toList.length:=by simpa using h
 rw [List.take_add_one,List.getElem?_eq_getElem hk,bAt,List.getElem?_eq_getElem hk]
 rfl
theorem u8_eq {b:UInt8} {n:Nat} (hn:n < 256):decide ((b.toNat:Int)=(n:Int))=decide (b=UInt8.ofNat n):=by
 rw [Bool.eq_iff_iff,decide_eq_true_eq,decide_eq_true_eq]
 constructor
 ·intro h
  have:b.toNat=n:=by omega
  apply UInt8.toNat.inj
  rw [this,UInt8.toNat_ofNat']
  omega
 intro h
 rw [h,UInt8.toNat_ofNat']
 omega
/-- A fresh builder, its bytes an object of its own. -/
theorem Ent.bld0 {E E':Env} (hE:NzE E [(2002,⟨0,1,5,[]⟩),(2001,bObT (.osl 2002 0 0 0) false)] 2002 E'):Ent [] E bFresh E' (bld 0 [] false):=by
 refine(Ent.nz (G0:=[]) (H:=bFresh) (H':=[(2001,bObT (.osl 2002 0 0 0) false)]) 2002 1 5 rfl rfl hE ⟨⟨bObT (.pv .nils) false,rfl,rfl,rfl,rfl,.inr ⟨_,_,rfl,rfl,⟨.same (by simp [bAddr]),⟨.own,trivial⟩⟩⟩⟩,trivial⟩ trivial).trans ?_
 exact Ent.get (fun _=>rfl) (fun j=>get_swap (by decide) j)
def qPre (s:ByteArray) (k:Nat):List UInt8:=34::(s.data.toList.take k).flatMap gEsc
theorem qPre_len {s:ByteArray} {k:Nat} (hs:s.size < 17592186044416):(qPre s k).length < 70368744170000:=by
 have:=escs_len (s.data.toList.take k)
 rw [List.length_take] at this
 have h2:s.data.toList.length=s.size:=by simp
 rw [qPre,List.length_cons]
 omega
theorem qPre_next {s:ByteArray} {k:Nat} (h:k < s.size):qPre s (k+1)=qPre s k++gEsc (bAt s k):=by
 rw [qPre,qPre,take_bAt h,List.flatMap_append]
 simp
theorem quote_c (s:ByteArray) (H:Heap) (hs:s.size < 17592186044416):ACalls Tryz.prog 69 [sv s] H (fun r H'=>r=sv ⟨(gQuote s.data.toList).toArray⟩∧H'=H):=by
 refine ACalls.pure ?_ (by simp) H
 have hsl:s.data.toList.length=s.size:=by simp
 refine Bd Tryz.func69 rfl Tryz.ntmps69<|Sq<|Rg<|Dd as'<|Zz<|Sq<|Rg<|Dd (by exact x_alloc (id:=2001) rfl zoN62 rfl rfl)<|Zz<|Sq ?_
 refine AWp.ent (E':=[(0,sv s),(3,.ref 2001 0 0 0)]) (H':=bld 0 [] false) (Ent.bld0 ⟨⟨_,rfl,.same (by simp)⟩,⟨_,rfl,.same (by simp;rfl)⟩,trivial⟩) ?_
 skip
 refine Rg<|Dd (by exact opr_call rfl rfl Tryz.call125 rfl (writeByte_c 0 [] false 34 (by decide)))<|Zz<|Sq<|Sq<|Rg<|Dd mv'<|Dd (ls' Tryz.underlying9)<|Dd mv'<|Zz<|awp_block ?_
 refine awp_loop2 (fun(k g:Nat)=>([(0,sv s),(3,.ref 2001 0 0 0),(8,iv (s.size:Int)),(9,iv (k:Int))],bld g (qPre s k) true)) (fun k g=>k≤s.size) (fun k g=>s.size - k) 0 1 (Nat.zero_le _) ?_ ?_
 ·exact(Ent.wk (Eb<|Ea<|Eb<|Eb<|trivial) (Hc (bOb_cloT rfl rfl)<|Hc (brows_clo _ _)<|trivial) trivial)
 intro k g hk
 have hL:=qPre_len (k:=k) hs
 refine Sq<|Rg<|Dd lss'<|Zz<|Sq ?_
 refine Cn (fun hc1=>?_) fun hc1=>?_
 ·have hlt:k < s.size:=by have:=of_decide_eq_true hc1;omega
  have hnext:=qPre_next hlt
  refine awp_skip<|Sq<|awp_block<|Sq<|Rg<|Dd mv'<|Dd as'<|Zz<|Sq<|Rg<|Dd mv'<|Dd mv'<|Dd (by exact opd_index_str rfl Tryz.underlying9 rfl rfl (by omega) (by exact Int.toNat_natCast _) (by omega) rfl)<|Dd as'<|Zz<|Sq<|Rg<|Dd mv'<|Zz<|awp_block<|Sq<|Rg<|Dd eql'<|Dd as'<|Zz ?_
  refine Cn (fun hc2=>?_) fun hc2=>?_
  ·have hb:bAt s k=10:=by
    have h:=hc2
    rw [byteAt_b,show (10:Int)=((10:Nat):Int)by rfl,u8_eq (by decide)] at h
    exact of_decide_eq_true h
   have hE:bld (g+1) (qPre s (k+1)) true=bld (g+1) (qPre s k++(⟨#[92,110]⟩:ByteArray).data.toList) true:=by rw [hnext,hb];rfl
   refine Rg<|Dd (by exact opr_call rfl rfl Tryz.call33 rfl (writeString_c g (qPre s k) true ⟨#[92,110]⟩ (by show _+2 < _;omega)))<|Zz<|Rg<|Dd ad'<|Dd mv'<|Zz ?_
   refine⟨k+1,g+1,by omega,by omega,?_⟩
   show Ent _ _ _ _ (bld (g+1) (qPre s (k+1)) true)
   rw [hE]
   exact(Ent.wk (Eb<|Ea<|Eb<|Eb<|trivial) (Hc (bOb_cloT rfl rfl)<|Hc (brows_clo _ _)<|trivial) trivial)
  have hb10:¬ bAt s k=10:=by
   have h:=hc2
   rw [byteAt_b,show (10:Int)=((10:Nat):Int)by rfl,u8_eq (by decide)] at h
   exact of_decide_eq_false h
  refine Sq<|Sq<|Rg<|Dd eql'<|Dd as'<|Zz ?_
  refine Cn (fun hc3=>?_) fun hc3=>?_
  ·have hb:bAt s k=34:=by
    have h:=hc3
    rw [byteAt_b,show (34:Int)=((34:Nat):Int)by rfl,u8_eq (by decide)] at h
    exact of_decide_eq_true h
   have hE:bld (g+1+1) (qPre s (k+1)) true=bld (g+1+1) (qPre s k++[92]++[bAt s k]) true:=by rw [hnext,hb];simp [gEsc]
   refine awp_skip ?_
   refine Cn (fun hc4=>?_) fun hc4=>?_
   ·skip
    refine Sq<|Rg<|Dd (by exact opr_call rfl rfl Tryz.call125 rfl (writeByte_c g (qPre s k) true 92 (by omega)))<|Zz<|Rg<|Dd mv'<|Dd (by exact opr_call rfl rfl Tryz.call125 rfl (writeByte_c (g+1) (qPre s k++[92]) true (bAt s k) (by rw [List.length_append,List.length_singleton];omega)))<|Zz<|Rg<|Dd ad'<|Dd mv'<|Zz ?_
    refine⟨k+1,g+1+1,by omega,by omega,?_⟩
    show Ent _ _ _ _ (bld (g+1+1) (qPre s (k+1)) true)
    rw [hE]
    exact(Ent.wk (Eb<|Ea<|Eb<|Eb<|trivial) (Hc (bOb_cloT rfl rfl)<|Hc (brows_clo _ _)<|trivial) trivial)
   skip
   exact absurd (hc3.symm.trans hc4) (by decide)
  have hb34:¬ bAt s k=34:=by
   have h:=hc3
   rw [byteAt_b,show (34:Int)=((34:Nat):Int)by rfl,u8_eq (by decide)] at h
   exact of_decide_eq_false h
  refine Rg<|Dd eql'<|Dd as'<|Zz ?_
  refine Cn (fun hc5=>?_) fun hc5=>?_
  ·have hb:bAt s k=92:=by
    have h:=hc5
    rw [byteAt_b,show (92:Int)=((92:Nat):Int)by rfl,u8_eq (by decide)] at h
    exact of_decide_eq_true h
   have hE:bld (g+1+1) (qPre s (k+1)) true=bld (g+1+1) (qPre s k++[92]++[bAt s k]) true:=by rw [hnext,hb];simp [gEsc]
   refine Sq<|Rg<|Dd (by exact opr_call rfl rfl Tryz.call125 rfl (writeByte_c g (qPre s k) true 92 (by omega)))<|Zz<|Rg<|Dd mv'<|Dd (by exact opr_call rfl rfl Tryz.call125 rfl (writeByte_c (g+1) (qPre s k++[92]) true (bAt s k) (by rw [List.length_append,List.length_singleton];omega)))<|Zz<|Rg<|Dd ad'<|Dd mv'<|Zz ?_
   refine⟨k+1,g+1+1,by omega,by omega,?_⟩
   show Ent _ _ _ _ (bld (g+1+1) (qPre s (k+1)) true)
   rw [hE]
   exact(Ent.wk (Eb<|Ea<|Eb<|Eb<|trivial) (Hc (bOb_cloT rfl rfl)<|Hc (brows_clo _ _)<|trivial) trivial)
  have hb92:¬ bAt s k=92:=by
   have h:=hc5
   rw [byteAt_b,show (92:Int)=((92:Nat):Int)by rfl,u8_eq (by decide)] at h
   exact of_decide_eq_false h
  have hE:bld (g+1) (qPre s (k+1)) true=bld (g+1) (qPre s k++[bAt s k]) true:=by rw [hnext,gEsc,if_neg hb10,if_neg (fun h=>h.elim hb34 hb92)]
  refine Rg<|Dd mv'<|Dd (by exact opr_call rfl rfl Tryz.call125 rfl (writeByte_c g (qPre s k) true (bAt s k) (by omega)))<|Zz<|Rg<|Dd ad'<|Dd mv'<|Zz ?_
  refine⟨k+1,g+1,by omega,by omega,?_⟩
  show Ent _ _ _ _ (bld (g+1) (qPre s (k+1)) true)
  rw [hE]
  exact(Ent.wk (Eb<|Ea<|Eb<|Eb<|trivial) (Hc (bOb_cloT rfl rfl)<|Hc (brows_clo _ _)<|trivial) trivial)
 have hge:k=s.size:=by have:=of_decide_eq_false hc1;omega
 refine awp_exit<|Sq<|Rg<|Dd (by exact opr_call rfl rfl Tryz.call125 rfl (writeByte_c g (qPre s k) true 34 (by omega)))<|Zz<|Sq<|Rg<|Dd (by exact opr_call rfl rfl Tryz.call35 rfl (str_c (g+1) (qPre s k++[34]) true (by rw [List.length_append,List.length_singleton];omega)))<|Dd as'<|Zz<|awp_ret ?_
 have hres:(⟨(qPre s k++[34]).toArray⟩:ByteArray)=⟨(gQuote s.data.toList).toArray⟩:=by
  rw [qPre,gQuote,hge,List.take_of_length_le (by omega)]
  rfl
 rw [← hres]
 refine Rt ?_
 exact⟨rfl,rfl⟩
/-- Texts joined. -/
def gJoinS (sep:List UInt8):List (List UInt8)→List UInt8
 | []=>[]
 | x::l=>x++l.flatMap (fun y=>sep++y)
def bs (l:List ByteArray):List (List UInt8):=l.map fun s=>s.data.toList
def sizes (l:List ByteArray):Nat:=(l.map ByteArray.size).sum
theorem sizes_take {l:List ByteArray} {k:Nat} {s:ByteArray} (h:l[k]?=some s):sizes (l.take (k+1))=sizes (l.take k)+s.size:=by
 rw [List.take_add_one,h,sizes,sizes,List.map_append,List.sum_append]
 simp
theorem sizes_le (l:List ByteArray) (k:Nat):sizes (l.take k)≤sizes l:=by
 have h:sizes l=sizes (l.take k)+sizes (l.drop k):=by
  rw [sizes,sizes,sizes,← List.sum_append,← List.map_append,List.take_append_drop]
 omega
theorem join_len (sep:List UInt8):∀ l:List ByteArray,((bs l).flatMap (fun y=>sep++y)).length=sep.length*l.length+sizes l
 | []=>by simp [bs,sizes]
 | s::l=>by
  have ih:=join_len sep l
  show (((s.data.toList)::bs l).flatMap (fun y=>sep++y)).length=_
  rw [List.flatMap_cons,List.length_append,ih,List.length_append,List.length_cons,Nat.mul_add,sizes,sizes,List.map_cons,List.sum_cons]
  have h2:s.data.toList.length=s.size:=by simp
  omega
def jPre (sep x:ByteArray) (l:List ByteArray) (k:Nat):List UInt8:=x.data.toList++(bs (l.take k)).flatMap (fun y=>sep.data.toList++y)
theorem jPre_next {sep x s:ByteArray} {l:List ByteArray} {k:Nat} (h:l[k]?=some s):jPre sep x l (k+1)=jPre sep x l k++(sep.data.toList++s.data.toList):=by
 rw [jPre,jPre,List.take_add_one,h,bs,List.map_append,List.flatMap_append]
 simp [bs]
theorem sizes_ge {l:List ByteArray} {s:ByteArray} (h:s∈l):s.size≤sizes l:=by
 induction l with
 | nil=>cases h
 | cons a l ih =>
  rw [sizes,List.map_cons,List.sum_cons]
  rcases List.mem_cons.1 h with rfl|h
  ·exact Nat.le_add_right _ _
  exact Nat.le_trans (ih h) (Nat.le_add_left _ _)
theorem jPre_len {sep x:ByteArray} {l:List ByteArray} {k:Nat} (hk:k≤l.length):(jPre sep x l k).length≤x.size+sep.size*l.length+sizes l:=by
 rw [jPre,List.length_append,join_len,List.length_take,Nat.min_eq_left hk]
 have h1:=sizes_le l k
 have h2:sep.data.toList.length=sep.size:=by simp
 have h3:x.data.toList.length=x.size:=by simp
 have h4:sep.size*k≤sep.size*l.length:=Nat.mul_le_mul_left _ hk
 rw [h2]
 omega
theorem joins_c (l:List ByteArray) (sep:ByteArray) (H:Heap) (h0:0 < sep.size) (hl:sep.size*l.length+sizes l+l.length < 17592186044416):ACalls Tryz.prog 71 [.pv (slStrs l),sv sep] H (fun r H'=>r=sv ⟨(gJoinS sep.data.toList (bs l)).toArray⟩∧H'=H):=by
 refine ACalls.pure ?_ (by simp) H
 have hml:(l.map encStr).length=l.length:=List.length_map _
 rcases l with _|⟨x,_|⟨y,l⟩⟩
 ·skip
  refine Bd Tryz.func71 rfl Tryz.ntmps71<|Sq<|Rg<|Dd as'<|Zz<|Sq<|Sq<|Rg<|Dd mv'<|Dd (ll' Tryz.underlying46)<|Zz<|awp_block<|Sq<|Rg<|Dd eql'<|Dd as'<|Zz ?_
  refine Cn (fun hc1=>?_) fun hc1=>?_
  ·skip
   refine Sq<|Rg<|Dd as'<|Zz<|awp_ret ?_
   refine Rt ?_
   exact⟨rfl,rfl⟩
  skip
  cases hc1
 ·skip
  refine Bd Tryz.func71 rfl Tryz.ntmps71<|Sq<|Rg<|Dd as'<|Zz<|Sq<|Sq<|Rg<|Dd mv'<|Dd (ll' Tryz.underlying46)<|Zz<|awp_block<|Sq<|Rg<|Dd eql'<|Dd as'<|Zz ?_
  refine Cn (fun hc1=>?_) fun hc1=>?_
  ·skip
   cases hc1
  skip
  refine Sq<|Rg<|Dd eql'<|Dd as'<|Zz ?_
  refine Cn (fun hc2=>?_) fun hc2=>?_
  ·skip
   refine Sq<|Rg<|Dd mv'<|Dd (by exact x_index_pad rfl so46 rfl rfl (by omega) (by exact Int.toNat_natCast _) rfl rfl)<|Dd (lp' Tryz.isAgg9 (hi:=rfl))<|Dd as'<|Zz<|awp_ret ?_
   have hx:x=⟨(gJoinS sep.data.toList (bs [x])).toArray⟩:=by simp [gJoinS,bs]
   rw [← hx]
   refine Rt ?_
   exact⟨rfl,rfl⟩
  skip
  cases hc2
 skip
 have hll:((x::y::l).map encStr).length=l.length+2:=by rw [hml];rfl
 have hn2:(x::y::l).length=l.length+2:=rfl
 rw [hn2] at hl
 have hmul:sep.size*(l.length+2)=sep.size*(l.length+1)+sep.size:=by rw [← Nat.mul_succ]
 obtain ⟨M,hMT⟩:∃ M,M=sep.size*(l.length+1):=⟨_,rfl⟩
 rw [← hMT] at hmul
 rw [hmul] at hl
 have hdiv:sep.size+1≤9223372036854775807 / (l.length+1):=by
  rw [Nat.le_div_iff_mul_le (Nat.succ_pos _),Nat.add_mul,← hMT]
  omega
 have hdl:9223372036854775807 / (l.length+1)≤9223372036854775807:=Nat.div_le_self _ _
 have hMp:0 < M:=by rw [hMT];exact Nat.mul_pos h0 (Nat.succ_pos _)
 have hsz:∀ k,sizes ((x::y::l).take k)≤sizes (x::y::l):=sizes_le _
 refine Bd Tryz.func71 rfl Tryz.ntmps71<|Sq<|Rg<|Dd as'<|Zz<|Sq<|Sq<|Rg<|Dd mv'<|Dd (ll' Tryz.underlying46)<|Zz<|awp_block<|Sq<|Rg<|Dd eql'<|Dd as'<|Zz ?_
 refine Cn (fun hc1=>?_) fun hc1=>?_
 ·skip
  exact absurd (of_decide_eq_true hc1) (by rw [hll];omega)
 skip
 refine Sq<|Rg<|Dd eql'<|Dd as'<|Zz ?_
 refine Cn (fun hc2=>?_) fun hc2=>?_
 ·skip
  exact absurd (of_decide_eq_true hc2) (by rw [hll];omega)
 skip
 refine awp_skip<|Sq<|Rg<|Dd as'<|Zz<|Sq<|Sq<|Rg<|Dd mv'<|Dd (ls' Tryz.underlying9)<|Dd gt'<|Zz ?_
 refine Cn (fun hc3=>?_) fun hc3=>?_
 ·skip
  refine Sq<|Sq<|Rg<|Dd mv'<|Dd (ls' Tryz.underlying9)<|Dd mv'<|Dd (ll' Tryz.underlying46)<|Dd (by exact opd_sub rfl rfl rfl (show IntKind.i64.wrap ((((x::y::l).map encStr).length:Int) - 1)=((l.length+1:Nat):Int)by rw [IntKind.wrap_i64,hll];omega))<|Dd (by exact opd_quo (r:=((9223372036854775807 / (l.length+1):Nat):Int)) rfl rfl rfl (by omega) (by rw [show (9223372036854775807:Int)=((9223372036854775807:Nat):Int)by rfl,← Int.ofNat_tdiv,IntKind.wrap_i64];omega))<|Dd ge'<|Zz ?_
  refine Cn (fun hc4=>?_) fun hc4=>?_
  ·skip
   exact absurd (of_decide_eq_true hc4) (by omega)
  skip
  refine awp_skip<|Rg<|Dd mv'<|Dd mv'<|Dd (ls' Tryz.underlying9)<|Dd mv'<|Dd (ll' Tryz.underlying46)<|Dd (by exact opd_sub rfl rfl rfl (show IntKind.i64.wrap ((((x::y::l).map encStr).length:Int) - 1)=((l.length+1:Nat):Int)by rw [IntKind.wrap_i64,hll];omega))<|Dd (by exact opd_mul rfl rfl rfl (show IntKind.i64.wrap ((sep.size:Int)*((l.length+1:Nat):Int))=(M:Int)by rw [← Int.natCast_mul,← hMT,IntKind.wrap_i64];omega))<|Dd (by exact opd_add rfl rfl rfl (show IntKind.i64.wrap (0+(M:Int))=(M:Int)by rw [IntKind.wrap_i64];omega))<|Dd as'<|Zz<|Sq<|Sq<|Rg<|Dd mv'<|Dd (ll' Tryz.underlying46)<|Dd mv'<|Zz<|awp_block ?_
  refine awp_loop (σ:=Nat) (fun k=>([(0,.pv (slStrs (x::y::l))),(1,sv sep),(5,iv ((M+sizes ((x::y::l).take k):Nat):Int)),(39,.pv (slStrs (x::y::l))),(40,iv (((x::y::l).map encStr).length:Int)),(41,iv (k:Int))],[])) (fun k=>k≤l.length+2) (fun k=>l.length+2 - k) 0 (Nat.zero_le _) ?_ ?_
  ·exact Wk
  intro k hk
  refine Sq<|Rg<|Dd lss'<|Zz<|Sq ?_
  refine Cn (fun hc5=>?_) fun hc5=>?_
  ·have hlt:k < l.length+2:=by have:=of_decide_eq_true hc5;omega
   obtain ⟨s,hs⟩:=get_of_lt (show k < (x::y::l).length by omega)
   have hi:=map_get (f:=encStr) hs
   have hst:=sizes_take hs
   have h1:=hsz (k+1)
   refine awp_skip<|Sq<|awp_block<|Sq<|Rg<|Dd (by exact x_index_pad rfl so46 rfl rfl (by omega) (by exact Int.toNat_natCast _) hi rfl)<|Dd (lp' Tryz.isAgg9 (hi:=hi))<|Dd as'<|Zz<|Sq<|Sq<|Rg<|Dd mv'<|Dd (ls' Tryz.underlying9)<|Dd mv'<|Dd (by exact opd_sub rfl rfl rfl (show IntKind.i64.wrap (9223372036854775807 - ((M+sizes ((x::y::l).take k):Nat):Int))=9223372036854775807 - ((M+sizes ((x::y::l).take k):Nat):Int)by rw [IntKind.wrap_i64];omega))<|Dd gt'<|Zz ?_
   refine Cn (fun hc6=>?_) fun hc6=>?_
   ·skip
    exact absurd (of_decide_eq_true hc6) (by omega)
   skip
   refine awp_skip<|Rg<|Dd mv'<|Dd mv'<|Dd (ls' Tryz.underlying9)<|Dd (by exact opd_add rfl rfl rfl (show IntKind.i64.wrap (((M+sizes ((x::y::l).take k):Nat):Int)+(s.size:Int))=((M+sizes ((x::y::l).take (k+1)):Nat):Int)by rw [IntKind.wrap_i64,hst];omega))<|Dd as'<|Zz<|Rg<|Dd ad'<|Dd mv'<|Zz ?_
   exact⟨k+1,by omega,by omega,Wk⟩
  have hge:k=l.length+2:=by have:=of_decide_eq_false hc5;omega
  have hall:sizes ((x::y::l).take k)=sizes (x::y::l):=by rw [hge,← hn2,List.take_length]
  have h2:=hsz k
  refine awp_exit<|Sq<|Rg<|Dd (by exact x_alloc (id:=2001) rfl zoN62 rfl rfl)<|Zz<|Sq<|Rg<|Dd mv'<|Dd (by exact opr_call rfl rfl Tryz.call127 rfl (growF_c (M+sizes ((x::y::l).take k)) (by omega) (by omega)))<|Zz<|Sq<|Rg<|Dd mv'<|Dd (by exact x_index_pad rfl so46 rfl rfl (by omega) (by exact Int.toNat_natCast _) rfl rfl)<|Dd (lp' Tryz.isAgg9 (hi:=rfl))<|Dd (by exact opr_call rfl rfl Tryz.call33 rfl (writeString_c 1 [] true x (by show 0+_ < _;have:=sizes_le (x::y::l) 1;simp [sizes] at this hl;omega)))<|Zz<|Sq<|Sq<|Rg<|Dd mv'<|Dd (by exact x_slice_sl (l:=1) (h:=((x::y::l).map encStr).length) (rows':=(y::l).map encStr) rfl so46 rfl (sz:=1) (by intro r hr;obtain ⟨q,_,rfl⟩:=List.mem_map.1 hr;rfl) rfl rfl (by rw [hll];omega) (Nat.le_refl _) (by rw [List.take_length];rfl))<|Dd (ll' Tryz.underlying46)<|Dd mv'<|Zz<|awp_block ?_
  have hyl:((y::l).map encStr).length=l.length+1:=by rw [List.length_map];rfl
  refine awp_loop2 (fun(q g:Nat)=>([(1,sv sep),(8,.ref 2001 0 0 0),(63,.pv (slStrs (y::l))),(64,iv (((y::l).map encStr).length:Int)),(65,iv (q:Int))],bld g (jPre sep x (y::l) q) true)) (fun q g=>q≤l.length+1) (fun q g=>l.length+1 - q) 0 2 (Nat.zero_le _) ?_ ?_
  ·show Ent _ _ _ _ (bld (1+1) ([]++x.data.toList++[]) true)
   rw [List.append_nil]
   exact(Ent.wk (Eb<|Ea<|Eb<|Eb<|Eb<|trivial) (Hc (bOb_cloT rfl rfl)<|Hc (brows_clo _ _)<|trivial) trivial)
  intro q g hq
  refine Sq<|Rg<|Dd lss'<|Zz<|Sq ?_
  refine Cn (fun hc7=>?_) fun hc7=>?_
  ·have hlt:q < l.length+1:=by have:=of_decide_eq_true hc7;omega
   obtain ⟨s,hs⟩:=get_of_lt (show q < (y::l).length by rw [List.length_cons];exact hlt)
   have hi:=map_get (f:=encStr) hs
   have hpl:=jPre_len (sep:=sep) (x:=x) (l:=y::l) (k:=q) (Nat.le_of_lt hlt)
   have hnx:=jPre_next (sep:=sep) (x:=x) hs
   have hss:=sizes_ge (List.mem_of_getElem? hs)
   have hxs:x.size+sizes (y::l)=sizes (x::y::l):=by simp [sizes]
   have hll2:(y::l).length=l.length+1:=rfl
   rw [hll2,← hMT] at hpl
   refine awp_skip<|Sq<|awp_block<|Sq<|Rg<|Dd (by exact x_index_pad rfl so46 rfl rfl (by omega) (by exact Int.toNat_natCast _) hi rfl)<|Dd (lp' Tryz.isAgg9 (hi:=hi))<|Dd as'<|Zz<|Sq<|Rg<|Dd mv'<|Dd (by exact opr_call rfl rfl Tryz.call33 rfl (writeString_c g (jPre sep x (y::l) q) true sep (by omega)))<|Zz<|Rg<|Dd mv'<|Dd (by exact opr_call rfl rfl Tryz.call33 rfl (writeString_c (g+1) (jPre sep x (y::l) q++sep.data.toList) true s (by rw [List.length_append];show _+sep.size+_ < _;omega)))<|Zz<|Rg<|Dd ad'<|Dd mv'<|Zz ?_
   refine⟨q+1,g+1+1,by omega,by omega,?_⟩
   show Ent _ _ _ _ (bld (g+1+1) (jPre sep x (y::l) (q+1)) true)
   rw [hnx,← List.append_assoc]
   exact(Ent.wk (Eb<|Ea<|Eb<|Eb<|Eb<|trivial) (Hc (bOb_cloT rfl rfl)<|Hc (brows_clo _ _)<|trivial) trivial)
  have hge2:q=l.length+1:=by have:=of_decide_eq_false hc7;omega
  have hpl:=jPre_len (sep:=sep) (x:=x) (l:=y::l) hq
  have hll2:(y::l).length=l.length+1:=rfl
  have hxs:x.size+sizes (y::l)=sizes (x::y::l):=by simp [sizes]
  rw [hll2,← hMT] at hpl
  refine awp_exit<|Sq<|Rg<|Dd (by exact opr_call rfl rfl Tryz.call35 rfl (str_c g (jPre sep x (y::l) q) true (by omega)))<|Dd as'<|Zz<|awp_ret ?_
  have hres:(⟨(jPre sep x (y::l) q).toArray⟩:ByteArray)=⟨(gJoinS sep.data.toList (bs (x::y::l))).toArray⟩:=by
   rw [jPre,hge2,← hll2,List.take_length]
   rfl
  rw [← hres]
  refine Rt ?_
  exact⟨rfl,rfl⟩
 skip
 exact absurd (of_decide_eq_false hc3) (by omega)
end
section
/-- A tag as text. -/
def gLine (t:GTag):ByteArray:=t.key++⟨#[61]⟩++⟨(gQuote t.val.data.toList).toArray⟩
theorem quote_size (s:ByteArray):(⟨(gQuote s.data.toList).toArray⟩:ByteArray).size≤2*s.size+2:=by
 show (gQuote s.data.toList).length≤_
 have:=escs_len s.data.toList
 have h:s.data.toList.length=s.size:=by simp
 rw [gQuote,List.length_cons,List.length_append,List.length_singleton]
 omega
theorem keys2 {i j:Nat} {a b a' b':Ob} {id:Nat} (h:(Heap.get [(i,a),(j,b)] id).isSome=true):(Heap.get [(i,a'),(j,b')] id).isSome=true:=by
 simp only [Heap.get] at h ⊢
 cases e1:Nat.beq i id with
 | true=>rfl
 | false =>
  rw [e1] at h
  cases e2:Nat.beq j id with
  | true=>rfl
  | false=>rw [e2] at h;exact h
def gTagS (l:List GTag):ByteArray:=⟨(gJoinS [32] (bs (l.map gLine))).toArray⟩
/-- The text of tags. -/
def gText (l:List GTag):ByteArray×Int:=if gTags l then(if 20000 < (gTagS l).size then(sNil,2)else(gTagS l,0))else(sNil,1)
theorem gName_size {s:ByteArray} (h:gName s=true):s.size≤24:=by
 rw [gName,Bool.and_eq_true,Bool.and_eq_true,decide_eq_true_eq] at h
 omega
theorem sizes_bound {l:List ByteArray} {n:Nat} (h:∀ s,s∈l→s.size≤n):sizes l≤n*l.length:=by
 induction l with
 | nil=>exact Nat.zero_le _
 | cons a l ih =>
  rw [sizes,List.map_cons,List.sum_cons,List.length_cons,Nat.mul_succ]
  have h1:=h a List.mem_cons_self
  have h2:=ih (fun s hs=>h s (List.mem_cons_of_mem _ hs))
  rw [sizes] at h2
  omega
end
section
/-- What an escaped byte stands for. -/
def gUnesc (c:UInt8):Option UInt8:=if c=92 then some 92 else if c=34 then some 34 else if c=110 then some 10 else none
/-- A string behind its opening quote: its bytes, and how many bytes it takes with the closing quote. -/
def unqL:List UInt8→Option (List UInt8×Nat)
 | []=>none
 | [c]=>if c=34 then some ([],1)else none
 | c::e::r=>if c=34 then some ([],1)else if c=10 then none else if c=92 then(gUnesc e).bind fun b=>(unqL r).map fun p=>(b::p.1,p.2+2)else(unqL (e::r)).map fun p=>(c::p.1,p.2+1)
def gUnq (s:ByteArray):ByteArray×Int:=match unqL (s.data.toList.drop 1)with
 | some (d,n)=>(⟨d.toArray⟩,((n+1:Nat):Int))
 | none=>(sNil,0)
theorem unqL_quote {r:List UInt8}:unqL (34::r)=some ([],1):=by cases r<;>rfl
theorem unqL_line {r:List UInt8}:unqL (10::r)=none:=by cases r<;>rfl
theorem unqL_bs {r:List UInt8} {e:UInt8}:unqL (92::e::r)=(gUnesc e).bind fun b=>(unqL r).map fun p=>(b::p.1,p.2+2):=rfl
theorem unqL_other {c:UInt8} {r:List UInt8} (h1:c≠34) (h2:c≠10) (h3:c≠92):unqL (c::r)=(unqL r).map fun p=>(c::p.1,p.2+1):=by
 cases r with
 | nil =>
  show (if c=34 then some ([],1)else none)=_
  rw [if_neg h1];rfl
 | cons e r=>rw [unqL,if_neg h1,if_neg h2,if_neg h3]
/-- The whole, from a place inside. -/
def unqAt (o:Option (List UInt8×Nat)) (w:List UInt8) (i:Nat):ByteArray×Int:=match o with
 | some (d,n)=>(⟨(w++d).toArray⟩,((i+n:Nat):Int))
 | none=>(sNil,0)
theorem unqAt_one {o:Option (List UInt8×Nat)} {w:List UInt8} {b:UInt8} {i k:Nat}:unqAt (o.map fun p=>(b::p.1,p.2+k)) w i=unqAt o (w++[b]) (i+k):=by
 cases o with
 | none=>rfl
 | some p=>simp only [unqAt,Option.map_some,List.append_assoc,List.singleton_append];congr 2;omega
theorem drop_bAt {s:ByteArray} {i:Nat} (h:i < s.size):s.data.toList.drop i=bAt s i::s.data.toList.drop (i+1):=by
 have hk:i < s.data.toList.length:=by simpa using h
 rw [List.drop_eq_getElem_cons hk,bAt,List.getElem?_eq_getElem hk]
 rfl
theorem drop_end {s:ByteArray} {i:Nat} (h:s.size≤i):s.data.toList.drop i=[]:=List.drop_eq_nil_of_le (by simpa using h)
theorem b_eq {s:ByteArray} {i n:Nat} (hn:n < 256) {b:Bool} (h:decide (byteAt s i=(n:Int))=b):decide (bAt s i=UInt8.ofNat n)=b:=by rw [← h,byteAt_b,u8_eq hn]
/-- The place of an escaped byte. -/
theorem unesc_at (c:UInt8):(Lib.indexByte (⟨#[92,34,110]⟩:ByteArray).data.toList ((c.toNat:Int).toNat.toUInt8) = -1∧gUnesc c=none)∨∃ k:Nat,k < 3∧Lib.indexByte (⟨#[92,34,110]⟩:ByteArray).data.toList ((c.toNat:Int).toNat.toUInt8)=(k:Int)∧gUnesc c=some (bAt ⟨#[92,34,10]⟩ k):=by
 have h0:((c.toNat:Int).toNat.toUInt8)=c:=by simp
 rw [h0]
 by_cases h1:c=92
 ·subst h1;exact .inr ⟨0,by decide,by decide,by decide⟩
 by_cases h2:c=34
 ·subst h2;exact .inr ⟨1,by decide,by decide,by decide⟩
 by_cases h3:c=110
 ·subst h3;exact .inr ⟨2,by decide,by decide,by decide⟩
 refine .inl ⟨?_,by rw [gUnesc,if_neg h1,if_neg h2,if_neg h3]⟩
 have e1:((92:UInt8) == c)=false:=by simp [Ne.symm h1]
 have e2:((34:UInt8) == c)=false:=by simp [Ne.symm h2]
 have e3:((110:UInt8) == c)=false:=by simp [Ne.symm h3]
 simp only [Lib.indexByte,e1,e2,e3]
 rfl
theorem unquoted_c (s:ByteArray) (H:Heap) (hs:s.size < 1099511627776):ACalls Tryz.prog 186 [sv s] H (fun r H'=>r=.tup [sv (gUnq s).1,iv (gUnq s).2]∧H'=H):=by
 refine ACalls.pure ?_ (by simp) H
 have hG:gUnq s=unqAt (unqL (s.data.toList.drop 1)) [] 1:=by
  unfold gUnq unqAt
  cases unqL (s.data.toList.drop 1)with
  | none=>rfl
  | some p =>
   show ((⟨p.1.toArray⟩:ByteArray),((p.2+1:Nat):Int))=((⟨([]++p.1).toArray⟩:ByteArray),((1+p.2:Nat):Int))
   rw [List.nil_append,Nat.add_comm]
 obtain ⟨res,hres⟩:∃ res,res=gUnq s:=⟨_,rfl⟩
 rw [← hres] at hG ⊢
 refine Bd Tryz.func186 rfl Tryz.ntmps186<|Sq<|Rg<|Dd as'<|Dd as'<|Zz<|Sq<|Rg<|Dd (by exact x_alloc (id:=2001) rfl zoN62 rfl rfl)<|Zz<|Sq<|Sq ?_
 refine AWp.ent (E':=[(0,sv s),(4,.ref 2001 0 0 0)]) (H':=bld 0 [] false) (Ent.bld0 ⟨⟨_,rfl,.same (by simp)⟩,⟨_,rfl,.same (by simp;rfl)⟩,trivial⟩) ?_
 refine Rg<|Dd as'<|Zz<|awp_block ?_
 refine awp_loop4 (fun(i g:Nat) (w:List UInt8) (u:Bool)=>([(0,sv s),(4,.ref 2001 0 0 0),(5,iv (i:Int))],bld g w u)) (fun i g w u=>w.length≤i∧i < 2199023255552∧res=unqAt (unqL (s.data.toList.drop i)) w i) (fun i g w u=>s.size+1 - i) 1 0 [] false ⟨Nat.zero_le _,by decide,hG⟩ ?_ ?_
 ·exact(Ent.wk (Eb<|Ea<|Eb<|trivial) (Hc (bOb_cloT rfl rfl)<|Hc (brows_clo _ _)<|trivial) trivial)
 rintro i g w u ⟨hwl,hib,hinv⟩
 refine Sq<|Sq<|Rg<|Dd mv'<|Dd mv'<|Dd (ls' Tryz.underlying9)<|Dd lss'<|Zz ?_
 refine Cn (fun hc1=>?_) fun hc1=>?_
 ·have hlt:i < s.size:=by have:=of_decide_eq_true hc1;omega
  have hd:=drop_bAt hlt
  refine awp_skip<|Sq<|awp_block<|Sq<|Rg<|Dd mv'<|Dd mv'<|Dd (by exact opd_index_str rfl Tryz.underlying9 rfl rfl (by omega) (by exact Int.toNat_natCast _) (by omega) rfl)<|Dd as'<|Zz<|Sq<|Rg<|Dd mv'<|Zz<|awp_block<|Sq<|Rg<|Dd eql'<|Dd as'<|Zz ?_
  refine Cn (fun hc2=>?_) fun hc2=>?_
  ·have hb:bAt s i=34:=of_decide_eq_true (b_eq (n:=34) (by decide) hc2)
   have hr:res=(⟨w.toArray⟩,((i+1:Nat):Int)):=by rw [hinv,hd,hb,unqL_quote,unqAt,List.append_nil]
   rw [hr]
   refine Sq<|Rg<|Dd (by exact opr_call rfl rfl Tryz.call35 rfl (str_c g w u (by omega)))<|Dd mv'<|Dd ad'<|Dd as'<|Dd as'<|Zz<|awp_ret ?_
   refine Ru ?_
   exact⟨rfl,rfl⟩
  have hb34:bAt s i≠34:=of_decide_eq_false (b_eq (n:=34) (by decide) hc2)
  refine Sq<|Rg<|Dd eql'<|Dd as'<|Zz ?_
  refine Cn (fun hc3=>?_) fun hc3=>?_
  ·have hb:bAt s i=10:=of_decide_eq_true (b_eq (n:=10) (by decide) hc3)
   have hr:res=(sNil,0):=by rw [hinv,hd,hb,unqL_line,unqAt]
   rw [hr]
   refine Sq<|Rg<|Dd as'<|Dd as'<|Zz<|awp_ret ?_
   refine Ru ?_
   exact⟨rfl,rfl⟩
  have hb10:bAt s i≠10:=of_decide_eq_false (b_eq (n:=10) (by decide) hc3)
  refine Sq<|Rg<|Dd eql'<|Dd as'<|Zz ?_
  refine Cn (fun hc4=>?_) fun hc4=>?_
  ·have hb:bAt s i=92:=of_decide_eq_true (b_eq (n:=92) (by decide) hc4)
   refine Sq<|Rg<|Dd mv'<|Dd ad'<|Dd as'<|Zz<|Sq<|Rg<|Dd as'<|Zz<|Sq<|Sq<|Rg<|Dd mv'<|Dd mv'<|Dd (ls' Tryz.underlying9)<|Dd lss'<|Zz ?_
   refine Cn (fun hc5=>?_) fun hc5=>?_
   ·have hlt2:i+1 < s.size:=by have:=of_decide_eq_true hc5;omega
    have hd2:=drop_bAt hlt2
    rcases unesc_at (bAt s (i+1))with⟨x1,x2⟩|⟨q,hq,x1,x2⟩
    ·have hr:res=(sNil,0):=by rw [hinv,hd,hb,hd2,unqL_bs,x2];rfl
     have hneg:Lib.indexByte (⟨#[92,34,110]⟩:ByteArray).data.toList (byteAt s (i+1)).toNat.toUInt8 = -1:=x1
     rw [hr]
     refine Rg<|Dd mv'<|Dd mv'<|Dd (by exact opd_index_str rfl Tryz.underlying9 rfl rfl (by omega) (by exact Int.toNat_natCast _) (by omega) rfl)<|Dd (by exact opr_call rfl rfl Tryz.call78 rfl (indexByte_c _ _ _))<|Dd as'<|Zz<|Sq<|Sq<|Rg<|Dd mv'<|Dd lss'<|Zz ?_
     refine Cn (fun hc6=>?_) fun hc6=>?_
     ·skip
      refine Sq<|Rg<|Dd as'<|Dd as'<|Zz<|awp_ret ?_
      refine Ru ?_
      exact⟨rfl,rfl⟩
     skip
     exact absurd (of_decide_eq_false hc6) (by rw [hneg];decide)
    have hpos:Lib.indexByte (⟨#[92,34,110]⟩:ByteArray).data.toList (byteAt s (i+1)).toNat.toUInt8=(q:Int):=x1
    have hq3:q < (⟨#[92,34,10]⟩:ByteArray).size:=hq
    refine Rg<|Dd mv'<|Dd mv'<|Dd (by exact opd_index_str rfl Tryz.underlying9 rfl rfl (by omega) (by exact Int.toNat_natCast _) (by omega) rfl)<|Dd (by exact opr_call rfl rfl Tryz.call78 rfl (indexByte_c _ _ _))<|Dd as'<|Zz<|Sq<|Sq<|Rg<|Dd mv'<|Dd lss'<|Zz ?_
    refine Cn (fun hc7=>?_) fun hc7=>?_
    ·skip
     exact absurd (of_decide_eq_true hc7) (by rw [hpos];omega)
    skip
    refine awp_skip<|Rg<|Dd mv'<|Dd (by exact opd_index_str rfl Tryz.underlying9 rfl rfl (by rw [hpos];omega) (by rw [hpos];exact Int.toNat_natCast _) hq3 rfl)<|Dd (by exact opr_call rfl rfl Tryz.call125 rfl (writeByte_c g w u (bAt ⟨#[92,34,10]⟩ q) (by omega)))<|Zz<|Rg<|Dd mv'<|Dd ad'<|Dd as'<|Zz ?_
    refine⟨i+1+1,g+1,w++[bAt ⟨#[92,34,10]⟩ q],true,⟨by rw [List.length_append,List.length_singleton];omega,by omega,?_⟩,by omega,(Ent.wk (Eb<|Ea<|Eb<|trivial) (Hc (bOb_cloT rfl rfl)<|Hc (brows_clo _ _)<|trivial) trivial)⟩
    rw [hinv,hd,hb,hd2,unqL_bs,x2]
    exact unqAt_one
   have hge:s.size≤i+1:=by have:=of_decide_eq_false hc5;omega
   have hr:res=(sNil,0):=by rw [hinv,hd,hb,drop_end hge];rfl
   rw [hr]
   refine awp_skip<|Sq<|Sq<|Rg<|Dd mv'<|Dd lss'<|Zz ?_
   refine Cn (fun hc8=>?_) fun hc8=>?_
   ·skip
    refine Sq<|Rg<|Dd as'<|Dd as'<|Zz<|awp_ret ?_
    refine Ru ?_
    exact⟨rfl,rfl⟩
   skip
   cases hc8
  have hb92:bAt s i≠92:=of_decide_eq_false (b_eq (n:=92) (by decide) hc4)
  refine Rg<|Dd mv'<|Dd (by exact opr_call rfl rfl Tryz.call125 rfl (writeByte_c g w u (bAt s i) (by omega)))<|Zz<|Rg<|Dd mv'<|Dd ad'<|Dd as'<|Zz ?_
  refine⟨i+1,g+1,w++[bAt s i],true,⟨by rw [List.length_append,List.length_singleton];omega,by omega,?_⟩,by omega,(Ent.wk (Eb<|Ea<|Eb<|trivial) (Hc (bOb_cloT rfl rfl)<|Hc (brows_clo _ _)<|trivial) trivial)⟩
  rw [hinv,hd,unqL_other hb34 hb10 hb92,unqAt_one]
 have hge:s.size≤i:=by have:=of_decide_eq_false hc1;omega
 have hr:res=(sNil,0):=by rw [hinv,drop_end hge];rfl
 rw [hr]
 refine awp_exit<|Sq<|Rg<|Dd as'<|Dd as'<|Zz<|awp_ret ?_
 refine Ru ?_
 exact⟨rfl,rfl⟩
end
end Go.Proofs.YtlnfjkdacimblaaGreatDoor
namespace Go.Abs
section
/-- Between two statements: one of the states S a, with J a. -/
theorem awp_seq_ex {P:Program} {G0:Heap} {N:Nat} {Q:Exit→Env→Heap→Prop} {E:Env} {H:Heap} {x y:Code} {α:Type} (S:α→Env×Heap) (J:α→Prop)
  (h:AWp P G0 N x (AThen (fun E1 H1=>∃ a,J a∧Ent G0 E1 H1 (S a).1 (S a).2) Q) E H) (h':∀ a,J a→AWp P G0 N y Q (S a).1 (S a).2):AWp P G0 N (.seq x y) Q E H :=
 awp_seq (h.mono fun e E1 H1 q=>by
  cases e with
  | normal =>
   obtain ⟨a,ha,he⟩:=q
   exact AWp.ent he (h' a ha)
  | _=>exact q)
theorem get_dups {i:Nat} {o:Ob} {K:Heap}:∀ (D:Heap),(∀ p∈D,p.1=i)→∀ j,Heap.get ((i,o)::K) j=Heap.get ((i,o)::(D++K)) j:=by
 intro D hD j
 by_cases e:i=j
 ·subst e
  simp [Heap.get,beq_self]
 have h:Heap.get D j=none:=by
  cases hg:Heap.get D j with
  | none=>rfl
  | some x=>exact absurd (hD _ (mem_of_hget hg)).symm e
 rw [get_cons_other _ _ (Ne.symm e),get_cons_other _ _ (Ne.symm e),hget_app,h]
theorem LR_clo {H:Heap} {x:Go.Loop} {E0:Env} (h:∀ p∈E0,Clo H p.2):∀ r∈(LR x E0).rows,∀ a∈r,Clo H a:=by
 intro r hr a ha
 simp only [LR,List.mem_cons,List.not_mem_nil,or_false] at hr
 rcases hr with rfl|rfl
 ·rw [List.mem_singleton] at ha
  subst ha
  simp
 obtain ⟨p,hp,rfl⟩:=List.mem_map.1 ha
 exact h p hp
end
end Go.Abs
