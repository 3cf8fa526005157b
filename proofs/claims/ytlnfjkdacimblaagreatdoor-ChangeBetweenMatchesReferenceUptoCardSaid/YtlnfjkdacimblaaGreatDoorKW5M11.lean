/-
  CONTRACT: the reference's Between. Conditions: the arguments' sizes.
  CONTRACT: edit.All where each edit is possible, out of the edits' own contracts. Conditions: the maps on the way are closed and of a moderate size.
  CONTRACT: planispherelaw22.head answers true. Conditions: none.
  CONTRACTS: change.line, change.read, change.Text, change.Parse: with object.Text and object.Parse as hypotheses where the law's own examples put no object (written by gen/mk_y43.py).
  CONTRACT: planispherelaw22.head answers true, without object.Text and object.Parse (its examples put no object). Conditions: none.
  CONTRACT: planispherelaw22.ChangeBetween answers true. Conditions: the arguments' sizes.
  CONTRACT: planispherelaw22.ChangeBetweenMatchesReference answers true. Conditions: the arguments' sizes.
-/
import Derived.Test.YtlnfjkdacimblaaGreatDoorKW5M10
set_option linter.unusedVariables false
set_option linter.unusedSimpArgs false
set_option maxRecDepth 100000
set_option maxHeartbeats 2000000
namespace Go.Proofs.YtlnfjkdacimblaaGreatDoor
open Go.Abs
section
theorem eRows_ofZ (l:List GEdit):eRows l=(l.map encEdit).map (·.map .pv):=by rw [eRows,List.map_map];rfl
theorem Fin.ed2 {H1:Heap} {id g n:Nat} {ob:Ob} (l:List GEdit) (v:AV) (hH:H1.get id=some ob) (hg:ob.g=g) (hps:ob.rows=eRows l) (hn:n=l.length) (hv:Clo [] v) :
  Fin [] H1 (.tup [.osl id g 0 n,v]) [] (.tup [.pv (slEdits l),v]):=by
 subst hg hn
 exact Fin.fz (id:=id) (ob:=ob) (l.map encEdit) hH (hps.trans (eRows_ofZ l)) (.tup rfl (fz_cons (.osl (take_rows encEdit l)) (fz_cons (.same hv) fz_nil))) rfl trivial trivial
theorem rFindW {m:List GObj} {s:ByteArray} {n:Int} (e:gidx (idIs s) m=n) (hm:m.length < 4611686018427387904) (H:Heap):ACalls Tryz.prog 27 [.agg [.pv (slObjs m)],sv s] H (fun r H'=>r=iv n∧H'=H):=by
 have:=rFind_c m s H hm
 rw [e] at this
 exact this
theorem eRows_ofY2 (l:List GEdit):([]:List (List AV))++(l.map encEdit).map (·.map .pv)=eRows l:=by rw [List.nil_append,eRows_ofZ]
def putA (a b:List GObj) (X:List ByteArray) (z i:Nat):List GEdit:=(((zs false).take z).flatMap fun z=>(b.filter (putQ a X z)).map putE)++(((b.take i).filter (putQ a X (z:Int))).map putE)
theorem putA_zero (a b:List GObj) (X:List ByteArray):putA a b X 0 0=[]:=rfl
theorem putA_next {a b:List GObj} {X:List ByteArray} {z i:Nat} {o:GObj} (h:b[i]?=some o):putA a b X z (i+1)=putA a b X z i++(if putQ a X (z:Int) o then[putE o] else[]):=by
 rw [putA,putA,List.take_add_one,h,Option.toList_some,List.filter_append,List.map_append,List.append_assoc]
 congr 2
 cases e:putQ a X (z:Int) o<;>simp [e]
theorem putA_row {a b:List GObj} {X:List ByteArray} {z:Nat} (h:z < 3):putA a b X z b.length=putA a b X (z+1) 0:=by
 have hz:(zs false)[z]?=some (z:Int):=by
  have h3:z=0∨z=1∨z=2:=by omega
  rcases h3 with rfl|rfl|rfl<;>rfl
 rw [putA,putA,List.take_length,List.take_add_one,hz,Option.toList_some,List.flatMap_append,List.take_zero]
 simp
theorem putA_all (a b:List GObj) (X:List ByteArray):putA a b X 3 0=putR a b X:=by
 rw [putA,putR,List.take_zero]
 show _++[]=_
 rw [List.append_nil]
 rfl
theorem putA_len (a b:List GObj) (X:List ByteArray) {z i:Nat}:(putA a b X z i).length≤4*b.length:=by
 have hf:∀ (L:List GObj) (z:Int),((L.filter (putQ a X z)).map putE).length≤L.length:=fun L z=>by rw [List.length_map];exact List.length_filter_le _ _
 have h1:∀ Z:List Int,(Z.flatMap fun z=>(b.filter (putQ a X z)).map putE).length≤Z.length*b.length:=by
  intro Z
  induction Z with
  | nil=>exact Nat.zero_le _
  | cons z Z ih =>
   rw [List.flatMap_cons,List.length_append,List.length_cons,Nat.add_mul]
   have:=hf b z
   omega
 have h2:=h1 ((zs false).take z)
 have h3:((zs false).take z).length*b.length≤3*b.length:=Nat.mul_le_mul_right _ (by rw [List.length_take];exact Nat.le_trans (Nat.min_le_right _ _) (Nat.le_refl 3))
 have h4:=hf (b.take i) (z:Int)
 have h5:(b.take i).length≤b.length:=by rw [List.length_take];exact Nat.min_le_right _ _
 rw [putA,List.length_append]
 omega
def chA (a b:List GObj) (X:List ByteArray) (w i:Nat):List GEdit:=((([0,1,2]:List Int).take w).flatMap fun w=>b.flatMap (chF a X w))++(b.take i).flatMap (chF a X (w:Int))
theorem chA_next {a b:List GObj} {X:List ByteArray} {w i:Nat} {o:GObj} (h:b[i]?=some o):chA a b X w (i+1)=chA a b X w i++chF a X (w:Int) o:=by
 rw [chA,chA,List.take_add_one,h,Option.toList_some,List.flatMap_append,List.append_assoc]
 simp
theorem chA_row {a b:List GObj} {X:List ByteArray} {w:Nat} (h:w < 3):chA a b X w b.length=chA a b X (w+1) 0:=by
 have hz:([0,1,2]:List Int)[w]?=some (w:Int):=by
  have h3:w=0∨w=1∨w=2:=by omega
  rcases h3 with rfl|rfl|rfl<;>rfl
 rw [chA,chA,List.take_length,List.take_add_one,hz,Option.toList_some,List.flatMap_append,List.take_zero]
 simp
theorem chA_all (a b:List GObj) (X:List ByteArray):chA a b X 3 0=b.flatMap (chF a X 0)++(b.flatMap (chF a X 1)++b.flatMap (chF a X 2)):=by
 rw [chA,List.take_zero]
 simp
theorem chA_zero (a b:List GObj) (X:List ByteArray):chA a b X 0 0=[]:=rfl
theorem fmLenR {α β:Type} {f:α→List β} {n:Nat}:∀ {l:List α},(∀ x∈l,(f x).length≤n)→(l.flatMap f).length≤l.length*n
 | [],_=>Nat.zero_le _
 | x::l,h=>by
  rw [List.flatMap_cons,List.length_append,List.length_cons,Nat.add_mul]
  have h1:=h x List.mem_cons_self
  have h2:=fmLenR (l:=l) fun y hy=>h y (List.mem_cons_of_mem _ hy)
  omega
theorem chF_len {a b:List GObj} {X:List ByteArray} {w:Int} (ha:∀ o∈a,o.tags.length≤60) (hb:∀ o∈b,o.tags.length≤60):∀ o∈b,(chF a X w o).length≤120:=by
 intro o ho
 rw [chF]
 cases e:look a o.id with
 | none=>exact Nat.zero_le _
 | some p =>
  show (if inB X o.id then[] else chgR p o w).length≤120
  split
  ·exact Nat.zero_le _
  rw [chgR]
  split
  ·have h1:=tgB_len p o o.tags.length
   have h2:=ha p (look_mem e)
   have h3:=hb o ho
   omega
  rw [chgN]
  split
  ·exact(by decide:1≤120)
  split
  ·exact(by decide:1≤120)
  exact Nat.zero_le _
theorem chA_len {a b:List GObj} {X:List ByteArray} {w i:Nat} (ha:∀ o∈a,o.tags.length≤60) (hb:∀ o∈b,o.tags.length≤60):(chA a b X w i).length≤4*(b.length*120):=by
 have h1:((([0,1,2]:List Int).take w).flatMap fun w=>b.flatMap (chF a X w)).length≤(([0,1,2]:List Int).take w).length*(b.length*120):=fmLenR fun z _=>fmLenR (chF_len ha hb)
 have h2:(([0,1,2]:List Int).take w).length*(b.length*120)≤3*(b.length*120):=Nat.mul_le_mul_right _ (by rw [List.length_take];exact Nat.le_trans (Nat.min_le_right _ _) (Nat.le_refl 3))
 have h3:((b.take i).flatMap (chF a X (w:Int))).length≤(b.take i).length*120:=fmLenR fun o ho=>chF_len ha hb o (List.mem_of_mem_take ho)
 have h4:(b.take i).length*120≤b.length*120:=Nat.mul_le_mul_right _ (by rw [List.length_take];exact Nat.min_le_right _ _)
 rw [chA,List.length_append]
 omega
theorem dropR_len (a b:List GObj) (X:List ByteArray) (c:Bool):(dropR a b X c).length≤4*a.length:=by
 rw [← dpA_all]
 exact dpA_len a b X c (Nat.le_refl 3) (Nat.zero_le _)
theorem chgR_c (p o:GObj) (w:Int) (H:Heap) (hp:p.tags.length≤60) (ho:o.tags.length≤60) (hp2:p.refs.length < 4611686018427387904) (ho2:o.refs.length < 4611686018427387904) :
  ACalls Tryz.prog 62 [av (encObj p),av (encObj o),iv w] H (fun r H'=>r=.pv (slEdits (chgR p o w))∧H'=H):=by
 by_cases h:w=2
 ·subst h
  rw [chgR,if_pos rfl]
  exact chgT_c p o H (by omega) (by omega) hp2 ho2
 rw [chgR,if_neg h]
 exact chgN_c p o w H (decide_eq_false h) hp2 ho2
theorem rBetween_c (a b:List GObj) (H:Heap) (ha:okM a) (hb:okM b) (hal:a.length≤24) (hbl:b.length≤24) :
  ACalls Tryz.prog 23 [.agg [.pv (slObjs a)],.agg [.pv (slObjs b)]] H (fun r H'=>r=.tup [.pv (slEdits (gBetween a b).1),iv (gBetween a b).2]∧H'=H):=by
 refine ACalls.pure ?_ (by simp) H
 have hma:(a.map encObj).length=a.length:=List.length_map _
 have hmb:(b.map encObj).length=b.length:=List.length_map _
 refine Bd Tryz.func23 rfl Tryz.ntmps23<|Sq<|Rg<|Dd (by exact opd_box (id:=2) rfl rfl rfl rfl rfl)<|Dd (by exact opd_box (id:=3) rfl rfl rfl rfl rfl)<|Dd as'<|Dd as'<|Zz<|Sq<|Sq ?_
 refine awp_bool (t:=26) (n:=9) (X:=!closedB a||!closedB b) ?_ ?_
 ·all_goals refine Dd (by exact opd_loadn_ref rfl Tryz.isAgg38 Tryz.sizeOf38 rfl rfl rfl rfl (by simp only [Zl,encTag,encObj,encStr,encEdit,encInt];rfl) rfl) ?_
  all_goals refine Dd (by exact opr_call rfl rfl Tryz.call56 rfl (rClosed22_c a _ ha (by omega))) ?_
  all_goals refine Dd no' ?_
  all_goals refine Dd mv' ?_
  all_goals refine Sp 22 (fun h22=>?_) fun h22=>?_
  all_goals try contradiction
  all_goals first|refine Fo ?_|refine On (by exact opd_loadn_ref rfl Tryz.isAgg38 Tryz.sizeOf38 rfl rfl rfl rfl (by simp only [Zl,encTag,encObj,encStr,encEdit,encInt];rfl) rfl) ?_
  all_goals first|refine Fo ?_|refine On (by exact opr_call rfl rfl Tryz.call56 rfl (rClosed22_c b _ hb (by omega))) ?_
  all_goals first|refine Fo ?_|refine On no' ?_
  all_goals refine Dd pk' ?_
  all_goals refine al_nil ?_
  all_goals(exact⟨⟨_,rfl,by(simp_all;done)⟩,rfl,rfl,rfl⟩)
 refine Cn (fun hc1=>?_) fun hc1=>?_
 ·skip
  have h0:(!closedB a||!closedB b)=true:=hc1
  refine Sq<|Rg<|Dd as'<|Dd as'<|Zz<|awp_ret ?_
  refine aret2 (H':=[]) (.inr rfl) rfl (rval_tmp rfl) (rval_tmp rfl) (Fin.wk (r:=.tup [.pv (slEdits []),iv 1]) (by simp) trivial trivial) ?_
  exact⟨by rw [gBetween,if_pos h0],rfl⟩
 skip
 have h0:(!closedB a||!closedB b)=false:=hc1
 have hcc:closedB a=true∧closedB b=true:=by simpa using h0
 obtain ⟨hca,hcb⟩:=hcc
 have hgb2:gBetween a b=if 200 < (betL a b).length then([],2)else(betL a b,0):=by rw [gBetween,if_neg (by rw [h0];decide)]
 have hga:=gMap_iff.1 (closed_gMap hca)
 have hgb:=gMap_iff.1 (closed_gMap hcb)
 have hka:∀ o∈a,1≤o.kind∧o.kind≤5:=fun o ho=>gObj_kind (hga.1 o ho)
 have hkb:∀ o∈b,1≤o.kind∧o.kind≤5:=fun o ho=>gObj_kind (hgb.1 o ho)
 have hta:∀ o∈a,o.tags.length≤60:=fun o ho=>(gObj_len (hga.1 o ho)).2.1
 have htb:∀ o∈b,o.tags.length≤60:=fun o ho=>(gObj_len (hgb.1 o ho)).2.1
 have hra:∀ o∈a,o.refs.length < 4611686018427387904:=fun o ho=>(ha.2 o ho).2.2.1
 have hrb:∀ o∈b,o.refs.length < 4611686018427387904:=fun o ho=>(hb.2 o ho).2.2.1
 have hmem:∀ {s:ByteArray},s∈renewed a b→s∈a.map GObj.id:=fun h=>by
  obtain ⟨o,ho,e⟩:=renewed_sub hka h
  exact List.mem_map.2 ⟨o,ho,e⟩
 have hmi:(a.map GObj.id).length=a.length:=List.length_map _
 refine awp_skip<|Sq<|Rg<|Dd (by exact opd_assign_own (id:=907) (sz:=1) (ty:=9) rfl rfl rfl)<|Zz<|Sq<|Sq<|Rg<|Dd as'<|Zz<|awp_block ?_
 refine awp_loop (σ:=Nat) (fun i=>([(2,.ref 2 0 0 0),(3,.ref 3 0 0 0),(6,.osl 907 (dirL (a.take i) b).length 0 (dirL (a.take i) b).length),(7,iv (i:Int))],[(907,⟨(dirL (a.take i) b).length,1,9,sRw (dirL (a.take i) b)⟩),(3,mB b),(2,mB a)])) (fun i=>i≤a.length) (fun i=>a.length - i) 0 (Nat.zero_le _) ?_ ?_
 ·exact(Ent.wk (Ea<|Ea<|Ea<|Eb<|trivial) (Hc (sRw_clo _ _)<|Hc (mB_clo _ _)<|Hc (mB_clo _ _)<|trivial) trivial)
 rintro i hi
 have hTs:(dirL (a.take i) b).length≤i:=by
  rw [dirL,List.length_map]
  exact Nat.le_trans (List.length_filter_le _ _) (by rw [List.length_take];omega)
 refine Sq<|Sq<|Rg<|Dd mv'<|Dd (fr' fo38_0)<|Dd (l1' Tryz.isAgg36)<|Dd (ll' Tryz.underlying36)<|Dd lss'<|Zz ?_
 refine Cn (fun hc2=>?_) fun hc2=>?_
 ·skip
  have hil:i < a.length:=by have:=of_decide_eq_true hc2;omega
  obtain ⟨o,ho⟩:=get_of_lt hil
  have hio:=map_get (f:=encObj) ho
  have hom:=List.mem_of_getElem? ho
  have hnx:=dirL_next (b:=b) ho
  rcases gidx_cases (idIs o.id) b with⟨e1,e2⟩|⟨q,p,e1,e2,e3⟩
  ·have hdi:direct b o=false:=by rw [direct,show look b o.id=none from e2]
   rw [hdi,if_neg (by simp),List.append_nil] at hnx
   refine awp_skip<|Sq<|awp_block<|Sq ?_
   refine awp_drawc follows ?_
   refine Cq (by exact opd_loadn_ref rfl Tryz.isAgg38 Tryz.sizeOf38 rfl rfl rfl rfl (by simp only [Zl,encTag,encObj,encStr,encEdit,encInt];rfl) rfl)<|Cq (fr' fo38_0)<|Cq (l1' Tryz.isAgg36)<|Cq mv'<|Cq (xp' so36)<|Cq (fp' fo49_0)<|Cq (lp' Tryz.isAgg9)<|Cq (by exact opr_call rfl rfl Tryz.call27 rfl (rFindW e1 (by omega) _))<|Cq as' ?_
   refine dc_nil ⟨by kernel_rfl,?_⟩
   refine Sq ?_
   refine awp_mergeR (t:=83) (n:=42) (X:=false) ?_ ?_
   ·refine awp_drawc follows ?_
    refine Cq mv'<|Cq ge'<|Cq mv'<|Ot<|Ot<|Ot<|Ot<|Ot<|Ot<|Ot<|Ot<|Ot<|Ot<|Ot<|Ot<|Ot<|Ot<|Ou<|Ou<|Ou<|Ou<|Ou<|Ou<|Ou<|Ou<|Ou<|Ou<|Ou<|Ou<|Ou<|Ou<|Ou<|Ou<|Ou<|Ou<|Ou<|Ou<|Ou<|Ou<|Ou<|Ot<|Cq pk' ?_
    refine dc_nil ⟨by kernel_rfl,?_⟩
    exact⟨rfl,⟨_,rfl,by rfl⟩,rfl,rfl,rfl⟩
   refine Cn (fun hc3=>?_) fun hc3=>?_
   ·skip
    cases hc3
   skip
   refine awp_skip<|Rg<|Dd mv'<|Dd ad'<|Dd as'<|Zz ?_
   refine⟨i+1,by omega,by omega,?_⟩
   rw [hnx]
   exact(Ent.wk (Ea<|Ea<|Ea<|Eb<|trivial) (Hc (sRw_clo _ _)<|Hc (mB_clo _ _)<|Hc (mB_clo _ _)<|trivial) trivial)
  have hpm:=List.mem_of_getElem? e2
  have hip:=map_get (f:=encObj) e2
  have hq0:decide ((0:Int)≤(q:Int))=true:=decide_eq_true (by omega)
  have hdi:direct b o=(!decide (p.kind=o.kind)||(decide (p.kind=5)&&!decide (o.refs=p.refs))):=by
   rw [direct,show look b o.id=some p from e3]
   show (!decide (p.kind=o.kind)||(decide (o.kind=5)&&!decide (o.refs=p.refs)))=_
   by_cases hk:p.kind=o.kind
   ·rw [hk]
   rw [decide_eq_false hk]
   rfl
  refine awp_skip<|Sq<|awp_block<|Sq ?_
  refine awp_drawc follows ?_
  refine Cq (by exact opd_loadn_ref rfl Tryz.isAgg38 Tryz.sizeOf38 rfl rfl rfl rfl (by simp only [Zl,encTag,encObj,encStr,encEdit,encInt];rfl) rfl)<|Cq (fr' fo38_0)<|Cq (l1' Tryz.isAgg36)<|Cq mv'<|Cq (xp' so36)<|Cq (fp' fo49_0)<|Cq (lp' Tryz.isAgg9)<|Cq (by exact opr_call rfl rfl Tryz.call27 rfl (rFindW e1 (by omega) _))<|Cq as' ?_
  refine dc_nil ⟨by kernel_rfl,?_⟩
  refine Sq ?_
  refine awp_mergeR (t:=83) (n:=42) (X:=direct b o) ?_ ?_
  ·cases hg58:(!decide (p.kind=o.kind):Bool)
   ·cases hg66:(decide (p.kind=5):Bool)
    ·refine awp_drawc follows ?_
     refine Cq mv'<|Cq ge'<|Cq mv'<|Nt (fr' fo38_0)<|Nt (l1' Tryz.isAgg36)<|Nt mv'<|Nt (xp' so36)<|Nt (fp' fo49_1)<|Nt (lp' Tryz.isAgg3)<|Nt (fr' fo38_0)<|Nt (l1' Tryz.isAgg36)<|Nt mv'<|Nt (xp' so36)<|Nt (fp' fo49_1)<|Nt (lp' Tryz.isAgg3)<|Nt ne'<|Nt mv'<|Nf (fr' fo38_0)<|Nf (l1' Tryz.isAgg36)<|Nf mv'<|Nf (xp' so36)<|Nf (fp' fo49_1)<|Nf (lp' Tryz.isAgg3)<|Nf eql'<|Nf mv'<|Ot<|Ot<|Ot<|Ot<|Ot<|Ot<|Ot<|Ot<|Ot<|Ot<|Ot<|Ot<|Ot<|Ot<|Nf pf'<|Nt pf'<|Cq pk' ?_
     refine dc_nil ⟨by kernel_rfl,?_⟩
     exact⟨rfl,⟨_,rfl,by(rw [hdi,hg58,hg66];rfl)⟩,rfl,rfl,rfl⟩
    refine awp_drawc follows ?_
    refine Cq mv'<|Cq ge'<|Cq mv'<|Nt (fr' fo38_0)<|Nt (l1' Tryz.isAgg36)<|Nt mv'<|Nt (xp' so36)<|Nt (fp' fo49_1)<|Nt (lp' Tryz.isAgg3)<|Nt (fr' fo38_0)<|Nt (l1' Tryz.isAgg36)<|Nt mv'<|Nt (xp' so36)<|Nt (fp' fo49_1)<|Nt (lp' Tryz.isAgg3)<|Nt ne'<|Nt mv'<|Nf (fr' fo38_0)<|Nf (l1' Tryz.isAgg36)<|Nf mv'<|Nf (xp' so36)<|Nf (fp' fo49_1)<|Nf (lp' Tryz.isAgg3)<|Nf eql'<|Nf mv'<|Nt (fr' fo38_0)<|Nt (l1' Tryz.isAgg36)<|Nt mv'<|Nt (xp' so36)<|Nt (fp' fo49_3)<|Nt (lp' Tryz.isAgg46)<|Nt (fr' fo38_0)<|Nt (l1' Tryz.isAgg36)<|Nt mv'<|Nt (xp' so36)<|Nt (fp' fo49_3)<|Nt (lp' Tryz.isAgg46)<|Nt (by exact opr_call rfl rfl Tryz.call57 rfl (idsE_c o.refs p.refs _ (hra o hom) (hrb p hpm)))<|Nt no'<|Nf pt'<|Nt pf'<|Cq pk' ?_
    refine dc_nil ⟨by kernel_rfl,?_⟩
    exact⟨rfl,⟨_,rfl,by(rw [hdi,hg58,hg66];rfl)⟩,rfl,rfl,rfl⟩
   refine awp_drawc follows ?_
   refine Cq mv'<|Cq ge'<|Cq mv'<|Nt (fr' fo38_0)<|Nt (l1' Tryz.isAgg36)<|Nt mv'<|Nt (xp' so36)<|Nt (fp' fo49_1)<|Nt (lp' Tryz.isAgg3)<|Nt (fr' fo38_0)<|Nt (l1' Tryz.isAgg36)<|Nt mv'<|Nt (xp' so36)<|Nt (fp' fo49_1)<|Nt (lp' Tryz.isAgg3)<|Nt ne'<|Nt mv'<|Of<|Of<|Of<|Of<|Of<|Of<|Of<|Of<|Ou<|Ou<|Ou<|Ou<|Ou<|Ou<|Ou<|Ou<|Ou<|Ou<|Ou<|Ou<|Ou<|Ou<|Of<|Nt pt'<|Cq pk' ?_
   refine dc_nil ⟨by kernel_rfl,?_⟩
   exact⟨rfl,⟨_,rfl,by(rw [hdi,hg58];rfl)⟩,rfl,rfl,rfl⟩
  refine Cn (fun hc4=>?_) fun hc4=>?_
  ·skip
   have hq:direct b o=true:=hc4
   rw [hq,if_pos rfl] at hnx
   have hnl:(dirL (a.take i) b++[o.id]).length=(dirL (a.take i) b).length+1:=by rw [List.length_append];rfl
   refine Rg<|Dd mv'<|Dd (fr' fo38_0)<|Dd (l1' Tryz.isAgg36)<|Dd mv'<|Dd (xp' so36)<|Dd (fp' fo49_0)<|Dd (lp' Tryz.isAgg9)<|Dd (by exact x_buildSlice [encStr o.id] rfl so46 rfl rfl rfl rfl rfl (by intro r hr;rw [List.mem_singleton] at hr;subst hr;rfl))<|Dd (by exact x_append (ps:=[encStr o.id]) rfl so46 ei9 rfl rfl rfl rfl rfl (sRw_len _) rfl (by intro r hr;rw [List.mem_singleton] at hr;subst hr;rfl) (m:=1) rfl (by omega) rfl (sRw_app _ o.id))<|Dd as'<|Zz<|Rg<|Dd mv'<|Dd ad'<|Dd as'<|Zz ?_
   refine⟨i+1,by omega,by omega,?_⟩
   rw [hnx,hnl]
   exact(Ent.wk (Ea<|Ea<|Ea<|Eb<|trivial) (Hc (sRw_clo _ _)<|Hc (mB_clo _ _)<|Hc (mB_clo _ _)<|trivial) trivial)
  skip
  have hq:direct b o=false:=hc4
  rw [hq,if_neg (by simp),List.append_nil] at hnx
  refine awp_skip<|Rg<|Dd mv'<|Dd ad'<|Dd as'<|Zz ?_
  refine⟨i+1,by omega,by omega,?_⟩
  rw [hnx]
  exact(Ent.wk (Ea<|Ea<|Ea<|Eb<|trivial) (Hc (sRw_clo _ _)<|Hc (mB_clo _ _)<|Hc (mB_clo _ _)<|trivial) trivial)
 skip
 have hil:i=a.length:=by have:=of_decide_eq_false hc2;omega
 subst hil
 rw [List.take_length]
 have hN0:=dir_nodup (a:=a) (b:=b) hga.2.1
 have hS0:∀ s∈dirL a b,s∈renewed a b:=fun s hs=>by
  obtain ⟨o,ho,rfl⟩:=List.mem_map.1 hs
  obtain ⟨h1,h2⟩:=List.mem_filter.1 ho
  exact(renewed_iff hca h1).2 (.inl h2)
 refine awp_exit<|Sq<|Sq<|Rg<|Dd as'<|Zz<|awp_block ?_
 refine awp_loop2 (fun(i:Nat) (X:List ByteArray)=>([(2,.ref 2 0 0 0),(3,.ref 3 0 0 0),(6,.osl 907 X.length 0 X.length),(9,iv (i:Int))],[(907,⟨X.length,1,9,sRw X⟩),(3,mB b),(2,mB a)])) (fun i X=>i≤X.length∧X.Nodup∧(∀ s∈X,s∈renewed a b)∧(∀ s∈dirL a b,s∈X)∧∀ q:Nat,q < i→∀ s:ByteArray,X[q]?=some s→∀ t∈rfTo a s,t∈X) (fun i _=>a.length - i) 0 (dirL a b) ⟨Nat.zero_le _,hN0,hS0,fun s hs=>hs,fun q hq=>absurd hq (Nat.not_lt_zero _)⟩ ?_ ?_
 ·exact(Ent.wk (Ea<|Ea<|Ea<|Eb<|trivial) (Hc (sRw_clo _ _)<|Hc (mB_clo _ _)<|Hc (mB_clo _ _)<|trivial) trivial)
 rintro i X ⟨hi,hN,hS,hD,hC⟩
 have hXl:X.length≤a.length:=by
  have:=nodup_lenX hN (Y:=a.map GObj.id) fun s hs=>hmem (hS s hs)
  omega
 have hsl:=sRw_len X
 refine Sq<|Sq<|Rg<|Dd mv'<|Dd mv'<|Dd (by exact opd_len_osl rfl Tryz.underlying46 rfl rfl rfl)<|Dd lss'<|Zz ?_
 refine Cn (fun hc5=>?_) fun hc5=>?_
 ·skip
  have hil:i < X.length:=by have:=of_decide_eq_true hc5;omega
  obtain ⟨s,hs⟩:=get_of_lt hil
  have his:=sRw_get hs
  have hsr:=hS s (List.mem_of_getElem? hs)
  have hrl:=rfTo_len a s
  have hRf:∀ H,ACalls Tryz.prog 58 [.agg [.pv (slObjs a)],sv s] H (fun r H'=>r=.pv (slStrs (rfTo a s))∧H'=H):=fun H=>refers_c a s H ha (closed_gMap hca) (by omega)
  have hup:∀ t∈rfTo a s,t∈renewed a b:=fun t ht=>ren_up hca hsr ht
  obtain ⟨L,hL⟩:∃ L,L=rfTo a s:=⟨_,rfl⟩
  rw [← hL] at hrl hRf hup
  have hmL:(L.map encStr).length=L.length:=List.length_map _
  refine awp_skip<|Sq<|awp_block<|Sq ?_
  refine awp_drawc follows ?_
  refine Cq (by exact opd_loadn_ref rfl Tryz.isAgg38 Tryz.sizeOf38 rfl rfl rfl rfl (by simp only [Zl,encTag,encObj,encStr,encEdit,encInt];rfl) rfl)<|Cq mv'<|Cq mv'<|Cq (by exact x_index_osl rfl so46 rfl rfl rfl rfl rfl (by omega) (by exact Int.toNat_natCast _) hil (Nat.zero_add _))<|Cq (by exact opd_load1_ref rfl Tryz.isAgg9 rfl rfl rfl his rfl)<|Cq (by exact opr_call rfl rfl Tryz.call58 rfl (hRf _))<|Cq as' ?_
  refine dc_nil ⟨by kernel_rfl,?_⟩
  refine Sq<|Rg<|Dd as'<|Zz<|awp_block ?_
  refine awp_loop2 (fun(k:Nat) (Y:List ByteArray)=>([(2,.ref 2 0 0 0),(3,.ref 3 0 0 0),(6,.osl 907 Y.length 0 Y.length),(9,iv (i:Int)),(10,.pv (slStrs L)),(11,iv (k:Int))],[(907,⟨Y.length,1,9,sRw Y⟩),(3,mB b),(2,mB a)])) (fun k Y=>k≤L.length∧Y.Nodup∧(∀ s∈Y,s∈renewed a b)∧(∀ (q:Nat) (s:ByteArray),X[q]?=some s→Y[q]?=some s)∧(∀ q:Nat,q < k→∀ t:ByteArray,L[q]?=some t→t∈Y)∧X.length≤Y.length) (fun k _=>L.length - k) 0 X ⟨Nat.zero_le _,hN,hS,fun _ _ h=>h,fun q hq=>absurd hq (Nat.not_lt_zero _),Nat.le_refl _⟩ ?_ ?_
  ·exact(Ent.wk (Ea<|Ea<|Ea<|Eb<|Eb<|Eb<|trivial) (Hc (sRw_clo _ _)<|Hc (mB_clo _ _)<|Hc (mB_clo _ _)<|trivial) trivial)
  rintro k Y ⟨hk,hN2,hS2,hP2,hC2,hl2⟩
  have hYl:Y.length≤a.length:=by
   have:=nodup_lenX hN2 (Y:=a.map GObj.id) fun s hs=>hmem (hS2 s hs)
   omega
  have hsl2:=sRw_len Y
  refine Sq<|Sq<|Rg<|Dd mv'<|Dd mv'<|Dd (ll' Tryz.underlying46)<|Dd lss'<|Zz ?_
  refine Cn (fun hc6=>?_) fun hc6=>?_
  ·skip
   have hkl:k < L.length:=by have:=of_decide_eq_true hc6;omega
   obtain ⟨t,ht⟩:=get_of_lt hkl
   have hit:=map_get (f:=encStr) ht
   have htr:=hup t (List.mem_of_getElem? ht)
   refine awp_skip<|Sq<|awp_block<|Sq<|Rg<|Dd mv'<|Dd mv'<|Dd mv'<|Dd (xp' so46)<|Dd (lp' Tryz.isAgg9)<|Dd (by exact opr_call rfl rfl Tryz.call59 rfl (inS_c Y t _ 907 Y.length rfl (by omega)))<|Dd no'<|Zz ?_
   refine Cn (fun hc7=>?_) fun hc7=>?_
   ·skip
    have hq:inB Y t=false:=by have h:=hc7;rwa [Bool.not_eq_true'] at h
    have htn:t∉Y:=fun h=>by rw [inB_iff.2 h] at hq;cases hq
    have hnl:(Y++[t]).length=Y.length+1:=by rw [List.length_append];rfl
    refine Rg<|Dd mv'<|Dd mv'<|Dd mv'<|Dd (xp' so46)<|Dd (lp' Tryz.isAgg9)<|Dd (by exact x_buildSlice [encStr t] rfl so46 rfl rfl rfl rfl rfl (by intro r hr;rw [List.mem_singleton] at hr;subst hr;rfl))<|Dd (by exact x_append (ps:=[encStr t]) rfl so46 ei9 rfl rfl rfl rfl rfl (sRw_len _) rfl (by intro r hr;rw [List.mem_singleton] at hr;subst hr;rfl) (m:=1) rfl (by omega) rfl (sRw_app _ t))<|Dd as'<|Zz<|Rg<|Dd mv'<|Dd ad'<|Dd as'<|Zz ?_
    refine⟨k+1,Y++[t],⟨by omega,?_,?_,?_,?_,by omega⟩,by omega,?_⟩
    ·rw [List.nodup_append]
     exact⟨hN2,List.nodup_cons.2 ⟨List.not_mem_nil,List.nodup_nil⟩,fun x hx y hy e=>by rw [List.mem_singleton] at hy;subst hy;subst e;exact htn hx⟩
    ·intro s hs
     rcases List.mem_append.1 hs with h|h
     ·exact hS2 s h
     rw [List.mem_singleton.1 h];exact htr
    ·intro q s hs
     have h1:=hP2 q s hs
     rw [List.getElem?_append_left (List.getElem?_eq_some_iff.1 h1).1]
     exact h1
    ·intro q hq t2 ht2
     by_cases e:q=k
     ·subst e
      rw [ht] at ht2
      cases ht2
      exact List.mem_append_right _ (List.mem_singleton.2 rfl)
     exact List.mem_append_left _ (hC2 q (by omega) t2 ht2)
    rw [hnl]
    exact(Ent.wk (Ea<|Ea<|Ea<|Eb<|Eb<|Eb<|trivial) (Hc (sRw_clo _ _)<|Hc (mB_clo _ _)<|Hc (mB_clo _ _)<|trivial) trivial)
   skip
   have hq:inB Y t=true:=by have h:=hc7;rwa [Bool.not_eq_false'] at h
   refine awp_skip<|Rg<|Dd mv'<|Dd ad'<|Dd as'<|Zz ?_
   refine⟨k+1,Y,⟨by omega,hN2,hS2,hP2,?_,hl2⟩,by omega,(Ent.wk (Ea<|Ea<|Ea<|Eb<|Eb<|Eb<|trivial) (Hc (sRw_clo _ _)<|Hc (mB_clo _ _)<|Hc (mB_clo _ _)<|trivial) trivial)⟩
   intro q hq2 t2 ht2
   by_cases e:q=k
   ·subst e
    rw [ht] at ht2
    cases ht2
    exact inB_iff.1 hq
   exact hC2 q (by omega) t2 ht2
  skip
  have hkl:k=L.length:=by have:=of_decide_eq_false hc6;omega
  refine awp_exit<|Rg<|Dd mv'<|Dd ad'<|Dd as'<|Zz ?_
  refine⟨i+1,Y,⟨by omega,hN2,hS2,?_,?_⟩,by omega,(Ent.wk (Ea<|Ea<|Ea<|Eb<|trivial) (Hc (sRw_clo _ _)<|Hc (mB_clo _ _)<|Hc (mB_clo _ _)<|trivial) trivial)⟩
  ·intro z hz
   obtain ⟨q,hq⟩:=List.mem_iff_getElem?.1 (hD z hz)
   exact List.mem_of_getElem? (hP2 q z hq)
  intro q hq z hz t ht
  have hqX:X[q]?=some z:=by
   obtain ⟨z2,hz2⟩:=get_of_lt (l:=X) (k:=q) (by omega)
   rw [← hz,hP2 q z2 hz2,hz2]
  by_cases e:q=i
  ·subst e
   rw [hs] at hqX
   cases hqX
   rw [← hL] at ht
   obtain ⟨k2,hk2⟩:=List.mem_iff_getElem?.1 ht
   have:=(List.getElem?_eq_some_iff.1 hk2).1
   exact hC2 k2 (by omega) t hk2
  obtain ⟨q2,hq2⟩:=List.mem_iff_getElem?.1 (hC q (by omega) z hqX t ht)
  exact List.mem_of_getElem? (hP2 q2 t hq2)
 skip
 have hil:i=X.length:=by have:=of_decide_eq_false hc5;omega
 have hXi:=ren_all hca (fun o ho hd=>hD _ (List.mem_map.2 ⟨o,List.mem_filter.2 ⟨ho,hd⟩,rfl⟩)) (fun s hs t ht=>by
  obtain ⟨q,hq⟩:=List.mem_iff_getElem?.1 hs
  have:=(List.getElem?_eq_some_iff.1 hq).1
  exact hC q (by omega) s hq t ht) hS
 have hX:∀ s,inB X s=inB (renewed a b) s:=fun s=>by rw [Bool.eq_iff_iff,inB_iff,inB_iff];exact hXi s
 have hfin:=refBet_eq hca hcb hX
 rw [refBet,← chA_all,← putA_all] at hfin
 rw [← hfin] at hgb2
 have d1:=dropR_len a b X true
 have d2:=dropR_len a b X false
 clear hXi hX hfin hC hD hS hN hS0 hN0 hTs hi
 refine awp_exit<|Sq ?_
 refine AWp.ent (Ent.fzG (id:=907) (E':=[(2,.ref 2 0 0 0),(3,.ref 3 0 0 0),(6,.pv (slStrs X))]) (H':=[(3,mB b),(2,mB a)]) (X.map encStr) rfl (sRw_pv X) ?_ rfl ?_ ?_) ?_
 ·intro p hp
  simp only [List.mem_cons,List.not_mem_nil,or_false] at hp
  rcases hp with rfl|rfl|rfl
  ·exact⟨_,rfl,.same (by simp;try rfl)⟩
  ·exact⟨_,rfl,.same (by simp;try rfl)⟩
  exact⟨_,rfl,.osl (take_rows encStr X)⟩
 ·exact⟨⟨_,rfl,rfl,rfl,rfl,fzr_one rfl (fz_cons (.same (by simp;try rfl)) fz_nil)⟩,⟨_,rfl,rfl,rfl,rfl,fzr_one rfl (fz_cons (.same (by simp;try rfl)) fz_nil)⟩,trivial⟩
 ·exact trivial
 obtain ⟨D1,hD1⟩:∃ D,D=dropR a b X true:=⟨_,rfl⟩
 obtain ⟨D2,hD2⟩:∃ D,D=dropR a b X false:=⟨_,rfl⟩
 have hdr1:∀ H,ACalls Tryz.prog 60 [.agg [.pv (slObjs a)],.agg [.pv (slObjs b)],.pv (slStrs X),bv true] H (fun r H'=>r=.pv (slEdits D1)∧H'=H):=fun H=>by
  have:=drops_c a b X true H (by omega) (by omega) (by omega) hka
  rwa [← hD1] at this
 have hdr2:∀ H,ACalls Tryz.prog 60 [.agg [.pv (slObjs a)],.agg [.pv (slObjs b)],.pv (slStrs X),bv false] H (fun r H'=>r=.pv (slEdits D2)∧H'=H):=fun H=>by
  have:=drops_c a b X false H (by omega) (by omega) (by omega) hka
  rwa [← hD2] at this
 rw [← hD1] at d1 hgb2
 rw [← hD2] at d2 hgb2
 refine Rg<|Dd (by exact opd_assign_own (id:=905) (sz:=15) (ty:=51) rfl rfl rfl)<|Zz<|Sq<|Rg<|Dd mv'<|Dd (by exact opd_loadn_ref rfl Tryz.isAgg38 Tryz.sizeOf38 rfl rfl rfl rfl (by simp only [Zl,encTag,encObj,encStr,encEdit,encInt];rfl) rfl)<|Dd (by exact opd_loadn_ref rfl Tryz.isAgg38 Tryz.sizeOf38 rfl rfl rfl rfl (by simp only [Zl,encTag,encObj,encStr,encEdit,encInt];rfl) rfl)<|Dd mv'<|Dd (by exact opr_call rfl rfl Tryz.call60 rfl (hdr1 _))<|Dd (by exact x_append (ps:=D1.map encEdit) rfl so22 ei51 rfl rfl rfl rfl rfl rfl rfl (rlE D1) (m:=D1.length) (List.length_map _) (by omega) (Nat.zero_add _) (eRows_ofY2 D1))<|Dd as'<|Zz<|Sq<|Sq<|Rg<|Dd as'<|Zz<|awp_block ?_
 refine awp_loop2 (fun(z g:Nat)=>([(2,.ref 2 0 0 0),(3,.ref 3 0 0 0),(6,.pv (slStrs X)),(12,.osl 905 g 0 (D1++putA a b X z 0).length),(13,iv (z:Int))],[(905,⟨g,15,51,eRows (D1++putA a b X z 0)⟩),(3,mB b),(2,mB a)])) (fun z g=>z≤3) (fun z g=>3 - z) 0 1 (Nat.zero_le _) ?_ ?_
 ·rw [putA_zero,List.append_nil]
  exact(Ent.wk (Ea<|Ea<|Eb<|Ea<|Eb<|trivial) (Hc (eRows_clo _ _)<|Hc (mB_clo _ _)<|Hc (mB_clo _ _)<|trivial) trivial)
 rintro z g hz
 refine Sq<|Sq<|Rg<|Dd mv'<|Dd lss'<|Zz ?_
 refine Cn (fun hc8=>?_) fun hc8=>?_
 ·skip
  have hzl:z < 3:=by have:=of_decide_eq_true hc8;omega
  have hrow:=putA_row (a:=a) (b:=b) (X:=X) hzl
  refine awp_skip<|Sq<|awp_block<|Sq<|Rg<|Dd as'<|Zz<|awp_block ?_
  refine awp_loop2 (fun(i g:Nat)=>([(2,.ref 2 0 0 0),(3,.ref 3 0 0 0),(6,.pv (slStrs X)),(12,.osl 905 g 0 (D1++putA a b X z i).length),(13,iv (z:Int)),(14,iv (i:Int))],[(905,⟨g,15,51,eRows (D1++putA a b X z i)⟩),(3,mB b),(2,mB a)])) (fun i g=>i≤b.length) (fun i g=>b.length - i) 0 g (Nat.zero_le _) ?_ ?_
  ·exact(Ent.wk (Ea<|Ea<|Eb<|Ea<|Eb<|Eb<|trivial) (Hc (eRows_clo _ _)<|Hc (mB_clo _ _)<|Hc (mB_clo _ _)<|trivial) trivial)
  rintro i g hi
  have hTs:=putA_len a b X (z:=z) (i:=i)
  have hTl:(D1++putA a b X z i).length=D1.length+(putA a b X z i).length:=List.length_append
  refine Sq<|Sq<|Rg<|Dd mv'<|Dd (fr' fo38_0)<|Dd (l1' Tryz.isAgg36)<|Dd (ll' Tryz.underlying36)<|Dd lss'<|Zz ?_
  refine Cn (fun hc9=>?_) fun hc9=>?_
  ·skip
   have hil:i < b.length:=by have:=of_decide_eq_true hc9;omega
   obtain ⟨o,ho⟩:=get_of_lt hil
   have hio:=map_get (f:=encObj) ho
   have hkk:=hkb o (List.mem_of_getElem? ho)
   have hnx:=putA_next (a:=a) (X:=X) (z:=z) ho
   have hlk:=rLook (b:=a) (s:=o.id)
   refine awp_skip<|Sq<|awp_block<|Sq<|Rg<|Dd (fr' fo38_0)<|Dd (l1' Tryz.isAgg36)<|Dd mv'<|Dd (xp' so36)<|Dd (by exact opd_loadn_pad rfl Tryz.isAgg49 Tryz.sizeOf49 rfl (by omega) (by simp only [Zl,encTag,encObj,encStr,encEdit,encInt];rfl) rfl)<|Dd (by exact x_alloc (id:=15) rfl zo49 rfl rfl)<|Uu (sa' Tryz.sizeOf49)<|Zz<|Sq ?_
   refine awp_bool (t:=163) (n:=19) (X:=putQ a X (z:Int) o) ?_ ?_
   ·all_goals refine Dd (by exact opd_loadn_ref rfl Tryz.isAgg49 Tryz.sizeOf49 rfl rfl rfl rfl (by simp only [Zl,encTag,encObj,encStr,encEdit,encInt];rfl) rfl) ?_
    all_goals refine Dd (by exact opr_call rfl rfl Tryz.call61 rfl (rLayer_c o _ hkk)) ?_
    all_goals refine Dd mv' ?_
    all_goals refine Dd eql' ?_
    all_goals refine Dd mv' ?_
    all_goals refine Sp 151 (fun h151=>?_) fun h151=>?_
    all_goals try contradiction
    all_goals first|refine Fo ?_|refine On (by exact opd_loadn_ref rfl Tryz.isAgg38 Tryz.sizeOf38 rfl rfl rfl rfl (by simp only [Zl,encTag,encObj,encStr,encEdit,encInt];rfl) rfl) ?_
    all_goals first|refine Fo ?_|refine On (fr' fo49_0) ?_
    all_goals first|refine Fo ?_|refine On (l1' Tryz.isAgg9) ?_
    all_goals first|refine Fo ?_|refine On (by exact opr_call rfl rfl Tryz.call27 rfl (rFind_c a o.id _ (by omega))) ?_
    all_goals first|refine Fo ?_|refine On lss' ?_
    all_goals first|refine Fo ?_|refine On mv' ?_
    all_goals(first|refine Sp 157 (fun h157=>?_) fun h157=>?_|refine al_dup (t:=157) rfl ?_)
    all_goals try contradiction
    all_goals first|refine Fo ?_|refine Fu ?_|refine On mv' ?_
    all_goals first|refine Fo ?_|refine Fu ?_|refine On (fr' fo49_0) ?_
    all_goals first|refine Fo ?_|refine Fu ?_|refine On (l1' Tryz.isAgg9) ?_
    all_goals first|refine Fo ?_|refine Fu ?_|refine On (by exact opr_call rfl rfl Tryz.call59 rfl (in12_c X o.id _ (by omega))) ?_
    all_goals first|refine Fo ?_|refine On pk' ?_
    all_goals refine Dd pk' ?_
    all_goals refine al_nil ?_
    all_goals(exact⟨⟨_,rfl,by first|(rw [putQ,h151];rfl)|(rw [putQ,← hlk,h151,h157];rfl)⟩,rfl,rfl,rfl⟩)
   refine Cn (fun hc10=>?_) fun hc10=>?_
   ·skip
    have hq:putQ a X (z:Int) o=true:=hc10
    rw [hq,if_pos rfl] at hnx
    have hnl:(D1++(putA a b X z i++[putE o])).length=(D1++putA a b X z i).length+1:=by rw [← List.append_assoc,List.length_append];rfl
    refine Rg<|Dd mv'<|Dd (by exact opd_loadn_ref rfl Tryz.isAgg49 Tryz.sizeOf49 rfl rfl rfl rfl (by simp only [Zl,encTag,encObj,encStr,encEdit,encInt];rfl) rfl)<|Dd (bu' bo51)<|Dd (by exact x_buildSlice [encEdit (putE o)] rfl so22 rfl rfl rfl rfl rfl (by intro r hr;rw [List.mem_singleton] at hr;subst hr;rfl))<|Dd (by exact x_append (ps:=[encEdit (putE o)]) rfl so22 ei51 rfl rfl rfl rfl rfl (eRows_len _) rfl (by intro r hr;rw [List.mem_singleton] at hr;subst hr;rfl) (m:=1) rfl (by omega) rfl (eRows_app _ (putE o)))<|Dd as'<|Zz<|Rg<|Dd mv'<|Dd ad'<|Dd as'<|Zz ?_
    refine⟨i+1,g+1,by omega,by omega,?_⟩
    rw [hnx,hnl,← List.append_assoc]
    exact(Ent.wk (Ea<|Ea<|Eb<|Ea<|Eb<|Eb<|trivial) (Hc (eRows_clo _ _)<|Hc (mB_clo _ _)<|Hc (mB_clo _ _)<|trivial) trivial)
   skip
   have hq:putQ a X (z:Int) o=false:=hc10
   rw [hq,if_neg (by simp),List.append_nil] at hnx
   refine awp_skip<|Rg<|Dd mv'<|Dd ad'<|Dd as'<|Zz ?_
   refine⟨i+1,g,by omega,by omega,?_⟩
   rw [hnx]
   exact(Ent.wk (Ea<|Ea<|Eb<|Ea<|Eb<|Eb<|trivial) (Hc (eRows_clo _ _)<|Hc (mB_clo _ _)<|Hc (mB_clo _ _)<|trivial) trivial)
  skip
  have hil:i=b.length:=by have:=of_decide_eq_false hc9;omega
  subst hil
  rw [hrow]
  refine awp_exit<|Rg<|Dd mv'<|Dd ad'<|Dd as'<|Zz ?_
  exact⟨z+1,g,by omega,by omega,(Ent.wk (Ea<|Ea<|Eb<|Ea<|Eb<|trivial) (Hc (eRows_clo _ _)<|Hc (mB_clo _ _)<|Hc (mB_clo _ _)<|trivial) trivial)⟩
 skip
 have hzl:z=3:=by have:=of_decide_eq_false hc8;omega
 subst hzl
 have hPl:=putA_len a b X (z:=3) (i:=0)
 obtain ⟨P,hP⟩:∃ P,P=D1++putA a b X 3 0:=⟨_,rfl⟩
 have hPl2:P.length=D1.length+(putA a b X 3 0).length:=by rw [hP];exact List.length_append
 rw [← List.append_assoc,← hP] at hgb2
 rw [← hP]
 refine awp_exit<|Sq<|Sq<|Rg<|Dd as'<|Zz<|awp_block ?_
 refine awp_loop2 (fun(w g:Nat)=>([(2,.ref 2 0 0 0),(3,.ref 3 0 0 0),(6,.pv (slStrs X)),(12,.osl 905 g 0 (P++chA a b X w 0).length),(16,iv (w:Int))],[(905,⟨g,15,51,eRows (P++chA a b X w 0)⟩),(3,mB b),(2,mB a)])) (fun w g=>w≤3) (fun w g=>3 - w) 0 g (Nat.zero_le _) ?_ ?_
 ·rw [chA_zero,List.append_nil]
  exact(Ent.wk (Ea<|Ea<|Eb<|Ea<|Eb<|trivial) (Hc (eRows_clo _ _)<|Hc (mB_clo _ _)<|Hc (mB_clo _ _)<|trivial) trivial)
 rintro w g hw
 refine Sq<|Sq<|Rg<|Dd mv'<|Dd lss'<|Zz ?_
 refine Cn (fun hc11=>?_) fun hc11=>?_
 ·skip
  have hwl:w < 3:=by have:=of_decide_eq_true hc11;omega
  have hrow:=chA_row (a:=a) (b:=b) (X:=X) hwl
  refine awp_skip<|Sq<|awp_block<|Sq<|Rg<|Dd as'<|Zz<|awp_block ?_
  refine awp_loop2 (fun(i g:Nat)=>([(2,.ref 2 0 0 0),(3,.ref 3 0 0 0),(6,.pv (slStrs X)),(12,.osl 905 g 0 (P++chA a b X w i).length),(16,iv (w:Int)),(17,iv (i:Int))],[(905,⟨g,15,51,eRows (P++chA a b X w i)⟩),(3,mB b),(2,mB a)])) (fun i g=>i≤b.length) (fun i g=>b.length - i) 0 g (Nat.zero_le _) ?_ ?_
  ·exact(Ent.wk (Ea<|Ea<|Eb<|Ea<|Eb<|Eb<|trivial) (Hc (eRows_clo _ _)<|Hc (mB_clo _ _)<|Hc (mB_clo _ _)<|trivial) trivial)
  rintro i g hi
  have hTs:=chA_len (a:=a) (b:=b) (X:=X) (w:=w) (i:=i) hta htb
  have hTl:(P++chA a b X w i).length=P.length+(chA a b X w i).length:=List.length_append
  refine Sq<|Sq<|Rg<|Dd mv'<|Dd (fr' fo38_0)<|Dd (l1' Tryz.isAgg36)<|Dd (ll' Tryz.underlying36)<|Dd lss'<|Zz ?_
  refine Cn (fun hc12=>?_) fun hc12=>?_
  ·skip
   have hil:i < b.length:=by have:=of_decide_eq_true hc12;omega
   obtain ⟨o,ho⟩:=get_of_lt hil
   have hio:=map_get (f:=encObj) ho
   have hom:=List.mem_of_getElem? ho
   have hnx:=chA_next (a:=a) (X:=X) (w:=w) ho
   rcases gidx_cases (idIs o.id) a with⟨e1,e2⟩|⟨q,p,e1,e2,e3⟩
   ·have hcf:chF a X (w:Int) o=[]:=by rw [chF,show look a o.id=none from e2]
    rw [hcf,List.append_nil] at hnx
    refine awp_skip<|Sq<|awp_block<|Sq ?_
    refine awp_drawc follows ?_
    refine Cq (by exact opd_loadn_ref rfl Tryz.isAgg38 Tryz.sizeOf38 rfl rfl rfl rfl (by simp only [Zl,encTag,encObj,encStr,encEdit,encInt];rfl) rfl)<|Cq (fr' fo38_0)<|Cq (l1' Tryz.isAgg36)<|Cq mv'<|Cq (xp' so36)<|Cq (fp' fo49_0)<|Cq (lp' Tryz.isAgg9)<|Cq (by exact opr_call rfl rfl Tryz.call27 rfl (rFindW e1 (by omega) _))<|Cq as' ?_
    refine dc_nil ⟨by kernel_rfl,?_⟩
    refine Sq ?_
    refine awp_bool (t:=200) (n:=14) (X:=false) ?_ ?_
    ·all_goals refine Dd mv' ?_
     all_goals refine Dd ge' ?_
     all_goals refine Dd mv' ?_
     all_goals refine Sp 190 (fun h190=>?_) fun h190=>?_
     all_goals try contradiction
     all_goals(refine al_off rfl rfl rfl rfl rfl ?_)
     all_goals(refine al_off rfl rfl rfl rfl rfl ?_)
     all_goals(refine al_off rfl rfl rfl rfl rfl ?_)
     all_goals(refine al_off rfl rfl rfl rfl rfl ?_)
     all_goals(refine al_off rfl rfl rfl rfl rfl ?_)
     all_goals(refine al_off rfl rfl rfl rfl rfl ?_)
     all_goals(refine al_off rfl rfl rfl rfl rfl ?_)
     all_goals(refine al_off rfl rfl rfl rfl rfl ?_)
     all_goals(refine al_off rfl rfl rfl rfl rfl ?_)
     all_goals refine Dd pk' ?_
     all_goals refine al_nil ?_
     all_goals(exact⟨⟨_,rfl,by rfl⟩,rfl,rfl,rfl⟩)
    refine Cn (fun hc13=>?_) fun hc13=>?_
    ·skip
     cases hc13
    skip
    refine awp_skip<|Rg<|Dd mv'<|Dd ad'<|Dd as'<|Zz ?_
    refine⟨i+1,g,by omega,by omega,?_⟩
    rw [hnx]
    exact(Ent.wk (Ea<|Ea<|Eb<|Ea<|Eb<|Eb<|trivial) (Hc (eRows_clo _ _)<|Hc (mB_clo _ _)<|Hc (mB_clo _ _)<|trivial) trivial)
   have hpm:=List.mem_of_getElem? e2
   have hip:=map_get (f:=encObj) e2
   have hq0:decide ((0:Int)≤(q:Int))=true:=decide_eq_true (by omega)
   have hcf:chF a X (w:Int) o=if inB X o.id then[] else chgR p o (w:Int):=by rw [chF,show look a o.id=some p from e3]
   have hcl:(chF a X (w:Int) o).length≤120:=chF_len hta htb o hom
   rw [hcf] at hcl hnx
   refine awp_skip<|Sq<|awp_block<|Sq ?_
   refine awp_drawc follows ?_
   refine Cq (by exact opd_loadn_ref rfl Tryz.isAgg38 Tryz.sizeOf38 rfl rfl rfl rfl (by simp only [Zl,encTag,encObj,encStr,encEdit,encInt];rfl) rfl)<|Cq (fr' fo38_0)<|Cq (l1' Tryz.isAgg36)<|Cq mv'<|Cq (xp' so36)<|Cq (fp' fo49_0)<|Cq (lp' Tryz.isAgg9)<|Cq (by exact opr_call rfl rfl Tryz.call27 rfl (rFindW e1 (by omega) _))<|Cq as' ?_
   refine dc_nil ⟨by kernel_rfl,?_⟩
   refine Sq ?_
   refine awp_bool (t:=200) (n:=14) (X:=!inB X o.id) ?_ ?_
   ·all_goals refine Dd mv' ?_
    all_goals refine Dd ge' ?_
    all_goals refine Dd mv' ?_
    all_goals refine Sp 190 (fun h190=>?_) fun h190=>?_
    all_goals try contradiction
    all_goals(refine al_ond rfl rfl rfl rfl rfl rfl (by exact opd_move rfl rfl) ?_)
    all_goals(refine al_ond rfl rfl rfl rfl rfl rfl (by exact opd_field_ref rfl fo38_0 rfl rfl rfl rfl) ?_)
    all_goals(refine al_ond rfl rfl rfl rfl rfl rfl (by exact opd_load1_ref rfl Tryz.isAgg36 rfl rfl rfl rfl rfl) ?_)
    all_goals(refine al_ond rfl rfl rfl rfl rfl rfl (by exact opd_move rfl rfl) ?_)
    all_goals(refine al_ond rfl rfl rfl rfl rfl rfl (by exact x_index_pad rfl so36 rfl rfl (by omega) (by exact Int.toNat_natCast _) (by assumption) rfl) ?_)
    all_goals(refine al_ond rfl rfl rfl rfl rfl rfl (by exact opd_field_pad rfl fo49_0 rfl rfl) ?_)
    all_goals(refine al_ond rfl rfl rfl rfl rfl rfl (by exact opd_load1_pad rfl Tryz.isAgg9 rfl (by omega) rfl) ?_)
    all_goals(refine al_ond rfl rfl rfl rfl rfl rfl (by exact opr_call rfl rfl Tryz.call59 rfl (in12_c X o.id _ (by omega))) ?_)
    all_goals(refine al_ond rfl rfl rfl rfl rfl rfl (by exact opd_not rfl rfl) ?_)
    all_goals refine Dd pk' ?_
    all_goals refine al_nil ?_
    all_goals(exact⟨⟨_,rfl,by rfl⟩,rfl,rfl,rfl⟩)
   refine Cn (fun hc14=>?_) fun hc14=>?_
   ·skip
    have hq:inB X o.id=false:=by have h:=hc14;rwa [Bool.not_eq_true'] at h
    rw [hq,if_neg (by simp)] at hnx hcl
    have hCc:∀ H,ACalls Tryz.prog 62 [av (encObj p),av (encObj o),iv (w:Int)] H (fun r H'=>r=.pv (slEdits (chgR p o (w:Int)))∧H'=H):=fun H=>chgR_c p o (w:Int) H (hta p hpm) (htb o hom) (hra p hpm) (hrb o hom)
    obtain ⟨C,hC⟩:∃ C,C=chgR p o (w:Int):=⟨_,rfl⟩
    rw [← hC] at hCc hnx hcl
    have hnl:(P++chA a b X w i).length+C.length=(P++chA a b X w (i+1)).length:=by rw [hnx,← List.append_assoc];exact List.length_append.symm
    have hnr:eRows (P++chA a b X w i)++(C.map encEdit).map (·.map .pv)=eRows (P++chA a b X w (i+1)):=by rw [hnx,← List.append_assoc];exact eRows_more _ C
    refine awp_drawc follows ?_
    refine dc_cons (r:=⟨_,none,[]⟩) (DStep.plain rfl (fun H1 hH=>by exact opd_move rfl rfl)) rfl ?_
    refine dc_cons (r:=⟨_,none,[]⟩) (DStep.plain rfl (fun H1 hH=>by exact(by exact opd_field_ref rfl fo38_0 rfl ((hH _ rfl).trans rfl) rfl rfl))) rfl ?_
    refine dc_cons (r:=⟨_,none,[]⟩) (DStep.plain rfl (fun H1 hH=>by exact(by exact opd_load1_ref rfl Tryz.isAgg36 rfl ((hH _ rfl).trans rfl) rfl rfl rfl))) rfl ?_
    refine dc_cons (r:=⟨_,none,[]⟩) (DStep.plain rfl (fun H1 hH=>by exact opd_move rfl rfl)) rfl ?_
    refine dc_cons (r:=⟨_,none,[]⟩) (DStep.plain rfl (fun H1 hH=>by exact(by exact x_index_pad rfl so36 rfl rfl (by omega) (by exact Int.toNat_natCast _) (by assumption) rfl))) rfl ?_
    refine dc_cons (r:=⟨_,none,[]⟩) (DStep.plain rfl (fun H1 hH=>by exact(by exact opd_loadn_pad rfl Tryz.isAgg49 Tryz.sizeOf49 rfl (by omega) (by simp only [Zl,encTag,encObj,encStr,encEdit,encInt];rfl) rfl))) rfl ?_
    refine dc_cons (r:=⟨_,none,[]⟩) (DStep.plain rfl (fun H1 hH=>by exact(by exact opd_field_ref rfl fo38_0 rfl ((hH _ rfl).trans rfl) rfl rfl))) rfl ?_
    refine dc_cons (r:=⟨_,none,[]⟩) (DStep.plain rfl (fun H1 hH=>by exact(by exact opd_load1_ref rfl Tryz.isAgg36 rfl ((hH _ rfl).trans rfl) rfl rfl rfl))) rfl ?_
    refine dc_cons (r:=⟨_,none,[]⟩) (DStep.plain rfl (fun H1 hH=>by exact opd_move rfl rfl)) rfl ?_
    refine dc_cons (r:=⟨_,none,[]⟩) (DStep.plain rfl (fun H1 hH=>by exact(by exact x_index_pad rfl so36 rfl rfl (by omega) (by exact Int.toNat_natCast _) (by assumption) rfl))) rfl ?_
    refine dc_cons (r:=⟨_,none,[]⟩) (DStep.plain rfl (fun H1 hH=>by exact(by exact opd_loadn_pad rfl Tryz.isAgg49 Tryz.sizeOf49 rfl (by omega) (by simp only [Zl,encTag,encObj,encStr,encEdit,encInt];rfl) rfl))) rfl ?_
    refine dc_cons (r:=⟨_,none,[]⟩) (DStep.plain rfl (fun H1 hH=>by exact opd_move rfl rfl)) rfl ?_
    refine dc_cons (r:=⟨_,none,[]⟩) (DStep.plain rfl (fun H1 hH=>by exact opr_call rfl rfl Tryz.call62 rfl (hCc _))) rfl ?_
    refine dc_cons (r:=⟨_,none,[_]⟩) (DStep.plain rfl (fun H1 hH=>by exact x_append (ps:=C.map encEdit) rfl so22 ei51 rfl ((hH _ rfl).trans rfl) rfl rfl rfl (eRows_len _) rfl (rlE C) (m:=C.length) (List.length_map _) (by omega) hnl hnr)) rfl ?_
    refine dc_cons (r:=⟨_,none,[]⟩) (DStep.plain rfl (fun H1 hH=>by exact opd_assign rfl rfl)) rfl ?_
    refine dc_nil ⟨by kernel_rfl,?_⟩
    refine Rg<|Dd mv'<|Dd ad'<|Dd as'<|Zz ?_
    exact⟨i+1,g+1,by omega,by omega,(Ent.wk (Ea<|Ea<|Eb<|Ea<|Eb<|Eb<|trivial) (Hc (eRows_clo _ _)<|Hc (mB_clo _ _)<|Hc (mB_clo _ _)<|trivial) trivial)⟩
   skip
   have hq:inB X o.id=true:=by have h:=hc14;rwa [Bool.not_eq_false'] at h
   rw [hq,if_pos rfl,List.append_nil] at hnx
   refine awp_skip<|Rg<|Dd mv'<|Dd ad'<|Dd as'<|Zz ?_
   refine⟨i+1,g,by omega,by omega,?_⟩
   rw [hnx]
   exact(Ent.wk (Ea<|Ea<|Eb<|Ea<|Eb<|Eb<|trivial) (Hc (eRows_clo _ _)<|Hc (mB_clo _ _)<|Hc (mB_clo _ _)<|trivial) trivial)
  skip
  have hil:i=b.length:=by have:=of_decide_eq_false hc12;omega
  subst hil
  rw [hrow]
  refine awp_exit<|Rg<|Dd mv'<|Dd ad'<|Dd as'<|Zz ?_
  exact⟨w+1,g,by omega,by omega,(Ent.wk (Ea<|Ea<|Eb<|Ea<|Eb<|trivial) (Hc (eRows_clo _ _)<|Hc (mB_clo _ _)<|Hc (mB_clo _ _)<|trivial) trivial)⟩
 skip
 have hwl:w=3:=by have:=of_decide_eq_false hc11;omega
 subst hwl
 have hCl:=chA_len (a:=a) (b:=b) (X:=X) (w:=3) (i:=0) hta htb
 obtain ⟨Q,hQ⟩:∃ Q,Q=P++chA a b X 3 0:=⟨_,rfl⟩
 have hQl:Q.length=P.length+(chA a b X 3 0).length:=by rw [hQ];exact List.length_append
 rw [← List.append_assoc,← hQ] at hgb2
 rw [← hQ]
 have hnl:Q.length+D2.length=(Q++D2).length:=List.length_append.symm
 have hnr:eRows Q++(D2.map encEdit).map (·.map .pv)=eRows (Q++D2):=eRows_more Q D2
 obtain ⟨R,hR⟩:∃ R,R=Q++D2:=⟨_,rfl⟩
 rw [← hR] at hnl hnr hgb2
 refine awp_exit<|Sq<|Rg<|Dd mv'<|Dd (by exact opd_loadn_ref rfl Tryz.isAgg38 Tryz.sizeOf38 rfl rfl rfl rfl (by simp only [Zl,encTag,encObj,encStr,encEdit,encInt];rfl) rfl)<|Dd (by exact opd_loadn_ref rfl Tryz.isAgg38 Tryz.sizeOf38 rfl rfl rfl rfl (by simp only [Zl,encTag,encObj,encStr,encEdit,encInt];rfl) rfl)<|Dd mv'<|Dd (by exact opr_call rfl rfl Tryz.call60 rfl (hdr2 _))<|Dd (by exact x_append (ps:=D2.map encEdit) rfl so22 ei51 rfl rfl rfl rfl rfl (eRows_len _) rfl (rlE D2) (m:=D2.length) (List.length_map _) (by omega) hnl hnr)<|Dd as'<|Zz<|Sq<|Sq<|Rg<|Dd mv'<|Dd (by exact opd_len_osl rfl Tryz.underlying22 rfl rfl rfl)<|Dd gt'<|Zz ?_
 refine Cn (fun hc15=>?_) fun hc15=>?_
 ·skip
  have h200:200 < R.length:=by have:=of_decide_eq_true hc15;omega
  rw [if_pos h200] at hgb2
  rw [hgb2]
  refine Sq<|Rg<|Dd as'<|Dd as'<|Zz<|awp_ret ?_
  refine aret2 (H':=[]) (.inr rfl) rfl (rval_tmp rfl) (rval_tmp rfl) (Fin.wk (r:=.tup [.pv (slEdits []),iv 2]) (by simp) trivial trivial) ?_
  exact⟨rfl,rfl⟩
 skip
 have h200:¬ 200 < R.length:=by have:=of_decide_eq_false hc15;omega
 rw [if_neg h200] at hgb2
 rw [hgb2]
 refine awp_skip<|Sq<|Rg<|Dd mv'<|Dd as'<|Dd as'<|Zz<|awp_ret ?_
 refine aret2 (H':=[]) (.inr rfl) rfl (rval_tmp rfl) (rval_tmp rfl) (Fin.ed2 R (iv 0) rfl rfl rfl rfl (by simp)) ?_
 exact⟨rfl,rfl⟩
end
section
theorem allOK_c (st:Nat→List GObj) (l:List GEdit) (H:Heap) (hl:l.length < 549755813888) (hcl:∀ k,k≤l.length→closedB (st k)=true) (hok:∀ k,k≤l.length→okM (st k))
  (ha:∀ k e,l[k]?=some e→ACalls Tryz.prog 65 [.ref 14 0 0 0,av (encEdit e)] (cH (st k)) (fun r H'=>r=.tup [.agg [.pv (slObjs (st (k+1)))],iv 0]∧H'=cH (st k))) :
  ACalls Tryz.prog 25 [.agg [.pv (slObjs (st 0))],.pv (slEdits l)] H (fun r H'=>r=.tup [.agg [.pv (slObjs (st l.length))],iv (-1),iv 0]∧H'=H):=by
 refine ACalls.pure ?_ (by simp) H
 have hml:(l.map encEdit).length=l.length:=List.length_map _
 refine Bd Tryz.func25 rfl Tryz.ntmps25<|Sq<|Rg<|Dd (by exact opd_box (id:=2) rfl rfl rfl rfl rfl)<|Dd (by exact x_alloc (id:=4) rfl zo38 rfl rfl)<|Dd as'<|Dd as'<|Zz<|Sq<|Rg<|Dd (ln' Tryz.isAgg38 Tryz.sizeOf38)<|Dd (by exact opr_call rfl rfl Tryz.call64 rfl (ofF_c (st 0) _ (hok 0 (Nat.zero_le _)) (hcl 0 (Nat.zero_le _)) rfl rfl))<|Dd as'<|Zz<|Sq<|Sq<|Rg<|Dd mv'<|Dd (by exact opd_peq_ref rfl Tryz.underlying109 rfl rfl rfl rfl)<|Zz ?_
 refine Cn (fun hc1=>?_) fun hc1=>?_
 ·cases hc1
 skip
 refine awp_skip<|Sq<|Sq<|Rg<|Dd mv'<|Dd (ll' Tryz.underlying22)<|Dd mv'<|Zz<|awp_block ?_
 refine awp_loop (σ:=Nat) (fun k=>([(4,.ref 4 0 0 0),(7,.ref 14 0 0 0),(17,.pv (slEdits l)),(18,iv ((l.map encEdit).length:Int)),(19,iv (k:Int))],[(14,cRow (st k)),(12,kob (st k)),(4,bx 1 38 [lv []])])) (fun k=>k≤l.length) (fun k=>l.length - k) 0 (Nat.zero_le _) ?_ ?_
 ·exact(Ent.wk (Ea<|Ea<|Eb<|Eb<|Eb<|trivial) (Ha<|Hc (kob_clo _ _)<|Hb<|trivial) trivial)
 rintro k hk
 refine Sq<|Rg<|Dd lss'<|Zz<|Sq ?_
 refine Cn (fun hc2=>?_) fun hc2=>?_
 ·have hlt:k < l.length:=by have:=of_decide_eq_true hc2;omega
  obtain ⟨e,hel⟩:=get_of_lt hlt
  have hi:=map_get (f:=encEdit) hel
  refine awp_skip<|Sq<|awp_block<|Sq<|Rg<|Dd mv'<|Dd (xp' so22)<|Dd (by exact opd_loadn_pad rfl Tryz.isAgg51 Tryz.sizeOf51 rfl (by omega) (by simp only [Zl,encTag,encObj,encStr,encEdit,encInt];rfl) rfl)<|Dd (by exact x_alloc (id:=9) rfl zo51 rfl rfl)<|Dd as'<|Uu (sa' Tryz.sizeOf51)<|Zz<|Sq<|Rg<|Dd mv'<|Dd (ln' Tryz.isAgg51 Tryz.sizeOf51)<|Dd (by exact opr_call rfl rfl Tryz.call65 rfl (cl_c (ha k e hel) rfl rfl (by simp;rfl)))<|Dd mv'<|Dd ex'<|Dd ex'<|Dd (by exact x_alloc (id:=10) rfl zo38 rfl rfl)<|Uu (sa' Tryz.sizeOf38)<|Dd as'<|Zz<|Sq<|Sq<|Rg<|Dd mv'<|Dd ne'<|Zz ?_
  refine Cn (fun hc3=>?_) fun hc3=>?_
  ·cases hc3
  skip
  refine awp_skip ?_
  refine AWp.ent (E':=[(4,.ref 4 0 0 0),(10,.ref 10 0 0 0),(17,.pv (slEdits l)),(18,iv ((l.map encEdit).length:Int)),(19,iv (k:Int))]) (H':=[(10,bx 1 38 [.pv (slObjs (st (k+1)))]),(4,bx 1 38 [lv []])]) Wk ?_
  refine Rg<|Dd (ln' Tryz.isAgg38 Tryz.sizeOf38)<|Dd (by exact opr_call rfl rfl Tryz.call64 rfl (ofF_c (st (k+1)) _ (hok _ hlt) (hcl _ hlt) rfl rfl))<|Dd as'<|Zz<|Rg<|Dd ad'<|Dd mv'<|Zz ?_
  exact⟨k+1,by omega,by omega,(Ent.wk (Ea<|Ea<|Eb<|Eb<|Eb<|trivial) (Ha<|Hc (kob_clo _ _)<|Hb<|trivial) trivial)⟩
 have hge:k=l.length:=by have:=of_decide_eq_false hc2;omega
 subst hge
 refine awp_exit<|Sq<|Rg<|Dd mv'<|Dd nc'<|Dd (fr' fo114_0)<|Dd (ln' Tryz.isAgg38 Tryz.sizeOf38)<|Uu (sa' Tryz.sizeOf38)<|Dd as'<|Dd as'<|Zz<|awp_ret ?_
 refine aret3 (H':=[]) (.inr rfl) rfl (rl' Tryz.isAgg38 Tryz.sizeOf38) (rval_tmp rfl) (rval_tmp rfl) (Fin.wk (r:=.tup [.agg [.pv (slObjs (st l.length))],iv (-1),iv 0]) (by simp) trivial trivial) ?_
 exact⟨rfl,rfl⟩
end
section
def bsY (l:List UInt8):ByteArray:=⟨l.toArray⟩
def eMv:GEdit:=⟨2,bsY [110,49],sNil,sNil,3,4,sNil,sNil,[],zObj⟩
def eTg:GEdit:=⟨3,bsY [119,49],sNil,sNil,0,0,bsY [110,97,109,101],bsY [97,32,34,98,34],[],zObj⟩
def eRf:GEdit:=⟨4,bsY [119,49],sNil,sNil,0,0,sNil,sNil,[bsY [110,49],bsY [110,50]],zObj⟩
def t1Y:ByteArray:=bsY [109,111,118,101,32,110,49,32,51,32,52,10]
def t2Y:ByteArray:=bsY [116,97,103,32,119,49,32,110,97,109,101,32,34,97,32,92,34,98,92,34,34,10]
theorem ht1Y:gTextC [eMv]=(t1Y,0):=by kernel_rfl
theorem ht2Y:gTextC [eTg]=(t2Y,0):=by kernel_rfl
theorem hp1Y:gParseC (t1Y++t2Y)=([eMv,eTg],0):=by kernel_rfl
def ndY (id:UInt8) (x:Int):GObj:=⟨bsY [id],1,x,0,[],[]⟩
def mAY:List GObj:=[ndY 97 1,ndY 98 2,⟨bsY [99],2,0,0,[bsY [97],bsY [98]],[]⟩]
def mBY:List GObj:=[⟨bsY [97],2,0,0,[bsY [98],bsY [99]],[]⟩,ndY 98 5,ndY 99 3]
def xsY:List GEdit:=[dropE (bsY [99]),dropE (bsY [97]),putE (ndY 99 3),putE ⟨bsY [97],2,0,0,[bsY [98],bsY [99]],[]⟩,moveE (bsY [98]) 5 0]
theorem hb1Y:gBetween mAY mBY=(xsY,0):=by kernel_rfl
theorem okE_mv:okE eMv:=⟨⟨by decide,by decide,by decide,by decide⟩,⟨by decide,fun s hs=>by cases hs⟩,zObj_ok⟩
theorem okE_tg:okE eTg:=⟨⟨by decide,by decide,by decide,by decide⟩,⟨by decide,fun s hs=>by cases hs⟩,zObj_ok⟩
theorem okE_rf:okE eRf:=⟨⟨by decide,by decide,by decide,by decide⟩,⟨by decide,fun s hs=>by
 have hs:s∈[bsY [110,49],bsY [110,50]]:=hs
 simp only [List.mem_cons,List.not_mem_nil,or_false] at hs
 rcases hs with rfl|rfl<;>decide⟩,zObj_ok⟩
theorem okE_l2:∀ e∈[eMv,eTg],okE e:=fun e he=>by
 simp only [List.mem_cons,List.not_mem_nil,or_false] at he
 rcases he with rfl|rfl
 ·exact okE_mv
 exact okE_tg
theorem okU_l3:okU [eMv,eTg,eRf]:=fun e he=>by
 simp only [List.mem_cons,List.not_mem_nil,or_false] at he
 rcases he with rfl|rfl|rfl
 ·exact⟨okE_mv,by decide⟩
 ·exact⟨okE_tg,by decide⟩
 exact⟨okE_rf,by decide⟩
theorem okU_l2:okU [eMv,eTg]:=fun e he=>okU_l3 e (by
 simp only [List.mem_cons,List.not_mem_nil,or_false] at he ⊢
 rcases he with rfl|rfl
 ·exact .inl rfl
 exact .inr (.inl rfl))
theorem okM_AY:okM mAY:=⟨by decide,fun o ho=>by
 have ho:o∈[ndY 97 1,ndY 98 2,⟨bsY [99],2,0,0,[bsY [97],bsY [98]],[]⟩]:=ho
 simp only [List.mem_cons,List.not_mem_nil,or_false] at ho
 rcases ho with rfl|rfl|rfl
 ·exact⟨by decide,⟨by decide,fun t ht=>by cases ht⟩,by decide,fun s hs=>by cases hs⟩
 ·exact⟨by decide,⟨by decide,fun t ht=>by cases ht⟩,by decide,fun s hs=>by cases hs⟩
 exact⟨by decide,⟨by decide,fun t ht=>by cases ht⟩,by decide,fun s hs=>by
  have hs:s∈[bsY [97],bsY [98]]:=hs
  simp only [List.mem_cons,List.not_mem_nil,or_false] at hs
  rcases hs with rfl|rfl<;>decide⟩⟩
theorem okM_BY:okM mBY:=⟨by decide,fun o ho=>by
 have ho:o∈[⟨bsY [97],2,0,0,[bsY [98],bsY [99]],[]⟩,ndY 98 5,ndY 99 3]:=ho
 simp only [List.mem_cons,List.not_mem_nil,or_false] at ho
 rcases ho with rfl|rfl|rfl
 ·exact⟨by decide,⟨by decide,fun t ht=>by cases ht⟩,by decide,fun s hs=>by
   have hs:s∈[bsY [98],bsY [99]]:=hs
   simp only [List.mem_cons,List.not_mem_nil,or_false] at hs
   rcases hs with rfl|rfl<;>decide⟩
 ·exact⟨by decide,⟨by decide,fun t ht=>by cases ht⟩,by decide,fun s hs=>by cases hs⟩
 exact⟨by decide,⟨by decide,fun t ht=>by cases ht⟩,by decide,fun s hs=>by cases hs⟩⟩
theorem sort1Y (l:List ByteArray) (h:(l.map toU).Pairwise (fun x y=>decide (x≤y)=true)):sortS l=l:=by
 rw [sortS,List.mergeSort_of_pairwise h,map_toU]
theorem nm_mv:gNames eMv=[bsY [110,49]]:=by
 rw [gNames,if_pos (show gEditV eMv=true by kernel_rfl),show (idsOf eMv).filter nonE=[bsY [110,49]] by kernel_rfl]
 exact sort1Y _ (by decide)
theorem nm_tg:gNames eTg=[bsY [119,49]]:=by
 rw [gNames,if_pos (show gEditV eTg=true by kernel_rfl),show (idsOf eTg).filter nonE=[bsY [119,49]] by kernel_rfl]
 exact sort1Y _ (by decide)
theorem nm_rf:gNames eRf=[bsY [110,49],bsY [110,50],bsY [119,49]]:=by
 rw [gNames,if_pos (show gEditV eRf=true by kernel_rfl),show (idsOf eRf).filter nonE=[bsY [119,49],bsY [110,49],bsY [110,50]] by kernel_rfl]
 have hp:[bsY [119,49],bsY [110,49],bsY [110,50]].Perm [bsY [110,49],bsY [110,50],bsY [119,49]]:=List.perm_append_comm (l₁:=[bsY [119,49]]) (l₂:=[bsY [110,49],bsY [110,50]])
 rw [sortS_eq hp]
 exact sort1Y _ (by decide)
theorem gu3:gUnits [eMv,eTg,eRf]=[[0,1,2]]:=by
 have h0:nmOf [eMv,eTg,eRf] 0=[bsY [110,49]]:=nm_mv
 have h1:nmOf [eMv,eTg,eRf] 1=[bsY [119,49]]:=nm_tg
 have h2:nmOf [eMv,eTg,eRf] 2=[bsY [110,49],bsY [110,50],bsY [119,49]]:=nm_rf
 have h3:us1K (wrOf [eMv,eTg,eRf]) 3=([0,1,1],[(bsY [110,49],0),(bsY [119,49],1)]):=by kernel_rfl
 have h4:topsE [eMv,eTg,eRf]=[0,0,1]:=by
  show us2K (us1K (wrOf [eMv,eTg,eRf]) 3).2 (us1K (wrOf [eMv,eTg,eRf]) 3).1 (nmOf [eMv,eTg,eRf]) 3=[0,0,1]
  rw [h3,us2K,us2K,us2K,us2K,h0,h1,h2]
  kernel_rfl
 rw [gUnits,if_pos (show gChange [eMv,eTg,eRf]=true by kernel_rfl),h4]
 exact(show groups (top [0,0,1]) 3=[[0,1,2]] by kernel_rfl)
theorem gu2:gUnits [eMv,eTg]=[[0],[1]]:=by
 have h0:nmOf [eMv,eTg] 0=[bsY [110,49]]:=nm_mv
 have h1:nmOf [eMv,eTg] 1=[bsY [119,49]]:=nm_tg
 have h3:us1K (wrOf [eMv,eTg]) 2=([0,1],[(bsY [110,49],0),(bsY [119,49],1)]):=by kernel_rfl
 have h4:topsE [eMv,eTg]=[0,1]:=by
  show us2K (us1K (wrOf [eMv,eTg]) 2).2 (us1K (wrOf [eMv,eTg]) 2).1 (nmOf [eMv,eTg]) 2=[0,1]
  rw [h3,us2K,us2K,us2K,h0,h1]
  kernel_rfl
 rw [gUnits,if_pos (show gChange [eMv,eTg]=true by kernel_rfl),h4]
 exact(show groups (top [0,1]) 2=[[0],[1]] by kernel_rfl)
theorem okE_of1 {op x y:Int} {s k v:ByteArray} (h1:s.size < 4611686018427387904) (h2:k.size < 4611686018427387904):okE ⟨op,s,sNil,sNil,x,y,k,v,[],zObj⟩:=⟨⟨h1,(by decide:sNil.size < 4611686018427387904),(by decide:sNil.size < 4611686018427387904),h2⟩,⟨Nat.zero_lt_succ _,fun s h=>by cases h⟩,zObj_ok⟩
theorem okE_xs:∀ e∈xsY,okE e:=fun e he=>by
 have he:e∈[dropE (bsY [99]),dropE (bsY [97]),putE (ndY 99 3),putE ⟨bsY [97],2,0,0,[bsY [98],bsY [99]],[]⟩,moveE (bsY [98]) 5 0]:=he
 simp only [List.mem_cons,List.not_mem_nil,or_false] at he
 rcases he with rfl|rfl|rfl|rfl|rfl
 ·exact okE_of1 (by decide) (by decide)
 ·exact okE_of1 (by decide) (by decide)
 ·exact okE_put (okM_BY.2 _ (by show _∈[_,_,_];simp))
 ·exact okE_put (okM_BY.2 _ (by show _∈[_,_,_];simp))
 exact okE_of1 (by decide) (by decide)
theorem okL_ofY {m:List GObj} (h:okM m):okL m:=⟨h.1,fun o ho=>⟨(h.2 o ho).2.2.1,(h.2 o ho).2.1.1⟩⟩
theorem same12Y_c (a b:List GObj) (H:Heap) (ha:okM a):ACalls Tryz.prog 26 [.agg [.pv (slObjs a)],.agg [.pv (slObjs b)]] H (fun r H'=>r=bv (decide (a=b))∧H'=H):=by
 have:=same12_c a b H (okL_ofY ha)
 rwa [show gSameM a b=decide (a=b)by rw [Bool.eq_iff_iff,gSameM_iff,decide_eq_true_eq]] at this
theorem encObj_rlY (l:List GObj):∀ r∈l.map encObj,r.length=6:=fun r hr=>by
 obtain ⟨t,_,rfl⟩:=List.mem_map.1 hr
 rfl
theorem okM_subY {m l:List GObj} (h:okM m) (hl:l.length < 4611686018427387904) (hs:∀ o∈l,o∈m):okM l:=⟨hl,fun o ho=>h.2 o (hs o ho)⟩
def wAY:GObj:=⟨bsY [97],2,0,0,[bsY [98],bsY [99]],[]⟩
def stY:Nat→List GObj
 | 0=>mAY
 | 1=>[ndY 97 1,ndY 98 2]
 | 2=>[ndY 98 2]
 | 3=>[ndY 98 2,ndY 99 3]
 | 4=>[wAY,ndY 98 2,ndY 99 3]
 | _=>mBY
theorem okM_stY:∀ k,okM (stY k)
 | 0=>okM_AY
 | 1=>okM_subY okM_AY (by show 2 < _;omega) (fun o ho=>by have ho:o∈[_,_]:=ho;show o∈[_,_,_];simp only [List.mem_cons,List.not_mem_nil,or_false] at ho ⊢;rcases ho with h|h<;>simp [h])
 | 2=>okM_subY okM_AY (by show 1 < _;omega) (fun o ho=>by have ho:o∈[_]:=ho;show o∈[_,_,_];simp only [List.mem_cons,List.not_mem_nil,or_false] at ho ⊢;simp [ho])
 | 3=>⟨by show 2 < _;omega,fun o ho=>by
   have ho:o∈[_,_]:=ho
   simp only [List.mem_cons,List.not_mem_nil,or_false] at ho
   rcases ho with rfl|rfl
   ·exact okM_AY.2 _ (by show _∈[_,_,_];simp)
   exact okM_BY.2 _ (by show _∈[_,_,_];simp)⟩
 | 4=>⟨by show 3 < _;omega,fun o ho=>by
   have ho:o∈[_,_,_]:=ho
   simp only [List.mem_cons,List.not_mem_nil,or_false] at ho
   rcases ho with rfl|rfl|rfl
   ·exact okM_BY.2 _ (by show _∈[_,_,_];exact List.mem_cons_self ..)
   ·exact okM_AY.2 _ (by show _∈[_,_,_];simp)
   exact okM_BY.2 _ (by show _∈[_,_,_];simp)⟩
 | 5=>okM_BY
 | _+6=>okM_BY
theorem cl_stY:∀ k,closedB (stY k)=true
 | 0=>by kernel_rfl
 | 1=>by kernel_rfl
 | 2=>by kernel_rfl
 | 3=>by kernel_rfl
 | 4=>by kernel_rfl
 | 5=>by kernel_rfl
 | _+6=>(show closedB mBY=true by kernel_rfl)
theorem lens_Y {m:List GObj} (h:closedB m=true):∀ o,o∈m→o.refs.length < 549755813888∧o.tags.length < 1099511627776:=fun o ho=>by
 have:=gObj_len ((gMap_iff.1 (closed_gMap h)).1 o ho)
 omega
theorem aftY {m m':List GObj} {e:GEdit} (hm:okM m) (hc:closedB m=true) (he:okE e) (hg:gAfter m e=(m',0)) (hpf:ACalls Tryz.prog 118 [.ref 14 0 0 0,av (encEdit e)] (cH m) (fun r H'=>r=av (encRes (gPerform m e))∧H'=cH m)) :
  ACalls Tryz.prog 65 [.ref 14 0 0 0,av (encEdit e)] (cH m) (fun r H'=>r=.tup [.agg [.pv (slObjs m')],iv 0]∧H'=cH m):=by
 have hl:=(gMap_iff.1 (closed_gMap hc)).2.2
 have:=after0g_c m e hm he (by omega) (fun hv=>perf_ok hm (closed_gMap hc) he hv) put_small (fun _=>hpf)
 rw [hg] at this
 exact this
theorem allY_c (H:Heap):ACalls Tryz.prog 25 [.agg [.pv (slObjs mAY)],.pv (slEdits xsY)] H (fun r H'=>r=.tup [.agg [.pv (slObjs mBY)],iv (-1),iv 0]∧H'=H):=by
 refine allOK_c stY xsY H (by decide) (fun k _=>cl_stY k) (fun k _=>okM_stY k) (fun k e he=>?_)
 have hk:k < 5:=(List.getElem?_eq_some_iff.1 he).1
 have h:k=0∨k=1∨k=2∨k=3∨k=4:=by omega
 have hee:=okE_xs e (List.mem_of_getElem? he)
 rcases h with rfl|rfl|rfl|rfl|rfl
 ·cases he
  exact aftY (okM_stY 0) (cl_stY 0) hee (by kernel_rfl) (perf5_c (stY 0) (bsY [99]) sNil sNil 0 0 sNil sNil [] zObj (okM_stY 0) (lens_Y (cl_stY 0)))
 ·cases he
  exact aftY (okM_stY 1) (cl_stY 1) hee (by kernel_rfl) (perf5_c (stY 1) (bsY [97]) sNil sNil 0 0 sNil sNil [] zObj (okM_stY 1) (lens_Y (cl_stY 1)))
 ·cases he
  exact aftY (okM_stY 2) (cl_stY 2) hee (by kernel_rfl) (perf1_c (stY 2) (putE (ndY 99 3)) (okM_stY 2) rfl (by decide))
 ·cases he
  exact aftY (okM_stY 3) (cl_stY 3) hee (by kernel_rfl) (perf1_c (stY 3) (putE wAY) (okM_stY 3) rfl (by decide))
 cases he
 exact aftY (okM_stY 4) (cl_stY 4) hee (by kernel_rfl) (perf2_c (stY 4) (bsY [98]) sNil sNil 5 0 sNil sNil [] zObj (okM_stY 4) (lens_Y (cl_stY 4)))
theorem head22_of (hT1:∀ H,ACalls Tryz.prog 11 [.pv (slEdits [eMv])] H (fun r H'=>r=.tup [sv t1Y,iv 0]∧H'=H)) (hT2:∀ H,ACalls Tryz.prog 11 [.pv (slEdits [eTg])] H (fun r H'=>r=.tup [sv t2Y,iv 0]∧H'=H))
  (hP:∀ H,ACalls Tryz.prog 13 [sv (t1Y++t2Y)] H (fun r H'=>r=.tup [.pv (slEdits [eMv,eTg]),iv 0]∧H'=H)) (hA:∀ H,ACalls Tryz.prog 25 [.agg [.pv (slObjs mAY)],.pv (slEdits xsY)] H (fun r H'=>r=.tup [.agg [.pv (slObjs mBY)],iv (-1),iv 0]∧H'=H)) (H:Heap) :
  ACalls Tryz.prog 9 [] H (fun r H'=>r=bv true∧H'=H):=by
 refine ACalls.pure ?_ (by simp) H
 have hU3:∀ H,ACalls Tryz.prog 19 [.pv (slEdits [eMv,eTg,eRf])] H (fun r H'=>r=.pv (slGroups [[0,1,2]])∧H'=H):=fun H=>by
  have:=units_c [eMv,eTg,eRf] okU_l3 (by decide) H
  rw [gu3] at this
  exact this
 have hU2:∀ H,ACalls Tryz.prog 19 [.pv (slEdits [eMv,eTg])] H (fun r H'=>r=.pv (slGroups [[0],[1]])∧H'=H):=fun H=>by
  have:=units_c [eMv,eTg] okU_l2 (by decide) H
  rw [gu2] at this
  exact this
 have hB:∀ H,ACalls Tryz.prog 22 [.agg [.pv (slObjs mAY)],.agg [.pv (slObjs mBY)]] H (fun r H'=>r=.tup [.pv (slEdits xsY),iv 0]∧H'=H):=fun H=>by
  have:=between_c mAY mBY okM_AY okM_BY H
  rw [hb1Y] at this
  exact this
 have hE:∀ H,ACalls Tryz.prog 17 [.pv (slEdits [eMv,eTg]),.pv (slEdits [eMv,eTg])] H (fun r H'=>r=bv true∧H'=H):=fun H=>by
  have:=all22_c [eMv,eTg] [eMv,eTg] H (by decide) okE_l2 okE_l2
  rw [decide_eq_true rfl] at this
  exact this
 have hS:∀ H,ACalls Tryz.prog 26 [.agg [.pv (slObjs mBY)],.agg [.pv (slObjs mBY)]] H (fun r H'=>r=bv true∧H'=H):=fun H=>by
  have:=same12Y_c mBY mBY H okM_BY
  rw [decide_eq_true rfl] at this
  exact this
 refine Bd Tryz.func9 rfl Tryz.ntmps9<|Sq<|Rg<|Dd as'<|Zz<|Sq<|Rg<|Dd (bu' bo45)<|Dd (bu' bo51)<|Dd (by exact x_alloc (id:=1) rfl zo51 rfl rfl)<|Uu (sa' Tryz.sizeOf51)<|Zz<|Sq<|Rg<|Dd (bu' bo51)<|Dd (by exact x_alloc (id:=2) rfl zo51 rfl rfl)<|Uu (sa' Tryz.sizeOf51)<|Zz<|Sq<|Rg<|Dd (by exact x_buildSlice [encStr (bsY [110,49]),encStr (bsY [110,50])] rfl so46 rfl rfl rfl rfl rfl (by intro r hr;simp only [List.mem_cons,List.not_mem_nil,or_false] at hr;rcases hr with rfl|rfl<;>rfl))<|Dd (bu' bo51)<|Dd (by exact x_alloc (id:=3) rfl zo51 rfl rfl)<|Uu (sa' Tryz.sizeOf51)<|Zz<|Sq<|Rg<|Dd (ln' Tryz.isAgg51 Tryz.sizeOf51)<|Dd (by exact x_buildSlice ([eMv].map encEdit) rfl so22 rfl rfl rfl rfl rfl (rlE [eMv]))<|Dd (by exact opr_call rfl rfl Tryz.call11 rfl (hT1 _))<|Dd mv'<|Dd ex'<|Dd ex'<|Dd as'<|Dd as'<|Zz<|Sq<|Rg<|Dd (ln' Tryz.isAgg51 Tryz.sizeOf51)<|Dd (by exact x_buildSlice ([eTg].map encEdit) rfl so22 rfl rfl rfl rfl rfl (rlE [eTg])) ?_
 refine Dd (by exact opr_call rfl rfl Tryz.call11 rfl (hT2 _))<|Dd mv'<|Dd ex'<|Dd ex'<|Dd as'<|Dd as'<|Zz<|Sq<|Rg<|Dd mv'<|Dd mv'<|Dd (by exact opd_sadd rfl rfl rfl (by decide) rfl)<|Dd (by exact opr_call rfl rfl Tryz.call13 rfl (hP _))<|Dd mv'<|Dd ex'<|Dd ex'<|Dd as'<|Dd as'<|Zz<|Sq<|Rg<|Dd (ln' Tryz.isAgg51 Tryz.sizeOf51)<|Dd (ln' Tryz.isAgg51 Tryz.sizeOf51)<|Dd (ln' Tryz.isAgg51 Tryz.sizeOf51)<|Dd (by exact x_buildSlice ([eMv,eTg,eRf].map encEdit) rfl so22 rfl rfl rfl rfl rfl (rlE [eMv,eTg,eRf]))<|Dd (by exact opr_call rfl rfl Tryz.call19 rfl (hU3 _))<|Dd as'<|Zz<|Sq<|Rg<|Dd (ln' Tryz.isAgg51 Tryz.sizeOf51)<|Dd (ln' Tryz.isAgg51 Tryz.sizeOf51)<|Dd (by exact x_buildSlice ([eMv,eTg].map encEdit) rfl so22 rfl rfl rfl rfl rfl (rlE [eMv,eTg]))<|Dd (by exact opr_call rfl rfl Tryz.call19 rfl (hU2 _))<|Dd as'<|Zz<|Sq<|Rg<|Dd (by exact opr_call rfl rfl Tryz.call30 rfl (node_c (bsY [97]) 1 _))<|Dd (by exact opr_call rfl rfl Tryz.call30 rfl (node_c (bsY [98]) 2 _)) ?_
 refine Dd (by exact x_buildSlice [encStr (bsY [97]),encStr (bsY [98])] rfl so46 rfl rfl rfl rfl rfl (by intro r hr;simp only [List.mem_cons,List.not_mem_nil,or_false] at hr;rcases hr with rfl|rfl<;>rfl))<|Dd (bu' bo49)<|Dd (by exact x_buildSlice (mAY.map encObj) rfl so36 rfl rfl rfl rfl rfl (encObj_rlY mAY))<|Dd (bu' bo38)<|Dd (by exact x_alloc (id:=12) rfl zo38 rfl rfl)<|Uu (sa' Tryz.sizeOf38)<|Zz<|Sq<|Rg<|Dd (by exact x_buildSlice [encStr (bsY [98]),encStr (bsY [99])] rfl so46 rfl rfl rfl rfl rfl (by intro r hr;simp only [List.mem_cons,List.not_mem_nil,or_false] at hr;rcases hr with rfl|rfl<;>rfl))<|Dd (bu' bo49)<|Dd (by exact opr_call rfl rfl Tryz.call30 rfl (node_c (bsY [98]) 5 _))<|Dd (by exact opr_call rfl rfl Tryz.call30 rfl (node_c (bsY [99]) 3 _))<|Dd (by exact x_buildSlice (mBY.map encObj) rfl so36 rfl rfl rfl rfl rfl (encObj_rlY mBY))<|Dd (bu' bo38)<|Dd (by exact x_alloc (id:=13) rfl zo38 rfl rfl) ?_
 refine Uu (sa' Tryz.sizeOf38)<|Zz<|Sq<|Rg<|Dd (ln' Tryz.isAgg38 Tryz.sizeOf38)<|Dd (ln' Tryz.isAgg38 Tryz.sizeOf38)<|Dd (by exact opr_call rfl rfl Tryz.call22 rfl (hB _))<|Dd mv'<|Dd ex'<|Dd ex'<|Dd as'<|Dd as'<|Zz<|Sq<|Rg<|Dd (ln' Tryz.isAgg38 Tryz.sizeOf38)<|Dd mv'<|Dd (by exact opr_call rfl rfl Tryz.call25 rfl (hA _))<|Dd mv'<|Dd ex'<|Dd ex'<|Dd ex'<|Dd (by exact x_alloc (id:=16) rfl zo38 rfl rfl)<|Uu (sa' Tryz.sizeOf38)<|Dd as'<|Dd as'<|Zz<|Sq<|Rg<|Dd mv'<|Dd eql'<|Dd mv' ?_
 refine al_ond rfl rfl rfl (by rfl) rfl rfl (by exact opd_move rfl rfl) ?_
 refine al_ond rfl rfl rfl (by rfl) rfl rfl (by exact OpD.val (by exact opd_seql rfl rfl rfl) ((decide_eq_true rfl))) ?_
 refine Dd pk'<|Dd mv' ?_
 refine al_ond rfl rfl rfl (by rfl) rfl rfl (by exact opd_move rfl rfl) ?_
 refine al_ond rfl rfl rfl (by rfl) rfl rfl (by exact opd_eql rfl rfl rfl) ?_
 refine Dd pk'<|Dd mv' ?_
 refine al_ond rfl rfl rfl (by rfl) rfl rfl (by exact opd_move rfl rfl) ?_
 refine al_ond rfl rfl rfl (by rfl) rfl rfl (by exact OpD.val (by exact opd_seql rfl rfl rfl) ((decide_eq_true rfl))) ?_
 refine Dd pk'<|Dd mv' ?_
 refine al_ond rfl rfl rfl (by rfl) rfl rfl (by exact opd_move rfl rfl) ?_
 refine al_ond rfl rfl rfl (by rfl) rfl rfl (by exact opd_eql rfl rfl rfl) ?_
 refine Dd pk'<|Dd mv' ?_
 refine al_ond rfl rfl rfl (by rfl) rfl rfl (by exact opd_move rfl rfl) ?_
 refine al_ond rfl rfl rfl (by rfl) rfl rfl (by exact opd_loadn_ref rfl Tryz.isAgg51 Tryz.sizeOf51 rfl rfl rfl rfl rfl rfl) ?_
 refine al_ond rfl rfl rfl (by rfl) rfl rfl (by exact opd_loadn_ref rfl Tryz.isAgg51 Tryz.sizeOf51 rfl rfl rfl rfl rfl rfl) ?_
 refine al_ond rfl rfl rfl (by rfl) rfl rfl (by exact x_buildSlice ([eMv,eTg].map encEdit) rfl so22 rfl rfl rfl rfl rfl (rlE [eMv,eTg])) ?_
 refine al_ond rfl rfl rfl (by rfl) rfl rfl (by exact opr_call rfl rfl Tryz.call17 rfl (hE _)) ?_
 refine Dd pk'<|Dd mv' ?_
 refine al_ond rfl rfl rfl (by rfl) rfl rfl (by exact opd_move rfl rfl) ?_
 refine al_ond rfl rfl rfl (by rfl) rfl rfl (by exact opd_len_sl rfl Tryz.underlying33 rfl) ?_
 refine al_ond rfl rfl rfl (by rfl) rfl rfl (by exact opd_eql rfl rfl rfl) ?_
 refine Dd pk'<|Dd mv' ?_
 refine al_ond rfl rfl rfl (by rfl) rfl rfl (by exact opd_move rfl rfl) ?_
 refine al_ond rfl rfl rfl (by rfl) rfl rfl (by exact opd_len_sl rfl Tryz.underlying33 rfl) ?_
 refine al_ond rfl rfl rfl (by rfl) rfl rfl (by exact opd_eql rfl rfl rfl) ?_
 refine Dd pk'<|Dd as'<|Zz<|Sq<|Rg<|Dd mv'<|Dd mv' ?_
 refine al_ond rfl rfl rfl (by rfl) rfl rfl (by exact opd_move rfl rfl) ?_
 refine al_ond rfl rfl rfl (by rfl) rfl rfl (by exact opd_eql rfl rfl rfl) ?_
 refine Dd pk'<|Dd mv' ?_
 refine al_ond rfl rfl rfl (by rfl) rfl rfl (by exact opd_move rfl rfl) ?_
 refine al_ond rfl rfl rfl (by rfl) rfl rfl (by exact opd_eql rfl rfl rfl) ?_
 refine Dd pk'<|Dd mv' ?_
 refine al_ond rfl rfl rfl (by rfl) rfl rfl (by exact opd_loadn_ref rfl Tryz.isAgg38 Tryz.sizeOf38 rfl rfl rfl rfl rfl rfl) ?_
 refine al_ond rfl rfl rfl (by rfl) rfl rfl (by exact opd_loadn_ref rfl Tryz.isAgg38 Tryz.sizeOf38 rfl rfl rfl rfl rfl rfl) ?_
 refine al_ond rfl rfl rfl (by rfl) rfl rfl (by exact opr_call rfl rfl Tryz.call26 rfl (hS _)) ?_
 refine Dd pk'<|Dd mv' ?_
 refine al_ond rfl rfl rfl (by rfl) rfl rfl (by exact opd_move rfl rfl) ?_
 refine al_ond rfl rfl rfl (by rfl) rfl rfl (by exact opd_len_sl rfl Tryz.underlying22 rfl) ?_
 refine al_ond rfl rfl rfl (by rfl) rfl rfl (by exact opd_eql rfl rfl rfl) ?_
 refine Dd pk'<|Dd as'<|Zz<|awp_ret ?_
 refine Rt ?_
 exact⟨rfl,rfl⟩
end
section
theorem lineO_c (e:GEdit) (H:Heap) (hO:e.op=1→∀ H,ACalls Tryz.prog 67 [av (encObj e.obj)] H (fun r H'=>r=.tup [sv (gObjT e.obj).1,iv (gObjT e.obj).2]∧H'=H)) (he:okE e) (hv:gEditV e=true):ACalls Tryz.prog 32 [av (encEdit e)] H (fun r H'=>r=.tup [sv (ofL (lineY e++[10])),iv (lineErr e)]∧H'=H):=by
 refine ACalls.pure ?_ (by simp) H
 obtain ⟨⟨o1,o2⟩,o3,o4⟩:=gEditV_iff.1 hv
 rw [okOf] at o3
 have hval:=gEditV_val hv
 have hs0:sizes []=0:=rfl
 refine Bd Tryz.func32 rfl Tryz.ntmps32<|Sq<|Rg<|Dd (by exact opd_box (id:=1) rfl rfl rfl rfl rfl)<|Dd as'<|Dd as'<|Zz<|Sq<|Rg<|Dd as'<|Zz<|Sq<|Sq<|Rg<|Dd (fr' fo51_0)<|Dd (l1' Tryz.isAgg3)<|Zz<|awp_block<|Sq<|Rg<|Dd eql'<|Dd as'<|Zz ?_
 refine Cn (fun hc1=>?_) fun hc1=>?_
 ·skip
  have h1:e.op=1:=of_decide_eq_true hc1
  have hos:=objT_size (o:=e.obj)
  have h4:(⟨#[112,117,116,32]⟩:ByteArray).size=4:=rfl
  have h10:(⟨#[10]⟩:ByteArray).size=1:=rfl
  have h4s:((⟨#[112,117,116,32]⟩:ByteArray)++(gObjT e.obj).1).size=4+(gObjT e.obj).1.size:=by rw [ByteArray.size_append];rfl
  refine Sq<|Rg<|Dd (fr' fo51_8)<|Dd (ln' Tryz.isAgg49 Tryz.sizeOf49)<|Dd (by exact opr_call rfl rfl Tryz.call67 rfl (hO h1 _))<|Dd mv'<|Dd ex'<|Dd ex'<|Dd as'<|Dd as'<|Zz<|Sq<|Rg<|Dd mv'<|Dd (by exact opd_sadd rfl rfl rfl (by omega) rfl)<|Dd (by exact opd_sadd rfl rfl rfl (by omega) rfl)<|Dd mv'<|Dd as'<|Dd as'<|Zz<|awp_ret ?_
  refine Ru ?_
  rw [put_out h1,show lineErr e=(gObjT e.obj).2 from if_pos h1]
  exact⟨rfl,rfl⟩
 skip
 have h1:e.op≠1:=of_decide_eq_false hc1
 rw [if_neg h1,Bool.and_eq_true] at o3
 obtain ⟨o5,o6⟩:=o3
 have hid:=gName_size o5
 refine Sq<|Rg<|Dd eql'<|Dd as'<|Zz ?_
 refine Cn (fun hc2=>?_) fun hc2=>?_
 ·skip
  have h2:e.op=2:=of_decide_eq_true hc2
  rw [if_pos h2,onP,Bool.and_eq_true,decide_eq_true_eq,decide_eq_true_eq] at o6
  have hx:0≤e.x∧e.x < 1048576:=by omega
  have hy:0≤e.y∧e.y < 1048576:=by omega
  have six:(itoaB e.x).size≤7:=by rw [← size_list];show (Lib.itoa e.x).length≤7;rw [itoa_nat _ hx.1];exact digits_small (by omega) (by decide)
  have siy:(itoaB e.y).size≤7:=by rw [← size_list];show (Lib.itoa e.y).length≤7;rw [itoa_nat _ hy.1];exact digits_small (by omega) (by decide)
  have hw0:(⟨#[109,111,118,101]⟩:ByteArray).size=4:=rfl
  refine awp_drawc follows ?_
  refine Cq (fr' fo51_1)<|Cq (l1' Tryz.isAgg9)<|Cq (fr' fo51_4)<|Cq (fr' fo45_0)<|Cq (l1' Tryz.isAgg3)<|Cq (by exact opr_call rfl rfl Tryz.call68 rfl (itoa_cT e.x (by omega) (by omega) _))<|Cq (fr' fo51_4)<|Cq (fr' fo45_1)<|Cq (l1' Tryz.isAgg3)<|Cq (by exact opr_call rfl rfl Tryz.call68 rfl (itoa_cT e.y (by omega) (by omega) _))<|Cq (by exact x_buildSlice (([⟨#[109,111,118,101]⟩,e.id,itoaB e.x,itoaB e.y]:List ByteArray).map encStr) rfl so46 rfl rfl rfl rfl rfl (encStr_rl _))<|Cq as' ?_
  refine dc_nil ⟨by kernel_rfl,?_⟩
  refine Sq<|Rg<|Dd mv' ?_
  have hw:bs [⟨#[109,111,118,101]⟩,e.id,itoaB e.x,itoaB e.y]=lineW e:=by
   rw [lineW]
   (rw [if_pos h2];rfl)
  have hne:e.op≠1:=by omega
  have hj:∀ H,ACalls Tryz.prog 71 [.pv (slStrs [⟨#[109,111,118,101]⟩,e.id,itoaB e.x,itoaB e.y]),sv ⟨#[32]⟩] H (fun x H'=>x=sv ⟨(gJoinS [32] (bs [⟨#[109,111,118,101]⟩,e.id,itoaB e.x,itoaB e.y])).toArray⟩∧H'=H):=fun H=>joins_c [⟨#[109,111,118,101]⟩,e.id,itoaB e.x,itoaB e.y] ⟨#[32]⟩ H (by decide) (by show 1*_+_+_ < _;simp only [sizes_cons,List.length_cons,List.length_nil];omega)
  have hjs:(⟨(gJoinS [32] (bs [⟨#[109,111,118,101]⟩,e.id,itoaB e.x,itoaB e.y])).toArray⟩:ByteArray).size≤70000:=by
   show (gJoinS [32] (bs [⟨#[109,111,118,101]⟩,e.id,itoaB e.x,itoaB e.y])).length≤_
   have:=join_size [⟨#[109,111,118,101]⟩,e.id,itoaB e.x,itoaB e.y]
   simp only [sizes_cons,List.length_cons,List.length_nil] at this
   omega
  have h10:(⟨#[10]⟩:ByteArray).size=1:=rfl
  refine Dd (by exact opr_call rfl rfl Tryz.call71 rfl (hj _))<|Dd (by exact opd_sadd rfl rfl rfl (by omega) rfl)<|Dd as'<|Dd as'<|Zz<|awp_ret ?_
  refine Ru ?_
  rw [join_out hne hw,show lineErr e=0 from if_neg hne]
  exact⟨rfl,rfl⟩
 skip
 have h2:e.op≠2:=of_decide_eq_false hc2
 rw [if_neg h2] at o6
 refine Sq<|Rg<|Dd eql'<|Dd as'<|Zz ?_
 refine Cn (fun hc3=>?_) fun hc3=>?_
 ·skip
  have h3:e.op=3:=of_decide_eq_true hc3
  rw [if_pos h3,Bool.and_eq_true,decide_eq_true_eq] at o6
  have hks:=gName_size o6.1
  have hq:=quote_size e.val
  have hw0:(⟨#[116,97,103]⟩:ByteArray).size=3:=rfl
  refine awp_drawc follows ?_
  refine Cq (fr' fo51_1)<|Cq (l1' Tryz.isAgg9)<|Cq (fr' fo51_5)<|Cq (l1' Tryz.isAgg9)<|Cq (fr' fo51_6)<|Cq (l1' Tryz.isAgg9)<|Cq (by exact opr_call rfl rfl Tryz.call69 rfl (quote_c e.val _ (by omega)))<|Cq (by exact x_buildSlice (([⟨#[116,97,103]⟩,e.id,e.key,⟨(gQuote e.val.data.toList).toArray⟩]:List ByteArray).map encStr) rfl so46 rfl rfl rfl rfl rfl (encStr_rl _))<|Cq as' ?_
  refine dc_nil ⟨by kernel_rfl,?_⟩
  refine Sq<|Rg<|Dd mv' ?_
  have hw:bs [⟨#[116,97,103]⟩,e.id,e.key,⟨(gQuote e.val.data.toList).toArray⟩]=lineW e:=by
   rw [lineW]
   (rw [if_neg h2,if_pos h3];rfl)
  have hne:e.op≠1:=by omega
  have hj:∀ H,ACalls Tryz.prog 71 [.pv (slStrs [⟨#[116,97,103]⟩,e.id,e.key,⟨(gQuote e.val.data.toList).toArray⟩]),sv ⟨#[32]⟩] H (fun x H'=>x=sv ⟨(gJoinS [32] (bs [⟨#[116,97,103]⟩,e.id,e.key,⟨(gQuote e.val.data.toList).toArray⟩])).toArray⟩∧H'=H):=fun H=>joins_c [⟨#[116,97,103]⟩,e.id,e.key,⟨(gQuote e.val.data.toList).toArray⟩] ⟨#[32]⟩ H (by decide) (by show 1*_+_+_ < _;simp only [sizes_cons,List.length_cons,List.length_nil];omega)
  have hjs:(⟨(gJoinS [32] (bs [⟨#[116,97,103]⟩,e.id,e.key,⟨(gQuote e.val.data.toList).toArray⟩])).toArray⟩:ByteArray).size≤70000:=by
   show (gJoinS [32] (bs [⟨#[116,97,103]⟩,e.id,e.key,⟨(gQuote e.val.data.toList).toArray⟩])).length≤_
   have:=join_size [⟨#[116,97,103]⟩,e.id,e.key,⟨(gQuote e.val.data.toList).toArray⟩]
   simp only [sizes_cons,List.length_cons,List.length_nil] at this
   omega
  have h10:(⟨#[10]⟩:ByteArray).size=1:=rfl
  refine Dd (by exact opr_call rfl rfl Tryz.call71 rfl (hj _))<|Dd (by exact opd_sadd rfl rfl rfl (by omega) rfl)<|Dd as'<|Dd as'<|Zz<|awp_ret ?_
  refine Ru ?_
  rw [join_out hne hw,show lineErr e=0 from if_neg hne]
  exact⟨rfl,rfl⟩
 skip
 have h3:e.op≠3:=of_decide_eq_false hc3
 rw [if_neg h3] at o6
 refine Sq<|Rg<|Dd eql'<|Dd as'<|Zz ?_
 refine Cn (fun hc4=>?_) fun hc4=>?_
 ·skip
  have h4:e.op=4:=of_decide_eq_true hc4
  rw [if_pos h4,Bool.and_eq_true,Bool.and_eq_true,decide_eq_true_eq,decide_eq_true_eq,List.all_eq_true] at o6
  obtain ⟨⟨r1,r2⟩,r3⟩:=o6
  have hrs:sizes e.refs≤24*e.refs.length:=sizes_bound (fun s hs=>gName_size (r3 s hs))
  have hw0:(⟨#[114,101,102,115]⟩:ByteArray).size=4:=rfl
  have hfl:(([[⟨#[114,101,102,115]⟩,e.id],e.refs]:List (List ByteArray)).flatten).length < 1099511627776:=by simp;omega
  refine Rg<|Dd (fr' fo51_1)<|Dd (l1' Tryz.isAgg9)<|Dd (by exact x_buildSlice (([⟨#[114,101,102,115]⟩,e.id]:List ByteArray).map encStr) rfl so46 rfl rfl rfl rfl rfl (encStr_rl _))<|Dd (fr' fo51_7)<|Dd (l1' Tryz.isAgg46)<|Dd (by exact x_buildSlice (([[⟨#[114,101,102,115]⟩,e.id],e.refs]:List (List ByteArray)).map (fun l=>[.sl (l.map encStr)])) rfl so163 rfl rfl rfl rfl rfl (by simp))<|Dd (by exact opr_call rfl rfl Tryz.call70 rfl (concat_ByteArray [[⟨#[114,101,102,115]⟩,e.id],e.refs] _ (by show 2 < _;omega) hfl))<|Dd as'<|Zz<|Sq<|Rg<|Dd mv' ?_
  rw [show ([[⟨#[114,101,102,115]⟩,e.id],e.refs]:List (List ByteArray)).flatten=⟨#[114,101,102,115]⟩::e.id::e.refs by simp]
  have hw:bs (⟨#[114,101,102,115]⟩::e.id::e.refs)=lineW e:=by
   rw [lineW]
   (rw [if_neg h2,if_neg h3,if_pos h4];rfl)
  have hne:e.op≠1:=by omega
  have hj:∀ H,ACalls Tryz.prog 71 [.pv (slStrs (⟨#[114,101,102,115]⟩::e.id::e.refs)),sv ⟨#[32]⟩] H (fun x H'=>x=sv ⟨(gJoinS [32] (bs (⟨#[114,101,102,115]⟩::e.id::e.refs))).toArray⟩∧H'=H):=fun H=>joins_c (⟨#[114,101,102,115]⟩::e.id::e.refs) ⟨#[32]⟩ H (by decide) (by show 1*_+_+_ < _;simp only [sizes_cons,List.length_cons,List.length_nil];omega)
  have hjs:(⟨(gJoinS [32] (bs (⟨#[114,101,102,115]⟩::e.id::e.refs))).toArray⟩:ByteArray).size≤70000:=by
   show (gJoinS [32] (bs (⟨#[114,101,102,115]⟩::e.id::e.refs))).length≤_
   have:=join_size (⟨#[114,101,102,115]⟩::e.id::e.refs)
   simp only [sizes_cons,List.length_cons,List.length_nil] at this
   omega
  have h10:(⟨#[10]⟩:ByteArray).size=1:=rfl
  refine Dd (by exact opr_call rfl rfl Tryz.call71 rfl (hj _))<|Dd (by exact opd_sadd rfl rfl rfl (by omega) rfl)<|Dd as'<|Dd as'<|Zz<|awp_ret ?_
  refine Ru ?_
  rw [join_out hne hw,show lineErr e=0 from if_neg hne]
  exact⟨rfl,rfl⟩
 skip
 have h4:e.op≠4:=of_decide_eq_false hc4
 rw [if_neg h4] at o6
 refine Sq<|Rg<|Dd eql'<|Dd as'<|Zz ?_
 refine Cn (fun hc5=>?_) fun hc5=>?_
 ·skip
  have h5:e.op=5:=of_decide_eq_true hc5
  have hw0:(⟨#[100,114,111,112]⟩:ByteArray).size=4:=rfl
  refine Rg<|Dd (fr' fo51_1)<|Dd (l1' Tryz.isAgg9)<|Dd (by exact x_buildSlice (([⟨#[100,114,111,112]⟩,e.id]:List ByteArray).map encStr) rfl so46 rfl rfl rfl rfl rfl (encStr_rl _))<|Dd as'<|Zz<|Sq<|Rg<|Dd mv' ?_
  have hw:bs [⟨#[100,114,111,112]⟩,e.id]=lineW e:=by
   rw [lineW]
   (rw [if_neg h2,if_neg h3,if_neg h4,if_pos h5];rfl)
  have hne:e.op≠1:=by omega
  have hj:∀ H,ACalls Tryz.prog 71 [.pv (slStrs [⟨#[100,114,111,112]⟩,e.id]),sv ⟨#[32]⟩] H (fun x H'=>x=sv ⟨(gJoinS [32] (bs [⟨#[100,114,111,112]⟩,e.id])).toArray⟩∧H'=H):=fun H=>joins_c [⟨#[100,114,111,112]⟩,e.id] ⟨#[32]⟩ H (by decide) (by show 1*_+_+_ < _;simp only [sizes_cons,List.length_cons,List.length_nil];omega)
  have hjs:(⟨(gJoinS [32] (bs [⟨#[100,114,111,112]⟩,e.id])).toArray⟩:ByteArray).size≤70000:=by
   show (gJoinS [32] (bs [⟨#[100,114,111,112]⟩,e.id])).length≤_
   have:=join_size [⟨#[100,114,111,112]⟩,e.id]
   simp only [sizes_cons,List.length_cons,List.length_nil] at this
   omega
  have h10:(⟨#[10]⟩:ByteArray).size=1:=rfl
  refine Dd (by exact opr_call rfl rfl Tryz.call71 rfl (hj _))<|Dd (by exact opd_sadd rfl rfl rfl (by omega) rfl)<|Dd as'<|Dd as'<|Zz<|awp_ret ?_
  refine Ru ?_
  rw [join_out hne hw,show lineErr e=0 from if_neg hne]
  exact⟨rfl,rfl⟩
 skip
 have h5:e.op≠5:=of_decide_eq_false hc5
 rw [if_neg h5] at o6
 refine Sq<|Rg<|Dd eql'<|Dd as'<|Zz ?_
 refine Cn (fun hc6=>?_) fun hc6=>?_
 ·skip
  have h6:e.op=6:=of_decide_eq_true hc6
  rw [if_pos h6,Bool.and_eq_true] at o6
  have hns:=gName_size o6.1
  have hos:=gName_size o6.2
  have hw0:(⟨#[115,112,108,105,116]⟩:ByteArray).size=5:=rfl
  refine Rg<|Dd (fr' fo51_1)<|Dd (l1' Tryz.isAgg9)<|Dd (fr' fo51_3)<|Dd (l1' Tryz.isAgg9)<|Dd (fr' fo51_2)<|Dd (l1' Tryz.isAgg9)<|Dd (by exact x_buildSlice (([⟨#[115,112,108,105,116]⟩,e.id,e.node,e.other]:List ByteArray).map encStr) rfl so46 rfl rfl rfl rfl rfl (encStr_rl _))<|Dd as'<|Zz<|Sq<|Rg<|Dd mv' ?_
  have hw:bs [⟨#[115,112,108,105,116]⟩,e.id,e.node,e.other]=lineW e:=by
   rw [lineW]
   (rw [if_neg h2,if_neg h3,if_neg h4,if_neg h5,if_pos h6];rfl)
  have hne:e.op≠1:=by omega
  have hj:∀ H,ACalls Tryz.prog 71 [.pv (slStrs [⟨#[115,112,108,105,116]⟩,e.id,e.node,e.other]),sv ⟨#[32]⟩] H (fun x H'=>x=sv ⟨(gJoinS [32] (bs [⟨#[115,112,108,105,116]⟩,e.id,e.node,e.other])).toArray⟩∧H'=H):=fun H=>joins_c [⟨#[115,112,108,105,116]⟩,e.id,e.node,e.other] ⟨#[32]⟩ H (by decide) (by show 1*_+_+_ < _;simp only [sizes_cons,List.length_cons,List.length_nil];omega)
  have hjs:(⟨(gJoinS [32] (bs [⟨#[115,112,108,105,116]⟩,e.id,e.node,e.other])).toArray⟩:ByteArray).size≤70000:=by
   show (gJoinS [32] (bs [⟨#[115,112,108,105,116]⟩,e.id,e.node,e.other])).length≤_
   have:=join_size [⟨#[115,112,108,105,116]⟩,e.id,e.node,e.other]
   simp only [sizes_cons,List.length_cons,List.length_nil] at this
   omega
  have h10:(⟨#[10]⟩:ByteArray).size=1:=rfl
  refine Dd (by exact opr_call rfl rfl Tryz.call71 rfl (hj _))<|Dd (by exact opd_sadd rfl rfl rfl (by omega) rfl)<|Dd as'<|Dd as'<|Zz<|awp_ret ?_
  refine Ru ?_
  rw [join_out hne hw,show lineErr e=0 from if_neg hne]
  exact⟨rfl,rfl⟩
 skip
 have h6:e.op≠6:=of_decide_eq_false hc6
 rw [if_neg h6] at o6
 have hos:=gName_size o6
 have hw0:(⟨#[106,111,105,110]⟩:ByteArray).size=4:=rfl
 refine Rg<|Dd (fr' fo51_1)<|Dd (l1' Tryz.isAgg9)<|Dd (fr' fo51_2)<|Dd (l1' Tryz.isAgg9)<|Dd (by exact x_buildSlice (([⟨#[106,111,105,110]⟩,e.id,e.other]:List ByteArray).map encStr) rfl so46 rfl rfl rfl rfl rfl (encStr_rl _))<|Dd as'<|Zz<|Sq<|Rg<|Dd mv' ?_
 have hw:bs [⟨#[106,111,105,110]⟩,e.id,e.other]=lineW e:=by
  rw [lineW]
  (rw [if_neg h2,if_neg h3,if_neg h4,if_neg h5,if_neg h6];rfl)
 have hne:e.op≠1:=by omega
 have hj:∀ H,ACalls Tryz.prog 71 [.pv (slStrs [⟨#[106,111,105,110]⟩,e.id,e.other]),sv ⟨#[32]⟩] H (fun x H'=>x=sv ⟨(gJoinS [32] (bs [⟨#[106,111,105,110]⟩,e.id,e.other])).toArray⟩∧H'=H):=fun H=>joins_c [⟨#[106,111,105,110]⟩,e.id,e.other] ⟨#[32]⟩ H (by decide) (by show 1*_+_+_ < _;simp only [sizes_cons,List.length_cons,List.length_nil];omega)
 have hjs:(⟨(gJoinS [32] (bs [⟨#[106,111,105,110]⟩,e.id,e.other])).toArray⟩:ByteArray).size≤70000:=by
  show (gJoinS [32] (bs [⟨#[106,111,105,110]⟩,e.id,e.other])).length≤_
  have:=join_size [⟨#[106,111,105,110]⟩,e.id,e.other]
  simp only [sizes_cons,List.length_cons,List.length_nil] at this
  omega
 have h10:(⟨#[10]⟩:ByteArray).size=1:=rfl
 refine Dd (by exact opr_call rfl rfl Tryz.call71 rfl (hj _))<|Dd (by exact opd_sadd rfl rfl rfl (by omega) rfl)<|Dd as'<|Dd as'<|Zz<|awp_ret ?_
 refine Ru ?_
 rw [join_out hne hw,show lineErr e=0 from if_neg hne]
 exact⟨rfl,rfl⟩
theorem readEO_c (s:ByteArray) (H:Heap) (hP:(splitC 32 s.data.toList).headD []=wPut→∀ H s,s.size≤20000→ACalls Tryz.prog 81 [sv s] H (fun r H'=>r=.tup [av (encObj (gParseO s).1),iv (gParseO s).2]∧H'=H)) (hs:s.size≤20000):ACalls Tryz.prog 38 [sv s] H (fun r H'=>r=av (encEdit (gReadE s.data.toList))∧H'=H):=by
 refine ACalls.pure ?_ (by simp) H
 have hsz:=size_list s
 obtain ⟨W,hW⟩:∃ W,W=splitC 32 s.data.toList:=⟨_,rfl⟩
 obtain ⟨w0,hw0⟩:∃ w,w=W.headD []:=⟨_,rfl⟩
 obtain ⟨rs,hrs⟩:∃ r,r=s.data.toList.drop (w0.length+1):=⟨_,rfl⟩
 have hrl:rs.length≤s.size:=by rw [hrs,List.length_drop,hsz];omega
 have hg:gReadE s.data.toList=readW W w0 rs:=by rw [gReadE,← hW,← hw0,← hrs]
 have hC:∃ b,∀ H,ACalls Tryz.prog 80 [sv s,sv sSp] H (fun r H'=>r=.tup [sv (ofL w0),sv (ofL rs),bv b]∧H'=H):=by
  obtain ⟨b,hb⟩:=cutV_eq s
  rw [← hW,← hw0,← hrs] at hb
  exact⟨b,fun H=>by rw [← hb];exact cut_c s H (by omega)⟩
 obtain ⟨b,hC⟩:=hC
 have hSl:(splitS s).length=W.length:=by rw [split_len,hW]
 have hml:((splitS s).map encStr).length=W.length:=by rw [List.length_map,hSl]
 have hSg:∀ i,i < W.length→((splitS s).map encStr)[i]?=some [.str (ofL (W.getD i []))]:=fun i hi=>by
  rw [hW]
  exact map_get (f:=encStr) (split_get s i (by rw [hSl];exact hi))
 have hWs:∀ i,(ofL (W.getD i [])).size≤s.size:=fun i=>by
  rw [ofL_size,List.getD_eq_getElem?_getD]
  cases e:W[i]? with
  | none=>exact Nat.zero_le _
  | some w =>
   have:=split_word 32 (l:=s.data.toList) (w:=w) (by rw [← hW];exact List.mem_of_getElem? e)
   rw [hsz] at this
   exact this
 have hWl:W.length≤s.size+1:=by
  rw [hW,splitC_len]
  have:=List.count_le_length (l:=s.data.toList) (a:=32)
  omega
 have hjl:((splitS s).drop 3).length≤20001:=by rw [List.length_drop,hSl];omega
 have hjs:sizes ((splitS s).drop 3)≤20000*((splitS s).drop 3).length:=sizes_bound (fun w hw=>by
  have hw2:=List.mem_of_mem_drop hw
  rw [splitS,← hW] at hw2
  obtain ⟨x,hx,rfl⟩:=List.mem_map.1 hw2
  have:=split_word 32 (l:=s.data.toList) (w:=x) (by rw [← hW];exact hx)
  show (ofL x).size≤_
  rw [ofL_size]
  omega)
 rw [hg,readW]
 refine Bd Tryz.func38 rfl Tryz.ntmps38<|Sq<|Rg<|Dd (by exact x_alloc (id:=2) rfl zo51 rfl rfl)<|Zz<|Sq<|Rg<|Dd mv'<|Dd (by exact opr_call rfl rfl Tryz.call79 rfl (splitSp_c s _ (by omega)))<|Dd as'<|Zz<|Sq<|Rg<|Dd mv'<|Dd (by exact opr_call rfl rfl Tryz.call80 rfl (hC _))<|Dd mv'<|Dd ex'<|Dd ex'<|Dd ex'<|Dd as'<|Dd as'<|Dd as'<|Zz<|Sq<|awp_block<|Sq<|Rg<|Dd mv'<|Dd se'<|Dd as'<|Zz ?_
 refine Cn (fun hc1=>?_) fun hc1=>?_
 ·skip
  have h1:w0=wPut:=ofL_eq.1 (of_decide_eq_true hc1)
  rw [if_pos h1]
  refine Sq<|Rg<|Dd mv'<|Dd (by exact opr_call rfl rfl Tryz.call81 rfl (hP (by rw [← hW,← hw0];exact h1) _ (ofL rs) (by rw [ofL_size];omega)))<|Dd mv'<|Dd ex'<|Dd ex'<|Dd (by exact x_alloc (id:=7) rfl zo49 rfl rfl)<|Uu (sa' Tryz.sizeOf49)<|Dd as'<|Zz<|Sq<|Rg<|Dd (ln' Tryz.isAgg49 Tryz.sizeOf49)<|Dd (bu' bo51)<|Uu (sa' Tryz.sizeOf51)<|Zz<|awp_ret ?_
  refine aret1 (H':=[]) (.inr rfl) rfl (rl' Tryz.isAgg51 Tryz.sizeOf51) (Fin.wk (r:=av (encEdit ⟨1,sNil,sNil,sNil,0,0,sNil,sNil,[],(gParseO (ofL rs)).1⟩)) (by simp) trivial trivial) ?_
  exact⟨rfl,rfl⟩
 skip
 have h1:¬ w0=wPut:=fun e=>of_decide_eq_false hc1 (ofL_eq.2 e)
 rw [if_neg h1]
 refine Sq ?_
 refine awp_bool (t:=30) (n:=9) (X:=decide (ofL w0=⟨#[109,111,118,101]⟩)&&decide ((((splitS s).map encStr).length:Int)=4)) ?_ ?_
 ·all_goals refine Dd mv' ?_
  all_goals refine Dd se' ?_
  all_goals refine Dd mv' ?_
  all_goals refine Sp 33 (fun h33=>?_) fun h33=>?_
  all_goals try contradiction
  all_goals first|refine Fo ?_|refine On mv' ?_
  all_goals first|refine Fo ?_|refine On (ll' Tryz.underlying46) ?_
  all_goals first|refine Fo ?_|refine On eql' ?_
  all_goals refine Dd pk' ?_
  all_goals refine Dd as' ?_
  all_goals refine al_nil ?_
  all_goals(exact⟨⟨_,rfl,by(simp_all;done)⟩,rfl,rfl,rfl⟩)
 refine Cn (fun hc2=>?_) fun hc2=>?_
 ·skip
  have h2:ofL w0=ofL wMove∧_:=and_t hc2
  rw [ofL_eq,hml] at h2
  rw [if_pos ⟨h2.1,by omega⟩]
  have i1:=hSg 1 (by omega)
  have i2:=hSg 2 (by omega)
  have i3:=hSg 3 (by omega)
  have s2:=hWs 2
  have s3:=hWs 3
  refine Sq ?_
  refine awp_drawc follows ?_
  refine Cr [] (fun _ _=>mv')<|Cr [] (fun _ _=>(xp' so46))<|Cr [] (fun _ _=>(lp' Tryz.isAgg9))<|Cr [] (fun _ _=>mv')<|Cr [] (fun _ _=>(xp' so46))<|Cr [] (fun _ _=>(lp' Tryz.isAgg9))<|Cr [] (fun H1 hH=>by exact opr_call rfl rfl Tryz.call82 rfl (number_c (ofL (W.getD 2 [])) _ (by omega)))<|Cr [] (fun _ _=>mv')<|Cr [] (fun _ _=>(xp' so46))<|Cr [] (fun _ _=>(lp' Tryz.isAgg9))<|Cr [] (fun H1 hH=>by exact opr_call rfl rfl Tryz.call82 rfl (number_c (ofL (W.getD 3 [])) _ (by omega)))<|Cr [] (fun _ _=>(bu' bo45))<|Cr [] (fun _ _=>(bu' bo51))<|Cp [2] (fun H1 hH=>by exact x_store_all rfl Tryz.sizeOf51 rfl rfl rfl rfl ((hH _ rfl).trans rfl) rfl rfl rfl) ?_
  refine dc_nil ⟨by kernel_rfl,?_⟩
  refine awp_ret ?_
  refine aret1 (H':=[]) (.inr rfl) rfl (rl' Tryz.isAgg51 Tryz.sizeOf51) (Fin.wk (r:=av (encEdit ⟨2,ofL (W.getD 1 []),sNil,sNil,numV (W.getD 2 []),numV (W.getD 3 []),sNil,sNil,[],zObj⟩)) (by simp) trivial trivial) ?_
  exact⟨rfl,rfl⟩
 skip
 have h2:¬ (ofL w0=ofL wMove∧_):=and_f hc2
 rw [ofL_eq,hml] at h2
 rw [if_neg (fun h=>h2 ⟨h.1,by omega⟩)]
 refine Sq ?_
 refine awp_bool (t:=51) (n:=9) (X:=decide (ofL w0=⟨#[116,97,103]⟩)&&decide ((3:Int) < (((splitS s).map encStr).length:Int))) ?_ ?_
 ·all_goals refine Dd mv' ?_
  all_goals refine Dd se' ?_
  all_goals refine Dd mv' ?_
  all_goals refine Sp 54 (fun h54=>?_) fun h54=>?_
  all_goals try contradiction
  all_goals first|refine Fo ?_|refine On mv' ?_
  all_goals first|refine Fo ?_|refine On (ll' Tryz.underlying46) ?_
  all_goals first|refine Fo ?_|refine On gt' ?_
  all_goals refine Dd pk' ?_
  all_goals refine Dd as' ?_
  all_goals refine al_nil ?_
  all_goals(exact⟨⟨_,rfl,by(simp_all;done)⟩,rfl,rfl,rfl⟩)
 refine Cn (fun hc3=>?_) fun hc3=>?_
 ·skip
  have h3:ofL w0=ofL wTag∧_:=and_t hc3
  rw [ofL_eq,hml] at h3
  rw [if_pos ⟨h3.1,by omega⟩]
  have i1:=hSg 1 (by omega)
  have i2:=hSg 2 (by omega)
  have hJe:bs ((splitS s).drop 3)=W.drop 3:=by
   rw [bs,splitS,← hW,List.map_drop,List.map_map]
   congr 1
   exact(List.map_congr_left fun x _=>ofL_list x).trans (List.map_id _)
  have hj:∀ H,ACalls Tryz.prog 71 [.pv (slStrs ((splitS s).drop 3)),sv ⟨#[32]⟩] H (fun x H'=>x=sv (ofL (gJoinS [32] (W.drop 3)))∧H'=H):=fun H=>by
   have:=joins_c ((splitS s).drop 3) ⟨#[32]⟩ H (by decide) (by show 1*_+_+_ < _;omega)
   rw [hJe] at this
   exact this
  have hJs:(ofL (gJoinS [32] (W.drop 3))).size < 1099511627776:=by
   have:=join_size ((splitS s).drop 3)
   rw [hJe] at this
   rw [ofL_size]
   omega
  obtain ⟨J,hJ⟩:∃ J,J=ofL (gJoinS [32] (W.drop 3)):=⟨_,rfl⟩
  rw [← hJ] at hJs ⊢
  simp only [← hJ] at hj
  have htl:((gLex J).1.map encTok).length=(gLex J).1.length:=List.length_map _
  refine Sq<|Rg<|Dd mv'<|Dd (by exact x_slice_sl (l:=3) (h:=((splitS s).map encStr).length) (rows':=((splitS s).drop 3).map encStr) rfl so46 rfl (encStr_rlY _) rfl rfl (by omega) (Nat.le_refl _) (by rw [List.take_length];exact List.map_drop.symm))<|Dd (by exact opr_call rfl rfl Tryz.call71 rfl (hj _))<|Dd (by exact opr_call rfl rfl Tryz.call83 rfl (lex_c J _ hJs))<|Dd mv'<|Dd ex'<|Dd ex'<|Dd ex'<|Dd as'<|Dd as'<|Dd as'<|Zz<|Sq<|Rg<|Dd mv'<|Dd (ll' Tryz.underlying133)<|Dd eql'<|Zz ?_
  refine Cn (fun hc4=>?_) fun hc4=>?_
  ·skip
   have h4:(gLex J).1.length=1:=by have:=of_decide_eq_true hc4;omega
   obtain ⟨f,hf⟩:=List.length_eq_one_iff.1 h4
   rw [hf]
   have hf0:([f].map encTok)[0]?=some [.int .i64 f.kind,.str f.text,.int .i64 f.pos]:=rfl
   refine Sq ?_
   refine awp_drawc follows ?_
   refine Cr [] (fun _ _=>mv')<|Cr [] (fun _ _=>(xp' so46))<|Cr [] (fun _ _=>(lp' Tryz.isAgg9))<|Cr [] (fun _ _=>mv')<|Cr [] (fun _ _=>(xp' so46))<|Cr [] (fun _ _=>(lp' Tryz.isAgg9))<|Cr [] (fun _ _=>mv')<|Cr [] (fun _ _=>(xp' so133))<|Cr [] (fun _ _=>(fp' fo137_1))<|Cr [] (fun _ _=>(lp' Tryz.isAgg9))<|Cr [] (fun _ _=>(bu' bo51))<|Cp [2] (fun H1 hH=>by exact x_store_all rfl Tryz.sizeOf51 rfl rfl rfl rfl ((hH _ rfl).trans rfl) rfl rfl rfl) ?_
   refine dc_nil ⟨by kernel_rfl,?_⟩
   refine awp_ret ?_
   refine aret1 (H':=[]) (.inr rfl) rfl (rl' Tryz.isAgg51 Tryz.sizeOf51) (Fin.wk (r:=av (encEdit ⟨3,ofL (W.getD 1 []),sNil,sNil,0,0,ofL (W.getD 2 []),f.text,[],zObj⟩)) (by simp) trivial trivial) ?_
   exact⟨rfl,rfl⟩
  skip
  have h4:(gLex J).1.length≠1:=by have:=of_decide_eq_false hc4;omega
  split
  ·next f hf=>rw [hf] at h4;exact absurd rfl h4
  refine awp_skip<|Sq<|Rg<|Dd (bu' bo51)<|Uu (sa' Tryz.sizeOf51)<|Zz<|awp_ret ?_
  refine aret1 (H':=[]) (.inr rfl) rfl (rl' Tryz.isAgg51 Tryz.sizeOf51) (Fin.wk (r:=av (encEdit eNone)) (by simp) trivial trivial) ?_
  exact⟨rfl,rfl⟩
 skip
 have h3:¬ (ofL w0=ofL wTag∧_):=and_f hc3
 rw [ofL_eq,hml] at h3
 rw [if_neg (fun h=>h3 ⟨h.1,by omega⟩)]
 refine Sq ?_
 refine awp_bool (t:=81) (n:=9) (X:=decide (ofL w0=⟨#[114,101,102,115]⟩)&&decide ((1:Int) < (((splitS s).map encStr).length:Int))) ?_ ?_
 ·all_goals refine Dd mv' ?_
  all_goals refine Dd se' ?_
  all_goals refine Dd mv' ?_
  all_goals refine Sp 84 (fun h84=>?_) fun h84=>?_
  all_goals try contradiction
  all_goals first|refine Fo ?_|refine On mv' ?_
  all_goals first|refine Fo ?_|refine On (ll' Tryz.underlying46) ?_
  all_goals first|refine Fo ?_|refine On gt' ?_
  all_goals refine Dd pk' ?_
  all_goals refine Dd as' ?_
  all_goals refine al_nil ?_
  all_goals(exact⟨⟨_,rfl,by(simp_all;done)⟩,rfl,rfl,rfl⟩)
 refine Cn (fun hc5=>?_) fun hc5=>?_
 ·skip
  have h4:ofL w0=ofL wRefs∧_:=and_t hc5
  rw [ofL_eq,hml] at h4
  rw [if_pos ⟨h4.1,by omega⟩]
  have i1:=hSg 1 (by omega)
  refine Sq ?_
  refine awp_drawc follows ?_
  refine Cr [] (fun _ _=>mv')<|Cr [] (fun _ _=>(xp' so46))<|Cr [] (fun _ _=>(lp' Tryz.isAgg9))<|Cr [] (fun _ _=>mv')<|Cr [] (fun H1 hH=>by exact x_slice_sl (l:=2) (h:=((splitS s).map encStr).length) (rows':=((W.drop 2).map ofL).map encStr) rfl so46 rfl (encStr_rlY _) rfl rfl (by omega) (Nat.le_refl _) (by rw [List.take_length,splitS,← hW,List.map_drop,List.map_drop];rfl))<|Cr [] (fun _ _=>(bu' bo51))<|Cp [2] (fun H1 hH=>by exact x_store_all rfl Tryz.sizeOf51 rfl rfl rfl rfl ((hH _ rfl).trans rfl) rfl rfl rfl) ?_
  refine dc_nil ⟨by kernel_rfl,?_⟩
  refine awp_ret ?_
  refine aret1 (H':=[]) (.inr rfl) rfl (rl' Tryz.isAgg51 Tryz.sizeOf51) (Fin.wk (r:=av (encEdit ⟨4,ofL (W.getD 1 []),sNil,sNil,0,0,sNil,sNil,(W.drop 2).map ofL,zObj⟩)) (by simp) trivial trivial) ?_
  exact⟨rfl,rfl⟩
 skip
 have h4:¬ (ofL w0=ofL wRefs∧_):=and_f hc5
 rw [ofL_eq,hml] at h4
 rw [if_neg (fun h=>h4 ⟨h.1,by omega⟩)]
 refine Sq ?_
 refine awp_bool (t:=95) (n:=9) (X:=decide (ofL w0=⟨#[100,114,111,112]⟩)&&decide ((((splitS s).map encStr).length:Int)=2)) ?_ ?_
 ·all_goals refine Dd mv' ?_
  all_goals refine Dd se' ?_
  all_goals refine Dd mv' ?_
  all_goals refine Sp 98 (fun h98=>?_) fun h98=>?_
  all_goals try contradiction
  all_goals first|refine Fo ?_|refine On mv' ?_
  all_goals first|refine Fo ?_|refine On (ll' Tryz.underlying46) ?_
  all_goals first|refine Fo ?_|refine On eql' ?_
  all_goals refine Dd pk' ?_
  all_goals refine Dd as' ?_
  all_goals refine al_nil ?_
  all_goals(exact⟨⟨_,rfl,by(simp_all;done)⟩,rfl,rfl,rfl⟩)
 refine Cn (fun hc6=>?_) fun hc6=>?_
 ·skip
  have h5:ofL w0=ofL wDrop∧_:=and_t hc6
  rw [ofL_eq,hml] at h5
  rw [if_pos ⟨h5.1,by omega⟩]
  have i1:=hSg 1 (by omega)
  refine Sq<|Rg<|Dd mv'<|Dd (xp' so46)<|Dd (lp' Tryz.isAgg9)<|Dd (bu' bo51)<|Uu (sa' Tryz.sizeOf51)<|Zz<|awp_ret ?_
  refine aret1 (H':=[]) (.inr rfl) rfl (rl' Tryz.isAgg51 Tryz.sizeOf51) (Fin.wk (r:=av (encEdit ⟨5,ofL (W.getD 1 []),sNil,sNil,0,0,sNil,sNil,[],zObj⟩)) (by simp) trivial trivial) ?_
  exact⟨rfl,rfl⟩
 skip
 have h5:¬ (ofL w0=ofL wDrop∧_):=and_f hc6
 rw [ofL_eq,hml] at h5
 rw [if_neg (fun h=>h5 ⟨h.1,by omega⟩)]
 refine Sq ?_
 refine awp_bool (t:=107) (n:=9) (X:=decide (ofL w0=⟨#[115,112,108,105,116]⟩)&&decide ((((splitS s).map encStr).length:Int)=4)) ?_ ?_
 ·all_goals refine Dd mv' ?_
  all_goals refine Dd se' ?_
  all_goals refine Dd mv' ?_
  all_goals refine Sp 110 (fun h110=>?_) fun h110=>?_
  all_goals try contradiction
  all_goals first|refine Fo ?_|refine On mv' ?_
  all_goals first|refine Fo ?_|refine On (ll' Tryz.underlying46) ?_
  all_goals first|refine Fo ?_|refine On eql' ?_
  all_goals refine Dd pk' ?_
  all_goals refine Dd as' ?_
  all_goals refine al_nil ?_
  all_goals(exact⟨⟨_,rfl,by(simp_all;done)⟩,rfl,rfl,rfl⟩)
 refine Cn (fun hc7=>?_) fun hc7=>?_
 ·skip
  have h6:ofL w0=ofL wSplit∧_:=and_t hc7
  rw [ofL_eq,hml] at h6
  rw [if_pos ⟨h6.1,by omega⟩]
  have i1:=hSg 1 (by omega)
  have i2:=hSg 2 (by omega)
  have i3:=hSg 3 (by omega)
  refine Sq ?_
  refine awp_drawc follows ?_
  refine Cr [] (fun _ _=>mv')<|Cr [] (fun _ _=>(xp' so46))<|Cr [] (fun _ _=>(lp' Tryz.isAgg9))<|Cr [] (fun _ _=>mv')<|Cr [] (fun _ _=>(xp' so46))<|Cr [] (fun _ _=>(lp' Tryz.isAgg9))<|Cr [] (fun _ _=>mv')<|Cr [] (fun _ _=>(xp' so46))<|Cr [] (fun _ _=>(lp' Tryz.isAgg9))<|Cr [] (fun _ _=>(bu' bo51))<|Cp [2] (fun H1 hH=>by exact x_store_all rfl Tryz.sizeOf51 rfl rfl rfl rfl ((hH _ rfl).trans rfl) rfl rfl rfl) ?_
  refine dc_nil ⟨by kernel_rfl,?_⟩
  refine awp_ret ?_
  refine aret1 (H':=[]) (.inr rfl) rfl (rl' Tryz.isAgg51 Tryz.sizeOf51) (Fin.wk (r:=av (encEdit ⟨6,ofL (W.getD 1 []),ofL (W.getD 3 []),ofL (W.getD 2 []),0,0,sNil,sNil,[],zObj⟩)) (by simp) trivial trivial) ?_
  exact⟨rfl,rfl⟩
 skip
 have h6:¬ (ofL w0=ofL wSplit∧_):=and_f hc7
 rw [ofL_eq,hml] at h6
 rw [if_neg (fun h=>h6 ⟨h.1,by omega⟩)]
 refine Sq ?_
 refine awp_bool (t:=125) (n:=9) (X:=decide (ofL w0=⟨#[106,111,105,110]⟩)&&decide ((((splitS s).map encStr).length:Int)=3)) ?_ ?_
 ·all_goals refine Dd mv' ?_
  all_goals refine Dd se' ?_
  all_goals refine Dd mv' ?_
  all_goals refine Sp 128 (fun h128=>?_) fun h128=>?_
  all_goals try contradiction
  all_goals first|refine Fo ?_|refine On mv' ?_
  all_goals first|refine Fo ?_|refine On (ll' Tryz.underlying46) ?_
  all_goals first|refine Fo ?_|refine On eql' ?_
  all_goals refine Dd pk' ?_
  all_goals refine Dd as' ?_
  all_goals refine al_nil ?_
  all_goals(exact⟨⟨_,rfl,by(simp_all;done)⟩,rfl,rfl,rfl⟩)
 refine Cn (fun hc8=>?_) fun hc8=>?_
 ·skip
  have h7:ofL w0=ofL wJoin∧_:=and_t hc8
  rw [ofL_eq,hml] at h7
  rw [if_pos ⟨h7.1,by omega⟩]
  have i1:=hSg 1 (by omega)
  have i2:=hSg 2 (by omega)
  refine Sq ?_
  refine awp_drawc follows ?_
  refine Cr [] (fun _ _=>mv')<|Cr [] (fun _ _=>(xp' so46))<|Cr [] (fun _ _=>(lp' Tryz.isAgg9))<|Cr [] (fun _ _=>mv')<|Cr [] (fun _ _=>(xp' so46))<|Cr [] (fun _ _=>(lp' Tryz.isAgg9))<|Cr [] (fun _ _=>(bu' bo51))<|Cp [2] (fun H1 hH=>by exact x_store_all rfl Tryz.sizeOf51 rfl rfl rfl rfl ((hH _ rfl).trans rfl) rfl rfl rfl) ?_
  refine dc_nil ⟨by kernel_rfl,?_⟩
  refine awp_ret ?_
  refine aret1 (H':=[]) (.inr rfl) rfl (rl' Tryz.isAgg51 Tryz.sizeOf51) (Fin.wk (r:=av (encEdit ⟨7,ofL (W.getD 1 []),ofL (W.getD 2 []),sNil,0,0,sNil,sNil,[],zObj⟩)) (by simp) trivial trivial) ?_
  exact⟨rfl,rfl⟩
 skip
 have h7:¬ (ofL w0=ofL wJoin∧_):=and_f hc8
 rw [ofL_eq,hml] at h7
 rw [if_neg (fun h=>h7 ⟨h.1,by omega⟩)]
 refine awp_skip<|Sq<|Rg<|Dd (bu' bo51)<|Uu (sa' Tryz.sizeOf51)<|Zz<|awp_ret ?_
 refine aret1 (H':=[]) (.inr rfl) rfl (rl' Tryz.isAgg51 Tryz.sizeOf51) (Fin.wk (r:=av (encEdit eNone)) (by simp) trivial trivial) ?_
 exact⟨rfl,rfl⟩
theorem textCO_c (l:List GEdit) (H:Heap) (hO:∀ e∈l,e.op=1→∀ H,ACalls Tryz.prog 67 [av (encObj e.obj)] H (fun r H'=>r=.tup [sv (gObjT e.obj).1,iv (gObjT e.obj).2]∧H'=H)) (hl:l.length < 4611686018427387904) (he:∀ e∈l,okE e):ACalls Tryz.prog 11 [.pv (slEdits l)] H (fun r H'=>r=.tup [sv (gTextC l).1,iv (gTextC l).2]∧H'=H):=by
 refine ACalls.pure ?_ (by simp) H
 have hml:(l.map encEdit).length=l.length:=List.length_map _
 refine Bd Tryz.func11 rfl Tryz.ntmps11<|Sq<|Rg<|Dd as'<|Dd as'<|Zz<|Sq<|Sq<|Rg<|Dd mv'<|Dd (by exact opr_call rfl rfl Tryz.call15 rfl (changeValid_c l _ hl he))<|Dd no'<|Zz ?_
 refine Cn (fun hc1=>?_) fun hc1=>?_
 ·skip
  have hg:gChange l=false:=by have h:=hc1;rwa [Bool.not_eq_true'] at h
  rw [show gTextC l=(sNil,1)by rw [gTextC,hg];rfl]
  refine Sq<|Rg<|Dd as'<|Dd as'<|Zz<|awp_ret ?_
  refine Ru ?_
  exact⟨rfl,rfl⟩
 skip
 have hg:gChange l=true:=by have h:=hc1;rwa [Bool.not_eq_false'] at h
 have hv:=(gChange_of hg).2
 have hT:gTextC l=(ofL (textF [] l).1,(textF [] l).2):=by rw [gTextC,if_pos hg]
 refine awp_skip<|Sq<|Rg<|Dd (by exact x_alloc (id:=2001) rfl zoN62 rfl rfl)<|Zz<|Sq<|Sq ?_
 refine AWp.ent (E':=[(0,.pv (slEdits l)),(4,.ref 2001 0 0 0)]) (H':=[(2002,⟨0,1,5,[]⟩),(2001,bObT (.osl 2002 0 0 0) false)]) (Ent.nz 2002 1 5 rfl rfl ⟨⟨_,rfl,(by exact Nz.same (by(simp;done)))⟩,⟨_,rfl,(by exact Nz.same (by(simp;rfl)))⟩,trivial⟩ ⟨⟨_,rfl,rfl,rfl,rfl,(by exact .inr ⟨_,_,rfl,rfl,(by repeat(first|exact trivial|refine⟨(by first|exact Nz.own|exact Nz.same (by(simp;done))),?_⟩))⟩)⟩,trivial⟩ trivial) ?_
 refine Rg<|Dd mv'<|Dd (ll' Tryz.underlying22)<|Dd mv'<|Zz<|awp_block ?_
 refine awp_loop (σ:=Nat) (fun k=>([(4,.ref 2001 0 0 0),(12,.pv (slEdits l)),(13,iv ((l.map encEdit).length:Int)),(14,iv (k:Int))],[(2001,bldA (accC l k) k (uK k)),(2002,bldD (accC l k) k)])) (fun k=>k≤l.length∧textF [] l=textF (accC l k) (l.drop k)∧(accC l k).length≤20000) (fun k=>l.length - k) 0 ⟨Nat.zero_le _,rfl,Nat.zero_le _⟩ ?_ ?_
 ·exact(Ent.wk (Ea<|Eb<|Eb<|Eb<|trivial) (Hc (bOb_cloT rfl rfl)<|Hc (brows_clo _ _)<|trivial) trivial)
 rintro k ⟨hk,hF,hA⟩
 refine Sq<|Rg<|Dd lss'<|Zz<|Sq ?_
 refine Cn (fun hc2=>?_) fun hc2=>?_
 ·skip
  have hlt:k < l.length:=by have:=of_decide_eq_true hc2;omega
  obtain ⟨e,hke⟩:=get_of_lt hlt
  have hi:=map_get (f:=encEdit) hke
  have hem:=List.mem_of_getElem? hke
  have hnx:=accC_next hke
  have hYl:=lineY_len (hv e hem)
  have hdr:l.drop k=e::l.drop (k+1):=by
   rw [List.drop_eq_getElem_cons hlt]
   rw [List.getElem?_eq_getElem hlt] at hke
   cases hke
   rfl
  rw [hdr,textF] at hF
  have hsz:(ofL (lineY e++[10])).size=(lineY e).length+1:=by rw [ofL_size,List.length_append];rfl
  have hbl:bld (k+1) (accC l k++(ofL (lineY e++[10])).data.toList) true=bld (k+1) (accC l (k+1)) true:=by rw [ofL_list,hnx]
  have hnl:(accC l (k+1)).length=(accC l k).length+((lineY e).length+1):=by rw [hnx,List.length_append,List.length_append];rfl
  have hw:∀ H,H.get 2001=some (bldA (accC l k) k (uK k))→H.get 2002=some (bldD (accC l k) k)→ACalls Tryz.prog 33 [.ref 2001 0 0 0,sv (ofL (lineY e++[10]))] H (fun r H'=>r=.tup [iv ((ofL (lineY e++[10])).size:Int),.pv nilI]∧H'=bld (k+1) (accC l (k+1)) true++H):=fun H h1 h2=>by
   have:=wrB_f (H:=H) (ofL (lineY e++[10])) h1 h2 (by omega)
   rwa [hbl] at this
  refine awp_skip<|Sq<|awp_block<|Sq<|Rg<|Dd (xp' so22)<|Dd (by exact opd_loadn_pad rfl Tryz.isAgg51 Tryz.sizeOf51 rfl (by omega) rfl rfl)<|Dd (by exact x_alloc (id:=6) rfl zo51 rfl rfl)<|Uu (sa' Tryz.sizeOf51)<|Zz<|Sq<|Rg<|Dd (ln' Tryz.isAgg51 Tryz.sizeOf51)<|Dd (by exact opr_call rfl rfl Tryz.call32 rfl (lineO_c e _ (hO e hem) (he e hem) (hv e hem)))<|Dd mv'<|Dd ex'<|Dd ex'<|Dd as'<|Dd as'<|Zz<|Sq<|Rg<|Dd mv'<|Dd (by exact opr_call rfl rfl Tryz.call33 rfl (hw _ rfl rfl))<|Zz<|Sq ?_
  refine awp_bool (t:=30) (n:=7) (X:=!decide (lineErr e=0)||decide ((20000:Int) < ((accC l (k+1)).length:Int))) ?_ ?_
  ·all_goals refine Dd mv' ?_
   all_goals refine Dd ne' ?_
   all_goals refine Dd mv' ?_
   all_goals refine Sp 27 (fun h27=>?_) fun h27=>?_
   all_goals try contradiction
   all_goals first|refine Fo ?_|refine On (by exact opr_call rfl rfl Tryz.call34 rfl (lenB_f (l:=accC l (k+1)) (g:=k+1) (u:=true) rfl rfl)) ?_
   all_goals first|refine Fo ?_|refine On gt' ?_
   all_goals refine Dd pk' ?_
   all_goals refine al_nil ?_
   all_goals(exact⟨⟨_,rfl,by(simp only [*,Zo];done)⟩,rfl,rfl,rfl⟩)
  refine Cn (fun hc3=>?_) fun hc3=>?_
  ·skip
   have hbad:lineErr e≠0∨20000 < (accC l k++(lineY e++[10])).length:=by have h:=hc3;rw [← hnx];simp only [Bool.or_eq_true,Bool.not_eq_true',decide_eq_false_iff_not,decide_eq_true_eq] at h;omega
   rw [if_pos hbad] at hF
   rw [hT,hF]
   refine Sq<|Rg<|Dd as'<|Dd as'<|Zz<|awp_ret ?_
   refine Ru ?_
   exact⟨rfl,rfl⟩
  skip
  have hfine:¬ (lineErr e≠0∨20000 < (accC l k++(lineY e++[10])).length):=by have h:=hc3;rw [← hnx];simp only [Bool.or_eq_false_iff,Bool.not_eq_false',decide_eq_false_iff_not,decide_eq_true_eq] at h;omega
  rw [if_neg hfine,← hnx] at hF
  rw [← hnx] at hfine
  refine awp_skip<|Rg<|Dd ad'<|Dd mv'<|Zz ?_
  exact⟨k+1,⟨hlt,hF,by omega⟩,by omega,(Ent.wk (Ea<|Eb<|Eb<|Eb<|trivial) (Hc (bOb_cloT rfl rfl)<|Hc (brows_clo _ _)<|trivial) trivial)⟩
 skip
 have hge:k=l.length:=by have:=of_decide_eq_false hc2;omega
 subst hge
 rw [List.drop_length,textF] at hF
 rw [hT,hF]
 refine awp_exit<|Sq<|Rg<|Dd (by exact opr_call rfl rfl Tryz.call35 rfl (strB_f (l:=accC l l.length) (g:=l.length) (u:=uK l.length) rfl rfl (by omega)))<|Dd as'<|Dd as'<|Zz<|awp_ret ?_
 refine Ru ?_
 exact⟨rfl,rfl⟩
theorem parseCO_c (t:ByteArray) (H:Heap) (hR:∀ k,k < (linesS t).length→(splitC 32 (trimB (lineA (restA t k))).data.toList).headD []=wPut→∀ H s,s.size≤20000→ACalls Tryz.prog 81 [sv s] H (fun r H'=>r=.tup [av (encObj (gParseO s).1),iv (gParseO s).2]∧H'=H)) (hO:∀ e∈lnsE t (linesS t).length,e.op=1→∀ H,ACalls Tryz.prog 67 [av (encObj e.obj)] H (fun r H'=>r=.tup [sv (gObjT e.obj).1,iv (gObjT e.obj).2]∧H'=H)) (hs:t.size < 1099511627776):ACalls Tryz.prog 13 [sv t] H (fun r H'=>r=.tup [.pv (slEdits (gParseC t).1),iv (gParseC t).2]∧H'=H):=by
 refine ACalls.pure ?_ (by simp) H
 rw [gParseC,← lnsE_all]
 refine Bd Tryz.func13 rfl Tryz.ntmps13<|Sq<|Rg<|Dd as'<|Dd as'<|Zz<|Sq<|Sq<|Rg<|Dd mv'<|Dd (ls' Tryz.underlying9)<|Dd gt'<|Zz ?_
 refine Cn (fun hc1=>?_) fun hc1=>?_
 ·skip
  have h2:20000 < t.size:=by have:=of_decide_eq_true hc1;omega
  rw [if_pos h2]
  refine Sq<|Rg<|Dd as'<|Dd as'<|Zz<|awp_ret ?_
  refine Ru ?_
  exact⟨rfl,rfl⟩
 skip
 have h2:¬ 20000 < t.size:=by have:=of_decide_eq_false hc1;omega
 rw [if_neg h2]
 refine awp_skip<|Sq<|Rg<|Dd (by exact x_alloc (id:=4) rfl zoN22 rfl rfl)<|Zz<|Sq<|Sq<|Rg<|Dd mv'<|Dd (by exact opr_call rfl rfl Tryz.call37 rfl (lines_c t _ rfl))<|Zz<|awp_block ?_
 obtain ⟨n,hn⟩:∃ n,n=(linesS t).length:=⟨_,rfl⟩
 have hnl:n≤20000:=by rw [hn];exact lines_len (by omega)
 refine AWp.ent (E':=[(0,sv t),(4,.ref 4 0 0 0),(12,.clo 77 [.ref 933 0 0 0])]) (H':=[(905,⟨0,15,51,[]⟩),(933,lB t),(4,bx 1 22 [.osl 905 0 0 0])]) ?_ ?_
 ·exact(Ent.nz 905 15 51 rfl rfl ⟨⟨_,rfl,(by exact Nz.same (by(simp;done)))⟩,⟨_,rfl,(by exact Nz.same (by(simp;rfl)))⟩,⟨_,rfl,(by exact Nz.same (by(simp;rfl)))⟩,trivial⟩ ⟨⟨_,rfl,rfl,rfl,rfl,(by exact .inl ⟨rfl,(by exact lB_clo _ _)⟩)⟩,⟨_,rfl,rfl,rfl,rfl,(by exact .inr ⟨_,_,rfl,rfl,(by repeat(first|exact trivial|refine⟨(by exact Nz.own),?_⟩))⟩)⟩,trivial⟩ trivial)
 refine AWp.ent (E':=[(0,sv t),(4,.ref 4 0 0 0),(12,.clo 77 [.ref 933 0 0 0])]) (H':=pcK t t 0) (Ent.wk (Eb<|Ea<|Ea<|trivial) (Hc (lB_clo _ _)<|Hc (eRows_clo _ _)<|Ha<|trivial) trivial) ?_
 refine awp_range (id:=904) (p:=13) (pcE t) rfl Tryz.call77 rfl rfl (by simp [pcE];exact⟨rfl,rfl⟩) ?_
 intro x hx1 hx2 hx3 hx4 hx5 hx6
 have hround:∀ k,k < n→CallsV Tryz.prog (.yld 904 0) [sv (lineA (restA t k))] ((904,LR x (pcE t))::pcK t (restA t (k+1)) k) (fun r H'=>r=bv true∧H'=(904,LR x (pcE t))::pcK t (restA t (k+1)) (k+1)):=by
  intro k hk
  have hnx:=lnsE_next t k
  have hll:=lnsE_len t k
  have hls:=lineA_small (t:=t) (k:=k) (by omega)
  have hla:(lineA (restA t k)).size≤t.size:=Nat.le_trans (lineA_size _) (rest_drop t k (by omega)).2
  refine .inl ⟨904,0,rfl,?_⟩
  refine ycalls [(0,sv t),(4,.ref 4 0 0 0),(5,sv (lineA (restA t k)))] (pcK t (restA t (k+1)) k) hx1 hx2 hx3 hx4 hx5 hx6 rfl rfl rfl ?_ ?_
  ·skip
   refine Rg<|Dd as'<|Zz ?_
   exact(Ent.wk (Eb<|Ea<|Eb<|trivial) (Hc (LR_clo (by simp [pcE];rfl))<|Hc (lB_clo _ _)<|Hc (eRows_clo _ _)<|Ha<|trivial) ⟨rfl,rfl,rfl,rfl,trivial⟩)
  skip
  refine awp_block ?_
  refine awp_drawc follows ?_
  refine dc_cons (r:=⟨_,none,[]⟩) (DStep.plain rfl (fun H1 hH=>by exact(by exact opd_load1_ref rfl Tryz.isAgg22 rfl ((hH _ rfl).trans rfl) rfl rfl rfl))) rfl ?_
  refine dc_cons (r:=⟨_,none,[]⟩) (DStep.plain rfl (fun H1 hH=>by exact opd_move rfl rfl)) rfl ?_
  refine dc_cons (r:=⟨_,none,[]⟩) (DStep.plain rfl (fun H1 hH=>by exact opr_call rfl rfl Tryz.call39 rfl (trim_c (lineA (restA t k)) _ (by omega)))) rfl ?_
  refine dc_cons (r:=⟨_,none,[]⟩) (DStep.plain rfl (fun H1 hH=>by exact opr_call rfl rfl Tryz.call38 rfl (readEO_c (trimB (lineA (restA t k))) _ (hR k (by omega)) (by omega)))) rfl ?_
  refine dc_cons (r:=⟨_,none,[]⟩) (DStep.plain rfl (fun H1 hH=>by exact(by exact x_buildSlice [encEdit (lnE t k)] rfl so22 rfl rfl rfl rfl rfl (by intro r hr;rw [List.mem_singleton] at hr;subst hr;rfl)))) rfl ?_
  refine dc_cons (r:=⟨_,none,[_]⟩) (DStep.plain rfl (fun H1 hH=>by exact x_append (ps:=[encEdit (lnE t k)]) rfl so22 ei51 rfl ((hH _ rfl).trans rfl) rfl rfl rfl ((eRows_len _).trans hll) rfl (by intro r hr;rw [List.mem_singleton] at hr;subst hr;rfl) (m:=1) rfl (by omega) rfl (eRows_app (lnsE t k) (lnE t k)))) rfl ?_
  refine dc_cons (r:=⟨_,none,[_]⟩) (DStep.plain rfl (fun H1 hH=>by exact(by exact x_store_all rfl Tryz.sizeOf22 rfl rfl rfl rfl ((hH _ rfl).trans rfl) rfl rfl rfl))) rfl ?_
  refine dc_nil ⟨by kernel_rfl,?_⟩
  exact⟨[(933,lB (restA t (k+1))),(905,⟨k+1,15,51,eRows (lnsE t k++[lnE t k])⟩),(4,bx 1 22 [.osl 905 (k+1) 0 (k+1)])],(Ent.wk trivial (Hc (LR_clo (by simp [pcE];rfl))<|Hc (lB_clo _ _)<|Hc (eRows_clo _ _)<|Ha<|trivial) ⟨rfl,rfl,rfl,rfl,trivial⟩),rfl,by rw [← hnx];rfl⟩
 refine(lines1_c t (.yld 904 0) (fun k=>(904,LR x (pcE t))::pcK t (restA t k) k) hs (fun k=>rfl) (fun k hk=>?_)).mono ?_
 ·exact CallsV.congrG (hround k (by omega)) (fun j=>get_shY j) (fun j=>rfl)
 rintro r H' ⟨rfl,rfl⟩
 refine⟨x,_,rfl,by rw [hx1];decide,rfl,fun z=>?_⟩
 rw [hx2]
 obtain ⟨L,hL⟩:∃ L,L=lnsE t n:=⟨_,rfl⟩
 have hLl:L.length=n:=by rw [hL];exact lnsE_len t n
 rw [← hn,← hL]
 have hok:∀ e∈L,okE e:=fun e he=>by
  rw [hL,lnsE] at he
  obtain ⟨k,hk,rfl⟩:=List.mem_map.1 he
  have:=lineA_small (t:=t) (k:=k) (by have:=List.mem_range.1 hk;omega)
  exact gReadE_ok (by rw [size_list];omega)
 refine Sq<|Sq ?_
 refine AWp.ent (Ent.fzG (id:=905) (E':=[(0,sv t),(4,.ref 4 0 0 0)]) (H':=[(4,bx 1 22 [.pv (slEdits L)])]) (L.map encEdit) rfl (by rw [hL];exact rows_ofY encEdit _) ?_ rfl ?_ ?_) ?_
 ·intro p hp
  simp only [List.mem_cons,List.not_mem_nil,or_false] at hp
  rcases hp with rfl|rfl<;>exact⟨_,rfl,.same (by simp;try rfl)⟩
 ·exact⟨⟨_,rfl,rfl,rfl,rfl,fzr_one rfl (fz_cons (.osl (by rw [← hLl];exact take_rows encEdit L)) fz_nil)⟩,trivial⟩
 ·exact trivial
 refine Rg<|Dd (l1' Tryz.isAgg22)<|Dd (by exact opr_call rfl rfl Tryz.call11 rfl (textCO_c L _ (by rw [hL,hn];exact hO) (by omega) hok))<|Dd mv'<|Dd ex'<|Dd ex'<|Dd as'<|Dd as'<|Zz<|Sq ?_
 refine awp_bool (t:=31) (n:=8) (X:=!decide ((gTextC L).2=0)||!decide ((gTextC L).1=t)) ?_ ?_
 ·all_goals refine Dd mv' ?_
  all_goals refine Dd ne' ?_
  all_goals refine Dd mv' ?_
  all_goals refine Sp 27 (fun h27=>?_) fun h27=>?_
  all_goals try contradiction
  all_goals first|refine Fo ?_|refine On mv' ?_
  all_goals first|refine Fo ?_|refine On mv' ?_
  all_goals first|refine Fo ?_|refine On sn' ?_
  all_goals refine Dd pk' ?_
  all_goals refine al_nil ?_
  all_goals(exact⟨⟨_,rfl,by(simp_all;done)⟩,rfl,rfl,rfl⟩)
 refine Cn (fun hc2=>?_) fun hc2=>?_
 ·skip
  have hne:gTextC L≠(t,0):=fun e=>by have h:=hc2;rw [e] at h;simp at h
  rw [if_neg hne]
  refine Sq<|Rg<|Dd as'<|Dd as'<|Zz<|awp_ret ?_
  refine Ru ?_
  exact⟨rfl,rfl⟩
 skip
 have hee:gTextC L=(t,0):=by have h:=hc2;simp only [Bool.or_eq_false_iff,Bool.not_eq_false',decide_eq_true_eq] at h;exact Prod.ext h.2 h.1
 rw [if_pos hee]
 refine awp_skip<|Sq<|Rg<|Dd (l1' Tryz.isAgg22)<|Dd as'<|Dd as'<|Zz<|awp_ret ?_
 refine Ru ?_
 exact⟨rfl,rfl⟩
end
section
theorem lnsY:lnsE (t1Y++t2Y) (linesS (t1Y++t2Y)).length=[eMv,eTg]:=by
 rw [lnsE_all]
 kernel_rfl
theorem lnY2:(linesS (t1Y++t2Y)).length=2:=by kernel_rfl
theorem hdY (k:Nat) (hk:k < 2):¬ (splitC 32 (trimB (lineA (restA (t1Y++t2Y) k))).data.toList).headD []=wPut:=by
 have h:k=0∨k=1:=by omega
 rcases h with rfl|rfl
 ·have h1:(splitC 32 (trimB (lineA (restA (t1Y++t2Y) 0))).data.toList).headD []=[109,111,118,101]:=by kernel_rfl
  rw [h1]
  decide
 have h1:(splitC 32 (trimB (lineA (restA (t1Y++t2Y) 1))).data.toList).headD []=[116,97,103]:=by kernel_rfl
 rw [h1]
 decide
theorem noput {l:List GEdit} {Q:GEdit→Prop} (h:l.all (fun e=>!decide (e.op=1))=true):∀ e∈l,e.op=1→Q e:=fun e he h1=>by
 have:=List.all_eq_true.1 h e he
 rw [decide_eq_true h1] at this
 cases this
theorem head22s_c (H:Heap):ACalls Tryz.prog 9 [] H (fun r H'=>r=bv true∧H'=H):=by
 have hT1:∀ H,ACalls Tryz.prog 11 [.pv (slEdits [eMv])] H (fun r H'=>r=.tup [sv t1Y,iv 0]∧H'=H):=fun H=>by
  have:=textCO_c [eMv] H (noput rfl) (by decide) (fun e he=>okE_l2 e (List.mem_cons.2 (.inl (List.mem_singleton.1 he))))
  rw [ht1Y] at this
  exact this
 have hT2:∀ H,ACalls Tryz.prog 11 [.pv (slEdits [eTg])] H (fun r H'=>r=.tup [sv t2Y,iv 0]∧H'=H):=fun H=>by
  have:=textCO_c [eTg] H (noput rfl) (by decide) (fun e he=>okE_l2 e (List.mem_cons_of_mem _ he))
  rw [ht2Y] at this
  exact this
 have hP:∀ H,ACalls Tryz.prog 13 [sv (t1Y++t2Y)] H (fun r H'=>r=.tup [.pv (slEdits [eMv,eTg]),iv 0]∧H'=H):=fun H=>by
  have:=parseCO_c (t1Y++t2Y) H (fun k hk h=>absurd h (hdY k (by rw [lnY2] at hk;exact hk))) (by rw [lnsY];exact noput rfl) (by decide)
  rw [hp1Y] at this
  exact this
 exact head22_of hT1 hT2 hP allY_c H
end
section
theorem okE_bet {a b:List GObj} (ha:okM a) (hb:okM b) (hca:closedB a=true) (hcb:closedB b=true):∀ e∈betL a b,okE e:=by
 have hga:=gMap_iff.1 (closed_gMap hca)
 have hgb:=gMap_iff.1 (closed_gMap hcb)
 have hka:∀ o∈a,1≤o.kind∧o.kind≤5:=fun o ho=>gObj_kind (hga.1 o ho)
 have hkb:∀ o∈b,1≤o.kind∧o.kind≤5:=fun o ho=>gObj_kind (hgb.1 o ho)
 have hz:sNil.size < 4611686018427387904:=by decide
 intro e he
 simp only [betL,List.mem_append,List.mem_map,List.mem_flatMap] at he
 rcases he with⟨o,ho,rfl⟩|⟨o,ho,rfl⟩|⟨k,hk,he⟩|⟨k,hk,he⟩|⟨k,hk,he⟩|⟨o,ho,rfl⟩
 ·exact okE_of1 (ha.2 o ((mem_layL hka).1 (List.mem_filter.1 ho).1)).1 hz
 ·exact okE_put (hb.2 o ((mem_layL hkb).1 (List.mem_filter.1 ho).1))
 ·obtain ⟨q1,q2,_⟩:=mem_both.1 hk
  rw [stMove] at he
  split at he
  ·cases he
  rw [List.mem_singleton] at he
  subst he
  exact okE_of1 (ha.2 _ (look_mem q2)).1 hz
 ·obtain ⟨q1,q2,_⟩:=mem_both.1 hk
  rw [stRefs] at he
  split at he
  ·cases he
  rw [List.mem_singleton] at he
  subst he
  have h2:=hb.2 _ q1
  exact⟨⟨(ha.2 _ (look_mem q2)).1,hz,hz,hz⟩,⟨h2.2.2.1,h2.2.2.2⟩,zObj_ok⟩
 ·obtain ⟨q1,q2,_⟩:=mem_both.1 hk
  rw [stTags] at he
  obtain ⟨p,hp,rfl⟩:=List.mem_map.1 he
  have h1:=ha.2 _ (look_mem q2)
  have h2:=hb.2 _ q1
  rw [tagL,List.mem_append,List.mem_map,List.mem_map] at hp
  rcases hp with⟨t,ht,rfl⟩|⟨t,ht,rfl⟩
  ·exact okE_of1 h1.1 (h1.2.1.2 t (List.mem_filter.1 ht).1).1
  exact okE_of1 h1.1 (h2.2.1.2 t (List.mem_filter.1 ht).1).1
 exact okE_of1 (ha.2 o ((mem_layL hka).1 (List.mem_filter.1 ho).1)).1 hz
end
section
theorem bet_ok {a b:List GObj} (ha:okM a) (hb:okM b):∀ e∈(gBetween a b).1,okE e:=by
 intro e he
 rw [gBetween] at he
 split at he
 ·cases he
 next h1 =>
 have hcc:closedB a=true∧closedB b=true:=by simpa using h1
 split at he
 ·cases he
 exact okE_bet ha hb hcc.1 hcc.2 e he
theorem bet_len (a b:List GObj):(gBetween a b).1.length≤200:=by
 rw [gBetween]
 split
 ·exact Nat.zero_le _
 split
 ·exact Nat.zero_le _
 next h=>show (betL a b).length≤200;omega
theorem changeBetMatches_c (a b:List GObj) (H:Heap) (ha:okM a) (hb:okM b) :
  ACalls Tryz.prog 4 [.agg [.pv (slObjs a)],.agg [.pv (slObjs b)]] H (fun r H'=>r=bv true∧H'=H):=by
 refine ACalls.pure ?_ (by simp) H
 have hB:∀ H,ACalls Tryz.prog 22 [.agg [.pv (slObjs a)],.agg [.pv (slObjs b)]] H (fun r H'=>r=.tup [.pv (slEdits (gBetween a b).1),iv (gBetween a b).2]∧H'=H):=fun H=>between_c a b ha hb H
 have hlen:=bet_len a b
 have hok:=bet_ok ha hb
 have hall:=fun H=>all22_c (gBetween a b).1 (gBetween a b).1 H (by omega) hok hok
 have hR:=fun(h1:a.length≤24) (h2:b.length≤24) H=>rBetween_c a b H ha hb h1 h2
 obtain ⟨x,hx⟩:∃ x,x=gBetween a b:=⟨_,rfl⟩
 rw [← hx] at hB hlen hok hall hR
 refine Bd Tryz.func4 rfl Tryz.ntmps4<|Sq<|Rg<|Dd (by exact opd_box (id:=2) rfl rfl rfl rfl rfl)<|Dd (by exact opd_box (id:=3) rfl rfl rfl rfl rfl)<|Dd as'<|Zz<|Sq<|Rg<|Dd (by exact opr_call rfl rfl Tryz.call9 rfl (head22s_c _))<|Dd as'<|Zz<|Sq<|Sq<|Rg<|Dd (by exact opd_loadn_ref rfl Tryz.isAgg38 Tryz.sizeOf38 rfl rfl rfl rfl (by simp only [Zl,encTag,encObj,encStr,encEdit,encInt];rfl) rfl)<|Dd (by exact opd_loadn_ref rfl Tryz.isAgg38 Tryz.sizeOf38 rfl rfl rfl rfl (by simp only [Zl,encTag,encObj,encStr,encEdit,encInt];rfl) rfl)<|Dd (by exact opr_call rfl rfl Tryz.call21 rfl (fewC_c a b _ ha hb))<|Dd no'<|Zz ?_
 refine Cn (fun hc1=>?_) fun hc1=>?_
 ·skip
  refine Sq<|Rg<|Dd mv'<|Dd as'<|Zz<|awp_ret ?_
  refine Rt ?_
  exact⟨rfl,rfl⟩
 skip
 have hf:gFewC a b=true:=by have h:=hc1;simpa using h
 have hal:a.length≤24:=by
  simp only [gFewC,few13,Bool.and_eq_true,Bool.not_eq_true',decide_eq_false_iff_not] at hf
  have:=hf.1.1;omega
 have hbl:b.length≤24:=by
  simp only [gFewC,few13,Bool.and_eq_true,Bool.not_eq_true',decide_eq_false_iff_not] at hf
  have:=hf.2.1;omega
 have hR2:=hR hal hbl
 have hall2:∀ H,ACalls Tryz.prog 17 [.pv (slEdits x.1),.pv (slEdits x.1)] H (fun r H'=>r=bv true∧H'=H):=fun H=>by
  have:=hall H
  rwa [decide_eq_true rfl] at this
 refine awp_skip<|Sq<|Rg<|Dd (by exact opd_loadn_ref rfl Tryz.isAgg38 Tryz.sizeOf38 rfl rfl rfl rfl (by simp only [Zl,encTag,encObj,encStr,encEdit,encInt];rfl) rfl)<|Dd (by exact opd_loadn_ref rfl Tryz.isAgg38 Tryz.sizeOf38 rfl rfl rfl rfl (by simp only [Zl,encTag,encObj,encStr,encEdit,encInt];rfl) rfl)<|Dd (by exact opr_call rfl rfl Tryz.call22 rfl (hB _))<|Dd mv'<|Dd ex'<|Dd ex'<|Dd as'<|Dd as'<|Zz<|Sq<|Rg<|Dd (by exact opd_loadn_ref rfl Tryz.isAgg38 Tryz.sizeOf38 rfl rfl rfl rfl (by simp only [Zl,encTag,encObj,encStr,encEdit,encInt];rfl) rfl)<|Dd (by exact opd_loadn_ref rfl Tryz.isAgg38 Tryz.sizeOf38 rfl rfl rfl rfl (by simp only [Zl,encTag,encObj,encStr,encEdit,encInt];rfl) rfl)<|Dd (by exact opr_call rfl rfl Tryz.call23 rfl (hR2 _))<|Dd mv'<|Dd ex'<|Dd ex'<|Dd as'<|Dd as'<|Zz<|Sq ?_
 refine awp_bool (t:=4) (n:=14) (X:=true) ?_ ?_
 ·all_goals refine Dd mv' ?_
  all_goals refine Dd mv' ?_
  all_goals refine Sp 29 (fun h29=>?_) fun h29=>?_
  all_goals try contradiction
  all_goals(refine al_ond rfl rfl rfl rfl rfl rfl (by exact opd_move rfl rfl) ?_)
  all_goals(refine al_ond rfl rfl rfl rfl rfl rfl (by exact opd_move rfl rfl) ?_)
  all_goals(refine al_ond rfl rfl rfl rfl rfl rfl (by exact opd_eql rfl rfl rfl) ?_)
  all_goals refine Dd pk' ?_
  all_goals refine Dd mv' ?_
  all_goals refine Sp 34 (fun h34=>?_) fun h34=>?_
  all_goals try contradiction
  all_goals first|refine Fo ?_|refine On mv' ?_
  all_goals first|refine Fo ?_|refine On mv' ?_
  all_goals first|refine Fo ?_|refine On (by exact opr_call rfl rfl Tryz.call17 rfl (hall2 _)) ?_
  all_goals refine Dd pk' ?_
  all_goals refine Dd as' ?_
  all_goals refine al_nil ?_
  all_goals(exact⟨⟨_,rfl,by first|rfl|(simp_all;done)⟩,rfl,rfl,rfl⟩)
 refine awp_ret ?_
 refine Rt ?_
 exact⟨rfl,rfl⟩
end
end Go.Proofs.YtlnfjkdacimblaaGreatDoor
