/-
  CONTRACTS: package edit: perform, the other operations. Conditions: lengths below 2^39.
  PLAIN: what a valid object's lists are at most; the sizes of what an edit puts. CONTRACT: perform. Conditions: sizes.
  CONTRACTS: package edit: after, Apply. Conditions: lengths below 2^39.
  PLAIN: maps by their lookups. Conditions: none.
  PLAIN: closed maps stay closed under edits; what an edit leads to, by operations. Conditions: none.
  CONTRACT: edit.All. Conditions: lengths below 2^39.
  slices.Sort OF AN OWNED SLICE OF TEXTS: the library's contract, carried over. Conditions: lengths below 2^62.
  slices.Sort at this program: the library's contract laid. Conditions: lengths below 2^62.
  CONTRACT: edit.Names. Conditions: lengths below 2^38.
  PLAIN: what an edit puts and drops is named by it; two edits without a common name commute. Conditions: none.
  CONTRACTS: atlas.Same, planisphereref06.Same, Has, the sizes' tests of layer 21, its example map. Conditions: lengths below 2^40.
  CONTRACTS: planispherelaw21.sample, head. Conditions: none.
  CONTRACT: planispherelaw21.head answers true. Conditions: none.
  CONTRACTS: what is moderate (planisphereref13.Few); objects and maps compared (planisphereref11.Same, 12.Same). Conditions: lengths below 2^62.
  CONTRACT: EditLists answers true. Conditions: the arguments' sizes.
-/
import Derived.Test.YtlnfjkdacimblaaGreatDoorKW3M6
import Derived.Shelf.SortM.Plain
import Derived.Shelf.SortM.SortNone
import Derived.Ground.SlgmProg
set_option linter.unusedVariables false
set_option linter.unusedSimpArgs false
set_option maxRecDepth 100000
set_option maxHeartbeats 2000000
namespace Go.Proofs.YtlnfjkdacimblaaGreatDoor
open Go.Abs
section
theorem perf3_c (m:List GObj) (id other node:ByteArray) (x y:Int) (key val:ByteArray) (refs:List ByteArray) (obj:GObj) (hm:okM m) (ho9:∀ o,o∈m→o.refs.length < 549755813888∧o.tags.length < 1099511627776) (hk:key.size < 4611686018427387904) (hv:val.size < 4611686018427387904) :
  ACalls Tryz.prog 118 [.ref 14 0 0 0,av (encEdit ⟨3,id,other,node,x,y,key,val,refs,obj⟩)] (cH m) (fun r H'=>r=av (encRes (gPerform m ⟨3,id,other,node,x,y,key,val,refs,obj⟩))∧H'=cH m):=by
 rw [gPerform,if_neg (show ¬ ((3:Int)=1)by decide)]
 simp only
 refine Bd Tryz.func118 rfl Tryz.ntmps118<|Sq<|Rg<|Dd (by exact opd_box (id:=3) rfl rfl rfl rfl rfl)<|Dd (by exact x_alloc (id:=4) rfl zo154 rfl rfl)<|Zz<|Sq<|Sq<|Rg<|Dd (fr' fo51_0)<|Dd (l1' Tryz.isAgg3)<|Dd eql'<|Zz ?_
 refine Cn (fun hc1=>?_) fun hc1=>?_
 ·cases hc1
 skip
 cases hf:m.find? (idIs id)with
 | none =>
  refine awp_skip<|Sq ?_
  refine awp_drawc follows ?_
  refine Cq mv'<|Cq nc'<|Cq (fr' fo114_1)<|Cq (l1' Tryz.isAgg80)<|Cq (fr' fo51_1)<|Cq (l1' Tryz.isAgg9)<|Cq (by exact lk_none rfl rfl rfl rfl (kindOf_none hf))<|Cq mv'<|Cq ex'<|Cq ex'<|Cq as'<|Cq as' ?_
  refine dc_nil ⟨by kernel_rfl,?_⟩
  refine Sq<|Sq ?_
  refine awp_drawc follows ?_
  refine Cq mv'<|Cq nc'<|Cq (fr' fo114_1)<|Cq (l1' Tryz.isAgg80)<|Cq (fr' fo51_2)<|Cq (l1' Tryz.isAgg9)<|Cq (by exact lk_c rfl rfl rfl rfl)<|Cq mv'<|Cq ex'<|Cq ex'<|Cq as'<|Cq as' ?_
  refine dc_nil ⟨by kernel_rfl,?_⟩
  refine Sq<|Rg<|Dd mv'<|Dd no'<|Dd mv' ?_
  refine al_off rfl rfl rfl (by rfl) rfl ?_
  refine al_off rfl rfl rfl (by rfl) rfl ?_
  refine al_off rfl rfl rfl (by rfl) rfl ?_
  refine al_off rfl rfl rfl (by rfl) rfl ?_
  refine al_offu rfl rfl rfl rfl ?_
  refine al_offu rfl rfl rfl rfl ?_
  refine al_off rfl rfl rfl (by rfl) rfl ?_
  refine Dd pk'<|Zz ?_
  refine Cn (fun hc2=>?_) fun hc2=>?_
  ·skip
   refine Sq<|Rg<|Dd (bu' bo154)<|Uu (sa' Tryz.sizeOf154)<|Zz<|awp_ret ?_
   refine aret1 (H':=(cH m)) (.inr rfl) rfl (rl' Tryz.isAgg154 Tryz.sizeOf154) (Fin.cl (m:=m) (encRes (errR 11)) rfl rfl) ?_
   exact⟨rfl,rfl⟩
  cases hc2
 | some o =>
  simp only [show decide ((3:Int)=7)=false from rfl,Bool.false_and,Bool.false_eq_true,if_false,if_true]
  rw [if_neg (show ¬ ((3:Int)=2)by decide)]
  have hom:=List.mem_of_find?_eq_some hf
  obtain ⟨ho1,ho2⟩:=ho9 o hom
  have hoo:=hm.2 o hom
  refine awp_skip<|Sq ?_
  refine awp_drawc follows ?_
  refine Cq mv'<|Cq nc'<|Cq (fr' fo114_1)<|Cq (l1' Tryz.isAgg80)<|Cq (fr' fo51_1)<|Cq (l1' Tryz.isAgg9)<|Cq (by exact lk_some rfl rfl rfl rfl (kindOf_some hf))<|Cq mv'<|Cq ex'<|Cq ex'<|Cq as'<|Cq as' ?_
  refine dc_nil ⟨by kernel_rfl,?_⟩
  refine Sq<|Sq ?_
  refine awp_drawc follows ?_
  refine Cq mv'<|Cq nc'<|Cq (fr' fo114_1)<|Cq (l1' Tryz.isAgg80)<|Cq (fr' fo51_2)<|Cq (l1' Tryz.isAgg9)<|Cq (by exact lk_c rfl rfl rfl rfl)<|Cq mv'<|Cq ex'<|Cq ex'<|Cq as'<|Cq as' ?_
  refine dc_nil ⟨by kernel_rfl,?_⟩
  refine Sq<|Rg<|Dd mv'<|Dd no'<|Dd mv' ?_
  refine al_ond rfl rfl rfl (by rfl) rfl rfl (by exact opd_field_ref rfl fo51_0 rfl rfl rfl rfl) ?_
  refine al_ond rfl rfl rfl (by rfl) rfl rfl (by exact opd_load1_ref rfl Tryz.isAgg3 rfl rfl rfl rfl rfl) ?_
  refine al_ond rfl rfl rfl (by rfl) rfl rfl (by exact opd_eql rfl rfl rfl) ?_
  refine al_ond rfl rfl rfl (by rfl) rfl rfl (by exact opd_move rfl rfl) ?_
  refine al_off rfl rfl rfl (by rfl) rfl ?_
  refine al_off rfl rfl rfl (by rfl) rfl ?_
  refine al_ond rfl rfl rfl (by rfl) rfl rfl (by exact opd_pick_f rfl rfl rfl) ?_
  refine Dd pk'<|Zz ?_
  refine Cn (fun hc3=>?_) fun hc3=>?_
  ·cases hc3
  skip
  refine awp_skip<|Sq<|Rg<|Dd mv'<|Dd (fr' fo51_1)<|Dd (l1' Tryz.isAgg9)<|Dd (by exact opr_call rfl rfl Tryz.call160 rfl (get_c m id o _ rfl rfl hm hf))<|Dd (by exact x_alloc (id:=11) rfl zo49 rfl rfl)<|Uu (sa' Tryz.sizeOf49)<|Zz<|Sq<|Rg<|Dd (by exact opd_makeMap (id:=77) (intK .i64) rfl rfl)<|Dd (by exact x_buildSlice ([(1:Int)].map encInt) rfl so42 rfl rfl rfl rfl rfl (by simp [encInt]))<|Uu (by exact x_mapUpdate (κ:=(intK .i64)) (.inr rfl) Tryz.underlying193 Tryz.underlying3 rfl rfl rfl rfl rfl rfl rfl rfl)<|Dd (by exact x_buildSlice ([(2:Int),3,4].map encInt) rfl so42 rfl rfl rfl rfl rfl (by simp [encInt]))<|Uu (by exact x_mapUpdate (κ:=(intK .i64)) (.inr rfl) Tryz.underlying193 Tryz.underlying3 rfl rfl rfl rfl rfl rfl rfl rfl)<|Dd (by exact x_buildSlice ([(2:Int)].map encInt) rfl so42 rfl rfl rfl rfl rfl (by simp [encInt]))<|Uu (by exact x_mapUpdate (κ:=(intK .i64)) (.inr rfl) Tryz.underlying193 Tryz.underlying3 rfl rfl rfl rfl rfl rfl rfl rfl) ?_
  refine Dd (by exact x_buildSlice ([(2:Int)].map encInt) rfl so42 rfl rfl rfl rfl rfl (by simp [encInt]))<|Uu (by exact x_mapUpdate (κ:=(intK .i64)) (.inr rfl) Tryz.underlying193 Tryz.underlying3 rfl rfl rfl rfl rfl rfl rfl rfl)<|Dd mv'<|Dd as'<|Zz<|Sq<|Sq<|Rg<|Dd mv'<|Dd (fr' fo51_0)<|Dd (l1' Tryz.isAgg3)<|Dd (by exact opd_lookup_ok (κ:=(intK .i64)) rfl Tryz.underlying193 Tryz.underlying3 rfl rfl rfl rfl rfl Tryz.zeroValue42 (.inl rfl))<|Dd mv'<|Dd ex'<|Dd ex'<|Dd as'<|Dd as'<|Zz<|Sq<|Rg<|Dd mv'<|Dd mv' ?_
  refine al_off rfl rfl rfl (by rfl) rfl ?_
  refine al_off rfl rfl rfl (by rfl) rfl ?_
  refine al_off rfl rfl rfl (by rfl) rfl ?_
  refine al_off rfl rfl rfl (by rfl) rfl ?_
  refine al_off rfl rfl rfl (by rfl) rfl ?_
  refine Dd pk'<|Zz ?_
  refine Cn (fun hc4=>?_) fun hc4=>?_
  ·cases hc4
  have hb:(!fitsB 3 o.kind)=false:=rfl
  rw [hb,if_neg (by simp)]
  refine awp_skip<|Sq<|Sq<|Rg<|Dd (fr' fo51_0)<|Dd (l1' Tryz.isAgg3)<|Zz<|awp_block<|Sq<|Rg<|Dd eql'<|Dd as'<|Zz ?_
  refine Cn (fun hc5=>?_) fun hc5=>?_
  ·cases hc5
  skip
  refine Sq<|Rg<|Dd eql'<|Dd as'<|Zz ?_
  refine Cn (fun hc6=>?_) fun hc6=>?_
  ·skip
   refine Sq<|Rg<|Dd (fr' fo49_4)<|Dd (l1' Tryz.isAgg47)<|Dd (fr' fo51_5)<|Dd (l1' Tryz.isAgg9)<|Dd (fr' fo51_6)<|Dd (l1' Tryz.isAgg9)<|Dd (by exact opr_call rfl rfl Tryz.call162 rfl (tagSet_c o.tags key val _ hoo.2.1 hk hv ho2))<|Dd mv'<|Dd ex'<|Dd ex'<|Dd as'<|Dd as'<|Zz<|Sq<|Rg<|Dd mv'<|Dd (fr' fo49_4)<|Uu (by exact x_store1 rfl Tryz.sizeOf47 rfl rfl rfl rfl rfl rfl (Nat.le_of_ble_eq_true rfl) rfl rfl)<|Zz<|Sq<|Rg<|Dd mv'<|Dd ne'<|Zz ?_
   refine Cn (fun hc7=>?_) fun hc7=>?_
   ·rw [if_pos hc7]
    refine Sq<|Rg<|Dd mv'<|Dd (bu' bo154)<|Uu (sa' Tryz.sizeOf154)<|Zz<|awp_ret ?_
    refine aret1 (H':=(cH m)) (.inr rfl) rfl (rl' Tryz.isAgg154 Tryz.sizeOf154) (Fin.cl (m:=m) (encRes (errR (gSet o.tags key val).2)) rfl rfl) ?_
    exact⟨rfl,rfl⟩
   rw [if_neg (by rw [hc7];simp)]
   refine awp_skip<|Sq<|Rg<|Dd (ln' Tryz.isAgg49 Tryz.sizeOf49)<|Dd (by exact x_buildSlice ([(⟨o.id,o.kind,o.x,o.y,o.refs,(gSet o.tags key val).1⟩:GObj)].map encObj) rfl so36 rfl rfl rfl rfl rfl (by simp [encObj]))<|Dd (bu' bo154)<|Uu (sa' Tryz.sizeOf154)<|Zz<|awp_ret ?_
   refine aret1 (H':=(cH m)) (.inr rfl) rfl (rl' Tryz.isAgg154 Tryz.sizeOf154) (Fin.cl (m:=m) (encRes ⟨[⟨o.id,o.kind,o.x,o.y,o.refs,(gSet o.tags key val).1⟩],sNil,0⟩) rfl rfl) ?_
   exact⟨rfl,rfl⟩
  cases hc6
theorem perf4_c (m:List GObj) (id other node:ByteArray) (x y:Int) (key val:ByteArray) (refs:List ByteArray) (obj:GObj) (hm:okM m) (ho9:∀ o,o∈m→o.refs.length < 549755813888∧o.tags.length < 1099511627776) (hrf:refs.length < 4611686018427387904∧∀ s∈refs,s.size < 4611686018427387904) :
  ACalls Tryz.prog 118 [.ref 14 0 0 0,av (encEdit ⟨4,id,other,node,x,y,key,val,refs,obj⟩)] (cH m) (fun r H'=>r=av (encRes (gPerform m ⟨4,id,other,node,x,y,key,val,refs,obj⟩))∧H'=cH m):=by
 rw [gPerform,if_neg (show ¬ ((4:Int)=1)by decide)]
 simp only
 refine Bd Tryz.func118 rfl Tryz.ntmps118<|Sq<|Rg<|Dd (by exact opd_box (id:=3) rfl rfl rfl rfl rfl)<|Dd (by exact x_alloc (id:=4) rfl zo154 rfl rfl)<|Zz<|Sq<|Sq<|Rg<|Dd (fr' fo51_0)<|Dd (l1' Tryz.isAgg3)<|Dd eql'<|Zz ?_
 refine Cn (fun hc1=>?_) fun hc1=>?_
 ·cases hc1
 skip
 cases hf:m.find? (idIs id)with
 | none =>
  refine awp_skip<|Sq ?_
  refine awp_drawc follows ?_
  refine Cq mv'<|Cq nc'<|Cq (fr' fo114_1)<|Cq (l1' Tryz.isAgg80)<|Cq (fr' fo51_1)<|Cq (l1' Tryz.isAgg9)<|Cq (by exact lk_none rfl rfl rfl rfl (kindOf_none hf))<|Cq mv'<|Cq ex'<|Cq ex'<|Cq as'<|Cq as' ?_
  refine dc_nil ⟨by kernel_rfl,?_⟩
  refine Sq<|Sq ?_
  refine awp_drawc follows ?_
  refine Cq mv'<|Cq nc'<|Cq (fr' fo114_1)<|Cq (l1' Tryz.isAgg80)<|Cq (fr' fo51_2)<|Cq (l1' Tryz.isAgg9)<|Cq (by exact lk_c rfl rfl rfl rfl)<|Cq mv'<|Cq ex'<|Cq ex'<|Cq as'<|Cq as' ?_
  refine dc_nil ⟨by kernel_rfl,?_⟩
  refine Sq<|Rg<|Dd mv'<|Dd no'<|Dd mv' ?_
  refine al_off rfl rfl rfl (by rfl) rfl ?_
  refine al_off rfl rfl rfl (by rfl) rfl ?_
  refine al_off rfl rfl rfl (by rfl) rfl ?_
  refine al_off rfl rfl rfl (by rfl) rfl ?_
  refine al_offu rfl rfl rfl rfl ?_
  refine al_offu rfl rfl rfl rfl ?_
  refine al_off rfl rfl rfl (by rfl) rfl ?_
  refine Dd pk'<|Zz ?_
  refine Cn (fun hc2=>?_) fun hc2=>?_
  ·skip
   refine Sq<|Rg<|Dd (bu' bo154)<|Uu (sa' Tryz.sizeOf154)<|Zz<|awp_ret ?_
   refine aret1 (H':=(cH m)) (.inr rfl) rfl (rl' Tryz.isAgg154 Tryz.sizeOf154) (Fin.cl (m:=m) (encRes (errR 11)) rfl rfl) ?_
   exact⟨rfl,rfl⟩
  cases hc2
 | some o =>
  simp only [show decide ((4:Int)=7)=false from rfl,Bool.false_and,Bool.false_eq_true,if_false,if_true]
  rw [if_neg (show ¬ ((4:Int)=2)by decide),if_neg (show ¬ ((4:Int)=3)by decide)]
  have hom:=List.mem_of_find?_eq_some hf
  obtain ⟨ho1,ho2⟩:=ho9 o hom
  have hoo:=hm.2 o hom
  refine awp_skip<|Sq ?_
  refine awp_drawc follows ?_
  refine Cq mv'<|Cq nc'<|Cq (fr' fo114_1)<|Cq (l1' Tryz.isAgg80)<|Cq (fr' fo51_1)<|Cq (l1' Tryz.isAgg9)<|Cq (by exact lk_some rfl rfl rfl rfl (kindOf_some hf))<|Cq mv'<|Cq ex'<|Cq ex'<|Cq as'<|Cq as' ?_
  refine dc_nil ⟨by kernel_rfl,?_⟩
  refine Sq<|Sq ?_
  refine awp_drawc follows ?_
  refine Cq mv'<|Cq nc'<|Cq (fr' fo114_1)<|Cq (l1' Tryz.isAgg80)<|Cq (fr' fo51_2)<|Cq (l1' Tryz.isAgg9)<|Cq (by exact lk_c rfl rfl rfl rfl)<|Cq mv'<|Cq ex'<|Cq ex'<|Cq as'<|Cq as' ?_
  refine dc_nil ⟨by kernel_rfl,?_⟩
  refine Sq<|Rg<|Dd mv'<|Dd no'<|Dd mv' ?_
  refine al_ond rfl rfl rfl (by rfl) rfl rfl (by exact opd_field_ref rfl fo51_0 rfl rfl rfl rfl) ?_
  refine al_ond rfl rfl rfl (by rfl) rfl rfl (by exact opd_load1_ref rfl Tryz.isAgg3 rfl rfl rfl rfl rfl) ?_
  refine al_ond rfl rfl rfl (by rfl) rfl rfl (by exact opd_eql rfl rfl rfl) ?_
  refine al_ond rfl rfl rfl (by rfl) rfl rfl (by exact opd_move rfl rfl) ?_
  refine al_off rfl rfl rfl (by rfl) rfl ?_
  refine al_off rfl rfl rfl (by rfl) rfl ?_
  refine al_ond rfl rfl rfl (by rfl) rfl rfl (by exact opd_pick_f rfl rfl rfl) ?_
  refine Dd pk'<|Zz ?_
  refine Cn (fun hc3=>?_) fun hc3=>?_
  ·cases hc3
  skip
  refine awp_skip<|Sq<|Rg<|Dd mv'<|Dd (fr' fo51_1)<|Dd (l1' Tryz.isAgg9)<|Dd (by exact opr_call rfl rfl Tryz.call160 rfl (get_c m id o _ rfl rfl hm hf))<|Dd (by exact x_alloc (id:=11) rfl zo49 rfl rfl)<|Uu (sa' Tryz.sizeOf49)<|Zz<|Sq<|Rg<|Dd (by exact opd_makeMap (id:=77) (intK .i64) rfl rfl)<|Dd (by exact x_buildSlice ([(1:Int)].map encInt) rfl so42 rfl rfl rfl rfl rfl (by simp [encInt]))<|Uu (by exact x_mapUpdate (κ:=(intK .i64)) (.inr rfl) Tryz.underlying193 Tryz.underlying3 rfl rfl rfl rfl rfl rfl rfl rfl)<|Dd (by exact x_buildSlice ([(2:Int),3,4].map encInt) rfl so42 rfl rfl rfl rfl rfl (by simp [encInt]))<|Uu (by exact x_mapUpdate (κ:=(intK .i64)) (.inr rfl) Tryz.underlying193 Tryz.underlying3 rfl rfl rfl rfl rfl rfl rfl rfl)<|Dd (by exact x_buildSlice ([(2:Int)].map encInt) rfl so42 rfl rfl rfl rfl rfl (by simp [encInt]))<|Uu (by exact x_mapUpdate (κ:=(intK .i64)) (.inr rfl) Tryz.underlying193 Tryz.underlying3 rfl rfl rfl rfl rfl rfl rfl rfl) ?_
  refine Dd (by exact x_buildSlice ([(2:Int)].map encInt) rfl so42 rfl rfl rfl rfl rfl (by simp [encInt]))<|Uu (by exact x_mapUpdate (κ:=(intK .i64)) (.inr rfl) Tryz.underlying193 Tryz.underlying3 rfl rfl rfl rfl rfl rfl rfl rfl)<|Dd mv'<|Dd as'<|Zz<|Sq<|Sq<|Rg<|Dd mv'<|Dd (fr' fo51_0)<|Dd (l1' Tryz.isAgg3)<|Dd (by exact opd_lookup_ok (κ:=(intK .i64)) rfl Tryz.underlying193 Tryz.underlying3 rfl rfl rfl rfl rfl Tryz.zeroValue42 (.inl rfl))<|Dd mv'<|Dd ex'<|Dd ex'<|Dd as'<|Dd as'<|Zz<|Sq<|Rg<|Dd mv'<|Dd mv' ?_
  refine al_ond rfl rfl rfl (by rfl) rfl rfl (by exact opd_move rfl rfl) ?_
  refine al_ond rfl rfl rfl (by rfl) rfl rfl (by exact opd_field_ref rfl fo49_1 rfl rfl rfl rfl) ?_
  refine al_ond rfl rfl rfl (by rfl) rfl rfl (by exact opd_load1_ref rfl Tryz.isAgg3 rfl rfl rfl rfl rfl) ?_
  refine al_ond rfl rfl rfl (by rfl) rfl rfl (by exact opr_call rfl rfl Tryz.call161 rfl (containsI_c [(2:Int),3,4] o.kind _ (by decide))) ?_
  refine al_ond rfl rfl rfl (by rfl) rfl rfl (by exact opd_not rfl rfl) ?_
  refine Dd pk'<|Zz ?_
  refine Cn (fun hc4=>?_) fun hc4=>?_
  ·have hb:(!fitsB 4 o.kind)=true:=by
    have h:=hc4
    rw [← h]
    simp [fitsB]
   rw [hb,if_pos rfl]
   refine Sq<|Rg<|Dd (bu' bo154)<|Uu (sa' Tryz.sizeOf154)<|Zz<|awp_ret ?_
   refine aret1 (H':=(cH m)) (.inr rfl) rfl (rl' Tryz.isAgg154 Tryz.sizeOf154) (Fin.cl (m:=m) (encRes (errR 13)) rfl rfl) ?_
   exact⟨rfl,rfl⟩
  have hb:(!fitsB 4 o.kind)=false:=by
   have h:=hc4
   rw [← h]
   simp [fitsB]
  rw [hb,if_neg (by simp)]
  refine awp_skip<|Sq<|Sq<|Rg<|Dd (fr' fo51_0)<|Dd (l1' Tryz.isAgg3)<|Zz<|awp_block<|Sq<|Rg<|Dd eql'<|Dd as'<|Zz ?_
  refine Cn (fun hc5=>?_) fun hc5=>?_
  ·cases hc5
  skip
  refine Sq<|Rg<|Dd eql'<|Dd as'<|Zz ?_
  refine Cn (fun hc6=>?_) fun hc6=>?_
  ·cases hc6
  skip
  refine Sq<|Rg<|Dd eql'<|Dd as'<|Zz ?_
  refine Cn (fun hc7=>?_) fun hc7=>?_
  ·skip
   refine Sq<|Sq<|Rg<|Dd (fr' fo51_7)<|Dd (l1' Tryz.isAgg46)<|Dd (fr' fo49_3)<|Uu (by exact x_store1 rfl Tryz.sizeOf46 rfl rfl rfl rfl rfl rfl (Nat.le_of_ble_eq_true rfl) rfl rfl)<|Zz<|Sq<|Rg<|Dd (ln' Tryz.isAgg49 Tryz.sizeOf49)<|Dd (by exact opr_call rfl rfl Tryz.call91 rfl (objValid_c ⟨o.id,o.kind,o.x,o.y,refs,o.tags⟩ _ ⟨hoo.1,hoo.2.1,hrf.1,hrf.2⟩))<|Dd no'<|Zz ?_
   refine Cn (fun hc8=>?_) fun hc8=>?_
   ·rw [if_pos hc8]
    refine Sq<|Rg<|Dd (bu' bo154)<|Uu (sa' Tryz.sizeOf154)<|Zz<|awp_ret ?_
    refine aret1 (H':=(cH m)) (.inr rfl) rfl (rl' Tryz.isAgg154 Tryz.sizeOf154) (Fin.cl (m:=m) (encRes (errR 1)) rfl rfl) ?_
    exact⟨rfl,rfl⟩
   rw [if_neg (by rw [hc8];simp)]
   refine awp_skip<|Sq ?_
   refine awp_drawc follows ?_
   refine Cr [11] (fun H1 hH=>by exact opd_loadn_ref rfl Tryz.isAgg49 Tryz.sizeOf49 rfl ((hH _ rfl).trans rfl) rfl rfl rfl rfl)<|Cr [] (fun H1 hH=>by exact x_buildSlice ([(⟨o.id,o.kind,o.x,o.y,refs,o.tags⟩:GObj)].map encObj) rfl so36 rfl rfl rfl rfl rfl (by simp [encObj]))<|Cr [14] (fun _ _=>mv')<|Cr [11] (fun H1 hH=>by exact opd_loadn_ref rfl Tryz.isAgg49 Tryz.sizeOf49 rfl ((hH _ rfl).trans rfl) rfl rfl rfl rfl)<|Cr [12,14] (fun H1 hH=>by exact opr_call rfl rfl Tryz.call117 rfl (refsC_c m ⟨o.id,o.kind,o.x,o.y,refs,o.tags⟩ _ ((hH 14 rfl).trans rfl) ((hH 12 rfl).trans rfl) hrf.1))<|Cr [] (fun _ _=>(bu' bo154))<|Cp [4] (fun H1 hH=>by exact x_store_all rfl Tryz.sizeOf154 rfl rfl rfl rfl ((hH _ rfl).trans rfl) rfl rfl rfl) ?_
   refine dc_nil ⟨by kernel_rfl,?_⟩
   refine awp_ret ?_
   refine aret1 (H':=(cH m)) (.inr rfl) rfl (rl' Tryz.isAgg154 Tryz.sizeOf154) (Fin.cl (m:=m) (encRes ⟨[⟨o.id,o.kind,o.x,o.y,refs,o.tags⟩],sNil,refErr m o.kind 0 refs⟩) rfl rfl) ?_
   exact⟨rfl,rfl⟩
  cases hc7
theorem perf5_c (m:List GObj) (id other node:ByteArray) (x y:Int) (key val:ByteArray) (refs:List ByteArray) (obj:GObj) (hm:okM m) (ho9:∀ o,o∈m→o.refs.length < 549755813888∧o.tags.length < 1099511627776) :
  ACalls Tryz.prog 118 [.ref 14 0 0 0,av (encEdit ⟨5,id,other,node,x,y,key,val,refs,obj⟩)] (cH m) (fun r H'=>r=av (encRes (gPerform m ⟨5,id,other,node,x,y,key,val,refs,obj⟩))∧H'=cH m):=by
 rw [gPerform,if_neg (show ¬ ((5:Int)=1)by decide)]
 simp only
 refine Bd Tryz.func118 rfl Tryz.ntmps118<|Sq<|Rg<|Dd (by exact opd_box (id:=3) rfl rfl rfl rfl rfl)<|Dd (by exact x_alloc (id:=4) rfl zo154 rfl rfl)<|Zz<|Sq<|Sq<|Rg<|Dd (fr' fo51_0)<|Dd (l1' Tryz.isAgg3)<|Dd eql'<|Zz ?_
 refine Cn (fun hc1=>?_) fun hc1=>?_
 ·cases hc1
 skip
 cases hf:m.find? (idIs id)with
 | none =>
  refine awp_skip<|Sq ?_
  refine awp_drawc follows ?_
  refine Cq mv'<|Cq nc'<|Cq (fr' fo114_1)<|Cq (l1' Tryz.isAgg80)<|Cq (fr' fo51_1)<|Cq (l1' Tryz.isAgg9)<|Cq (by exact lk_none rfl rfl rfl rfl (kindOf_none hf))<|Cq mv'<|Cq ex'<|Cq ex'<|Cq as'<|Cq as' ?_
  refine dc_nil ⟨by kernel_rfl,?_⟩
  refine Sq<|Sq ?_
  refine awp_drawc follows ?_
  refine Cq mv'<|Cq nc'<|Cq (fr' fo114_1)<|Cq (l1' Tryz.isAgg80)<|Cq (fr' fo51_2)<|Cq (l1' Tryz.isAgg9)<|Cq (by exact lk_c rfl rfl rfl rfl)<|Cq mv'<|Cq ex'<|Cq ex'<|Cq as'<|Cq as' ?_
  refine dc_nil ⟨by kernel_rfl,?_⟩
  refine Sq<|Rg<|Dd mv'<|Dd no'<|Dd mv' ?_
  refine al_off rfl rfl rfl (by rfl) rfl ?_
  refine al_off rfl rfl rfl (by rfl) rfl ?_
  refine al_off rfl rfl rfl (by rfl) rfl ?_
  refine al_off rfl rfl rfl (by rfl) rfl ?_
  refine al_offu rfl rfl rfl rfl ?_
  refine al_offu rfl rfl rfl rfl ?_
  refine al_off rfl rfl rfl (by rfl) rfl ?_
  refine Dd pk'<|Zz ?_
  refine Cn (fun hc2=>?_) fun hc2=>?_
  ·skip
   refine Sq<|Rg<|Dd (bu' bo154)<|Uu (sa' Tryz.sizeOf154)<|Zz<|awp_ret ?_
   refine aret1 (H':=(cH m)) (.inr rfl) rfl (rl' Tryz.isAgg154 Tryz.sizeOf154) (Fin.cl (m:=m) (encRes (errR 11)) rfl rfl) ?_
   exact⟨rfl,rfl⟩
  cases hc2
 | some o =>
  simp only [show decide ((5:Int)=7)=false from rfl,Bool.false_and,Bool.false_eq_true,if_false,if_true]
  rw [if_neg (show ¬ ((5:Int)=2)by decide),if_neg (show ¬ ((5:Int)=3)by decide),if_neg (show ¬ ((5:Int)=4)by decide)]
  have hom:=List.mem_of_find?_eq_some hf
  obtain ⟨ho1,ho2⟩:=ho9 o hom
  have hoo:=hm.2 o hom
  refine awp_skip<|Sq ?_
  refine awp_drawc follows ?_
  refine Cq mv'<|Cq nc'<|Cq (fr' fo114_1)<|Cq (l1' Tryz.isAgg80)<|Cq (fr' fo51_1)<|Cq (l1' Tryz.isAgg9)<|Cq (by exact lk_some rfl rfl rfl rfl (kindOf_some hf))<|Cq mv'<|Cq ex'<|Cq ex'<|Cq as'<|Cq as' ?_
  refine dc_nil ⟨by kernel_rfl,?_⟩
  refine Sq<|Sq ?_
  refine awp_drawc follows ?_
  refine Cq mv'<|Cq nc'<|Cq (fr' fo114_1)<|Cq (l1' Tryz.isAgg80)<|Cq (fr' fo51_2)<|Cq (l1' Tryz.isAgg9)<|Cq (by exact lk_c rfl rfl rfl rfl)<|Cq mv'<|Cq ex'<|Cq ex'<|Cq as'<|Cq as' ?_
  refine dc_nil ⟨by kernel_rfl,?_⟩
  refine Sq<|Rg<|Dd mv'<|Dd no'<|Dd mv' ?_
  refine al_ond rfl rfl rfl (by rfl) rfl rfl (by exact opd_field_ref rfl fo51_0 rfl rfl rfl rfl) ?_
  refine al_ond rfl rfl rfl (by rfl) rfl rfl (by exact opd_load1_ref rfl Tryz.isAgg3 rfl rfl rfl rfl rfl) ?_
  refine al_ond rfl rfl rfl (by rfl) rfl rfl (by exact opd_eql rfl rfl rfl) ?_
  refine al_ond rfl rfl rfl (by rfl) rfl rfl (by exact opd_move rfl rfl) ?_
  refine al_off rfl rfl rfl (by rfl) rfl ?_
  refine al_off rfl rfl rfl (by rfl) rfl ?_
  refine al_ond rfl rfl rfl (by rfl) rfl rfl (by exact opd_pick_f rfl rfl rfl) ?_
  refine Dd pk'<|Zz ?_
  refine Cn (fun hc3=>?_) fun hc3=>?_
  ·cases hc3
  skip
  refine awp_skip<|Sq<|Rg<|Dd mv'<|Dd (fr' fo51_1)<|Dd (l1' Tryz.isAgg9)<|Dd (by exact opr_call rfl rfl Tryz.call160 rfl (get_c m id o _ rfl rfl hm hf))<|Dd (by exact x_alloc (id:=11) rfl zo49 rfl rfl)<|Uu (sa' Tryz.sizeOf49)<|Zz<|Sq<|Rg<|Dd (by exact opd_makeMap (id:=77) (intK .i64) rfl rfl)<|Dd (by exact x_buildSlice ([(1:Int)].map encInt) rfl so42 rfl rfl rfl rfl rfl (by simp [encInt]))<|Uu (by exact x_mapUpdate (κ:=(intK .i64)) (.inr rfl) Tryz.underlying193 Tryz.underlying3 rfl rfl rfl rfl rfl rfl rfl rfl)<|Dd (by exact x_buildSlice ([(2:Int),3,4].map encInt) rfl so42 rfl rfl rfl rfl rfl (by simp [encInt]))<|Uu (by exact x_mapUpdate (κ:=(intK .i64)) (.inr rfl) Tryz.underlying193 Tryz.underlying3 rfl rfl rfl rfl rfl rfl rfl rfl)<|Dd (by exact x_buildSlice ([(2:Int)].map encInt) rfl so42 rfl rfl rfl rfl rfl (by simp [encInt]))<|Uu (by exact x_mapUpdate (κ:=(intK .i64)) (.inr rfl) Tryz.underlying193 Tryz.underlying3 rfl rfl rfl rfl rfl rfl rfl rfl) ?_
  refine Dd (by exact x_buildSlice ([(2:Int)].map encInt) rfl so42 rfl rfl rfl rfl rfl (by simp [encInt]))<|Uu (by exact x_mapUpdate (κ:=(intK .i64)) (.inr rfl) Tryz.underlying193 Tryz.underlying3 rfl rfl rfl rfl rfl rfl rfl rfl)<|Dd mv'<|Dd as'<|Zz<|Sq<|Sq<|Rg<|Dd mv'<|Dd (fr' fo51_0)<|Dd (l1' Tryz.isAgg3)<|Dd (by exact opd_lookup_ok (κ:=(intK .i64)) rfl Tryz.underlying193 Tryz.underlying3 rfl rfl rfl rfl rfl Tryz.zeroValue42 (.inl rfl))<|Dd mv'<|Dd ex'<|Dd ex'<|Dd as'<|Dd as'<|Zz<|Sq<|Rg<|Dd mv'<|Dd mv' ?_
  refine al_off rfl rfl rfl (by rfl) rfl ?_
  refine al_off rfl rfl rfl (by rfl) rfl ?_
  refine al_off rfl rfl rfl (by rfl) rfl ?_
  refine al_off rfl rfl rfl (by rfl) rfl ?_
  refine al_off rfl rfl rfl (by rfl) rfl ?_
  refine Dd pk'<|Zz ?_
  refine Cn (fun hc4=>?_) fun hc4=>?_
  ·cases hc4
  have hb:(!fitsB 5 o.kind)=false:=rfl
  rw [hb,if_neg (by simp)]
  refine awp_skip<|Sq<|Sq<|Rg<|Dd (fr' fo51_0)<|Dd (l1' Tryz.isAgg3)<|Zz<|awp_block<|Sq<|Rg<|Dd eql'<|Dd as'<|Zz ?_
  refine Cn (fun hc5=>?_) fun hc5=>?_
  ·cases hc5
  skip
  refine Sq<|Rg<|Dd eql'<|Dd as'<|Zz ?_
  refine Cn (fun hc6=>?_) fun hc6=>?_
  ·cases hc6
  skip
  refine Sq<|Rg<|Dd eql'<|Dd as'<|Zz ?_
  refine Cn (fun hc7=>?_) fun hc7=>?_
  ·cases hc7
  skip
  refine Sq<|Rg<|Dd eql'<|Dd as'<|Zz ?_
  refine Cn (fun hc8=>?_) fun hc8=>?_
  ·skip
   refine Sq<|Sq<|Rg<|Dd mv'<|Dd (fr' fo51_1)<|Dd (l1' Tryz.isAgg9)<|Dd (by exact x_buildSlice ([id].map encStr) rfl so46 rfl rfl rfl rfl rfl (by simp [encStr]))<|Dd (by exact opr_call rfl rfl Tryz.call163 rfl (refd_c m false [id] _ rfl rfl hm (by show 1 < _;omega)))<|Zz ?_
   refine Cn (fun hc9=>?_) fun hc9=>?_
   ·rw [if_pos hc9]
    refine Sq<|Rg<|Dd (bu' bo154)<|Uu (sa' Tryz.sizeOf154)<|Zz<|awp_ret ?_
    refine aret1 (H':=(cH m)) (.inr rfl) rfl (rl' Tryz.isAgg154 Tryz.sizeOf154) (Fin.cl (m:=m) (encRes (errR 14)) rfl rfl) ?_
    exact⟨rfl,rfl⟩
   rw [if_neg (by rw [hc9];simp)]
   refine awp_skip<|Sq<|Rg<|Dd (fr' fo51_1)<|Dd (l1' Tryz.isAgg9)<|Dd (bu' bo154)<|Uu (sa' Tryz.sizeOf154)<|Zz<|awp_ret ?_
   refine aret1 (H':=(cH m)) (.inr rfl) rfl (rl' Tryz.isAgg154 Tryz.sizeOf154) (Fin.cl (m:=m) (encRes ⟨[],id,0⟩) rfl rfl) ?_
   exact⟨rfl,rfl⟩
  cases hc8
theorem split_c (m:List GObj) (e:GEdit) (o:GObj) (H:Heap) (h14:H.get 14=some (cRow m)) (h12:H.get 12=some (kob m)) (hm:okM m) (hr:o.refs.length < 1099511627776) :
  ACalls Tryz.prog 164 [.ref 14 0 0 0,av (encEdit e),av (encObj o)] H (fun r H'=>r=av (encRes (gSplit m e o))∧H'=H) :=
 cl_c (split0_c m e o hm hr) h14 h12 (by simp;rfl)
theorem perf6_c (m:List GObj) (id other node:ByteArray) (x y:Int) (key val:ByteArray) (refs:List ByteArray) (obj:GObj) (hm:okM m) (ho9:∀ o,o∈m→o.refs.length < 549755813888∧o.tags.length < 1099511627776) :
  ACalls Tryz.prog 118 [.ref 14 0 0 0,av (encEdit ⟨6,id,other,node,x,y,key,val,refs,obj⟩)] (cH m) (fun r H'=>r=av (encRes (gPerform m ⟨6,id,other,node,x,y,key,val,refs,obj⟩))∧H'=cH m):=by
 rw [gPerform,if_neg (show ¬ ((6:Int)=1)by decide)]
 simp only
 refine Bd Tryz.func118 rfl Tryz.ntmps118<|Sq<|Rg<|Dd (by exact opd_box (id:=3) rfl rfl rfl rfl rfl)<|Dd (by exact x_alloc (id:=4) rfl zo154 rfl rfl)<|Zz<|Sq<|Sq<|Rg<|Dd (fr' fo51_0)<|Dd (l1' Tryz.isAgg3)<|Dd eql'<|Zz ?_
 refine Cn (fun hc1=>?_) fun hc1=>?_
 ·cases hc1
 skip
 cases hf:m.find? (idIs id)with
 | none =>
  refine awp_skip<|Sq ?_
  refine awp_drawc follows ?_
  refine Cq mv'<|Cq nc'<|Cq (fr' fo114_1)<|Cq (l1' Tryz.isAgg80)<|Cq (fr' fo51_1)<|Cq (l1' Tryz.isAgg9)<|Cq (by exact lk_none rfl rfl rfl rfl (kindOf_none hf))<|Cq mv'<|Cq ex'<|Cq ex'<|Cq as'<|Cq as' ?_
  refine dc_nil ⟨by kernel_rfl,?_⟩
  refine Sq<|Sq ?_
  refine awp_drawc follows ?_
  refine Cq mv'<|Cq nc'<|Cq (fr' fo114_1)<|Cq (l1' Tryz.isAgg80)<|Cq (fr' fo51_2)<|Cq (l1' Tryz.isAgg9)<|Cq (by exact lk_c rfl rfl rfl rfl)<|Cq mv'<|Cq ex'<|Cq ex'<|Cq as'<|Cq as' ?_
  refine dc_nil ⟨by kernel_rfl,?_⟩
  refine Sq<|Rg<|Dd mv'<|Dd no'<|Dd mv' ?_
  refine al_off rfl rfl rfl (by rfl) rfl ?_
  refine al_off rfl rfl rfl (by rfl) rfl ?_
  refine al_off rfl rfl rfl (by rfl) rfl ?_
  refine al_off rfl rfl rfl (by rfl) rfl ?_
  refine al_offu rfl rfl rfl rfl ?_
  refine al_offu rfl rfl rfl rfl ?_
  refine al_off rfl rfl rfl (by rfl) rfl ?_
  refine Dd pk'<|Zz ?_
  refine Cn (fun hc2=>?_) fun hc2=>?_
  ·skip
   refine Sq<|Rg<|Dd (bu' bo154)<|Uu (sa' Tryz.sizeOf154)<|Zz<|awp_ret ?_
   refine aret1 (H':=(cH m)) (.inr rfl) rfl (rl' Tryz.isAgg154 Tryz.sizeOf154) (Fin.cl (m:=m) (encRes (errR 11)) rfl rfl) ?_
   exact⟨rfl,rfl⟩
  cases hc2
 | some o =>
  simp only [show decide ((6:Int)=7)=false from rfl,Bool.false_and,Bool.false_eq_true,if_false,if_true]
  rw [if_neg (show ¬ ((6:Int)=2)by decide),if_neg (show ¬ ((6:Int)=3)by decide),if_neg (show ¬ ((6:Int)=4)by decide),if_neg (show ¬ ((6:Int)=5)by decide)]
  have hom:=List.mem_of_find?_eq_some hf
  obtain ⟨ho1,ho2⟩:=ho9 o hom
  have hoo:=hm.2 o hom
  refine awp_skip<|Sq ?_
  refine awp_drawc follows ?_
  refine Cq mv'<|Cq nc'<|Cq (fr' fo114_1)<|Cq (l1' Tryz.isAgg80)<|Cq (fr' fo51_1)<|Cq (l1' Tryz.isAgg9)<|Cq (by exact lk_some rfl rfl rfl rfl (kindOf_some hf))<|Cq mv'<|Cq ex'<|Cq ex'<|Cq as'<|Cq as' ?_
  refine dc_nil ⟨by kernel_rfl,?_⟩
  refine Sq<|Sq ?_
  refine awp_drawc follows ?_
  refine Cq mv'<|Cq nc'<|Cq (fr' fo114_1)<|Cq (l1' Tryz.isAgg80)<|Cq (fr' fo51_2)<|Cq (l1' Tryz.isAgg9)<|Cq (by exact lk_c rfl rfl rfl rfl)<|Cq mv'<|Cq ex'<|Cq ex'<|Cq as'<|Cq as' ?_
  refine dc_nil ⟨by kernel_rfl,?_⟩
  refine Sq<|Rg<|Dd mv'<|Dd no'<|Dd mv' ?_
  refine al_ond rfl rfl rfl (by rfl) rfl rfl (by exact opd_field_ref rfl fo51_0 rfl rfl rfl rfl) ?_
  refine al_ond rfl rfl rfl (by rfl) rfl rfl (by exact opd_load1_ref rfl Tryz.isAgg3 rfl rfl rfl rfl rfl) ?_
  refine al_ond rfl rfl rfl (by rfl) rfl rfl (by exact opd_eql rfl rfl rfl) ?_
  refine al_ond rfl rfl rfl (by rfl) rfl rfl (by exact opd_move rfl rfl) ?_
  refine al_off rfl rfl rfl (by rfl) rfl ?_
  refine al_off rfl rfl rfl (by rfl) rfl ?_
  refine al_ond rfl rfl rfl (by rfl) rfl rfl (by exact opd_pick_f rfl rfl rfl) ?_
  refine Dd pk'<|Zz ?_
  refine Cn (fun hc3=>?_) fun hc3=>?_
  ·cases hc3
  skip
  refine awp_skip<|Sq<|Rg<|Dd mv'<|Dd (fr' fo51_1)<|Dd (l1' Tryz.isAgg9)<|Dd (by exact opr_call rfl rfl Tryz.call160 rfl (get_c m id o _ rfl rfl hm hf))<|Dd (by exact x_alloc (id:=11) rfl zo49 rfl rfl)<|Uu (sa' Tryz.sizeOf49)<|Zz<|Sq<|Rg<|Dd (by exact opd_makeMap (id:=77) (intK .i64) rfl rfl)<|Dd (by exact x_buildSlice ([(1:Int)].map encInt) rfl so42 rfl rfl rfl rfl rfl (by simp [encInt]))<|Uu (by exact x_mapUpdate (κ:=(intK .i64)) (.inr rfl) Tryz.underlying193 Tryz.underlying3 rfl rfl rfl rfl rfl rfl rfl rfl)<|Dd (by exact x_buildSlice ([(2:Int),3,4].map encInt) rfl so42 rfl rfl rfl rfl rfl (by simp [encInt]))<|Uu (by exact x_mapUpdate (κ:=(intK .i64)) (.inr rfl) Tryz.underlying193 Tryz.underlying3 rfl rfl rfl rfl rfl rfl rfl rfl)<|Dd (by exact x_buildSlice ([(2:Int)].map encInt) rfl so42 rfl rfl rfl rfl rfl (by simp [encInt]))<|Uu (by exact x_mapUpdate (κ:=(intK .i64)) (.inr rfl) Tryz.underlying193 Tryz.underlying3 rfl rfl rfl rfl rfl rfl rfl rfl) ?_
  refine Dd (by exact x_buildSlice ([(2:Int)].map encInt) rfl so42 rfl rfl rfl rfl rfl (by simp [encInt]))<|Uu (by exact x_mapUpdate (κ:=(intK .i64)) (.inr rfl) Tryz.underlying193 Tryz.underlying3 rfl rfl rfl rfl rfl rfl rfl rfl)<|Dd mv'<|Dd as'<|Zz<|Sq<|Sq<|Rg<|Dd mv'<|Dd (fr' fo51_0)<|Dd (l1' Tryz.isAgg3)<|Dd (by exact opd_lookup_ok (κ:=(intK .i64)) rfl Tryz.underlying193 Tryz.underlying3 rfl rfl rfl rfl rfl Tryz.zeroValue42 (.inl rfl))<|Dd mv'<|Dd ex'<|Dd ex'<|Dd as'<|Dd as'<|Zz<|Sq<|Rg<|Dd mv'<|Dd mv' ?_
  refine al_ond rfl rfl rfl (by rfl) rfl rfl (by exact opd_move rfl rfl) ?_
  refine al_ond rfl rfl rfl (by rfl) rfl rfl (by exact opd_field_ref rfl fo49_1 rfl rfl rfl rfl) ?_
  refine al_ond rfl rfl rfl (by rfl) rfl rfl (by exact opd_load1_ref rfl Tryz.isAgg3 rfl rfl rfl rfl rfl) ?_
  refine al_ond rfl rfl rfl (by rfl) rfl rfl (by exact opr_call rfl rfl Tryz.call161 rfl (containsI_c [(2:Int)] o.kind _ (by decide))) ?_
  refine al_ond rfl rfl rfl (by rfl) rfl rfl (by exact opd_not rfl rfl) ?_
  refine Dd pk'<|Zz ?_
  refine Cn (fun hc4=>?_) fun hc4=>?_
  ·have hb:(!fitsB 6 o.kind)=true:=by
    have h:=hc4
    rw [← h]
    simp [fitsB]
   rw [hb,if_pos rfl]
   refine Sq<|Rg<|Dd (bu' bo154)<|Uu (sa' Tryz.sizeOf154)<|Zz<|awp_ret ?_
   refine aret1 (H':=(cH m)) (.inr rfl) rfl (rl' Tryz.isAgg154 Tryz.sizeOf154) (Fin.cl (m:=m) (encRes (errR 13)) rfl rfl) ?_
   exact⟨rfl,rfl⟩
  have hb:(!fitsB 6 o.kind)=false:=by
   have h:=hc4
   rw [← h]
   simp [fitsB]
  rw [hb,if_neg (by simp)]
  refine awp_skip<|Sq<|Sq<|Rg<|Dd (fr' fo51_0)<|Dd (l1' Tryz.isAgg3)<|Zz<|awp_block<|Sq<|Rg<|Dd eql'<|Dd as'<|Zz ?_
  refine Cn (fun hc5=>?_) fun hc5=>?_
  ·cases hc5
  skip
  refine Sq<|Rg<|Dd eql'<|Dd as'<|Zz ?_
  refine Cn (fun hc6=>?_) fun hc6=>?_
  ·cases hc6
  skip
  refine Sq<|Rg<|Dd eql'<|Dd as'<|Zz ?_
  refine Cn (fun hc7=>?_) fun hc7=>?_
  ·cases hc7
  skip
  refine Sq<|Rg<|Dd eql'<|Dd as'<|Zz ?_
  refine Cn (fun hc8=>?_) fun hc8=>?_
  ·cases hc8
  skip
  refine Sq<|Rg<|Dd eql'<|Dd as'<|Zz ?_
  refine Cn (fun hc9=>?_) fun hc9=>?_
  ·skip
   refine Sq<|Rg<|Dd mv'<|Dd (ln' Tryz.isAgg51 Tryz.sizeOf51)<|Dd (ln' Tryz.isAgg49 Tryz.sizeOf49)<|Dd (by exact opr_call rfl rfl Tryz.call164 rfl (split_c m ⟨6,id,other,node,x,y,key,val,refs,obj⟩ o _ rfl rfl hm (by omega)))<|Uu (sa' Tryz.sizeOf154)<|Zz<|awp_ret ?_
   refine aret1 (H':=(cH m)) (.inr rfl) rfl (rl' Tryz.isAgg154 Tryz.sizeOf154) (Fin.cl (m:=m) (encRes (gSplit m ⟨6,id,other,node,x,y,key,val,refs,obj⟩ o)) rfl rfl) ?_
   exact⟨rfl,rfl⟩
  cases hc9
theorem join_c (m:List GObj) (e:GEdit) (o x:GObj) (H:Heap) (h14:H.get 14=some (cRow m)) (h12:H.get 12=some (kob m)) (hm:okM m) (hr:o.refs.length < 549755813888) (hr2:x.refs.length < 549755813888) (hx:m.find? (idIs e.other)=some x) (ho:0 < o.refs.length) (hx2:x.kind=2→0 < x.refs.length) :
  ACalls Tryz.prog 165 [.ref 14 0 0 0,av (encEdit e),av (encObj o)] H (fun r H'=>r=av (encRes (gJoin m e o x))∧H'=H) :=
 cl_c (join0_c m e o x hm hr hr2 hx ho hx2) h14 h12 (by simp;rfl)
theorem perf7_c (m:List GObj) (id other node:ByteArray) (x y:Int) (key val:ByteArray) (refs:List ByteArray) (obj:GObj) (hm:okM m) (ho9:∀ o,o∈m→o.refs.length < 549755813888∧o.tags.length < 1099511627776) (hway:∀ o,o∈m→o.kind=2→0 < o.refs.length) :
  ACalls Tryz.prog 118 [.ref 14 0 0 0,av (encEdit ⟨7,id,other,node,x,y,key,val,refs,obj⟩)] (cH m) (fun r H'=>r=av (encRes (gPerform m ⟨7,id,other,node,x,y,key,val,refs,obj⟩))∧H'=cH m):=by
 rw [gPerform,if_neg (show ¬ ((7:Int)=1)by decide)]
 simp only
 refine Bd Tryz.func118 rfl Tryz.ntmps118<|Sq<|Rg<|Dd (by exact opd_box (id:=3) rfl rfl rfl rfl rfl)<|Dd (by exact x_alloc (id:=4) rfl zo154 rfl rfl)<|Zz<|Sq<|Sq<|Rg<|Dd (fr' fo51_0)<|Dd (l1' Tryz.isAgg3)<|Dd eql'<|Zz ?_
 refine Cn (fun hc1=>?_) fun hc1=>?_
 ·cases hc1
 skip
 cases hf:m.find? (idIs id)with
 | none =>
  refine awp_skip<|Sq ?_
  refine awp_drawc follows ?_
  refine Cq mv'<|Cq nc'<|Cq (fr' fo114_1)<|Cq (l1' Tryz.isAgg80)<|Cq (fr' fo51_1)<|Cq (l1' Tryz.isAgg9)<|Cq (by exact lk_none rfl rfl rfl rfl (kindOf_none hf))<|Cq mv'<|Cq ex'<|Cq ex'<|Cq as'<|Cq as' ?_
  refine dc_nil ⟨by kernel_rfl,?_⟩
  refine Sq<|Sq ?_
  refine awp_drawc follows ?_
  refine Cq mv'<|Cq nc'<|Cq (fr' fo114_1)<|Cq (l1' Tryz.isAgg80)<|Cq (fr' fo51_2)<|Cq (l1' Tryz.isAgg9)<|Cq (by exact lk_c rfl rfl rfl rfl)<|Cq mv'<|Cq ex'<|Cq ex'<|Cq as'<|Cq as' ?_
  refine dc_nil ⟨by kernel_rfl,?_⟩
  refine Sq<|Rg<|Dd mv'<|Dd no'<|Dd mv' ?_
  refine al_off rfl rfl rfl (by rfl) rfl ?_
  refine al_off rfl rfl rfl (by rfl) rfl ?_
  refine al_off rfl rfl rfl (by rfl) rfl ?_
  refine al_off rfl rfl rfl (by rfl) rfl ?_
  refine al_offu rfl rfl rfl rfl ?_
  refine al_offu rfl rfl rfl rfl ?_
  refine al_off rfl rfl rfl (by rfl) rfl ?_
  refine Dd pk'<|Zz ?_
  refine Cn (fun hc2=>?_) fun hc2=>?_
  ·skip
   refine Sq<|Rg<|Dd (bu' bo154)<|Uu (sa' Tryz.sizeOf154)<|Zz<|awp_ret ?_
   refine aret1 (H':=(cH m)) (.inr rfl) rfl (rl' Tryz.isAgg154 Tryz.sizeOf154) (Fin.cl (m:=m) (encRes (errR 11)) rfl rfl) ?_
   exact⟨rfl,rfl⟩
  cases hc2
 | some o =>
  cases hf2:m.find? (idIs other)with
  | none =>
   simp only [show decide ((7:Int)=7)=true from rfl,Bool.true_and,Option.isNone_none,if_true]
   refine awp_skip<|Sq ?_
   refine awp_drawc follows ?_
   refine Cq mv'<|Cq nc'<|Cq (fr' fo114_1)<|Cq (l1' Tryz.isAgg80)<|Cq (fr' fo51_1)<|Cq (l1' Tryz.isAgg9)<|Cq (by exact lk_some rfl rfl rfl rfl (kindOf_some hf))<|Cq mv'<|Cq ex'<|Cq ex'<|Cq as'<|Cq as' ?_
   refine dc_nil ⟨by kernel_rfl,?_⟩
   refine Sq<|Sq ?_
   refine awp_drawc follows ?_
   refine Cq mv'<|Cq nc'<|Cq (fr' fo114_1)<|Cq (l1' Tryz.isAgg80)<|Cq (fr' fo51_2)<|Cq (l1' Tryz.isAgg9)<|Cq (by exact lk_none rfl rfl rfl rfl (kindOf_none hf2))<|Cq mv'<|Cq ex'<|Cq ex'<|Cq as'<|Cq as' ?_
   refine dc_nil ⟨by kernel_rfl,?_⟩
   refine Sq<|Rg<|Dd mv'<|Dd no'<|Dd mv' ?_
   refine al_ond rfl rfl rfl (by rfl) rfl rfl (by exact opd_field_ref rfl fo51_0 rfl rfl rfl rfl) ?_
   refine al_ond rfl rfl rfl (by rfl) rfl rfl (by exact opd_load1_ref rfl Tryz.isAgg3 rfl rfl rfl rfl rfl) ?_
   refine al_ond rfl rfl rfl (by rfl) rfl rfl (by exact opd_eql rfl rfl rfl) ?_
   refine al_ond rfl rfl rfl (by rfl) rfl rfl (by exact opd_move rfl rfl) ?_
   refine al_ond rfl rfl rfl (by rfl) rfl rfl (by exact opd_move rfl rfl) ?_
   refine al_ond rfl rfl rfl (by rfl) rfl rfl (by exact opd_not rfl rfl) ?_
   refine al_ond rfl rfl rfl (by rfl) rfl rfl (by exact opd_pick_t rfl rfl rfl) ?_
   refine Dd pk'<|Zz ?_
   refine Cn (fun hc3=>?_) fun hc3=>?_
   ·skip
    refine Sq<|Rg<|Dd (bu' bo154)<|Uu (sa' Tryz.sizeOf154)<|Zz<|awp_ret ?_
    refine aret1 (H':=(cH m)) (.inr rfl) rfl (rl' Tryz.isAgg154 Tryz.sizeOf154) (Fin.cl (m:=m) (encRes (errR 11)) rfl rfl) ?_
    exact⟨rfl,rfl⟩
   cases hc3
  | some o2 =>
   simp only [show decide ((7:Int)=7)=true from rfl,Bool.true_and,Option.isNone_some,Bool.false_eq_true,if_false,Option.getD_some]
   rw [if_neg (show ¬ ((7:Int)=2)by decide),if_neg (show ¬ ((7:Int)=3)by decide),if_neg (show ¬ ((7:Int)=4)by decide),if_neg (show ¬ ((7:Int)=5)by decide),if_neg (show ¬ ((7:Int)=6)by decide)]
   have hom2:=List.mem_of_find?_eq_some hf2
   obtain ⟨hp1,hp2⟩:=ho9 o2 hom2
   have hom:=List.mem_of_find?_eq_some hf
   obtain ⟨ho1,ho2⟩:=ho9 o hom
   have hoo:=hm.2 o hom
   refine awp_skip<|Sq ?_
   refine awp_drawc follows ?_
   refine Cq mv'<|Cq nc'<|Cq (fr' fo114_1)<|Cq (l1' Tryz.isAgg80)<|Cq (fr' fo51_1)<|Cq (l1' Tryz.isAgg9)<|Cq (by exact lk_some rfl rfl rfl rfl (kindOf_some hf))<|Cq mv'<|Cq ex'<|Cq ex'<|Cq as'<|Cq as' ?_
   refine dc_nil ⟨by kernel_rfl,?_⟩
   refine Sq<|Sq ?_
   refine awp_drawc follows ?_
   refine Cq mv'<|Cq nc'<|Cq (fr' fo114_1)<|Cq (l1' Tryz.isAgg80)<|Cq (fr' fo51_2)<|Cq (l1' Tryz.isAgg9)<|Cq (by exact lk_some rfl rfl rfl rfl (kindOf_some hf2))<|Cq mv'<|Cq ex'<|Cq ex'<|Cq as'<|Cq as' ?_
   refine dc_nil ⟨by kernel_rfl,?_⟩
   refine Sq<|Rg<|Dd mv'<|Dd no'<|Dd mv' ?_
   refine al_ond rfl rfl rfl (by rfl) rfl rfl (by exact opd_field_ref rfl fo51_0 rfl rfl rfl rfl) ?_
   refine al_ond rfl rfl rfl (by rfl) rfl rfl (by exact opd_load1_ref rfl Tryz.isAgg3 rfl rfl rfl rfl rfl) ?_
   refine al_ond rfl rfl rfl (by rfl) rfl rfl (by exact opd_eql rfl rfl rfl) ?_
   refine al_ond rfl rfl rfl (by rfl) rfl rfl (by exact opd_move rfl rfl) ?_
   refine al_ond rfl rfl rfl (by rfl) rfl rfl (by exact opd_move rfl rfl) ?_
   refine al_ond rfl rfl rfl (by rfl) rfl rfl (by exact opd_not rfl rfl) ?_
   refine al_ond rfl rfl rfl (by rfl) rfl rfl (by exact opd_pick_t rfl rfl rfl) ?_
   refine Dd pk'<|Zz ?_
   refine Cn (fun hc4=>?_) fun hc4=>?_
   ·cases hc4
   skip
   refine awp_skip<|Sq<|Rg<|Dd mv'<|Dd (fr' fo51_1)<|Dd (l1' Tryz.isAgg9)<|Dd (by exact opr_call rfl rfl Tryz.call160 rfl (get_c m id o _ rfl rfl hm hf))<|Dd (by exact x_alloc (id:=11) rfl zo49 rfl rfl)<|Uu (sa' Tryz.sizeOf49)<|Zz<|Sq<|Rg<|Dd (by exact opd_makeMap (id:=77) (intK .i64) rfl rfl)<|Dd (by exact x_buildSlice ([(1:Int)].map encInt) rfl so42 rfl rfl rfl rfl rfl (by simp [encInt]))<|Uu (by exact x_mapUpdate (κ:=(intK .i64)) (.inr rfl) Tryz.underlying193 Tryz.underlying3 rfl rfl rfl rfl rfl rfl rfl rfl)<|Dd (by exact x_buildSlice ([(2:Int),3,4].map encInt) rfl so42 rfl rfl rfl rfl rfl (by simp [encInt]))<|Uu (by exact x_mapUpdate (κ:=(intK .i64)) (.inr rfl) Tryz.underlying193 Tryz.underlying3 rfl rfl rfl rfl rfl rfl rfl rfl)<|Dd (by exact x_buildSlice ([(2:Int)].map encInt) rfl so42 rfl rfl rfl rfl rfl (by simp [encInt]))<|Uu (by exact x_mapUpdate (κ:=(intK .i64)) (.inr rfl) Tryz.underlying193 Tryz.underlying3 rfl rfl rfl rfl rfl rfl rfl rfl) ?_
   refine Dd (by exact x_buildSlice ([(2:Int)].map encInt) rfl so42 rfl rfl rfl rfl rfl (by simp [encInt]))<|Uu (by exact x_mapUpdate (κ:=(intK .i64)) (.inr rfl) Tryz.underlying193 Tryz.underlying3 rfl rfl rfl rfl rfl rfl rfl rfl)<|Dd mv'<|Dd as'<|Zz<|Sq<|Sq<|Rg<|Dd mv'<|Dd (fr' fo51_0)<|Dd (l1' Tryz.isAgg3)<|Dd (by exact opd_lookup_ok (κ:=(intK .i64)) rfl Tryz.underlying193 Tryz.underlying3 rfl rfl rfl rfl rfl Tryz.zeroValue42 (.inl rfl))<|Dd mv'<|Dd ex'<|Dd ex'<|Dd as'<|Dd as'<|Zz<|Sq<|Rg<|Dd mv'<|Dd mv' ?_
   refine al_ond rfl rfl rfl (by rfl) rfl rfl (by exact opd_move rfl rfl) ?_
   refine al_ond rfl rfl rfl (by rfl) rfl rfl (by exact opd_field_ref rfl fo49_1 rfl rfl rfl rfl) ?_
   refine al_ond rfl rfl rfl (by rfl) rfl rfl (by exact opd_load1_ref rfl Tryz.isAgg3 rfl rfl rfl rfl rfl) ?_
   refine al_ond rfl rfl rfl (by rfl) rfl rfl (by exact opr_call rfl rfl Tryz.call161 rfl (containsI_c [(2:Int)] o.kind _ (by decide))) ?_
   refine al_ond rfl rfl rfl (by rfl) rfl rfl (by exact opd_not rfl rfl) ?_
   refine Dd pk'<|Zz ?_
   refine Cn (fun hc5=>?_) fun hc5=>?_
   ·have hb:(!fitsB 7 o.kind)=true:=by
     have h:=hc5
     rw [← h]
     simp [fitsB]
    rw [hb,if_pos rfl]
    refine Sq<|Rg<|Dd (bu' bo154)<|Uu (sa' Tryz.sizeOf154)<|Zz<|awp_ret ?_
    refine aret1 (H':=(cH m)) (.inr rfl) rfl (rl' Tryz.isAgg154 Tryz.sizeOf154) (Fin.cl (m:=m) (encRes (errR 13)) rfl rfl) ?_
    exact⟨rfl,rfl⟩
   have hb:(!fitsB 7 o.kind)=false:=by
    have h:=hc5
    rw [← h]
    simp [fitsB]
   have hk2:o.kind=2:=by
    have h:=hb
    simpa [fitsB] using h
   rw [hb,if_neg (by simp)]
   refine awp_skip<|Sq<|Sq<|Rg<|Dd (fr' fo51_0)<|Dd (l1' Tryz.isAgg3)<|Zz<|awp_block<|Sq<|Rg<|Dd eql'<|Dd as'<|Zz ?_
   refine Cn (fun hc6=>?_) fun hc6=>?_
   ·cases hc6
   skip
   refine Sq<|Rg<|Dd eql'<|Dd as'<|Zz ?_
   refine Cn (fun hc7=>?_) fun hc7=>?_
   ·cases hc7
   skip
   refine Sq<|Rg<|Dd eql'<|Dd as'<|Zz ?_
   refine Cn (fun hc8=>?_) fun hc8=>?_
   ·cases hc8
   skip
   refine Sq<|Rg<|Dd eql'<|Dd as'<|Zz ?_
   refine Cn (fun hc9=>?_) fun hc9=>?_
   ·cases hc9
   skip
   refine Sq<|Rg<|Dd eql'<|Dd as'<|Zz ?_
   refine Cn (fun hc10=>?_) fun hc10=>?_
   ·cases hc10
   skip
   refine Sq<|Rg<|Dd eql'<|Dd as'<|Zz ?_
   refine Cn (fun hc11=>?_) fun hc11=>?_
   ·skip
    refine Sq<|Rg<|Dd mv'<|Dd (ln' Tryz.isAgg51 Tryz.sizeOf51)<|Dd (ln' Tryz.isAgg49 Tryz.sizeOf49)<|Dd (by exact opr_call rfl rfl Tryz.call165 rfl (join_c m ⟨7,id,other,node,x,y,key,val,refs,obj⟩ o o2 _ rfl rfl hm ho1 hp1 hf2 (hway o hom hk2) (hway o2 hom2)))<|Uu (sa' Tryz.sizeOf154)<|Zz<|awp_ret ?_
    refine aret1 (H':=(cH m)) (.inr rfl) rfl (rl' Tryz.isAgg154 Tryz.sizeOf154) (Fin.cl (m:=m) (encRes (gJoin m ⟨7,id,other,node,x,y,key,val,refs,obj⟩ o o2)) rfl rfl) ?_
    exact⟨rfl,rfl⟩
   cases hc11
end
section
theorem gObj_len {o:GObj} (h:gObj o=true):o.refs.length≤2000∧o.tags.length≤60∧gTags o.tags=true∧gName o.id=true∧(o.kind=2→2≤o.refs.length):=by
 rw [gObj,Bool.and_eq_true,Bool.not_eq_true',gHead,gHeadN] at h
 have h1:=h.1
 simp only [Bool.or_eq_false_iff,Bool.not_eq_false',decide_eq_false_iff_not] at h1
 obtain ⟨⟨⟨⟨a1,a2⟩,a3⟩,a4⟩,a5⟩:=h1
 refine⟨by omega,(gTags_iff.1 a3).2.2,a3,a2,fun hk=>?_⟩
 rw [hk,show gLeast 2=2 from rfl] at a4
 omega
theorem okTags_ins {l l':List GTag} {key val:ByteArray} (hl:okTags l) (hk:key.size < 4611686018427387904) (hv:val.size < 4611686018427387904) (hlen:l'.length≤l.length+1) (hlt:l.length < 1099511627776) (hm:∀ t,t∈l'→t=⟨key,val⟩∨t∈l):okTags l':=by
 refine⟨by omega,fun t ht=>?_⟩
 rcases hm t ht with rfl|h
 ·exact⟨hk,hv⟩
 exact hl.2 t h
theorem gSet_ok {l:List GTag} {key val:ByteArray} (hl:okTags l) (hk:key.size < 4611686018427387904) (hv:val.size < 4611686018427387904) (hlt:l.length < 1099511627776):okTags (gSet l key val).1:=by
 have hle:=lbI_le GTag.key l key
 unfold gSet
 split
 ·exact⟨by show 0 < _;omega,fun t ht=>by cases ht⟩
 split
 ·split
  ·refine okTags_ins hl hk hv (by simp only [List.length_append,List.length_take,List.length_drop];omega) hlt (fun t ht=>.inr ?_)
   rcases List.mem_append.1 ht with h|h
   ·exact List.mem_of_mem_take h
   exact List.mem_of_mem_drop h
  refine okTags_ins hl hk hv (by simp only [List.length_set];omega) hlt (fun t ht=>?_)
  rcases List.mem_or_eq_of_mem_set ht with h|h
  ·exact .inr h
  exact .inl h
 split
 ·exact hl
 split
 ·exact⟨by show 0 < _;omega,fun t ht=>by cases ht⟩
 refine okTags_ins hl hk hv (by simp only [List.length_append,List.length_take,List.length_drop,List.length_cons];omega) hlt (fun t ht=>?_)
 rcases List.mem_append.1 ht with h|h
 ·exact .inr (List.mem_of_mem_take h)
 rcases List.mem_cons.1 h with h|h
 ·exact .inl h
 exact .inr (List.mem_of_mem_drop h)
theorem find_ok {m:List GObj} {s:ByteArray} {o:GObj} (hm:okM m) (h:m.find? (idIs s)=some o):okO o:=hm.2 o (List.mem_of_find?_eq_some h)
theorem gEditV_iff {e:GEdit}:gEditV e=true↔(1≤e.op∧e.op≤7)∧okOf e=true∧xOf e=e:=by
 rw [gEditV,Bool.and_eq_true,Bool.and_eq_true,Bool.and_eq_true,decide_eq_true_eq,decide_eq_true_eq,gSameE_iff]
theorem gEditV_val {e:GEdit} (h:gEditV e=true):e.val.size≤200:=by
 obtain ⟨_,h2,h3⟩:=gEditV_iff.1 h
 have hv:(xOf e).val=e.val:=by rw [h3]
 by_cases e3:e.op=3
 ·rw [okOf,if_neg (by omega),if_neg (by omega),if_pos e3,Bool.and_eq_true,Bool.and_eq_true,decide_eq_true_eq] at h2
  omega
 have:e.val=sNil:=by
  rw [← hv,xOf]
  repeat' split
  all_goals rfl
 rw [this];decide
theorem perf_ok {m:List GObj} {e:GEdit} (hm:okM m) (hg:gMap m=true) (he:okE e) (hv:gEditV e=true):∀ o,o∈(gPerform m e).put→okO o:=by
 have hvs:=gEditV_val hv
 obtain ⟨⟨h1,h2,h3,h4⟩,⟨h5,h6⟩,h7⟩:=he
 have hlen:∀ o,o∈m→o.refs.length≤2000∧o.tags.length≤60:=fun o ho=>by
  have:=gObj_len ((gMap_iff.1 hg).1 o ho)
  exact⟨this.1,this.2.1⟩
 have hnone:∀ n,∀ o,o∈(errR n).put→okO o:=fun n o ho=>by cases ho
 unfold gPerform
 split
 ·split
  ·exact hnone _
  intro o ho
  rw [List.mem_singleton] at ho;subst ho;exact h7
 split
 ·exact hnone _
 next o hf =>
 have hoo:=find_ok hm hf
 have hol:=hlen o (List.mem_of_find?_eq_some hf)
 split
 ·exact hnone _
 split
 ·exact hnone _
 split
 ·intro x hx
  rw [List.mem_singleton] at hx;subst hx;exact hoo
 split
 ·split
  ·exact hnone _
  intro x hx
  rw [List.mem_singleton] at hx;subst hx
  refine⟨hoo.1,gSet_ok hoo.2.1 ?_ ?_ (by omega),hoo.2.2⟩
  ·exact h4
  omega
 split
 ·split
  ·exact hnone _
  intro x hx
  rw [List.mem_singleton] at hx;subst hx
  exact⟨hoo.1,hoo.2.1,h5,h6⟩
 split
 ·split
  ·exact hnone _
  intro x hx;cases hx
 split
 ·unfold gSplit
  split
  ·exact hnone _
  split
  ·exact hnone _
  split
  ·exact hnone _
  intro x hx
  simp only [List.mem_cons,List.not_mem_nil,or_false] at hx
  rcases hx with rfl|rfl
  ·exact⟨hoo.1,hoo.2.1,by simp only [List.length_take];omega,fun s hs=>hoo.2.2.2 s (List.mem_of_mem_take hs)⟩
  exact⟨h2,hoo.2.1,by simp only [List.length_drop];omega,fun s hs=>hoo.2.2.2 s (List.mem_of_mem_drop hs)⟩
 unfold gJoin
 split
 ·exact hnone _
 split
 ·exact hnone _
 split
 ·exact hnone _
 split
 ·exact hnone _
 intro x hx
 rw [List.mem_singleton] at hx;subst hx
 have hx2:okO ((m.find? (idIs e.other)).getD zObj)∧((m.find? (idIs e.other)).getD zObj).refs.length≤2000:=by
  cases hf2:m.find? (idIs e.other)with
  | none=>exact⟨⟨by decide,⟨by decide,fun t ht=>by cases ht⟩,by decide,fun s hs=>by cases hs⟩,by decide⟩
  | some x=>exact⟨find_ok hm hf2,(hlen x (List.mem_of_find?_eq_some hf2)).1⟩
 refine⟨hoo.1,hoo.2.1,?_,fun s hs=>?_⟩
 ·simp only [List.flatten_cons,List.flatten_nil,List.append_nil,List.length_append,List.length_drop];omega
 simp only [List.flatten_cons,List.flatten_nil,List.append_nil] at hs
 rcases List.mem_append.1 hs with h|h
 ·exact hoo.2.2.2 s h
 exact hx2.1.2.2.2 s (List.mem_of_mem_drop h)
theorem perf0_c (m:List GObj) (e:GEdit) (hm:okM m) (hg:gMap m=true) (hv:gEditV e=true) (he:okE e) :
  ACalls Tryz.prog 118 [.ref 14 0 0 0,av (encEdit e)] (cH m) (fun r H'=>r=av (encRes (gPerform m e))∧H'=cH m):=by
 have hvs:=gEditV_val hv
 obtain ⟨⟨o1,o2⟩,_,_⟩:=gEditV_iff.1 hv
 have hlen:∀ o,o∈m→o.refs.length < 549755813888∧o.tags.length < 1099511627776:=fun o ho=>by
  have:=gObj_len ((gMap_iff.1 hg).1 o ho)
  omega
 have hway:∀ o,o∈m→o.kind=2→0 < o.refs.length:=fun o ho hk=>by
  have:=(gObj_len ((gMap_iff.1 hg).1 o ho)).2.2.2.2 hk
  omega
 obtain ⟨⟨h1,h2,h3,h4⟩,h5,h7⟩:=he
 by_cases e1:e.op=1
 ·exact perf1_c m e hm e1 h7.2.2.1
 have hop:e.op=2∨e.op=3∨e.op=4∨e.op=5∨e.op=6∨e.op=7:=by omega
 obtain ⟨op,id,other,node,x,y,key,val,refs,obj⟩:=e
 simp only at hop h4 h5 hvs
 rcases hop with rfl|rfl|rfl|rfl|rfl|rfl
 ·exact perf2_c m id other node x y key val refs obj hm hlen
 ·exact perf3_c m id other node x y key val refs obj hm hlen h4 (by omega)
 ·exact perf4_c m id other node x y key val refs obj hm hlen h5
 ·exact perf5_c m id other node x y key val refs obj hm hlen
 ·exact perf6_c m id other node x y key val refs obj hm hlen
 exact perf7_c m id other node x y key val refs obj hm hlen hway
/-- The objects of a list put into a map, one after the other. -/
def putAll:List GObj→List GObj→List GObj×Int
 | m,[]=>(m,0)
 | m,o::r=>if !decide ((gPutM m o).2=0)then([],(gPutM m o).2)else putAll (gPutM m o).1 r
def gAfter (m:List GObj) (e:GEdit):List GObj×Int :=
 if !gEditV e then([],1)
 else if !decide ((gPerform m e).err=0)then([],(gPerform m e).err)
 else if !decide ((putAll m (gPerform m e).put).2=0)then putAll m (gPerform m e).put
 else if !decide ((gPerform m e).drop=sNil)then gDropM (putAll m (gPerform m e).put).1 (gPerform m e).drop
 else((putAll m (gPerform m e).put).1,0)
theorem gPutM_ok {m:List GObj} {o:GObj} (hm:okM m) (ho:okO o) (hl:m.length < 1099511627776):okM (gPutM m o).1∧(gPutM m o).1.length≤m.length+1:=by
 unfold gPutM
 split
 ·exact⟨⟨by show 0 < _;omega,fun x hx=>by cases hx⟩,by show 0≤_;omega⟩
 split
 ·exact⟨⟨by show 0 < _;omega,fun x hx=>by cases hx⟩,by show 0≤_;omega⟩
 exact⟨okM_with hm ho hl,by show (gWith m o).length≤_;rw [gWith_len];split<;>omega⟩
end
section
/-- A map and an error are returned, of a function on a closed map. -/
theorem Fin.clT {m:List GObj} {H1:Heap} (p:PV) (n:Int) (h14:H1.get 14=some (cRow m)) (h12:H1.get 12=some (kob m)):Fin (cH m) H1 (.tup [.agg [.pv p],iv n]) (cH m) (.tup [.agg [.pv p],iv n]) :=
 Fin.wk (by simp) ⟨⟨_,h14,rfl⟩,by simp;rfl,⟨_,h12,rfl⟩,kob_clo _ _,trivial⟩ ⟨h14.symm,h12.symm,trivial⟩
theorem put_small {m:List GObj} {e:GEdit}:(gPerform m e).put.length≤2:=by
 have hn:∀ n,(errR n).put.length≤2:=fun n=>by show 0≤2;omega
 unfold gPerform
 repeat' split
 all_goals first|exact hn _|(simp only [List.length_cons,List.length_nil];omega)|skip
 ·unfold gSplit
  repeat' split
  all_goals first|exact hn _|(simp only [List.length_cons,List.length_nil];omega)
 unfold gJoin
 repeat' split
 all_goals first|exact hn _|(simp only [List.length_cons,List.length_nil];omega)
theorem after0g_c (m:List GObj) (e:GEdit) (hm:okM m) (he:okE e) (hl:m.length < 549755813888) (hpo:gEditV e=true→∀ o,o∈(gPerform m e).put→okO o) (hps:(gPerform m e).put.length≤2)
  (hpf0:gEditV e=true→ACalls Tryz.prog 118 [.ref 14 0 0 0,av (encEdit e)] (cH m) (fun r H'=>r=av (encRes (gPerform m e))∧H'=cH m)) :
  ACalls Tryz.prog 65 [.ref 14 0 0 0,av (encEdit e)] (cH m) (fun r H'=>r=.tup [.agg [.pv (slObjs (gAfter m e).1)],iv (gAfter m e).2]∧H'=cH m):=by
 refine Bd Tryz.func65 rfl Tryz.ntmps65<|Sq<|Rg<|Dd (by exact opd_box (id:=3) rfl rfl rfl rfl rfl)<|Dd (by exact x_alloc (id:=4) rfl zo38 rfl rfl)<|Dd as'<|Zz<|Sq<|Sq<|Rg<|Dd (ln' Tryz.isAgg51 Tryz.sizeOf51)<|Dd (by exact opr_call rfl rfl Tryz.call43 rfl (editValid_c e _ he))<|Dd no'<|Zz ?_
 refine Cn (fun hc1=>?_) fun hc1=>?_
 ·have hga:gAfter m e=([],1):=by rw [gAfter,if_pos hc1]
  rw [hga]
  refine Sq<|Rg<|Dd (bu' bo38)<|Uu (sa' Tryz.sizeOf38)<|Dd as'<|Zz<|awp_ret ?_
  refine aret2 (H':=(cH m)) (.inr rfl) rfl (rl' Tryz.isAgg38 Tryz.sizeOf38) (rval_tmp rfl) (Fin.clT (m:=m) (slObjs []) 1 rfl rfl) ?_
  exact⟨rfl,rfl⟩
 have hv:gEditV e=true:=by
  have h:=hc1
  revert h
  cases gEditV e<;>simp
 have hpo:=hpo hv
 have hga:gAfter m e=(if !decide ((gPerform m e).err=0)then([],(gPerform m e).err)else if !decide ((putAll m (gPerform m e).put).2=0)then putAll m (gPerform m e).put else if !decide ((gPerform m e).drop=sNil)then gDropM (putAll m (gPerform m e).put).1 (gPerform m e).drop else((putAll m (gPerform m e).put).1,0)):=by
  rw [gAfter,if_neg (by rw [hc1];simp)]
 obtain ⟨R,hR⟩:∃ R,R=gPerform m e:=⟨_,rfl⟩
 have hpf:∀ H,H.get 14=some (cRow m)→H.get 12=some (kob m)→ACalls Tryz.prog 118 [.ref 14 0 0 0,av (encEdit e)] H (fun r H'=>r=av (encRes (gPerform m e))∧H'=H):=fun H h14 h12=>cl_c (hpf0 hv) h14 h12 (by simp;rfl)
 clear hpf0
 rw [← hR] at hpo hps hga hpf
 rw [hga]
 refine awp_skip<|Sq<|Rg<|Dd mv'<|Dd (ln' Tryz.isAgg51 Tryz.sizeOf51)<|Dd (by exact opr_call rfl rfl Tryz.call118 rfl (hpf _ rfl rfl))<|Dd (by exact x_alloc (id:=6) rfl zo154 rfl rfl)<|Uu (sa' Tryz.sizeOf154)<|Zz<|Sq<|Sq<|Rg<|Dd (fr' fo154_2)<|Dd (l1' Tryz.isAgg25)<|Dd ne'<|Zz ?_
 refine Cn (fun hc2=>?_) fun hc2=>?_
 ·rw [if_pos hc2]
  refine Sq ?_
  refine awp_drawc follows ?_
  refine Cr [] (fun _ _=>(bu' bo38))<|Cr [6] (fun _ h=>fh fo154_2 h)<|Cr [6] (fun _ h=>lh Tryz.isAgg25 h)<|Cp [4] (fun H1 hH=>by exact x_store_all rfl Tryz.sizeOf38 rfl rfl rfl rfl ((hH _ rfl).trans rfl) rfl rfl rfl)<|Cr [] (fun _ _=>as') ?_
  refine dc_nil ⟨by kernel_rfl,?_⟩
  refine awp_ret ?_
  refine aret2 (H':=(cH m)) (.inr rfl) rfl (rl' Tryz.isAgg38 Tryz.sizeOf38) (rval_tmp rfl) (Fin.clT (m:=m) (slObjs []) R.err rfl rfl) ?_
  exact⟨rfl,rfl⟩
 rw [if_neg (by rw [hc2];simp)]
 refine awp_skip<|Sq<|Rg<|Dd mv'<|Dd nc'<|Dd (fr' fo114_0)<|Dd (ln' Tryz.isAgg38 Tryz.sizeOf38)<|Dd (by exact x_alloc (id:=7) rfl zo38 rfl rfl)<|Uu (sa' Tryz.sizeOf38)<|Zz<|Sq<|Sq<|Rg<|Dd (fr' fo154_0)<|Dd (l1' Tryz.isAgg36)<|Dd (ll' Tryz.underlying36)<|Dd mv'<|Zz<|awp_block ?_
 have hml:(R.put.map encObj).length=R.put.length:=List.length_map _
 refine awp_loop2 (fun(k:Nat) (mk:List GObj)=>([(0,.ref 14 0 0 0),(4,.ref 4 0 0 0),(6,.ref 6 0 0 0),(7,.ref 7 0 0 0),(30,.pv (slObjs R.put)),(31,iv ((R.put.map encObj).length:Int)),(32,iv (k:Int))],[(7,bx 1 38 [.pv (slObjs mk)]),(6,bx 3 154 [.pv (slObjs R.put),sv R.drop,iv R.err]),(4,bx 1 38 [lv []]),(14,cRow m),(12,kob m)])) (fun k mk=>k≤R.put.length∧okM mk∧mk.length≤m.length+k∧putAll m R.put=putAll mk (R.put.drop k)) (fun k mk=>R.put.length - k) 0 m ⟨by omega,hm,by omega,rfl⟩ ?_ ?_
 ·exact(Ent.wk (Ea<|Ea<|Ea<|Ea<|Eb<|Eb<|Eb<|trivial) (Hb<|Hb<|Hb<|Ha<|Hc (kob_clo _ _)<|trivial) ⟨rfl,rfl,trivial⟩)
 rintro k mk ⟨hk,hmk,hmkl,hpa⟩
 refine Sq<|Rg<|Dd lss'<|Zz<|Sq ?_
 refine Cn (fun hc3=>?_) fun hc3=>?_
 ·have hlt:k < R.put.length:=by have:=of_decide_eq_true hc3;omega
  obtain ⟨o,ho⟩:=get_of_lt hlt
  have hi:=map_get (f:=encObj) ho
  have hoo:=hpo o (List.mem_of_getElem? ho)
  have hdr:R.put.drop k=o::R.put.drop (k+1):=by
   obtain ⟨hl1,he1⟩:=List.getElem?_eq_some_iff.1 ho
   rw [List.drop_eq_getElem_cons hl1,he1]
  rw [hdr,putAll] at hpa
  obtain ⟨q1,q2⟩:=gPutM_ok hmk hoo (by omega)
  refine awp_skip<|Sq<|awp_block<|Sq<|Rg<|Dd (xp' so36)<|Dd (by exact opd_loadn_pad rfl Tryz.isAgg49 Tryz.sizeOf49 rfl (by omega) rfl rfl)<|Dd (by exact x_alloc (id:=9) rfl zo49 rfl rfl)<|Uu (sa' Tryz.sizeOf49)<|Zz<|Sq<|Rg<|Dd (ln' Tryz.isAgg38 Tryz.sizeOf38)<|Dd (ln' Tryz.isAgg49 Tryz.sizeOf49)<|Dd (by exact opr_call rfl rfl Tryz.call119 rfl (putM_c mk o _ hmk hoo (by omega)))<|Dd mv'<|Dd ex'<|Dd ex'<|Dd (by exact x_alloc (id:=10) rfl zo38 rfl rfl)<|Uu (sa' Tryz.sizeOf38)<|Dd as'<|Zz<|Sq<|Sq<|Rg<|Dd mv'<|Dd ne'<|Zz ?_
  refine Cn (fun hc4=>?_) fun hc4=>?_
  ·rw [if_pos hc4] at hpa
   have hne:(!decide ((putAll m R.put).2=0))=true:=by rw [hpa];exact hc4
   rw [if_pos hne,hpa]
   refine Sq<|Rg<|Dd (bu' bo38)<|Dd mv'<|Uu (sa' Tryz.sizeOf38)<|Dd as'<|Zz<|awp_ret ?_
   refine aret2 (H':=(cH m)) (.inr rfl) rfl (rl' Tryz.isAgg38 Tryz.sizeOf38) (rval_tmp rfl) (Fin.clT (m:=m) (slObjs []) (gPutM mk o).2 rfl rfl) ?_
   exact⟨rfl,rfl⟩
  rw [if_neg (by rw [hc4];simp)] at hpa
  refine awp_skip<|Rg<|Dd (ln' Tryz.isAgg38 Tryz.sizeOf38)<|Uu (sa' Tryz.sizeOf38)<|Zz<|Rg<|Dd ad'<|Dd mv'<|Zz ?_
  exact⟨k+1,(gPutM mk o).1,⟨by omega,q1,by omega,hpa⟩,by omega,(Ent.wk (Ea<|Ea<|Ea<|Ea<|Eb<|Eb<|Eb<|trivial) (Hb<|Hb<|Hb<|Ha<|Hc (kob_clo _ _)<|trivial) ⟨rfl,rfl,trivial⟩)⟩
 have hge:k=R.put.length:=by have:=of_decide_eq_false hc3;omega
 subst hge
 rw [List.drop_length,putAll] at hpa
 rw [hpa]
 rw [if_neg (show ¬ ((!decide (((mk,(0:Int)):List GObj×Int).2=0))=true)by simp)]
 refine awp_exit<|Sq<|Sq<|Rg<|Dd (fr' fo154_1)<|Dd (l1' Tryz.isAgg9)<|Dd sn'<|Zz ?_
 refine Cn (fun hc5=>?_) fun hc5=>?_
 ·rw [if_pos hc5]
  refine Sq<|Rg<|Dd (ln' Tryz.isAgg38 Tryz.sizeOf38)<|Dd (fr' fo154_1)<|Dd (l1' Tryz.isAgg9)<|Dd (by exact opr_call rfl rfl Tryz.call120 rfl (drop_c mk R.drop _ hmk (by omega)))<|Dd ex'<|Dd ex'<|Uu (sa' Tryz.sizeOf38)<|Dd as'<|Zz<|awp_ret ?_
  refine aret2 (H':=(cH m)) (.inr rfl) rfl (rl' Tryz.isAgg38 Tryz.sizeOf38) (rval_tmp rfl) (Fin.clT (m:=m) (slObjs (gDropM mk R.drop).1) (gDropM mk R.drop).2 rfl rfl) ?_
  exact⟨rfl,rfl⟩
 rw [if_neg (by rw [hc5];simp)]
 refine awp_skip<|Sq<|Rg<|Dd (ln' Tryz.isAgg38 Tryz.sizeOf38)<|Uu (sa' Tryz.sizeOf38)<|Dd as'<|Zz<|awp_ret ?_
 refine aret2 (H':=(cH m)) (.inr rfl) rfl (rl' Tryz.isAgg38 Tryz.sizeOf38) (rval_tmp rfl) (Fin.clT (m:=m) (slObjs mk) 0 rfl rfl) ?_
 exact⟨rfl,rfl⟩
theorem after0_c (m:List GObj) (e:GEdit) (hm:okM m) (hg:gMap m=true) (he:okE e) (hl:m.length < 549755813888) :
  ACalls Tryz.prog 65 [.ref 14 0 0 0,av (encEdit e)] (cH m) (fun r H'=>r=.tup [.agg [.pv (slObjs (gAfter m e).1)],iv (gAfter m e).2]∧H'=cH m) :=
 after0g_c m e hm he hl (fun hv=>perf_ok hm hg he hv) put_small (fun hv=>perf0_c m e hm hg hv he)
theorem after_c (m:List GObj) (e:GEdit) (H:Heap) (h14:H.get 14=some (cRow m)) (h12:H.get 12=some (kob m)) (hm:okM m) (hg:gMap m=true) (he:okE e) (hl:m.length < 549755813888) :
  ACalls Tryz.prog 65 [.ref 14 0 0 0,av (encEdit e)] H (fun r H'=>r=.tup [.agg [.pv (slObjs (gAfter m e).1)],iv (gAfter m e).2]∧H'=H) :=
 cl_c (after0_c m e hm hg he hl) h14 h12 (by simp;rfl)
theorem closed_gMap {m:List GObj} (h:closedB m=true):gMap m=true:=by
 rw [closedB,Bool.and_eq_true] at h
 exact h.1
end
section
abbrev look (m:List GObj) (s:ByteArray):Option GObj:=m.find? (idIs s)
theorem look_id {m:List GObj} {s:ByteArray} {o:GObj} (h:look m s=some o):o.id=s:=of_decide_eq_true (show idIs s o=true from List.find?_some h)
theorem look_mem {m:List GObj} {s:ByteArray} {o:GObj} (h:look m s=some o):o∈m:=List.mem_of_find?_eq_some h
theorem mem_look {m:List GObj} {o:GObj} (hu:ups m) (h:o∈m):look m o.id=some o:=by
 cases hf:look m o.id with
 | none =>
  have:=List.find?_eq_none.1 hf o h
  exact absurd (show idIs o.id o=true from decide_eq_true rfl) this
 | some x =>
  have hx:=look_id hf
  obtain ⟨i,hi⟩:=List.mem_iff_getElem?.1 h
  obtain ⟨j,hj⟩:=List.mem_iff_getElem?.1 (look_mem hf)
  rcases Nat.lt_trichotomy i j with h1|h1|h1
  ·have:=asc_get (f:=GObj.id) hu h1 hi hj
   rw [hx,slt_irr] at this;cases this
  ·subst h1;rw [hi] at hj;cases hj;rfl
  have:=asc_get (f:=GObj.id) hu h1 hj hi
  rw [hx,slt_irr] at this;cases this
theorem look_none {m:List GObj} {s:ByteArray}:look m s=none↔∀ o,o∈m→o.id≠s:=by
 rw [look,List.find?_eq_none]
 constructor
 ·intro h o ho e
  exact h o ho (decide_eq_true e)
 intro h o ho e
 exact h o ho (of_decide_eq_true e)
theorem asc_eq {α:Type} {f:α→ByteArray}:∀ {a b:List α},asc f a→asc f b→(∀ x,x∈a↔x∈b)→a=b
 | [],[],_,_,_=>rfl
 | [],y::b,_,_,h=>by have:=(h y).2 List.mem_cons_self;cases this
 | x::a,[],_,_,h=>by have:=(h x).1 List.mem_cons_self;cases this
 | x::a,y::b,ha,hb,h=>by
  obtain ⟨ha1,ha2⟩:=List.pairwise_cons.1 ha
  obtain ⟨hb1,hb2⟩:=List.pairwise_cons.1 hb
  have hxy:x=y:=by
   rcases List.mem_cons.1 ((h x).1 List.mem_cons_self)with e|e
   ·exact e
   rcases List.mem_cons.1 ((h y).2 List.mem_cons_self)with e'|e'
   ·exact e'.symm
   have h1:=hb1 x e
   have h2:=ha1 y e'
   have:=slt_trans h1 h2
   rw [slt_irr] at this;cases this
  subst hxy
  rw [asc_eq ha2 hb2 (fun z=>⟨fun hz=>?_,fun hz=>?_⟩)]
  ·rcases List.mem_cons.1 ((h z).1 (List.mem_cons_of_mem _ hz))with e|e
   ·subst e
    have:=ha1 z hz
    rw [slt_irr] at this;cases this
   exact e
  rcases List.mem_cons.1 ((h z).2 (List.mem_cons_of_mem _ hz))with e|e
  ·subst e
   have:=hb1 z hz
   rw [slt_irr] at this;cases this
  exact e
theorem map_ext {a b:List GObj} (ha:ups a) (hb:ups b) (h:∀ s,look a s=look b s):a=b:=by
 refine asc_eq (f:=GObj.id) ha hb (fun x=>⟨fun hx=>?_,fun hx=>?_⟩)
 ·exact look_mem (s:=x.id) ((h x.id).symm.trans (mem_look ha hx))
 exact look_mem (s:=x.id) ((h x.id).trans (mem_look hb hx))
theorem look_of_mem {m:List GObj} {s:ByteArray} {o:GObj} (hu:ups m) (ho:o∈m) (hs:o.id=s):look m s=some o:=by subst hs;exact mem_look hu ho
theorem hasK_look {m:List GObj} {s:ByteArray}:hasK GObj.id m s=(look m s).isSome:=by
 rw [hasK,look,Bool.eq_iff_iff,List.find?_isSome,List.any_eq_true]
 rfl
theorem gWith_mem_iff {m:List GObj} {o x:GObj} (hu:ups m):x∈gWith m o↔x=o∨(x∈m∧x.id≠o.id):=by
 have hw:=gWith_ups (o:=o) hu
 have hmem:o∈gWith m o:=by
  unfold gWith
  split
  ·next hf =>
   obtain ⟨y,hy,_⟩:=hasK_get (f:=GObj.id) hu hf
   exact List.mem_of_getElem? (List.getElem?_set_self (by have:=(List.getElem?_eq_some_iff.1 hy).1;exact this))
  exact List.mem_append_right _ List.mem_cons_self
 constructor
 ·intro h
  by_cases e:x.id=o.id
  ·left
   have h1:=mem_look hw h
   have h2:=mem_look hw hmem
   rw [e,h2] at h1
   exact(Option.some.inj h1).symm
  right
  refine⟨?_,e⟩
  rcases gWith_mem h with rfl|h
  ·exact absurd rfl e
  exact h
 rintro(rfl|⟨hx,e⟩)
 ·exact hmem
 unfold gWith
 split
 ·next hf =>
  obtain ⟨y,hy,hye⟩:=hasK_get (f:=GObj.id) hu hf
  obtain ⟨k,hk⟩:=List.mem_iff_getElem?.1 hx
  have hne:lbI GObj.id m o.id≠k:=fun e2=>by
   subst e2
   rw [hy] at hk;cases hk
   exact e hye
  exact List.mem_of_getElem? (by rw [List.getElem?_set_ne hne];exact hk)
 rw [← List.take_append_drop (lbI GObj.id m o.id) m] at hx
 rcases List.mem_append.1 hx with h|h
 ·exact List.mem_append_left _ h
 exact List.mem_append_right _ (List.mem_cons_of_mem _ h)
theorem look_with {m:List GObj} (o:GObj) (s:ByteArray) (hu:ups m):look (gWith m o) s=if s=o.id then some o else look m s:=by
 have hw:=gWith_ups (o:=o) hu
 split
 ·next e=>exact look_of_mem hw ((gWith_mem_iff hu).2 (.inl rfl)) e.symm
 next e =>
 cases hf:look m s with
 | none =>
  rw [look_none]
  intro x hx hs
  rcases(gWith_mem_iff hu).1 hx with rfl|⟨h1,_⟩
  ·exact e hs.symm
  exact look_none.1 hf x h1 hs
 | some x =>
  have hid:=look_id hf
  exact look_of_mem hw ((gWith_mem_iff hu).2 (.inr ⟨look_mem hf,by rw [hid];exact e⟩)) hid
def gWo (m:List GObj) (id:ByteArray):List GObj:=m.take (lbI GObj.id m id)++m.drop (lbI GObj.id m id+1)
theorem gWo_sub (m:List GObj) (id:ByteArray):(gWo m id).Sublist m:=by
 have h:(m.take (lbI GObj.id m id)++m.drop (lbI GObj.id m id))=m:=List.take_append_drop _ _
 conv=>rhs;rw [← h]
 exact List.Sublist.append (List.Sublist.refl _) (by rw [← List.drop_drop];exact List.drop_sublist _ _)
theorem ups_sub {m r:List GObj} (h:ups m) (hs:r.Sublist m):ups r:=List.Pairwise.sublist hs h
theorem look_wo {m:List GObj} {id:ByteArray} (s:ByteArray) (hu:ups m) (hf:hasK GObj.id m id=true):look (gWo m id) s=if s=id then none else look m s:=by
 obtain ⟨y,hy,hye⟩:=hasK_get (f:=GObj.id) hu hf
 have hcut:=cut_at hy
 have hsub:=gWo_sub m id
 have huw:=ups_sub hu hsub
 have hmem:∀ x,x∈m↔x∈gWo m id∨x=y:=fun x=>by
  conv=>lhs;rw [hcut]
  simp only [gWo,List.mem_append,List.mem_cons]
  constructor
  ·rintro(h|h|h)
   ·exact .inl (.inl h)
   ·exact .inr h
   exact .inl (.inr h)
  rintro((h|h)|h)
  ·exact .inl h
  ·exact .inr (.inr h)
  exact .inr (.inl h)
 have hny:y∉gWo m id:=fun h=>by
  have hp:=hu
  rw [ups,hcut,List.pairwise_append] at hp
  obtain ⟨_,hp2,hp3⟩:=hp
  rcases List.mem_append.1 h with h|h
  ·have:=hp3 y h y List.mem_cons_self
   rw [slt_irr] at this;cases this
  have:=(List.pairwise_cons.1 hp2).1 y h
  rw [slt_irr] at this;cases this
 split
 ·next e =>
  rw [look_none]
  intro x hx hs
  have h1:=look_of_mem hu ((hmem x).2 (.inl hx)) (hs.trans e)
  have h2:=look_of_mem hu ((hmem y).2 (.inr rfl)) hye
  rw [h1] at h2
  cases h2
  exact hny hx
 next e =>
 cases hl:look m s with
 | none =>
  rw [look_none]
  exact fun x hx=>look_none.1 hl x (hsub.subset hx)
 | some x =>
  have hid:=look_id hl
  rcases(hmem x).1 (look_mem hl)with h|h
  ·exact look_of_mem huw h hid
  subst h
  exact absurd (hid.symm.trans hye) e
theorem kindOf_look (m:List GObj) (s:ByteArray):kindOf m s=(look m s).map GObj.kind:=rfl
/-- References that lead to objects of the right kind. -/
def refsOk (m:List GObj) (kind:Int) (refs:List ByteArray):Prop:=∀ (i:Nat) (s:ByteArray),refs[i]?=some s→kindOf m s=some (gWanted kind (i:Int))
theorem refBad_zero {m:List GObj} {kind:Int} {i:Nat} {s:ByteArray}:refBad m kind i s=0↔kindOf m s=some (gWanted kind (i:Int)):=by
 unfold refBad
 cases kindOf m s with
 | none=>simp
 | some k =>
  simp only [Option.some.injEq]
  by_cases e:k=gWanted kind (i:Int)
  ·simp [e]
  simp [e]
theorem refErr_zero {m:List GObj} {kind:Int}:∀ (j:Nat) (l:List ByteArray),refErr m kind j l=0↔∀ (i:Nat) (s:ByteArray),l[i]?=some s→kindOf m s=some (gWanted kind ((j+i:Nat):Int))
 | j,[]=>by simp [refErr]
 | j,s::l=>by
  rw [refErr]
  constructor
  ·intro h
   split at h
   ·next h0 =>
    intro i x hx
    cases i with
    | zero =>
     rw [List.getElem?_cons_zero] at hx;cases hx
     exact refBad_zero.1 h0
    | succ i =>
     rw [List.getElem?_cons_succ] at hx
     have:=(refErr_zero (j+1) l).1 h i x hx
     rw [show j+(i+1)=j+1+i by omega]
     exact this
   next h0=>exact absurd h h0
  intro h
  have h0:=refBad_zero.2 (h 0 s rfl)
  rw [Nat.add_zero] at h0
  rw [if_pos h0]
  refine(refErr_zero (j+1) l).2 fun i x hx=>?_
  have:=h (i+1) x (by rw [List.getElem?_cons_succ];exact hx)
  rw [show j+1+i=j+(i+1)by omega]
  exact this
theorem refErr_ok {m:List GObj} {kind:Int} {l:List ByteArray}:refErr m kind 0 l=0↔refsOk m kind l:=by
 rw [refErr_zero]
 simp only [refsOk,Nat.zero_add]
theorem closed_iff {m:List GObj}:closedB m=true↔gMap m=true∧∀ o,o∈m→refsOk m o.kind o.refs:=by
 rw [closedB,Bool.and_eq_true,List.all_eq_true]
 constructor
 ·rintro⟨h1,h2⟩
  exact⟨h1,fun o ho=>refErr_ok.1 (of_decide_eq_true (h2 o ho))⟩
 rintro⟨h1,h2⟩
 exact⟨h1,fun o ho=>decide_eq_true (refErr_ok.2 (h2 o ho))⟩
end
section
theorem kindOf_with {m:List GObj} (o:GObj) (s:ByteArray) (hu:ups m):kindOf (gWith m o) s=if s=o.id then some o.kind else kindOf m s:=by
 rw [kindOf_look,look_with o s hu]
 split<;>rfl
theorem kindOf_wo {m:List GObj} {id:ByteArray} (s:ByteArray) (hu:ups m) (hf:hasK GObj.id m id=true):kindOf (gWo m id) s=if s=id then none else kindOf m s:=by
 rw [kindOf_look,look_wo s hu hf]
 split<;>rfl
theorem closed_with {m:List GObj} {o:GObj} (hc:closedB m=true) (hg:gMap (gWith m o)=true) (hr:refsOk m o.kind o.refs) (hk:∀ k,kindOf m o.id=some k→k=o.kind):closedB (gWith m o)=true:=by
 obtain ⟨h1,h2⟩:=closed_iff.1 hc
 have hu:=(gMap_iff.1 h1).2.1
 have hkk:∀ s k,kindOf m s=some k→kindOf (gWith m o) s=some k:=fun s k hs=>by
  rw [kindOf_with o s hu]
  split
  ·next e=>subst e;rw [hk k hs]
  exact hs
 refine closed_iff.2 ⟨hg,fun x hx i s hs=>?_⟩
 rcases(gWith_mem_iff hu).1 hx with rfl|⟨hx,_⟩
 ·exact hkk s _ (hr i s hs)
 exact hkk s _ (h2 x hx i s hs)
theorem closed_wo {m:List GObj} {id:ByteArray} (hc:closedB m=true) (hf:hasK GObj.id m id=true) (hr:∀ x,x∈m→x.id≠id→∀ s,s∈x.refs→s≠id):closedB (gWo m id)=true:=by
 obtain ⟨h1,h2⟩:=closed_iff.1 hc
 have hu:=(gMap_iff.1 h1).2.1
 refine closed_iff.2 ⟨gMap_sub h1 (gWo_sub m id),fun x hx i s hs=>?_⟩
 have hxm:=(gWo_sub m id).subset hx
 have hxn:x.id≠id:=fun e=>by
  have h3:=look_wo x.id hu hf
  rw [if_pos e] at h3
  exact look_none.1 h3 x hx rfl
 rw [kindOf_wo s hu hf,if_neg (hr x hxm hxn s (List.mem_of_getElem? hs))]
 exact h2 x hxm i s hs
theorem putAll_ok:∀ {l m:List GObj},gMap m=true→(putAll m l).2=0→gMap (putAll m l).1=true∧(putAll m l).1=l.foldl gWith m∧(∀ o,o∈l→gObj o=true)
 | [],m,hg,_=>⟨hg,rfl,fun o ho=>by cases ho⟩
 | o::l,m,hg,h=>by
  rw [putAll] at h ⊢
  by_cases h0:(gPutM m o).2=0
  ·rw [if_neg (by simp [h0])] at h ⊢
   obtain ⟨g1,g2,g3,g4⟩:=gPutM_len h0
   rw [g3] at h ⊢
   obtain ⟨q1,q2,q3⟩:=putAll_ok (gMap_with g1 g2 g4) h
   exact⟨q1,q2,fun x hx=>by
    rcases List.mem_cons.1 hx with rfl|hx
    ·exact g2
    exact q3 x hx⟩
  rw [if_pos (by simp [h0])] at h
  exact absurd h h0
theorem gDropM_ok {m:List GObj} {id:ByteArray} (h:(gDropM m id).2=0):gMap m=true∧hasK GObj.id m id=true∧(gDropM m id).1=gWo m id:=by
 unfold gDropM at h ⊢
 by_cases h1:gMap m=true
 ·rw [if_neg (by simp [h1])] at h ⊢
  by_cases h2:hasK GObj.id m id=true
  ·rw [if_neg (by simp [h2])]
   exact⟨h1,h2,rfl⟩
  rw [if_pos (by simpa using h2)] at h;cases h
 rw [if_pos (by simpa using h1)] at h;cases h
/-- The map behind objects that are put and an Id that is dropped. -/
def gTo (m:List GObj) (put:List GObj) (drop:ByteArray):List GObj:=if drop=sNil then put.foldl gWith m else gWo (put.foldl gWith m) drop
theorem after_ok {m:List GObj} {e:GEdit} (hg:gMap m=true) (h:(gAfter m e).2=0) :
  gEditV e=true∧(gPerform m e).err=0∧(gAfter m e).1=gTo m (gPerform m e).put (gPerform m e).drop∧gMap ((gPerform m e).put.foldl gWith m)=true∧(∀ o,o∈(gPerform m e).put→gObj o=true) ∧
   ((gPerform m e).drop=sNil∨hasK GObj.id ((gPerform m e).put.foldl gWith m) (gPerform m e).drop=true):=by
 unfold gAfter at h ⊢
 by_cases h1:gEditV e=true
 ·rw [if_neg (by simp [h1])] at h ⊢
  by_cases h2:(gPerform m e).err=0
  ·rw [if_neg (by simp [h2])] at h ⊢
   by_cases h3:(putAll m (gPerform m e).put).2=0
   ·rw [if_neg (by simp [h3])] at h ⊢
    obtain ⟨p1,p2,p3⟩:=putAll_ok hg h3
    rw [p2] at h p1 ⊢
    by_cases h4:(gPerform m e).drop=sNil
    ·rw [if_neg (by simp [h4])] at h ⊢
     exact⟨h1,h2,by rw [gTo,if_pos h4],p1,p3,.inl h4⟩
    rw [if_pos (by simp [h4])] at h ⊢
    obtain ⟨d1,d2,d3⟩:=gDropM_ok h
    exact⟨h1,h2,by rw [gTo,if_neg h4];exact d3,p1,p3,.inr d2⟩
   rw [if_pos (by simp [h3])] at h
   exact absurd h h3
  rw [if_pos (by simp [h2])] at h
  exact absurd h h2
 rw [if_pos (by simpa using h1)] at h;cases h
theorem gWanted_low {kind i:Int} (h:kind≤3):gWanted kind i=1:=by
 rw [gWanted,if_neg]
 simp only [Bool.or_eq_true,Bool.and_eq_true,decide_eq_true_eq]
 omega
theorem gRefd_false {m:List GObj} {routes:Bool} {ids:List ByteArray} (h:gRefd m routes ids=false) {x:GObj} (hx:x∈m) (hk:routes=false∨4≤x.kind) {s:ByteArray} (hs:s∈x.refs):s∉ids:=by
 intro hin
 have:gRefd m routes ids=true:=by
  rw [gRefd,List.any_eq_true]
  refine⟨x,hx,?_⟩
  rw [refsTo,Bool.and_eq_true,Bool.or_eq_true,List.any_eq_true]
  refine⟨?_,s,hs,inB_iff.2 hin⟩
  rcases hk with hk|hk
  ·left;rw [hk];rfl
  right;exact decide_eq_true hk
 rw [h] at this;cases this
/-- What a possible edit leads to, by operations. -/
inductive Eff (m:List GObj) (e:GEdit):List GObj→Prop
 | put (ho:e.op=1) (hn:look m e.obj.id=none) (hr:refsOk m e.obj.kind e.obj.refs) (hg:gObj e.obj=true) (hm:gMap (gWith m e.obj)=true):Eff m e (gWith m e.obj)
 | move (o:GObj) (ho:e.op=2) (hl:look m e.id=some o) (hk:o.kind=1) (hg:gObj ⟨o.id,o.kind,e.x,e.y,o.refs,o.tags⟩=true) (hm:gMap (gWith m ⟨o.id,o.kind,e.x,e.y,o.refs,o.tags⟩)=true):Eff m e (gWith m ⟨o.id,o.kind,e.x,e.y,o.refs,o.tags⟩)
 | tag (o:GObj) (ho:e.op=3) (hl:look m e.id=some o) (hs:(gSet o.tags e.key e.val).2=0) (hg:gObj ⟨o.id,o.kind,o.x,o.y,o.refs,(gSet o.tags e.key e.val).1⟩=true) (hm:gMap (gWith m ⟨o.id,o.kind,o.x,o.y,o.refs,(gSet o.tags e.key e.val).1⟩)=true):Eff m e (gWith m ⟨o.id,o.kind,o.x,o.y,o.refs,(gSet o.tags e.key e.val).1⟩)
 | refs (o:GObj) (ho:e.op=4) (hl:look m e.id=some o) (hk:o.kind=2∨o.kind=3∨o.kind=4) (hr:refsOk m o.kind e.refs) (hg:gObj ⟨o.id,o.kind,o.x,o.y,e.refs,o.tags⟩=true) (hm:gMap (gWith m ⟨o.id,o.kind,o.x,o.y,e.refs,o.tags⟩)=true):Eff m e (gWith m ⟨o.id,o.kind,o.x,o.y,e.refs,o.tags⟩)
 | drop (o:GObj) (ho:e.op=5) (hl:look m e.id=some o) (hr:gRefd m false [e.id]=false):Eff m e (gWo m e.id)
 | split (o:GObj) (k:Nat) (ho:e.op=6) (hl:look m e.id=some o) (hk:o.kind=2) (hn:look m e.other=none) (hi:gInner o.refs e.node=(k:Int)) (hr:gRefd m true [e.id]=false)
   (hm:gMap (gWith (gWith m ⟨o.id,o.kind,o.x,o.y,o.refs.take (k+1),o.tags⟩) ⟨e.other,2,0,0,o.refs.drop k,o.tags⟩)=true):Eff m e (gWith (gWith m ⟨o.id,o.kind,o.x,o.y,o.refs.take (k+1),o.tags⟩) ⟨e.other,2,0,0,o.refs.drop k,o.tags⟩)
 | join (o x:GObj) (ho:e.op=7) (hl:look m e.id=some o) (hk:o.kind=2) (hx:look m e.other=some x) (hk2:x.kind=2) (hne:e.id≠e.other) (he:atS o.refs (o.refs.length - 1)=atS x.refs 0) (hr:gRefd m true [e.id,e.other]=false)
   (hlen:o.refs.length+x.refs.length - 1≤2000) (hm:gMap (gWith m ⟨o.id,o.kind,o.x,o.y,o.refs++x.refs.drop 1,o.tags⟩)=true):Eff m e (gWo (gWith m ⟨o.id,o.kind,o.x,o.y,o.refs++x.refs.drop 1,o.tags⟩) e.other)
theorem eff_of {m:List GObj} {e:GEdit} (hg:gMap m=true) (h:(gAfter m e).2=0):gEditV e=true∧Eff m e (gAfter m e).1:=by
 obtain ⟨a1,a2,a3,a4,a5,a6⟩:=after_ok hg h
 refine⟨a1,?_⟩
 rw [a3]
 obtain ⟨⟨o1,o2⟩,b2,b3⟩:=gEditV_iff.1 a1
 have hu:=(gMap_iff.1 hg).2.1
 have herr:∀ n:Int,n≠0→(errR n).err≠0:=fun n hn=>hn
 unfold gPerform at a2 a4 a5 a6 ⊢
 split at a2
 ·next ho =>
  rw [if_pos ho] at a4 a5 a6 ⊢
  split at a2
  ·exact absurd a2 (by decide)
  next hk =>
  rw [if_neg hk] at a4 a5 a6 ⊢
  refine Eff.put ho ?_ (refErr_ok.1 a2) (a5 _ List.mem_cons_self) a4
  cases hl:look m e.obj.id with
  | none=>rfl
  | some x=>rw [kindOf_look,hl] at hk;exact absurd rfl hk
 next ho =>
 rw [if_neg ho] at a4 a5 a6 ⊢
 split at a2
 ·exact absurd a2 (by decide)
 next o hl =>
 simp only [hl] at a4 a5 a6 ⊢
 split at a2
 ·exact absurd a2 (by decide)
 next h7 =>
 rw [if_neg h7] at a4 a5 a6 ⊢
 split at a2
 ·exact absurd a2 (by decide)
 next hfit =>
 rw [if_neg hfit] at a4 a5 a6 ⊢
 rw [Bool.not_eq_true,Bool.not_eq_false'] at hfit
 split at a2
 ·next h2 =>
  rw [if_pos h2] at a4 a5 a6 ⊢
  rw [h2] at hfit
  exact Eff.move o h2 hl (by simpa [fitsB] using hfit) (a5 _ List.mem_cons_self) a4
 next h2 =>
 rw [if_neg h2] at a4 a5 a6 ⊢
 split at a2
 ·next h3 =>
  rw [if_pos h3] at a4 a5 a6 ⊢
  split at a2
  ·next hs =>
   have hs':¬ (gSet o.tags e.key e.val).2=0:=by simpa using hs
   exact absurd a2 hs'
  next hs =>
  rw [if_neg hs] at a4 a5 a6 ⊢
  exact Eff.tag o h3 hl (by simpa using hs) (a5 _ List.mem_cons_self) a4
 next h3 =>
 rw [if_neg h3] at a4 a5 a6 ⊢
 split at a2
 ·next h4 =>
  rw [if_pos h4] at a4 a5 a6 ⊢
  split at a2
  ·exact absurd a2 (by decide)
  next hgo =>
  rw [if_neg hgo] at a4 a5 a6 ⊢
  rw [h4] at hfit
  exact Eff.refs o h4 hl (by simpa [fitsB] using hfit) (refErr_ok.1 a2) (a5 _ List.mem_cons_self) a4
 next h4 =>
 rw [if_neg h4] at a4 a5 a6 ⊢
 split at a2
 ·next h5 =>
  rw [if_pos h5] at a4 a5 a6 ⊢
  split at a2
  ·exact absurd a2 (by decide)
  next hr =>
  rw [if_neg hr] at a4 a5 a6 ⊢
  have hne:e.id≠sNil:=by
   rw [okOf,if_neg (by omega),Bool.and_eq_true] at b2
   exact gName_ne b2.1
  rw [gTo,if_neg hne]
  exact Eff.drop o h5 hl (by simpa using hr)
 next h5 =>
 rw [if_neg h5] at a4 a5 a6 ⊢
 split at a2
 ·next h6 =>
  rw [if_pos h6] at a4 a5 a6 ⊢
  rw [h6] at hfit
  unfold gSplit at a2 a4 a5 a6 ⊢
  split at a2
  ·exact absurd a2 (by decide)
  next hk =>
  rw [if_neg hk] at a4 a5 a6 ⊢
  split at a2
  ·exact absurd a2 (by decide)
  next hi =>
  rw [if_neg hi] at a4 a5 a6 ⊢
  split at a2
  ·exact absurd a2 (by decide)
  next hr =>
  rw [if_neg hr] at a4 a5 a6 ⊢
  rcases gInner_lt (l:=o.refs) (node:=e.node)with h|⟨k,h,_⟩
  ·rw [h] at hi;exact absurd rfl hi
  rw [h] at a4 a5 a6 ⊢
  refine Eff.split o k h6 hl (by simpa [fitsB] using hfit) ?_ h (by simpa using hr) a4
  cases hl2:look m e.other with
  | none=>rfl
  | some x=>rw [kindOf_look,hl2] at hk;exact absurd rfl hk
 next h6 =>
 rw [if_neg h6] at a4 a5 a6 ⊢
 have h77:e.op=7:=by omega
 rw [h77] at hfit
 cases hl2:look m e.other with
 | none =>
  have hl2':m.find? (idIs e.other)=none:=hl2
  rw [h77,hl2'] at h7;exact absurd rfl h7
 | some x =>
  have hl2':m.find? (idIs e.other)=some x:=hl2
  simp only [hl2',Option.getD_some] at a2 a4 a5 a6 ⊢
  unfold gJoin at a2 a4 a5 a6 ⊢
  split at a2
  ·exact absurd a2 (by decide)
  next hk =>
  rw [if_neg hk] at a4 a5 a6 ⊢
  split at a2
  ·exact absurd a2 (by decide)
  next hi =>
  rw [if_neg hi] at a4 a5 a6 ⊢
  split at a2
  ·exact absurd a2 (by decide)
  next hr =>
  rw [if_neg hr] at a4 a5 a6 ⊢
  split at a2
  ·exact absurd a2 (by decide)
  next hlen =>
  rw [if_neg hlen] at a4 a5 a6 ⊢
  have hne:e.other≠sNil:=by
   rw [okOf,if_neg (by omega),Bool.and_eq_true,if_neg (by omega),if_neg (by omega),if_neg (by omega),if_neg (by omega),if_neg (by omega)] at b2
   exact gName_ne b2.2
  rw [gTo,if_neg hne]
  rw [Bool.not_eq_true,Bool.or_eq_false_iff,decide_eq_false_iff_not,Bool.not_eq_false',decide_eq_true_eq] at hi
  have hfl:[o.refs,x.refs.drop 1].flatten=o.refs++x.refs.drop 1:=by simp
  simp only [hfl] at a4 ⊢
  exact Eff.join o x h77 hl (by simpa [fitsB] using hfit) hl2 (by simpa using hk) hi.1 hi.2 (by simpa using hr) (by simpa using hlen) a4
theorem gObj_kind {o:GObj} (h:gObj o=true):1≤o.kind∧o.kind≤5:=by
 rw [gObj,Bool.and_eq_true,Bool.not_eq_true',gHead,gHeadN] at h
 have h1:=h.1
 simp only [Bool.or_eq_false_iff,decide_eq_false_iff_not] at h1
 have hw:=h1.1.1.1.1
 unfold gWord at hw
 by_cases a:o.kind=1
 ·omega
 by_cases b:o.kind=2
 ·omega
 by_cases c:o.kind=3
 ·omega
 by_cases d:o.kind=4
 ·omega
 by_cases f:o.kind=5
 ·omega
 rw [if_neg a,if_neg b,if_neg c,if_neg d,if_neg f] at hw
 exact absurd rfl hw
theorem refsOk_way {m:List GObj} {l:List ByteArray}:refsOk m 2 l↔∀ s,s∈l→kindOf m s=some 1:=by
 constructor
 ·intro h s hs
  obtain ⟨i,hi⟩:=List.mem_iff_getElem?.1 hs
  have:=h i s hi
  rwa [gWanted_low (by decide)] at this
 intro h i s hs
 rw [gWanted_low (by decide)]
 exact h s (List.mem_of_getElem? hs)
theorem kind_of_look {m:List GObj} {s:ByteArray} {o:GObj} (h:look m s=some o):kindOf m s=some o.kind:=by rw [kindOf_look,h];rfl
theorem closed_at {m:List GObj} {s:ByteArray} {o:GObj} (hc:closedB m=true) (h:look m s=some o):refsOk m o.kind o.refs:=(closed_iff.1 hc).2 o (look_mem h)
theorem same_kind {m:List GObj} {s:ByteArray} {o:GObj} (h:look m s=some o):∀ k,kindOf m o.id=some k→k=o.kind:=fun k hk=>by
 rw [look_id h,kind_of_look h] at hk
 exact(Option.some.inj hk).symm
/-- Closed maps stay closed. -/
theorem eff_closed {m m':List GObj} {e:GEdit} (hc:closedB m=true) (h:Eff m e m'):closedB m'=true:=by
 have hg:=closed_gMap hc
 have hu:=(gMap_iff.1 hg).2.1
 cases h with
 | put ho hn hr hgo hm=>exact closed_with hc hm hr (fun k hk=>by rw [kindOf_look,hn] at hk;cases hk)
 | move o ho hl hk hgo hm=>exact closed_with hc hm (show refsOk m o.kind o.refs from closed_at hc hl) (fun k hk=>same_kind hl k hk)
 | tag o ho hl hs hgo hm=>exact closed_with hc hm (show refsOk m o.kind o.refs from closed_at hc hl) (fun k hk=>same_kind hl k hk)
 | refs o ho hl hk hr hgo hm=>exact closed_with hc hm hr (fun k hk=>same_kind hl k hk)
 | drop o ho hl hr =>
  refine closed_wo hc (by rw [hasK_look,hl];rfl) (fun x hx _ s hs e1=>?_)
  exact gRefd_false hr hx (.inl rfl) hs (by rw [e1];exact List.mem_singleton.2 rfl)
 | split o k ho hl hk hn hi hr hm =>
  have ha:=closed_at hc hl
  rw [hk] at ha
  have hu1:=gWith_ups (o:=⟨o.id,o.kind,o.x,o.y,o.refs.take (k+1),o.tags⟩) hu
  have hid:=look_id hl
  have hne:e.other≠o.id:=fun e1=>by rw [e1,hid,hl] at hn;cases hn
  have hkk:∀ s,kindOf (gWith (gWith m ⟨o.id,o.kind,o.x,o.y,o.refs.take (k+1),o.tags⟩) ⟨e.other,2,0,0,o.refs.drop k,o.tags⟩) s=if s=e.other then some 2 else kindOf m s:=fun s=>by
   rw [kindOf_with _ s hu1,kindOf_with _ s hu]
   split
   ·rfl
   split
   ·next e2=>rw [e2,hid,kind_of_look hl]
   rfl
  have hold:∀ s q,kindOf m s=some q→kindOf (gWith (gWith m ⟨o.id,o.kind,o.x,o.y,o.refs.take (k+1),o.tags⟩) ⟨e.other,2,0,0,o.refs.drop k,o.tags⟩) s=some q:=fun s q hs=>by
   rw [hkk s]
   split
   ·next e2=>rw [e2,kindOf_look,hn] at hs;cases hs
   exact hs
  refine closed_iff.2 ⟨hm,fun x hx i s hs=>?_⟩
  rcases(gWith_mem_iff hu1).1 hx with rfl|⟨hx,_⟩
  ·refine hold s _ ?_
   have hin:s∈o.refs:=List.mem_of_mem_drop (List.mem_of_getElem? hs)
   show kindOf m s=some (gWanted 2 (i:Int))
   rw [gWanted_low (by decide)]
   exact refsOk_way.1 ha s hin
  rcases(gWith_mem_iff hu).1 hx with rfl|⟨hx,_⟩
  ·refine hold s _ ?_
   have hin:s∈o.refs:=List.mem_of_mem_take (List.mem_of_getElem? hs)
   show kindOf m s=some (gWanted o.kind (i:Int))
   rw [hk,gWanted_low (by decide)]
   exact refsOk_way.1 ha s hin
  exact hold s _ ((closed_iff.1 hc).2 x hx i s hs)
 | join o x ho hl hk hx hk2 hne he hr hlen hm =>
  have ha:=closed_at hc hl
  have hb:=closed_at hc hx
  rw [hk] at ha
  rw [hk2] at hb
  have hid:=look_id hl
  have hid2:=look_id hx
  have h1:closedB (gWith m ⟨o.id,o.kind,o.x,o.y,o.refs++x.refs.drop 1,o.tags⟩)=true:=by
   refine closed_with hc hm ?_ (fun k hk=>same_kind hl k hk)
   show refsOk m o.kind (o.refs++x.refs.drop 1)
   rw [hk]
   refine refsOk_way.2 fun s hs=>?_
   rcases List.mem_append.1 hs with h|h
   ·exact refsOk_way.1 ha s h
   exact refsOk_way.1 hb s (List.mem_of_mem_drop h)
  have hother:kindOf m e.other=some 2:=by rw [kind_of_look hx,hk2]
  refine closed_wo h1 ?_ (fun y hy hyn s hs e1=>?_)
  ·rw [hasK_look,look_with _ _ hu,if_neg (by show ¬ e.other=o.id;rw [hid];exact fun e1=>hne e1.symm),hx];rfl
  rcases(gWith_mem_iff hu).1 hy with rfl|⟨hy,_⟩
  ·have hs:s∈o.refs++x.refs.drop 1:=hs
   have:kindOf m s=some 1:=by
    rcases List.mem_append.1 hs with h|h
    ·exact refsOk_way.1 ha s h
    exact refsOk_way.1 hb s (List.mem_of_mem_drop h)
   rw [e1,hother] at this;cases this
  have hyk:=gObj_kind ((gMap_iff.1 hg).1 y hy)
  by_cases hy4:4≤y.kind
  ·exact gRefd_false hr hy (.inr hy4) hs (by rw [e1];simp)
  obtain ⟨i,hi⟩:=List.mem_iff_getElem?.1 hs
  have:=(closed_iff.1 hc).2 y hy i s hi
  rw [gWanted_low (by omega),e1,hother] at this;cases this
theorem after_closed {m:List GObj} {e:GEdit} (hc:closedB m=true) (h:(gAfter m e).2=0):closedB (gAfter m e).1=true:=eff_closed hc (eff_of (closed_gMap hc) h).2
end
section
theorem putAll_okM:∀ {l m:List GObj},okM m→gMap m=true→(∀ o,o∈l→okO o)→(putAll m l).2=0→okM (putAll m l).1
 | [],m,hm,_,_,_=>hm
 | o::l,m,hm,hg,ho,h=>by
  have hl:m.length < 1099511627776:=by have:=(gMap_iff.1 hg).2.2;omega
  rw [putAll] at h ⊢
  by_cases h0:(gPutM m o).2=0
  ·rw [if_neg (by simp [h0])] at h ⊢
   obtain ⟨g1,g2,g3,g4⟩:=gPutM_len h0
   have hok:=(gPutM_ok hm (ho o List.mem_cons_self) hl).1
   rw [g3] at h hok ⊢
   exact putAll_okM hok (gMap_with g1 g2 g4) (fun x hx=>ho x (List.mem_cons_of_mem _ hx)) h
  rw [if_pos (by simp [h0])] at h
  exact absurd h h0
theorem okM_subl {m r:List GObj} (h:okM m) (hs:r.Sublist m):okM r:=⟨by have:=hs.length_le;have:=h.1;omega,fun o ho=>h.2 o (hs.subset ho)⟩
theorem after_okM {m:List GObj} {e:GEdit} (hm:okM m) (hg:gMap m=true) (he:okE e) (h:(gAfter m e).2=0):okM (gAfter m e).1:=by
 have hv:=(after_ok hg h).1
 have hpo:=perf_ok hm hg he hv
 unfold gAfter at h ⊢
 rw [if_neg (by simp [hv])] at h ⊢
 by_cases h2:(gPerform m e).err=0
 ·rw [if_neg (by simp [h2])] at h ⊢
  by_cases h3:(putAll m (gPerform m e).put).2=0
  ·rw [if_neg (by simp [h3])] at h ⊢
   have hok:=putAll_okM hm hg hpo h3
   by_cases h4:(gPerform m e).drop=sNil
   ·rw [if_neg (by simp [h4])]
    exact hok
   rw [if_pos (by simp [h4])] at h ⊢
   rw [(gDropM_ok h).2.2]
   exact okM_subl hok (gWo_sub _ _)
  rw [if_pos (by simp [h3])] at h
  exact absurd h h3
 rw [if_pos (by simp [h2])] at h
 exact absurd h h2
def gAllFrom:List GObj→Nat→List GEdit→List GObj×Int×Int
 | m,_,[]=>(m,-1,0)
 | m,i,e::l=>if !decide ((gAfter m e).2=0)then([],(i:Int),(gAfter m e).2)else gAllFrom (gAfter m e).1 (i+1) l
def gAll (m:List GObj) (l:List GEdit):List GObj×Int×Int:=if closedB m then gAllFrom m 0 l else([],-1,1)
theorem gMap_small {m:List GObj} (h:gMap m=true):m.length < 549755813888:=by have:=(gMap_iff.1 h).2.2;omega
theorem all_c (m:List GObj) (l:List GEdit) (H:Heap) (hm:okM m) (hl:l.length < 549755813888) (he:∀ e,e∈l→okE e) :
  ACalls Tryz.prog 25 [.agg [.pv (slObjs m)],.pv (slEdits l)] H (fun r H'=>r=.tup [.agg [.pv (slObjs (gAll m l).1)],iv (gAll m l).2.1,iv (gAll m l).2.2]∧H'=H):=by
 refine ACalls.pure ?_ (by simp) H
 have hml:(l.map encEdit).length=l.length:=List.length_map _
 rw [gAll]
 cases hcl:closedB m with
 | true =>
  simp only [if_true]
  refine Bd Tryz.func25 rfl Tryz.ntmps25<|Sq<|Rg<|Dd (by exact opd_box (id:=2) rfl rfl rfl rfl rfl)<|Dd (by exact x_alloc (id:=4) rfl zo38 rfl rfl)<|Dd as'<|Dd as'<|Zz<|Sq<|Rg<|Dd (ln' Tryz.isAgg38 Tryz.sizeOf38)<|Dd (by exact opr_call rfl rfl Tryz.call64 rfl (ofF_c m _ hm hcl rfl rfl))<|Dd as'<|Zz<|Sq<|Sq<|Rg<|Dd mv'<|Dd (by exact opd_peq_ref rfl Tryz.underlying109 rfl rfl rfl rfl)<|Zz ?_
  refine Cn (fun hc1=>?_) fun hc1=>?_
  ·cases hc1
  skip
  refine awp_skip<|Sq<|Sq<|Rg<|Dd mv'<|Dd (ll' Tryz.underlying22)<|Dd mv'<|Zz<|awp_block ?_
  refine awp_loop2 (fun(k:Nat) (mk:List GObj)=>([(4,.ref 4 0 0 0),(7,.ref 14 0 0 0),(17,.pv (slEdits l)),(18,iv ((l.map encEdit).length:Int)),(19,iv (k:Int))],[(14,cRow mk),(12,kob mk),(4,bx 1 38 [lv []])])) (fun k mk=>k≤l.length∧okM mk∧closedB mk=true∧gAllFrom m 0 l=gAllFrom mk k (l.drop k)) (fun k mk=>l.length - k) 0 m ⟨by omega,hm,hcl,rfl⟩ ?_ ?_
  ·exact(Ent.wk (Ea<|Ea<|Eb<|Eb<|Eb<|trivial) (Ha<|Hc (kob_clo _ _)<|Hb<|trivial) trivial)
  rintro k mk ⟨hk,hmk,hck,hinv⟩
  have hgk:=closed_gMap hck
  have hmkl:=gMap_small hgk
  refine Sq<|Rg<|Dd lss'<|Zz<|Sq ?_
  refine Cn (fun hc2=>?_) fun hc2=>?_
  ·have hlt:k < l.length:=by have:=of_decide_eq_true hc2;omega
   obtain ⟨e,hel⟩:=get_of_lt hlt
   have hi:=map_get (f:=encEdit) hel
   have hee:=he e (List.mem_of_getElem? hel)
   have hdr:l.drop k=e::l.drop (k+1):=by
    obtain ⟨hl1,he1⟩:=List.getElem?_eq_some_iff.1 hel
    rw [List.drop_eq_getElem_cons hl1,he1]
   rw [hdr,gAllFrom] at hinv
   refine awp_skip<|Sq<|awp_block<|Sq<|Rg<|Dd mv'<|Dd (xp' so22)<|Dd (by exact opd_loadn_pad rfl Tryz.isAgg51 Tryz.sizeOf51 rfl (by omega) (by simp only [Zl,encTag,encObj,encStr,encEdit,encInt];rfl) rfl)<|Dd (by exact x_alloc (id:=9) rfl zo51 rfl rfl)<|Dd as'<|Uu (sa' Tryz.sizeOf51)<|Zz<|Sq<|Rg<|Dd mv'<|Dd (ln' Tryz.isAgg51 Tryz.sizeOf51)<|Dd (by exact opr_call rfl rfl Tryz.call65 rfl (after_c mk e _ rfl rfl hmk hgk hee hmkl))<|Dd mv'<|Dd ex'<|Dd ex'<|Dd (by exact x_alloc (id:=10) rfl zo38 rfl rfl)<|Uu (sa' Tryz.sizeOf38)<|Dd as'<|Zz<|Sq<|Sq<|Rg<|Dd mv'<|Dd ne'<|Zz ?_
   refine Cn (fun hc3=>?_) fun hc3=>?_
   ·rw [if_pos hc3] at hinv
    rw [hinv]
    refine Sq<|Rg<|Dd (bu' bo38)<|Dd mv'<|Dd mv'<|Uu (sa' Tryz.sizeOf38)<|Dd as'<|Dd as'<|Zz<|awp_ret ?_
    refine aret3 (H':=[]) (.inr rfl) rfl (rl' Tryz.isAgg38 Tryz.sizeOf38) (rval_tmp rfl) (rval_tmp rfl) (Fin.wk (r:=.tup [.agg [lv []],iv (k:Int),iv (gAfter mk e).2]) (by simp) trivial trivial) ?_
    exact⟨rfl,rfl⟩
   rw [if_neg (by rw [hc3];simp)] at hinv
   have h0:(gAfter mk e).2=0:=by
    have h:=hc3
    simpa using h
   have hca:=after_closed hck h0
   have hoa:=after_okM hmk hgk hee h0
   refine awp_skip ?_
   refine AWp.ent (E':=[(4,.ref 4 0 0 0),(10,.ref 10 0 0 0),(17,.pv (slEdits l)),(18,iv ((l.map encEdit).length:Int)),(19,iv (k:Int))]) (H':=[(10,bx 1 38 [.pv (slObjs (gAfter mk e).1)]),(4,bx 1 38 [lv []])]) Wk ?_
   refine Rg<|Dd (ln' Tryz.isAgg38 Tryz.sizeOf38)<|Dd (by exact opr_call rfl rfl Tryz.call64 rfl (ofF_c (gAfter mk e).1 _ hoa hca rfl rfl))<|Dd as'<|Zz<|Rg<|Dd ad'<|Dd mv'<|Zz ?_
   exact⟨k+1,(gAfter mk e).1,⟨by omega,hoa,hca,hinv⟩,by omega,(Ent.wk (Ea<|Ea<|Eb<|Eb<|Eb<|trivial) (Ha<|Hc (kob_clo _ _)<|Hb<|trivial) trivial)⟩
  have hge:k=l.length:=by have:=of_decide_eq_false hc2;omega
  subst hge
  rw [List.drop_length,gAllFrom] at hinv
  rw [hinv]
  refine awp_exit<|Sq<|Rg<|Dd mv'<|Dd nc'<|Dd (fr' fo114_0)<|Dd (ln' Tryz.isAgg38 Tryz.sizeOf38)<|Uu (sa' Tryz.sizeOf38)<|Dd as'<|Dd as'<|Zz<|awp_ret ?_
  refine aret3 (H':=[]) (.inr rfl) rfl (rl' Tryz.isAgg38 Tryz.sizeOf38) (rval_tmp rfl) (rval_tmp rfl) (Fin.wk (r:=.tup [.agg [.pv (slObjs mk)],iv (-1),iv 0]) (by simp) trivial trivial) ?_
  exact⟨rfl,rfl⟩
 | false =>
  simp only [Bool.false_eq_true,if_false]
  have hof:=fun H=>ACalls.pure (ofN_c m hm hcl) (by simp) H
  refine Bd Tryz.func25 rfl Tryz.ntmps25<|Sq<|Rg<|Dd (by exact opd_box (id:=2) rfl rfl rfl rfl rfl)<|Dd (by exact x_alloc (id:=4) rfl zo38 rfl rfl)<|Dd as'<|Dd as'<|Zz<|Sq<|Rg<|Dd (ln' Tryz.isAgg38 Tryz.sizeOf38)<|Dd (by exact opr_call rfl rfl Tryz.call64 rfl (hof _))<|Dd as'<|Zz<|Sq<|Sq<|Rg<|Dd mv'<|Dd (by exact opd_peq_nil rfl Tryz.underlying109 rfl rfl)<|Zz ?_
  refine Cn (fun hc1=>?_) fun hc1=>?_
  ·skip
   refine Sq<|Rg<|Dd (bu' bo38)<|Uu (sa' Tryz.sizeOf38)<|Dd as'<|Dd as'<|Zz<|awp_ret ?_
   refine aret3 (H':=[]) (.inr rfl) rfl (rl' Tryz.isAgg38 Tryz.sizeOf38) (rval_tmp rfl) (rval_tmp rfl) (Fin.wk (r:=.tup [.agg [lv []],iv (-1),iv 1]) (by simp) trivial trivial) ?_
   exact⟨rfl,rfl⟩
  cases hc1
end
end Go.Proofs.YtlnfjkdacimblaaGreatDoor
namespace Go.Abs
open Go.Proofs
section
/-- New blocks behind all others. -/
theorem Rel.grown {I:Nat→Prop} {ι:Plc} {H:Heap} {w:World} (os:Array Obj) (hr:Rel I ι H w):Rel I ι H (Sort.grow w os)∧Step I ι H w I ι H (Sort.grow w os):=by
 have hk:∀ b,b < w.heap.size→(Sort.grow w os).heap[b]?=w.heap[b]?:=fun b hb=>by
  show (w.heap++os)[b]?=_
  rw [Array.getElem?_append_left hb]
 have hst:Step I ι H w I ι H (Sort.grow w os):=by
  refine⟨rfl,rfl,rfl,?_,fun a ha _=>?_,fun _ h=>h,fun _ h=>.inl h,fun _ h=>.inl h,fun b hb _=>hk b hb,fun _ o h=>⟨o,h,Nat.le_refl _,fun _=>⟨rfl,rfl,fun _=>Nat.le_refl _⟩⟩⟩
  ·show w.heap.size≤(w.heap++os).size
   simp
  unfold World.frozen?
  rw [hk _ ha]
 refine⟨⟨fun b hb=>?_,fun j o hj=>?_,hr.inj,hst.glob hr⟩,hst⟩
 ·have:=hr.imm b hb
  show b < (w.heap++os).size
  simp;omega
 exact(hr.obj j o hj).keep rfl (fun b c _ hb=>⟨hk b hb,fun h=>h⟩) (fun r _ a _ v hv=>hv.mono hr hst)
def strRows (l:List ByteArray):List (List AV):=l.map fun s=>[.pv (.str s)]
def toU (s:ByteArray):List UInt8:=s.data.toList
def ofU (l:List UInt8):ByteArray:=⟨l.toArray⟩
theorem ofU_toU (s:ByteArray):ofU (toU s)=s:=by
 cases s;simp [ofU,toU]
/-- The texts in order. -/
def sortS (l:List ByteArray):List ByteArray:=((l.map toU).mergeSort fun x y=>decide (x≤y)).map ofU
theorem sortS_length (l:List ByteArray):(sortS l).length=l.length:=by simp [sortS,List.length_mergeSort]
theorem map_toU (l:List ByteArray):(l.map toU).map ofU=l:=by
 rw [List.map_map]
 conv=>rhs;rw [← List.map_id l]
 exact List.map_congr_left fun s _=>ofU_toU s
theorem sortS_perm (l:List ByteArray):(sortS l).Perm l:=by
 have h:=(List.mergeSort_perm (l.map toU) (fun x y=>decide (x≤y))).map ofU
 rw [map_toU] at h
 exact h
theorem heap_putRow {w:World} {b:Nat} {cs:Array Value} {t:TypeId} {f:Nat×Nat} (h:w.heap[b]?=some (.cells cs t f)) (d:Array (List UInt8)):(Sort.putRow Proofs.encStr w b 0 d)=w.setRow b (Sort.putCells Proofs.encStr 0 d cs):=by
 unfold Sort.putRow Sort.mapBlock World.setRow
 congr 1
 apply Array.ext_getElem?
 intro k
 simp only [Array.getElem?_modify]
 by_cases e:b=k
 ·subst e
  simp [h,Sort.onCells]
 simp [e]
theorem sort_c {P:Program} {ρ:Shelf.Ren} (Ly:SlLaysM.n6 P ρ) (ss:List ByteArray) {id g n ty:Nat} {H:Heap} (hH:H.get id=some ⟨g,1,ty,strRows ss⟩) (hn:n=ss.length) (hl:ss.length < 4611686018427387904) :
  ACalls P (ρ.f 6) [.osl id g 0 n] H (fun r H'=>r=.tup []∧H'=(id,⟨g,1,ty,strRows (sortS ss)⟩)::H):=by
 subst hn
 intro I ι w vs hr hvl hv
 obtain ⟨v,rfl⟩:∃ v,vs=#[v]:=by
  match vs,hvl with
  | ⟨[v]⟩,_=>exact⟨v,rfl⟩
 have h1:=hv 0 v _ rfl rfl
 obtain ⟨_,hcase⟩:=osl_slice h1 hH rfl
 have hrowlen:∀ r∈strRows (sortS ss),r.length=1:=fun r hr=>by
  obtain ⟨s,_,rfl⟩:=List.mem_map.1 hr;rfl
 have g1:Heap.get ((id,⟨g,1,ty,strRows (sortS ss)⟩)::H) id=some ⟨g,1,ty,strRows (sortS ss)⟩:=by simp [Heap.get,beq_self]
 have g2:∀ j,j≠id→Heap.get ((id,⟨g,1,ty,strRows (sortS ss)⟩)::H) j=H.get j:=fun j hj=>by simp [Heap.get,beq_ne (Ne.symm hj)]
 rcases hcase with⟨b,cap,oo,c1,c2,c3⟩|⟨c1,c2,_,c4⟩
 ·have hoo:oo=0:=by rw [c3 (.inr rfl)];simp
  subst hoo c2
  have hobj:=(hr.obj id _ hH).cells (Nat.succ_pos 0)
  obtain ⟨p1,p2,⟨b',cap',cs,e1,e2,e3,e4,e5,e5',e6⟩|⟨e1,_⟩⟩:=hobj
  ·rw [c1] at e1;cases e1
   simp only [Nat.mul_one] at e4 e6
   have hlen:(strRows ss).length=ss.length:=by simp [strRows]
   simp only [hlen] at e5
   have hcs:∀ (i:Nat) (s:ByteArray),ss[i]?=some s→cs[i]?=some (.string s):=fun i s hs=>by
    obtain ⟨u,q1,q2,q3⟩:=e6 i [.pv (.str s)] (by rw [strRows,List.getElem?_map,hs];rfl) 0 _ rfl
    rw [q3.str_inv] at q1
    exact q1
   have hholds:Sort.Holds Proofs.encStr w b 0 (ss.map toU).toArray:=by
    intro j hj
    simp only [List.size_toArray,List.length_map] at hj
    refine⟨?_,?_⟩
    ·have:=hcs j _ (List.getElem?_eq_getElem hj)
     rw [Nat.zero_add]
     simp only [World.cell?,e2,this]
     congr 1
     rw [getElem!_pos _ _ (by simpa using hj)]
     simp only [List.getElem_toArray,List.getElem_map]
     show some (Value.string ss[j])=some (Value.string (ofU (toU ss[j])))
     rw [ofU_toU]
    simp [World.frozen?,e2]
   have hrun:=AnyM.slices_Sort_string Ly b 0 (cap - 0) (ss.map toU) w hholds (Array.getElem?_eq_some_iff.1 e2).1 (by rw [List.length_map];exact hl)
   rw [List.length_map] at hrun
   refine hrun.mono ?_
   rintro e w' ⟨rfl,n,os,rfl⟩
   obtain ⟨k1,k2⟩:=Rel.drawn (w':=Sort.ahead w n) hr rfl rfl rfl rfl
   have e2':(Sort.ahead w n).heap[b]?=some (.cells cs ty (0,0)):=e2
   rw [heap_putRow e2']
   obtain ⟨m1,m2⟩:=Rel.update (H':=(id,⟨g,1,ty,strRows (sortS ss)⟩)::H) (ob':=⟨g,1,ty,strRows (sortS ss)⟩) (cs':=Sort.putCells Proofs.encStr 0 ((ss.map toU).mergeSort fun x y=>decide (x≤y)).toArray cs) k1 hH c1 e2' (Nat.le_refl _) rfl rfl
    (fun _=>by simp [strRows,sortS_length]) (by rw [Sort.putCells];simp;omega) (by simp only [strRows,List.length_map,sortS_length];omega) hrowlen (fun i r hi k a hk=>by
     rw [strRows,List.getElem?_map] at hi
     obtain ⟨s,hs,rfl⟩:=Option.map_eq_some_iff.1 hi
     cases k with
     | succ k=>simp at hk
     | zero =>
      cases hk
      have hil:=(List.getElem?_eq_some_iff.1 hs).1
      rw [sortS_length] at hil
      have hics:i < cs.size:=by omega
      refine⟨.string s,?_,rfl,.pv (.str s)⟩
      rw [Nat.mul_one,Nat.add_zero,Sort.putCells,Array.getElem?_mapIdx,Array.getElem?_eq_getElem hics,Option.map_some]
      have hsz:i < ((ss.map toU).mergeSort fun x y=>decide (x≤y)).length:=by rw [List.length_mergeSort,List.length_map];exact hil
      rw [if_pos ⟨Nat.zero_le _,by simpa using hsz⟩]
      congr 1
      rw [Nat.sub_zero,getElem!_pos _ _ (by simpa using hsz)]
      rw [sortS,List.getElem?_map] at hs
      obtain ⟨u,hu,rfl⟩:=Option.map_eq_some_iff.1 hs
      simp only [List.getElem_toArray]
      rw [(List.getElem?_eq_some_iff.1 hu).2]
      rfl) g1 g2
   obtain ⟨n1,n2⟩:=Rel.grown os m1
   exact⟨_,_,I,ι,.tuple #[],rfl,⟨rfl,rfl⟩,.tup rfl (by simp),n1,(k2.trans m2).trans n2⟩
  rw [c1] at e1;cases e1
 subst c2
 have h0:ss=[]:=List.eq_nil_of_length_eq_zero c4
 subst h0
 refine(AnyM.slices_Sort_string_none Ly none 0 w).mono ?_
 rintro e w' ⟨rfl,rfl⟩
 have hg:∀ j,Heap.get ((id,⟨g,1,ty,strRows (sortS [])⟩)::H) j=H.get j:=fun j=>by
  by_cases e:j=id
  ·subst e
   rw [g1,hH,show sortS []=[] by simp [sortS]]
  exact g2 j e
 obtain ⟨k1,k2⟩:=hr.congr hg
 exact⟨_,_,I,ι,.tuple #[],rfl,⟨rfl,rfl⟩,.tup rfl (by simp),k1,k2⟩
end
end Go.Abs
section
namespace Go.Proofs
open Go.RowKit Go.Sort Go.Shelf
def Tryz.sortStr_ren:Go.Shelf.Ren:=⟨fun|6=>98|8=>153|9=>152|19=>200|20=>201|21=>191|22=>192|23=>193|24=>194|25=>195|26=>196|27=>197|28=>198|29=>199|36=>236|31=>237|32=>238|37=>239|38=>240|39=>241|41=>257|n=>n,fun|27=>46|29=>9|3=>3|32=>186|26=>46|0=>0|44=>233|46=>235|4=>4|36=>227|35=>226|41=>83|5=>5|9=>9|53=>263|57=>267|63=>282|64=>283|n=>n,fun|n=>n⟩
theorem Tryz.sortStr:Go.Proofs.SlLaysM.n6 Tryz.prog Tryz.sortStr_ren:={
  mixed:=by kernel_rfl
  f6:=⟨Tryz.f98.name,by decide,Tryz.func98.trans (congrArg some (by kernel_rfl))⟩
  f8:=Tryz.func153.trans (congrArg some (by kernel_rfl))
  f9:=⟨Tryz.f152.name,by decide,Tryz.func152.trans (congrArg some (by kernel_rfl))⟩
  f19:=Tryz.func200.trans (congrArg some (by kernel_rfl))
  f20:=Tryz.func201.trans (congrArg some (by kernel_rfl))
  f21:=⟨Tryz.f191.name,by decide,Tryz.func191.trans (congrArg some (by kernel_rfl))⟩
  f22:=⟨Tryz.f192.name,by decide,Tryz.func192.trans (congrArg some (by kernel_rfl))⟩
  f23:=⟨Tryz.f193.name,by decide,Tryz.func193.trans (congrArg some (by kernel_rfl))⟩
  f24:=⟨Tryz.f194.name,by decide,Tryz.func194.trans (congrArg some (by kernel_rfl))⟩
  f25:=⟨Tryz.f195.name,by decide,Tryz.func195.trans (congrArg some (by kernel_rfl))⟩
  f26:=⟨Tryz.f196.name,by decide,Tryz.func196.trans (congrArg some (by kernel_rfl))⟩
  f27:=⟨Tryz.f197.name,by decide,Tryz.func197.trans (congrArg some (by kernel_rfl))⟩
  f28:=⟨Tryz.f198.name,by decide,Tryz.func198.trans (congrArg some (by kernel_rfl))⟩
  f29:=⟨Tryz.f199.name,by decide,Tryz.func199.trans (congrArg some (by kernel_rfl))⟩
  f31:=Tryz.func237.trans (congrArg some (by kernel_rfl))
  f32:=Tryz.func238.trans (congrArg some (by kernel_rfl))
  f36:=⟨Tryz.f236.name,by decide,Tryz.func236.trans (congrArg some (by kernel_rfl))⟩
  f37:=⟨Tryz.f239.name,by decide,Tryz.func239.trans (congrArg some (by kernel_rfl))⟩
  f38:=⟨Tryz.f240.name,by decide,Tryz.func240.trans (congrArg some (by kernel_rfl))⟩
  f39:=⟨Tryz.f241.name,by decide,Tryz.func241.trans (congrArg some (by kernel_rfl))⟩
  f41:=⟨Tryz.f257.name,by decide,Tryz.func257.trans (congrArg some (by kernel_rfl))⟩
  t0:=Tryz.underlying0
  a0:=Tryz.isAgg0
  z0:=Tryz.sizeOf0
  v0:=Tryz.zeroValue0
  t3:=Tryz.underlying3
  a3:=Tryz.isAgg3
  z3:=Tryz.sizeOf3
  v3:=Tryz.zeroValue3
  t4:=Tryz.underlying4
  a4:=Tryz.isAgg4
  z4:=Tryz.sizeOf4
  v4:=Tryz.zeroValue4
  t5:=Tryz.underlying5
  a5:=Tryz.isAgg5
  z5:=Tryz.sizeOf5
  v5:=Tryz.zeroValue5
  t9:=Tryz.underlying9
  a9:=Tryz.isAgg9
  z9:=Tryz.sizeOf9
  v9:=Tryz.zeroValue9
  t26:=Tryz.underlying46
  a26:=Tryz.isAgg46
  z26:=Tryz.sizeOf46
  v26:=Tryz.zeroValue46
  t27:=Tryz.underlying46
  a27:=Tryz.isAgg46
  z27:=Tryz.sizeOf46
  v27:=Tryz.zeroValue46
  t29:=Tryz.underlying9
  a29:=Tryz.isAgg9
  z29:=Tryz.sizeOf9
  v29:=Tryz.zeroValue9
  t32:=Tryz.underlying186
  a32:=Tryz.isAgg186
  z32:=Tryz.sizeOf186
  v32:=Tryz.zeroValue186
  t35:=Tryz.underlying226
  a35:=Tryz.isAgg226
  z35:=Tryz.sizeOf226
  v35:=Tryz.zeroValue226
  t36:=Tryz.underlying227
  a36:=Tryz.isAgg227
  z36:=Tryz.sizeOf227
  v36:=Tryz.zeroValue227
  t41:=Tryz.underlying83
  a41:=Tryz.isAgg83
  z41:=Tryz.sizeOf83
  v41:=Tryz.zeroValue83
  t44:=Tryz.underlying233
  a44:=Tryz.isAgg233
  z44:=Tryz.sizeOf233
  v44:=Tryz.zeroValue233
  t46:=Tryz.underlying235
  a46:=Tryz.isAgg235
  z46:=Tryz.sizeOf235
  v46:=Tryz.zeroValue235
  t53:=Tryz.underlying263
  a53:=Tryz.isAgg263
  z53:=Tryz.sizeOf263
  v53:=Tryz.zeroValue263
  t57:=Tryz.underlying267
  a57:=Tryz.isAgg267
  z57:=Tryz.sizeOf267
  v57:=Tryz.zeroValue267
  t63:=Tryz.underlying282
  a63:=Tryz.isAgg282
  z63:=Tryz.sizeOf282
  v63:=Tryz.zeroValue282
  t64:=Tryz.underlying283
  a64:=Tryz.isAgg283
  z64:=Tryz.sizeOf283
  v64:=Tryz.zeroValue283}
end Go.Proofs
namespace Go.Proofs.YtlnfjkdacimblaaGreatDoor
open Go.Abs
theorem sortStr_c (ss:List ByteArray) {id g n ty:Nat} {H:Heap} (hH:H.get id=some ⟨g,1,ty,strRows ss⟩) (hn:n=ss.length) (hl:ss.length < 4611686018427387904) :
  ACalls Tryz.prog 98 [.osl id g 0 n] H (fun r H'=>r=.tup []∧H'=(id,⟨g,1,ty,strRows (sortS ss)⟩)::H):=sort_c Tryz.sortStr ss hH hn hl
theorem nodup_le:∀ (n:Nat) (l:List Nat),l.Nodup→(∀ i∈l,i < n)→l.length≤n
 | 0,l,_,h=>by
  cases l with
  | nil=>simp
  | cons a l=>have:=h a (by simp);omega
 | n+1,l,hd,h=>by
  by_cases e:n∈l
  ·have h1:=nodup_le n (l.erase n) (hd.erase n) (fun i hi=>by
    rw [hd.mem_erase_iff] at hi
    have:=h i hi.2
    omega)
   rw [List.length_erase_of_mem e] at h1
   have:=List.length_pos_of_mem e
   omega
  have:=nodup_le n l hd (fun i hi=>by
   have h2:=h i hi
   have:i≠n:=fun e2=>e (e2▸hi)
   omega)
  omega
/-- What has come of a list, by places. -/
def pick (L:List ByteArray) (seen:List Nat):List ByteArray:=seen.map fun i=>(L[i]?).getD ⟨#[]⟩
theorem pick_all {L:List ByteArray} {seen:List Nat} (hd:seen.Nodup) (h1:∀ i∈seen,i < L.length) (h2:∀ i,i < L.length→i∈seen):(pick L seen).Perm L:=by
 have hp:seen.Perm (List.range L.length):=(List.perm_ext_iff_of_nodup hd List.nodup_range).2 fun a=>⟨fun h=>List.mem_range.2 (h1 a h),fun h=>h2 a (List.mem_range.1 h)⟩
 have h3:=hp.map (fun i=>(L[i]?).getD ⟨#[]⟩)
 have h4:(List.range L.length).map (fun i=>(L[i]?).getD ⟨#[]⟩)=L:=by
  apply List.ext_getElem
  ·simp
  intro i h5 h6
  simp [h6]
 rw [h4] at h3
 exact h3
theorem u8_le_total (a b:List UInt8):decide (a≤b)||decide (b≤a):=by
 rcases List.le_total a b with h|h<;>simp [h]
theorem sortS_eq {a b:List ByteArray} (h:a.Perm b):sortS a=sortS b:=by
 unfold sortS
 congr 1
 have hs:∀ l:List ByteArray,((l.map toU).mergeSort fun x y=>decide (x≤y)).Pairwise (fun x y=>decide (x≤y)=true):=fun l =>
  List.pairwise_mergeSort (le:=fun(x y:List UInt8)=>decide (x≤y)) (fun a b c h1 h2=>decide_eq_true (List.le_trans (of_decide_eq_true h1) (of_decide_eq_true h2))) u8_le_total _
 exact List.Perm.eq_of_pairwise (fun x y _ _ h3 h4=>List.le_antisymm (of_decide_eq_true h3) (of_decide_eq_true h4)) (hs a) (hs b) (((List.mergeSort_perm _ _).trans (h.map toU)).trans (List.mergeSort_perm _ _).symm)
end Go.Proofs.YtlnfjkdacimblaaGreatDoor
end
namespace Go.Proofs.YtlnfjkdacimblaaGreatDoor
open Go.Abs
section
theorem sobN_clo (l:List ByteArray) (H:Heap):∀ r∈(sob l).rows,∀ a∈r,Clo H a:=by
 intro r hr a ha
 obtain ⟨i,hi⟩:=List.mem_iff_getElem?.1 hr
 obtain ⟨p,hp,rfl⟩:=mrows_get.1 hi
 simp only [sets,List.getElem?_map] at hp
 obtain ⟨q,_,rfl⟩:=Option.map_eq_some_iff.1 hp
 simp only [List.mem_cons,List.not_mem_nil,or_false] at ha
 rcases ha with rfl|rfl|rfl<;>simp
theorem irowsN_clo {H:Heap} {id g:Nat} (h:(H.get id).isSome=true) (a b:Nat) (l:List Nat):∀ r∈irows (.mp id g) a b l,∀ x∈r,Clo H x:=by
 intro r hr x hx
 rw [irows] at hr
 rcases List.mem_cons.1 hr with rfl|hr
 ·simp only [List.mem_cons,List.not_mem_nil,or_false] at hx
  rcases hx with rfl|rfl|rfl
  ·exact .mp h
  ·exact .pv _
  exact .pv _
 obtain ⟨n,_,rfl⟩:=List.mem_map.1 hr
 rw [List.mem_singleton] at hx
 subst hx
 exact .pv _
theorem rowsN_of {α:Type} (f:α→List PV) (l:List α):l.map (fun e=>(f e).map AV.pv)=(l.map f).map (·.map .pv):=by rw [List.map_map];rfl
theorem lenN_snoc {α:Type} (l:List α) (a:α):l.length+1=(l++[a]).length:=by simp
def addAll (L l:List ByteArray):List ByteArray:=l.foldl sput L
theorem front_get {H:Heap} {id:Nat} {o:Ob} (h:H.get id=some o) (j:Nat):Heap.get ((id,o)::H) j=H.get j:=by
 by_cases e:j=id
 ·subst e;rw [get_cons_same,h]
 exact get_cons_other _ _ e
theorem names1E_c (L l:List ByteArray) (T:Nat) (H:Heap) (h3:H.get 3=some (bx 1 T [.mp 10 0])) (h10:H.get 10=some (sob L)) (hl:l.length < 4611686018427387904) :
  ACalls Tryz.prog 97 [.pv (slStrs l),.ref 3 0 0 0] H (fun r H'=>r=.tup []∧H'=(10,sob (addAll L l))::H):=by
 have hml:(l.map encStr).length=l.length:=List.length_map _
 refine Bd Tryz.func97 rfl Tryz.ntmps97<|Sq<|Rg<|Dd mv'<|Dd (ll' Tryz.underlying46)<|Dd mv'<|Zz<|awp_block ?_
 refine awp_loop (σ:=Nat) (fun k=>([(1,.ref 3 0 0 0),(5,.pv (slStrs l)),(6,iv ((l.map encStr).length:Int)),(7,iv (k:Int))],(10,sob (addAll L (l.take k)))::H)) (fun k=>k≤l.length) (fun k=>l.length - k) 0 (by omega) ?_ ?_
 ·exact Ent.get' ⟨⟨_,rfl,rfl⟩,⟨_,rfl,rfl⟩,⟨_,rfl,rfl⟩,⟨_,rfl,rfl⟩,trivial⟩ (front_get h10)
 intro k hk
 have h3':Heap.get ((10,sob (addAll L (l.take k)))::H) 3=some (bx 1 T [.mp 10 0]):=h3
 refine Sq<|Rg<|Dd lss'<|Zz<|Sq ?_
 refine Cn (fun hc1=>?_) fun hc1=>?_
 ·have hlt:k < l.length:=by have:=of_decide_eq_true hc1;omega
  obtain ⟨s,hs⟩:=get_of_lt hlt
  have hi:=map_get (f:=encStr) hs
  have hst:addAll L (l.take (k+1))=sput (addAll L (l.take k)) s:=by rw [addAll,List.take_add_one,hs,List.foldl_append];rfl
  refine awp_skip<|Sq<|awp_block<|Sq<|Rg<|Dd (xp' so46)<|Dd (lp' Tryz.isAgg9)<|Dd as'<|Zz<|Rg<|Dd (by exact opd_load1_ref rfl Tryz.isAgg89 rfl h3' rfl rfl rfl)<|Dd mv'<|Uu (by exact x_put_set (.inl rfl) Tryz.underlying89 Tryz.underlying9 rfl rfl rfl rfl rfl rfl rfl)<|Zz<|Rg<|Dd ad'<|Dd mv'<|Zz ?_
  refine⟨k+1,by omega,by omega,?_⟩
  rw [hst]
  exact Ent.dup ⟨⟨_,rfl,rfl⟩,⟨_,rfl,rfl⟩,⟨_,rfl,rfl⟩,⟨_,rfl,rfl⟩,trivial⟩
 have hge:k=l.length:=by have:=of_decide_eq_false hc1;omega
 subst hge
 rw [List.take_length]
 refine awp_exit ?_
 exact aret0 (.inl rfl) rfl Fin.refl ⟨rfl,rfl⟩
def nonE (s:ByteArray):Bool:=!decide (s=sNil)
/-- All Ids that an edit mentions, with what is empty, once each. -/
def idsOf (e:GEdit):List ByteArray:=addAll (addAll (addAll [] [e.id,e.other,e.node,e.obj.id]) e.refs) e.obj.refs
def gNames (e:GEdit):List ByteArray:=if gEditV e then sortS ((idsOf e).filter nonE)else[]
theorem addAll_len:∀ (l L:List ByteArray),(addAll L l).length≤L.length+l.length
 | [],L=>by simp [addAll]
 | s::l,L=>by
  have:=addAll_len l (sput L s)
  have h2:(sput L s).length≤L.length+1:=by
   unfold sput
   split
   ·omega
   simp
  rw [addAll,List.foldl_cons] at *
  simp only [List.length_cons]
  omega
abbrev strN (l:List ByteArray):List (List AV):=l.map (fun e=>(encStr e).map .pv)
theorem pickN_snoc {L:List ByteArray} {seen:List Nat} {i:Nat} {s:ByteArray} (h:L[i]?=some s):pick L (seen++[i])=pick L seen++[s]:=by
 simp only [pick,List.map_append,List.map_cons,List.map_nil,h,Option.getD_some]
theorem names_cE (e:GEdit) (H:Heap) (he:okE e) (hsz:e.refs.length+e.obj.refs.length < 1099511627776):ACalls Tryz.prog 47 [av (encEdit e)] H (fun r H'=>r=.pv (slStrs (gNames e))∧H'=H):=by
 refine ACalls.pure ?_ (by simp) H
 have he':=he
 obtain ⟨⟨h1,h2,h3,h4⟩,⟨h5,h6⟩,h7⟩:=he'
 rw [gNames]
 refine Bd Tryz.func47 rfl Tryz.ntmps47<|Sq<|Rg<|Dd (by exact opd_box (id:=1) rfl rfl rfl rfl rfl)<|Dd as'<|Zz<|Sq<|Sq<|Rg<|Dd (ln' Tryz.isAgg51 Tryz.sizeOf51)<|Dd (by exact opr_call rfl rfl Tryz.call43 rfl (editValid_c e _ he))<|Dd no'<|Zz ?_
 refine Cn (fun hc1=>?_) fun hc1=>?_
 ·have hf:gEditV e=false:=by
   have h:=hc1
   simpa using h
  rw [hf,if_neg (by simp)]
  refine Sq<|Rg<|Dd as'<|Zz<|awp_ret ?_
  refine Rt ?_
  exact⟨rfl,rfl⟩
 have hv:gEditV e=true:=by
  have h:=hc1
  simpa using h
 rw [if_pos hv]
 obtain ⟨L,hL⟩:∃ L,L=idsOf e:=⟨_,rfl⟩
 have hsl:L.length < 1099511627780:=by
  have q1:=addAll_len e.obj.refs (addAll (addAll [] [e.id,e.other,e.node,e.obj.id]) e.refs)
  have q2:=addAll_len e.refs (addAll [] [e.id,e.other,e.node,e.obj.id])
  have q3:=addAll_len [e.id,e.other,e.node,e.obj.id] []
  simp only [List.length_cons,List.length_nil] at q3
  rw [hL,idsOf]
  omega
 refine awp_skip<|Sq<|Rg<|Dd (by exact opd_makeMap (id:=10) strK rfl rfl)<|Dd (by exact x_alloc (id:=3) rfl zo89 rfl rfl)<|Uu (sa' Tryz.sizeOf89)<|Zz<|Sq<|Rg<|Dd (by exact opd_makeFunc rfl rfl)<|Dd as'<|Zz<|Sq<|Rg<|Dd mv'<|Dd (fr' fo51_1)<|Dd (l1' Tryz.isAgg9)<|Dd (fr' fo51_2)<|Dd (l1' Tryz.isAgg9)<|Dd (fr' fo51_3)<|Dd (l1' Tryz.isAgg9)<|Dd (fr' fo51_8)<|Dd (fr' fo49_0)<|Dd (l1' Tryz.isAgg9)<|Dd (by exact x_buildSlice ([e.id,e.other,e.node,e.obj.id].map encStr) rfl so46 rfl rfl rfl rfl rfl (by simp [encStr]))<|Dd (by exact opr_callV rfl rfl rfl (CallsV.clo Tryz.call97 (names1E_c [] [e.id,e.other,e.node,e.obj.id] 89 _ rfl rfl (by show 4 < _;omega))))<|Zz<|Sq<|Rg<|Dd mv'<|Dd (fr' fo51_7)<|Dd (l1' Tryz.isAgg46)<|Dd (by exact opr_callV rfl rfl rfl (CallsV.clo Tryz.call97 (names1E_c (addAll [] [e.id,e.other,e.node,e.obj.id]) e.refs 89 _ rfl rfl h5)))<|Zz<|Sq<|Rg<|Dd mv'<|Dd (fr' fo51_8) ?_
 refine Dd (fr' fo49_3)<|Dd (l1' Tryz.isAgg46)<|Dd (by exact opr_callV rfl rfl rfl (CallsV.clo Tryz.call97 (names1E_c (addAll (addAll [] [e.id,e.other,e.node,e.obj.id]) e.refs) e.obj.refs 89 _ rfl rfl h7.2.2.1)))<|Zz<|Sq<|Rg<|Dd (by exact opd_assign_own (id:=5) (sz:=1) (ty:=9) rfl rfl rfl)<|Zz<|Sq<|Sq<|Rg<|Dd (l1' Tryz.isAgg89)<|Dd (by exact opd_range (q:=34) (κ:=strK) rfl Tryz.underlying89 rfl rfl rfl rfl rfl rfl)<|Zz<|awp_block ?_
 rw [idsOf] at hL
 rw [← idsOf,← hL.trans (idsOf.eq_1 e).symm]
 refine awp_loop2 (fun(seen:List Nat) (g:Nat)=>([(5,.osl 5 g 0 ((pick L seen).filter nonE).length),(34,.it 34 0)],[(34,⟨0,0,0,irows (.mp 10 0) (sets L).length (sets L).length seen⟩),(5,⟨g,1,9,strN ((pick L seen).filter nonE)⟩),(10,sob L)])) (fun seen g=>seen.Nodup∧∀ i∈seen,i < L.length) (fun seen g=>L.length - seen.length) [] 0 ⟨.nil,by simp⟩ ?_ ?_
 ·rw [hL]
  exact(Ent.wk (Ea<|Ea<|trivial) (Hc (irowsN_clo rfl _ _ _)<|Hc (clo_map _ _ _)<|Hc (sobN_clo _ _)<|trivial) trivial)
 rintro seen g ⟨hnd,hlt⟩
 have hse:=nodup_le L.length seen hnd hlt
 have hfl:((pick L seen).filter nonE).length≤seen.length:=by have:=List.length_filter_le nonE (pick L seen);rw [pick,List.length_map] at this;exact this
 refine Sq<|Rg ?_
 refine al_r rfl rfl (opr_next (κ:=strK) rfl rfl rfl rfl rfl rfl rfl rfl rfl (by omega) (by omega)) ?_
 rintro _ _ (⟨rfl,rfl,hn0⟩|⟨hni,hnp,hn1,hn2,rfl,rfl⟩)
 ·skip
  refine Dd ex'<|Zz<|Sq ?_
  refine Cn (fun hc2=>?_) fun hc2=>?_
  ·cases hc2
  skip
  have hpm:=pick_all (L:=L) hnd hlt (fun i hi=>hn0 i (by rw [sets_length];exact hi))
  refine awp_exit<|Sq<|Rg<|Dd mv'<|Dd (by exact opr_call rfl rfl Tryz.call98 rfl (sortStr_c ((pick L seen).filter nonE) (id:=5) (g:=g) (ty:=9) rfl rfl (by omega)))<|Zz<|Sq<|Rg<|Dd mv'<|Dd as'<|Zz<|awp_ret ?_
  rw [← sortS_eq (hpm.filter nonE)]
  refine aret1 (H':=[]) (.inr rfl) rfl (rval_tmp rfl) (Fin.slice0 (id:=5) ((sortS ((pick L seen).filter nonE)).map encStr) rfl rfl (rowsN_of encStr _) (by rw [List.length_map,sortS_length])) ⟨rfl,rfl⟩
 skip
 refine Dd ex'<|Zz<|Sq ?_
 refine Cn (fun hc3=>?_) fun hc3=>?_
 ·have hlen:=(List.getElem?_eq_some_iff.1 hn1).1
  rw [sets_length] at hlen
  obtain ⟨s,hs⟩:=get_of_lt hlen
  have hp:hnp=(s,bv true):=by
   rw [sets,List.getElem?_map,hs] at hn1
   exact(Option.some.inj hn1).symm
  subst hp
  have hnd2:(seen++[hni]).Nodup:=List.nodup_append.2 ⟨hnd,by simp,fun a ha b hb e=>by rw [List.mem_singleton] at hb;subst hb;subst e;exact hn2 ha⟩
  have hlt2:∀ i∈seen++[hni],i < L.length:=fun i hi=>by
   rcases List.mem_append.1 hi with hi|hi
   ·exact hlt i hi
   rw [List.mem_singleton] at hi;subst hi;exact hlen
  have hmu:L.length - (seen++[hni]).length < L.length - seen.length:=by
   have:=nodup_le L.length (seen++[hni]) hnd2 hlt2
   simp only [List.length_append,List.length_cons,List.length_nil] at this ⊢
   omega
  have hpk:(pick L (seen++[hni])).filter nonE=(pick L seen).filter nonE++[s].filter nonE:=by rw [pickN_snoc hs,List.filter_append]
  refine awp_skip<|awp_block<|Sq<|Rg<|Dd (by exact opd_entry rfl rfl rfl rfl rfl rfl rfl rfl rfl hn1)<|Dd ex'<|Dd as'<|Zz<|Sq<|Rg<|Dd mv'<|Dd sn'<|Zz ?_
  refine Cn (fun hc4=>?_) fun hc4=>?_
  ·have hns:nonE s=true:=hc4
   have hpk2:(pick L (seen++[hni])).filter nonE=(pick L seen).filter nonE++[s]:=by rw [hpk,List.filter_cons,hns];rfl
   refine Rg<|Dd mv'<|Dd mv'<|Dd (by exact x_buildSlice [encStr s] rfl so46 rfl rfl rfl rfl rfl (by simp [encStr]))<|Dd (by exact x_append rfl so46 ei9 rfl rfl rfl rfl rfl (List.length_map _) rfl (by simp [encStr]) (rfl:_=1) (by omega) (lenN_snoc _ s) ((List.map_append (l₂:=[s])).symm))<|Dd as'<|Zz ?_
   refine⟨seen++[hni],g+1,⟨hnd2,hlt2⟩,hmu,?_⟩
   rw [hpk2]
   exact(Ent.wk (Ea<|Ea<|trivial) (Hc (irowsN_clo rfl _ _ _)<|Hc (clo_map _ _ _)<|Hc (sobN_clo _ _)<|trivial) trivial)
  have hns:nonE s=false:=hc4
  have hpk2:(pick L (seen++[hni])).filter nonE=(pick L seen).filter nonE:=by rw [hpk,List.filter_cons,hns];simp
  refine awp_skip ?_
  refine⟨seen++[hni],g,⟨hnd2,hlt2⟩,hmu,?_⟩
  rw [hpk2]
  exact(Ent.wk (Ea<|Ea<|trivial) (Hc (irowsN_clo rfl _ _ _)<|Hc (clo_map _ _ _)<|Hc (sobN_clo _ _)<|trivial) trivial)
 cases hc3
end
section
/-- A string that an edit mentions, or the empty one. -/
def raw (e:GEdit) (s:ByteArray):Prop:=s=e.id∨s=e.other∨s=e.node∨s=e.obj.id∨s∈e.refs∨s∈e.obj.refs
theorem sputQ_mem {l:List ByteArray} {s x:ByteArray}:x∈sput l s↔x∈l∨x=s:=by
 unfold sput
 split
 ·next h =>
  have:=inB_iff.1 h
  constructor
  ·exact .inl
  rintro(h|rfl)
  ·exact h
  exact this
 rw [List.mem_append,List.mem_singleton]
theorem addAll_mem:∀ {l L:List ByteArray} {x:ByteArray},x∈addAll L l↔x∈L∨x∈l
 | [],L,x=>by simp [addAll]
 | s::l,L,x=>by
  show x∈addAll (sput L s) l↔_
  rw [addAll_mem,sputQ_mem,List.mem_cons,or_assoc]
theorem names_mem {e:GEdit} {s:ByteArray} (hv:gEditV e=true):s∈gNames e↔raw e s∧s≠sNil:=by
 rw [gNames,if_pos hv,(sortS_perm _).mem_iff,List.mem_filter,idsOf,addAll_mem,addAll_mem,addAll_mem]
 simp only [nonE,Bool.not_eq_true',decide_eq_false_iff_not,List.not_mem_nil,false_or,List.mem_cons,or_false,raw,or_assoc]
theorem gObj_id {o:GObj} (h:gObj o=true):o.id≠sNil:=gName_ne (gObj_len h).2.2.2.1
theorem okOf_id {e:GEdit} (h:okOf e=true) (h1:e.op≠1):e.id≠sNil:=by
 rw [okOf,if_neg h1,Bool.and_eq_true] at h
 exact gName_ne h.1
theorem okOf_other {e:GEdit} (h:okOf e=true) (h1:e.op=6∨e.op=7):e.other≠sNil:=by
 rw [okOf,if_neg (by omega),Bool.and_eq_true,if_neg (by omega),if_neg (by omega),if_neg (by omega),if_neg (by omega)] at h
 have h2:=h.2
 split at h2
 ·rw [Bool.and_eq_true] at h2;exact gName_ne h2.2
 exact gName_ne h2
theorem okOf_obj {e:GEdit} (h:okOf e=true) (h1:e.op=1):e.obj.id≠sNil:=by
 rw [okOf,if_pos h1] at h
 exact gObj_id h
end
section
instance decGObj:DecidableEq GObj:=fun a b=>if h:gSameO a b=true then isTrue (gSameO_iff.1 h)else isFalse (fun e=>h (gSameO_iff.2 e))
end
section
def st1 (c:UInt8):ByteArray:=⟨#[c]⟩
def nodeA (c:UInt8):GObj:=⟨st1 c,1,(c.toNat:Int),0,[],[]⟩
def cs3:List UInt8:=[97,98,99]
def wayA:GObj:=⟨st1 119,2,0,0,cs3.map st1,[]⟩
def s0:List GObj:=cs3.map nodeA++[wayA]
end
section
def x1:List GObj:=cs3.map nodeA++[⟨st1 118,2,0,0,[st1 98,st1 99],[]⟩,⟨st1 119,2,0,0,[st1 97,st1 98],[]⟩]
end
section
/-- The k-th elements are equal, for all k below n. -/
def eqTo {α:Type} (e:α→α→Bool) (a b:List α):Bool:=decide (a.length=b.length)&&(List.range a.length).all fun k=>match a[k]?,b[k]? with|some x,some y=>e x y|_,_=>true
theorem eqTo_iff {α:Type} {e:α→α→Bool} (he:∀ x y,e x y=true↔x=y) {a b:List α}:eqTo e a b=true↔a=b:=by
 constructor
 ·intro h
  simp only [eqTo,Bool.and_eq_true,decide_eq_true_eq,List.all_eq_true,List.mem_range] at h
  apply List.ext_getElem h.1
  intro k h1 h2
  have:=h.2 k h1
  rw [List.getElem?_eq_getElem h1,List.getElem?_eq_getElem h2] at this
  exact(he _ _).1 this
 rintro rfl
 simp only [eqTo,Bool.and_eq_true,decide_eq_true_eq,List.all_eq_true,List.mem_range,true_and]
 intro k hk
 rw [List.getElem?_eq_getElem hk]
 exact(he _ _).2 rfl
theorem eqTo_bad {α:Type} {e:α→α→Bool} {a b:List α} {k:Nat} {x y:α} (hx:a[k]?=some x) (hy:b[k]?=some y) (h:e x y=false):eqTo e a b=false:=by
 have hk:=(List.getElem?_eq_some_iff.1 hx).1
 rw [eqTo,Bool.and_eq_false_iff]
 right
 rw [List.all_eq_false]
 exact⟨k,List.mem_range.2 hk,by rw [hx,hy];simp [h]⟩
theorem eqTo_len {α:Type} {e:α→α→Bool} {a b:List α} (h:¬ a.length=b.length):eqTo e a b=false:=by simp [eqTo,h]
theorem eqTo_good {α:Type} {e:α→α→Bool} {a b:List α} (hl:a.length=b.length) (h:∀ k,k < a.length→∀ x y,a[k]?=some x→b[k]?=some y→e x y=true):eqTo e a b=true:=by
 simp only [eqTo,Bool.and_eq_true,decide_eq_true_eq,List.all_eq_true,List.mem_range]
 refine⟨hl,fun k hk=>?_⟩
 rw [List.getElem?_eq_getElem hk,List.getElem?_eq_getElem (by omega)]
 exact h k hk _ _ (List.getElem?_eq_getElem hk) (List.getElem?_eq_getElem (by omega))
def strEq (a b:ByteArray):Bool:=decide (a=b)
theorem strEq_iff (a b:ByteArray):strEq a b=true↔a=b:=by simp [strEq]
def headEq (a b:GObj):Bool:=decide (a.id=b.id)&&decide (a.kind=b.kind)&&(decide (a.x=b.x)&&decide (a.y=b.y))&&decide (a.refs.length=b.refs.length)&&decide (a.tags.length=b.tags.length)
def gSameR (a b:GObj):Bool:=headEq a b&&(eqTo strEq a.refs b.refs&&eqTo tagEq a.tags b.tags)
theorem gSameR_iff {a b:GObj}:gSameR a b=true↔a=b:=by
 rw [gSameR,Bool.and_eq_true,Bool.and_eq_true,eqTo_iff strEq_iff,eqTo_iff tagEq_iff]
 cases a;cases b
 simp only [headEq,Bool.and_eq_true,decide_eq_true_eq,GObj.mk.injEq]
 constructor
 ·rintro⟨⟨⟨⟨⟨a1,a2⟩,a3,a4⟩,a5⟩,a6⟩,a7,a8⟩
  exact⟨a1,a2,a3,a4,a7,a8⟩
 rintro⟨a1,a2,a3,a4,a7,a8⟩
 exact⟨⟨⟨⟨⟨a1,a2⟩,a3,a4⟩,by rw [a7]⟩,by rw [a8]⟩,a7,a8⟩
def headNe (a b:GObj) (n1 n2 n3 n4:Int):Bool:=!decide (a.id=b.id)||!decide (a.kind=b.kind)||!(decide (a.x=b.x)&&decide (a.y=b.y))||!decide (n1=n2)||!decide (n3=n4)
theorem headNe_eq (a b:GObj):headNe a b ((a.refs.map encStr).length:Int) ((b.refs.map encStr).length:Int) ((a.tags.map encTag).length:Int) ((b.tags.map encTag).length:Int)=!headEq a b:=by
 simp only [headNe,headEq,List.length_map,Bool.not_and,Int.natCast_inj]
theorem same11_c (a b:GObj) (H:Heap) (ha:a.refs.length < 4611686018427387904) (ha2:a.tags.length < 4611686018427387904):ACalls Tryz.prog 66 [av (encObj a),av (encObj b)] H (fun r H'=>r=bv (gSameR a b)∧H'=H):=by
 refine ACalls.pure ?_ (by simp) H
 have hra:(a.refs.map encStr).length=a.refs.length:=List.length_map _
 have hta:(a.tags.map encTag).length=a.tags.length:=List.length_map _
 refine Bd Tryz.func66 rfl Tryz.ntmps66<|Sq<|Rg<|Dd (by exact opd_box (id:=2) rfl rfl rfl rfl rfl)<|Dd (by exact opd_box (id:=3) rfl rfl rfl rfl rfl)<|Dd as'<|Zz<|Sq<|Sq ?_
 refine awp_bool (t:=43) (n:=41) (X:=headNe a b ((a.refs.map encStr).length:Int) ((b.refs.map encStr).length:Int) ((a.tags.map encTag).length:Int) ((b.tags.map encTag).length:Int)) ?_ ?_
 ·all_goals refine Dd (fr' fo49_0) ?_
  all_goals refine Dd (l1' Tryz.isAgg9) ?_
  all_goals refine Dd (fr' fo49_0) ?_
  all_goals refine Dd (l1' Tryz.isAgg9) ?_
  all_goals refine Dd sn' ?_
  all_goals refine Dd mv' ?_
  all_goals refine Sp 12 (fun h12=>?_) fun h12=>?_
  all_goals try contradiction
  all_goals first|refine Fo ?_|refine On (fr' fo49_1) ?_
  all_goals first|refine Fo ?_|refine On (l1' Tryz.isAgg3) ?_
  all_goals first|refine Fo ?_|refine On (fr' fo49_1) ?_
  all_goals first|refine Fo ?_|refine On (l1' Tryz.isAgg3) ?_
  all_goals first|refine Fo ?_|refine On ne' ?_
  all_goals refine Dd pk' ?_
  all_goals refine Dd mv' ?_
  all_goals refine Sp 19 (fun h19=>?_) fun h19=>?_
  all_goals try contradiction
  all_goals first|refine Fo ?_|refine On (fr' fo49_2) ?_
  all_goals first|refine Fo ?_|refine On (by exact opd_loadn_ref rfl Tryz.isAgg45 Tryz.sizeOf45 rfl rfl rfl rfl (by simp only [Zl,encTag,encObj,encStr];rfl) rfl) ?_
  all_goals first|refine Fo ?_|refine On (fr' fo49_2) ?_
  all_goals first|refine Fo ?_|refine On (by exact opd_loadn_ref rfl Tryz.isAgg45 Tryz.sizeOf45 rfl rfl rfl rfl (by simp only [Zl,encTag,encObj,encStr];rfl) rfl) ?_
  all_goals first|refine Fo ?_|refine On (by exact opd_aneq rfl rfl rfl rfl rfl Tryz.eqGuardType45 (se45 _ _ _ _)) ?_
  all_goals refine Dd pk' ?_
  all_goals refine Dd mv' ?_
  all_goals refine Sp 26 (fun h26=>?_) fun h26=>?_
  all_goals try contradiction
  all_goals first|refine Fo ?_|refine On (fr' fo49_3) ?_
  all_goals first|refine Fo ?_|refine On (l1' Tryz.isAgg46) ?_
  all_goals first|refine Fo ?_|refine On (ll' Tryz.underlying46) ?_
  all_goals first|refine Fo ?_|refine On (fr' fo49_3) ?_
  all_goals first|refine Fo ?_|refine On (l1' Tryz.isAgg46) ?_
  all_goals first|refine Fo ?_|refine On (ll' Tryz.underlying46) ?_
  all_goals first|refine Fo ?_|refine On ne' ?_
  all_goals refine Dd pk' ?_
  all_goals refine Dd mv' ?_
  all_goals refine Sp 35 (fun h35=>?_) fun h35=>?_
  all_goals try contradiction
  all_goals first|refine Fo ?_|refine On (fr' fo49_4) ?_
  all_goals first|refine Fo ?_|refine On (l1' Tryz.isAgg47) ?_
  all_goals first|refine Fo ?_|refine On (ll' Tryz.underlying47) ?_
  all_goals first|refine Fo ?_|refine On (fr' fo49_4) ?_
  all_goals first|refine Fo ?_|refine On (l1' Tryz.isAgg47) ?_
  all_goals first|refine Fo ?_|refine On (ll' Tryz.underlying47) ?_
  all_goals first|refine Fo ?_|refine On ne' ?_
  all_goals refine Dd pk' ?_
  all_goals refine al_nil ?_
  all_goals(exact⟨⟨_,rfl,by first|(simp only [headNe, *];rfl)|(simp_all [headNe];done)⟩,rfl,rfl,rfl⟩)
 refine Cn (fun hc1=>?_) fun hc1=>?_
 ·rw [headNe_eq] at hc1
  refine Sq<|Rg<|Dd as'<|Zz<|awp_ret ?_
  refine Rt ?_
  refine⟨?_,rfl⟩
  have:headEq a b=false:=by simpa using hc1
  rw [gSameR,this];rfl
 rw [headNe_eq] at hc1
 have hh:headEq a b=true:=by simpa using hc1
 have hlens:a.refs.length=b.refs.length∧a.tags.length=b.tags.length:=by
  simp only [headEq,Bool.and_eq_true,decide_eq_true_eq] at hh
  exact⟨hh.1.2,hh.2⟩
 obtain ⟨hl1,hl2⟩:=hlens
 rw [gSameR,hh,Bool.true_and]
 refine awp_skip<|Sq<|Sq<|Rg<|Dd as'<|Zz<|awp_block ?_
 refine awp_loop (σ:=Nat) (fun k=>([(2,.ref 2 0 0 0),(3,.ref 3 0 0 0),(5,iv (k:Int))],[(3,bx 6 49 ((encObj b).map .pv)),(2,bx 6 49 ((encObj a).map .pv))])) (fun k=>k≤a.refs.length∧∀ j,j < k→∀ x y,a.refs[j]?=some x→b.refs[j]?=some y→strEq x y=true) (fun k=>a.refs.length - k) 0 ⟨by omega,by omega⟩ ?_ ?_
 ·exact Wk
 rintro k ⟨hk,hall⟩
 refine Sq<|Sq<|Rg<|Dd mv'<|Dd (fr' fo49_3)<|Dd (l1' Tryz.isAgg46)<|Dd (ll' Tryz.underlying46)<|Dd lss'<|Zz ?_
 refine Cn (fun hc2=>?_) fun hc2=>?_
 ·have hlt:k < a.refs.length:=by have:=of_decide_eq_true hc2;omega
  obtain ⟨x,hx⟩:=get_of_lt hlt
  obtain ⟨y,hy⟩:=get_of_lt (l:=b.refs) (k:=k) (by omega)
  have hi:=map_get (f:=encStr) hx
  have hi2:=map_get (f:=encStr) hy
  refine awp_skip<|Sq<|awp_block<|Sq ?_
  refine awp_drawc follows ?_
  refine Cq (fr' fo49_3)<|Cq (l1' Tryz.isAgg46)<|Cq mv'<|Cq (xp' so46)<|Cq (lp' Tryz.isAgg9)<|Cq (fr' fo49_3)<|Cq (l1' Tryz.isAgg46)<|Cq mv'<|Cq (xp' so46)<|Cq (lp' Tryz.isAgg9)<|Cq sn' ?_
  refine dc_nil ⟨by kernel_rfl,?_⟩
  refine Cn (fun hc3=>?_) fun hc3=>?_
  ·have ht:strEq x y=false:=by
    have h:(!strEq x y)=true:=hc3
    simpa using h
   refine Sq<|Rg<|Dd as'<|Zz<|awp_ret ?_
   refine Rt ?_
   exact⟨by rw [eqTo_bad hx hy ht];rfl,rfl⟩
  have ht:strEq x y=true:=by
   have h:(!strEq x y)=false:=hc3
   simpa using h
  refine awp_skip<|Rg<|Dd mv'<|Dd ad'<|Dd as'<|Zz ?_
  refine⟨k+1,⟨by omega,fun j hj x' y' h1 h2=>?_⟩,by omega,Wk⟩
  by_cases e:j=k
  ·subst e;rw [hx] at h1;rw [hy] at h2;cases h1;cases h2;exact ht
  exact hall j (by omega) x' y' h1 h2
 have hge:k=a.refs.length:=by have:=of_decide_eq_false hc2;omega
 subst hge
 rw [eqTo_good hl1 hall,Bool.true_and]
 refine awp_exit<|Sq<|Sq<|Rg<|Dd as'<|Zz<|awp_block ?_
 refine awp_loop (σ:=Nat) (fun k=>([(2,.ref 2 0 0 0),(3,.ref 3 0 0 0),(6,iv (k:Int))],[(3,bx 6 49 ((encObj b).map .pv)),(2,bx 6 49 ((encObj a).map .pv))])) (fun k=>k≤a.tags.length∧∀ j,j < k→∀ x y,a.tags[j]?=some x→b.tags[j]?=some y→tagEq x y=true) (fun k=>a.tags.length - k) 0 ⟨by omega,by omega⟩ ?_ ?_
 ·exact Wk
 rintro k ⟨hk,hall2⟩
 refine Sq<|Sq<|Rg<|Dd mv'<|Dd (fr' fo49_4)<|Dd (l1' Tryz.isAgg47)<|Dd (ll' Tryz.underlying47)<|Dd lss'<|Zz ?_
 refine Cn (fun hc4=>?_) fun hc4=>?_
 ·have hlt:k < a.tags.length:=by have:=of_decide_eq_true hc4;omega
  obtain ⟨x,hx⟩:=get_of_lt hlt
  obtain ⟨y,hy⟩:=get_of_lt (l:=b.tags) (k:=k) (by omega)
  have hi:=map_get (f:=encTag) hx
  have hi2:=map_get (f:=encTag) hy
  refine awp_skip<|Sq<|awp_block<|Sq ?_
  refine awp_drawc follows ?_
  refine Cq (fr' fo49_4)<|Cq (l1' Tryz.isAgg47)<|Cq mv'<|Cq (xp' so47)<|Cq (by exact opd_loadn_pad rfl Tryz.isAgg117 Tryz.sizeOf117 rfl (by omega) (by simp only [Zl,encTag,encObj,encStr];rfl) rfl)<|Cq (fr' fo49_4)<|Cq (l1' Tryz.isAgg47)<|Cq mv'<|Cq (xp' so47)<|Cq (by exact opd_loadn_pad rfl Tryz.isAgg117 Tryz.sizeOf117 rfl (by omega) (by simp only [Zl,encTag,encObj,encStr];rfl) rfl)<|Cq (by exact opd_aneq rfl rfl rfl rfl rfl Tryz.eqGuardType117 (se117 _ _ _ _)) ?_
  refine dc_nil ⟨by kernel_rfl,?_⟩
  refine Cn (fun hc5=>?_) fun hc5=>?_
  ·have ht:tagEq x y=false:=by
    have h:(!tagEq x y)=true:=hc5
    simpa using h
   refine Sq<|Rg<|Dd as'<|Zz<|awp_ret ?_
   refine Rt ?_
   exact⟨by rw [eqTo_bad hx hy ht],rfl⟩
  have ht:tagEq x y=true:=by
   have h:(!tagEq x y)=false:=hc5
   simpa using h
  refine awp_skip<|Rg<|Dd mv'<|Dd ad'<|Dd as'<|Zz ?_
  refine⟨k+1,⟨by omega,fun j hj x' y' h1 h2=>?_⟩,by omega,Wk⟩
  by_cases e:j=k
  ·subst e;rw [hx] at h1;rw [hy] at h2;cases h1;cases h2;exact ht
  exact hall2 j (by omega) x' y' h1 h2
 have hge:k=a.tags.length:=by have:=of_decide_eq_false hc4;omega
 subst hge
 refine awp_exit<|Sq<|Rg<|Dd as'<|Zz<|awp_ret ?_
 refine Rt ?_
 exact⟨by rw [eqTo_good hl2 hall2],rfl⟩
def gSameM (a b:List GObj):Bool:=eqTo gSameR a b
theorem gSameM_iff {a b:List GObj}:gSameM a b=true↔a=b:=eqTo_iff (fun _ _=>gSameR_iff)
def okL (m:List GObj):Prop:=m.length < 4611686018427387904∧∀ o∈m,o.refs.length < 4611686018427387904∧o.tags.length < 4611686018427387904
theorem same12_c (a b:List GObj) (H:Heap) (ha:okL a):ACalls Tryz.prog 26 [.agg [.pv (slObjs a)],.agg [.pv (slObjs b)]] H (fun r H'=>r=bv (gSameM a b)∧H'=H):=by
 refine ACalls.pure ?_ (by simp) H
 have hma:(a.map encObj).length=a.length:=List.length_map _
 have hmb:(b.map encObj).length=b.length:=List.length_map _
 have hl:=ha.1
 rw [gSameM]
 refine Bd Tryz.func26 rfl Tryz.ntmps26<|Sq<|Rg<|Dd (by exact opd_box (id:=2) rfl rfl rfl rfl rfl)<|Dd (by exact opd_box (id:=3) rfl rfl rfl rfl rfl)<|Dd as'<|Zz<|Sq<|Sq<|Rg<|Dd (fr' fo38_0)<|Dd (l1' Tryz.isAgg36)<|Dd (ll' Tryz.underlying36)<|Dd (fr' fo38_0)<|Dd (l1' Tryz.isAgg36)<|Dd (ll' Tryz.underlying36)<|Dd ne'<|Zz ?_
 refine Cn (fun hc1=>?_) fun hc1=>?_
 ·have hne:¬ a.length=b.length:=by
   simp only [hma,hmb,Bool.not_eq_true',decide_eq_false_iff_not] at hc1
   omega
  refine Sq<|Rg<|Dd as'<|Zz<|awp_ret ?_
  refine Rt ?_
  exact⟨by rw [eqTo_len hne],rfl⟩
 have heq:a.length=b.length:=by
  simp only [hma,hmb,Bool.not_eq_false',decide_eq_true_eq] at hc1
  omega
 refine awp_skip<|Sq<|Sq<|Rg<|Dd as'<|Zz<|awp_block ?_
 refine awp_loop (σ:=Nat) (fun k=>([(2,.ref 2 0 0 0),(3,.ref 3 0 0 0),(5,iv (k:Int))],[(3,bx 1 38 [.pv (slObjs b)]),(2,bx 1 38 [.pv (slObjs a)])])) (fun k=>k≤a.length∧∀ j,j < k→∀ x y,a[j]?=some x→b[j]?=some y→gSameR x y=true) (fun k=>a.length - k) 0 ⟨by omega,by omega⟩ ?_ ?_
 ·exact Wk
 rintro k ⟨hk,hall⟩
 refine Sq<|Sq<|Rg<|Dd mv'<|Dd (fr' fo38_0)<|Dd (l1' Tryz.isAgg36)<|Dd (ll' Tryz.underlying36)<|Dd lss'<|Zz ?_
 refine Cn (fun hc2=>?_) fun hc2=>?_
 ·have hlt:k < a.length:=by have:=of_decide_eq_true hc2;omega
  obtain ⟨x,hx⟩:=get_of_lt hlt
  obtain ⟨y,hy⟩:=get_of_lt (l:=b) (k:=k) (by omega)
  have hi:=map_get (f:=encObj) hx
  have hi2:=map_get (f:=encObj) hy
  have hox:=ha.2 x (List.mem_of_getElem? hx)
  refine awp_skip<|Sq<|awp_block<|Sq ?_
  refine awp_drawc follows ?_
  refine Cq (fr' fo38_0)<|Cq (l1' Tryz.isAgg36)<|Cq mv'<|Cq (xp' so36)<|Cq (by exact opd_loadn_pad rfl Tryz.isAgg49 Tryz.sizeOf49 rfl (by omega) (by simp only [Zl,encTag,encObj,encStr];rfl) rfl)<|Cq (fr' fo38_0)<|Cq (l1' Tryz.isAgg36)<|Cq mv'<|Cq (xp' so36)<|Cq (by exact opd_loadn_pad rfl Tryz.isAgg49 Tryz.sizeOf49 rfl (by omega) (by simp only [Zl,encTag,encObj,encStr];rfl) rfl)<|Cq (by exact opr_call rfl rfl Tryz.call66 rfl (same11_c x y _ hox.1 hox.2))<|Cq no' ?_
  refine dc_nil ⟨by kernel_rfl,?_⟩
  refine Cn (fun hc3=>?_) fun hc3=>?_
  ·have ht:gSameR x y=false:=by
    have h:(!gSameR x y)=true:=hc3
    simpa using h
   refine Sq<|Rg<|Dd as'<|Zz<|awp_ret ?_
   refine Rt ?_
   exact⟨by rw [eqTo_bad hx hy ht],rfl⟩
  have ht:gSameR x y=true:=by
   have h:(!gSameR x y)=false:=hc3
   simpa using h
  refine awp_skip<|Rg<|Dd mv'<|Dd ad'<|Dd as'<|Zz ?_
  refine⟨k+1,⟨by omega,fun j hj x' y' h1 h2=>?_⟩,by omega,Wk⟩
  by_cases e:j=k
  ·subst e;rw [hx] at h1;rw [hy] at h2;cases h1;cases h2;exact ht
  exact hall j (by omega) x' y' h1 h2
 have hge:k=a.length:=by have:=of_decide_eq_false hc2;omega
 subst hge
 refine awp_exit<|Sq<|Rg<|Dd as'<|Zz<|awp_ret ?_
 refine Rt ?_
 exact⟨by rw [eqTo_good heq hall],rfl⟩
theorem gSameR_eq (a b:GObj):gSameR a b=gSameO a b:=by rw [Bool.eq_iff_iff,gSameR_iff,gSameO_iff]
theorem rSame_c (a b:GObj) (H:Heap) (ha:a.refs.length < 4611686018427387904) (ha2:a.tags.length < 4611686018427387904):ACalls Tryz.prog 66 [av (encObj a),av (encObj b)] H (fun r H'=>r=bv (gSameO a b)∧H'=H):=by
 rw [← gSameR_eq]
 exact same11_c a b H ha ha2
end
section
theorem from_app:∀ (l1 l2:List GEdit) (m:List GObj) (i:Nat),gAllFrom m i (l1++l2)=if(gAllFrom m i l1).2.2=0 then gAllFrom (gAllFrom m i l1).1 (i+l1.length) l2 else gAllFrom m i l1
 | [],l2,m,i=>by simp [gAllFrom]
 | e::l1,l2,m,i=>by
  by_cases h:(gAfter m e).2=0
  ·have h2:∀ l,gAllFrom m i (e::l)=gAllFrom (gAfter m e).1 (i+1) l:=fun l=>by rw [gAllFrom,if_neg (by simp [h])]
   rw [List.cons_append,h2,h2,from_app l1 l2,List.length_cons,show i+1+l1.length=i+(l1.length+1)by omega]
  have h2:∀ l,gAllFrom m i (e::l)=([],(i:Int),(gAfter m e).2):=fun l=>by rw [gAllFrom,if_pos (by simp [h])]
  rw [List.cons_append,h2,h2,if_neg h]
theorem from_ok:∀ {l:List GEdit} {m:List GObj} {i:Nat},okM m→closedB m=true→(∀ e,e∈l→okE e)→(gAllFrom m i l).2.2=0→okM (gAllFrom m i l).1∧closedB (gAllFrom m i l).1=true∧(gAllFrom m i l).2.1 = -1
 | [],m,i,hm,hc,_,_=>⟨hm,hc,rfl⟩
 | e::l,m,i,hm,hc,he,h=>by
  by_cases h1:(gAfter m e).2=0
  ·have h2:gAllFrom m i (e::l)=gAllFrom (gAfter m e).1 (i+1) l:=by rw [gAllFrom,if_neg (by simp [h1])]
   rw [h2] at h ⊢
   exact from_ok (after_okM hm (closed_gMap hc) (he e List.mem_cons_self) h1) (after_closed hc h1) (fun x hx=>he x (List.mem_cons_of_mem _ hx)) h
  have h2:gAllFrom m i (e::l)=([],(i:Int),(gAfter m e).2):=by rw [gAllFrom,if_pos (by simp [h1])]
  rw [h2] at h
  exact absurd h h1
theorem from_err:∀ {l:List GEdit} {m:List GObj} {i:Nat},(gAllFrom m i l).2.2≠0→(gAllFrom m i l).1=[]∧∃ j:Nat,(gAllFrom m i l).2.1=(j:Int)∧j < i+l.length
 | [],m,i,h=>absurd rfl h
 | e::l,m,i,h=>by
  by_cases h1:(gAfter m e).2=0
  ·have h2:gAllFrom m i (e::l)=gAllFrom (gAfter m e).1 (i+1) l:=by rw [gAllFrom,if_neg (by simp [h1])]
   rw [h2] at h ⊢
   obtain ⟨a,j,b,c⟩:=from_err h
   exact⟨a,j,b,by rw [List.length_cons];omega⟩
  have h2:gAllFrom m i (e::l)=([],(i:Int),(gAfter m e).2):=by rw [gAllFrom,if_pos (by simp [h1])]
  rw [h2]
  exact⟨rfl,i,rfl,by rw [List.length_cons];omega⟩
theorem from_shift (n:Nat):∀ (l:List GEdit) (m:List GObj) (i:Nat),gAllFrom m (i+n) l=((gAllFrom m i l).1,(if(gAllFrom m i l).2.2=0 then -1 else(gAllFrom m i l).2.1+(n:Int)),(gAllFrom m i l).2.2)
 | [],m,i=>by simp [gAllFrom]
 | e::l,m,i=>by
  by_cases h1:(gAfter m e).2=0
  ·have h2:∀ i,gAllFrom m i (e::l)=gAllFrom (gAfter m e).1 (i+1) l:=fun i=>by rw [gAllFrom,if_neg (by simp [h1])]
   rw [h2,h2,show i+n+1=i+1+n by omega]
   exact from_shift n l _ (i+1)
  have h2:∀ i:Nat,gAllFrom m i (e::l)=([],(i:Int),(gAfter m e).2):=fun i=>by rw [gAllFrom,if_pos (by simp [h1])]
  rw [h2,h2]
  simp [h1]
theorem all_cases {m:List GObj} {l1 l2:List GEdit} (hm:okM m) (h1:∀ e,e∈l1→okE e) (h2:∀ e,e∈l2→okE e) :
    ((gAll m l1).2.2≠0∧gAll m (l1++l2)=gAll m l1∧(gAll m l1).1=[]) ∨
    ((gAll m l1).2.2=0∧okM (gAll m l1).1∧(gAll m l1).2.1 = -1 ∧
      (((gAll (gAll m l1).1 l2).2.2≠0∧(gAll m (l1++l2)).2.2=(gAll (gAll m l1).1 l2).2.2∧(gAll m (l1++l2)).1=[]∧∃ j:Nat,(gAll (gAll m l1).1 l2).2.1=(j:Int)∧j < l2.length∧(gAll m (l1++l2)).2.1=((j+l1.length:Nat):Int)) ∨
       ((gAll (gAll m l1).1 l2).2.2=0∧(gAll m (l1++l2)).2.2=0∧(gAll m (l1++l2)).2.1 = -1∧(gAll (gAll m l1).1 l2).2.1 = -1∧(gAll m (l1++l2)).1=(gAll (gAll m l1).1 l2).1∧okM (gAll (gAll m l1).1 l2).1))):=by
  by_cases hc:closedB m=true
  · have ha:∀ l,gAll m l=gAllFrom m 0 l:=fun l=>by rw [gAll,if_pos hc]
    rw [ha,ha,from_app]
    by_cases h0:(gAllFrom m 0 l1).2.2=0
    · obtain ⟨a,b,c⟩:=from_ok hm hc h1 h0
      refine .inr ⟨h0,a,c,?_⟩
      rw [if_pos h0,show gAll (gAllFrom m 0 l1).1 l2=gAllFrom (gAllFrom m 0 l1).1 0 l2 by rw [gAll,if_pos b],from_shift]
      have h2':=h2
      by_cases h2:(gAllFrom (gAllFrom m 0 l1).1 0 l2).2.2=0
      · refine .inr ⟨h2,h2,by rw [if_pos h2],?_,rfl,(from_ok a b h2' h2).1⟩
        exact((from_ok a b h2' h2).2).2
      · obtain ⟨d,j,e,f⟩:=from_err h2
        exact .inl ⟨h2,rfl,d,j,e,by omega,by show (if _ then _ else _)=_;rw [if_neg h2,e,Int.natCast_add]⟩
    · rw [if_neg h0]
      exact .inl ⟨h0,rfl,(from_err h0).1⟩
  · have ha:∀ l,gAll m l=([],-1,1):=fun l=>by rw [gAll,if_neg hc]
    rw [ha,ha]
    exact .inl ⟨by decide,rfl,rfl⟩
end
end Go.Proofs.YtlnfjkdacimblaaGreatDoor
