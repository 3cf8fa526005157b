/-
  CONTRACTS: edit.Valid, change.Valid. Conditions: lengths below 2^62.
  CONTRACTS: atlas.Find, distances, package evidence's kinds. Conditions: lengths below 2^62.
  CONTRACTS: package planispherelaw32: nodes, head. Conditions: none.
  A SLICE OF ONE'S OWN WHOSE CAPACITY IS KNOWN ('osc'): cap, cuts up to the capacity, appending within it or beyond it, copies inside of an object and from others, clear.
 Conditions: each rule's own premises.
  A SLICE OF ONE'S OWN WHOSE CAPACITY IS KNOWN: append within the capacity (it writes over what is there), append beyond it (a new object), clear, cuts with a bound.
 Conditions: each rule's own premises.
  AN OWNED SLICE IS LENT FOR GOOD: a call reads it as a slice that never changes; behind the call the object is empty.
 Conditions: each rule's own premises.
  A SLICE COMPARED WITH nil; copies in the form of the walks; an owned slice that ends with a call and is handed on as one that never changes.
 Conditions: each rule's own premises.
  CONTRACTS: strings.Compare; slices.BinarySearchFunc at lists in strict order, slices.Clone, Insert, Delete at the lists of the map. Conditions: lengths below 2^40.
  CONTRACTS: slices.Clone, Insert, Delete at the lists of the map: the clone is the caller's own object 901; what is put in is object 902; behind Insert and Delete object 901 is dead and the result never changes. Conditions: lengths below 2^40.
  CONTRACTS: tag.Set. Conditions: lengths below 2^40.
-/
import Derived.Test.YtlnfjkdacimblaaGreatDoorKW5M4
import Derived.Lib.Overlaps
import Derived.WalkSpells
import Derived.Lib.SliceRun
set_option linter.unusedVariables false
set_option linter.unusedSimpArgs false
set_option maxRecDepth 100000
set_option maxHeartbeats 2000000
namespace Go.Proofs.YtlnfjkdacimblaaGreatDoor
open Go.Abs
section
/-- The fields that an edit's operation uses, all others zero. -/
def xOf (e:GEdit):GEdit :=
 if e.op=1 then⟨e.op,sNil,sNil,sNil,0,0,sNil,sNil,[],e.obj⟩
 else if e.op=2 then⟨e.op,e.id,sNil,sNil,e.x,e.y,sNil,sNil,[],zObj⟩
 else if e.op=3 then⟨e.op,e.id,sNil,sNil,0,0,e.key,e.val,[],zObj⟩
 else if e.op=4 then⟨e.op,e.id,sNil,sNil,0,0,sNil,sNil,e.refs,zObj⟩
 else if e.op=5 then⟨e.op,e.id,sNil,sNil,0,0,sNil,sNil,[],zObj⟩
 else if e.op=6 then⟨e.op,e.id,e.other,e.node,0,0,sNil,sNil,[],zObj⟩
 else⟨e.op,e.id,e.other,sNil,0,0,sNil,sNil,[],zObj⟩
def okOf (e:GEdit):Bool :=
 if e.op=1 then gObj e.obj
 else gName e.id&&(if e.op=2 then onP e.x e.y else if e.op=3 then gName e.key&&decide ((e.val.size:Int)≤200)
  else if e.op=4 then decide ((0:Int) < (e.refs.length:Int))&&decide ((e.refs.length:Int)≤2000)&&e.refs.all gName
  else if e.op=5 then true else if e.op=6 then gName e.node&&gName e.other else gName e.other)
def gEditV (e:GEdit):Bool:=(decide (1≤e.op)&&decide (e.op≤7))&&(okOf e&&gSameE (xOf e) e)
def okE (e:GEdit):Prop:=(e.id.size < 4611686018427387904∧e.other.size < 4611686018427387904∧e.node.size < 4611686018427387904∧e.key.size < 4611686018427387904)∧(e.refs.length < 4611686018427387904∧∀ s∈e.refs,s.size < 4611686018427387904)∧okO e.obj
theorem okS_of {o:GObj} (h:okO o):okS o:=⟨h.2.2.1,h.2.1.1⟩
theorem okS_z:okS zObj:=⟨by decide,by decide⟩
theorem n1_c (s:ByteArray) (H:Heap) (hs:s.size < 4611686018427387904):ACalls Tryz.prog 90 [.pv (slStrs [s])] H (fun r H'=>r=bv (gName s)∧H'=H):=by
 have h:=names_c [s] H (by show 1 < _;omega) (by simpa using hs)
 simpa using h
theorem n2_c (s t:ByteArray) (H:Heap) (hs:s.size < 4611686018427387904) (ht:t.size < 4611686018427387904):ACalls Tryz.prog 90 [.pv (slStrs [s,t])] H (fun r H'=>r=bv (gName s&&gName t)∧H'=H):=by
 have h:=names_c [s,t] H (by show 2 < _;omega) (by simpa using ⟨hs,ht⟩)
 simpa using h
theorem editValid_c (e:GEdit) (H:Heap) (he:okE e):ACalls Tryz.prog 43 [av (encEdit e)] H (fun r H'=>r=bv (gEditV e)∧H'=H):=by
 refine ACalls.pure ?_ (by simp) H
 obtain ⟨⟨h1,h2,h3,h4⟩,⟨h5,h6⟩,h7⟩:=he
 have hrl:(e.refs.map encStr).length=e.refs.length:=List.length_map _
 refine Bd Tryz.func43 rfl Tryz.ntmps43<|Sq<|Rg<|Dd (by exact opd_box (id:=1) rfl rfl rfl rfl rfl)<|Dd as'<|Zz<|Sq<|Rg<|Dd (fr' fo51_0)<|Dd (l1' Tryz.isAgg3)<|Dd (fr' fo51_1)<|Dd (l1' Tryz.isAgg9)<|Dd (bu' bo51)<|Dd (by exact x_alloc (id:=3) rfl zo51 rfl rfl)<|Uu (sa' Tryz.sizeOf51)<|Zz<|Sq<|Rg<|Dd (fr' fo51_1)<|Dd (l1' Tryz.isAgg9)<|Dd (by exact x_buildSlice ([e.id].map encStr) rfl so46 rfl rfl rfl rfl rfl (by simp [encStr]))<|Dd (by exact opr_call rfl rfl Tryz.call90 rfl (n1_c e.id _ h1))<|Dd as'<|Zz<|Sq<|Sq<|Rg<|Dd (fr' fo51_0)<|Dd (l1' Tryz.isAgg3)<|Zz<|awp_block<|Sq<|Rg<|Dd eql'<|Dd as'<|Zz ?_
 refine Cn (fun hc1=>?_) fun hc1=>?_
 ·have ho:e.op=1:=of_decide_eq_true hc1
  have hx:xOf e=⟨e.op,sNil,sNil,sNil,0,0,sNil,sNil,[],e.obj⟩:=by rw [xOf,if_pos ho]
  have hk:okOf e=gObj e.obj:=by rw [okOf,if_pos ho]
  have hv:gEditV e=(gObj e.obj&&gSameE ⟨e.op,sNil,sNil,sNil,0,0,sNil,sNil,[],e.obj⟩ e):=by rw [gEditV,hx,hk,ho];rfl
  refine awp_drawc follows ?_
  refine Cr [1] (fun _ h=>fh fo51_8 h)<|Cr [1] (fun H1 hH=>by exact opd_loadn_ref rfl Tryz.isAgg49 Tryz.sizeOf49 rfl ((hH _ rfl).trans rfl) rfl rfl (by simp only [Zl,encTag,encObj,encStr,encEdit,zObj];rfl) rfl)<|Cr [1] (fun _ h=>fh fo51_8 h)<|Cr [1] (fun H1 hH=>by exact opd_loadn_ref rfl Tryz.isAgg49 Tryz.sizeOf49 rfl ((hH _ rfl).trans rfl) rfl rfl (by simp only [Zl,encTag,encObj,encStr,encEdit,zObj];rfl) rfl)<|Cr [] (fun H1 hH=>by exact opr_call rfl rfl Tryz.call91 rfl (objValid_c e.obj _ h7))<|Cr [3] (fun _ h=>fh fo51_1 h)<|Cp [3] (fun H1 hH=>by exact x_store1 rfl Tryz.sizeOf9 rfl rfl rfl ((hH _ rfl).trans rfl) rfl rfl (Nat.le_of_ble_eq_true rfl) rfl rfl)<|Cr [3] (fun _ h=>fh fo51_8 h)<|Cp [3] (fun H1 hH=>by exact x_store rfl Tryz.sizeOf49 rfl rfl rfl rfl ((hH _ rfl).trans rfl) rfl rfl (Nat.le_of_ble_eq_true rfl) rfl rfl)<|Cr [] (fun _ _=>as') ?_
  refine dc_nil ⟨by kernel_rfl,?_⟩
  refine Sq ?_
  refine awp_bool (t:=2) (n:=8) (X:=gObj e.obj&&gSameE ⟨e.op,sNil,sNil,sNil,0,0,sNil,sNil,[],e.obj⟩ e) ?_ ?_
  ·all_goals refine Dd mv' ?_
   all_goals refine Dd mv' ?_
   all_goals refine Sp 127 (fun h127=>?_) fun h127=>?_
   all_goals try contradiction
   all_goals first|refine Fo ?_|refine On (by exact opd_loadn_ref rfl Tryz.isAgg51 Tryz.sizeOf51 rfl rfl rfl rfl (by simp only [Zl,encTag,encObj,encStr,encEdit,zObj];rfl) rfl) ?_
   all_goals first|refine Fo ?_|refine On (by exact opd_loadn_ref rfl Tryz.isAgg51 Tryz.sizeOf51 rfl rfl rfl rfl (by simp only [Zl,encTag,encObj,encStr,encEdit,zObj];rfl) rfl) ?_
   all_goals first|refine Fo ?_|refine On (by exact opr_call rfl rfl Tryz.call92 rfl (sameE_c ⟨e.op,sNil,sNil,sNil,0,0,sNil,sNil,[],e.obj⟩ e _ (by show 0 < _;omega) (okS_of h7))) ?_
   all_goals refine Dd pk' ?_
   all_goals refine Dd as' ?_
   all_goals refine al_nil ?_
   all_goals(exact⟨⟨_,rfl,by(simp_all [gObj];done)⟩,rfl,rfl,rfl⟩)
  refine awp_ret ?_
  refine Rt ?_
  exact⟨by rw [hv],rfl⟩
 have ho1:¬ e.op=1:=of_decide_eq_false hc1
 refine Sq<|Rg<|Dd eql'<|Dd as'<|Zz ?_
 refine Cn (fun hc2=>?_) fun hc2=>?_
 ·have ho:e.op=2:=of_decide_eq_true hc2
  have hx:xOf e=⟨e.op,e.id,sNil,sNil,e.x,e.y,sNil,sNil,[],zObj⟩:=by rw [xOf,if_neg ho1,if_pos ho]
  have hk:okOf e=(gName e.id&&onP e.x e.y):=by rw [okOf,if_neg ho1,if_pos ho]
  have hb:(gName e.id&&decide (0≤min e.x e.y)&&decide (max e.x e.y < 1048576))=(gName e.id&&onP e.x e.y):=by rw [onP,Bool.and_assoc]
  have hv:gEditV e=((gName e.id&&decide (0≤min e.x e.y)&&decide (max e.x e.y < 1048576))&&gSameE ⟨e.op,e.id,sNil,sNil,e.x,e.y,sNil,sNil,[],zObj⟩ e):=by rw [gEditV,hx,hk,hb,ho];rfl
  apply awp_mergeW (t:=4) (n:=25) (X:=gName e.id&&decide (0≤min e.x e.y)&&decide (max e.x e.y < 1048576))
  ·cases hg30:(gName e.id:Bool)
   ·refine awp_drawc follows ?_
    refine Cr [1] (fun _ h=>fh fo51_4 h)<|Cr [1] (fun H1 hH=>by exact opd_loadn_ref rfl Tryz.isAgg45 Tryz.sizeOf45 rfl ((hH _ rfl).trans rfl) rfl rfl (by simp only [Zl,encTag,encObj,encStr,encEdit,zObj];rfl) rfl)<|Cr [] (fun _ _=>mv')<|Cr [] (fun _ _=>mv')<|Ot<|Ot<|Ot<|Ot<|Ot<|Ot<|Ot<|Ot<|Cr [] (fun _ _=>pk')<|Cr [] (fun _ _=>mv')<|Ot<|Ot<|Ot<|Ot<|Ot<|Ot<|Ot<|Ot<|Cr [] (fun _ _=>pk')<|Cr [3] (fun _ h=>fh fo51_4 h)<|Cp [3] (fun H1 hH=>by exact x_store rfl Tryz.sizeOf45 rfl rfl rfl rfl ((hH _ rfl).trans rfl) rfl rfl (Nat.le_of_ble_eq_true rfl) rfl rfl)<|Cr [] (fun _ _=>as') ?_
    refine dc_nil ⟨by kernel_rfl,?_⟩
    exact⟨rfl,⟨_,rfl,by rfl⟩,rfl,rfl,rfl⟩
   cases hg40:(decide (0≤min e.x e.y):Bool)
   ·refine awp_drawc follows ?_
    refine Cr [1] (fun _ h=>fh fo51_4 h)<|Cr [1] (fun H1 hH=>by exact opd_loadn_ref rfl Tryz.isAgg45 Tryz.sizeOf45 rfl ((hH _ rfl).trans rfl) rfl rfl (by simp only [Zl,encTag,encObj,encStr,encEdit,zObj];rfl) rfl)<|Cr [] (fun _ _=>mv')<|Cr [] (fun _ _=>mv') ?_
    refine dc_cons (r:=⟨_,some [1],[]⟩) (l_on_t rfl rfl rfl (by rfl) (fun H1 hH=>by exact(by exact opd_field_ref rfl fo51_4 rfl ((hH _ rfl).trans rfl) rfl rfl))) rfl ?_
    refine dc_cons (r:=⟨_,some [1],[]⟩) (l_on_t rfl rfl rfl (by rfl) (fun H1 hH=>by exact(by exact opd_field_ref rfl fo45_0 rfl ((hH _ rfl).trans rfl) rfl rfl))) rfl ?_
    refine dc_cons (r:=⟨_,some [1],[]⟩) (l_on_t rfl rfl rfl (by rfl) (fun H1 hH=>by exact(by exact opd_load1_ref rfl Tryz.isAgg3 rfl ((hH _ rfl).trans rfl) rfl rfl rfl))) rfl ?_
    refine dc_cons (r:=⟨_,some [1],[]⟩) (l_on_t rfl rfl rfl (by rfl) (fun H1 hH=>by exact(by exact opd_field_ref rfl fo51_4 rfl ((hH _ rfl).trans rfl) rfl rfl))) rfl ?_
    refine dc_cons (r:=⟨_,some [1],[]⟩) (l_on_t rfl rfl rfl (by rfl) (fun H1 hH=>by exact(by exact opd_field_ref rfl fo45_1 rfl ((hH _ rfl).trans rfl) rfl rfl))) rfl ?_
    refine dc_cons (r:=⟨_,some [1],[]⟩) (l_on_t rfl rfl rfl (by rfl) (fun H1 hH=>by exact(by exact opd_load1_ref rfl Tryz.isAgg3 rfl ((hH _ rfl).trans rfl) rfl rfl rfl))) rfl ?_
    refine dc_cons (r:=⟨_,some [],[]⟩) (l_on_t rfl rfl rfl (by rfl) (fun H1 hH=>by exact opd_min rfl rfl rfl rfl)) rfl ?_
    refine dc_cons (r:=⟨_,some [],[]⟩) (l_on_t rfl rfl rfl (by rfl) (fun H1 hH=>by exact opd_geq rfl rfl rfl)) rfl ?_
    refine Cr [] (fun _ _=>pk')<|Cr [] (fun _ _=>mv')<|Ot<|Ot<|Ot<|Ot<|Ot<|Ot<|Ot<|Ot<|Cr [] (fun _ _=>pf')<|Cr [3] (fun _ h=>fh fo51_4 h)<|Cp [3] (fun H1 hH=>by exact x_store rfl Tryz.sizeOf45 rfl rfl rfl rfl ((hH _ rfl).trans rfl) rfl rfl (Nat.le_of_ble_eq_true rfl) rfl rfl)<|Cr [] (fun _ _=>as') ?_
    refine dc_nil ⟨by kernel_rfl,?_⟩
    exact⟨rfl,⟨_,rfl,by rfl⟩,rfl,rfl,rfl⟩
   refine awp_drawc follows ?_
   refine Cr [1] (fun _ h=>fh fo51_4 h)<|Cr [1] (fun H1 hH=>by exact opd_loadn_ref rfl Tryz.isAgg45 Tryz.sizeOf45 rfl ((hH _ rfl).trans rfl) rfl rfl (by simp only [Zl,encTag,encObj,encStr,encEdit,zObj];rfl) rfl)<|Cr [] (fun _ _=>mv')<|Cr [] (fun _ _=>mv') ?_
   refine dc_cons (r:=⟨_,some [1],[]⟩) (l_on_t rfl rfl rfl (by rfl) (fun H1 hH=>by exact(by exact opd_field_ref rfl fo51_4 rfl ((hH _ rfl).trans rfl) rfl rfl))) rfl ?_
   refine dc_cons (r:=⟨_,some [1],[]⟩) (l_on_t rfl rfl rfl (by rfl) (fun H1 hH=>by exact(by exact opd_field_ref rfl fo45_0 rfl ((hH _ rfl).trans rfl) rfl rfl))) rfl ?_
   refine dc_cons (r:=⟨_,some [1],[]⟩) (l_on_t rfl rfl rfl (by rfl) (fun H1 hH=>by exact(by exact opd_load1_ref rfl Tryz.isAgg3 rfl ((hH _ rfl).trans rfl) rfl rfl rfl))) rfl ?_
   refine dc_cons (r:=⟨_,some [1],[]⟩) (l_on_t rfl rfl rfl (by rfl) (fun H1 hH=>by exact(by exact opd_field_ref rfl fo51_4 rfl ((hH _ rfl).trans rfl) rfl rfl))) rfl ?_
   refine dc_cons (r:=⟨_,some [1],[]⟩) (l_on_t rfl rfl rfl (by rfl) (fun H1 hH=>by exact(by exact opd_field_ref rfl fo45_1 rfl ((hH _ rfl).trans rfl) rfl rfl))) rfl ?_
   refine dc_cons (r:=⟨_,some [1],[]⟩) (l_on_t rfl rfl rfl (by rfl) (fun H1 hH=>by exact(by exact opd_load1_ref rfl Tryz.isAgg3 rfl ((hH _ rfl).trans rfl) rfl rfl rfl))) rfl ?_
   refine dc_cons (r:=⟨_,some [],[]⟩) (l_on_t rfl rfl rfl (by rfl) (fun H1 hH=>by exact opd_min rfl rfl rfl rfl)) rfl ?_
   refine dc_cons (r:=⟨_,some [],[]⟩) (l_on_t rfl rfl rfl (by rfl) (fun H1 hH=>by exact opd_geq rfl rfl rfl)) rfl ?_
   refine Cr [] (fun _ _=>pk')<|Cr [] (fun _ _=>mv') ?_
   refine dc_cons (r:=⟨_,some [1],[]⟩) (l_on_t rfl rfl rfl (by assumption) (fun H1 hH=>by exact(by exact opd_field_ref rfl fo51_4 rfl ((hH _ rfl).trans rfl) rfl rfl))) rfl ?_
   refine dc_cons (r:=⟨_,some [1],[]⟩) (l_on_t rfl rfl rfl (by assumption) (fun H1 hH=>by exact(by exact opd_field_ref rfl fo45_0 rfl ((hH _ rfl).trans rfl) rfl rfl))) rfl ?_
   refine dc_cons (r:=⟨_,some [1],[]⟩) (l_on_t rfl rfl rfl (by assumption) (fun H1 hH=>by exact(by exact opd_load1_ref rfl Tryz.isAgg3 rfl ((hH _ rfl).trans rfl) rfl rfl rfl))) rfl ?_
   refine dc_cons (r:=⟨_,some [1],[]⟩) (l_on_t rfl rfl rfl (by assumption) (fun H1 hH=>by exact(by exact opd_field_ref rfl fo51_4 rfl ((hH _ rfl).trans rfl) rfl rfl))) rfl ?_
   refine dc_cons (r:=⟨_,some [1],[]⟩) (l_on_t rfl rfl rfl (by assumption) (fun H1 hH=>by exact(by exact opd_field_ref rfl fo45_1 rfl ((hH _ rfl).trans rfl) rfl rfl))) rfl ?_
   refine dc_cons (r:=⟨_,some [1],[]⟩) (l_on_t rfl rfl rfl (by assumption) (fun H1 hH=>by exact(by exact opd_load1_ref rfl Tryz.isAgg3 rfl ((hH _ rfl).trans rfl) rfl rfl rfl))) rfl ?_
   refine dc_cons (r:=⟨_,some [],[]⟩) (l_on_t rfl rfl rfl (by assumption) (fun H1 hH=>by exact opd_max rfl rfl rfl rfl)) rfl ?_
   refine dc_cons (r:=⟨_,some [],[]⟩) (l_on_t rfl rfl rfl (by assumption) (fun H1 hH=>by exact opd_lss rfl rfl rfl)) rfl ?_
   refine Cr [] (fun _ _=>pt')<|Cr [3] (fun _ h=>fh fo51_4 h)<|Cp [3] (fun H1 hH=>by exact x_store rfl Tryz.sizeOf45 rfl rfl rfl rfl ((hH _ rfl).trans rfl) rfl rfl (Nat.le_of_ble_eq_true rfl) rfl rfl)<|Cr [] (fun _ _=>as') ?_
   refine dc_nil ⟨by kernel_rfl,?_⟩
   exact⟨rfl,⟨_,rfl,by rfl⟩,rfl,rfl,rfl⟩
  refine Sq ?_
  refine awp_bool (t:=2) (n:=8) (X:=(gName e.id&&decide (0≤min e.x e.y)&&decide (max e.x e.y < 1048576))&&gSameE ⟨e.op,e.id,sNil,sNil,e.x,e.y,sNil,sNil,[],zObj⟩ e) ?_ ?_
  ·all_goals refine Dd mv' ?_
   all_goals refine Dd mv' ?_
   all_goals refine Sp 127 (fun h127=>?_) fun h127=>?_
   all_goals try contradiction
   all_goals first|refine Fo ?_|refine On (by exact opd_loadn_ref rfl Tryz.isAgg51 Tryz.sizeOf51 rfl rfl rfl rfl (by simp only [Zl,encTag,encObj,encStr,encEdit,zObj];rfl) rfl) ?_
   all_goals first|refine Fo ?_|refine On (by exact opd_loadn_ref rfl Tryz.isAgg51 Tryz.sizeOf51 rfl rfl rfl rfl (by simp only [Zl,encTag,encObj,encStr,encEdit,zObj];rfl) rfl) ?_
   all_goals first|refine Fo ?_|refine On (by exact opr_call rfl rfl Tryz.call92 rfl (sameE_c ⟨e.op,e.id,sNil,sNil,e.x,e.y,sNil,sNil,[],zObj⟩ e _ (by(show 0 < _;omega)) okS_z)) ?_
   all_goals refine Dd pk' ?_
   all_goals refine Dd as' ?_
   all_goals refine al_nil ?_
   all_goals(exact⟨⟨_,rfl,by(rw [h127];rfl)⟩,rfl,rfl,rfl⟩)
  refine awp_ret ?_
  refine Rt ?_
  exact⟨by rw [hv],rfl⟩
 have ho2:¬ e.op=2:=of_decide_eq_false hc2
 refine Sq<|Rg<|Dd eql'<|Dd as'<|Zz ?_
 refine Cn (fun hc3=>?_) fun hc3=>?_
 ·have ho:e.op=3:=of_decide_eq_true hc3
  have hx:xOf e=⟨e.op,e.id,sNil,sNil,0,0,e.key,e.val,[],zObj⟩:=by rw [xOf,if_neg ho1,if_neg ho2,if_pos ho]
  have hk:okOf e=(gName e.id&&(gName e.key&&decide ((e.val.size:Int)≤200))):=by rw [okOf,if_neg ho1,if_neg ho2,if_pos ho]
  have hb:(gName e.id&&gName e.key&&decide ((e.val.size:Int)≤200))=(gName e.id&&(gName e.key&&decide ((e.val.size:Int)≤200))):=by rw [Bool.and_assoc]
  have hv:gEditV e=((gName e.id&&gName e.key&&decide ((e.val.size:Int)≤200))&&gSameE ⟨e.op,e.id,sNil,sNil,0,0,e.key,e.val,[],zObj⟩ e):=by rw [gEditV,hx,hk,hb,ho];rfl
  apply awp_mergeW (t:=4) (n:=20) (X:=gName e.id&&gName e.key&&decide ((e.val.size:Int)≤200))
  ·cases hg58:(gName e.id:Bool)
   ·refine awp_drawc follows ?_
    refine Cr [1] (fun _ h=>fh fo51_5 h)<|Cr [1] (fun _ h=>lh Tryz.isAgg9 h)<|Cr [1] (fun _ h=>fh fo51_6 h)<|Cr [1] (fun _ h=>lh Tryz.isAgg9 h)<|Cr [] (fun _ _=>mv')<|Cr [] (fun _ _=>mv')<|Ot<|Ot<|Ot<|Ot<|Cr [] (fun _ _=>pk')<|Cr [] (fun _ _=>mv')<|Ot<|Ot<|Ot<|Ot<|Cr [] (fun _ _=>pk')<|Cr [3] (fun _ h=>fh fo51_5 h)<|Cp [3] (fun H1 hH=>by exact x_store1 rfl Tryz.sizeOf9 rfl rfl rfl ((hH _ rfl).trans rfl) rfl rfl (Nat.le_of_ble_eq_true rfl) rfl rfl)<|Cr [3] (fun _ h=>fh fo51_6 h)<|Cp [3] (fun H1 hH=>by exact x_store1 rfl Tryz.sizeOf9 rfl rfl rfl ((hH _ rfl).trans rfl) rfl rfl (Nat.le_of_ble_eq_true rfl) rfl rfl)<|Cr [] (fun _ _=>as') ?_
    refine dc_nil ⟨by kernel_rfl,?_⟩
    exact⟨rfl,⟨_,rfl,by rfl⟩,rfl,rfl,rfl⟩
   cases hg64:(gName e.key:Bool)
   ·refine awp_drawc follows ?_
    refine Cr [1] (fun _ h=>fh fo51_5 h)<|Cr [1] (fun _ h=>lh Tryz.isAgg9 h)<|Cr [1] (fun _ h=>fh fo51_6 h)<|Cr [1] (fun _ h=>lh Tryz.isAgg9 h)<|Cr [] (fun _ _=>mv')<|Cr [] (fun _ _=>mv') ?_
    refine dc_cons (r:=⟨_,some [1],[]⟩) (l_on_t rfl rfl rfl (by rfl) (fun H1 hH=>by exact(by exact opd_field_ref rfl fo51_5 rfl ((hH _ rfl).trans rfl) rfl rfl))) rfl ?_
    refine dc_cons (r:=⟨_,some [1],[]⟩) (l_on_t rfl rfl rfl (by rfl) (fun H1 hH=>by exact(by exact opd_load1_ref rfl Tryz.isAgg9 rfl ((hH _ rfl).trans rfl) rfl rfl rfl))) rfl ?_
    refine dc_cons (r:=⟨_,some [],[]⟩) (l_on_t rfl rfl rfl (by rfl) (fun H1 hH=>by exact(by exact x_buildSlice ([e.key].map encStr) rfl so46 rfl rfl rfl rfl rfl (by simp [encStr])))) rfl ?_
    refine dc_cons (r:=⟨_,some [],[]⟩) (l_on_t rfl rfl rfl (by rfl) (fun H1 hH=>by exact opr_call rfl rfl Tryz.call90 rfl (n1_c e.key _ h4))) rfl ?_
    refine Cr [] (fun _ _=>pk')<|Cr [] (fun _ _=>mv')<|Ot<|Ot<|Ot<|Ot<|Cr [] (fun _ _=>pf')<|Cr [3] (fun _ h=>fh fo51_5 h)<|Cp [3] (fun H1 hH=>by exact x_store1 rfl Tryz.sizeOf9 rfl rfl rfl ((hH _ rfl).trans rfl) rfl rfl (Nat.le_of_ble_eq_true rfl) rfl rfl)<|Cr [3] (fun _ h=>fh fo51_6 h)<|Cp [3] (fun H1 hH=>by exact x_store1 rfl Tryz.sizeOf9 rfl rfl rfl ((hH _ rfl).trans rfl) rfl rfl (Nat.le_of_ble_eq_true rfl) rfl rfl)<|Cr [] (fun _ _=>as') ?_
    refine dc_nil ⟨by kernel_rfl,?_⟩
    exact⟨rfl,⟨_,rfl,by rfl⟩,rfl,rfl,rfl⟩
   refine awp_drawc follows ?_
   refine Cr [1] (fun _ h=>fh fo51_5 h)<|Cr [1] (fun _ h=>lh Tryz.isAgg9 h)<|Cr [1] (fun _ h=>fh fo51_6 h)<|Cr [1] (fun _ h=>lh Tryz.isAgg9 h)<|Cr [] (fun _ _=>mv')<|Cr [] (fun _ _=>mv') ?_
   refine dc_cons (r:=⟨_,some [1],[]⟩) (l_on_t rfl rfl rfl (by rfl) (fun H1 hH=>by exact(by exact opd_field_ref rfl fo51_5 rfl ((hH _ rfl).trans rfl) rfl rfl))) rfl ?_
   refine dc_cons (r:=⟨_,some [1],[]⟩) (l_on_t rfl rfl rfl (by rfl) (fun H1 hH=>by exact(by exact opd_load1_ref rfl Tryz.isAgg9 rfl ((hH _ rfl).trans rfl) rfl rfl rfl))) rfl ?_
   refine dc_cons (r:=⟨_,some [],[]⟩) (l_on_t rfl rfl rfl (by rfl) (fun H1 hH=>by exact(by exact x_buildSlice ([e.key].map encStr) rfl so46 rfl rfl rfl rfl rfl (by simp [encStr])))) rfl ?_
   refine dc_cons (r:=⟨_,some [],[]⟩) (l_on_t rfl rfl rfl (by rfl) (fun H1 hH=>by exact opr_call rfl rfl Tryz.call90 rfl (n1_c e.key _ h4))) rfl ?_
   refine Cr [] (fun _ _=>pk')<|Cr [] (fun _ _=>mv') ?_
   refine dc_cons (r:=⟨_,some [1],[]⟩) (l_on_t rfl rfl rfl (by assumption) (fun H1 hH=>by exact(by exact opd_field_ref rfl fo51_6 rfl ((hH _ rfl).trans rfl) rfl rfl))) rfl ?_
   refine dc_cons (r:=⟨_,some [1],[]⟩) (l_on_t rfl rfl rfl (by assumption) (fun H1 hH=>by exact(by exact opd_load1_ref rfl Tryz.isAgg9 rfl ((hH _ rfl).trans rfl) rfl rfl rfl))) rfl ?_
   refine dc_cons (r:=⟨_,some [],[]⟩) (l_on_t rfl rfl rfl (by assumption) (fun H1 hH=>by exact opd_len_str rfl Tryz.underlying9 rfl)) rfl ?_
   refine dc_cons (r:=⟨_,some [],[]⟩) (l_on_t rfl rfl rfl (by assumption) (fun H1 hH=>by exact opd_leq rfl rfl rfl)) rfl ?_
   refine Cr [] (fun _ _=>pt')<|Cr [3] (fun _ h=>fh fo51_5 h)<|Cp [3] (fun H1 hH=>by exact x_store1 rfl Tryz.sizeOf9 rfl rfl rfl ((hH _ rfl).trans rfl) rfl rfl (Nat.le_of_ble_eq_true rfl) rfl rfl)<|Cr [3] (fun _ h=>fh fo51_6 h)<|Cp [3] (fun H1 hH=>by exact x_store1 rfl Tryz.sizeOf9 rfl rfl rfl ((hH _ rfl).trans rfl) rfl rfl (Nat.le_of_ble_eq_true rfl) rfl rfl)<|Cr [] (fun _ _=>as') ?_
   refine dc_nil ⟨by kernel_rfl,?_⟩
   exact⟨rfl,⟨_,rfl,by rfl⟩,rfl,rfl,rfl⟩
  refine Sq ?_
  refine awp_bool (t:=2) (n:=8) (X:=(gName e.id&&gName e.key&&decide ((e.val.size:Int)≤200))&&gSameE ⟨e.op,e.id,sNil,sNil,0,0,e.key,e.val,[],zObj⟩ e) ?_ ?_
  ·all_goals refine Dd mv' ?_
   all_goals refine Dd mv' ?_
   all_goals refine Sp 127 (fun h127=>?_) fun h127=>?_
   all_goals try contradiction
   all_goals first|refine Fo ?_|refine On (by exact opd_loadn_ref rfl Tryz.isAgg51 Tryz.sizeOf51 rfl rfl rfl rfl (by simp only [Zl,encTag,encObj,encStr,encEdit,zObj];rfl) rfl) ?_
   all_goals first|refine Fo ?_|refine On (by exact opd_loadn_ref rfl Tryz.isAgg51 Tryz.sizeOf51 rfl rfl rfl rfl (by simp only [Zl,encTag,encObj,encStr,encEdit,zObj];rfl) rfl) ?_
   all_goals first|refine Fo ?_|refine On (by exact opr_call rfl rfl Tryz.call92 rfl (sameE_c ⟨e.op,e.id,sNil,sNil,0,0,e.key,e.val,[],zObj⟩ e _ (by(show 0 < _;omega)) okS_z)) ?_
   all_goals refine Dd pk' ?_
   all_goals refine Dd as' ?_
   all_goals refine al_nil ?_
   all_goals(exact⟨⟨_,rfl,by(rw [h127];rfl)⟩,rfl,rfl,rfl⟩)
  refine awp_ret ?_
  refine Rt ?_
  exact⟨by rw [hv],rfl⟩
 have ho3:¬ e.op=3:=of_decide_eq_false hc3
 refine Sq<|Rg<|Dd eql'<|Dd as'<|Zz ?_
 refine Cn (fun hc4=>?_) fun hc4=>?_
 ·have ho:e.op=4:=of_decide_eq_true hc4
  have hx:xOf e=⟨e.op,e.id,sNil,sNil,0,0,sNil,sNil,e.refs,zObj⟩:=by rw [xOf,if_neg ho1,if_neg ho2,if_neg ho3,if_pos ho]
  have hk:okOf e=(gName e.id&&(decide ((0:Int) < (e.refs.length:Int))&&decide ((e.refs.length:Int)≤2000)&&e.refs.all gName)):=by rw [okOf,if_neg ho1,if_neg ho2,if_neg ho3,if_pos ho]
  have hb:(gName e.id&&decide ((0:Int) < ((e.refs.map encStr).length:Int))&&decide (((e.refs.map encStr).length:Int)≤2000)&&e.refs.all gName)=(gName e.id&&(decide ((0:Int) < (e.refs.length:Int))&&decide ((e.refs.length:Int)≤2000)&&e.refs.all gName)):=by rw [hrl];simp only [Bool.and_assoc]
  have hv:gEditV e=((gName e.id&&decide ((0:Int) < ((e.refs.map encStr).length:Int))&&decide (((e.refs.map encStr).length:Int)≤2000)&&e.refs.all gName)&&gSameE ⟨e.op,e.id,sNil,sNil,0,0,sNil,sNil,e.refs,zObj⟩ e):=by rw [gEditV,hx,hk,hb,ho];rfl
  apply awp_mergeW (t:=4) (n:=22) (X:=gName e.id&&decide ((0:Int) < ((e.refs.map encStr).length:Int))&&decide (((e.refs.map encStr).length:Int)≤2000)&&e.refs.all gName)
  ·cases hg77:(gName e.id:Bool)
   ·refine awp_drawc follows ?_
    refine Cr [1] (fun _ h=>fh fo51_7 h)<|Cr [1] (fun _ h=>lh Tryz.isAgg46 h)<|Cr [] (fun _ _=>mv')<|Cr [] (fun _ _=>mv')<|Ot<|Ot<|Ot<|Ot<|Cr [] (fun _ _=>pk')<|Cr [] (fun _ _=>mv')<|Ot<|Ot<|Ot<|Ot<|Cr [] (fun _ _=>pk')<|Cr [] (fun _ _=>mv')<|Ot<|Ot<|Ot<|Cr [] (fun _ _=>pk')<|Cr [3] (fun _ h=>fh fo51_7 h)<|Cp [3] (fun H1 hH=>by exact x_store1 rfl Tryz.sizeOf46 rfl rfl rfl ((hH _ rfl).trans rfl) rfl rfl (Nat.le_of_ble_eq_true rfl) rfl rfl)<|Cr [] (fun _ _=>as') ?_
    refine dc_nil ⟨by kernel_rfl,?_⟩
    exact⟨rfl,⟨_,rfl,by rfl⟩,rfl,rfl,rfl⟩
   cases hg83:(decide ((0:Int) < ((e.refs.map encStr).length:Int)):Bool)
   ·refine awp_drawc follows ?_
    refine Cr [1] (fun _ h=>fh fo51_7 h)<|Cr [1] (fun _ h=>lh Tryz.isAgg46 h)<|Cr [] (fun _ _=>mv')<|Cr [] (fun _ _=>mv') ?_
    refine dc_cons (r:=⟨_,some [1],[]⟩) (l_on_t rfl rfl rfl (by rfl) (fun H1 hH=>by exact(by exact opd_field_ref rfl fo51_7 rfl ((hH _ rfl).trans rfl) rfl rfl))) rfl ?_
    refine dc_cons (r:=⟨_,some [1],[]⟩) (l_on_t rfl rfl rfl (by rfl) (fun H1 hH=>by exact(by exact opd_load1_ref rfl Tryz.isAgg46 rfl ((hH _ rfl).trans rfl) rfl rfl rfl))) rfl ?_
    refine dc_cons (r:=⟨_,some [],[]⟩) (l_on_t rfl rfl rfl (by rfl) (fun H1 hH=>by exact(by exact opd_len_sl rfl Tryz.underlying46 rfl))) rfl ?_
    refine dc_cons (r:=⟨_,some [],[]⟩) (l_on_t rfl rfl rfl (by rfl) (fun H1 hH=>by exact opd_gtr rfl rfl rfl)) rfl ?_
    refine Cr [] (fun _ _=>pk')<|Cr [] (fun _ _=>mv')<|Ot<|Ot<|Ot<|Ot<|Cr [] (fun _ _=>pf')<|Cr [] (fun _ _=>mv')<|Ot<|Ot<|Ot<|Cr [] (fun _ _=>pk')<|Cr [3] (fun _ h=>fh fo51_7 h)<|Cp [3] (fun H1 hH=>by exact x_store1 rfl Tryz.sizeOf46 rfl rfl rfl ((hH _ rfl).trans rfl) rfl rfl (Nat.le_of_ble_eq_true rfl) rfl rfl)<|Cr [] (fun _ _=>as') ?_
    refine dc_nil ⟨by kernel_rfl,?_⟩
    exact⟨rfl,⟨_,rfl,by rfl⟩,rfl,rfl,rfl⟩
   cases hg89:(decide (((e.refs.map encStr).length:Int)≤2000):Bool)
   ·refine awp_drawc follows ?_
    refine Cr [1] (fun _ h=>fh fo51_7 h)<|Cr [1] (fun _ h=>lh Tryz.isAgg46 h)<|Cr [] (fun _ _=>mv')<|Cr [] (fun _ _=>mv') ?_
    refine dc_cons (r:=⟨_,some [1],[]⟩) (l_on_t rfl rfl rfl (by rfl) (fun H1 hH=>by exact(by exact opd_field_ref rfl fo51_7 rfl ((hH _ rfl).trans rfl) rfl rfl))) rfl ?_
    refine dc_cons (r:=⟨_,some [1],[]⟩) (l_on_t rfl rfl rfl (by rfl) (fun H1 hH=>by exact(by exact opd_load1_ref rfl Tryz.isAgg46 rfl ((hH _ rfl).trans rfl) rfl rfl rfl))) rfl ?_
    refine dc_cons (r:=⟨_,some [],[]⟩) (l_on_t rfl rfl rfl (by rfl) (fun H1 hH=>by exact(by exact opd_len_sl rfl Tryz.underlying46 rfl))) rfl ?_
    refine dc_cons (r:=⟨_,some [],[]⟩) (l_on_t rfl rfl rfl (by rfl) (fun H1 hH=>by exact opd_gtr rfl rfl rfl)) rfl ?_
    refine Cr [] (fun _ _=>pk')<|Cr [] (fun _ _=>mv') ?_
    refine dc_cons (r:=⟨_,some [1],[]⟩) (l_on_t rfl rfl rfl (by assumption) (fun H1 hH=>by exact(by exact opd_field_ref rfl fo51_7 rfl ((hH _ rfl).trans rfl) rfl rfl))) rfl ?_
    refine dc_cons (r:=⟨_,some [1],[]⟩) (l_on_t rfl rfl rfl (by assumption) (fun H1 hH=>by exact(by exact opd_load1_ref rfl Tryz.isAgg46 rfl ((hH _ rfl).trans rfl) rfl rfl rfl))) rfl ?_
    refine dc_cons (r:=⟨_,some [],[]⟩) (l_on_t rfl rfl rfl (by assumption) (fun H1 hH=>by exact(by exact opd_len_sl rfl Tryz.underlying46 rfl))) rfl ?_
    refine dc_cons (r:=⟨_,some [],[]⟩) (l_on_t rfl rfl rfl (by assumption) (fun H1 hH=>by exact opd_leq rfl rfl rfl)) rfl ?_
    refine Cr [] (fun _ _=>pt')<|Cr [] (fun _ _=>mv')<|Ot<|Ot<|Ot<|Cr [] (fun _ _=>pf')<|Cr [3] (fun _ h=>fh fo51_7 h)<|Cp [3] (fun H1 hH=>by exact x_store1 rfl Tryz.sizeOf46 rfl rfl rfl ((hH _ rfl).trans rfl) rfl rfl (Nat.le_of_ble_eq_true rfl) rfl rfl)<|Cr [] (fun _ _=>as') ?_
    refine dc_nil ⟨by kernel_rfl,?_⟩
    exact⟨rfl,⟨_,rfl,by rfl⟩,rfl,rfl,rfl⟩
   refine awp_drawc follows ?_
   refine Cr [1] (fun _ h=>fh fo51_7 h)<|Cr [1] (fun _ h=>lh Tryz.isAgg46 h)<|Cr [] (fun _ _=>mv')<|Cr [] (fun _ _=>mv') ?_
   refine dc_cons (r:=⟨_,some [1],[]⟩) (l_on_t rfl rfl rfl (by rfl) (fun H1 hH=>by exact(by exact opd_field_ref rfl fo51_7 rfl ((hH _ rfl).trans rfl) rfl rfl))) rfl ?_
   refine dc_cons (r:=⟨_,some [1],[]⟩) (l_on_t rfl rfl rfl (by rfl) (fun H1 hH=>by exact(by exact opd_load1_ref rfl Tryz.isAgg46 rfl ((hH _ rfl).trans rfl) rfl rfl rfl))) rfl ?_
   refine dc_cons (r:=⟨_,some [],[]⟩) (l_on_t rfl rfl rfl (by rfl) (fun H1 hH=>by exact(by exact opd_len_sl rfl Tryz.underlying46 rfl))) rfl ?_
   refine dc_cons (r:=⟨_,some [],[]⟩) (l_on_t rfl rfl rfl (by rfl) (fun H1 hH=>by exact opd_gtr rfl rfl rfl)) rfl ?_
   refine Cr [] (fun _ _=>pk')<|Cr [] (fun _ _=>mv') ?_
   refine dc_cons (r:=⟨_,some [1],[]⟩) (l_on_t rfl rfl rfl (by assumption) (fun H1 hH=>by exact(by exact opd_field_ref rfl fo51_7 rfl ((hH _ rfl).trans rfl) rfl rfl))) rfl ?_
   refine dc_cons (r:=⟨_,some [1],[]⟩) (l_on_t rfl rfl rfl (by assumption) (fun H1 hH=>by exact(by exact opd_load1_ref rfl Tryz.isAgg46 rfl ((hH _ rfl).trans rfl) rfl rfl rfl))) rfl ?_
   refine dc_cons (r:=⟨_,some [],[]⟩) (l_on_t rfl rfl rfl (by assumption) (fun H1 hH=>by exact(by exact opd_len_sl rfl Tryz.underlying46 rfl))) rfl ?_
   refine dc_cons (r:=⟨_,some [],[]⟩) (l_on_t rfl rfl rfl (by assumption) (fun H1 hH=>by exact opd_leq rfl rfl rfl)) rfl ?_
   refine Cr [] (fun _ _=>pt')<|Cr [] (fun _ _=>mv') ?_
   refine dc_cons (r:=⟨_,some [1],[]⟩) (l_on_t rfl rfl rfl (by assumption) (fun H1 hH=>by exact(by exact opd_field_ref rfl fo51_7 rfl ((hH _ rfl).trans rfl) rfl rfl))) rfl ?_
   refine dc_cons (r:=⟨_,some [1],[]⟩) (l_on_t rfl rfl rfl (by assumption) (fun H1 hH=>by exact(by exact opd_load1_ref rfl Tryz.isAgg46 rfl ((hH _ rfl).trans rfl) rfl rfl rfl))) rfl ?_
   refine dc_cons (r:=⟨_,some [],[]⟩) (l_on_t rfl rfl rfl (by assumption) (fun H1 hH=>by exact opr_call rfl rfl Tryz.call90 rfl (names_c e.refs _ h5 h6))) rfl ?_
   refine Cr [] (fun _ _=>pt')<|Cr [3] (fun _ h=>fh fo51_7 h)<|Cp [3] (fun H1 hH=>by exact x_store1 rfl Tryz.sizeOf46 rfl rfl rfl ((hH _ rfl).trans rfl) rfl rfl (Nat.le_of_ble_eq_true rfl) rfl rfl)<|Cr [] (fun _ _=>as') ?_
   refine dc_nil ⟨by kernel_rfl,?_⟩
   exact⟨rfl,⟨_,rfl,by rfl⟩,rfl,rfl,rfl⟩
  refine Sq ?_
  refine awp_bool (t:=2) (n:=8) (X:=(gName e.id&&decide ((0:Int) < ((e.refs.map encStr).length:Int))&&decide (((e.refs.map encStr).length:Int)≤2000)&&e.refs.all gName)&&gSameE ⟨e.op,e.id,sNil,sNil,0,0,sNil,sNil,e.refs,zObj⟩ e) ?_ ?_
  ·all_goals refine Dd mv' ?_
   all_goals refine Dd mv' ?_
   all_goals refine Sp 127 (fun h127=>?_) fun h127=>?_
   all_goals try contradiction
   all_goals first|refine Fo ?_|refine On (by exact opd_loadn_ref rfl Tryz.isAgg51 Tryz.sizeOf51 rfl rfl rfl rfl (by simp only [Zl,encTag,encObj,encStr,encEdit,zObj];rfl) rfl) ?_
   all_goals first|refine Fo ?_|refine On (by exact opd_loadn_ref rfl Tryz.isAgg51 Tryz.sizeOf51 rfl rfl rfl rfl (by simp only [Zl,encTag,encObj,encStr,encEdit,zObj];rfl) rfl) ?_
   all_goals first|refine Fo ?_|refine On (by exact opr_call rfl rfl Tryz.call92 rfl (sameE_c ⟨e.op,e.id,sNil,sNil,0,0,sNil,sNil,e.refs,zObj⟩ e _ (by exact h5) okS_z)) ?_
   all_goals refine Dd pk' ?_
   all_goals refine Dd as' ?_
   all_goals refine al_nil ?_
   all_goals(exact⟨⟨_,rfl,by(rw [h127];rfl)⟩,rfl,rfl,rfl⟩)
  refine awp_ret ?_
  refine Rt ?_
  exact⟨by rw [hv],rfl⟩
 have ho4:¬ e.op=4:=of_decide_eq_false hc4
 refine Sq<|Rg<|Dd eql'<|Dd as'<|Zz ?_
 refine Cn (fun hc5=>?_) fun hc5=>?_
 ·have ho:e.op=5:=of_decide_eq_true hc5
  have hx:xOf e=⟨e.op,e.id,sNil,sNil,0,0,sNil,sNil,[],zObj⟩:=by rw [xOf,if_neg ho1,if_neg ho2,if_neg ho3,if_neg ho4,if_pos ho]
  have hk:okOf e=(gName e.id):=by rw [okOf,if_neg ho1,if_neg ho2,if_neg ho3,if_neg ho4,if_pos ho];simp
  have hv:gEditV e=((gName e.id)&&gSameE ⟨e.op,e.id,sNil,sNil,0,0,sNil,sNil,[],zObj⟩ e):=by rw [gEditV,hx,hk,ho];rfl
  refine awp_skip<|Sq ?_
  refine awp_bool (t:=2) (n:=8) (X:=(gName e.id)&&gSameE ⟨e.op,e.id,sNil,sNil,0,0,sNil,sNil,[],zObj⟩ e) ?_ ?_
  ·all_goals refine Dd mv' ?_
   all_goals refine Dd mv' ?_
   all_goals refine Sp 127 (fun h127=>?_) fun h127=>?_
   all_goals try contradiction
   all_goals first|refine Fo ?_|refine On (by exact opd_loadn_ref rfl Tryz.isAgg51 Tryz.sizeOf51 rfl rfl rfl rfl (by simp only [Zl,encTag,encObj,encStr,encEdit,zObj];rfl) rfl) ?_
   all_goals first|refine Fo ?_|refine On (by exact opd_loadn_ref rfl Tryz.isAgg51 Tryz.sizeOf51 rfl rfl rfl rfl (by simp only [Zl,encTag,encObj,encStr,encEdit,zObj];rfl) rfl) ?_
   all_goals first|refine Fo ?_|refine On (by exact opr_call rfl rfl Tryz.call92 rfl (sameE_c ⟨e.op,e.id,sNil,sNil,0,0,sNil,sNil,[],zObj⟩ e _ (by(show 0 < _;omega)) okS_z)) ?_
   all_goals refine Dd pk' ?_
   all_goals refine Dd as' ?_
   all_goals refine al_nil ?_
   all_goals(exact⟨⟨_,rfl,by(rw [h127];rfl)⟩,rfl,rfl,rfl⟩)
  refine awp_ret ?_
  refine Rt ?_
  exact⟨by rw [hv],rfl⟩
 have ho5:¬ e.op=5:=of_decide_eq_false hc5
 refine Sq<|Rg<|Dd eql'<|Dd as'<|Zz ?_
 refine Cn (fun hc6=>?_) fun hc6=>?_
 ·have ho:e.op=6:=of_decide_eq_true hc6
  have hx:xOf e=⟨e.op,e.id,e.other,e.node,0,0,sNil,sNil,[],zObj⟩:=by rw [xOf,if_neg ho1,if_neg ho2,if_neg ho3,if_neg ho4,if_neg ho5,if_pos ho]
  have hk:okOf e=(gName e.id&&(gName e.node&&gName e.other)):=by rw [okOf,if_neg ho1,if_neg ho2,if_neg ho3,if_neg ho4,if_neg ho5,if_pos ho]
  have hb:(gName e.id&&(gName e.node&&gName e.other))=(gName e.id&&(gName e.node&&gName e.other)):=by rfl
  have hv:gEditV e=((gName e.id&&(gName e.node&&gName e.other))&&gSameE ⟨e.op,e.id,e.other,e.node,0,0,sNil,sNil,[],zObj⟩ e):=by rw [gEditV,hx,hk,hb,ho];rfl
  apply awp_mergeW (t:=4) (n:=16) (X:=gName e.id&&(gName e.node&&gName e.other))
  ·cases hg104:(gName e.id:Bool)
   ·refine awp_drawc follows ?_
    refine Cr [1] (fun _ h=>fh fo51_3 h)<|Cr [1] (fun _ h=>lh Tryz.isAgg9 h)<|Cr [1] (fun _ h=>fh fo51_2 h)<|Cr [1] (fun _ h=>lh Tryz.isAgg9 h)<|Cr [] (fun _ _=>mv')<|Cr [] (fun _ _=>mv')<|Ot<|Ot<|Ot<|Ot<|Ot<|Ot<|Cr [] (fun _ _=>pk')<|Cr [3] (fun _ h=>fh fo51_3 h)<|Cp [3] (fun H1 hH=>by exact x_store1 rfl Tryz.sizeOf9 rfl rfl rfl ((hH _ rfl).trans rfl) rfl rfl (Nat.le_of_ble_eq_true rfl) rfl rfl)<|Cr [3] (fun _ h=>fh fo51_2 h)<|Cp [3] (fun H1 hH=>by exact x_store1 rfl Tryz.sizeOf9 rfl rfl rfl ((hH _ rfl).trans rfl) rfl rfl (Nat.le_of_ble_eq_true rfl) rfl rfl)<|Cr [] (fun _ _=>as') ?_
    refine dc_nil ⟨by kernel_rfl,?_⟩
    exact⟨rfl,⟨_,rfl,by rfl⟩,rfl,rfl,rfl⟩
   refine awp_drawc follows ?_
   refine Cr [1] (fun _ h=>fh fo51_3 h)<|Cr [1] (fun _ h=>lh Tryz.isAgg9 h)<|Cr [1] (fun _ h=>fh fo51_2 h)<|Cr [1] (fun _ h=>lh Tryz.isAgg9 h)<|Cr [] (fun _ _=>mv')<|Cr [] (fun _ _=>mv') ?_
   refine dc_cons (r:=⟨_,some [1],[]⟩) (l_on_t rfl rfl rfl (by rfl) (fun H1 hH=>by exact(by exact opd_field_ref rfl fo51_3 rfl ((hH _ rfl).trans rfl) rfl rfl))) rfl ?_
   refine dc_cons (r:=⟨_,some [1],[]⟩) (l_on_t rfl rfl rfl (by rfl) (fun H1 hH=>by exact(by exact opd_load1_ref rfl Tryz.isAgg9 rfl ((hH _ rfl).trans rfl) rfl rfl rfl))) rfl ?_
   refine dc_cons (r:=⟨_,some [1],[]⟩) (l_on_t rfl rfl rfl (by rfl) (fun H1 hH=>by exact(by exact opd_field_ref rfl fo51_2 rfl ((hH _ rfl).trans rfl) rfl rfl))) rfl ?_
   refine dc_cons (r:=⟨_,some [1],[]⟩) (l_on_t rfl rfl rfl (by rfl) (fun H1 hH=>by exact(by exact opd_load1_ref rfl Tryz.isAgg9 rfl ((hH _ rfl).trans rfl) rfl rfl rfl))) rfl ?_
   refine dc_cons (r:=⟨_,some [],[]⟩) (l_on_t rfl rfl rfl (by rfl) (fun H1 hH=>by exact(by exact x_buildSlice ([e.node,e.other].map encStr) rfl so46 rfl rfl rfl rfl rfl (by simp [encStr])))) rfl ?_
   refine dc_cons (r:=⟨_,some [],[]⟩) (l_on_t rfl rfl rfl (by rfl) (fun H1 hH=>by exact opr_call rfl rfl Tryz.call90 rfl (n2_c e.node e.other _ h3 h2))) rfl ?_
   refine Cr [] (fun _ _=>pk')<|Cr [3] (fun _ h=>fh fo51_3 h)<|Cp [3] (fun H1 hH=>by exact x_store1 rfl Tryz.sizeOf9 rfl rfl rfl ((hH _ rfl).trans rfl) rfl rfl (Nat.le_of_ble_eq_true rfl) rfl rfl)<|Cr [3] (fun _ h=>fh fo51_2 h)<|Cp [3] (fun H1 hH=>by exact x_store1 rfl Tryz.sizeOf9 rfl rfl rfl ((hH _ rfl).trans rfl) rfl rfl (Nat.le_of_ble_eq_true rfl) rfl rfl)<|Cr [] (fun _ _=>as') ?_
   refine dc_nil ⟨by kernel_rfl,?_⟩
   exact⟨rfl,⟨_,rfl,by rfl⟩,rfl,rfl,rfl⟩
  refine Sq ?_
  refine awp_bool (t:=2) (n:=8) (X:=(gName e.id&&(gName e.node&&gName e.other))&&gSameE ⟨e.op,e.id,e.other,e.node,0,0,sNil,sNil,[],zObj⟩ e) ?_ ?_
  ·all_goals refine Dd mv' ?_
   all_goals refine Dd mv' ?_
   all_goals refine Sp 127 (fun h127=>?_) fun h127=>?_
   all_goals try contradiction
   all_goals first|refine Fo ?_|refine On (by exact opd_loadn_ref rfl Tryz.isAgg51 Tryz.sizeOf51 rfl rfl rfl rfl (by simp only [Zl,encTag,encObj,encStr,encEdit,zObj];rfl) rfl) ?_
   all_goals first|refine Fo ?_|refine On (by exact opd_loadn_ref rfl Tryz.isAgg51 Tryz.sizeOf51 rfl rfl rfl rfl (by simp only [Zl,encTag,encObj,encStr,encEdit,zObj];rfl) rfl) ?_
   all_goals first|refine Fo ?_|refine On (by exact opr_call rfl rfl Tryz.call92 rfl (sameE_c ⟨e.op,e.id,e.other,e.node,0,0,sNil,sNil,[],zObj⟩ e _ (by(show 0 < _;omega)) okS_z)) ?_
   all_goals refine Dd pk' ?_
   all_goals refine Dd as' ?_
   all_goals refine al_nil ?_
   all_goals(exact⟨⟨_,rfl,by(rw [h127];rfl)⟩,rfl,rfl,rfl⟩)
  refine awp_ret ?_
  refine Rt ?_
  exact⟨by rw [hv],rfl⟩
 have ho6:¬ e.op=6:=of_decide_eq_false hc6
 refine Sq<|Rg<|Dd eql'<|Dd as'<|Zz ?_
 refine Cn (fun hc7=>?_) fun hc7=>?_
 ·have ho:e.op=7:=of_decide_eq_true hc7
  have hx:xOf e=⟨e.op,e.id,e.other,sNil,0,0,sNil,sNil,[],zObj⟩:=by rw [xOf,if_neg ho1,if_neg ho2,if_neg ho3,if_neg ho4,if_neg ho5,if_neg ho6]
  have hk:okOf e=(gName e.id&&gName e.other):=by rw [okOf,if_neg ho1,if_neg ho2,if_neg ho3,if_neg ho4,if_neg ho5,if_neg ho6]
  have hb:(gName e.id&&gName e.other)=(gName e.id&&gName e.other):=by rfl
  have hv:gEditV e=((gName e.id&&gName e.other)&&gSameE ⟨e.op,e.id,e.other,sNil,0,0,sNil,sNil,[],zObj⟩ e):=by rw [gEditV,hx,hk,hb,ho];rfl
  apply awp_mergeW (t:=4) (n:=11) (X:=gName e.id&&gName e.other)
  ·cases hg119:(gName e.id:Bool)
   ·refine awp_drawc follows ?_
    refine Cr [1] (fun _ h=>fh fo51_2 h)<|Cr [1] (fun _ h=>lh Tryz.isAgg9 h)<|Cr [] (fun _ _=>mv')<|Cr [] (fun _ _=>mv')<|Ot<|Ot<|Ot<|Ot<|Cr [] (fun _ _=>pk')<|Cr [3] (fun _ h=>fh fo51_2 h)<|Cp [3] (fun H1 hH=>by exact x_store1 rfl Tryz.sizeOf9 rfl rfl rfl ((hH _ rfl).trans rfl) rfl rfl (Nat.le_of_ble_eq_true rfl) rfl rfl)<|Cr [] (fun _ _=>as') ?_
    refine dc_nil ⟨by kernel_rfl,?_⟩
    exact⟨rfl,⟨_,rfl,by rfl⟩,rfl,rfl,rfl⟩
   refine awp_drawc follows ?_
   refine Cr [1] (fun _ h=>fh fo51_2 h)<|Cr [1] (fun _ h=>lh Tryz.isAgg9 h)<|Cr [] (fun _ _=>mv')<|Cr [] (fun _ _=>mv') ?_
   refine dc_cons (r:=⟨_,some [1],[]⟩) (l_on_t rfl rfl rfl (by rfl) (fun H1 hH=>by exact(by exact opd_field_ref rfl fo51_2 rfl ((hH _ rfl).trans rfl) rfl rfl))) rfl ?_
   refine dc_cons (r:=⟨_,some [1],[]⟩) (l_on_t rfl rfl rfl (by rfl) (fun H1 hH=>by exact(by exact opd_load1_ref rfl Tryz.isAgg9 rfl ((hH _ rfl).trans rfl) rfl rfl rfl))) rfl ?_
   refine dc_cons (r:=⟨_,some [],[]⟩) (l_on_t rfl rfl rfl (by rfl) (fun H1 hH=>by exact(by exact x_buildSlice ([e.other].map encStr) rfl so46 rfl rfl rfl rfl rfl (by simp [encStr])))) rfl ?_
   refine dc_cons (r:=⟨_,some [],[]⟩) (l_on_t rfl rfl rfl (by rfl) (fun H1 hH=>by exact opr_call rfl rfl Tryz.call90 rfl (n1_c e.other _ h2))) rfl ?_
   refine Cr [] (fun _ _=>pk')<|Cr [3] (fun _ h=>fh fo51_2 h)<|Cp [3] (fun H1 hH=>by exact x_store1 rfl Tryz.sizeOf9 rfl rfl rfl ((hH _ rfl).trans rfl) rfl rfl (Nat.le_of_ble_eq_true rfl) rfl rfl)<|Cr [] (fun _ _=>as') ?_
   refine dc_nil ⟨by kernel_rfl,?_⟩
   exact⟨rfl,⟨_,rfl,by rfl⟩,rfl,rfl,rfl⟩
  refine Sq ?_
  refine awp_bool (t:=2) (n:=8) (X:=(gName e.id&&gName e.other)&&gSameE ⟨e.op,e.id,e.other,sNil,0,0,sNil,sNil,[],zObj⟩ e) ?_ ?_
  ·all_goals refine Dd mv' ?_
   all_goals refine Dd mv' ?_
   all_goals refine Sp 127 (fun h127=>?_) fun h127=>?_
   all_goals try contradiction
   all_goals first|refine Fo ?_|refine On (by exact opd_loadn_ref rfl Tryz.isAgg51 Tryz.sizeOf51 rfl rfl rfl rfl (by simp only [Zl,encTag,encObj,encStr,encEdit,zObj];rfl) rfl) ?_
   all_goals first|refine Fo ?_|refine On (by exact opd_loadn_ref rfl Tryz.isAgg51 Tryz.sizeOf51 rfl rfl rfl rfl (by simp only [Zl,encTag,encObj,encStr,encEdit,zObj];rfl) rfl) ?_
   all_goals first|refine Fo ?_|refine On (by exact opr_call rfl rfl Tryz.call92 rfl (sameE_c ⟨e.op,e.id,e.other,sNil,0,0,sNil,sNil,[],zObj⟩ e _ (by(show 0 < _;omega)) okS_z)) ?_
   all_goals refine Dd pk' ?_
   all_goals refine Dd as' ?_
   all_goals refine al_nil ?_
   all_goals(exact⟨⟨_,rfl,by(rw [h127];rfl)⟩,rfl,rfl,rfl⟩)
  refine awp_ret ?_
  refine Rt ?_
  exact⟨by rw [hv],rfl⟩
 have ho7:¬ e.op=7:=of_decide_eq_false hc7
 refine Sq<|Rg<|Dd as'<|Zz<|awp_ret ?_
 refine Rt ?_
 refine⟨?_,rfl⟩
 have:gEditV e=false:=by
  rw [gEditV,Bool.and_eq_false_iff]
  left
  rw [Bool.and_eq_false_iff,decide_eq_false_iff_not,decide_eq_false_iff_not]
  omega
 rw [this]
theorem changeValid1_c (e:GEdit) (H:Heap) (he:okE e):ACalls Tryz.prog 42 [av (encEdit e)] H (fun r H'=>r=bv (!gEditV e)∧H'=H):=by
 refine ACalls.pure ?_ (by simp) H
 refine Bd Tryz.func42 rfl Tryz.ntmps42<|Sq<|Rg<|Dd (by exact opd_box (id:=1) rfl rfl rfl rfl rfl)<|Dd as'<|Zz<|Sq<|Rg<|Dd (by exact opd_loadn_ref rfl Tryz.isAgg51 Tryz.sizeOf51 rfl rfl rfl rfl (by simp only [Zl,encTag,encObj,encStr,encEdit,zObj];rfl) rfl)<|Dd (by exact opr_call rfl rfl Tryz.call43 rfl (editValid_c e _ he))<|Dd no'<|Dd as'<|Zz<|awp_ret ?_
 refine Rt ?_
 exact⟨rfl,rfl⟩
def gChange (l:List GEdit):Bool:=decide ((0:Int) < (l.length:Int))&&decide ((l.length:Int)≤200)&&!(l.any (fun e=>!gEditV e))
theorem changeValid_c (l:List GEdit) (H:Heap) (hl:l.length < 4611686018427387904) (he:∀ e∈l,okE e):ACalls Tryz.prog 15 [.pv (slEdits l)] H (fun r H'=>r=bv (gChange l)∧H'=H):=by
 refine ACalls.pure ?_ (by simp) H
 have hml:(l.map encEdit).length=l.length:=List.length_map _
 refine Bd Tryz.func15 rfl Tryz.ntmps15<|Sq<|Rg<|Dd as'<|Zz<|Sq ?_
 refine awp_bool (t:=2) (n:=16) (X:=decide ((0:Int) < ((l.map encEdit).length:Int))&&decide (((l.map encEdit).length:Int)≤200)&&!(l.any (fun e=>!gEditV e))) ?_ ?_
 ·all_goals refine Dd mv' ?_
  all_goals refine Dd (ll' Tryz.underlying22) ?_
  all_goals refine Dd gt' ?_
  all_goals refine Dd mv' ?_
  all_goals refine Sp 6 (fun h6=>?_) fun h6=>?_
  all_goals try contradiction
  all_goals first|refine Fo ?_|refine On mv' ?_
  all_goals first|refine Fo ?_|refine On (ll' Tryz.underlying22) ?_
  all_goals first|refine Fo ?_|refine On le' ?_
  all_goals refine Dd pk' ?_
  all_goals refine Dd mv' ?_
  all_goals refine Sp 11 (fun h11=>?_) fun h11=>?_
  all_goals try contradiction
  all_goals first|refine Fo ?_|refine On mv' ?_
  all_goals first|refine Fo ?_|refine On (by exact opr_call rfl rfl Tryz.call41 rfl (containsFunc_GEdit (.pv (.fn 42)) l (fun e=>!gEditV e) _ hl (fun e h=>CallsV.fn Tryz.call42 (changeValid1_c e _ (he e h))))) ?_
  all_goals first|refine Fo ?_|refine On no' ?_
  all_goals refine Dd pk' ?_
  all_goals refine Dd as' ?_
  all_goals refine al_nil ?_
  all_goals(exact⟨⟨_,rfl,by first|(simp_all;done)|(simp_all;omega)⟩,rfl,rfl,rfl⟩)
 refine awp_ret ?_
 refine Rt ?_
 exact⟨by rw [gChange,hml],rfl⟩
end
section
theorem find1_c (o:GObj) (id:ByteArray) (H:Heap) (T:Nat) (h3:H.get 3=some (bx 1 T [sv id])) (h9:H.get 972=none) (hc:Closed H) :
  ACalls Tryz.prog 105 [av (encObj o),.ref 3 0 0 0] H (fun r H'=>r=bv (idIs id o)∧H'=H):=by
 have h3':Heap.get ((972,bx 6 49 ((encObj o).map .pv))::H) 3=some (bx 1 T [sv id]):=h3
 refine Bd Tryz.func105 rfl Tryz.ntmps105<|Sq<|Rg<|Dd (by exact opd_box (id:=972) rfl rfl rfl rfl h9)<|Dd as'<|Zz<|Sq<|Rg<|Dd (fr' fo49_0)<|Dd (l1' Tryz.isAgg9)<|Dd (by exact opd_load1_ref rfl Tryz.isAgg9 rfl h3' rfl rfl rfl)<|Dd se'<|Dd as'<|Zz<|awp_ret ?_
 refine aret1 (H':=H) (.inr rfl) rfl (rval_tmp rfl) (Fin.pops [(972,bx 6 49 ((encObj o).map .pv))] (by simp) hc (by simp [h9])) ⟨rfl,rfl⟩
theorem find_c (m:List GObj) (id:ByteArray) (H:Heap) (hm:m.length < 4611686018427387904):ACalls Tryz.prog 54 [.agg [.pv (slObjs m)],sv id] H (fun r H'=>r=iv (gidx (idIs id) m)∧H'=H):=by
 refine ACalls.pure ?_ (by simp) H
 have hf:∀ o,o∈m→CallsV Tryz.prog (.clo 105 [.ref 3 0 0 0]) [.agg ((encObj o).map .pv)] [(3,bx 1 9 [sv id]),(2,bx 1 38 [.pv (slObjs m)])] (fun r H'=>r=bv (idIs id o)∧H'=[(3,bx 1 9 [sv id]),(2,bx 1 38 [.pv (slObjs m)])]) :=
  fun o _=>CallsV.clo Tryz.call105 (find1_c o id _ 9 rfl rfl (Closed.of (by simp)))
 refine Bd Tryz.func54 rfl Tryz.ntmps54<|Sq<|Rg<|Dd (by exact opd_box (id:=2) rfl rfl rfl rfl rfl)<|Dd (by exact opd_box (id:=3) rfl rfl rfl rfl rfl)<|Dd as'<|Zz<|Sq<|Rg<|Dd (fr' fo38_0)<|Dd (l1' Tryz.isAgg36)<|Dd (by exact opd_makeFunc rfl rfl)<|Dd (by exact opr_call rfl rfl Tryz.call104 rfl (indexFunc_GObj _ m (idIs id) _ hm hf))<|Dd as'<|Zz<|awp_ret ?_
 refine Rt ?_
 exact⟨rfl,rfl⟩
end
section
def nm (i:Nat):ByteArray:=⟨#[110,49+UInt8.ofNat i]⟩
end
end Go.Proofs.YtlnfjkdacimblaaGreatDoor
namespace Go.Abs
section
theorem osc_slice {w:World} {I:Nat→Prop} {ι:Plc} {H:Heap} {v:Value} {id g off len c:Nat} {ob:Ob} (h:VRel w I ι H v (.osc id g off len c)) (hH:H.get id=some ob) (hg:ob.g=g) :
  0 < ob.sz∧len≤c∧((∃ b oo,ι id=some (b,off+c)∧v=.slice (some ⟨b,oo,none⟩) len c∧(0 < c∨off=0→oo=off*ob.sz))∨(ι id=none∧v=.slice none 0 0∧off=0∧len=0∧c=0)):=by
 cases h with
 | osc o' h1 h2 _ h3 =>
  rw [hH] at h1;cases h1
  exact h3 hg
theorem osl_osc {w:World} {I:Nat→Prop} {ι:Plc} {H:Heap} {v:Value} {id g off len:Nat} {ob:Ob} (hr:Rel I ι H w) (h:VRel w I ι H v (.osl id g off len)) (hH:H.get id=some ob) (hg:ob.g=g) :
  ∃ c,len≤c∧c≤maxLen∧VRel w I ι H v (.osc id g off len c):=by
 have hz:=osl_sz h hH hg
 obtain ⟨h1,⟨b,cap,oo,h2,h3,h4⟩|⟨h2,h3,h4,h5⟩⟩:=osl_slice h hH hg
 ·obtain ⟨_,_,⟨b',cap',cs,e1,e2,e3,e4,e5,e6,e7⟩|⟨e1,_⟩⟩:=(hr.obj id ob hH).cells hz
  ·rw [h2] at e1;cases e1
   refine⟨cap - off,by omega,by omega,?_⟩
   subst h3
   refine .osc ob hH (by omega) rfl fun _=>⟨hz,by omega,.inl ⟨b,oo,?_,rfl,fun hh=>h4 (by omega)⟩⟩
   rw [h2];congr 2;omega
  rw [h2] at e1;cases e1
 subst h3 h4 h5
 exact⟨0,Nat.le_refl _,Nat.zero_le _,.osc ob hH (by omega) rfl fun _=>⟨hz,Nat.le_refl _,.inr ⟨h2,rfl,rfl,rfl,rfl⟩⟩⟩
theorem osc_osl {w:World} {I:Nat→Prop} {ι:Plc} {H:Heap} {v:Value} {id g off len c:Nat} {ob:Ob} (h:VRel w I ι H v (.osc id g off len c)) (hH:H.get id=some ob) (hg:ob.g=g) (hl:off+len≤ob.rows.length) :
  VRel w I ι H v (.osl id g off len):=by
 obtain ⟨hz,h1,⟨b,oo,h2,h3,h4⟩|⟨h2,h3,h4,h5,h6⟩⟩:=osc_slice h hH hg
 ·subst h3
  refine .osl ob hH (by omega) rfl fun _=>⟨hz,hl,.inl ⟨b,off+c,oo,h2,?_,fun hh=>h4 (by omega)⟩⟩
  congr 1;omega
 subst h3 h4 h5
 exact .osl ob hH (by omega) rfl fun _=>⟨hz,hl,.inr ⟨h2,rfl,rfl,rfl⟩⟩
section
variable {P:Program} {G0:Heap} {N:Nat} {Q:Exit→Env→Heap→Prop} {E:Env} {H:Heap} {code:Code}
/-- The capacity gets a name. -/
theorem awp_cap {t id g off n:Nat} {ob:Ob} (hx:E.get t=some (.osl id g off n)) (hH:H.get id=some ob) (hg:ob.g=g) (h:∀ c,n≤c→c≤maxLen→AWp P G0 N code Q ((t,.osc id g off n c)::E) H):AWp P G0 N code Q E H:=by
 intro G hG a w hs
 obtain ⟨I,ι,hr,hst,he⟩:=hs.rel
 obtain ⟨v,hv,hvr⟩:=he t _ hx
 obtain ⟨c,h1,h2,h3⟩:=osl_osc hr hvr hH hg
 refine h c h1 h2 G hG a w ⟨hs.defers,hs.size,I,ι,hr,hst,fun u x hu=>?_⟩
 by_cases e:t=u
 ·subst e
  rw [Env.get_cons_same] at hu;cases hu
  exact⟨v,hv,h3⟩
 rw [Env.get_cons_other _ _ e] at hu
 exact he u x hu
/-- The capacity is forgotten. -/
theorem awp_uncap {t id g off n c:Nat} {ob:Ob} (hx:E.get t=some (.osc id g off n c)) (hH:H.get id=some ob) (hg:ob.g=g) (hl:off+n≤ob.rows.length) (h:AWp P G0 N code Q ((t,.osl id g off n)::E) H):AWp P G0 N code Q E H:=by
 intro G hG a w hs
 obtain ⟨I,ι,hr,hst,he⟩:=hs.rel
 obtain ⟨v,hv,hvr⟩:=he t _ hx
 refine h G hG a w ⟨hs.defers,hs.size,I,ι,hr,hst,fun u x hu=>?_⟩
 by_cases e:t=u
 ·subst e
  rw [Env.get_cons_same] at hu;cases hu
  exact⟨v,hv,osc_osl hvr hH hg hl⟩
 rw [Env.get_cons_other _ _ e] at hu
 exact he u x hu
end
section
variable {P:Program} {N:Nat} {o:Oper} {E:Env} {H:Heap} {T:TypeId} {x y:Operand}
theorem opd_cap_osc {e:TypeId} {id g off len c:Nat} {ob:Ob} (ho:o.op=.call {callee:=.builtin .cap,args:=#[x],argTypes:=#[T]}) (ht:P.underlying T=some (.slice e)) (hx:aeval E x=some (.osc id g off len c)) (hH:H.get id=some ob) (hg:ob.g=g):OpD P N o E H (.pv (.int .i64 c)) H :=
 .of_run fun a w I ι _ he=>⟨.int .i64 c,by
  obtain ⟨_,_,⟨b,oo,_,e1,_⟩|⟨_,e1,_,_,e2⟩⟩:=osc_slice (aeval_rel he hx) hH hg
  ·simp [execOp,ho,resolve,invoke,builtin,e1,Builtin.cap_,run_underlying ht,goInt]
  simp [execOp,ho,resolve,invoke,builtin,e1,e2,Builtin.cap_,run_underlying ht,goInt],.pv (.int _ _)⟩
theorem opd_len_osc {e:TypeId} {id g off len c:Nat} {ob:Ob} (ho:o.op=.call {callee:=.builtin .len,args:=#[x],argTypes:=#[T]}) (ht:P.underlying T=some (.slice e)) (hx:aeval E x=some (.osc id g off len c)) (hH:H.get id=some ob) (hg:ob.g=g):OpD P N o E H (.pv (.int .i64 len)) H :=
 .of_run fun a w I ι _ he=>⟨.int .i64 len,by
  obtain ⟨_,_,⟨b,oo,_,e1,_⟩|⟨_,e1,_,e2,_⟩⟩:=osc_slice (aeval_rel he hx) hH hg
  ·simp [execOp,ho,resolve,invoke,builtin,e1,Builtin.len_,run_underlying ht,goInt]
  simp [execOp,ho,resolve,invoke,builtin,e1,e2,Builtin.len_,run_underlying ht,goInt],.pv (.int _ _)⟩
/-- A cut up to the capacity. -/
theorem x_slice_osc {e:TypeId} {lo hi:Option Operand} {id g off len c off2 len2 c2 l h sz:Nat} {ob:Ob} (ho:o.op=.slice T x lo hi none) (hS:SliceOf P T e sz) (hx:aeval E x=some (.osc id g off len c))
  (hH:H.get id=some ob) (hg:ob.g=g) (hsz:ob.sz=sz) (hlo:bnd E lo 0=some (l:Int)) (hhi:bnd E hi len=some (h:Int)) (h1:l≤h) (h2:h≤c) (ho2:off+l=off2) (hl2:h - l=len2) (hc2:c - l=c2):OpD P N o E H (.osc id g off2 len2 c2) H :=
 .of_run fun a w I ι hr he=>by
  have hv:=aeval_rel he hx
  obtain ⟨hz,hle,hcase⟩:=osc_slice hv hH hg
  have hT:=hS.1
  have hs:=hS.2.1
  have hTe:P.elem T=e:=by simp [Program.elem,hT]
  have hT':P.underlying T=some (.slice (P.elem T)):=by rw [hTe,hT]
  subst ho2 hl2 hc2 hsz
  rcases hcase with⟨b,oo,h3,h4,h5⟩|⟨h3,h4,h5,h6,h7⟩
  ·have hb:=run_bounds (P:=P) (b:=true) (len:=len) (cap:=c) he hlo hhi h1 h2
   have hrun:=run_slice_any (P:=P) w T (some ⟨b,oo,none⟩) len c hT' (lo.map a.eval) (hi.map a.eval) none
   refine⟨.slice (some ⟨b,if c=l then oo else oo+l*ob.sz,none⟩) (h - l) (c - l),?_,.osc ob hH (by omega) rfl fun _=>⟨hz,by omega,.inl ⟨b,_,?_,rfl,fun hlt=>?_⟩⟩⟩
   ·simp only [execOp,ho,h4]
    simp only [run_sliceAt_slice w T _ _ _ _ hT',Sem.run_bind,hrun,Option.map_none,hb,hTe,hs,sliced,Result.andThen_ok,Sem.run_pure]
    by_cases ec:c=l
    ·simp [ec]
    simp [ec,Addr.add_lit]
   ·rw [h3];congr 2;omega
   by_cases ec:off+l=0
   ·have e0:off=0:=by omega
    have e1:l=0:=by omega
    subst e0 e1
    rw [h5 (by omega)]
    simp
   rw [if_neg (by omega),h5 (by omega),Nat.add_mul]
  subst h5 h6 h7
  have hh:h=0:=by omega
  have hl:l=0:=by omega
  subst hh hl
  have hb:=run_bounds (P:=P) (b:=true) (len:=0) (cap:=0) he hlo hhi h1 (by simp)
  have hrun:=run_slice_any (P:=P) w T none 0 0 hT' (lo.map a.eval) (hi.map a.eval) none
  refine⟨.slice none 0 0,?_,.osc ob hH (by omega) rfl fun _=>⟨hz,by omega,.inr ⟨h3,rfl,rfl,rfl,rfl⟩⟩⟩
  simp only [execOp,ho,h4]
  simp [run_sliceAt_slice w T _ _ _ _ hT',hrun,hb,hTe,hs,sliced]
/-- A slice of which the first rows are read. -/
def SrcN (w:World) (I:Nat→Prop) (ι:Plc) (H:Heap) (sz:Nat) (v:Value) (len:Nat) (rows:List (List AV)):Prop :=
 (∃ a c news,v=.slice (some a) len c∧rows.length≤len∧news.length=rows.length*sz∧(∀ j u,news[j]?=some u→w.cell? (a.add j)=some u)∧(∀ u∈news,u.oneCell'=true)∧LRel w I ι H sz news rows) ∨
 (v=.slice none 0 0∧len=0∧rows=[])
theorem LRel.take {w:World} {I:Nat→Prop} {ι:Plc} {H:Heap} {sz:Nat} {l:List Value} {rows:List (List AV)} (h:LRel w I ι H sz l rows) (hl:∀ r∈rows,r.length=sz) (k:Nat):LRel w I ι H sz (l.take (k*sz)) (rows.take k):=by
 intro i r hi j a hj
 rw [List.getElem?_take] at hi
 split at hi
 ·obtain ⟨u,q1,q2,q3⟩:=h i r hi j a hj
  have hjs:j < sz:=by rw [← hl r (List.mem_of_getElem? hi)];exact(List.getElem?_eq_some_iff.1 hj).1
  refine⟨u,?_,q2,q3⟩
  rw [List.getElem?_take,if_pos]
  ·exact q1
  have:(i+1)*sz≤k*sz:=Nat.mul_le_mul_right _ (by omega)
  rw [Nat.add_mul] at this;omega
 cases hi
theorem LRel.drop {w:World} {I:Nat→Prop} {ι:Plc} {H:Heap} {sz:Nat} {l:List Value} {rows:List (List AV)} (h:LRel w I ι H sz l rows) (k:Nat):LRel w I ι H sz (l.drop (k*sz)) (rows.drop k):=by
 intro i r hi j a hj
 rw [List.getElem?_drop] at hi
 obtain ⟨u,q1,q2,q3⟩:=h _ r hi j a hj
 refine⟨u,?_,q2,q3⟩
 rw [List.getElem?_drop]
 rw [Nat.add_mul] at q1
 rw [← Nat.add_assoc]
 exact q1
theorem srcN_osc {w:World} {I:Nat→Prop} {ι:Plc} {H:Heap} {sz id g off len c:Nat} {ob:Ob} {v:Value} (hr:Rel I ι H w) (h:VRel w I ι H v (.osc id g off len c)) (hH:H.get id=some ob) (hg:ob.g=g) (hsz:ob.sz=sz) (k:Nat) (hk:k≤len) (hk2:off+k≤ob.rows.length) :
  SrcN w I ι H sz v len ((ob.rows.drop off).take k):=by
 obtain ⟨hz,h1,⟨b,oo,h2,h3,h4⟩|⟨h2,h3,h4,h5,h6⟩⟩:=osc_slice h hH hg
 ·have hv:VRel w I ι H (.slice (some ⟨b,oo,none⟩) k c) (.osl id g off k) :=
   .osl ob hH (by omega) rfl fun _=>⟨hz,hk2,.inl ⟨b,off+c,oo,h2,by congr 1;omega,fun hh=>h4 (by omega)⟩⟩
  have hlen:((ob.rows.drop off).take k).length=k:=by rw [List.length_take,List.length_drop];omega
  rcases src_osl hr hv hH hg hsz with⟨a,c',news,s1,s2,s3,s4,s5⟩|⟨s1,s2⟩
  ·injection s1 with q1 q2 q3
   injection q1 with q1
   subst q1
   exact .inl ⟨_,c,news,h3,by omega,s2,s3,s4,s5⟩
  cases s1
 subst h4 h5
 have:k=0:=by omega
 subst this
 exact .inr ⟨h3,rfl,by simp⟩
theorem srcN_osl {w:World} {I:Nat→Prop} {ι:Plc} {H:Heap} {sz id g off len:Nat} {ob:Ob} {v:Value} (hr:Rel I ι H w) (h:VRel w I ι H v (.osl id g off len)) (hH:H.get id=some ob) (hg:ob.g=g) (hsz:ob.sz=sz) (k:Nat) (hk:k≤len) :
  SrcN w I ι H sz v len ((ob.rows.drop off).take k):=by
 obtain ⟨c,h1,h2,h3⟩:=osl_osc hr h hH hg
 have:=(osl_slice h hH hg).1
 exact srcN_osc hr h3 hH hg hsz k hk (by omega)
/-- Rows of an object are written, or put behind its last one. -/
theorem Rel.write {I:Nat→Prop} {ι:Plc} {H H':Heap} {w:World} {id b cap off g2:Nat} {ob:Ob} {cs:Array Value} {news:List Value} {rows2:List (List AV)} (hr:Rel I ι H w) (hH:H.get id=some ob) (hι:ι id=some (b,cap)) (hb:w.heap[b]?=some (.cells cs ob.ty (0,0)))
  (hn:news.length=rows2.length*ob.sz) (hl:LRel w I ι H ob.sz news rows2) (hl2:∀ r∈rows2,r.length=ob.sz) (ho:off≤ob.rows.length) (hc:off+rows2.length≤cap) (hg2:ob.g≤g2)
  (h1:H'.get id=some ⟨g2,ob.sz,ob.ty,ob.rows.take off++(rows2++ob.rows.drop (off+rows2.length))⟩) (h2:∀ j,j≠id→H'.get j=H.get j) :
  Rel I ι H' (w.setRow b (cs.toList.take (off*ob.sz)++news++cs.toList.drop (off*ob.sz+news.length)).toArray)∧Step I ι H w I ι H' (w.setRow b (cs.toList.take (off*ob.sz)++news++cs.toList.drop (off*ob.sz+news.length)).toArray):=by
 obtain ⟨p1,p2,⟨b',cap',cs',e1,e2,e3,e4,e5,e5',e6⟩|⟨e1,_⟩⟩:=(hr.obj id ob hH).cells ((hr.obj id ob hH).pos hι hb)
 ·rw [hι] at e1;cases e1
  rw [hb] at e2;cases e2
  have hall:LRel w I ι H ob.sz cs.toList ob.rows:=fun i r hi k a hk=>by
   obtain ⟨v,q1,q2,q3⟩:=e6 i r hi k a hk
   exact⟨v,by simpa using q1,q2,q3⟩
  have hoc:off≤cap:=by omega
  have hlt:(cs.toList.take (off*ob.sz)).length=(ob.rows.take off).length*ob.sz:=by
   have:off*ob.sz≤cap*ob.sz:=Nat.mul_le_mul_right _ hoc
   rw [List.length_take,List.length_take,Array.length_toList,e4,Nat.min_eq_left this,Nat.min_eq_left ho]
  have hnl:off*ob.sz+news.length=(off+rows2.length)*ob.sz:=by rw [hn,Nat.add_mul]
  have htail:LRel w I ι H ob.sz (news++(cs.toList.drop (off*ob.sz+news.length)++[])) (rows2++ob.rows.drop (off+rows2.length)):=by
   refine LRel.app hl hn ?_
   rw [hnl]
   exact hall.drop _
  rw [List.append_nil] at htail
  have hfin:=LRel.app (l3:=[]) (hall.take p2 off) hlt htail
  rw [List.append_nil] at hfin
  have hsize:(cs.toList.take (off*ob.sz)++news++cs.toList.drop (off*ob.sz+news.length)).toArray.size=cap*ob.sz:=by
   have:(off+rows2.length)*ob.sz≤cap*ob.sz:=Nat.mul_le_mul_right _ hc
   simp only [List.size_toArray,List.length_append,List.length_take,List.length_drop,Array.length_toList,e4]
   omega
  refine Rel.update (ob':=⟨g2,ob.sz,ob.ty,ob.rows.take off++(rows2++ob.rows.drop (off+rows2.length))⟩) hr hH hι hb hg2 rfl rfl (fun _=>?_) hsize ?_ (fun r hr'=>?_) (fun i r hi k a hk=>?_) h1 h2
  ·simp only [List.length_append,List.length_take,List.length_drop];omega
  ·simp only [List.length_append,List.length_take,List.length_drop];omega
  ·rcases List.mem_append.1 hr' with h|h
   ·exact p2 r (List.mem_of_mem_take h)
   rcases List.mem_append.1 h with h|h
   ·exact hl2 r h
   exact p2 r (List.mem_of_mem_drop h)
  obtain ⟨u,q1,q2,q3⟩:=hfin i r hi k a hk
  refine⟨u,?_,q2,q3⟩
  rw [List.getElem?_toArray,List.append_assoc]
  exact q1
 rw [hι] at e1;cases e1
theorem write_nil {off n:Nat} {rows:List (List AV)} (h:n=0):rows.take off++([]++rows.drop (off+n))=rows:=by subst h;simp
/-- copy between slices. -/
theorem opd_copy {D S e:TypeId} {id g off len len2 n sz:Nat} {ob:Ob} {rows2:List (List AV)} {H2:Heap} (ho:o.op=.call {callee:=.builtin .copy,args:=#[x,y],argTypes:=#[D,S]}) (hS:SliceOf P D e sz)
  (hd:∀ (a:Act) (w:World) (I:Nat→Prop) (ι:Plc),Rel I ι H w→ERel w I ι H E a→∃ c,VRel w I ι H (a.eval x) (.osc id g off len c)) (hH:H.get id=some ob) (hg:ob.g=g) (hsz:ob.sz=sz) (hoff:off≤ob.rows.length)
  (hsrc:∀ (a:Act) (w:World) (I:Nat→Prop) (ι:Plc),Rel I ι H w→ERel w I ι H E a→SrcN w I ι H sz (a.eval y) len2 rows2) (hrl2:∀ r∈rows2,r.length=sz) (hn:rows2.length=n) (hmin:min len2 len=n)
  (hH2:∀ j,H2.get j=(H.set id ⟨g,sz,ob.ty,ob.rows.take off++(rows2++ob.rows.drop (off+n))⟩).get j):OpD P N o E H (.pv (.int .i64 n)) H2:=by
 intro a w I ι _ _ hr he K Q hk
 obtain ⟨c,hv⟩:=hd a w I ι hr he
 obtain ⟨hz,h1,hcase⟩:=osc_slice hv hH hg
 have hmin':Nat.min len2 len=n:=hmin
 have hs:=hS.2.1
 have hD:=hS.1
 subst hg hsz
 have hpure:n=0→(∀ j,H2.get j=H.get j):=fun h0 j=>by
  rw [hH2 j]
  have hr0:rows2=[]:=List.eq_nil_of_length_eq_zero (by omega)
  subst hr0
  rw [write_nil h0]
  by_cases e:j=id
  ·subst e;rw [Heap.get_set_same,hH]
  exact Heap.get_set_other _ _ e
 have hfirst:∀ news:List Value,∀ ad c',a.eval y=.slice (some ad) len2 c'→news.length=n*ob.sz→(∀ j u,news[j]?=some u→w.cell? (ad.add j)=some u)→(Builtin.firstCells ob.sz n (a.eval y)).run P w=.ok news.toArray w:=fun news ad c' e1 e2 e3=>by
  rw [e1];exact run_firstCells_some (P:=P) w ob.sz n ad len2 c' news e2 e3
 rcases hcase with⟨b,oo,c1,c2,c3⟩|⟨c1,c2,c3,c4,c5⟩
 ·by_cases hn0:n=0
  ·obtain ⟨k2,k3⟩:=hr.congr (hpure hn0)
   have hrun:(execOp a.eval o).run P w=.ok (.value (.int .i64 ((0:Nat):Int))) w:=by
    unfold execOp
    have hfc:(Builtin.firstCells ob.sz n (a.eval y)).run P w=.ok #[] w:=by
     rcases hsrc a w I ι hr he with⟨ad,c',news,s1,s2,s3,s4,s5,s6⟩|⟨s1,s2,s3⟩
     ·have:=hfirst news ad c' s1 (by rw [s3,hn]) s4
      have hnn:news=[]:=List.eq_nil_of_length_eq_zero (by rw [s3,hn,hn0];simp)
      rw [this,hnn]
     rw [s1];exact run_firstCells_none (P:=P) (w:=w) ob.sz n 0 0
    have hlen:(Builtin.lenOf (a.eval y)).run P w=.ok len2 w:=by
     rcases hsrc a w I ι hr he with⟨ad,c',news,s1,s2,s3,s4,s5,s6⟩|⟨s1,s2,s3⟩
     ·rw [s1];rfl
     rw [s1,s2];rfl
    simp only [ho,resolve,invoke,builtin,Sem.run_bind,Sem.run_pure,Result.andThen_ok,List.map_toArray,List.map_cons,List.map_nil,c2,Builtin.copy_,run_underlying hD,hs]
    simp only [List.getElem?_toArray,List.getElem?_cons_zero,List.getElem?_cons_succ,run_underlying hD,Sem.run_bind,Sem.run_pure,Result.andThen_ok,hs,hlen,hmin',hfc]
    simp [storeCells,goInt,hn0]
   unfold Oper.wpW
   rw [hrun]
   subst hn0
   exact hk _ _ I ι _ _ ⟨rfl,rfl⟩ (.pv (.int _ _)) k2 k3
  obtain ⟨p1,p2,⟨b',cap',cs,e1,e2,e3,e4,e5,e5',e6⟩|⟨e1,_⟩⟩:=(hr.obj id ob hH).cells hz
  ·rw [c1] at e1;cases e1
   have hoo:=c3 (by omega)
   subst hoo
   rcases hsrc a w I ι hr he with⟨ad,c',news,s1,s2,s3,s4,s5,s6⟩|⟨s1,s2,s3⟩
   ·have hnl:news.length=n*ob.sz:=by rw [s3,hn]
    have hfc:=hfirst news ad c' s1 hnl s4
    have hfit:off*ob.sz+0+news.length≤cs.size:=by
     rw [e4,hnl,Nat.add_zero,← Nat.add_mul];exact Nat.mul_le_mul_right _ (by omega)
    have hst:=run_storeCells_at P b (off*ob.sz) ob.ty news 0 cs w e2 hfit s5
    simp only [Nat.add_zero] at hst
    obtain ⟨k2,k3⟩:=Rel.write (H':=H2) (off:=off) (g2:=ob.g) hr hH c1 e2 s3 s6 hrl2 hoff (by omega) (Nat.le_refl _) (by rw [hH2,Heap.get_set_same,hn]) (fun j hj=>by rw [hH2,Heap.get_set_other _ _ hj])
    unfold Oper.wpW execOp
    simp only [ho,resolve,invoke,builtin,Sem.run_bind,Sem.run_pure,Result.andThen_ok,List.map_toArray,List.map_cons,List.map_nil,c2,Builtin.copy_,run_underlying hD,hs]
    have hlen:(Builtin.lenOf (a.eval y)).run P w=.ok len2 w:=by rw [s1];rfl
    simp only [List.getElem?_toArray,List.getElem?_cons_zero,List.getElem?_cons_succ,run_underlying hD,Sem.run_bind,Sem.run_pure,Result.andThen_ok,hs,hlen,hmin',hfc,hst]
    exact hk _ _ I ι _ _ ⟨rfl,rfl⟩ (.pv (.int _ _)) k2 k3
   omega
  rw [c1] at e1;cases e1
 have hn0:n=0:=by omega
 obtain ⟨k2,k3⟩:=hr.congr (hpure hn0)
 have hrun:(execOp a.eval o).run P w=.ok (.value (.int .i64 ((0:Nat):Int))) w:=by
  unfold execOp
  have hfc:(Builtin.firstCells ob.sz n (a.eval y)).run P w=.ok #[] w:=by
   rcases hsrc a w I ι hr he with⟨ad,c',news,s1,s2,s3,s4,s5,s6⟩|⟨s1,s2,s3⟩
   ·have:=hfirst news ad c' s1 (by rw [s3,hn]) s4
    have hnn:news=[]:=List.eq_nil_of_length_eq_zero (by rw [s3,hn,hn0];simp)
    rw [this,hnn]
   rw [s1];exact run_firstCells_none (P:=P) (w:=w) ob.sz n 0 0
  have hlen:(Builtin.lenOf (a.eval y)).run P w=.ok len2 w:=by
   rcases hsrc a w I ι hr he with⟨ad,c',news,s1,s2,s3,s4,s5,s6⟩|⟨s1,s2,s3⟩
   ·rw [s1];rfl
   rw [s1,s2];rfl
  rw [c4] at hmin'
  simp only [ho,resolve,invoke,builtin,Sem.run_bind,Sem.run_pure,Result.andThen_ok,List.map_toArray,List.map_cons,List.map_nil,c2,Builtin.copy_,run_underlying hD,hs]
  simp only [List.getElem?_toArray,List.getElem?_cons_zero,List.getElem?_cons_succ,run_underlying hD,Sem.run_bind,Sem.run_pure,Result.andThen_ok,hs,hlen,hmin',hfc]
  simp [storeCells,goInt,hn0]
 unfold Oper.wpW
 rw [hrun]
 subst hn0
 exact hk _ _ I ι _ _ ⟨rfl,rfl⟩ (.pv (.int _ _)) k2 k3
end
end
section
section
variable {P:Program} {N:Nat} {o:Oper} {E:Env} {H:Heap} {T:TypeId} {x y:Operand}
theorem run_append_at (t ty e:TypeId) (i:TypeInfo) (ht:P.underlying t=some (.slice e)) (hi:P.info? e=some i) {w:World}
  (g off sLen sCap:Nat) (cur:Array Value) (hg:w.heap[g]?=some (.cells cur e (0,0)))
  (a:Addr) (m c:Nat) (news:List Value) (hl:news.length=m*i.size) (hnews:∀ j u,news[j]?=some u→w.cell? (a.add j)=some u) (h1:∀ u∈news,u.oneCell'=true)
  (hroom:sLen+m≤sCap) (hfit:off+sLen*i.size+news.length≤cur.size) :
  (Builtin.append_ #[t,t] ty #[.slice (some ⟨g,off,none⟩) sLen sCap,.slice (some a) m c]).run P w =
   .ok (.slice (some ⟨g,off,none⟩) (sLen+m) sCap) (w.setRow g (cur.toList.take (off+sLen*i.size)++news++cur.toList.drop (off+sLen*i.size+news.length)).toArray):=by
 have hf:=run_firstCells_some (P:=P) w i.size m a m c news hl hnews
 have hst:=run_storeCells_at P g (off+sLen*i.size) e news 0 cur w hg (by simpa using hfit) h1
 simp only [Nat.add_zero] at hst
 have hadd:(⟨g,off,none⟩:Addr).add (sLen*i.size)=⟨g,off+sLen*i.size,none⟩:=Addr.add_lit _ _ _
 simp [Builtin.append_,run_underlying ht,sizeOf,typeInfo,hi,Builtin.lenOf,hroom,hf,hadd,hst]
/-- append within the capacity: what is there is written over. -/
theorem x_append_room {e:TypeId} {id g off n c m k sz bytes:Nat} {ob:Ob} {rows2 rows':List (List AV)} (ho:o.op=.call {callee:=.builtin .append,args:=#[x,y],argTypes:=#[T,T]}) (hS:SliceOf P T e sz) (hinf:EI P e sz bytes)
  (hx:aeval E x=some (.osc id g off n c)) (hH:H.get id=some ob) (hg:ob.g=g) (hosz:ob.sz=sz) (hty:ob.ty=e) (hon:off+n≤ob.rows.length)
  (hsrc:∀ (a:Act) (w:World) (I:Nat→Prop) (ι:Plc),Rel I ι H w→ERel w I ι H E a→SrcN w I ι H sz (a.eval y) m rows2) (hrl2:∀ r∈rows2,r.length=sz) (hm:rows2.length=m) (hroom:n+m≤c) (hk:n+m=k)
  (hrows:ob.rows.take (off+n)++(rows2++ob.rows.drop (off+n+m))=rows'):OpD P N o E H (.osc id g off k c) ((id,⟨g,sz,e,rows'⟩)::H):=by
 intro a w I ι _ _ hr he K Q hkk
 obtain ⟨⟨i,z,hi,hz,hsize,hby,hzs,hsz0⟩,_⟩:=hinf
 subst hg hosz hty hk hrows
 have hv:=aeval_rel he hx
 obtain ⟨hzp,h1,hcase⟩:=osc_slice hv hH rfl
 have hT:=hS.1
 have hH2:∀ j,Heap.get ((id,(⟨ob.g,ob.sz,ob.ty,ob.rows.take (off+n)++(rows2++ob.rows.drop (off+n+m))⟩:Ob))::H) j=(H.set id ⟨ob.g,ob.sz,ob.ty,ob.rows.take (off+n)++(rows2++ob.rows.drop (off+n+m))⟩).get j:=set_cons _ _ _
 have hfin:∀ (v':Value) (w':World),(Builtin.append_ #[T,T] o.type #[a.eval x,a.eval y]).run P w=.ok v' w'→VRel w' I ι ((id,⟨ob.g,ob.sz,ob.ty,ob.rows.take (off+n)++(rows2++ob.rows.drop (off+n+m))⟩)::H) v' (.osc id ob.g off (n+m) c) →
   Rel I ι ((id,⟨ob.g,ob.sz,ob.ty,ob.rows.take (off+n)++(rows2++ob.rows.drop (off+n+m))⟩)::H) w'→Step I ι H w I ι ((id,⟨ob.g,ob.sz,ob.ty,ob.rows.take (off+n)++(rows2++ob.rows.drop (off+n+m))⟩)::H) w'→o.wpW P a w K Q:=by
  intro v' w' hrun k1 k2 k3
  unfold Oper.wpW execOp
  simp only [ho,resolve,invoke,builtin,Sem.run_bind,Sem.run_pure,Result.andThen_ok,List.map_toArray,List.map_cons,List.map_nil,hrun]
  exact hkk v' w' I ι _ _ ⟨rfl,rfl⟩ k1 k2 k3
 have hsame:rows2=[]→m=0→∀ j,Heap.get ((id,(⟨ob.g,ob.sz,ob.ty,ob.rows.take (off+n)++(rows2++ob.rows.drop (off+n+m))⟩:Ob))::H) j=H.get j:=fun h2 h3 j=>by
  subst h2
  rw [write_nil h3]
  by_cases e:j=id
  ·subst e;rw [get_cons_same,hH]
  exact get_cons_other _ _ e
 rcases hsrc a w I ι hr he with⟨ad,c',news,s1,s2,s3,s4,s5,s6⟩|⟨s1,s2,s3⟩
 ·rcases hcase with⟨b,oo,c1,c2,c3⟩|⟨c1,c2,c3,c4,c5⟩
  ·obtain ⟨p1,p2,⟨b',cap',cs,e1,e2,e3,e4,e5,e5',e6⟩|⟨e1,_⟩⟩:=(hr.obj id ob hH).cells hzp
   ·rw [c1] at e1;cases e1
    by_cases hc0:0 < c∨off=0
    ·have hoo:=c3 hc0
     subst hoo
     have hpos:off*ob.sz+n*ob.sz=(off+n)*ob.sz:=by rw [Nat.add_mul]
     have hnl:news.length=m*ob.sz:=by rw [s3,hm]
     have hfit:off*ob.sz+n*i.size+news.length≤cs.size:=by
      rw [hsize,hpos,hnl,e4,← Nat.add_mul];exact Nat.mul_le_mul_right _ (by omega)
     have hrun:=run_append_at (P:=P) T o.type ob.ty i hT hi b (off*ob.sz) n c cs e2 ad m c' news (by rw [hsize];exact hnl) s4 s5 hroom hfit
     rw [hsize,hpos] at hrun
     obtain ⟨k2,k3⟩:=Rel.write (H':=(id,⟨ob.g,ob.sz,ob.ty,ob.rows.take (off+n)++(rows2++ob.rows.drop (off+n+m))⟩)::H) (off:=off+n) (g2:=ob.g) hr hH c1 e2 s3 s6 hrl2 hon (by omega) (Nat.le_refl _) (by rw [get_cons_same,hm]) (fun j hj=>get_cons_other _ _ hj)
     refine hfin _ _ (by rw [c2,s1];exact hrun) ?_ k2 k3
     exact .osc _ (get_cons_same _ _ _) (Nat.le_refl _) rfl fun _=>⟨hzp,hroom,.inl ⟨b,_,c1,rfl,fun _=>rfl⟩⟩
    have hn0:n=0:=by omega
    have hm0:m=0:=by omega
    have hr0:rows2=[]:=List.eq_nil_of_length_eq_zero (by omega)
    have hnews:news=[]:=List.eq_nil_of_length_eq_zero (by rw [s3,hr0];simp)
    obtain ⟨k2,k3⟩:=hr.congr (hsame hr0 hm0)
    have hf:=run_firstCells_some (P:=P) w i.size m ad m c' news (by rw [hnews,hm0];simp) s4
    refine hfin (.slice (some ⟨b,oo,none⟩) (n+m) c) w ?_ ?_ k2 k3
    ·rw [c2,s1]
     simp [Builtin.append_,run_underlying hT,sizeOf,typeInfo,hi,Builtin.lenOf,hroom,hf,hnews,storeCells]
    exact .osc _ (get_cons_same _ _ _) (Nat.le_refl _) rfl fun _=>⟨hzp,hroom,.inl ⟨b,oo,c1,rfl,fun hh=>absurd hh hc0⟩⟩
   rw [c1] at e1;cases e1
  have hm0:m=0:=by omega
  have hr0:rows2=[]:=List.eq_nil_of_length_eq_zero (by omega)
  have hnews:news=[]:=List.eq_nil_of_length_eq_zero (by rw [s3,hr0];simp)
  obtain ⟨k2,k3⟩:=hr.congr (hsame hr0 hm0)
  have hf:=run_firstCells_some (P:=P) w i.size m ad m c' news (by rw [hnews,hm0];simp) s4
  refine hfin (.slice none 0 0) w ?_ ?_ k2 k3
  ·rw [c2,s1,hm0]
   rw [hm0] at hf
   simp [Builtin.append_,run_underlying hT,sizeOf,typeInfo,hi,Builtin.lenOf,hf]
  exact .osc _ (get_cons_same _ _ _) (Nat.le_refl _) rfl fun _=>⟨hzp,hroom,.inr ⟨c1,rfl,c3,by omega,c5⟩⟩
 obtain ⟨k2,k3⟩:=hr.congr (hsame s3 s2)
 rcases hcase with⟨b,oo,c1,c2,c3⟩|⟨c1,c2,c3,c4,c5⟩
 ·refine hfin (.slice (some ⟨b,oo,none⟩) n c) w ?_ ?_ k2 k3
  ·rw [c2,s1];exact run_append_nilnil (P:=P) (ty:=o.type) (w:=w) hT hi _ n c h1
  rw [s2,Nat.add_zero]
  exact .osc _ (get_cons_same _ _ _) (Nat.le_refl _) rfl fun _=>⟨hzp,h1,.inl ⟨b,oo,c1,rfl,c3⟩⟩
 refine hfin (.slice none 0 0) w ?_ ?_ k2 k3
 ·rw [c2,s1];exact run_append_nilnil (P:=P) (ty:=o.type) (w:=w) hT hi _ 0 0 (Nat.le_refl _)
 exact .osc _ (get_cons_same _ _ _) (Nat.le_refl _) rfl fun _=>⟨hzp,hroom,.inr ⟨c1,rfl,c3,by omega,c5⟩⟩
theorem run_append_grow_zeros {w:World} (t tn ty e:TypeId) (i:TypeInfo) (z:Value) (k kn:IntKind) (ht:P.underlying t=some (.slice e)) (htn:P.underlying tn=some (.int kn)) (hi:P.info? e=some i) (hz:i.zero=some z)
  (b:Option Addr) (sLen sCap:Nat) (olds:List Value) (hf:∀ w:World,(∀ a:Addr,w.cell? a=w.cell? a)→True) (hfo:(Builtin.firstCells i.size sLen (.slice b sLen sCap)).run P w.drew=.ok olds.toArray w.drew)
  (n:Nat) (h0:0 < n) (hs:0 < i.size) (hg:sCap < sLen+n) (h63:((sLen+n:Nat):Int)≤9223372036854775807) (hfit:Builtin.nextslicecap (sLen+n) sCap*i.bytes≤281474976710656) (h48:n*i.bytes≤281474976710656) :
  (Builtin.append_ #[t,tn] ty #[.slice b sLen sCap,.int k n]).run P w =
   .ok (.slice (some ⟨w.heap.size,0,none⟩) (sLen+n) (grownCap w (sLen+n) sCap e))
    (w.drew.alloc (.cells (olds.toArray++Builtin.zeroCells z.cells n++Builtin.zeroCells z.cells (grownCap w (sLen+n) sCap e - (sLen+n))) e)):=by
 have hn:¬ (sLen+n≤sCap):=by omega
 have hw:IntKind.i64.wrap (n:Int)=n:=by rw [IntKind.wrap_i64];omega
 have h63':¬ (9223372036854775807 < ((sLen:Int)+(n:Int))):=by omega
 have h48':¬ (281474976710656 < Builtin.nextslicecap (sLen+n) sCap*i.bytes):=by omega
 have h48i:¬ (281474976710656 < (n:Int)*(i.bytes:Int)):=by
  rw [← Int.natCast_mul]
  omega
 have hneg:¬ ((n:Int) < 0):=by omega
 have hn0:n≠0:=by omega
 have hns:¬ (n*i.size=0):=Nat.mul_ne_zero hn0 (by omega)
 simp [Builtin.append_,run_underlying ht,run_underlying htn,sizeOf,typeInfo,zeroValue,hi,hz,asInt,asIntOf,hw,hn,hn0,hneg,hns,h63',h48',h48i,Question.forced,hfo,newRow,grownCap]
theorem zeros_rel {w:World} {I:Nat→Prop} {ι:Plc} {H:Heap} {z:Value} {sz:Nat} {row:List AV} (hcr:CRel w I ι H z.cells row) (hrow:row.length=sz) (hzs:z.cells.size=sz) (hsz:0 < sz) (n:Nat) :
  (Builtin.zeroCells z.cells n).toList.length=n*sz∧(∀ u∈(Builtin.zeroCells z.cells n).toList,u.oneCell'=true)∧LRel w I ι H sz (Builtin.zeroCells z.cells n).toList (List.replicate n row):=by
 have hget:∀ j,j < n*sz→∃ hk:j % sz < z.cells.size,(Builtin.zeroCells z.cells n).toList[j]?=some (z.cells[j % sz]):=by
  intro j hj
  have hk:j % sz < z.cells.size:=by rw [hzs];exact Nat.mod_lt _ hsz
  refine⟨hk,?_⟩
  rw [Array.getElem?_toList]
  simp only [Builtin.zeroCells,Array.getElem?_map]
  rw [Array.getElem?_range,hzs,if_pos hj]
  simp only [Option.map_some]
  rw [getElem!_pos z.cells (j % sz) hk]
 have hzl:(Builtin.zeroCells z.cells n).toList.length=n*sz:=by rw [Array.length_toList,size_zeroCells,hzs]
 refine⟨hzl,?_,?_⟩
 ·intro u hu
  obtain ⟨j,hj⟩:=List.mem_iff_getElem?.1 hu
  have hjl:j < n*sz:=by
   have:=(List.getElem?_eq_some_iff.1 hj).1
   rw [hzl] at this;exact this
  obtain ⟨hk,e⟩:=hget j hjl
  rw [e] at hj;cases hj
  have hkr:j % sz < row.length:=by rw [hrow];exact Nat.mod_lt _ hsz
  obtain ⟨u,q1,q2,_⟩:=hcr.2 _ _ (List.getElem?_eq_getElem hkr)
  rw [Array.getElem?_eq_getElem hk] at q1
  cases q1
  exact q2
 intro i r hi k av hk
 rw [List.getElem?_replicate] at hi
 split at hi
 ·cases hi
  rename_i hlt
  have hks:k < sz:=by rw [← hrow];exact(List.getElem?_eq_some_iff.1 hk).1
  have hfit:i*sz+k < n*sz:=by
   have:(i+1)*sz≤n*sz:=Nat.mul_le_mul_right _ hlt
   rw [Nat.add_mul] at this;omega
  obtain ⟨hk2,e⟩:=hget _ hfit
  obtain ⟨u,q1,q2,q3⟩:=hcr.2 k av hk
  refine⟨u,?_,q2,q3⟩
  rw [e]
  rw [Array.getElem?_eq_getElem (by rw [hzs];exact hks)] at q1
  cases q1
  congr 2
  exact idx_mod hks
 cases hi
/-- append(s, make(S, n)...) beyond the capacity: a new object. -/
theorem x_append_zeros {tn e:TypeId} {id g n c m k sz bytes id2:Nat} {kk kn:IntKind} {q:Int} {ob:Ob} {row:List AV} {rows':List (List AV)} (ho:o.op=.call {callee:=.builtin .append,args:=#[x,y],argTypes:=#[T,tn]}) (hS:SliceOf P T e sz) (htn:P.underlying tn=some (.int kn)) (hinf:EI P e sz bytes) (hZ:ZeroOf P e row) (hrow:row.length=sz)
  (hx:aeval E x=some (.osc id g 0 n c)) (hH:H.get id=some ob) (hg:ob.g=g) (hosz:ob.sz=sz) (hon:n≤ob.rows.length)
  (hy:aeval E y=some (.pv (.int kk q))) (hq:q=(m:Int)) (hm0:0 < m) (hroom:c < n+m) (hk:n+m=k) (hbytes:(n+m)*bytes≤140737488355328) (hid:H.get id2=none)
  (hrows:ob.rows.take n++List.replicate m row=rows'):OpD P N o E H (.osl id2 0 0 k) ((id2,⟨0,sz,e,rows'⟩)::H):=by
 intro a w I ι _ _ hr he K Q hkk
 have hmax:=small_of hinf.2 hbytes
 obtain ⟨⟨i,z,hi,hz,hsize,hby,hzs,hsz0⟩,_⟩:=hinf
 obtain ⟨z',zv,z1,z2,z3⟩:=hZ
 have ezz:z'=z:=by
  have:=z1 w
  simp [zeroValue,typeInfo,hi,hz] at this
  exact this.symm
 subst ezz hg hosz hk hrows hq
 have hml:n+m≤maxLen:=by simp only [maxLen];omega
 have hv:=aeval_rel he hx
 have hvy:=(aeval_rel he hy).int_inv
 obtain ⟨hzp,h1,hcase⟩:=osc_slice hv hH rfl
 have hT:=hS.1
 have p2:=((hr.obj id ob hH).cells hzp).2.1
 have hcr:=CRel.of_cells (ZV.rel (w:=w) (I:=I) (ι:=ι) (H:=H) z2) z3
 obtain ⟨zl,_,zr⟩:=zeros_rel hcr hrow hzs hzp m
 have hrl:∀ r∈ob.rows.take n++List.replicate m row,r.length=ob.sz:=fun r hr'=>by
  rcases List.mem_append.1 hr' with h|h
  ·exact p2 r (List.mem_of_mem_take h)
  rw [(List.mem_replicate.1 h).2];exact hrow
 have g1:Heap.get ((id2,(⟨0,ob.sz,e,ob.rows.take n++List.replicate m row⟩:Ob))::H) id2=some ⟨0,ob.sz,e,ob.rows.take n++List.replicate m row⟩:=get_cons_same _ _ _
 have g2:∀ j,j≠id2→Heap.get ((id2,(⟨0,ob.sz,e,ob.rows.take n++List.replicate m row⟩:Ob))::H) j=H.get j:=fun j hj=>get_cons_other _ _ hj
 have hrln:(ob.rows.take n++List.replicate m row).length=n+m:=by rw [List.length_append,List.length_take,List.length_replicate];omega
 have hge:=grownCap_ge w (n+m) c e
 have hcm:=grownCap_le_maxLen w (n+m) c e hml
 have hfin:∀ (olds:List Value),olds.length=n*ob.sz→LRel w I ι H ob.sz olds (ob.rows.take n) →
   (Builtin.append_ #[T,tn] o.type #[a.eval x,a.eval y]).run P w=.ok (.slice (some ⟨w.heap.size,0,none⟩) (n+m) (grownCap w (n+m) c e)) (w.drew.alloc (.cells (olds.toArray++Builtin.zeroCells z'.cells m++Builtin.zeroCells z'.cells (grownCap w (n+m) c e - (n+m))) e))→o.wpW P a w K Q:=by
  intro olds q1 q2 hrun
  obtain ⟨k2,k3⟩:=Rel.place (H':=(id2,⟨0,ob.sz,e,ob.rows.take n++List.replicate m row⟩)::H) (id:=id2) (cap:=grownCap w (n+m) c e) (ob':=⟨0,ob.sz,e,ob.rows.take n++List.replicate m row⟩)
   (cs':=olds.toArray++Builtin.zeroCells z'.cells m++Builtin.zeroCells z'.cells (grownCap w (n+m) c e - (n+m)))
   (w':=w.drew.alloc (.cells (olds.toArray++Builtin.zeroCells z'.cells m++Builtin.zeroCells z'.cells (grownCap w (n+m) c e - (n+m))) e)) hr rfl rfl rfl rfl
   (fun o' ho'=>by rw [hid] at ho';cases ho') hzp (by
    simp only [Array.size_append,List.size_toArray,size_zeroCells,hzs,q1,← Nat.add_mul]
    congr 1
    omega) (by rw [hrln];exact hge) hcm hrl (fun i' r hi' k' a' hk'=>by
     obtain ⟨u,t1,t2,t3⟩:=LRel.app (l3:=(Builtin.zeroCells z'.cells (grownCap w (n+m) c e - (n+m))).toList) q2 (by rw [q1,List.length_take,Nat.min_eq_left hon]) zr i' r hi' k' a' hk'
     refine⟨u,?_,t2,t3⟩
     rw [← Array.getElem?_toList]
     simpa [List.append_assoc] using t1) g1 g2
  unfold Oper.wpW execOp
  simp only [ho,resolve,invoke,builtin,Sem.run_bind,Sem.run_pure,Result.andThen_ok,List.map_toArray,List.map_cons,List.map_nil,hrun]
  exact hkk _ _ I _ _ _ ⟨rfl,rfl⟩ (.osl _ g1 (Nat.le_refl _) rfl fun _=>⟨hzp,by rw [hrln];omega,.inl ⟨w.heap.size,_,0,by simp;rfl,by simp,fun _=>by simp⟩⟩) k2 k3
 have hfit:Builtin.nextslicecap (n+m) c*i.bytes≤281474976710656:=growslice_fits (by omega) (by rw [hby];exact hbytes)
 have hm48:m*i.bytes≤281474976710656:=by
  have:m*i.bytes≤(n+m)*i.bytes:=Nat.mul_le_mul_right _ (by omega)
  rw [hby] at this ⊢;omega
 rcases hcase with⟨b,oo,c1,c2,c3⟩|⟨c1,c2,c3,c4,c5⟩
 ·have hoo:oo=0:=by rw [c3 (.inr rfl)];simp
  subst hoo
  have hsn:=srcN_osc hr (show VRel w I ι H (.slice (some ⟨b,0,none⟩) n c) (.osc id ob.g 0 n c)by rw [← c2];exact hv) hH rfl rfl n (Nat.le_refl _) (by omega)
  rw [List.drop_zero] at hsn
  rcases hsn with⟨ad0,c0,olds,t1,t2,t3,t4,t5,t6⟩|⟨t1,_⟩
  ·injection t1 with q1 q2 q3
   injection q1 with q1
   subst q1
   have hol:olds.length=n*ob.sz:=by rw [t3,List.length_take,Nat.min_eq_left hon]
   have hfo:=run_firstCells_some (P:=P) w.drew i.size n ⟨b,0,none⟩ n c olds (by rw [hsize];exact hol) (by simpa using t4)
   have hrun:=run_append_grow_zeros (P:=P) (w:=w) T tn o.type e i z' kk kn hT htn hi hz (some ⟨b,0,none⟩) n c olds (fun _ _=>trivial) hfo m hm0 (by rw [hsize];exact hzp) (by omega) (by omega) hfit hm48
   exact hfin olds hol t6 (by rw [c2,hvy];exact hrun)
  cases t1
 subst c4 c5
 have hfo:=run_firstCells_none (P:=P) (w:=w.drew) i.size 0 0 0
 have hrun:=run_append_grow_zeros (P:=P) (w:=w) T tn o.type e i z' kk kn hT htn hi hz none 0 0 [] (fun _ _=>trivial) hfo m hm0 (by rw [hsize];exact hzp) (by omega) (by omega) hfit hm48
 exact hfin [] (by simp) (by intro i r hi';simp at hi') (by rw [c2,hvy];exact hrun)
/-- An entry of the model that looks at what its arguments lead to. -/
def ExtRR (P:Program) (e:Array Value→Sem Value) (H:Heap) (vs:List AV) (r:AV):Prop :=
 ∀ (w:World) (I:Nat→Prop) (ι:Plc) (cs:Array Value),Rel I ι H w→cs.size=vs.length→(∀ (i:Nat) (v:Value) (a:AV),cs[i]?=some v→vs[i]?=some a→VRel w I ι H v a)→∃ c,(e cs).run P w=.ok c w∧VRel w I ι H c r
theorem opd_extr {f:Operand} {args:Array Operand} {at_:Array TypeId} {F:FuncId} {fn:Func} {e:Array Value→Sem Value} {vs:List AV} {r:AV} (ho:o.op=.call {callee:=.value f,args:=args,argTypes:=at_}) (hf:aeval E f=some (.pv (.fn F))) (hF:P.funcs[F]?=some fn) (hname:(fn.name == "runtime.NumGoroutine")=false)
  (hb:fn.body.isNone=true) (hn:Extern.findNext fn=none) (he:Extern.find fn=some e) (hv:aargs E args.toList=some vs) (h:ExtRR P e H vs r):OpD P N o E H r H :=
 .of_run fun a w I ι hr hE=>by
  have hfv:=(aeval_rel hE hf).fn_inv
  obtain ⟨h1,h2⟩:=mapM_aeval hE (aargs_mapM hv)
  obtain ⟨c,hc,hcr⟩:=h w I ι (args.map a.eval) hr (by simpa using h1) (fun i v b hv hb=>h2 i v b (by simpa using hv) hb)
  refine⟨c,?_,hcr⟩
  unfold execOp
  simp only [ho,resolve,hfv,Deferred.ofValue,Sem.run_bind,Sem.run_pure,Result.andThen_ok,invoke,Array.empty_append,Array.append_empty,run_callFunc_extern hF hname hb hn he,hc]
/-- Two objects of one's own do not overlap. -/
theorem ext_overlaps {tS tR e:TypeId} {sz id1 g1 off1 n1 id2 g2 off2 n2 c2:Nat} {o1 o2:Ob} (hS:SliceOf P tS e sz) (h1:H.get id1=some o1) (hg1:o1.g=g1) (h2:H.get id2=some o2) (hg2:o2.g=g2) (hne:Nat.beq id1 id2=false) (hp1:0 < n1) (hpos:0 < n2+c2) :
  ExtRR P (Extern.SlicesOverlaps.overlaps #[tS,tS] #[tR]) H [.osl id1 g1 off1 n1,.osc id2 g2 off2 n2 c2] (.pv (.bool false)):=by
 intro w I ι cs hr hl h
 obtain ⟨u,v,rfl,k1,k2⟩:=two_vals hl h
 refine⟨.bool false,?_,.pv (.bool false)⟩
 have hid:id1≠id2:=fun e=>by subst e;rw [beq_self] at hne;cases hne
 obtain ⟨_,hc1⟩:=osl_slice k1 h1 hg1
 obtain ⟨z2,l2,hc2⟩:=osc_slice k2 h2 hg2
 have z1:=osl_sz k1 h1 hg1
 rcases hc1 with⟨b1,cap1,oo1,a1,a2,a3⟩|⟨a1,a2,_,_⟩
 ·rcases hc2 with⟨b2,oo2,d1,d2,d3⟩|⟨d1,d2,d3,d4,d5⟩
  ·have hbb:b1≠b2:=fun e=>hid (hr.inj id1 id2 o1 o2 b1 cap1 (off2+c2) h1 h2 a1 (by rw [e];exact d1))
   obtain ⟨_,_,⟨b',cap',cs1,e1,e2,e3,e4,_⟩|⟨e1,_⟩⟩:=(hr.obj id1 o1 h1).cells z1
   ·rw [a1] at e1;cases e1
    obtain ⟨_,_,⟨b'',cap'',cs2,f1,f2,f3,f4,_⟩|⟨f1,_⟩⟩:=(hr.obj id2 o2 h2).cells z2
    ·rw [d1] at f1;cases f1
     rw [a2,d2]
     refine Lib.run_overlaps_apart (P:=P) w tS tR e hS.1 sz hS.2.1 ⟨b1,oo1,none⟩ ⟨b2,oo2,none⟩ n1 _ n2 c2 hbb o1.ty o2.ty cs1.size cs2.size ?_ ?_ ?_ ?_ ?_
     ·simp [World.shape?,e2]
     ·simp [World.shape?,f2]
     ·rw [f4]
      have:0 < (off2+c2)*o2.sz:=Nat.mul_pos (by omega) z2
      omega
     ·simp [World.frozen?,e2]
     simp [World.frozen?,e2]
    rw [d1] at f1;cases f1
   rw [a1] at e1;cases e1
  omega
 omega
theorem opd_clear {e:TypeId} {id g off len c sz:Nat} {ob:Ob} {row:List AV} {rows':List (List AV)} (ho:o.op=.call {callee:=.builtin .clear,args:=#[x],argTypes:=#[T]}) (hS:SliceOf P T e sz) (hZ:ZeroOf P e row) (hrow:row.length=sz)
  (hx:aeval E x=some (.osc id g off len c)) (hH:H.get id=some ob) (hg:ob.g=g) (hosz:ob.sz=sz) (hoff:off≤ob.rows.length) (hrows:ob.rows.take off++(List.replicate len row++ob.rows.drop (off+len))=rows') :
  OpD P N o E H .any ((id,⟨g,sz,ob.ty,rows'⟩)::H):=by
 intro a w I ι _ _ hr he K Q hkk
 obtain ⟨z,zv,z1,z2,z3⟩:=hZ
 subst hg hosz hrows
 have hv:=aeval_rel he hx
 obtain ⟨hzp,h1,hcase⟩:=osc_slice hv hH rfl
 have hT:=hS.1
 have hcr:=CRel.of_cells (ZV.rel (w:=w) (I:=I) (ι:=ι) (H:=H) z2) z3
 have hzs:z.cells.size=ob.sz:=by rw [← hrow];exact hcr.1
 have hnone:len=0→(execOp a.eval o).run P w=.ok (.value (.tuple #[])) w→o.wpW P a w K Q:=by
  intro h0 hrun
  obtain ⟨k2,k3⟩:=hr.congr (H':=(id,⟨ob.g,ob.sz,ob.ty,ob.rows.take off++(List.replicate len row++ob.rows.drop (off+len))⟩)::H) (fun j=>by
   subst h0
   rw [List.replicate_zero,write_nil rfl]
   by_cases e:j=id
   ·subst e;rw [get_cons_same,hH]
   exact get_cons_other _ _ e)
  unfold Oper.wpW
  rw [hrun]
  exact hkk _ _ I ι _ _ ⟨rfl,rfl⟩ (.any _) k2 k3
 rcases hcase with⟨b,oo,c1,c2,c3⟩|⟨c1,c2,c3,c4,c5⟩
 ·by_cases h0:len=0
  ·refine hnone h0 ?_
   unfold execOp
   simp only [ho,resolve,invoke,builtin,Sem.run_bind,Sem.run_pure,Result.andThen_ok,List.map_toArray,List.map_cons,List.map_nil,c2,h0,Builtin.clear_]
   simp [run_underlying hT]
  obtain ⟨p1,p2,⟨b',cap',cs,e1,e2,e3,e4,e5,e5',e6⟩|⟨e1,_⟩⟩:=(hr.obj id ob hH).cells hzp
  ·rw [c1] at e1;cases e1
   have hoo:=c3 (by omega)
   subst hoo
   have hzl:(Builtin.zeroCells z.cells len).toList.length=(List.replicate len row).length*ob.sz:=by
    rw [Array.length_toList,size_zeroCells,hzs,List.length_replicate]
   have hget:∀ j,j < len*ob.sz→∃ hk:j % ob.sz < z.cells.size,(Builtin.zeroCells z.cells len).toList[j]?=some (z.cells[j % ob.sz]):=by
    intro j hj
    have hk:j % ob.sz < z.cells.size:=by rw [hzs];exact Nat.mod_lt _ hzp
    refine⟨hk,?_⟩
    rw [Array.getElem?_toList]
    simp only [Builtin.zeroCells,Array.getElem?_map]
    rw [Array.getElem?_range,hzs,if_pos hj]
    simp only [Option.map_some]
    rw [getElem!_pos z.cells (j % ob.sz) hk]
   have hone:∀ u∈(Builtin.zeroCells z.cells len).toList,u.oneCell'=true:=by
    intro u hu
    obtain ⟨j,hj⟩:=List.mem_iff_getElem?.1 hu
    have hjl:j < len*ob.sz:=by
     have:=(List.getElem?_eq_some_iff.1 hj).1
     rw [hzl,List.length_replicate] at this;exact this
    obtain ⟨hk,e⟩:=hget j hjl
    rw [e] at hj;cases hj
    have hkr:j % ob.sz < row.length:=by rw [hrow];exact Nat.mod_lt _ hzp
    obtain ⟨u,q1,q2,_⟩:=hcr.2 _ _ (List.getElem?_eq_getElem hkr)
    rw [Array.getElem?_eq_getElem hk] at q1
    cases q1
    exact q2
   have hlr:LRel w I ι H ob.sz (Builtin.zeroCells z.cells len).toList (List.replicate len row):=by
    intro i r hi k av hk
    rw [List.getElem?_replicate] at hi
    split at hi
    ·cases hi
     rename_i hlt
     have hks:k < ob.sz:=by rw [← hrow];exact(List.getElem?_eq_some_iff.1 hk).1
     have hfit:i*ob.sz+k < len*ob.sz:=by
      have:(i+1)*ob.sz≤len*ob.sz:=Nat.mul_le_mul_right _ hlt
      rw [Nat.add_mul] at this;omega
     obtain ⟨hk2,e⟩:=hget _ hfit
     obtain ⟨u,q1,q2,q3⟩:=hcr.2 k av hk
     refine⟨u,?_,q2,q3⟩
     rw [e]
     rw [Array.getElem?_eq_getElem (by rw [hzs];exact hks)] at q1
     cases q1
     congr 2
     exact idx_mod hks
    cases hi
   have hfit:off*ob.sz+0+(Builtin.zeroCells z.cells len).toList.length≤cs.size:=by
    rw [e4,hzl,List.length_replicate,Nat.add_zero,← Nat.add_mul];exact Nat.mul_le_mul_right _ (by omega)
   have hst:=run_storeCells_at P b (off*ob.sz) ob.ty (Builtin.zeroCells z.cells len).toList 0 cs w e2 hfit hone
   simp only [Nat.add_zero] at hst
   obtain ⟨k2,k3⟩:=Rel.write (H':=(id,⟨ob.g,ob.sz,ob.ty,ob.rows.take off++(List.replicate len row++ob.rows.drop (off+len))⟩)::H) (off:=off) (g2:=ob.g) hr hH c1 e2 hzl hlr (fun r hr'=>by rw [(List.mem_replicate.1 hr').2];exact hrow) hoff (by rw [List.length_replicate];omega) (Nat.le_refl _) (by rw [get_cons_same,List.length_replicate]) (fun j hj=>get_cons_other _ _ hj)
   unfold Oper.wpW execOp
   simp only [ho,resolve,invoke,builtin,Sem.run_bind,Sem.run_pure,Result.andThen_ok,List.map_toArray,List.map_cons,List.map_nil,c2,Builtin.clear_]
   obtain ⟨n',hn'⟩:∃ n',len=n'+1:=⟨len - 1,by omega⟩
   subst hn'
   simp only [List.getElem?_toArray,List.getElem?_cons_zero,run_underlying hT,Sem.run_bind,Sem.run_pure,Result.andThen_ok,z1,hst]
   exact hkk _ _ I ι _ _ ⟨rfl,rfl⟩ (.any _) k2 k3
  rw [c1] at e1;cases e1
 refine hnone c4 ?_
 unfold execOp
 simp only [ho,resolve,invoke,builtin,Sem.run_bind,Sem.run_pure,Result.andThen_ok,List.map_toArray,List.map_cons,List.map_nil,c2,Builtin.clear_]
 simp [run_underlying hT]
/-- A cut with a bound, of which nothing is used. -/
theorem x_slice_chk {e:TypeId} {lo hi mx:Operand} {id g off len c l h m sz:Nat} {ob:Ob} (ho:o.op=.slice T x (some lo) (some hi) (some mx)) (hS:SliceOf P T e sz) (hx:aeval E x=some (.osc id g off len c))
  (hH:H.get id=some ob) (hg:ob.g=g) (hlo:aeval E lo=some (.pv (.int .i64 l))) (hhi:aeval E hi=some (.pv (.int .i64 h))) (hmx:aeval E mx=some (.pv (.int .i64 m))) (h1:l≤h) (h2:h≤m) (h3:m≤c):OpD P N o E H .any H :=
 .of_run fun a w I ι hr he=>by
  have hv:=aeval_rel he hx
  obtain ⟨hz,hle,hcase⟩:=osc_slice hv hH hg
  have hT:=hS.1
  have hs:=hS.2.1
  have hTe:P.elem T=e:=by simp [Program.elem,hT]
  have hT':P.underlying T=some (.slice (P.elem T)):=by rw [hTe,hT]
  have e0:=(aeval_rel he hlo).int_inv
  have e1:=(aeval_rel he hhi).int_inv
  have e2:=(aeval_rel he hmx).int_inv
  have hb:(Instr.sliceBounds true len c (some (.int .i64 l)) (some (.int .i64 h)) (some (.int .i64 m))).run P w=.ok (l,h,m) w:=by
   have hsb:∀ (n y:Nat) (c:BoundsCode),n≤y→(Instr.sliceBound (.int .i64 n) y c).run P w=.ok n w:=fun n y c hn=>by
    have:=run_sliceBound (P:=P) w .i64 n y c (by omega) (by omega)
    simpa using this
   simp [Instr.sliceBounds,hsb _ _ _ h3,hsb _ _ _ h2,hsb _ _ _ h1]
  rcases hcase with⟨b,oo,c1,c2,c3⟩|⟨c1,c2,c3,c4,c5⟩
  ·have hrun:=run_slice_any (P:=P) w T (some ⟨b,oo,none⟩) len c hT' (some (.int .i64 l)) (some (.int .i64 h)) (some (.int .i64 m))
   obtain ⟨v,hval⟩:∃ v,(execOp a.eval o).run P w=.ok (.value v) w:=by
    simp only [execOp,ho,c2,Option.map_some,e0,e1,e2]
    simp only [run_sliceAt_slice w T _ _ _ _ hT',Sem.run_bind,hrun,hb,hTe,hs,sliced,Result.andThen_ok,Sem.run_pure]
    exact⟨_,rfl⟩
   exact⟨v,hval,.any _⟩
  have hl0:l=0:=by omega
  have hh0:h=0:=by omega
  have hm0:m=0:=by omega
  subst c4 c5 hl0 hh0 hm0
  have hrun:=run_slice_any (P:=P) w T none 0 0 hT' (some (.int .i64 ((0:Nat):Int))) (some (.int .i64 ((0:Nat):Int))) (some (.int .i64 ((0:Nat):Int)))
  obtain ⟨v,hval⟩:∃ v,(execOp a.eval o).run P w=.ok (.value v) w:=by
   simp only [execOp,ho,c2,Option.map_some,e0,e1,e2]
   simp only [run_sliceAt_slice w T _ _ _ _ hT',Sem.run_bind,hrun,hb,hTe,hs,sliced,Result.andThen_ok,Sem.run_pure]
   exact⟨_,rfl⟩
  exact⟨v,hval,.any _⟩
end
end
section
section
variable {P:Program}
def gone (ob:Ob):Ob:=⟨ob.g+1,ob.sz,ob.ty,[]⟩
def away (ι:Plc) (id:Nat):Plc:=fun x=>if x=id then none else ι x
end
end
section
section
variable {P:Program} {N:Nat} {o:Oper} {E:Env} {H:Heap} {T t t':TypeId} {x y:Operand}
theorem run_eql_sl {e:TypeId} (w:World) (h:P.underlying t=some (.slice e)) (a:Option Addr) (n c n' c':Nat):(binOp .eql t (.slice a n c) (.slice none n' c')).run P w=.ok (.bool a.isNone) w:=by
 simp only [binOp]
 cases a<;>simp [Op.equal,Op.maxDepth,Lib.run_equalIn_slice_nil w 9999 t e _ n c n' c' h]
/-- An empty slice that is read: it may be nil, or not. -/
theorem opr_sl_nil {e:TypeId} {rows:List (List PV)} (ho:o.op=.binOp .eql t x (.const (.slice none 0 0)) t') (ht:P.underlying t=some (.slice e)) (hx:aeval E x=some (.pv (.sl rows))):OpR P N o E H (fun r H'=>H'=H∧∃ b,r=.pv (.bool b)∧(b=true→rows=[])):=by
 intro a w I ι _ _ hr he K Q hk
 have hv:=(aeval_rel he hx).pv_inv
 have e2:a.eval (.const (.slice none 0 0))=.slice none 0 0:=rfl
 obtain ⟨b,n,c,e1,h1⟩:∃ (b:Option Addr) (n c:Nat),a.eval x=.slice b n c∧(b.isNone=true→rows=[]):=by
  generalize a.eval x=v at hv
  cases hv with
  | nilsl=>exact⟨none,0,0,rfl,fun _=>rfl⟩
  | empsl a=>exact⟨some a,0,0,rfl,fun h=>by cases h⟩
  | sl b off cap sz _ cs h1 h2 h3 h4 h5 h6=>exact⟨_,_,cap,rfl,fun h=>by cases h⟩
 unfold Oper.wpW
 have hrun:(execOp a.eval o).run P w=.ok (.value (.bool b.isNone)) w:=by
  simp only [execOp,ho,e1,e2,eqGuard_at_slice,Sem.run_bind,Sem.run_pure,Result.andThen_ok,run_eql_sl _ ht]
 rw [hrun]
 exact hk _ _ I ι _ _ ⟨rfl,_,rfl,h1⟩ (.pv (.bool _)) hr (Step.refl _ _ _ _)
/-! ### where a copy comes from, and where it goes -/
def SrcOk (E:Env) (H:Heap) (sz:Nat) (y:Operand) (len:Nat) (rows:List (List AV)):Prop :=
 ∀ (a:Act) (w:World) (I:Nat→Prop) (ι:Plc),Rel I ι H w→ERel w I ι H E a→SrcN w I ι H sz (a.eval y) len rows
def DstOk (E:Env) (H:Heap) (x:Operand) (id g off len:Nat):Prop :=
 ∀ (a:Act) (w:World) (I:Nat→Prop) (ι:Plc),Rel I ι H w→ERel w I ι H E a→∃ c,VRel w I ι H (a.eval x) (.osc id g off len c)
theorem src_of_osl {sz id g off len k:Nat} {ob:Ob} {rows:List (List AV)} (hy:aeval E y=some (.osl id g off len)) (hH:H.get id=some ob) (hg:ob.g=g) (hsz:ob.sz=sz) (hk:k≤len) (hr:(ob.rows.drop off).take k=rows):SrcOk E H sz y len rows:=by
 subst hr
 exact fun a w I ι hr he=>srcN_osl hr (aeval_rel he hy) hH hg hsz k hk
theorem src_of_osc {sz id g off len c k:Nat} {ob:Ob} {rows:List (List AV)} (hy:aeval E y=some (.osc id g off len c)) (hH:H.get id=some ob) (hg:ob.g=g) (hsz:ob.sz=sz) (hk:k≤len) (hk2:off+k≤ob.rows.length) (hr:(ob.rows.drop off).take k=rows):SrcOk E H sz y len rows:=by
 subst hr
 exact fun a w I ι hr he=>srcN_osc hr (aeval_rel he hy) hH hg hsz k hk hk2
theorem dst_of_osl {id g off len:Nat} {ob:Ob} (hx:aeval E x=some (.osl id g off len)) (hH:H.get id=some ob) (hg:ob.g=g):DstOk E H x id g off len:=fun a w I ι hr he =>
 let ⟨c,_,_,h⟩:=osl_osc hr (aeval_rel he hx) hH hg
 ⟨c,h⟩
theorem dst_of_osc {id g off len c:Nat} (hx:aeval E x=some (.osc id g off len c)):DstOk E H x id g off len:=fun a w I ι hr he=>⟨c,aeval_rel he hx⟩
theorem x_copy {D S e:TypeId} {id g off len len2 n sz:Nat} {ob:Ob} {rows2 rows':List (List AV)} (ho:o.op=.call {callee:=.builtin .copy,args:=#[x,y],argTypes:=#[D,S]}) (hS:SliceOf P D e sz)
  (hd:DstOk E H x id g off len) (hH:H.get id=some ob) (hg:ob.g=g) (hsz:ob.sz=sz) (hoff:off≤ob.rows.length)
  (hsrc:SrcOk E H sz y len2 rows2) (hrl2:∀ r∈rows2,r.length=sz) (hn:rows2.length=n) (hmin:min len2 len=n)
  (hrows:ob.rows.take off++(rows2++ob.rows.drop (off+n))=rows'):OpD P N o E H (.pv (.int .i64 n)) ((id,⟨g,sz,ob.ty,rows'⟩)::H):=by
 subst hrows
 exact opd_copy ho hS hd hH hg hsz hoff hsrc hrl2 hn hmin (fun j=>set_cons _ _ _ j)
end
/-! ### the end of an owned slice -/
def goneK (ob:Ob) (k:Nat):Ob:=⟨k,ob.sz,ob.ty,[]⟩
theorem Step.deadK {w:World} {I:Nat→Prop} {ι:Plc} {H:Heap} {id k:Nat} {ob:Ob} (hH:H.get id=some ob) (hk:ob.g < k):Step I ι H w (ImmPlus I ι id) (away ι id) ((id,goneK ob k)::H) w where
 os:=rfl
 tape:=rfl
 output:=rfl
 size:=Nat.le_refl _
 froz:=fun _ _ _=>rfl
 imm:=fun _ h=>.inl h
 immNew:=fun b hb=>by
  rcases hb with hb|⟨cap,hb⟩
  ·exact .inl hb
  exact .inr (.inl ⟨id,ob,cap,hH,hb⟩)
 own:=fun b hb=>by
  obtain ⟨j,o,cap,hj,hi⟩:=hb
  by_cases e:j=id
  ·rw [away,if_pos e] at hi;cases hi
  rw [away,if_neg e] at hi
  rw [get_cons_other _ _ e] at hj
  exact .inl ⟨j,o,cap,hj,hi⟩
 keep:=fun _ _ _=>rfl
 objs:=fun j o hj=>by
  by_cases e:j=id
  ·subst e
   rw [hH] at hj;cases hj
   exact⟨goneK ob k,get_cons_same _ _ _,Nat.le_of_lt hk,fun h=>absurd h (by simp only [goneK];omega)⟩
  exact⟨o,by rw [get_cons_other _ _ e];exact hj,Nat.le_refl _,fun _=>⟨if_neg e,rfl,fun _=>Nat.le_refl _⟩⟩
theorem Rel.deadK {w:World} {I:Nat→Prop} {ι:Plc} {H:Heap} {id k:Nat} {ob:Ob} (hr:Rel I ι H w) (hH:H.get id=some ob) (hk:ob.g < k) (hsz:0 < ob.sz):Rel (ImmPlus I ι id) (away ι id) ((id,goneK ob k)::H) w:=by
 have hst:=Step.deadK (w:=w) (I:=I) (ι:=ι) hH hk
 refine⟨fun b hb=>?_,fun j o hj=>?_,fun j j' o o' b c c' hj hj' hi hi'=>?_,hr.glob.mono (fun _ _=>rfl) (fun _ h=>.inl h)⟩
 ·rcases hb with hb|⟨cap,hb⟩
  ·exact hr.imm b hb
  exact hr.lt ⟨id,ob,cap,hH,hb⟩
 ·by_cases e:j=id
  ·subst e
   rw [get_cons_same] at hj;cases hj
   exact .inl ⟨hsz,by simp [goneK],.inr ⟨if_pos rfl,rfl⟩⟩
  rw [get_cons_other _ _ e] at hj
  refine(hr.obj j o hj).keep (if_neg e) (fun b cap e1 _=>⟨rfl,fun h=>?_⟩) (fun r _ a _ v hv=>hv.mono hr hst)
  rintro(hb|⟨cap',hb⟩)
  ·exact h hb
  exact e (hr.inj j id o ob b cap cap' hj hH e1 hb)
 have n1:j≠id:=fun e=>by rw [away,if_pos e] at hi;cases hi
 have n2:j'≠id:=fun e=>by rw [away,if_pos e] at hi';cases hi'
 rw [away,if_neg n1] at hi
 rw [away,if_neg n2] at hi'
 rw [get_cons_other _ _ n1] at hj
 rw [get_cons_other _ _ n2] at hj'
 exact hr.inj j j' o o' b c c' hj hj' hi hi'
/-- An owned slice is returned for good. -/
theorem Fin.deadS {G0 H:Heap} {id k g off n sz ty:Nat} {ob:Ob} {qs:List (List PV)} (ps:List (List PV)) (hH:H.get id=some ob) (hg:ob.g=g) (hk:g < k) (hsz:0 < ob.sz) (hs:ob.sz=sz) (ht:ob.ty=ty) (hps:ob.rows=ps.map (·.map .pv)) (hq:(ps.take (off+n)).drop off=qs) :
  Fin G0 H (.osl id g off n) ((id,⟨k,sz,ty,[]⟩)::H) (.pv (.sl qs)):=by
 intro G hG I ι w v h1 h2 h3
 subst hg hq hs ht
 exact⟨_,_,h1.deadK hH hk hsz,h2.trans (Step.deadK hH hk),.pv (freeze_prep h1 hH hps h3)⟩
/-- An owned slice ends; the result is another one. -/
theorem Fin.deadO {G0 H:Heap} {r:AV} {id k sz ty:Nat} {ob:Ob} (hH:H.get id=some ob) (hk:ob.g < k) (hsz:0 < ob.sz) (hs:ob.sz=sz) (ht:ob.ty=ty):Fin G0 H r ((id,⟨k,sz,ty,[]⟩)::H) r:=by
 intro G hG I ι w v h1 h2 h3
 subst hs ht
 exact⟨_,_,h1.deadK hH hk hsz,h2.trans (Step.deadK hH hk),h3.mono h1 (Step.deadK hH hk)⟩
/-- An owned slice under another generation. -/
theorem Fin.bump {G0 H:Heap} {id k g off n sz ty:Nat} {ob:Ob} {rows:List (List AV)} (hH:H.get id=some ob) (hg:ob.g=g) (hk:g < k) (hs:ob.sz=sz) (ht:ob.ty=ty) (hr:ob.rows=rows):Fin G0 H (.osl id g off n) ((id,⟨k,sz,ty,rows⟩)::H) (.osl id k off n):=by
 intro G hG I ι w v h1 h2 h3
 subst hg hs ht hr
 obtain ⟨k2,k3⟩:=Rel.tick (H':=(id,⟨k,ob.sz,ob.ty,ob.rows⟩)::H) (ob':=⟨k,ob.sz,ob.ty,ob.rows⟩) h1 hH hk rfl rfl rfl (get_cons_same _ _ _) (fun j hj=>get_cons_other _ _ hj)
 refine⟨I,ι,k2,h2.trans k3,?_⟩
 obtain ⟨q1,q2⟩:=osl_slice h3 hH rfl
 have hz:=osl_sz h3 hH rfl
 have hone:v.oneCell'=true:=by
  rcases q2 with⟨b,cap,oo,_,e,_⟩|⟨_,e,_⟩<;>subst e<;>rfl
 exact .osl _ (get_cons_same _ _ _) (Nat.le_refl _) hone fun _=>⟨hz,q1,q2⟩
end
end Go.Abs
namespace Go.Proofs.YtlnfjkdacimblaaGreatDoor
open Go.Abs
section
/-- Go's strings.Compare. -/
def gCmp (a b:ByteArray):Int:=if slt a b then -1 else if slt b a then 1 else 0
theorem compareBytes_eq:∀ (x y:List UInt8),Lib.compareBytes x y=if x < y then -1 else if y < x then 1 else 0
 | [],[]=>by simp [Lib.compareBytes]
 | [],b::y=>by simp [Lib.compareBytes]
 | a::x,[]=>by simp [Lib.compareBytes]
 | a::x,b::y=>by
  have ih:=compareBytes_eq x y
  simp only [Lib.compareBytes,List.cons_lt_cons_iff]
  by_cases h1:a < b
  ·simp [h1]
  by_cases h2:b < a
  ·have hne:¬ a=b:=fun e=>by subst e;exact h1 h2
   simp [h1,h2,hne]
  have e:a=b:=UInt8.le_antisymm (UInt8.not_lt.1 h2) (UInt8.not_lt.1 h1)
  subst e
  simp [ih]
theorem slt_dat (a b:ByteArray):slt a b=decide (a.data.toList < b.data.toList):=by
 unfold slt
 rw [bytesLess_eq,ByteArray.toList_eq,ByteArray.toList_eq]
theorem gCmp_eq (a b:ByteArray):Lib.compareBytes a.data.toList b.data.toList=gCmp a b:=by
 rw [compareBytes_eq,gCmp,slt_dat,slt_dat]
 simp only [decide_eq_true_eq]
theorem compare_c (a b:ByteArray) (H:Heap):ACalls Tryz.prog 205 [sv a,sv b] H (fun r H'=>r=iv (gCmp a b)∧H'=H):=by
 have hx:∀ H,ACalls Tryz.prog 242 [sv a,sv b] H (fun r H'=>r=iv (gCmp a b)∧H'=H):=fun H=>by
  refine ACalls.pure ?_ (by simp) H
  have he:∀ H,ExtR Tryz.prog Extern.BytealgCompare.compare H [sv a,sv b] (iv (gCmp a b)):=fun H=>by
   have:=ext_compare (P:=Tryz.prog) (H:=H) a b
   rwa [gCmp_eq] at this
  refine Bd Tryz.func242 rfl Tryz.ntmps242<|Sq<|Rg<|Dd as'<|Zz<|Sq<|Rg<|Dd mv'<|Dd mv'<|Dd (by exact opd_ext rfl rfl Tryz.func258 rfl rfl rfl rfl rfl (he _))<|Dd as'<|Zz<|awp_ret ?_
  refine Rt ?_
  exact⟨rfl,rfl⟩
 refine ACalls.pure ?_ (by simp) H
 refine Bd Tryz.func205 rfl Tryz.ntmps205<|Sq<|Rg<|Dd as'<|Zz<|Sq<|Rg<|Dd mv'<|Dd mv'<|Dd (by exact opr_call rfl rfl Tryz.call242 rfl (hx _))<|Dd as'<|Zz<|awp_ret ?_
 refine Rt ?_
 exact⟨rfl,rfl⟩
theorem gCmp_lt (a b:ByteArray):decide (gCmp a b < 0)=slt a b:=by
 unfold gCmp
 cases h1:slt a b with
 | true=>simp
 | false=>cases h2:slt b a<;>simp
theorem gCmp_zero (a b:ByteArray):decide (gCmp a b=0)=decide (a=b):=by
 unfold gCmp
 cases h1:slt a b with
 | true =>
  have:¬ a=b:=fun e=>by subst e;rw [slt_irr] at h1;cases h1
  simp [this]
 | false =>
  cases h2:slt b a with
  | true =>
   have:¬ a=b:=fun e=>by subst e;rw [slt_irr] at h2;cases h2
   simp [this]
  | false=>simp [slt_tri h1 h2]
/-- Where a key stands, or would stand. -/
def lbI {α:Type} (f:α→ByteArray) (l:List α) (s:ByteArray):Nat:=l.findIdx (fun o=>!slt (f o) s)
def hasK {α:Type} (f:α→ByteArray) (l:List α) (s:ByteArray):Bool:=l.any (fun o=>decide (f o=s))
def asc {α:Type} (f:α→ByteArray) (l:List α):Prop:=l.Pairwise (fun a b=>slt (f a) (f b)=true)
theorem asc_get {α:Type} {f:α→ByteArray} {l:List α} (h:asc f l) {i j:Nat} {a b:α} (hij:i < j) (ha:l[i]?=some a) (hb:l[j]?=some b):slt (f a) (f b)=true:=by
 obtain ⟨i1,i2⟩:=List.getElem?_eq_some_iff.1 ha
 obtain ⟨j1,j2⟩:=List.getElem?_eq_some_iff.1 hb
 have:=List.pairwise_iff_getElem.1 h i j i1 j1 hij
 rwa [i2,j2] at this
theorem lbI_of {α:Type} {f:α→ByteArray} {l:List α} {s:ByteArray} {i:Nat} (hi:i≤l.length) (h1:∀ k,k < i→∀ o,l[k]?=some o→slt (f o) s=true) (h2:∀ o,l[i]?=some o→slt (f o) s=false):lbI f l s=i:=by
 unfold lbI
 by_cases e:i < l.length
 ·rw [List.findIdx_eq e]
  refine⟨by simp [h2 _ (List.getElem?_eq_getElem e)],fun j hj=>?_⟩
  simp [h1 j hj _ (List.getElem?_eq_getElem (by omega))]
 have e2:i=l.length:=by omega
 rw [e2]
 refine List.findIdx_eq_length.2 fun o ho=>?_
 obtain ⟨k,hk⟩:=List.mem_iff_getElem?.1 ho
 have:=(List.getElem?_eq_some_iff.1 hk).1
 simp [h1 k (by omega) o hk]
theorem hasK_of {α:Type} {f:α→ByteArray} {l:List α} {s:ByteArray} {i:Nat} {o:α} (ha:asc f l) (h1:∀ k,k < i→∀ o,l[k]?=some o→slt (f o) s=true) (ho:l[i]?=some o) (h2:slt (f o) s=false):hasK f l s=decide (f o=s):=by
 rw [hasK,Bool.eq_iff_iff,List.any_eq_true,decide_eq_true_eq]
 constructor
 ·rintro⟨x,hx,he⟩
  have he:=of_decide_eq_true he
  obtain ⟨k,hk⟩:=List.mem_iff_getElem?.1 hx
  rcases Nat.lt_trichotomy k i with h|h|h
  ·have:=h1 k h x hk
   rw [he,slt_irr] at this;cases this
  ·subst h
   rw [ho] at hk;cases hk
   exact he
  have:=asc_get ha h ho hk
  rw [he,h2] at this;cases this
 intro e
 exact⟨o,List.mem_of_getElem? ho,decide_eq_true e⟩
theorem hasK_none {α:Type} {f:α→ByteArray} {l:List α} {s:ByteArray} (h1:∀ k,k < l.length→∀ o,l[k]?=some o→slt (f o) s=true):hasK f l s=false:=by
 rw [hasK,List.any_eq_false]
 intro o ho
 obtain ⟨k,hk⟩:=List.mem_iff_getElem?.1 ho
 have:=h1 k (List.getElem?_eq_some_iff.1 hk).1 o hk
 simp only [decide_eq_true_eq]
 intro e
 rw [e,slt_irr] at this;cases this
theorem half_lt {i j:Nat} (h:i < j):i≤(i+j) / 2∧(i+j) / 2 < j:=by omega
/-- slices.BinarySearchFunc at planisphere/api.Object. -/
theorem bsf_GObj (fv:AV) (l:List GObj) (s:ByteArray) (H:Heap) (hl:l.length < 1099511627776) (ha:asc GObj.id l) (hf:∀ o,o∈l→CallsV Tryz.prog fv [.agg ((encObj o).map .pv),sv s] H (fun r H'=>r=iv (gCmp (GObj.id o) s)∧H'=H)) :
  ACalls Tryz.prog 216 [.pv (.sl (l.map encObj)),sv s,fv] H (fun r H'=>r=.tup [iv (lbI GObj.id l s:Nat),bv (hasK GObj.id l s)]∧H'=H):=by
 have hml:(l.map encObj).length=l.length:=List.length_map _
 refine Bd Tryz.func216 rfl Tryz.ntmps216<|Sq<|Rg<|Dd as'<|Dd as'<|Zz<|Sq<|Rg<|Dd mv'<|Dd (ll' Tryz.underlying36)<|Dd as'<|Zz<|Sq<|Rg<|Dd mv'<|Dd as'<|Dd as'<|Zz<|Sq<|awp_block ?_
 refine awp_loop2 (fun(i j:Nat)=>([(0,.pv (.sl (l.map encObj))),(1,sv s),(2,fv),(8,iv ((l.map encObj).length:Int)),(9,iv (i:Int)),(10,iv (j:Int))],H)) (fun i j=>i≤j∧j≤l.length∧(∀ k,k < i→∀ o,l[k]?=some o→slt (GObj.id o) s=true)∧∀ k,j≤k→∀ o,l[k]?=some o→slt (GObj.id o) s=false) (fun i j=>j - i) 0 l.length ⟨by omega,by omega,by omega,fun k hk o ho=>?_⟩ ?_ ?_
 ·have:=(List.getElem?_eq_some_iff.1 ho).1
  omega
 ·rw [← hml]
  exact E0
 rintro i j ⟨hij,hj,hlo,hhi⟩
 refine Sq<|Sq<|Rg<|Dd mv'<|Dd mv'<|Dd lss'<|Zz ?_
 refine Cn (fun hc1=>?_) fun hc1=>?_
 ·have hlt:i < j:=by have:=of_decide_eq_true hc1;omega
  obtain ⟨q1,q2⟩:=half_lt hlt
  obtain ⟨m,hm⟩:∃ m,m=(i+j) / 2:=⟨_,rfl⟩
  rw [← hm] at q1 q2
  obtain ⟨o,ho⟩:=get_of_lt (l:=l) (k:=m) (by omega)
  have hi:=map_get (f:=encObj) ho
  have hfo:=hf o (List.mem_of_getElem? ho)
  have e1:IntKind.u64.wrap ((i:Int)+(j:Int))=((i+j:Nat):Int):=by rw [IntKind.wrap_u64];omega
  have e2:IntKind.i64.wrap (((i+j:Nat):Int) / 2)=(m:Int):=by rw [IntKind.wrap_i64];omega
  refine awp_skip<|awp_block<|Sq<|Rg<|Dd mv'<|Dd mv'<|Dd ad'<|Dd (by exact opd_conv_int rfl Tryz.underlying3 Tryz.underlying186 rfl e1)<|Dd (by exact opd_shr rfl rfl rfl (by omega) (by simp [IntKind.bits];try omega) rfl)<|Dd (by exact opd_conv_int rfl Tryz.underlying186 Tryz.underlying3 rfl e2)<|Dd as'<|Zz<|Sq<|Rg<|Dd mv'<|Dd mv'<|Dd mv'<|Dd (xp' so36)<|Dd (by exact opd_loadn_pad rfl Tryz.isAgg49 Tryz.sizeOf49 rfl (by omega) (by simp only [Zl,encObj];rfl) rfl)<|Dd mv'<|Dd (by exact opr_callV rfl rfl rfl (hfo))<|Dd lss'<|Zz ?_
  refine Cn (fun hc2=>?_) fun hc2=>?_
  ·rw [gCmp_lt] at hc2
   refine Rg<|Dd mv'<|Dd ad'<|Dd as'<|Zz ?_
   refine⟨m+1,j,⟨by omega,by omega,fun k hk x hx=>?_,hhi⟩,by omega,E0⟩
   by_cases e:k=m
   ·subst e;rw [ho] at hx;cases hx;exact hc2
   exact slt_trans (asc_get ha (by omega) hx ho) hc2
  rw [gCmp_lt] at hc2
  refine Rg<|Dd mv'<|Dd as'<|Zz ?_
  refine⟨i,m,⟨by omega,by omega,hlo,fun k hk x hx=>?_⟩,by omega,E0⟩
  by_cases e:k=m
  ·subst e;rw [ho] at hx;cases hx;exact hc2
  cases h:slt (GObj.id x) s with
  | false=>rfl
  | true =>
   have:=slt_trans (asc_get ha (by omega) ho hx) h
   rw [hc2] at this;cases this
 have hge:i=j:=by have:=of_decide_eq_false hc1;omega
 subst hge
 have hlb:lbI GObj.id l s=i:=lbI_of hj hlo (fun o ho=>hhi i (Nat.le_refl _) o ho)
 by_cases hlt:i < l.length
 ·obtain ⟨o,ho⟩:=get_of_lt hlt
  have hi:=map_get (f:=encObj) ho
  have hfo:=hf o (List.mem_of_getElem? ho)
  have hlt2:decide ((i:Int) < ((l.map encObj).length:Int))=true:=decide_eq_true (by omega)
  have hk:=hasK_of ha hlo ho (hhi i (Nat.le_refl _) o ho)
  rw [hlb,hk,← gCmp_zero]
  refine awp_exit<|Sq<|Rg<|Dd mv'<|Dd mv'<|Dd mv'<|Dd lss'<|Dd mv' ?_
  refine al_ond rfl rfl rfl (by assumption) rfl rfl (by exact opd_move rfl rfl) ?_
  refine al_ond rfl rfl rfl (by assumption) rfl rfl (by exact opd_move rfl rfl) ?_
  refine al_ond rfl rfl rfl (by assumption) rfl rfl (by exact opd_move rfl rfl) ?_
  refine al_ond rfl rfl rfl (by assumption) rfl rfl (by exact x_index_pad rfl so36 rfl rfl (by omega) (by exact Int.toNat_natCast _) (by assumption) rfl) ?_
  refine al_ond rfl rfl rfl (by assumption) rfl rfl (by exact opd_loadn_pad rfl Tryz.isAgg49 Tryz.sizeOf49 rfl (by omega) (by simp only [Zl,encObj];rfl) rfl) ?_
  refine al_ond rfl rfl rfl (by assumption) rfl rfl (by exact opd_move rfl rfl) ?_
  refine al_ond rfl rfl rfl (by assumption) rfl rfl (by exact opr_callV rfl rfl rfl (hfo)) ?_
  refine al_ond rfl rfl rfl (by assumption) rfl rfl (by exact opd_eql rfl rfl rfl) ?_
  refine Dd pt'<|Dd as'<|Dd as'<|Zz<|awp_ret ?_
  refine aret2 (H':=H) (.inr rfl) rfl (rval_tmp rfl) (rval_tmp rfl) Fin.refl ?_
  exact⟨rfl,rfl⟩
 have hlt2:decide ((i:Int) < ((l.map encObj).length:Int))=false:=decide_eq_false (by omega)
 have hk:=hasK_none (fun k hk o ho=>hlo k (by omega) o ho)
 rw [hlb,hk]
 refine awp_exit<|Sq<|Rg<|Dd mv'<|Dd mv'<|Dd mv'<|Dd lss'<|Dd mv' ?_
 refine al_off rfl rfl rfl (by assumption) rfl ?_
 refine al_off rfl rfl rfl (by assumption) rfl ?_
 refine al_off rfl rfl rfl (by assumption) rfl ?_
 refine al_off rfl rfl rfl (by assumption) rfl ?_
 refine al_off rfl rfl rfl (by assumption) rfl ?_
 refine al_off rfl rfl rfl (by assumption) rfl ?_
 refine al_off rfl rfl rfl (by assumption) rfl ?_
 refine al_off rfl rfl rfl (by assumption) rfl ?_
 refine Dd pf'<|Dd as'<|Dd as'<|Zz<|awp_ret ?_
 refine aret2 (H':=H) (.inr rfl) rfl (rval_tmp rfl) (rval_tmp rfl) Fin.refl ?_
 exact⟨rfl,rfl⟩
end
section
theorem lbI_le {α:Type} (f:α→ByteArray) (l:List α) (s:ByteArray):lbI f l s≤l.length:=List.findIdx_le_length
theorem hasK_get {α:Type} {f:α→ByteArray} {l:List α} {s:ByteArray} (ha:asc f l) (h:hasK f l s=true):∃ o,l[lbI f l s]?=some o∧f o=s:=by
 rw [hasK,List.any_eq_true] at h
 obtain ⟨x,hx,he⟩:=h
 have he:=of_decide_eq_true he
 obtain ⟨k,hk⟩:=List.mem_iff_getElem?.1 hx
 have:lbI f l s=k:=lbI_of (by have:=(List.getElem?_eq_some_iff.1 hk).1;omega) (fun j hj o ho=>by rw [← he];exact asc_get ha hj ho hk) (fun o ho=>by rw [hk] at ho;cases ho;rw [he,slt_irr])
 exact⟨x,by rw [this];exact hk,he⟩
abbrev pvR (ps:List (List PV)):List (List AV):=ps.map (·.map .pv)
theorem pvR_take (ps:List (List PV)) (i:Nat):(pvR ps).take i=pvR (ps.take i):=List.map_take.symm
theorem pvR_drop (ps:List (List PV)) (i:Nat):(pvR ps).drop i=pvR (ps.drop i):=List.map_drop.symm
theorem pvR_len (ps:List (List PV)):(pvR ps).length=ps.length:=List.length_map _
theorem pvR_rl {ps:List (List PV)} {n:Nat} (h:∀ r∈ps,r.length=n):∀ r∈pvR ps,r.length=n:=fun r hr=>by
 obtain ⟨q,hq,rfl⟩:=List.mem_map.1 hr
 rw [List.length_map];exact h q hq
theorem clo_osl1 {id g off n:Nat} {H:Heap} (h:(H.get id).isSome=true):∀ r∈[[AV.osl id g off n]],∀ x∈r,Clo H x:=by simp [h]
/-- The rows while an element is put in. -/
theorem ins_a {α:Type} {R:List α} {z:α} {i n:Nat} (q:α) (hn:R.length=n) (hi:i < n):(R.take i++List.replicate (n+1 - i) z).take i++([q]++(R.take i++List.replicate (n+1 - i) z).drop (i+1))=R.take i++q::List.replicate (n - i) z:=by
 apply List.ext_getElem?
 intro k
 simp only [List.getElem?_append,List.getElem?_take,List.getElem?_drop,List.getElem?_replicate,List.length_append,List.length_take,List.length_replicate,List.length_drop,List.length_cons,List.length_nil,List.getElem?_cons]
 repeat' split
 all_goals first|rfl|omega
theorem ins_b {α:Type} {R:List α} {z q:α} {i n:Nat} (hn:R.length=n) (hi:i < n):(R.take i++q::List.replicate (n - i) z).take (i+1)++((R.drop i).take (n - i)++(R.take i++q::List.replicate (n - i) z).drop (i+1+(n - i)))=R.take i++q::R.drop i:=by
 apply List.ext_getElem?
 intro k
 simp only [List.getElem?_append,List.getElem?_take,List.getElem?_drop,List.getElem?_replicate,List.length_append,List.length_take,List.length_replicate,List.length_drop,List.length_cons,List.length_nil,List.getElem?_cons]
 repeat' split
 all_goals first|rfl|omega|(congr 1;omega)|(symm;apply List.getElem?_eq_none;omega)
theorem ins_c {α:Type} {R:List α} {i n:Nat} (hn:R.length=n) (hi:i < n):∃ x,R.take (i+1)++((R.drop i).take (n - i)++R.drop (i+1+(n - i)))=R.take i++x::R.drop i:=by
 have hlt:i < R.length:=by omega
 refine⟨R[i],?_⟩
 rw [List.take_succ_eq_append_getElem hlt,List.take_of_length_le (l:=R.drop i) (by rw [List.length_drop];omega),show R.drop (i+1+(n - i))=[] from List.drop_eq_nil_of_le (by omega),List.append_nil,List.append_assoc]
 rfl
theorem ins_d {α:Type} {R:List α} {i n:Nat} (q x:α) (hn:R.length=n) (hi:i < n):(R.take i++x::R.drop i).take i++([q]++(R.take i++x::R.drop i).drop (i+1))=R.take i++q::R.drop i:=by
 have h1:(R.take i).length=i:=by rw [List.length_take];omega
 rw [List.take_left' h1,show R.take i++x::R.drop i=(R.take i++[x])++R.drop i by simp,List.drop_left' (by simp [h1])]
 simp
/-- The rows while elements are taken out. -/
theorem del_a {α:Type} {R:List α} {i j n:Nat} (hn:R.length=n) (hij:i≤j) (hj:j≤n):(R.take i++((R.drop j).take (n - j)++R.drop (i+(n - j)))).take (i+(n - j))=R.take i++R.drop j:=by
 have h1:(R.take i).length=i:=by rw [List.length_take];omega
 have h2:(R.drop j).length=n - j:=by rw [List.length_drop];omega
 rw [List.take_of_length_le (l:=R.drop j) (by omega),← List.append_assoc,List.take_left' (by simp [h1,h2])]
/-- The one object in front is what is returned, for good. -/
theorem Fin.sliceG {G0 H H1:Heap} {id g n:Nat} (ob:Ob) (ps:List (List PV)) (hH1:∀ j,Heap.get ((id,ob)::H) j=H1.get j) (hg:ob.g=g) (hps:ob.rows=ps.map (·.map .pv)) (hn:ps.length=n) (hc:Closed H) (hid:H.get id=none) (hG:G0.get id=none) :
  Fin G0 H1 (.osl id g 0 n) H (.pv (.sl ps)) :=
 (Fin.get' (H':=(id,ob)::H) hH1).trans (Fin.slice [(id,ob)] ps (get_cons_same _ _ _) hg hps hn hc (by simp [hid]) (by simp [hG]) hid)
/-- An object of the caller's ends with what is returned. -/
theorem Fin.deadG {G0 H H1:Heap} {id k g off n sz ty:Nat} {rows:List (List AV)} {qs:List (List PV)} (ps:List (List PV)) (hH1:∀ j,Heap.get ((id,(⟨g,sz,ty,rows⟩:Ob))::H) j=H1.get j) (hk:g < k) (hsz:Nat.blt 0 sz=true) (hps:rows=ps.map (·.map .pv)) (hq:(ps.take (off+n)).drop off=qs) :
  Fin G0 H1 (.osl id g off n) ((id,⟨k,sz,ty,[]⟩)::H) (.pv (.sl qs)) :=
 ((Fin.get' (H':=(id,⟨g,sz,ty,rows⟩)::H) hH1).trans (Fin.deadS ps (get_cons_same _ _ _) rfl hk (by simpa [Nat.blt_eq] using hsz) rfl rfl hps hq)).trans (Fin.get' (fun j=>get_dup _ _ _ _ j))
/-- slices.Clone at planisphere/api.Object. -/
theorem clone_Obj (ps:List (List PV)) (H:Heap) (hc:Closed H) (h1:H.get 901=none) (h2:H.get 902=none) (hl:ps.length < 1099511627776) (hrl:∀ r∈ps,r.length=6) :
  ACalls Tryz.prog 168 [.pv (.sl ps)] H (fun r H'=>r=.osl 901 1 0 ps.length∧H'=(901,⟨1,6,49,pvR ps⟩)::H):=by
 refine Bd Tryz.func168 rfl Tryz.ntmps168<|Sq<|Rg<|Dd as'<|Zz<|Sq<|Sq<|Rg<|Dd mv' ?_
 refine al_r rfl rfl (opr_sl_nil rfl Tryz.underlying36 rfl) ?_
 rintro _ H2 ⟨e2,b,rfl,hb⟩
 rw [e2]
 clear e2 H2
 refine Zz ?_
 refine Cn (fun hc1=>?_) fun hc1=>?_
 ·have h0:=hb hc1
  subst h0
  refine Sq<|Rg<|Dd (by exact opd_assign_own (id:=901) (sz:=6) (ty:=49) rfl h1 rfl)<|Zz<|awp_ret ?_
  refine aret1 (H':=((901,⟨1,6,49,[]⟩)::H)) (.inr rfl) rfl (rval_tmp rfl) ((Fin.bump (g:=0) (k:=1) rfl rfl (by decide) rfl rfl rfl).trans (Fin.get' (fun j=>get_dup _ _ _ _ j))) ?_
  exact⟨rfl,rfl⟩
 skip
 refine awp_skip<|Sq<|Rg<|Dd (by exact x_buildSlice_own (id:=901) rfl so36 rfl rfl rfl rfl (by simp) h1)<|Dd mv'<|Dd (by exact x_append rfl so36 ei49 rfl rfl rfl rfl rfl rfl rfl hrl rfl (by omega) (Nat.zero_add _) (List.nil_append _))<|Dd as'<|Zz<|awp_ret ?_
 refine aret1 (H':=((901,⟨1,6,49,pvR ps⟩)::H)) (.inr rfl) rfl (rval_tmp rfl) (Fin.get' (fun j=>get_dup _ _ _ _ j)) ?_
 exact⟨rfl,rfl⟩
/-- The model's entry for slices.overlaps. -/
theorem ov_Obj:(Tryz.f218.name == "runtime.NumGoroutine")=false∧Tryz.f218.body.isNone=true∧Extern.findNext Tryz.f218=none∧Extern.find Tryz.f218=some (Extern.SlicesOverlaps.overlaps #[36,36] #[4]):=⟨by kernel_rfl,by kernel_rfl,by kernel_rfl,by kernel_rfl⟩
theorem ovop_Obj {N:Nat} {o:Oper} {E:Env} {H:Heap} {x y:Operand} {at_:Array TypeId} {id1 g1 off1 n1 id2 g2 off2 n2 c2:Nat} {o1 o2:Ob} (ho:o.op=.call {callee:=.value (.func 218),args:=#[x,y],argTypes:=at_}) (hx:aeval E x=some (.osl id1 g1 off1 n1)) (hy:aeval E y=some (.osc id2 g2 off2 n2 c2))
  (h1:H.get id1=some o1) (hg1:o1.g=g1) (h2:H.get id2=some o2) (hg2:o2.g=g2) (hne:Nat.beq id1 id2=false) (hp1:0 < n1) (hpos:0 < n2+c2):OpD Tryz.prog N o E H (.pv (.bool false)) H:=by
 have hv:aargs E (#[x,y]:Array Operand).toList=some [.osl id1 g1 off1 n1,.osc id2 g2 off2 n2 c2]:=by simp only [aargs,hx,hy]
 have hF:Tryz.prog.funcs[(218:Nat)]?=some Tryz.f218:=Tryz.func218
 exact opd_extr ho (f:=.func 218) (F:=218) rfl hF ov_Obj.1 ov_Obj.2.1 ov_Obj.2.2.1 ov_Obj.2.2.2 hv (ext_overlaps so36 h1 hg1 h2 hg2 hne hp1 hpos)
/-- slices.Insert of one element at planisphere/api.Object. -/
theorem insert_Obj (ps:List (List PV)) (p:List PV) (i g:Nat) (H:Heap) (hc:Closed H) (h1:H.get 901=some ⟨g,6,49,pvR ps⟩) (h2:H.get 902=some ⟨0,6,49,[p.map .pv]⟩) (h3:H.get 903=none) (hl:ps.length < 1099511627776) (hi:i≤ps.length) (hrl:∀ r∈ps,r.length=6) (hp:p.length=6) :
  ACalls Tryz.prog 169 [.osl 901 g 0 ps.length,iv (i:Int),.osl 902 0 0 1] H (fun r H'=>r=.pv (.sl (ps.take i++p::ps.drop i))∧H'=(901,⟨g+3,6,49,[]⟩)::H):=by
 have hpl:(pvR ps).length=ps.length:=pvR_len ps
 have hR:=pvR_rl hrl
 have hp1:∀ r∈[p.map AV.pv],r.length=6:=by intro r hr;rw [List.mem_singleton] at hr;subst hr;rw [List.length_map];exact hp
 have hfin:pvR (ps.take i++p::ps.drop i)=(pvR ps).take i++p.map AV.pv::(pvR ps).drop i:=by rw [pvR_take,pvR_drop,pvR,List.map_append,List.map_cons]
 refine Bd Tryz.func169 rfl Tryz.ntmps169 ?_
 refine awp_cap (t:=0) rfl h1 rfl ?_
 intro c hcn hcm
 refine Sq<|Rg<|Dd as'<|Zz<|Sq<|Rg<|Dd mv'<|Dd mv'<|Dd (by exact x_slice_osc (l:=i) (h:=ps.length) rfl so36 rfl h1 rfl rfl rfl rfl hi hcn rfl rfl rfl)<|Zz<|Sq<|Rg<|Dd mv'<|Dd (by exact opd_len_osl rfl Tryz.underlying36 rfl h2 rfl)<|Dd as'<|Zz<|Sq<|Sq<|Rg<|Dd mv'<|Dd eql'<|Zz ?_
 refine Cn (fun hc1=>?_) fun hc1=>?_
 ·cases hc1
 skip
 refine awp_skip<|Sq<|Rg<|Dd mv'<|Dd (by exact opd_len_osc rfl Tryz.underlying36 rfl h1 rfl)<|Dd as'<|Zz<|Sq<|Sq<|Rg<|Dd mv'<|Dd mv'<|Dd eql'<|Zz ?_
 refine Cn (fun hc2=>?_) fun hc2=>?_
 ·have hin:i=ps.length:=by have:=of_decide_eq_true hc2;omega
  subst hin
  refine awp_uncap (t:=0) rfl h1 rfl (by rw [hpl];omega) ?_
  refine Sq<|Rg<|Dd mv'<|Dd mv'<|Dd (by exact x_append_osl rfl so36 ei49 rfl h1 rfl rfl rfl hpl rfl h2 rfl rfl hp1 (by simp) (by omega) rfl rfl)<|Dd as'<|Zz<|awp_ret ?_
  refine aret1 (H':=((901,⟨g+3,6,49,[]⟩)::H)) (.inr rfl) rfl (rval_tmp rfl) ((Fin.deadS (g:=g+1) (k:=g+3) (sz:=6) (ty:=49) (ps++[p]) rfl rfl (by omega) (Nat.le_of_ble_eq_true rfl) rfl rfl (by rw [List.map_append];rfl) (qs:=ps.take ps.length++p::ps.drop ps.length) (by rw [List.take_of_length_le (by simp),List.drop_zero,List.take_length,List.drop_length])).trans (Fin.get' (fun j=>get_dup _ _ _ _ j))) ?_
  exact⟨rfl,rfl⟩
 have hin:i < ps.length:=by have:=of_decide_eq_false hc2;omega
 refine awp_skip<|Sq<|Sq<|Rg<|Dd mv'<|Dd mv'<|Dd ad'<|Dd mv'<|Dd (by exact opd_cap_osc rfl Tryz.underlying36 rfl h1 rfl)<|Dd gt'<|Zz ?_
 refine Cn (fun hc3=>?_) fun hc3=>?_
 ·have hgt:c < ps.length+1:=by have:=of_decide_eq_true hc3;omega
  refine Sq<|Rg<|Dd mv'<|Dd mv'<|Dd (by exact x_slice_osc (l:=0) (h:=i) rfl so36 rfl h1 rfl rfl rfl rfl (by omega) (by omega) rfl rfl rfl)<|Dd mv'<|Dd mv'<|Dd ad'<|Dd mv'<|Dd (by exact opd_sub rfl rfl rfl (by exact w64 (by omega) (by omega)))<|Dd (by exact x_append_zeros (id2:=903) (m:=ps.length+1 - i) rfl so36 Tryz.underlying3 ei49 zo49 rfl rfl h1 rfl rfl (by rw [hpl];omega) rfl (by omega) (by omega) (by omega) rfl (by omega) h3 rfl)<|Dd as'<|Zz<|Sq<|Rg<|Dd mv'<|Dd mv'<|Dd (by exact x_slice_osl (l:=i) (h:=i+(ps.length+1 - i)) rfl so36 rfl rfl rfl rfl rfl rfl (by omega) (by omega) (Nat.zero_add _) (by omega:i+(ps.length+1 - i) - i=ps.length+1 - i))<|Dd mv'<|Dd (by exact x_copy (n:=1) rfl so36 (dst_of_osl rfl rfl rfl) rfl rfl rfl (by simp only [List.length_append,List.length_take,List.length_replicate,hpl];omega) (src_of_osl (k:=1) rfl h2 rfl rfl (by omega) rfl) hp1 rfl (by omega) (ins_a (p.map AV.pv) hpl hin)) ?_
  refine Zz<|Sq ?_
  refine awp_drawc follows ?_
  refine Cr [] (fun _ _=>mv')<|Cr [] (fun _ _=>mv')<|Cr [] (fun _ _=>mv')<|Cr [] (fun _ _=>ad')<|Cr [903] (fun H1 hH=>by exact x_slice_osl (l:=i+1) (h:=i+(ps.length+1 - i)) rfl so36 rfl ((hH 903 rfl).trans rfl) rfl rfl rfl rfl (by omega) (by omega) (Nat.zero_add _) (by omega:i+(ps.length+1 - i) - (i+1)=ps.length - i))<|Cr [] (fun _ _=>mv')<|Cr [] (fun _ _=>mv')<|Cr [901] (fun H1 hH=>by exact x_slice_osc (l:=i) (h:=ps.length) rfl so36 rfl ((hH 901 rfl).trans h1) rfl rfl rfl rfl (by omega) (by omega) (Nat.zero_add _) rfl rfl)<|Cp [901,903] (fun H1 hH=>by exact x_copy (n:=ps.length - i) rfl so36 (dst_of_osl rfl ((hH 903 rfl).trans rfl) rfl) ((hH 903 rfl).trans rfl) rfl rfl (by simp only [List.length_append,List.length_take,List.length_replicate,List.length_cons,hpl];omega) (src_of_osc (k:=ps.length - i) rfl ((hH 901 rfl).trans h1) rfl rfl (by omega) (by rw [hpl];omega) rfl) (fun r hr=>hR r (List.mem_of_mem_drop (List.mem_of_mem_take hr))) (by rw [List.length_take,List.length_drop,hpl];omega) (by omega) (ins_b hpl hin)) ?_
  refine dc_nil ⟨by kernel_rfl,?_⟩
  refine Sq<|Rg<|Dd mv'<|Dd as'<|Zz<|awp_ret ?_
  refine aret1 (H':=((901,⟨g+3,6,49,[]⟩)::H)) (.inr rfl) rfl (rval_tmp rfl) ((Fin.sliceG (id:=903) (g:=0) ⟨0,6,49,(pvR ps).take i++p.map AV.pv::(pvR ps).drop i⟩ (ps.take i++p::ps.drop i) (fun j=>by cases e:Nat.beq 903 j<;>simp [Heap.get,e]) rfl hfin.symm (by simp only [List.length_append,List.length_take,List.length_cons,List.length_drop];omega) hc h3 h3).trans (Fin.deadO (k:=g+3) (sz:=6) (ty:=49) h1 (by show g < g+3;omega) (Nat.le_of_ble_eq_true rfl) rfl rfl)) ?_
  exact⟨rfl,rfl⟩
 have hle:ps.length+1≤c:=by have:=of_decide_eq_false hc3;omega
 obtain ⟨x,hx⟩:=ins_c hpl hin
 refine awp_skip<|Sq<|Rg<|Dd mv'<|Dd mv'<|Dd mv'<|Dd ad'<|Dd (by exact x_slice_osc (l:=0) (h:=ps.length+1) rfl so36 rfl h1 rfl rfl rfl rfl (by omega) hle rfl rfl rfl)<|Dd as'<|Zz<|Sq<|Sq<|Rg<|Dd mv'<|Dd mv'<|Dd mv'<|Dd mv'<|Dd ad'<|Dd (by exact x_slice_osc (l:=i+1) (h:=ps.length+1) rfl so36 rfl h1 rfl rfl rfl rfl (by omega) hle (Nat.zero_add _) (by omega:ps.length+1 - (i+1)=ps.length - i) rfl)<|Dd (by exact ovop_Obj rfl rfl rfl h2 rfl h1 rfl rfl (by omega) (by omega))<|Dd no'<|Zz ?_
 refine Cn (fun hc4=>?_) fun hc4=>?_
 ·skip
  refine Sq ?_
  refine awp_drawc follows ?_
  refine Cr [] (fun _ _=>mv')<|Cr [] (fun _ _=>mv')<|Cr [] (fun _ _=>mv')<|Cr [] (fun _ _=>ad')<|Cr [901] (fun H1 hH=>by exact x_slice_osc (l:=i+1) (h:=ps.length+1) rfl so36 rfl ((hH 901 rfl).trans h1) rfl rfl rfl rfl (by omega) hle (Nat.zero_add _) (by omega:ps.length+1 - (i+1)=ps.length - i) rfl)<|Cr [] (fun _ _=>mv')<|Cr [] (fun _ _=>mv')<|Cr [901] (fun H1 hH=>by exact x_slice_osc (l:=i) (h:=ps.length+1) rfl so36 rfl ((hH 901 rfl).trans h1) rfl rfl rfl rfl (by omega) hle (Nat.zero_add _) rfl rfl)<|Cp [901] (fun H1 hH=>by exact x_copy (n:=ps.length - i) rfl so36 (dst_of_osc rfl) ((hH 901 rfl).trans h1) rfl rfl (by rw [hpl];omega) (src_of_osc (k:=ps.length - i) rfl ((hH 901 rfl).trans h1) rfl rfl (by omega) (by rw [hpl];omega) rfl) (fun r hr=>hR r (List.mem_of_mem_drop (List.mem_of_mem_take hr))) (by rw [List.length_take,List.length_drop,hpl];omega) (by omega) hx) ?_
  refine dc_nil ⟨by kernel_rfl,?_⟩
  refine Sq<|Rg<|Dd mv'<|Dd mv'<|Dd (by exact x_slice_osc (l:=i) (h:=ps.length+1) rfl so36 rfl rfl rfl rfl rfl rfl (by omega) hle (Nat.zero_add _) rfl rfl)<|Dd mv'<|Dd (by exact x_copy (n:=1) rfl so36 (dst_of_osc rfl) rfl rfl rfl (by simp only [List.length_append,List.length_take,List.length_cons,hpl];omega) (src_of_osl (k:=1) rfl h2 rfl rfl (by omega) rfl) hp1 rfl (by omega) (ins_d (p.map AV.pv) x hpl hin))<|Zz<|Sq ?_
  refine awp_uncap (t:=0) rfl rfl rfl (by simp only [List.length_append,List.length_take,List.length_cons,List.length_drop,hpl];omega) ?_
  refine Rg<|Dd mv'<|Dd as'<|Zz<|awp_ret ?_
  refine aret1 (H':=((901,⟨g+3,6,49,[]⟩)::H)) (.inr rfl) rfl (rval_tmp rfl) (Fin.deadG (id:=901) (k:=g+3) (sz:=6) (ty:=49) (rows:=(pvR ps).take i++p.map AV.pv::(pvR ps).drop i) (qs:=ps.take i++p::ps.drop i) (ps.take i++p::ps.drop i) (fun j=>by cases e:Nat.beq 901 j<;>simp [Heap.get,e]) (by omega) rfl hfin.symm (by rw [List.drop_zero];exact List.take_of_length_le (by simp only [List.length_append,List.length_take,List.length_cons,List.length_drop];omega))) ?_
  exact⟨rfl,rfl⟩
 cases hc4
/-- slices.Delete at planisphere/api.Object. -/
theorem delete_Obj (ps:List (List PV)) (i j g:Nat) (H:Heap) (hc:Closed H) (h1:H.get 901=some ⟨g,6,49,pvR ps⟩) (hl:ps.length < 1099511627776) (hij:i≤j) (hj:j≤ps.length) (hrl:∀ r∈ps,r.length=6) :
  ACalls Tryz.prog 170 [.osl 901 g 0 ps.length,iv (i:Int),iv (j:Int)] H (fun r H'=>r=.pv (.sl (ps.take i++ps.drop j))∧H'=(901,⟨g+3,6,49,[]⟩)::H):=by
 have hpl:(pvR ps).length=ps.length:=pvR_len ps
 have hR:=pvR_rl hrl
 refine Bd Tryz.func170 rfl Tryz.ntmps170 ?_
 refine awp_cap (t:=0) rfl h1 rfl ?_
 intro c hcn hcm
 refine Sq<|Rg<|Dd as'<|Zz<|Sq<|Rg<|Dd mv'<|Dd mv'<|Dd mv'<|Dd mv'<|Dd (by exact opd_len_osc rfl Tryz.underlying36 rfl h1 rfl)<|Dd (by exact x_slice_chk (l:=i) (h:=j) (m:=ps.length) rfl so36 rfl h1 rfl rfl rfl rfl hij hj hcn)<|Zz<|Sq<|Sq<|Rg<|Dd mv'<|Dd mv'<|Dd eql'<|Zz ?_
 refine Cn (fun hc1=>?_) fun hc1=>?_
 ·have e:i=j:=by have:=of_decide_eq_true hc1;omega
  subst e
  refine awp_uncap (t:=0) rfl h1 rfl (by rw [hpl];omega) ?_
  refine Sq<|Rg<|Dd mv'<|Dd as'<|Zz<|awp_ret ?_
  refine aret1 (H':=((901,⟨g+3,6,49,[]⟩)::H)) (.inr rfl) rfl (rval_tmp rfl) ((Fin.deadS (g:=g) (k:=g+3) (sz:=6) (ty:=49) ps h1 rfl (by omega) (Nat.le_of_ble_eq_true rfl) rfl rfl rfl (qs:=ps.take i++ps.drop i) (by rw [Nat.zero_add,List.drop_zero,List.take_length,List.take_append_drop]))) ?_
  exact⟨rfl,rfl⟩
 have hne:i < j:=by have:=of_decide_eq_false hc1;omega
 have hd:=del_a hpl hij hj
 have hlen:((pvR ps).take i++(((pvR ps).drop j).take (ps.length - j)++(pvR ps).drop (i+(ps.length - j)))).length=ps.length:=by
  simp only [List.length_append,List.length_take,List.length_drop,hpl];omega
 refine awp_skip<|Sq<|Rg<|Dd mv'<|Dd (by exact opd_len_osc rfl Tryz.underlying36 rfl h1 rfl)<|Dd as'<|Zz<|Sq ?_
 refine awp_drawc follows ?_
 refine Cr [] (fun _ _=>mv')<|Cr [] (fun _ _=>mv')<|Cr [901] (fun H1 hH=>by exact x_slice_osc (l:=0) (h:=i) rfl so36 rfl ((hH 901 rfl).trans h1) rfl rfl rfl rfl (by omega) (by omega) rfl (Nat.sub_zero _) (Nat.sub_zero _))<|Cr [] (fun _ _=>mv')<|Cr [] (fun _ _=>mv')<|Cr [901] (fun H1 hH=>by exact x_slice_osc (l:=j) (h:=ps.length) rfl so36 rfl ((hH 901 rfl).trans h1) rfl rfl rfl rfl (by omega) hcn (Nat.zero_add _) rfl rfl)<|Cp [901] (fun H1 hH=>by exact x_append_room (m:=ps.length - j) (rows':=(pvR ps).take i++(((pvR ps).drop j).take (ps.length - j)++(pvR ps).drop (i+(ps.length - j)))) rfl so36 ei49 rfl ((hH 901 rfl).trans h1) rfl rfl rfl (by rw [hpl];omega) (src_of_osc (k:=ps.length - j) rfl ((hH 901 rfl).trans h1) rfl rfl (by omega) (by rw [hpl];omega) rfl) (fun r hr=>hR r (List.mem_of_mem_drop (List.mem_of_mem_take hr))) (by rw [List.length_take,List.length_drop,hpl];omega) (by omega) rfl (by rw [Nat.zero_add])) ?_
 refine Cr [] (fun _ _=>as') ?_
 refine dc_nil ⟨by kernel_rfl,?_⟩
 refine Sq<|Rg<|Dd mv'<|Dd mv'<|Dd (by exact opd_len_osc rfl Tryz.underlying36 rfl rfl rfl)<|Dd mv'<|Dd (by exact x_slice_osc (l:=i+(ps.length - j)) (h:=ps.length) rfl so36 rfl rfl rfl rfl rfl rfl (by omega) hcn (Nat.zero_add _) rfl rfl)<|Uu (by exact opd_clear rfl so36 zo49 rfl rfl rfl rfl rfl (by rw [hlen];omega) (by rw [hd,show i+(ps.length - j)+(ps.length - (i+(ps.length - j)))=ps.length by omega,List.drop_eq_nil_of_le (Nat.le_of_eq hlen),List.append_nil]))<|Zz<|Sq ?_
 refine awp_uncap (t:=0) rfl rfl rfl (by simp only [List.length_append,List.length_take,List.length_drop,hpl];omega) ?_
 refine Rg<|Dd mv'<|Dd as'<|Zz<|awp_ret ?_
 refine aret1 (H':=((901,⟨g+3,6,49,[]⟩)::H)) (.inr rfl) rfl (rval_tmp rfl) (Fin.deadG (id:=901) (k:=g+3) (sz:=6) (ty:=49) (rows:=(pvR ps).take i++(pvR ps).drop j++List.replicate (ps.length - (i+(ps.length - j))) (List.map AV.pv [.str ⟨#[]⟩,.int .i64 0,.int .i64 0,.int .i64 0,.sl [],.sl []])) (qs:=ps.take i++ps.drop j) ((ps.take i++ps.drop j)++List.replicate (ps.length - (i+(ps.length - j))) [.str ⟨#[]⟩,.int .i64 0,.int .i64 0,.int .i64 0,.sl [],.sl []]) (fun j=>by cases e:Nat.beq 901 j<;>simp [Heap.get,e]) (by omega) rfl (by rw [List.map_append,List.map_replicate,List.map_append,pvR_take,pvR_drop]) (by rw [List.drop_zero];exact List.take_left' (by simp only [List.length_append,List.length_take,List.length_drop];omega))) ?_
 exact⟨rfl,rfl⟩
end
section
theorem badTag_iff {last:ByteArray} {t:GTag}:badTag last t=false↔gName t.key=true∧slt last t.key=true∧t.val≠sNil∧t.val.size≤200:=by
 simp only [badTag,Bool.or_eq_false_iff,Bool.not_eq_false',sle_iff,decide_eq_false_iff_not]
 constructor
 ·rintro⟨⟨⟨h1,h2⟩,h3⟩,h4⟩
  exact⟨h1,h2,h3,by omega⟩
 rintro⟨h1,h2,h3,h4⟩
 exact⟨⟨⟨h1,h2⟩,h3⟩,by omega⟩
theorem slt_pos {s:ByteArray} (h:s≠sNil):slt sNil s=true:=by
 cases e:slt sNil s with
 | true=>rfl
 | false=>exact absurd (slt_tri (slt_nil s) e) h
theorem gTags_iff {l:List GTag}:gTags l=true↔(∀ t,t∈l→gName t.key=true∧t.val≠sNil∧t.val.size≤200)∧asc GTag.key l∧l.length≤60:=by
 have hlen:decide ((l.length:Int)≤60)=decide (l.length≤60):=by
  rw [Bool.eq_iff_iff,decide_eq_true_eq,decide_eq_true_eq];omega
 rw [gTags,hlen,Bool.and_eq_true,Bool.not_eq_true',List.any_eq_false,decide_eq_true_eq]
 constructor
 ·rintro⟨h,hn⟩
  have hb:∀ k t,l[k]?=some t→gName t.key=true∧slt (before GTag.key l k) t.key=true∧t.val≠sNil∧t.val.size≤200:=fun k t hk=>by
   have h1:=h k (List.mem_range.2 (List.getElem?_eq_some_iff.1 hk).1)
   rw [badAt,hk] at h1
   simp only [Bool.not_eq_true] at h1
   exact badTag_iff.1 h1
  refine⟨fun t ht=>?_,?_,hn⟩
  ·obtain ⟨k,hk⟩:=List.mem_iff_getElem?.1 ht
   obtain ⟨a,_,b,c⟩:=hb k t hk
   exact⟨a,b,c⟩
  have key:∀ (d i:Nat) (a b:GTag),l[i]?=some a→l[i+d+1]?=some b→slt a.key b.key=true:=by
   intro d
   induction d with
   | zero =>
    intro i a b ha hb'
    have:=(hb (i+1) b hb').2.1
    rw [before,ha] at this
    exact this
   | succ d ih =>
    intro i a b ha hb'
    have hlt:i+d+1 < l.length:=by have:=(List.getElem?_eq_some_iff.1 hb').1;omega
    obtain ⟨x,hx⟩:=get_of_lt hlt
    have h2:=(hb (i+(d+1)+1) b hb').2.1
    rw [before,show i+(d+1)=i+d+1 by omega,hx] at h2
    exact slt_trans (ih i a x ha hx) h2
  rw [asc,List.pairwise_iff_getElem]
  intro i j hi hj hij
  exact key (j - i - 1) i _ _ (List.getElem?_eq_getElem hi) (by rw [show i+(j - i - 1)+1=j by omega];exact List.getElem?_eq_getElem hj)
 rintro⟨h1,h2,h3⟩
 refine⟨fun k hk=>?_,h3⟩
 have hlt:=List.mem_range.1 hk
 rw [badAt,List.getElem?_eq_getElem hlt]
 simp only [Bool.not_eq_true]
 obtain ⟨a,b,c⟩:=h1 _ (List.getElem_mem hlt)
 refine badTag_iff.2 ⟨a,?_,b,c⟩
 cases k with
 | zero =>
  have:l[0].key≠sNil:=gName_ne a
  exact slt_pos this
 | succ k =>
  rw [before,List.getElem?_eq_getElem (show k < l.length by omega)]
  exact asc_get h2 (Nat.lt_succ_self k) (List.getElem?_eq_getElem (by omega)) (List.getElem?_eq_getElem hlt)
/-- Tags with another value of a key. -/
def gSet (l:List GTag) (key val:ByteArray):List GTag×Int :=
 if !gTags l||!gName key||decide (200 < (val.size:Int))then([],1)
 else if hasK GTag.key l key then(if val=sNil then(l.take (lbI GTag.key l key)++l.drop (lbI GTag.key l key+1),0)else(l.set (lbI GTag.key l key) ⟨key,val⟩,0))
 else if val=sNil then(l,0)
 else if l.length=60 then([],2)
 else(l.take (lbI GTag.key l key)++⟨key,val⟩::l.drop (lbI GTag.key l key),0)
end
end Go.Proofs.YtlnfjkdacimblaaGreatDoor
