/-
  CONTRACTS: planisphereref22.Writes, Same, All; planispherelaw22.few, writes, node. Conditions: lengths.
  CONTRACT: edit.All where each edit is possible, out of the edits' own contracts. Conditions: the maps on the way are closed and of a moderate size.
  CONTRACT: planispherelaw22.head answers true. Conditions: none.
  CONTRACTS: change.line, change.read, change.Text, change.Parse: with object.Text and object.Parse as hypotheses where the law's own examples put no object (written by gen/mk_y43.py).
  CONTRACT: planispherelaw22.head answers true, without object.Text and object.Parse (its examples put no object). Conditions: none.
  CONTRACTS: planispherelaw22.linked; planispherelaw22.ChangeUnits answers true. Conditions: the arguments' sizes.
  Edits' sizes that a law draws.
-/
import Derived.Test.YtlnfjkdacimblaaGreatDoorKW4M9
set_option linter.unusedVariables false
set_option linter.unusedSimpArgs false
set_option maxRecDepth 100000
set_option maxHeartbeats 2000000
namespace Go.Proofs.YtlnfjkdacimblaaGreatDoor
open Go.Abs
section
theorem rWrites_c (e:GEdit) (H:Heap):ACalls Tryz.prog 28 [av (encEdit e)] H (fun r H'=>r=.pv (slStrs (gWrites e))∧H'=H):=by
 refine ACalls.pure ?_ (by simp) H
 refine Bd Tryz.func28 rfl Tryz.ntmps28<|Sq<|Rg<|Dd (by exact opd_box (id:=1) rfl rfl rfl rfl rfl)<|Dd as'<|Zz<|Sq<|Sq<|Rg<|Dd (fr' fo51_0)<|Dd (l1' Tryz.isAgg3)<|Zz<|awp_block<|Sq<|Rg<|Dd eql'<|Dd as'<|Zz ?_
 refine Cn (fun hc1=>?_) fun hc1=>?_
 ·skip
  have h1:e.op=1:=of_decide_eq_true hc1
  have hW:gWrites e=[e.obj.id]:=by rw [gWrites,if_pos h1]
  rw [hW]
  refine Sq<|Rg<|Dd (fr' fo51_8)<|Dd (fr' fo49_0)<|Dd (l1' Tryz.isAgg9)<|Dd (by exact x_buildSlice [encStr e.obj.id] rfl so46 rfl rfl rfl rfl rfl (by intro r hr;rw [List.mem_singleton] at hr;subst hr;rfl))<|Dd as'<|Zz<|awp_ret ?_
  refine Rt ?_
  exact⟨rfl,rfl⟩
 skip
 have h1:¬ e.op=1:=of_decide_eq_false hc1
 refine Sq<|Sq<|Rg<|Dd eql'<|Dd as'<|Zz ?_
 refine Cn (fun hc2=>?_) fun hc2=>?_
 ·skip
  have h6:e.op=6:=of_decide_eq_true hc2
  have hW:gWrites e=[e.id,e.other]:=by rw [gWrites,if_neg h1,if_pos (.inl h6)]
  rw [hW]
  refine awp_skip ?_
  refine Cn (fun hc3=>?_) fun hc3=>?_
  ·skip
   refine Sq<|Rg<|Dd (fr' fo51_1)<|Dd (l1' Tryz.isAgg9)<|Dd (fr' fo51_2)<|Dd (l1' Tryz.isAgg9)<|Dd (by exact x_buildSlice [encStr e.id,encStr e.other] rfl so46 rfl rfl rfl rfl rfl (by intro r hr;simp only [List.mem_cons,List.not_mem_nil,or_false] at hr;rcases hr with rfl|rfl<;>rfl))<|Dd as'<|Zz<|awp_ret ?_
   refine Rt ?_
   exact⟨rfl,rfl⟩
  skip
  ((revert hc3;simp_all;done))
 skip
 have h6:¬ e.op=6:=of_decide_eq_false hc2
 refine Rg<|Dd eql'<|Dd as'<|Zz ?_
 refine Cn (fun hc4=>?_) fun hc4=>?_
 ·skip
  have h7:e.op=7:=of_decide_eq_true hc4
  have hW:gWrites e=[e.id,e.other]:=by rw [gWrites,if_neg h1,if_pos (.inr h7)]
  rw [hW]
  refine Sq<|Rg<|Dd (fr' fo51_1)<|Dd (l1' Tryz.isAgg9)<|Dd (fr' fo51_2)<|Dd (l1' Tryz.isAgg9)<|Dd (by exact x_buildSlice [encStr e.id,encStr e.other] rfl so46 rfl rfl rfl rfl rfl (by intro r hr;simp only [List.mem_cons,List.not_mem_nil,or_false] at hr;rcases hr with rfl|rfl<;>rfl))<|Dd as'<|Zz<|awp_ret ?_
  refine Rt ?_
  exact⟨rfl,rfl⟩
 skip
 have h7:¬ e.op=7:=of_decide_eq_false hc4
 have hW:gWrites e=[e.id]:=by rw [gWrites,if_neg h1,if_neg (by rintro(h|h);exact h6 h;exact h7 h)]
 rw [hW]
 refine awp_skip<|Sq<|Rg<|Dd (fr' fo51_1)<|Dd (l1' Tryz.isAgg9)<|Dd (by exact x_buildSlice [encStr e.id] rfl so46 rfl rfl rfl rfl rfl (by intro r hr;rw [List.mem_singleton] at hr;subst hr;rfl))<|Dd as'<|Zz<|awp_ret ?_
 refine Rt ?_
 exact⟨rfl,rfl⟩
def sameE22 (a b:GEdit):Bool:=((((((((decide (a.op=b.op)&&decide (a.id=b.id))&&decide (a.other=b.other))&&decide (a.node=b.node))&&(decide (a.x=b.x)&&decide (a.y=b.y)))&&decide (a.key=b.key))&&decide (a.val=b.val))&&gIds a.refs b.refs)&&gSameO a.obj b.obj)
theorem sameE22_iff {a b:GEdit}:sameE22 a b=true↔a=b:=by
 obtain ⟨a1,a2,a3,a4,a5,a6,a7,a8,a9,a10⟩:=a
 obtain ⟨b1,b2,b3,b4,b5,b6,b7,b8,b9,b10⟩:=b
 simp only [sameE22,Bool.and_eq_true,decide_eq_true_eq,gIds_eq,gSameO_iff,GEdit.mk.injEq,and_assoc]
instance decE22:DecidableEq GEdit:=fun a b=>decidable_of_iff (sameE22 a b=true) sameE22_iff
theorem sameE22_eq (a b:GEdit):sameE22 a b=decide (a=b):=by rw [Bool.eq_iff_iff,sameE22_iff,decide_eq_true_eq]
theorem same22_c (a b:GEdit) (H:Heap) (ha:okE a) (hb:okE b):ACalls Tryz.prog 29 [av (encEdit a),av (encEdit b)] H (fun r H'=>r=bv (decide (a=b))∧H'=H):=by
 refine ACalls.pure ?_ (by simp) H
 rw [← sameE22_eq]
 refine Bd Tryz.func29 rfl Tryz.ntmps29<|Sq<|Rg<|Dd (by exact opd_box (id:=2) rfl rfl rfl rfl rfl)<|Dd (by exact opd_box (id:=3) rfl rfl rfl rfl rfl)<|Dd as'<|Zz<|Sq ?_
 refine awp_bool (t:=4) (n:=70) (X:=sameE22 a b) ?_ ?_
 ·all_goals refine Dd (fr' fo51_0) ?_
  all_goals refine Dd (l1' Tryz.isAgg3) ?_
  all_goals refine Dd (fr' fo51_0) ?_
  all_goals refine Dd (l1' Tryz.isAgg3) ?_
  all_goals refine Dd eql' ?_
  all_goals refine Dd mv' ?_
  all_goals refine Sp 10 (fun h10=>?_) fun h10=>?_
  all_goals try contradiction
  all_goals first|refine Fo ?_|refine On (fr' fo51_1) ?_
  all_goals first|refine Fo ?_|refine On (l1' Tryz.isAgg9) ?_
  all_goals first|refine Fo ?_|refine On (fr' fo51_1) ?_
  all_goals first|refine Fo ?_|refine On (l1' Tryz.isAgg9) ?_
  all_goals first|refine Fo ?_|refine On se' ?_
  all_goals refine Dd pk' ?_
  all_goals refine Dd mv' ?_
  all_goals refine Sp 17 (fun h17=>?_) fun h17=>?_
  all_goals try contradiction
  all_goals first|refine Fo ?_|refine On (fr' fo51_2) ?_
  all_goals first|refine Fo ?_|refine On (l1' Tryz.isAgg9) ?_
  all_goals first|refine Fo ?_|refine On (fr' fo51_2) ?_
  all_goals first|refine Fo ?_|refine On (l1' Tryz.isAgg9) ?_
  all_goals first|refine Fo ?_|refine On se' ?_
  all_goals refine Dd pk' ?_
  all_goals refine Dd mv' ?_
  all_goals refine Sp 24 (fun h24=>?_) fun h24=>?_
  all_goals try contradiction
  all_goals first|refine Fo ?_|refine On (fr' fo51_3) ?_
  all_goals first|refine Fo ?_|refine On (l1' Tryz.isAgg9) ?_
  all_goals first|refine Fo ?_|refine On (fr' fo51_3) ?_
  all_goals first|refine Fo ?_|refine On (l1' Tryz.isAgg9) ?_
  all_goals first|refine Fo ?_|refine On se' ?_
  all_goals refine Dd pk' ?_
  all_goals refine Dd mv' ?_
  all_goals refine Sp 31 (fun h31=>?_) fun h31=>?_
  all_goals try contradiction
  all_goals first|refine Fo ?_|refine On (fr' fo51_4) ?_
  all_goals first|refine Fo ?_|refine On (by exact opd_loadn_ref rfl Tryz.isAgg45 Tryz.sizeOf45 rfl rfl rfl rfl (by simp only [Zl,encTag,encObj,encStr,encEdit,encInt];rfl) rfl) ?_
  all_goals first|refine Fo ?_|refine On (fr' fo51_4) ?_
  all_goals first|refine Fo ?_|refine On (by exact opd_loadn_ref rfl Tryz.isAgg45 Tryz.sizeOf45 rfl rfl rfl rfl (by simp only [Zl,encTag,encObj,encStr,encEdit,encInt];rfl) rfl) ?_
  all_goals first|refine Fo ?_|refine On (by exact opd_aeql rfl rfl rfl rfl rfl Tryz.eqGuardType45 (se45 _ _ _ _)) ?_
  all_goals refine Dd pk' ?_
  all_goals refine Dd mv' ?_
  all_goals refine Sp 38 (fun h38=>?_) fun h38=>?_
  all_goals try contradiction
  all_goals first|refine Fo ?_|refine On (fr' fo51_5) ?_
  all_goals first|refine Fo ?_|refine On (l1' Tryz.isAgg9) ?_
  all_goals first|refine Fo ?_|refine On (fr' fo51_5) ?_
  all_goals first|refine Fo ?_|refine On (l1' Tryz.isAgg9) ?_
  all_goals first|refine Fo ?_|refine On se' ?_
  all_goals refine Dd pk' ?_
  all_goals refine Dd mv' ?_
  all_goals refine Sp 45 (fun h45=>?_) fun h45=>?_
  all_goals try contradiction
  all_goals first|refine Fo ?_|refine On (fr' fo51_6) ?_
  all_goals first|refine Fo ?_|refine On (l1' Tryz.isAgg9) ?_
  all_goals first|refine Fo ?_|refine On (fr' fo51_6) ?_
  all_goals first|refine Fo ?_|refine On (l1' Tryz.isAgg9) ?_
  all_goals first|refine Fo ?_|refine On se' ?_
  all_goals refine Dd pk' ?_
  all_goals refine Dd mv' ?_
  all_goals refine Sp 52 (fun h52=>?_) fun h52=>?_
  all_goals try contradiction
  all_goals first|refine Fo ?_|refine On (fr' fo51_7) ?_
  all_goals first|refine Fo ?_|refine On (l1' Tryz.isAgg46) ?_
  all_goals first|refine Fo ?_|refine On (fr' fo51_7) ?_
  all_goals first|refine Fo ?_|refine On (l1' Tryz.isAgg46) ?_
  all_goals first|refine Fo ?_|refine On (by exact opr_call rfl rfl Tryz.call57 rfl (ids_c a.refs b.refs _ ha.2.1.1 hb.2.1.1)) ?_
  all_goals refine Dd pk' ?_
  all_goals refine Dd mv' ?_
  all_goals refine Sp 59 (fun h59=>?_) fun h59=>?_
  all_goals try contradiction
  all_goals first|refine Fo ?_|refine On (fr' fo51_8) ?_
  all_goals first|refine Fo ?_|refine On (by exact opd_loadn_ref rfl Tryz.isAgg49 Tryz.sizeOf49 rfl rfl rfl rfl (by simp only [Zl,encTag,encObj,encStr,encEdit,encInt];rfl) rfl) ?_
  all_goals first|refine Fo ?_|refine On (fr' fo51_8) ?_
  all_goals first|refine Fo ?_|refine On (by exact opd_loadn_ref rfl Tryz.isAgg49 Tryz.sizeOf49 rfl rfl rfl rfl (by simp only [Zl,encTag,encObj,encStr,encEdit,encInt];rfl) rfl) ?_
  all_goals first|refine Fo ?_|refine On (by exact opr_call rfl rfl Tryz.call66 rfl (rSame_c a.obj b.obj _ ha.2.2.2.2.1 ha.2.2.2.1.1)) ?_
  all_goals refine Dd pk' ?_
  all_goals refine Dd as' ?_
  all_goals refine al_nil ?_
  all_goals(exact⟨⟨_,rfl,by(simp only [sameE22, *];rfl)⟩,rfl,rfl,rfl⟩)
 refine awp_ret ?_
 refine Rt ?_
 exact⟨rfl,rfl⟩
theorem okE_put {op:Int} {a:GObj} (ha:okO a):okE ⟨op,sNil,sNil,sNil,0,0,sNil,sNil,[],a⟩:=⟨⟨(by decide:sNil.size < 4611686018427387904),(by decide:sNil.size < 4611686018427387904),(by decide:sNil.size < 4611686018427387904),(by decide:sNil.size < 4611686018427387904)⟩,⟨Nat.zero_lt_succ _,fun s h=>by cases h⟩,ha⟩
theorem all22_c (l m:List GEdit) (H:Heap) (hl:l.length < 4611686018427387904) (ho:∀ e∈l,okE e) (hm:∀ e∈m,okE e):ACalls Tryz.prog 17 [.pv (slEdits l),.pv (slEdits m)] H (fun r H'=>r=bv (decide (l=m))∧H'=H):=by
 refine ACalls.pure ?_ (by simp) H
 have hml:(l.map encEdit).length=l.length:=List.length_map _
 have hmm:(m.map encEdit).length=m.length:=List.length_map _
 refine Bd Tryz.func17 rfl Tryz.ntmps17<|Sq<|Rg<|Dd as'<|Zz<|Sq<|Sq<|Rg<|Dd mv'<|Dd (ll' Tryz.underlying22)<|Dd mv'<|Dd (ll' Tryz.underlying22)<|Dd ne'<|Zz ?_
 refine Cn (fun hc1=>?_) fun hc1=>?_
 ·skip
  have hne:¬ l=m:=fun e=>by have h:=hc1;rw [hml,hmm,e] at h;simp at h
  rw [decide_eq_false hne]
  refine Sq<|Rg<|Dd as'<|Zz<|awp_ret ?_
  refine Rt ?_
  exact⟨rfl,rfl⟩
 skip
 have hle:l.length=m.length:=by have h:=hc1;rw [hml,hmm] at h;simp at h;omega
 refine awp_skip<|Sq<|Sq<|Rg<|Dd as'<|Zz<|awp_block ?_
 refine awp_loop (σ:=Nat) (fun k=>([(0,.pv (slEdits l)),(1,.pv (slEdits m)),(5,iv (k:Int))],[])) (fun k=>k≤l.length∧∀ j,j < k→l[j]?=m[j]?) (fun k=>l.length - k) 0 ⟨Nat.zero_le _,fun j h=>by omega⟩ ?_ ?_
 ·exact E0
 rintro k ⟨hk,hall⟩
 refine Sq<|Sq<|Rg<|Dd mv'<|Dd mv'<|Dd (ll' Tryz.underlying22)<|Dd lss'<|Zz ?_
 refine Cn (fun hc2=>?_) fun hc2=>?_
 ·skip
  have hlt:k < l.length:=by have:=of_decide_eq_true hc2;omega
  obtain ⟨x,hx⟩:=get_of_lt hlt
  obtain ⟨y,hy⟩:=get_of_lt (show k < m.length by omega)
  have hix:=map_get (f:=encEdit) hx
  have hiy:=map_get (f:=encEdit) hy
  refine awp_skip<|Sq<|awp_block<|Sq ?_
  refine awp_drawc follows ?_
  refine Cq mv'<|Cq mv'<|Cq (xp' so22)<|Cq (by exact opd_loadn_pad rfl Tryz.isAgg51 Tryz.sizeOf51 rfl (by omega) (by simp only [Zl,encTag,encObj,encStr,encEdit,encInt];rfl) rfl)<|Cq mv'<|Cq mv'<|Cq (xp' so22)<|Cq (by exact opd_loadn_pad rfl Tryz.isAgg51 Tryz.sizeOf51 rfl (by omega) (by simp only [Zl,encTag,encObj,encStr,encEdit,encInt];rfl) rfl)<|Cq (by exact opr_call rfl rfl Tryz.call29 rfl (same22_c x y _ (ho x (List.mem_of_getElem? hx)) (hm y (List.mem_of_getElem? hy))))<|Cq no' ?_
  refine dc_nil ⟨by kernel_rfl,?_⟩
  refine Cn (fun hc3=>?_) fun hc3=>?_
  ·skip
   have hxy:¬ x=y:=by have h:=hc3;simpa using h
   have hne:¬ l=m:=fun e=>by rw [e,hy] at hx;exact hxy (Option.some.inj hx).symm
   rw [decide_eq_false hne]
   refine Sq<|Rg<|Dd as'<|Zz<|awp_ret ?_
   refine Rt ?_
   exact⟨rfl,rfl⟩
  skip
  have hxy:x=y:=by have h:=hc3;simpa using h
  refine awp_skip<|Rg<|Dd mv'<|Dd ad'<|Dd as'<|Zz ?_
  refine⟨k+1,⟨by omega,fun j hj=>?_⟩,by omega,E0⟩
  by_cases e:j=k
  ·subst e;rw [hx,hy,hxy]
  exact hall j (by omega)
 skip
 have hge:k=l.length:=by have:=of_decide_eq_false hc2;omega
 subst hge
 have heq:l=m:=List.ext_getElem? fun j=>by
  by_cases h:j < l.length
  ·exact hall j h
  rw [List.getElem?_eq_none (by omega),List.getElem?_eq_none (by omega)]
 rw [decide_eq_true heq]
 refine awp_exit<|Sq<|Rg<|Dd as'<|Zz<|awp_ret ?_
 refine Rt ?_
 exact⟨rfl,rfl⟩
theorem okEdit_E {e:GEdit} (h:okE e):okEdit e:=⟨h.2.1.1,h.2.2.2.2.1,h.2.2.2.1.1⟩
theorem writesL_c (e:GEdit) (s:ByteArray) (H:Heap):ACalls Tryz.prog 63 [av (encEdit e),sv s] H (fun r H'=>r=bv (inB (gWrites e) s)∧H'=H):=by
 refine ACalls.pure ?_ (by simp) H
 have hw:(gWrites e).length < 4611686018427387904:=by
  have:(gWrites e).length≤2:=by
   rw [gWrites]
   split
   ·simp
   split<;>simp
  omega
 refine Bd Tryz.func63 rfl Tryz.ntmps63<|Sq<|Rg<|Dd (by exact opd_box (id:=2) rfl rfl rfl rfl rfl)<|Dd as'<|Zz<|Sq<|Rg<|Dd (by exact opd_loadn_ref rfl Tryz.isAgg51 Tryz.sizeOf51 rfl rfl rfl rfl (by simp only [Zl,encTag,encObj,encStr,encEdit,encInt];rfl) rfl)<|Dd (by exact opr_call rfl rfl Tryz.call28 rfl (rWrites_c e _))<|Dd mv'<|Dd (by exact opr_call rfl rfl Tryz.call59 rfl (in12_c (gWrites e) s _ hw))<|Dd as'<|Zz<|awp_ret ?_
 refine Rt ?_
 exact⟨rfl,rfl⟩
def ndO (s:ByteArray) (x:Int):GObj:=⟨s,1,x,0,[],[]⟩
theorem node_c (s:ByteArray) (x:Int) (H:Heap):ACalls Tryz.prog 30 [sv s,iv x] H (fun r H'=>r=av (encObj (ndO s x))∧H'=H):=by
 refine ACalls.pure ?_ (by simp) H
 refine Bd Tryz.func30 rfl Tryz.ntmps30<|Sq<|Rg<|Dd (by exact x_alloc (id:=4) rfl zo49 rfl rfl)<|Zz<|Sq<|Rg<|Dd mv'<|Dd mv'<|Dd (bu' bo45)<|Dd (bu' bo49)<|Uu (sa' Tryz.sizeOf49)<|Zz<|awp_ret ?_
 refine aret1 (H':=[]) (.inr rfl) rfl (rl' Tryz.isAgg49 Tryz.sizeOf49) (Fin.wk (r:=av (encObj (ndO s x))) (by simp) trivial trivial) ?_
 exact⟨rfl,rfl⟩
end
section
theorem allOK_c (st:Nat→List GObj) (l:List GEdit) (H:Heap) (hl:l.length < 549755813888) (hcl:∀ k,k≤l.length→closedB (st k)=true) (hok:∀ k,k≤l.length→okM (st k))
  (ha:∀ k e,l[k]?=some e→ACalls Tryz.prog 65 [.ref 14 0 0 0,av (encEdit e)] (cH (st k)) (fun r H'=>r=.tup [.agg [.pv (slObjs (st (k+1)))],iv 0]∧H'=cH (st k))) :
  ACalls Tryz.prog 25 [.agg [.pv (slObjs (st 0))],.pv (slEdits l)] H (fun r H'=>r=.tup [.agg [.pv (slObjs (st l.length))],iv (-1),iv 0]∧H'=H):=by
 refine ACalls.pure ?_ (by simp) H
 have hml:(l.map encEdit).length=l.length:=List.length_map _
 refine Bd Tryz.func25 rfl Tryz.ntmps25<|Sq<|Rg<|Dd (by exact opd_box (id:=2) rfl rfl rfl rfl rfl)<|Dd (by exact x_alloc (id:=4) rfl zo38 rfl rfl)<|Dd as'<|Dd as'<|Zz<|Sq<|Rg<|Dd (ln' Tryz.isAgg38 Tryz.sizeOf38)<|Dd (by exact opr_call rfl rfl Tryz.call64 rfl (ofF_c (st 0) _ (hok 0 (Nat.zero_le _)) (hcl 0 (Nat.zero_le _)) rfl rfl))<|Dd as'<|Zz<|Sq<|Sq<|Rg<|Dd mv'<|Dd (by exact opd_peq_ref rfl Tryz.underlying109 rfl rfl rfl rfl)<|Zz ?_
 refine Cn (fun hc1=>?_) fun hc1=>?_
 ·cases hc1
 skip
 refine awp_skip<|Sq<|Sq<|Rg<|Dd mv'<|Dd (ll' Tryz.underlying22)<|Dd mv'<|Zz<|awp_block ?_
 refine awp_loop (σ:=Nat) (fun k=>([(4,.ref 4 0 0 0),(7,.ref 14 0 0 0),(17,.pv (slEdits l)),(18,iv ((l.map encEdit).length:Int)),(19,iv (k:Int))],[(14,cRow (st k)),(12,kob (st k)),(4,bx 1 38 [lv []])])) (fun k=>k≤l.length) (fun k=>l.length - k) 0 (Nat.zero_le _) ?_ ?_
 ·exact(Ent.wk (Ea<|Ea<|Eb<|Eb<|Eb<|trivial) (Ha<|Hc (kob_clo _ _)<|Hb<|trivial) trivial)
 rintro k hk
 refine Sq<|Rg<|Dd lss'<|Zz<|Sq ?_
 refine Cn (fun hc2=>?_) fun hc2=>?_
 ·have hlt:k < l.length:=by have:=of_decide_eq_true hc2;omega
  obtain ⟨e,hel⟩:=get_of_lt hlt
  have hi:=map_get (f:=encEdit) hel
  refine awp_skip<|Sq<|awp_block<|Sq<|Rg<|Dd mv'<|Dd (xp' so22)<|Dd (by exact opd_loadn_pad rfl Tryz.isAgg51 Tryz.sizeOf51 rfl (by omega) (by simp only [Zl,encTag,encObj,encStr,encEdit,encInt];rfl) rfl)<|Dd (by exact x_alloc (id:=9) rfl zo51 rfl rfl)<|Dd as'<|Uu (sa' Tryz.sizeOf51)<|Zz<|Sq<|Rg<|Dd mv'<|Dd (ln' Tryz.isAgg51 Tryz.sizeOf51)<|Dd (by exact opr_call rfl rfl Tryz.call65 rfl (cl_c (ha k e hel) rfl rfl (by simp;rfl)))<|Dd mv'<|Dd ex'<|Dd ex'<|Dd (by exact x_alloc (id:=10) rfl zo38 rfl rfl)<|Uu (sa' Tryz.sizeOf38)<|Dd as'<|Zz<|Sq<|Sq<|Rg<|Dd mv'<|Dd ne'<|Zz ?_
  refine Cn (fun hc3=>?_) fun hc3=>?_
  ·cases hc3
  skip
  refine awp_skip ?_
  refine AWp.ent (E':=[(4,.ref 4 0 0 0),(10,.ref 10 0 0 0),(17,.pv (slEdits l)),(18,iv ((l.map encEdit).length:Int)),(19,iv (k:Int))]) (H':=[(10,bx 1 38 [.pv (slObjs (st (k+1)))]),(4,bx 1 38 [lv []])]) Wk ?_
  refine Rg<|Dd (ln' Tryz.isAgg38 Tryz.sizeOf38)<|Dd (by exact opr_call rfl rfl Tryz.call64 rfl (ofF_c (st (k+1)) _ (hok _ hlt) (hcl _ hlt) rfl rfl))<|Dd as'<|Zz<|Rg<|Dd ad'<|Dd mv'<|Zz ?_
  exact⟨k+1,by omega,by omega,(Ent.wk (Ea<|Ea<|Eb<|Eb<|Eb<|trivial) (Ha<|Hc (kob_clo _ _)<|Hb<|trivial) trivial)⟩
 have hge:k=l.length:=by have:=of_decide_eq_false hc2;omega
 subst hge
 refine awp_exit<|Sq<|Rg<|Dd mv'<|Dd nc'<|Dd (fr' fo114_0)<|Dd (ln' Tryz.isAgg38 Tryz.sizeOf38)<|Uu (sa' Tryz.sizeOf38)<|Dd as'<|Dd as'<|Zz<|awp_ret ?_
 refine aret3 (H':=[]) (.inr rfl) rfl (rl' Tryz.isAgg38 Tryz.sizeOf38) (rval_tmp rfl) (rval_tmp rfl) (Fin.wk (r:=.tup [.agg [.pv (slObjs (st l.length))],iv (-1),iv 0]) (by simp) trivial trivial) ?_
 exact⟨rfl,rfl⟩
end
section
def bsY (l:List UInt8):ByteArray:=⟨l.toArray⟩
def eMv:GEdit:=⟨2,bsY [110,49],sNil,sNil,3,4,sNil,sNil,[],zObj⟩
def eTg:GEdit:=⟨3,bsY [119,49],sNil,sNil,0,0,bsY [110,97,109,101],bsY [97,32,34,98,34],[],zObj⟩
def eRf:GEdit:=⟨4,bsY [119,49],sNil,sNil,0,0,sNil,sNil,[bsY [110,49],bsY [110,50]],zObj⟩
def t1Y:ByteArray:=bsY [109,111,118,101,32,110,49,32,51,32,52,10]
def t2Y:ByteArray:=bsY [116,97,103,32,119,49,32,110,97,109,101,32,34,97,32,92,34,98,92,34,34,10]
theorem ht1Y:gTextC [eMv]=(t1Y,0):=by kernel_rfl
theorem ht2Y:gTextC [eTg]=(t2Y,0):=by kernel_rfl
theorem hp1Y:gParseC (t1Y++t2Y)=([eMv,eTg],0):=by kernel_rfl
def ndY (id:UInt8) (x:Int):GObj:=⟨bsY [id],1,x,0,[],[]⟩
def mAY:List GObj:=[ndY 97 1,ndY 98 2,⟨bsY [99],2,0,0,[bsY [97],bsY [98]],[]⟩]
def mBY:List GObj:=[⟨bsY [97],2,0,0,[bsY [98],bsY [99]],[]⟩,ndY 98 5,ndY 99 3]
def xsY:List GEdit:=[dropE (bsY [99]),dropE (bsY [97]),putE (ndY 99 3),putE ⟨bsY [97],2,0,0,[bsY [98],bsY [99]],[]⟩,moveE (bsY [98]) 5 0]
theorem hb1Y:gBetween mAY mBY=(xsY,0):=by kernel_rfl
theorem okE_mv:okE eMv:=⟨⟨by decide,by decide,by decide,by decide⟩,⟨by decide,fun s hs=>by cases hs⟩,zObj_ok⟩
theorem okE_tg:okE eTg:=⟨⟨by decide,by decide,by decide,by decide⟩,⟨by decide,fun s hs=>by cases hs⟩,zObj_ok⟩
theorem okE_rf:okE eRf:=⟨⟨by decide,by decide,by decide,by decide⟩,⟨by decide,fun s hs=>by
 have hs:s∈[bsY [110,49],bsY [110,50]]:=hs
 simp only [List.mem_cons,List.not_mem_nil,or_false] at hs
 rcases hs with rfl|rfl<;>decide⟩,zObj_ok⟩
theorem okE_l2:∀ e∈[eMv,eTg],okE e:=fun e he=>by
 simp only [List.mem_cons,List.not_mem_nil,or_false] at he
 rcases he with rfl|rfl
 ·exact okE_mv
 exact okE_tg
theorem okU_l3:okU [eMv,eTg,eRf]:=fun e he=>by
 simp only [List.mem_cons,List.not_mem_nil,or_false] at he
 rcases he with rfl|rfl|rfl
 ·exact⟨okE_mv,by decide⟩
 ·exact⟨okE_tg,by decide⟩
 exact⟨okE_rf,by decide⟩
theorem okU_l2:okU [eMv,eTg]:=fun e he=>okU_l3 e (by
 simp only [List.mem_cons,List.not_mem_nil,or_false] at he ⊢
 rcases he with rfl|rfl
 ·exact .inl rfl
 exact .inr (.inl rfl))
theorem okM_AY:okM mAY:=⟨by decide,fun o ho=>by
 have ho:o∈[ndY 97 1,ndY 98 2,⟨bsY [99],2,0,0,[bsY [97],bsY [98]],[]⟩]:=ho
 simp only [List.mem_cons,List.not_mem_nil,or_false] at ho
 rcases ho with rfl|rfl|rfl
 ·exact⟨by decide,⟨by decide,fun t ht=>by cases ht⟩,by decide,fun s hs=>by cases hs⟩
 ·exact⟨by decide,⟨by decide,fun t ht=>by cases ht⟩,by decide,fun s hs=>by cases hs⟩
 exact⟨by decide,⟨by decide,fun t ht=>by cases ht⟩,by decide,fun s hs=>by
  have hs:s∈[bsY [97],bsY [98]]:=hs
  simp only [List.mem_cons,List.not_mem_nil,or_false] at hs
  rcases hs with rfl|rfl<;>decide⟩⟩
theorem okM_BY:okM mBY:=⟨by decide,fun o ho=>by
 have ho:o∈[⟨bsY [97],2,0,0,[bsY [98],bsY [99]],[]⟩,ndY 98 5,ndY 99 3]:=ho
 simp only [List.mem_cons,List.not_mem_nil,or_false] at ho
 rcases ho with rfl|rfl|rfl
 ·exact⟨by decide,⟨by decide,fun t ht=>by cases ht⟩,by decide,fun s hs=>by
   have hs:s∈[bsY [98],bsY [99]]:=hs
   simp only [List.mem_cons,List.not_mem_nil,or_false] at hs
   rcases hs with rfl|rfl<;>decide⟩
 ·exact⟨by decide,⟨by decide,fun t ht=>by cases ht⟩,by decide,fun s hs=>by cases hs⟩
 exact⟨by decide,⟨by decide,fun t ht=>by cases ht⟩,by decide,fun s hs=>by cases hs⟩⟩
theorem sort1Y (l:List ByteArray) (h:(l.map toU).Pairwise (fun x y=>decide (x≤y)=true)):sortS l=l:=by
 rw [sortS,List.mergeSort_of_pairwise h,map_toU]
theorem nm_mv:gNames eMv=[bsY [110,49]]:=by
 rw [gNames,if_pos (show gEditV eMv=true by kernel_rfl),show (idsOf eMv).filter nonE=[bsY [110,49]] by kernel_rfl]
 exact sort1Y _ (by decide)
theorem nm_tg:gNames eTg=[bsY [119,49]]:=by
 rw [gNames,if_pos (show gEditV eTg=true by kernel_rfl),show (idsOf eTg).filter nonE=[bsY [119,49]] by kernel_rfl]
 exact sort1Y _ (by decide)
theorem nm_rf:gNames eRf=[bsY [110,49],bsY [110,50],bsY [119,49]]:=by
 rw [gNames,if_pos (show gEditV eRf=true by kernel_rfl),show (idsOf eRf).filter nonE=[bsY [119,49],bsY [110,49],bsY [110,50]] by kernel_rfl]
 have hp:[bsY [119,49],bsY [110,49],bsY [110,50]].Perm [bsY [110,49],bsY [110,50],bsY [119,49]]:=List.perm_append_comm (l₁:=[bsY [119,49]]) (l₂:=[bsY [110,49],bsY [110,50]])
 rw [sortS_eq hp]
 exact sort1Y _ (by decide)
theorem gu3:gUnits [eMv,eTg,eRf]=[[0,1,2]]:=by
 have h0:nmOf [eMv,eTg,eRf] 0=[bsY [110,49]]:=nm_mv
 have h1:nmOf [eMv,eTg,eRf] 1=[bsY [119,49]]:=nm_tg
 have h2:nmOf [eMv,eTg,eRf] 2=[bsY [110,49],bsY [110,50],bsY [119,49]]:=nm_rf
 have h3:us1K (wrOf [eMv,eTg,eRf]) 3=([0,1,1],[(bsY [110,49],0),(bsY [119,49],1)]):=by kernel_rfl
 have h4:topsE [eMv,eTg,eRf]=[0,0,1]:=by
  show us2K (us1K (wrOf [eMv,eTg,eRf]) 3).2 (us1K (wrOf [eMv,eTg,eRf]) 3).1 (nmOf [eMv,eTg,eRf]) 3=[0,0,1]
  rw [h3,us2K,us2K,us2K,us2K,h0,h1,h2]
  kernel_rfl
 rw [gUnits,if_pos (show gChange [eMv,eTg,eRf]=true by kernel_rfl),h4]
 exact(show groups (top [0,0,1]) 3=[[0,1,2]] by kernel_rfl)
theorem gu2:gUnits [eMv,eTg]=[[0],[1]]:=by
 have h0:nmOf [eMv,eTg] 0=[bsY [110,49]]:=nm_mv
 have h1:nmOf [eMv,eTg] 1=[bsY [119,49]]:=nm_tg
 have h3:us1K (wrOf [eMv,eTg]) 2=([0,1],[(bsY [110,49],0),(bsY [119,49],1)]):=by kernel_rfl
 have h4:topsE [eMv,eTg]=[0,1]:=by
  show us2K (us1K (wrOf [eMv,eTg]) 2).2 (us1K (wrOf [eMv,eTg]) 2).1 (nmOf [eMv,eTg]) 2=[0,1]
  rw [h3,us2K,us2K,us2K,h0,h1]
  kernel_rfl
 rw [gUnits,if_pos (show gChange [eMv,eTg]=true by kernel_rfl),h4]
 exact(show groups (top [0,1]) 2=[[0],[1]] by kernel_rfl)
theorem okE_of1 {op x y:Int} {s k v:ByteArray} (h1:s.size < 4611686018427387904) (h2:k.size < 4611686018427387904):okE ⟨op,s,sNil,sNil,x,y,k,v,[],zObj⟩:=⟨⟨h1,(by decide:sNil.size < 4611686018427387904),(by decide:sNil.size < 4611686018427387904),h2⟩,⟨Nat.zero_lt_succ _,fun s h=>by cases h⟩,zObj_ok⟩
theorem okE_xs:∀ e∈xsY,okE e:=fun e he=>by
 have he:e∈[dropE (bsY [99]),dropE (bsY [97]),putE (ndY 99 3),putE ⟨bsY [97],2,0,0,[bsY [98],bsY [99]],[]⟩,moveE (bsY [98]) 5 0]:=he
 simp only [List.mem_cons,List.not_mem_nil,or_false] at he
 rcases he with rfl|rfl|rfl|rfl|rfl
 ·exact okE_of1 (by decide) (by decide)
 ·exact okE_of1 (by decide) (by decide)
 ·exact okE_put (okM_BY.2 _ (by show _∈[_,_,_];simp))
 ·exact okE_put (okM_BY.2 _ (by show _∈[_,_,_];simp))
 exact okE_of1 (by decide) (by decide)
theorem okL_ofY {m:List GObj} (h:okM m):okL m:=⟨h.1,fun o ho=>⟨(h.2 o ho).2.2.1,(h.2 o ho).2.1.1⟩⟩
theorem same12Y_c (a b:List GObj) (H:Heap) (ha:okM a):ACalls Tryz.prog 26 [.agg [.pv (slObjs a)],.agg [.pv (slObjs b)]] H (fun r H'=>r=bv (decide (a=b))∧H'=H):=by
 have:=same12_c a b H (okL_ofY ha)
 rwa [show gSameM a b=decide (a=b)by rw [Bool.eq_iff_iff,gSameM_iff,decide_eq_true_eq]] at this
theorem encObj_rlY (l:List GObj):∀ r∈l.map encObj,r.length=6:=fun r hr=>by
 obtain ⟨t,_,rfl⟩:=List.mem_map.1 hr
 rfl
theorem okM_subY {m l:List GObj} (h:okM m) (hl:l.length < 4611686018427387904) (hs:∀ o∈l,o∈m):okM l:=⟨hl,fun o ho=>h.2 o (hs o ho)⟩
def wAY:GObj:=⟨bsY [97],2,0,0,[bsY [98],bsY [99]],[]⟩
def stY:Nat→List GObj
 | 0=>mAY
 | 1=>[ndY 97 1,ndY 98 2]
 | 2=>[ndY 98 2]
 | 3=>[ndY 98 2,ndY 99 3]
 | 4=>[wAY,ndY 98 2,ndY 99 3]
 | _=>mBY
theorem okM_stY:∀ k,okM (stY k)
 | 0=>okM_AY
 | 1=>okM_subY okM_AY (by show 2 < _;omega) (fun o ho=>by have ho:o∈[_,_]:=ho;show o∈[_,_,_];simp only [List.mem_cons,List.not_mem_nil,or_false] at ho ⊢;rcases ho with h|h<;>simp [h])
 | 2=>okM_subY okM_AY (by show 1 < _;omega) (fun o ho=>by have ho:o∈[_]:=ho;show o∈[_,_,_];simp only [List.mem_cons,List.not_mem_nil,or_false] at ho ⊢;simp [ho])
 | 3=>⟨by show 2 < _;omega,fun o ho=>by
   have ho:o∈[_,_]:=ho
   simp only [List.mem_cons,List.not_mem_nil,or_false] at ho
   rcases ho with rfl|rfl
   ·exact okM_AY.2 _ (by show _∈[_,_,_];simp)
   exact okM_BY.2 _ (by show _∈[_,_,_];simp)⟩
 | 4=>⟨by show 3 < _;omega,fun o ho=>by
   have ho:o∈[_,_,_]:=ho
   simp only [List.mem_cons,List.not_mem_nil,or_false] at ho
   rcases ho with rfl|rfl|rfl
   ·exact okM_BY.2 _ (by show _∈[_,_,_];exact List.mem_cons_self ..)
   ·exact okM_AY.2 _ (by show _∈[_,_,_];simp)
   exact okM_BY.2 _ (by show _∈[_,_,_];simp)⟩
 | 5=>okM_BY
 | _+6=>okM_BY
theorem cl_stY:∀ k,closedB (stY k)=true
 | 0=>by kernel_rfl
 | 1=>by kernel_rfl
 | 2=>by kernel_rfl
 | 3=>by kernel_rfl
 | 4=>by kernel_rfl
 | 5=>by kernel_rfl
 | _+6=>(show closedB mBY=true by kernel_rfl)
theorem lens_Y {m:List GObj} (h:closedB m=true):∀ o,o∈m→o.refs.length < 549755813888∧o.tags.length < 1099511627776:=fun o ho=>by
 have:=gObj_len ((gMap_iff.1 (closed_gMap h)).1 o ho)
 omega
theorem aftY {m m':List GObj} {e:GEdit} (hm:okM m) (hc:closedB m=true) (he:okE e) (hg:gAfter m e=(m',0)) (hpf:ACalls Tryz.prog 118 [.ref 14 0 0 0,av (encEdit e)] (cH m) (fun r H'=>r=av (encRes (gPerform m e))∧H'=cH m)) :
  ACalls Tryz.prog 65 [.ref 14 0 0 0,av (encEdit e)] (cH m) (fun r H'=>r=.tup [.agg [.pv (slObjs m')],iv 0]∧H'=cH m):=by
 have hl:=(gMap_iff.1 (closed_gMap hc)).2.2
 have:=after0g_c m e hm he (by omega) (fun hv=>perf_ok hm (closed_gMap hc) he hv) put_small (fun _=>hpf)
 rw [hg] at this
 exact this
theorem allY_c (H:Heap):ACalls Tryz.prog 25 [.agg [.pv (slObjs mAY)],.pv (slEdits xsY)] H (fun r H'=>r=.tup [.agg [.pv (slObjs mBY)],iv (-1),iv 0]∧H'=H):=by
 refine allOK_c stY xsY H (by decide) (fun k _=>cl_stY k) (fun k _=>okM_stY k) (fun k e he=>?_)
 have hk:k < 5:=(List.getElem?_eq_some_iff.1 he).1
 have h:k=0∨k=1∨k=2∨k=3∨k=4:=by omega
 have hee:=okE_xs e (List.mem_of_getElem? he)
 rcases h with rfl|rfl|rfl|rfl|rfl
 ·cases he
  exact aftY (okM_stY 0) (cl_stY 0) hee (by kernel_rfl) (perf5_c (stY 0) (bsY [99]) sNil sNil 0 0 sNil sNil [] zObj (okM_stY 0) (lens_Y (cl_stY 0)))
 ·cases he
  exact aftY (okM_stY 1) (cl_stY 1) hee (by kernel_rfl) (perf5_c (stY 1) (bsY [97]) sNil sNil 0 0 sNil sNil [] zObj (okM_stY 1) (lens_Y (cl_stY 1)))
 ·cases he
  exact aftY (okM_stY 2) (cl_stY 2) hee (by kernel_rfl) (perf1_c (stY 2) (putE (ndY 99 3)) (okM_stY 2) rfl (by decide))
 ·cases he
  exact aftY (okM_stY 3) (cl_stY 3) hee (by kernel_rfl) (perf1_c (stY 3) (putE wAY) (okM_stY 3) rfl (by decide))
 cases he
 exact aftY (okM_stY 4) (cl_stY 4) hee (by kernel_rfl) (perf2_c (stY 4) (bsY [98]) sNil sNil 5 0 sNil sNil [] zObj (okM_stY 4) (lens_Y (cl_stY 4)))
theorem head22_of (hT1:∀ H,ACalls Tryz.prog 11 [.pv (slEdits [eMv])] H (fun r H'=>r=.tup [sv t1Y,iv 0]∧H'=H)) (hT2:∀ H,ACalls Tryz.prog 11 [.pv (slEdits [eTg])] H (fun r H'=>r=.tup [sv t2Y,iv 0]∧H'=H))
  (hP:∀ H,ACalls Tryz.prog 13 [sv (t1Y++t2Y)] H (fun r H'=>r=.tup [.pv (slEdits [eMv,eTg]),iv 0]∧H'=H)) (hA:∀ H,ACalls Tryz.prog 25 [.agg [.pv (slObjs mAY)],.pv (slEdits xsY)] H (fun r H'=>r=.tup [.agg [.pv (slObjs mBY)],iv (-1),iv 0]∧H'=H)) (H:Heap) :
  ACalls Tryz.prog 9 [] H (fun r H'=>r=bv true∧H'=H):=by
 refine ACalls.pure ?_ (by simp) H
 have hU3:∀ H,ACalls Tryz.prog 19 [.pv (slEdits [eMv,eTg,eRf])] H (fun r H'=>r=.pv (slGroups [[0,1,2]])∧H'=H):=fun H=>by
  have:=units_c [eMv,eTg,eRf] okU_l3 (by decide) H
  rw [gu3] at this
  exact this
 have hU2:∀ H,ACalls Tryz.prog 19 [.pv (slEdits [eMv,eTg])] H (fun r H'=>r=.pv (slGroups [[0],[1]])∧H'=H):=fun H=>by
  have:=units_c [eMv,eTg] okU_l2 (by decide) H
  rw [gu2] at this
  exact this
 have hB:∀ H,ACalls Tryz.prog 22 [.agg [.pv (slObjs mAY)],.agg [.pv (slObjs mBY)]] H (fun r H'=>r=.tup [.pv (slEdits xsY),iv 0]∧H'=H):=fun H=>by
  have:=between_c mAY mBY okM_AY okM_BY H
  rw [hb1Y] at this
  exact this
 have hE:∀ H,ACalls Tryz.prog 17 [.pv (slEdits [eMv,eTg]),.pv (slEdits [eMv,eTg])] H (fun r H'=>r=bv true∧H'=H):=fun H=>by
  have:=all22_c [eMv,eTg] [eMv,eTg] H (by decide) okE_l2 okE_l2
  rw [decide_eq_true rfl] at this
  exact this
 have hS:∀ H,ACalls Tryz.prog 26 [.agg [.pv (slObjs mBY)],.agg [.pv (slObjs mBY)]] H (fun r H'=>r=bv true∧H'=H):=fun H=>by
  have:=same12Y_c mBY mBY H okM_BY
  rw [decide_eq_true rfl] at this
  exact this
 refine Bd Tryz.func9 rfl Tryz.ntmps9<|Sq<|Rg<|Dd as'<|Zz<|Sq<|Rg<|Dd (bu' bo45)<|Dd (bu' bo51)<|Dd (by exact x_alloc (id:=1) rfl zo51 rfl rfl)<|Uu (sa' Tryz.sizeOf51)<|Zz<|Sq<|Rg<|Dd (bu' bo51)<|Dd (by exact x_alloc (id:=2) rfl zo51 rfl rfl)<|Uu (sa' Tryz.sizeOf51)<|Zz<|Sq<|Rg<|Dd (by exact x_buildSlice [encStr (bsY [110,49]),encStr (bsY [110,50])] rfl so46 rfl rfl rfl rfl rfl (by intro r hr;simp only [List.mem_cons,List.not_mem_nil,or_false] at hr;rcases hr with rfl|rfl<;>rfl))<|Dd (bu' bo51)<|Dd (by exact x_alloc (id:=3) rfl zo51 rfl rfl)<|Uu (sa' Tryz.sizeOf51)<|Zz<|Sq<|Rg<|Dd (ln' Tryz.isAgg51 Tryz.sizeOf51)<|Dd (by exact x_buildSlice ([eMv].map encEdit) rfl so22 rfl rfl rfl rfl rfl (rlE [eMv]))<|Dd (by exact opr_call rfl rfl Tryz.call11 rfl (hT1 _))<|Dd mv'<|Dd ex'<|Dd ex'<|Dd as'<|Dd as'<|Zz<|Sq<|Rg<|Dd (ln' Tryz.isAgg51 Tryz.sizeOf51)<|Dd (by exact x_buildSlice ([eTg].map encEdit) rfl so22 rfl rfl rfl rfl rfl (rlE [eTg])) ?_
 refine Dd (by exact opr_call rfl rfl Tryz.call11 rfl (hT2 _))<|Dd mv'<|Dd ex'<|Dd ex'<|Dd as'<|Dd as'<|Zz<|Sq<|Rg<|Dd mv'<|Dd mv'<|Dd (by exact opd_sadd rfl rfl rfl (by decide) rfl)<|Dd (by exact opr_call rfl rfl Tryz.call13 rfl (hP _))<|Dd mv'<|Dd ex'<|Dd ex'<|Dd as'<|Dd as'<|Zz<|Sq<|Rg<|Dd (ln' Tryz.isAgg51 Tryz.sizeOf51)<|Dd (ln' Tryz.isAgg51 Tryz.sizeOf51)<|Dd (ln' Tryz.isAgg51 Tryz.sizeOf51)<|Dd (by exact x_buildSlice ([eMv,eTg,eRf].map encEdit) rfl so22 rfl rfl rfl rfl rfl (rlE [eMv,eTg,eRf]))<|Dd (by exact opr_call rfl rfl Tryz.call19 rfl (hU3 _))<|Dd as'<|Zz<|Sq<|Rg<|Dd (ln' Tryz.isAgg51 Tryz.sizeOf51)<|Dd (ln' Tryz.isAgg51 Tryz.sizeOf51)<|Dd (by exact x_buildSlice ([eMv,eTg].map encEdit) rfl so22 rfl rfl rfl rfl rfl (rlE [eMv,eTg]))<|Dd (by exact opr_call rfl rfl Tryz.call19 rfl (hU2 _))<|Dd as'<|Zz<|Sq<|Rg<|Dd (by exact opr_call rfl rfl Tryz.call30 rfl (node_c (bsY [97]) 1 _))<|Dd (by exact opr_call rfl rfl Tryz.call30 rfl (node_c (bsY [98]) 2 _)) ?_
 refine Dd (by exact x_buildSlice [encStr (bsY [97]),encStr (bsY [98])] rfl so46 rfl rfl rfl rfl rfl (by intro r hr;simp only [List.mem_cons,List.not_mem_nil,or_false] at hr;rcases hr with rfl|rfl<;>rfl))<|Dd (bu' bo49)<|Dd (by exact x_buildSlice (mAY.map encObj) rfl so36 rfl rfl rfl rfl rfl (encObj_rlY mAY))<|Dd (bu' bo38)<|Dd (by exact x_alloc (id:=12) rfl zo38 rfl rfl)<|Uu (sa' Tryz.sizeOf38)<|Zz<|Sq<|Rg<|Dd (by exact x_buildSlice [encStr (bsY [98]),encStr (bsY [99])] rfl so46 rfl rfl rfl rfl rfl (by intro r hr;simp only [List.mem_cons,List.not_mem_nil,or_false] at hr;rcases hr with rfl|rfl<;>rfl))<|Dd (bu' bo49)<|Dd (by exact opr_call rfl rfl Tryz.call30 rfl (node_c (bsY [98]) 5 _))<|Dd (by exact opr_call rfl rfl Tryz.call30 rfl (node_c (bsY [99]) 3 _))<|Dd (by exact x_buildSlice (mBY.map encObj) rfl so36 rfl rfl rfl rfl rfl (encObj_rlY mBY))<|Dd (bu' bo38)<|Dd (by exact x_alloc (id:=13) rfl zo38 rfl rfl) ?_
 refine Uu (sa' Tryz.sizeOf38)<|Zz<|Sq<|Rg<|Dd (ln' Tryz.isAgg38 Tryz.sizeOf38)<|Dd (ln' Tryz.isAgg38 Tryz.sizeOf38)<|Dd (by exact opr_call rfl rfl Tryz.call22 rfl (hB _))<|Dd mv'<|Dd ex'<|Dd ex'<|Dd as'<|Dd as'<|Zz<|Sq<|Rg<|Dd (ln' Tryz.isAgg38 Tryz.sizeOf38)<|Dd mv'<|Dd (by exact opr_call rfl rfl Tryz.call25 rfl (hA _))<|Dd mv'<|Dd ex'<|Dd ex'<|Dd ex'<|Dd (by exact x_alloc (id:=16) rfl zo38 rfl rfl)<|Uu (sa' Tryz.sizeOf38)<|Dd as'<|Dd as'<|Zz<|Sq<|Rg<|Dd mv'<|Dd eql'<|Dd mv' ?_
 refine al_ond rfl rfl rfl (by rfl) rfl rfl (by exact opd_move rfl rfl) ?_
 refine al_ond rfl rfl rfl (by rfl) rfl rfl (by exact OpD.val (by exact opd_seql rfl rfl rfl) ((decide_eq_true rfl))) ?_
 refine Dd pk'<|Dd mv' ?_
 refine al_ond rfl rfl rfl (by rfl) rfl rfl (by exact opd_move rfl rfl) ?_
 refine al_ond rfl rfl rfl (by rfl) rfl rfl (by exact opd_eql rfl rfl rfl) ?_
 refine Dd pk'<|Dd mv' ?_
 refine al_ond rfl rfl rfl (by rfl) rfl rfl (by exact opd_move rfl rfl) ?_
 refine al_ond rfl rfl rfl (by rfl) rfl rfl (by exact OpD.val (by exact opd_seql rfl rfl rfl) ((decide_eq_true rfl))) ?_
 refine Dd pk'<|Dd mv' ?_
 refine al_ond rfl rfl rfl (by rfl) rfl rfl (by exact opd_move rfl rfl) ?_
 refine al_ond rfl rfl rfl (by rfl) rfl rfl (by exact opd_eql rfl rfl rfl) ?_
 refine Dd pk'<|Dd mv' ?_
 refine al_ond rfl rfl rfl (by rfl) rfl rfl (by exact opd_move rfl rfl) ?_
 refine al_ond rfl rfl rfl (by rfl) rfl rfl (by exact opd_loadn_ref rfl Tryz.isAgg51 Tryz.sizeOf51 rfl rfl rfl rfl rfl rfl) ?_
 refine al_ond rfl rfl rfl (by rfl) rfl rfl (by exact opd_loadn_ref rfl Tryz.isAgg51 Tryz.sizeOf51 rfl rfl rfl rfl rfl rfl) ?_
 refine al_ond rfl rfl rfl (by rfl) rfl rfl (by exact x_buildSlice ([eMv,eTg].map encEdit) rfl so22 rfl rfl rfl rfl rfl (rlE [eMv,eTg])) ?_
 refine al_ond rfl rfl rfl (by rfl) rfl rfl (by exact opr_call rfl rfl Tryz.call17 rfl (hE _)) ?_
 refine Dd pk'<|Dd mv' ?_
 refine al_ond rfl rfl rfl (by rfl) rfl rfl (by exact opd_move rfl rfl) ?_
 refine al_ond rfl rfl rfl (by rfl) rfl rfl (by exact opd_len_sl rfl Tryz.underlying33 rfl) ?_
 refine al_ond rfl rfl rfl (by rfl) rfl rfl (by exact opd_eql rfl rfl rfl) ?_
 refine Dd pk'<|Dd mv' ?_
 refine al_ond rfl rfl rfl (by rfl) rfl rfl (by exact opd_move rfl rfl) ?_
 refine al_ond rfl rfl rfl (by rfl) rfl rfl (by exact opd_len_sl rfl Tryz.underlying33 rfl) ?_
 refine al_ond rfl rfl rfl (by rfl) rfl rfl (by exact opd_eql rfl rfl rfl) ?_
 refine Dd pk'<|Dd as'<|Zz<|Sq<|Rg<|Dd mv'<|Dd mv' ?_
 refine al_ond rfl rfl rfl (by rfl) rfl rfl (by exact opd_move rfl rfl) ?_
 refine al_ond rfl rfl rfl (by rfl) rfl rfl (by exact opd_eql rfl rfl rfl) ?_
 refine Dd pk'<|Dd mv' ?_
 refine al_ond rfl rfl rfl (by rfl) rfl rfl (by exact opd_move rfl rfl) ?_
 refine al_ond rfl rfl rfl (by rfl) rfl rfl (by exact opd_eql rfl rfl rfl) ?_
 refine Dd pk'<|Dd mv' ?_
 refine al_ond rfl rfl rfl (by rfl) rfl rfl (by exact opd_loadn_ref rfl Tryz.isAgg38 Tryz.sizeOf38 rfl rfl rfl rfl rfl rfl) ?_
 refine al_ond rfl rfl rfl (by rfl) rfl rfl (by exact opd_loadn_ref rfl Tryz.isAgg38 Tryz.sizeOf38 rfl rfl rfl rfl rfl rfl) ?_
 refine al_ond rfl rfl rfl (by rfl) rfl rfl (by exact opr_call rfl rfl Tryz.call26 rfl (hS _)) ?_
 refine Dd pk'<|Dd mv' ?_
 refine al_ond rfl rfl rfl (by rfl) rfl rfl (by exact opd_move rfl rfl) ?_
 refine al_ond rfl rfl rfl (by rfl) rfl rfl (by exact opd_len_sl rfl Tryz.underlying22 rfl) ?_
 refine al_ond rfl rfl rfl (by rfl) rfl rfl (by exact opd_eql rfl rfl rfl) ?_
 refine Dd pk'<|Dd as'<|Zz<|awp_ret ?_
 refine Rt ?_
 exact⟨rfl,rfl⟩
end
section
theorem lineO_c (e:GEdit) (H:Heap) (hO:e.op=1→∀ H,ACalls Tryz.prog 67 [av (encObj e.obj)] H (fun r H'=>r=.tup [sv (gObjT e.obj).1,iv (gObjT e.obj).2]∧H'=H)) (he:okE e) (hv:gEditV e=true):ACalls Tryz.prog 32 [av (encEdit e)] H (fun r H'=>r=.tup [sv (ofL (lineY e++[10])),iv (lineErr e)]∧H'=H):=by
 refine ACalls.pure ?_ (by simp) H
 obtain ⟨⟨o1,o2⟩,o3,o4⟩:=gEditV_iff.1 hv
 rw [okOf] at o3
 have hval:=gEditV_val hv
 have hs0:sizes []=0:=rfl
 refine Bd Tryz.func32 rfl Tryz.ntmps32<|Sq<|Rg<|Dd (by exact opd_box (id:=1) rfl rfl rfl rfl rfl)<|Dd as'<|Dd as'<|Zz<|Sq<|Rg<|Dd as'<|Zz<|Sq<|Sq<|Rg<|Dd (fr' fo51_0)<|Dd (l1' Tryz.isAgg3)<|Zz<|awp_block<|Sq<|Rg<|Dd eql'<|Dd as'<|Zz ?_
 refine Cn (fun hc1=>?_) fun hc1=>?_
 ·skip
  have h1:e.op=1:=of_decide_eq_true hc1
  have hos:=objT_size (o:=e.obj)
  have h4:(⟨#[112,117,116,32]⟩:ByteArray).size=4:=rfl
  have h10:(⟨#[10]⟩:ByteArray).size=1:=rfl
  have h4s:((⟨#[112,117,116,32]⟩:ByteArray)++(gObjT e.obj).1).size=4+(gObjT e.obj).1.size:=by rw [ByteArray.size_append];rfl
  refine Sq<|Rg<|Dd (fr' fo51_8)<|Dd (ln' Tryz.isAgg49 Tryz.sizeOf49)<|Dd (by exact opr_call rfl rfl Tryz.call67 rfl (hO h1 _))<|Dd mv'<|Dd ex'<|Dd ex'<|Dd as'<|Dd as'<|Zz<|Sq<|Rg<|Dd mv'<|Dd (by exact opd_sadd rfl rfl rfl (by omega) rfl)<|Dd (by exact opd_sadd rfl rfl rfl (by omega) rfl)<|Dd mv'<|Dd as'<|Dd as'<|Zz<|awp_ret ?_
  refine Ru ?_
  rw [put_out h1,show lineErr e=(gObjT e.obj).2 from if_pos h1]
  exact⟨rfl,rfl⟩
 skip
 have h1:e.op≠1:=of_decide_eq_false hc1
 rw [if_neg h1,Bool.and_eq_true] at o3
 obtain ⟨o5,o6⟩:=o3
 have hid:=gName_size o5
 refine Sq<|Rg<|Dd eql'<|Dd as'<|Zz ?_
 refine Cn (fun hc2=>?_) fun hc2=>?_
 ·skip
  have h2:e.op=2:=of_decide_eq_true hc2
  rw [if_pos h2,onP,Bool.and_eq_true,decide_eq_true_eq,decide_eq_true_eq] at o6
  have hx:0≤e.x∧e.x < 1048576:=by omega
  have hy:0≤e.y∧e.y < 1048576:=by omega
  have six:(itoaB e.x).size≤7:=by rw [← size_list];show (Lib.itoa e.x).length≤7;rw [itoa_nat _ hx.1];exact digits_small (by omega) (by decide)
  have siy:(itoaB e.y).size≤7:=by rw [← size_list];show (Lib.itoa e.y).length≤7;rw [itoa_nat _ hy.1];exact digits_small (by omega) (by decide)
  have hw0:(⟨#[109,111,118,101]⟩:ByteArray).size=4:=rfl
  refine awp_drawc follows ?_
  refine Cq (fr' fo51_1)<|Cq (l1' Tryz.isAgg9)<|Cq (fr' fo51_4)<|Cq (fr' fo45_0)<|Cq (l1' Tryz.isAgg3)<|Cq (by exact opr_call rfl rfl Tryz.call68 rfl (itoa_cT e.x (by omega) (by omega) _))<|Cq (fr' fo51_4)<|Cq (fr' fo45_1)<|Cq (l1' Tryz.isAgg3)<|Cq (by exact opr_call rfl rfl Tryz.call68 rfl (itoa_cT e.y (by omega) (by omega) _))<|Cq (by exact x_buildSlice (([⟨#[109,111,118,101]⟩,e.id,itoaB e.x,itoaB e.y]:List ByteArray).map encStr) rfl so46 rfl rfl rfl rfl rfl (encStr_rl _))<|Cq as' ?_
  refine dc_nil ⟨by kernel_rfl,?_⟩
  refine Sq<|Rg<|Dd mv' ?_
  have hw:bs [⟨#[109,111,118,101]⟩,e.id,itoaB e.x,itoaB e.y]=lineW e:=by
   rw [lineW]
   (rw [if_pos h2];rfl)
  have hne:e.op≠1:=by omega
  have hj:∀ H,ACalls Tryz.prog 71 [.pv (slStrs [⟨#[109,111,118,101]⟩,e.id,itoaB e.x,itoaB e.y]),sv ⟨#[32]⟩] H (fun x H'=>x=sv ⟨(gJoinS [32] (bs [⟨#[109,111,118,101]⟩,e.id,itoaB e.x,itoaB e.y])).toArray⟩∧H'=H):=fun H=>joins_c [⟨#[109,111,118,101]⟩,e.id,itoaB e.x,itoaB e.y] ⟨#[32]⟩ H (by decide) (by show 1*_+_+_ < _;simp only [sizes_cons,List.length_cons,List.length_nil];omega)
  have hjs:(⟨(gJoinS [32] (bs [⟨#[109,111,118,101]⟩,e.id,itoaB e.x,itoaB e.y])).toArray⟩:ByteArray).size≤70000:=by
   show (gJoinS [32] (bs [⟨#[109,111,118,101]⟩,e.id,itoaB e.x,itoaB e.y])).length≤_
   have:=join_size [⟨#[109,111,118,101]⟩,e.id,itoaB e.x,itoaB e.y]
   simp only [sizes_cons,List.length_cons,List.length_nil] at this
   omega
  have h10:(⟨#[10]⟩:ByteArray).size=1:=rfl
  refine Dd (by exact opr_call rfl rfl Tryz.call71 rfl (hj _))<|Dd (by exact opd_sadd rfl rfl rfl (by omega) rfl)<|Dd as'<|Dd as'<|Zz<|awp_ret ?_
  refine Ru ?_
  rw [join_out hne hw,show lineErr e=0 from if_neg hne]
  exact⟨rfl,rfl⟩
 skip
 have h2:e.op≠2:=of_decide_eq_false hc2
 rw [if_neg h2] at o6
 refine Sq<|Rg<|Dd eql'<|Dd as'<|Zz ?_
 refine Cn (fun hc3=>?_) fun hc3=>?_
 ·skip
  have h3:e.op=3:=of_decide_eq_true hc3
  rw [if_pos h3,Bool.and_eq_true,decide_eq_true_eq] at o6
  have hks:=gName_size o6.1
  have hq:=quote_size e.val
  have hw0:(⟨#[116,97,103]⟩:ByteArray).size=3:=rfl
  refine awp_drawc follows ?_
  refine Cq (fr' fo51_1)<|Cq (l1' Tryz.isAgg9)<|Cq (fr' fo51_5)<|Cq (l1' Tryz.isAgg9)<|Cq (fr' fo51_6)<|Cq (l1' Tryz.isAgg9)<|Cq (by exact opr_call rfl rfl Tryz.call69 rfl (quote_c e.val _ (by omega)))<|Cq (by exact x_buildSlice (([⟨#[116,97,103]⟩,e.id,e.key,⟨(gQuote e.val.data.toList).toArray⟩]:List ByteArray).map encStr) rfl so46 rfl rfl rfl rfl rfl (encStr_rl _))<|Cq as' ?_
  refine dc_nil ⟨by kernel_rfl,?_⟩
  refine Sq<|Rg<|Dd mv' ?_
  have hw:bs [⟨#[116,97,103]⟩,e.id,e.key,⟨(gQuote e.val.data.toList).toArray⟩]=lineW e:=by
   rw [lineW]
   (rw [if_neg h2,if_pos h3];rfl)
  have hne:e.op≠1:=by omega
  have hj:∀ H,ACalls Tryz.prog 71 [.pv (slStrs [⟨#[116,97,103]⟩,e.id,e.key,⟨(gQuote e.val.data.toList).toArray⟩]),sv ⟨#[32]⟩] H (fun x H'=>x=sv ⟨(gJoinS [32] (bs [⟨#[116,97,103]⟩,e.id,e.key,⟨(gQuote e.val.data.toList).toArray⟩])).toArray⟩∧H'=H):=fun H=>joins_c [⟨#[116,97,103]⟩,e.id,e.key,⟨(gQuote e.val.data.toList).toArray⟩] ⟨#[32]⟩ H (by decide) (by show 1*_+_+_ < _;simp only [sizes_cons,List.length_cons,List.length_nil];omega)
  have hjs:(⟨(gJoinS [32] (bs [⟨#[116,97,103]⟩,e.id,e.key,⟨(gQuote e.val.data.toList).toArray⟩])).toArray⟩:ByteArray).size≤70000:=by
   show (gJoinS [32] (bs [⟨#[116,97,103]⟩,e.id,e.key,⟨(gQuote e.val.data.toList).toArray⟩])).length≤_
   have:=join_size [⟨#[116,97,103]⟩,e.id,e.key,⟨(gQuote e.val.data.toList).toArray⟩]
   simp only [sizes_cons,List.length_cons,List.length_nil] at this
   omega
  have h10:(⟨#[10]⟩:ByteArray).size=1:=rfl
  refine Dd (by exact opr_call rfl rfl Tryz.call71 rfl (hj _))<|Dd (by exact opd_sadd rfl rfl rfl (by omega) rfl)<|Dd as'<|Dd as'<|Zz<|awp_ret ?_
  refine Ru ?_
  rw [join_out hne hw,show lineErr e=0 from if_neg hne]
  exact⟨rfl,rfl⟩
 skip
 have h3:e.op≠3:=of_decide_eq_false hc3
 rw [if_neg h3] at o6
 refine Sq<|Rg<|Dd eql'<|Dd as'<|Zz ?_
 refine Cn (fun hc4=>?_) fun hc4=>?_
 ·skip
  have h4:e.op=4:=of_decide_eq_true hc4
  rw [if_pos h4,Bool.and_eq_true,Bool.and_eq_true,decide_eq_true_eq,decide_eq_true_eq,List.all_eq_true] at o6
  obtain ⟨⟨r1,r2⟩,r3⟩:=o6
  have hrs:sizes e.refs≤24*e.refs.length:=sizes_bound (fun s hs=>gName_size (r3 s hs))
  have hw0:(⟨#[114,101,102,115]⟩:ByteArray).size=4:=rfl
  have hfl:(([[⟨#[114,101,102,115]⟩,e.id],e.refs]:List (List ByteArray)).flatten).length < 1099511627776:=by simp;omega
  refine Rg<|Dd (fr' fo51_1)<|Dd (l1' Tryz.isAgg9)<|Dd (by exact x_buildSlice (([⟨#[114,101,102,115]⟩,e.id]:List ByteArray).map encStr) rfl so46 rfl rfl rfl rfl rfl (encStr_rl _))<|Dd (fr' fo51_7)<|Dd (l1' Tryz.isAgg46)<|Dd (by exact x_buildSlice (([[⟨#[114,101,102,115]⟩,e.id],e.refs]:List (List ByteArray)).map (fun l=>[.sl (l.map encStr)])) rfl so163 rfl rfl rfl rfl rfl (by simp))<|Dd (by exact opr_call rfl rfl Tryz.call70 rfl (concat_ByteArray [[⟨#[114,101,102,115]⟩,e.id],e.refs] _ (by show 2 < _;omega) hfl))<|Dd as'<|Zz<|Sq<|Rg<|Dd mv' ?_
  rw [show ([[⟨#[114,101,102,115]⟩,e.id],e.refs]:List (List ByteArray)).flatten=⟨#[114,101,102,115]⟩::e.id::e.refs by simp]
  have hw:bs (⟨#[114,101,102,115]⟩::e.id::e.refs)=lineW e:=by
   rw [lineW]
   (rw [if_neg h2,if_neg h3,if_pos h4];rfl)
  have hne:e.op≠1:=by omega
  have hj:∀ H,ACalls Tryz.prog 71 [.pv (slStrs (⟨#[114,101,102,115]⟩::e.id::e.refs)),sv ⟨#[32]⟩] H (fun x H'=>x=sv ⟨(gJoinS [32] (bs (⟨#[114,101,102,115]⟩::e.id::e.refs))).toArray⟩∧H'=H):=fun H=>joins_c (⟨#[114,101,102,115]⟩::e.id::e.refs) ⟨#[32]⟩ H (by decide) (by show 1*_+_+_ < _;simp only [sizes_cons,List.length_cons,List.length_nil];omega)
  have hjs:(⟨(gJoinS [32] (bs (⟨#[114,101,102,115]⟩::e.id::e.refs))).toArray⟩:ByteArray).size≤70000:=by
   show (gJoinS [32] (bs (⟨#[114,101,102,115]⟩::e.id::e.refs))).length≤_
   have:=join_size (⟨#[114,101,102,115]⟩::e.id::e.refs)
   simp only [sizes_cons,List.length_cons,List.length_nil] at this
   omega
  have h10:(⟨#[10]⟩:ByteArray).size=1:=rfl
  refine Dd (by exact opr_call rfl rfl Tryz.call71 rfl (hj _))<|Dd (by exact opd_sadd rfl rfl rfl (by omega) rfl)<|Dd as'<|Dd as'<|Zz<|awp_ret ?_
  refine Ru ?_
  rw [join_out hne hw,show lineErr e=0 from if_neg hne]
  exact⟨rfl,rfl⟩
 skip
 have h4:e.op≠4:=of_decide_eq_false hc4
 rw [if_neg h4] at o6
 refine Sq<|Rg<|Dd eql'<|Dd as'<|Zz ?_
 refine Cn (fun hc5=>?_) fun hc5=>?_
 ·skip
  have h5:e.op=5:=of_decide_eq_true hc5
  have hw0:(⟨#[100,114,111,112]⟩:ByteArray).size=4:=rfl
  refine Rg<|Dd (fr' fo51_1)<|Dd (l1' Tryz.isAgg9)<|Dd (by exact x_buildSlice (([⟨#[100,114,111,112]⟩,e.id]:List ByteArray).map encStr) rfl so46 rfl rfl rfl rfl rfl (encStr_rl _))<|Dd as'<|Zz<|Sq<|Rg<|Dd mv' ?_
  have hw:bs [⟨#[100,114,111,112]⟩,e.id]=lineW e:=by
   rw [lineW]
   (rw [if_neg h2,if_neg h3,if_neg h4,if_pos h5];rfl)
  have hne:e.op≠1:=by omega
  have hj:∀ H,ACalls Tryz.prog 71 [.pv (slStrs [⟨#[100,114,111,112]⟩,e.id]),sv ⟨#[32]⟩] H (fun x H'=>x=sv ⟨(gJoinS [32] (bs [⟨#[100,114,111,112]⟩,e.id])).toArray⟩∧H'=H):=fun H=>joins_c [⟨#[100,114,111,112]⟩,e.id] ⟨#[32]⟩ H (by decide) (by show 1*_+_+_ < _;simp only [sizes_cons,List.length_cons,List.length_nil];omega)
  have hjs:(⟨(gJoinS [32] (bs [⟨#[100,114,111,112]⟩,e.id])).toArray⟩:ByteArray).size≤70000:=by
   show (gJoinS [32] (bs [⟨#[100,114,111,112]⟩,e.id])).length≤_
   have:=join_size [⟨#[100,114,111,112]⟩,e.id]
   simp only [sizes_cons,List.length_cons,List.length_nil] at this
   omega
  have h10:(⟨#[10]⟩:ByteArray).size=1:=rfl
  refine Dd (by exact opr_call rfl rfl Tryz.call71 rfl (hj _))<|Dd (by exact opd_sadd rfl rfl rfl (by omega) rfl)<|Dd as'<|Dd as'<|Zz<|awp_ret ?_
  refine Ru ?_
  rw [join_out hne hw,show lineErr e=0 from if_neg hne]
  exact⟨rfl,rfl⟩
 skip
 have h5:e.op≠5:=of_decide_eq_false hc5
 rw [if_neg h5] at o6
 refine Sq<|Rg<|Dd eql'<|Dd as'<|Zz ?_
 refine Cn (fun hc6=>?_) fun hc6=>?_
 ·skip
  have h6:e.op=6:=of_decide_eq_true hc6
  rw [if_pos h6,Bool.and_eq_true] at o6
  have hns:=gName_size o6.1
  have hos:=gName_size o6.2
  have hw0:(⟨#[115,112,108,105,116]⟩:ByteArray).size=5:=rfl
  refine Rg<|Dd (fr' fo51_1)<|Dd (l1' Tryz.isAgg9)<|Dd (fr' fo51_3)<|Dd (l1' Tryz.isAgg9)<|Dd (fr' fo51_2)<|Dd (l1' Tryz.isAgg9)<|Dd (by exact x_buildSlice (([⟨#[115,112,108,105,116]⟩,e.id,e.node,e.other]:List ByteArray).map encStr) rfl so46 rfl rfl rfl rfl rfl (encStr_rl _))<|Dd as'<|Zz<|Sq<|Rg<|Dd mv' ?_
  have hw:bs [⟨#[115,112,108,105,116]⟩,e.id,e.node,e.other]=lineW e:=by
   rw [lineW]
   (rw [if_neg h2,if_neg h3,if_neg h4,if_neg h5,if_pos h6];rfl)
  have hne:e.op≠1:=by omega
  have hj:∀ H,ACalls Tryz.prog 71 [.pv (slStrs [⟨#[115,112,108,105,116]⟩,e.id,e.node,e.other]),sv ⟨#[32]⟩] H (fun x H'=>x=sv ⟨(gJoinS [32] (bs [⟨#[115,112,108,105,116]⟩,e.id,e.node,e.other])).toArray⟩∧H'=H):=fun H=>joins_c [⟨#[115,112,108,105,116]⟩,e.id,e.node,e.other] ⟨#[32]⟩ H (by decide) (by show 1*_+_+_ < _;simp only [sizes_cons,List.length_cons,List.length_nil];omega)
  have hjs:(⟨(gJoinS [32] (bs [⟨#[115,112,108,105,116]⟩,e.id,e.node,e.other])).toArray⟩:ByteArray).size≤70000:=by
   show (gJoinS [32] (bs [⟨#[115,112,108,105,116]⟩,e.id,e.node,e.other])).length≤_
   have:=join_size [⟨#[115,112,108,105,116]⟩,e.id,e.node,e.other]
   simp only [sizes_cons,List.length_cons,List.length_nil] at this
   omega
  have h10:(⟨#[10]⟩:ByteArray).size=1:=rfl
  refine Dd (by exact opr_call rfl rfl Tryz.call71 rfl (hj _))<|Dd (by exact opd_sadd rfl rfl rfl (by omega) rfl)<|Dd as'<|Dd as'<|Zz<|awp_ret ?_
  refine Ru ?_
  rw [join_out hne hw,show lineErr e=0 from if_neg hne]
  exact⟨rfl,rfl⟩
 skip
 have h6:e.op≠6:=of_decide_eq_false hc6
 rw [if_neg h6] at o6
 have hos:=gName_size o6
 have hw0:(⟨#[106,111,105,110]⟩:ByteArray).size=4:=rfl
 refine Rg<|Dd (fr' fo51_1)<|Dd (l1' Tryz.isAgg9)<|Dd (fr' fo51_2)<|Dd (l1' Tryz.isAgg9)<|Dd (by exact x_buildSlice (([⟨#[106,111,105,110]⟩,e.id,e.other]:List ByteArray).map encStr) rfl so46 rfl rfl rfl rfl rfl (encStr_rl _))<|Dd as'<|Zz<|Sq<|Rg<|Dd mv' ?_
 have hw:bs [⟨#[106,111,105,110]⟩,e.id,e.other]=lineW e:=by
  rw [lineW]
  (rw [if_neg h2,if_neg h3,if_neg h4,if_neg h5,if_neg h6];rfl)
 have hne:e.op≠1:=by omega
 have hj:∀ H,ACalls Tryz.prog 71 [.pv (slStrs [⟨#[106,111,105,110]⟩,e.id,e.other]),sv ⟨#[32]⟩] H (fun x H'=>x=sv ⟨(gJoinS [32] (bs [⟨#[106,111,105,110]⟩,e.id,e.other])).toArray⟩∧H'=H):=fun H=>joins_c [⟨#[106,111,105,110]⟩,e.id,e.other] ⟨#[32]⟩ H (by decide) (by show 1*_+_+_ < _;simp only [sizes_cons,List.length_cons,List.length_nil];omega)
 have hjs:(⟨(gJoinS [32] (bs [⟨#[106,111,105,110]⟩,e.id,e.other])).toArray⟩:ByteArray).size≤70000:=by
  show (gJoinS [32] (bs [⟨#[106,111,105,110]⟩,e.id,e.other])).length≤_
  have:=join_size [⟨#[106,111,105,110]⟩,e.id,e.other]
  simp only [sizes_cons,List.length_cons,List.length_nil] at this
  omega
 have h10:(⟨#[10]⟩:ByteArray).size=1:=rfl
 refine Dd (by exact opr_call rfl rfl Tryz.call71 rfl (hj _))<|Dd (by exact opd_sadd rfl rfl rfl (by omega) rfl)<|Dd as'<|Dd as'<|Zz<|awp_ret ?_
 refine Ru ?_
 rw [join_out hne hw,show lineErr e=0 from if_neg hne]
 exact⟨rfl,rfl⟩
theorem readEO_c (s:ByteArray) (H:Heap) (hP:(splitC 32 s.data.toList).headD []=wPut→∀ H s,s.size≤20000→ACalls Tryz.prog 81 [sv s] H (fun r H'=>r=.tup [av (encObj (gParseO s).1),iv (gParseO s).2]∧H'=H)) (hs:s.size≤20000):ACalls Tryz.prog 38 [sv s] H (fun r H'=>r=av (encEdit (gReadE s.data.toList))∧H'=H):=by
 refine ACalls.pure ?_ (by simp) H
 have hsz:=size_list s
 obtain ⟨W,hW⟩:∃ W,W=splitC 32 s.data.toList:=⟨_,rfl⟩
 obtain ⟨w0,hw0⟩:∃ w,w=W.headD []:=⟨_,rfl⟩
 obtain ⟨rs,hrs⟩:∃ r,r=s.data.toList.drop (w0.length+1):=⟨_,rfl⟩
 have hrl:rs.length≤s.size:=by rw [hrs,List.length_drop,hsz];omega
 have hg:gReadE s.data.toList=readW W w0 rs:=by rw [gReadE,← hW,← hw0,← hrs]
 have hC:∃ b,∀ H,ACalls Tryz.prog 80 [sv s,sv sSp] H (fun r H'=>r=.tup [sv (ofL w0),sv (ofL rs),bv b]∧H'=H):=by
  obtain ⟨b,hb⟩:=cutV_eq s
  rw [← hW,← hw0,← hrs] at hb
  exact⟨b,fun H=>by rw [← hb];exact cut_c s H (by omega)⟩
 obtain ⟨b,hC⟩:=hC
 have hSl:(splitS s).length=W.length:=by rw [split_len,hW]
 have hml:((splitS s).map encStr).length=W.length:=by rw [List.length_map,hSl]
 have hSg:∀ i,i < W.length→((splitS s).map encStr)[i]?=some [.str (ofL (W.getD i []))]:=fun i hi=>by
  rw [hW]
  exact map_get (f:=encStr) (split_get s i (by rw [hSl];exact hi))
 have hWs:∀ i,(ofL (W.getD i [])).size≤s.size:=fun i=>by
  rw [ofL_size,List.getD_eq_getElem?_getD]
  cases e:W[i]? with
  | none=>exact Nat.zero_le _
  | some w =>
   have:=split_word 32 (l:=s.data.toList) (w:=w) (by rw [← hW];exact List.mem_of_getElem? e)
   rw [hsz] at this
   exact this
 have hWl:W.length≤s.size+1:=by
  rw [hW,splitC_len]
  have:=List.count_le_length (l:=s.data.toList) (a:=32)
  omega
 have hjl:((splitS s).drop 3).length≤20001:=by rw [List.length_drop,hSl];omega
 have hjs:sizes ((splitS s).drop 3)≤20000*((splitS s).drop 3).length:=sizes_bound (fun w hw=>by
  have hw2:=List.mem_of_mem_drop hw
  rw [splitS,← hW] at hw2
  obtain ⟨x,hx,rfl⟩:=List.mem_map.1 hw2
  have:=split_word 32 (l:=s.data.toList) (w:=x) (by rw [← hW];exact hx)
  show (ofL x).size≤_
  rw [ofL_size]
  omega)
 rw [hg,readW]
 refine Bd Tryz.func38 rfl Tryz.ntmps38<|Sq<|Rg<|Dd (by exact x_alloc (id:=2) rfl zo51 rfl rfl)<|Zz<|Sq<|Rg<|Dd mv'<|Dd (by exact opr_call rfl rfl Tryz.call79 rfl (splitSp_c s _ (by omega)))<|Dd as'<|Zz<|Sq<|Rg<|Dd mv'<|Dd (by exact opr_call rfl rfl Tryz.call80 rfl (hC _))<|Dd mv'<|Dd ex'<|Dd ex'<|Dd ex'<|Dd as'<|Dd as'<|Dd as'<|Zz<|Sq<|awp_block<|Sq<|Rg<|Dd mv'<|Dd se'<|Dd as'<|Zz ?_
 refine Cn (fun hc1=>?_) fun hc1=>?_
 ·skip
  have h1:w0=wPut:=ofL_eq.1 (of_decide_eq_true hc1)
  rw [if_pos h1]
  refine Sq<|Rg<|Dd mv'<|Dd (by exact opr_call rfl rfl Tryz.call81 rfl (hP (by rw [← hW,← hw0];exact h1) _ (ofL rs) (by rw [ofL_size];omega)))<|Dd mv'<|Dd ex'<|Dd ex'<|Dd (by exact x_alloc (id:=7) rfl zo49 rfl rfl)<|Uu (sa' Tryz.sizeOf49)<|Dd as'<|Zz<|Sq<|Rg<|Dd (ln' Tryz.isAgg49 Tryz.sizeOf49)<|Dd (bu' bo51)<|Uu (sa' Tryz.sizeOf51)<|Zz<|awp_ret ?_
  refine aret1 (H':=[]) (.inr rfl) rfl (rl' Tryz.isAgg51 Tryz.sizeOf51) (Fin.wk (r:=av (encEdit ⟨1,sNil,sNil,sNil,0,0,sNil,sNil,[],(gParseO (ofL rs)).1⟩)) (by simp) trivial trivial) ?_
  exact⟨rfl,rfl⟩
 skip
 have h1:¬ w0=wPut:=fun e=>of_decide_eq_false hc1 (ofL_eq.2 e)
 rw [if_neg h1]
 refine Sq ?_
 refine awp_bool (t:=30) (n:=9) (X:=decide (ofL w0=⟨#[109,111,118,101]⟩)&&decide ((((splitS s).map encStr).length:Int)=4)) ?_ ?_
 ·all_goals refine Dd mv' ?_
  all_goals refine Dd se' ?_
  all_goals refine Dd mv' ?_
  all_goals refine Sp 33 (fun h33=>?_) fun h33=>?_
  all_goals try contradiction
  all_goals first|refine Fo ?_|refine On mv' ?_
  all_goals first|refine Fo ?_|refine On (ll' Tryz.underlying46) ?_
  all_goals first|refine Fo ?_|refine On eql' ?_
  all_goals refine Dd pk' ?_
  all_goals refine Dd as' ?_
  all_goals refine al_nil ?_
  all_goals(exact⟨⟨_,rfl,by(simp_all;done)⟩,rfl,rfl,rfl⟩)
 refine Cn (fun hc2=>?_) fun hc2=>?_
 ·skip
  have h2:ofL w0=ofL wMove∧_:=and_t hc2
  rw [ofL_eq,hml] at h2
  rw [if_pos ⟨h2.1,by omega⟩]
  have i1:=hSg 1 (by omega)
  have i2:=hSg 2 (by omega)
  have i3:=hSg 3 (by omega)
  have s2:=hWs 2
  have s3:=hWs 3
  refine Sq ?_
  refine awp_drawc follows ?_
  refine Cr [] (fun _ _=>mv')<|Cr [] (fun _ _=>(xp' so46))<|Cr [] (fun _ _=>(lp' Tryz.isAgg9))<|Cr [] (fun _ _=>mv')<|Cr [] (fun _ _=>(xp' so46))<|Cr [] (fun _ _=>(lp' Tryz.isAgg9))<|Cr [] (fun H1 hH=>by exact opr_call rfl rfl Tryz.call82 rfl (number_c (ofL (W.getD 2 [])) _ (by omega)))<|Cr [] (fun _ _=>mv')<|Cr [] (fun _ _=>(xp' so46))<|Cr [] (fun _ _=>(lp' Tryz.isAgg9))<|Cr [] (fun H1 hH=>by exact opr_call rfl rfl Tryz.call82 rfl (number_c (ofL (W.getD 3 [])) _ (by omega)))<|Cr [] (fun _ _=>(bu' bo45))<|Cr [] (fun _ _=>(bu' bo51))<|Cp [2] (fun H1 hH=>by exact x_store_all rfl Tryz.sizeOf51 rfl rfl rfl rfl ((hH _ rfl).trans rfl) rfl rfl rfl) ?_
  refine dc_nil ⟨by kernel_rfl,?_⟩
  refine awp_ret ?_
  refine aret1 (H':=[]) (.inr rfl) rfl (rl' Tryz.isAgg51 Tryz.sizeOf51) (Fin.wk (r:=av (encEdit ⟨2,ofL (W.getD 1 []),sNil,sNil,numV (W.getD 2 []),numV (W.getD 3 []),sNil,sNil,[],zObj⟩)) (by simp) trivial trivial) ?_
  exact⟨rfl,rfl⟩
 skip
 have h2:¬ (ofL w0=ofL wMove∧_):=and_f hc2
 rw [ofL_eq,hml] at h2
 rw [if_neg (fun h=>h2 ⟨h.1,by omega⟩)]
 refine Sq ?_
 refine awp_bool (t:=51) (n:=9) (X:=decide (ofL w0=⟨#[116,97,103]⟩)&&decide ((3:Int) < (((splitS s).map encStr).length:Int))) ?_ ?_
 ·all_goals refine Dd mv' ?_
  all_goals refine Dd se' ?_
  all_goals refine Dd mv' ?_
  all_goals refine Sp 54 (fun h54=>?_) fun h54=>?_
  all_goals try contradiction
  all_goals first|refine Fo ?_|refine On mv' ?_
  all_goals first|refine Fo ?_|refine On (ll' Tryz.underlying46) ?_
  all_goals first|refine Fo ?_|refine On gt' ?_
  all_goals refine Dd pk' ?_
  all_goals refine Dd as' ?_
  all_goals refine al_nil ?_
  all_goals(exact⟨⟨_,rfl,by(simp_all;done)⟩,rfl,rfl,rfl⟩)
 refine Cn (fun hc3=>?_) fun hc3=>?_
 ·skip
  have h3:ofL w0=ofL wTag∧_:=and_t hc3
  rw [ofL_eq,hml] at h3
  rw [if_pos ⟨h3.1,by omega⟩]
  have i1:=hSg 1 (by omega)
  have i2:=hSg 2 (by omega)
  have hJe:bs ((splitS s).drop 3)=W.drop 3:=by
   rw [bs,splitS,← hW,List.map_drop,List.map_map]
   congr 1
   exact(List.map_congr_left fun x _=>ofL_list x).trans (List.map_id _)
  have hj:∀ H,ACalls Tryz.prog 71 [.pv (slStrs ((splitS s).drop 3)),sv ⟨#[32]⟩] H (fun x H'=>x=sv (ofL (gJoinS [32] (W.drop 3)))∧H'=H):=fun H=>by
   have:=joins_c ((splitS s).drop 3) ⟨#[32]⟩ H (by decide) (by show 1*_+_+_ < _;omega)
   rw [hJe] at this
   exact this
  have hJs:(ofL (gJoinS [32] (W.drop 3))).size < 1099511627776:=by
   have:=join_size ((splitS s).drop 3)
   rw [hJe] at this
   rw [ofL_size]
   omega
  obtain ⟨J,hJ⟩:∃ J,J=ofL (gJoinS [32] (W.drop 3)):=⟨_,rfl⟩
  rw [← hJ] at hJs ⊢
  simp only [← hJ] at hj
  have htl:((gLex J).1.map encTok).length=(gLex J).1.length:=List.length_map _
  refine Sq<|Rg<|Dd mv'<|Dd (by exact x_slice_sl (l:=3) (h:=((splitS s).map encStr).length) (rows':=((splitS s).drop 3).map encStr) rfl so46 rfl (encStr_rlY _) rfl rfl (by omega) (Nat.le_refl _) (by rw [List.take_length];exact List.map_drop.symm))<|Dd (by exact opr_call rfl rfl Tryz.call71 rfl (hj _))<|Dd (by exact opr_call rfl rfl Tryz.call83 rfl (lex_c J _ hJs))<|Dd mv'<|Dd ex'<|Dd ex'<|Dd ex'<|Dd as'<|Dd as'<|Dd as'<|Zz<|Sq<|Rg<|Dd mv'<|Dd (ll' Tryz.underlying133)<|Dd eql'<|Zz ?_
  refine Cn (fun hc4=>?_) fun hc4=>?_
  ·skip
   have h4:(gLex J).1.length=1:=by have:=of_decide_eq_true hc4;omega
   obtain ⟨f,hf⟩:=List.length_eq_one_iff.1 h4
   rw [hf]
   have hf0:([f].map encTok)[0]?=some [.int .i64 f.kind,.str f.text,.int .i64 f.pos]:=rfl
   refine Sq ?_
   refine awp_drawc follows ?_
   refine Cr [] (fun _ _=>mv')<|Cr [] (fun _ _=>(xp' so46))<|Cr [] (fun _ _=>(lp' Tryz.isAgg9))<|Cr [] (fun _ _=>mv')<|Cr [] (fun _ _=>(xp' so46))<|Cr [] (fun _ _=>(lp' Tryz.isAgg9))<|Cr [] (fun _ _=>mv')<|Cr [] (fun _ _=>(xp' so133))<|Cr [] (fun _ _=>(fp' fo137_1))<|Cr [] (fun _ _=>(lp' Tryz.isAgg9))<|Cr [] (fun _ _=>(bu' bo51))<|Cp [2] (fun H1 hH=>by exact x_store_all rfl Tryz.sizeOf51 rfl rfl rfl rfl ((hH _ rfl).trans rfl) rfl rfl rfl) ?_
   refine dc_nil ⟨by kernel_rfl,?_⟩
   refine awp_ret ?_
   refine aret1 (H':=[]) (.inr rfl) rfl (rl' Tryz.isAgg51 Tryz.sizeOf51) (Fin.wk (r:=av (encEdit ⟨3,ofL (W.getD 1 []),sNil,sNil,0,0,ofL (W.getD 2 []),f.text,[],zObj⟩)) (by simp) trivial trivial) ?_
   exact⟨rfl,rfl⟩
  skip
  have h4:(gLex J).1.length≠1:=by have:=of_decide_eq_false hc4;omega
  split
  ·next f hf=>rw [hf] at h4;exact absurd rfl h4
  refine awp_skip<|Sq<|Rg<|Dd (bu' bo51)<|Uu (sa' Tryz.sizeOf51)<|Zz<|awp_ret ?_
  refine aret1 (H':=[]) (.inr rfl) rfl (rl' Tryz.isAgg51 Tryz.sizeOf51) (Fin.wk (r:=av (encEdit eNone)) (by simp) trivial trivial) ?_
  exact⟨rfl,rfl⟩
 skip
 have h3:¬ (ofL w0=ofL wTag∧_):=and_f hc3
 rw [ofL_eq,hml] at h3
 rw [if_neg (fun h=>h3 ⟨h.1,by omega⟩)]
 refine Sq ?_
 refine awp_bool (t:=81) (n:=9) (X:=decide (ofL w0=⟨#[114,101,102,115]⟩)&&decide ((1:Int) < (((splitS s).map encStr).length:Int))) ?_ ?_
 ·all_goals refine Dd mv' ?_
  all_goals refine Dd se' ?_
  all_goals refine Dd mv' ?_
  all_goals refine Sp 84 (fun h84=>?_) fun h84=>?_
  all_goals try contradiction
  all_goals first|refine Fo ?_|refine On mv' ?_
  all_goals first|refine Fo ?_|refine On (ll' Tryz.underlying46) ?_
  all_goals first|refine Fo ?_|refine On gt' ?_
  all_goals refine Dd pk' ?_
  all_goals refine Dd as' ?_
  all_goals refine al_nil ?_
  all_goals(exact⟨⟨_,rfl,by(simp_all;done)⟩,rfl,rfl,rfl⟩)
 refine Cn (fun hc5=>?_) fun hc5=>?_
 ·skip
  have h4:ofL w0=ofL wRefs∧_:=and_t hc5
  rw [ofL_eq,hml] at h4
  rw [if_pos ⟨h4.1,by omega⟩]
  have i1:=hSg 1 (by omega)
  refine Sq ?_
  refine awp_drawc follows ?_
  refine Cr [] (fun _ _=>mv')<|Cr [] (fun _ _=>(xp' so46))<|Cr [] (fun _ _=>(lp' Tryz.isAgg9))<|Cr [] (fun _ _=>mv')<|Cr [] (fun H1 hH=>by exact x_slice_sl (l:=2) (h:=((splitS s).map encStr).length) (rows':=((W.drop 2).map ofL).map encStr) rfl so46 rfl (encStr_rlY _) rfl rfl (by omega) (Nat.le_refl _) (by rw [List.take_length,splitS,← hW,List.map_drop,List.map_drop];rfl))<|Cr [] (fun _ _=>(bu' bo51))<|Cp [2] (fun H1 hH=>by exact x_store_all rfl Tryz.sizeOf51 rfl rfl rfl rfl ((hH _ rfl).trans rfl) rfl rfl rfl) ?_
  refine dc_nil ⟨by kernel_rfl,?_⟩
  refine awp_ret ?_
  refine aret1 (H':=[]) (.inr rfl) rfl (rl' Tryz.isAgg51 Tryz.sizeOf51) (Fin.wk (r:=av (encEdit ⟨4,ofL (W.getD 1 []),sNil,sNil,0,0,sNil,sNil,(W.drop 2).map ofL,zObj⟩)) (by simp) trivial trivial) ?_
  exact⟨rfl,rfl⟩
 skip
 have h4:¬ (ofL w0=ofL wRefs∧_):=and_f hc5
 rw [ofL_eq,hml] at h4
 rw [if_neg (fun h=>h4 ⟨h.1,by omega⟩)]
 refine Sq ?_
 refine awp_bool (t:=95) (n:=9) (X:=decide (ofL w0=⟨#[100,114,111,112]⟩)&&decide ((((splitS s).map encStr).length:Int)=2)) ?_ ?_
 ·all_goals refine Dd mv' ?_
  all_goals refine Dd se' ?_
  all_goals refine Dd mv' ?_
  all_goals refine Sp 98 (fun h98=>?_) fun h98=>?_
  all_goals try contradiction
  all_goals first|refine Fo ?_|refine On mv' ?_
  all_goals first|refine Fo ?_|refine On (ll' Tryz.underlying46) ?_
  all_goals first|refine Fo ?_|refine On eql' ?_
  all_goals refine Dd pk' ?_
  all_goals refine Dd as' ?_
  all_goals refine al_nil ?_
  all_goals(exact⟨⟨_,rfl,by(simp_all;done)⟩,rfl,rfl,rfl⟩)
 refine Cn (fun hc6=>?_) fun hc6=>?_
 ·skip
  have h5:ofL w0=ofL wDrop∧_:=and_t hc6
  rw [ofL_eq,hml] at h5
  rw [if_pos ⟨h5.1,by omega⟩]
  have i1:=hSg 1 (by omega)
  refine Sq<|Rg<|Dd mv'<|Dd (xp' so46)<|Dd (lp' Tryz.isAgg9)<|Dd (bu' bo51)<|Uu (sa' Tryz.sizeOf51)<|Zz<|awp_ret ?_
  refine aret1 (H':=[]) (.inr rfl) rfl (rl' Tryz.isAgg51 Tryz.sizeOf51) (Fin.wk (r:=av (encEdit ⟨5,ofL (W.getD 1 []),sNil,sNil,0,0,sNil,sNil,[],zObj⟩)) (by simp) trivial trivial) ?_
  exact⟨rfl,rfl⟩
 skip
 have h5:¬ (ofL w0=ofL wDrop∧_):=and_f hc6
 rw [ofL_eq,hml] at h5
 rw [if_neg (fun h=>h5 ⟨h.1,by omega⟩)]
 refine Sq ?_
 refine awp_bool (t:=107) (n:=9) (X:=decide (ofL w0=⟨#[115,112,108,105,116]⟩)&&decide ((((splitS s).map encStr).length:Int)=4)) ?_ ?_
 ·all_goals refine Dd mv' ?_
  all_goals refine Dd se' ?_
  all_goals refine Dd mv' ?_
  all_goals refine Sp 110 (fun h110=>?_) fun h110=>?_
  all_goals try contradiction
  all_goals first|refine Fo ?_|refine On mv' ?_
  all_goals first|refine Fo ?_|refine On (ll' Tryz.underlying46) ?_
  all_goals first|refine Fo ?_|refine On eql' ?_
  all_goals refine Dd pk' ?_
  all_goals refine Dd as' ?_
  all_goals refine al_nil ?_
  all_goals(exact⟨⟨_,rfl,by(simp_all;done)⟩,rfl,rfl,rfl⟩)
 refine Cn (fun hc7=>?_) fun hc7=>?_
 ·skip
  have h6:ofL w0=ofL wSplit∧_:=and_t hc7
  rw [ofL_eq,hml] at h6
  rw [if_pos ⟨h6.1,by omega⟩]
  have i1:=hSg 1 (by omega)
  have i2:=hSg 2 (by omega)
  have i3:=hSg 3 (by omega)
  refine Sq ?_
  refine awp_drawc follows ?_
  refine Cr [] (fun _ _=>mv')<|Cr [] (fun _ _=>(xp' so46))<|Cr [] (fun _ _=>(lp' Tryz.isAgg9))<|Cr [] (fun _ _=>mv')<|Cr [] (fun _ _=>(xp' so46))<|Cr [] (fun _ _=>(lp' Tryz.isAgg9))<|Cr [] (fun _ _=>mv')<|Cr [] (fun _ _=>(xp' so46))<|Cr [] (fun _ _=>(lp' Tryz.isAgg9))<|Cr [] (fun _ _=>(bu' bo51))<|Cp [2] (fun H1 hH=>by exact x_store_all rfl Tryz.sizeOf51 rfl rfl rfl rfl ((hH _ rfl).trans rfl) rfl rfl rfl) ?_
  refine dc_nil ⟨by kernel_rfl,?_⟩
  refine awp_ret ?_
  refine aret1 (H':=[]) (.inr rfl) rfl (rl' Tryz.isAgg51 Tryz.sizeOf51) (Fin.wk (r:=av (encEdit ⟨6,ofL (W.getD 1 []),ofL (W.getD 3 []),ofL (W.getD 2 []),0,0,sNil,sNil,[],zObj⟩)) (by simp) trivial trivial) ?_
  exact⟨rfl,rfl⟩
 skip
 have h6:¬ (ofL w0=ofL wSplit∧_):=and_f hc7
 rw [ofL_eq,hml] at h6
 rw [if_neg (fun h=>h6 ⟨h.1,by omega⟩)]
 refine Sq ?_
 refine awp_bool (t:=125) (n:=9) (X:=decide (ofL w0=⟨#[106,111,105,110]⟩)&&decide ((((splitS s).map encStr).length:Int)=3)) ?_ ?_
 ·all_goals refine Dd mv' ?_
  all_goals refine Dd se' ?_
  all_goals refine Dd mv' ?_
  all_goals refine Sp 128 (fun h128=>?_) fun h128=>?_
  all_goals try contradiction
  all_goals first|refine Fo ?_|refine On mv' ?_
  all_goals first|refine Fo ?_|refine On (ll' Tryz.underlying46) ?_
  all_goals first|refine Fo ?_|refine On eql' ?_
  all_goals refine Dd pk' ?_
  all_goals refine Dd as' ?_
  all_goals refine al_nil ?_
  all_goals(exact⟨⟨_,rfl,by(simp_all;done)⟩,rfl,rfl,rfl⟩)
 refine Cn (fun hc8=>?_) fun hc8=>?_
 ·skip
  have h7:ofL w0=ofL wJoin∧_:=and_t hc8
  rw [ofL_eq,hml] at h7
  rw [if_pos ⟨h7.1,by omega⟩]
  have i1:=hSg 1 (by omega)
  have i2:=hSg 2 (by omega)
  refine Sq ?_
  refine awp_drawc follows ?_
  refine Cr [] (fun _ _=>mv')<|Cr [] (fun _ _=>(xp' so46))<|Cr [] (fun _ _=>(lp' Tryz.isAgg9))<|Cr [] (fun _ _=>mv')<|Cr [] (fun _ _=>(xp' so46))<|Cr [] (fun _ _=>(lp' Tryz.isAgg9))<|Cr [] (fun _ _=>(bu' bo51))<|Cp [2] (fun H1 hH=>by exact x_store_all rfl Tryz.sizeOf51 rfl rfl rfl rfl ((hH _ rfl).trans rfl) rfl rfl rfl) ?_
  refine dc_nil ⟨by kernel_rfl,?_⟩
  refine awp_ret ?_
  refine aret1 (H':=[]) (.inr rfl) rfl (rl' Tryz.isAgg51 Tryz.sizeOf51) (Fin.wk (r:=av (encEdit ⟨7,ofL (W.getD 1 []),ofL (W.getD 2 []),sNil,0,0,sNil,sNil,[],zObj⟩)) (by simp) trivial trivial) ?_
  exact⟨rfl,rfl⟩
 skip
 have h7:¬ (ofL w0=ofL wJoin∧_):=and_f hc8
 rw [ofL_eq,hml] at h7
 rw [if_neg (fun h=>h7 ⟨h.1,by omega⟩)]
 refine awp_skip<|Sq<|Rg<|Dd (bu' bo51)<|Uu (sa' Tryz.sizeOf51)<|Zz<|awp_ret ?_
 refine aret1 (H':=[]) (.inr rfl) rfl (rl' Tryz.isAgg51 Tryz.sizeOf51) (Fin.wk (r:=av (encEdit eNone)) (by simp) trivial trivial) ?_
 exact⟨rfl,rfl⟩
theorem textCO_c (l:List GEdit) (H:Heap) (hO:∀ e∈l,e.op=1→∀ H,ACalls Tryz.prog 67 [av (encObj e.obj)] H (fun r H'=>r=.tup [sv (gObjT e.obj).1,iv (gObjT e.obj).2]∧H'=H)) (hl:l.length < 4611686018427387904) (he:∀ e∈l,okE e):ACalls Tryz.prog 11 [.pv (slEdits l)] H (fun r H'=>r=.tup [sv (gTextC l).1,iv (gTextC l).2]∧H'=H):=by
 refine ACalls.pure ?_ (by simp) H
 have hml:(l.map encEdit).length=l.length:=List.length_map _
 refine Bd Tryz.func11 rfl Tryz.ntmps11<|Sq<|Rg<|Dd as'<|Dd as'<|Zz<|Sq<|Sq<|Rg<|Dd mv'<|Dd (by exact opr_call rfl rfl Tryz.call15 rfl (changeValid_c l _ hl he))<|Dd no'<|Zz ?_
 refine Cn (fun hc1=>?_) fun hc1=>?_
 ·skip
  have hg:gChange l=false:=by have h:=hc1;rwa [Bool.not_eq_true'] at h
  rw [show gTextC l=(sNil,1)by rw [gTextC,hg];rfl]
  refine Sq<|Rg<|Dd as'<|Dd as'<|Zz<|awp_ret ?_
  refine Ru ?_
  exact⟨rfl,rfl⟩
 skip
 have hg:gChange l=true:=by have h:=hc1;rwa [Bool.not_eq_false'] at h
 have hv:=(gChange_of hg).2
 have hT:gTextC l=(ofL (textF [] l).1,(textF [] l).2):=by rw [gTextC,if_pos hg]
 refine awp_skip<|Sq<|Rg<|Dd (by exact x_alloc (id:=2001) rfl zoN62 rfl rfl)<|Zz<|Sq<|Sq ?_
 refine AWp.ent (E':=[(0,.pv (slEdits l)),(4,.ref 2001 0 0 0)]) (H':=[(2002,⟨0,1,5,[]⟩),(2001,bObT (.osl 2002 0 0 0) false)]) (Ent.nz 2002 1 5 rfl rfl ⟨⟨_,rfl,(by exact Nz.same (by(simp;done)))⟩,⟨_,rfl,(by exact Nz.same (by(simp;rfl)))⟩,trivial⟩ ⟨⟨_,rfl,rfl,rfl,rfl,(by exact .inr ⟨_,_,rfl,rfl,(by repeat(first|exact trivial|refine⟨(by first|exact Nz.own|exact Nz.same (by(simp;done))),?_⟩))⟩)⟩,trivial⟩ trivial) ?_
 refine Rg<|Dd mv'<|Dd (ll' Tryz.underlying22)<|Dd mv'<|Zz<|awp_block ?_
 refine awp_loop (σ:=Nat) (fun k=>([(4,.ref 2001 0 0 0),(12,.pv (slEdits l)),(13,iv ((l.map encEdit).length:Int)),(14,iv (k:Int))],[(2001,bldA (accC l k) k (uK k)),(2002,bldD (accC l k) k)])) (fun k=>k≤l.length∧textF [] l=textF (accC l k) (l.drop k)∧(accC l k).length≤20000) (fun k=>l.length - k) 0 ⟨Nat.zero_le _,rfl,Nat.zero_le _⟩ ?_ ?_
 ·exact(Ent.wk (Ea<|Eb<|Eb<|Eb<|trivial) (Hc (bOb_cloT rfl rfl)<|Hc (brows_clo _ _)<|trivial) trivial)
 rintro k ⟨hk,hF,hA⟩
 refine Sq<|Rg<|Dd lss'<|Zz<|Sq ?_
 refine Cn (fun hc2=>?_) fun hc2=>?_
 ·skip
  have hlt:k < l.length:=by have:=of_decide_eq_true hc2;omega
  obtain ⟨e,hke⟩:=get_of_lt hlt
  have hi:=map_get (f:=encEdit) hke
  have hem:=List.mem_of_getElem? hke
  have hnx:=accC_next hke
  have hYl:=lineY_len (hv e hem)
  have hdr:l.drop k=e::l.drop (k+1):=by
   rw [List.drop_eq_getElem_cons hlt]
   rw [List.getElem?_eq_getElem hlt] at hke
   cases hke
   rfl
  rw [hdr,textF] at hF
  have hsz:(ofL (lineY e++[10])).size=(lineY e).length+1:=by rw [ofL_size,List.length_append];rfl
  have hbl:bld (k+1) (accC l k++(ofL (lineY e++[10])).data.toList) true=bld (k+1) (accC l (k+1)) true:=by rw [ofL_list,hnx]
  have hnl:(accC l (k+1)).length=(accC l k).length+((lineY e).length+1):=by rw [hnx,List.length_append,List.length_append];rfl
  have hw:∀ H,H.get 2001=some (bldA (accC l k) k (uK k))→H.get 2002=some (bldD (accC l k) k)→ACalls Tryz.prog 33 [.ref 2001 0 0 0,sv (ofL (lineY e++[10]))] H (fun r H'=>r=.tup [iv ((ofL (lineY e++[10])).size:Int),.pv nilI]∧H'=bld (k+1) (accC l (k+1)) true++H):=fun H h1 h2=>by
   have:=wrB_f (H:=H) (ofL (lineY e++[10])) h1 h2 (by omega)
   rwa [hbl] at this
  refine awp_skip<|Sq<|awp_block<|Sq<|Rg<|Dd (xp' so22)<|Dd (by exact opd_loadn_pad rfl Tryz.isAgg51 Tryz.sizeOf51 rfl (by omega) rfl rfl)<|Dd (by exact x_alloc (id:=6) rfl zo51 rfl rfl)<|Uu (sa' Tryz.sizeOf51)<|Zz<|Sq<|Rg<|Dd (ln' Tryz.isAgg51 Tryz.sizeOf51)<|Dd (by exact opr_call rfl rfl Tryz.call32 rfl (lineO_c e _ (hO e hem) (he e hem) (hv e hem)))<|Dd mv'<|Dd ex'<|Dd ex'<|Dd as'<|Dd as'<|Zz<|Sq<|Rg<|Dd mv'<|Dd (by exact opr_call rfl rfl Tryz.call33 rfl (hw _ rfl rfl))<|Zz<|Sq ?_
  refine awp_bool (t:=30) (n:=7) (X:=!decide (lineErr e=0)||decide ((20000:Int) < ((accC l (k+1)).length:Int))) ?_ ?_
  ·all_goals refine Dd mv' ?_
   all_goals refine Dd ne' ?_
   all_goals refine Dd mv' ?_
   all_goals refine Sp 27 (fun h27=>?_) fun h27=>?_
   all_goals try contradiction
   all_goals first|refine Fo ?_|refine On (by exact opr_call rfl rfl Tryz.call34 rfl (lenB_f (l:=accC l (k+1)) (g:=k+1) (u:=true) rfl rfl)) ?_
   all_goals first|refine Fo ?_|refine On gt' ?_
   all_goals refine Dd pk' ?_
   all_goals refine al_nil ?_
   all_goals(exact⟨⟨_,rfl,by(simp only [*,Zo];done)⟩,rfl,rfl,rfl⟩)
  refine Cn (fun hc3=>?_) fun hc3=>?_
  ·skip
   have hbad:lineErr e≠0∨20000 < (accC l k++(lineY e++[10])).length:=by have h:=hc3;rw [← hnx];simp only [Bool.or_eq_true,Bool.not_eq_true',decide_eq_false_iff_not,decide_eq_true_eq] at h;omega
   rw [if_pos hbad] at hF
   rw [hT,hF]
   refine Sq<|Rg<|Dd as'<|Dd as'<|Zz<|awp_ret ?_
   refine Ru ?_
   exact⟨rfl,rfl⟩
  skip
  have hfine:¬ (lineErr e≠0∨20000 < (accC l k++(lineY e++[10])).length):=by have h:=hc3;rw [← hnx];simp only [Bool.or_eq_false_iff,Bool.not_eq_false',decide_eq_false_iff_not,decide_eq_true_eq] at h;omega
  rw [if_neg hfine,← hnx] at hF
  rw [← hnx] at hfine
  refine awp_skip<|Rg<|Dd ad'<|Dd mv'<|Zz ?_
  exact⟨k+1,⟨hlt,hF,by omega⟩,by omega,(Ent.wk (Ea<|Eb<|Eb<|Eb<|trivial) (Hc (bOb_cloT rfl rfl)<|Hc (brows_clo _ _)<|trivial) trivial)⟩
 skip
 have hge:k=l.length:=by have:=of_decide_eq_false hc2;omega
 subst hge
 rw [List.drop_length,textF] at hF
 rw [hT,hF]
 refine awp_exit<|Sq<|Rg<|Dd (by exact opr_call rfl rfl Tryz.call35 rfl (strB_f (l:=accC l l.length) (g:=l.length) (u:=uK l.length) rfl rfl (by omega)))<|Dd as'<|Dd as'<|Zz<|awp_ret ?_
 refine Ru ?_
 exact⟨rfl,rfl⟩
theorem parseCO_c (t:ByteArray) (H:Heap) (hR:∀ k,k < (linesS t).length→(splitC 32 (trimB (lineA (restA t k))).data.toList).headD []=wPut→∀ H s,s.size≤20000→ACalls Tryz.prog 81 [sv s] H (fun r H'=>r=.tup [av (encObj (gParseO s).1),iv (gParseO s).2]∧H'=H)) (hO:∀ e∈lnsE t (linesS t).length,e.op=1→∀ H,ACalls Tryz.prog 67 [av (encObj e.obj)] H (fun r H'=>r=.tup [sv (gObjT e.obj).1,iv (gObjT e.obj).2]∧H'=H)) (hs:t.size < 1099511627776):ACalls Tryz.prog 13 [sv t] H (fun r H'=>r=.tup [.pv (slEdits (gParseC t).1),iv (gParseC t).2]∧H'=H):=by
 refine ACalls.pure ?_ (by simp) H
 rw [gParseC,← lnsE_all]
 refine Bd Tryz.func13 rfl Tryz.ntmps13<|Sq<|Rg<|Dd as'<|Dd as'<|Zz<|Sq<|Sq<|Rg<|Dd mv'<|Dd (ls' Tryz.underlying9)<|Dd gt'<|Zz ?_
 refine Cn (fun hc1=>?_) fun hc1=>?_
 ·skip
  have h2:20000 < t.size:=by have:=of_decide_eq_true hc1;omega
  rw [if_pos h2]
  refine Sq<|Rg<|Dd as'<|Dd as'<|Zz<|awp_ret ?_
  refine Ru ?_
  exact⟨rfl,rfl⟩
 skip
 have h2:¬ 20000 < t.size:=by have:=of_decide_eq_false hc1;omega
 rw [if_neg h2]
 refine awp_skip<|Sq<|Rg<|Dd (by exact x_alloc (id:=4) rfl zoN22 rfl rfl)<|Zz<|Sq<|Sq<|Rg<|Dd mv'<|Dd (by exact opr_call rfl rfl Tryz.call37 rfl (lines_c t _ rfl))<|Zz<|awp_block ?_
 obtain ⟨n,hn⟩:∃ n,n=(linesS t).length:=⟨_,rfl⟩
 have hnl:n≤20000:=by rw [hn];exact lines_len (by omega)
 refine AWp.ent (E':=[(0,sv t),(4,.ref 4 0 0 0),(12,.clo 77 [.ref 933 0 0 0])]) (H':=[(905,⟨0,15,51,[]⟩),(933,lB t),(4,bx 1 22 [.osl 905 0 0 0])]) ?_ ?_
 ·exact(Ent.nz 905 15 51 rfl rfl ⟨⟨_,rfl,(by exact Nz.same (by(simp;done)))⟩,⟨_,rfl,(by exact Nz.same (by(simp;rfl)))⟩,⟨_,rfl,(by exact Nz.same (by(simp;rfl)))⟩,trivial⟩ ⟨⟨_,rfl,rfl,rfl,rfl,(by exact .inl ⟨rfl,(by exact lB_clo _ _)⟩)⟩,⟨_,rfl,rfl,rfl,rfl,(by exact .inr ⟨_,_,rfl,rfl,(by repeat(first|exact trivial|refine⟨(by exact Nz.own),?_⟩))⟩)⟩,trivial⟩ trivial)
 refine AWp.ent (E':=[(0,sv t),(4,.ref 4 0 0 0),(12,.clo 77 [.ref 933 0 0 0])]) (H':=pcK t t 0) (Ent.wk (Eb<|Ea<|Ea<|trivial) (Hc (lB_clo _ _)<|Hc (eRows_clo _ _)<|Ha<|trivial) trivial) ?_
 refine awp_range (id:=904) (p:=13) (pcE t) rfl Tryz.call77 rfl rfl (by simp [pcE];exact⟨rfl,rfl⟩) ?_
 intro x hx1 hx2 hx3 hx4 hx5 hx6
 have hround:∀ k,k < n→CallsV Tryz.prog (.yld 904 0) [sv (lineA (restA t k))] ((904,LR x (pcE t))::pcK t (restA t (k+1)) k) (fun r H'=>r=bv true∧H'=(904,LR x (pcE t))::pcK t (restA t (k+1)) (k+1)):=by
  intro k hk
  have hnx:=lnsE_next t k
  have hll:=lnsE_len t k
  have hls:=lineA_small (t:=t) (k:=k) (by omega)
  have hla:(lineA (restA t k)).size≤t.size:=Nat.le_trans (lineA_size _) (rest_drop t k (by omega)).2
  refine .inl ⟨904,0,rfl,?_⟩
  refine ycalls [(0,sv t),(4,.ref 4 0 0 0),(5,sv (lineA (restA t k)))] (pcK t (restA t (k+1)) k) hx1 hx2 hx3 hx4 hx5 hx6 rfl rfl rfl ?_ ?_
  ·skip
   refine Rg<|Dd as'<|Zz ?_
   exact(Ent.wk (Eb<|Ea<|Eb<|trivial) (Hc (LR_clo (by simp [pcE];rfl))<|Hc (lB_clo _ _)<|Hc (eRows_clo _ _)<|Ha<|trivial) ⟨rfl,rfl,rfl,rfl,trivial⟩)
  skip
  refine awp_block ?_
  refine awp_drawc follows ?_
  refine dc_cons (r:=⟨_,none,[]⟩) (DStep.plain rfl (fun H1 hH=>by exact(by exact opd_load1_ref rfl Tryz.isAgg22 rfl ((hH _ rfl).trans rfl) rfl rfl rfl))) rfl ?_
  refine dc_cons (r:=⟨_,none,[]⟩) (DStep.plain rfl (fun H1 hH=>by exact opd_move rfl rfl)) rfl ?_
  refine dc_cons (r:=⟨_,none,[]⟩) (DStep.plain rfl (fun H1 hH=>by exact opr_call rfl rfl Tryz.call39 rfl (trim_c (lineA (restA t k)) _ (by omega)))) rfl ?_
  refine dc_cons (r:=⟨_,none,[]⟩) (DStep.plain rfl (fun H1 hH=>by exact opr_call rfl rfl Tryz.call38 rfl (readEO_c (trimB (lineA (restA t k))) _ (hR k (by omega)) (by omega)))) rfl ?_
  refine dc_cons (r:=⟨_,none,[]⟩) (DStep.plain rfl (fun H1 hH=>by exact(by exact x_buildSlice [encEdit (lnE t k)] rfl so22 rfl rfl rfl rfl rfl (by intro r hr;rw [List.mem_singleton] at hr;subst hr;rfl)))) rfl ?_
  refine dc_cons (r:=⟨_,none,[_]⟩) (DStep.plain rfl (fun H1 hH=>by exact x_append (ps:=[encEdit (lnE t k)]) rfl so22 ei51 rfl ((hH _ rfl).trans rfl) rfl rfl rfl ((eRows_len _).trans hll) rfl (by intro r hr;rw [List.mem_singleton] at hr;subst hr;rfl) (m:=1) rfl (by omega) rfl (eRows_app (lnsE t k) (lnE t k)))) rfl ?_
  refine dc_cons (r:=⟨_,none,[_]⟩) (DStep.plain rfl (fun H1 hH=>by exact(by exact x_store_all rfl Tryz.sizeOf22 rfl rfl rfl rfl ((hH _ rfl).trans rfl) rfl rfl rfl))) rfl ?_
  refine dc_nil ⟨by kernel_rfl,?_⟩
  exact⟨[(933,lB (restA t (k+1))),(905,⟨k+1,15,51,eRows (lnsE t k++[lnE t k])⟩),(4,bx 1 22 [.osl 905 (k+1) 0 (k+1)])],(Ent.wk trivial (Hc (LR_clo (by simp [pcE];rfl))<|Hc (lB_clo _ _)<|Hc (eRows_clo _ _)<|Ha<|trivial) ⟨rfl,rfl,rfl,rfl,trivial⟩),rfl,by rw [← hnx];rfl⟩
 refine(lines1_c t (.yld 904 0) (fun k=>(904,LR x (pcE t))::pcK t (restA t k) k) hs (fun k=>rfl) (fun k hk=>?_)).mono ?_
 ·exact CallsV.congrG (hround k (by omega)) (fun j=>get_shY j) (fun j=>rfl)
 rintro r H' ⟨rfl,rfl⟩
 refine⟨x,_,rfl,by rw [hx1];decide,rfl,fun z=>?_⟩
 rw [hx2]
 obtain ⟨L,hL⟩:∃ L,L=lnsE t n:=⟨_,rfl⟩
 have hLl:L.length=n:=by rw [hL];exact lnsE_len t n
 rw [← hn,← hL]
 have hok:∀ e∈L,okE e:=fun e he=>by
  rw [hL,lnsE] at he
  obtain ⟨k,hk,rfl⟩:=List.mem_map.1 he
  have:=lineA_small (t:=t) (k:=k) (by have:=List.mem_range.1 hk;omega)
  exact gReadE_ok (by rw [size_list];omega)
 refine Sq<|Sq ?_
 refine AWp.ent (Ent.fzG (id:=905) (E':=[(0,sv t),(4,.ref 4 0 0 0)]) (H':=[(4,bx 1 22 [.pv (slEdits L)])]) (L.map encEdit) rfl (by rw [hL];exact rows_ofY encEdit _) ?_ rfl ?_ ?_) ?_
 ·intro p hp
  simp only [List.mem_cons,List.not_mem_nil,or_false] at hp
  rcases hp with rfl|rfl<;>exact⟨_,rfl,.same (by simp;try rfl)⟩
 ·exact⟨⟨_,rfl,rfl,rfl,rfl,fzr_one rfl (fz_cons (.osl (by rw [← hLl];exact take_rows encEdit L)) fz_nil)⟩,trivial⟩
 ·exact trivial
 refine Rg<|Dd (l1' Tryz.isAgg22)<|Dd (by exact opr_call rfl rfl Tryz.call11 rfl (textCO_c L _ (by rw [hL,hn];exact hO) (by omega) hok))<|Dd mv'<|Dd ex'<|Dd ex'<|Dd as'<|Dd as'<|Zz<|Sq ?_
 refine awp_bool (t:=31) (n:=8) (X:=!decide ((gTextC L).2=0)||!decide ((gTextC L).1=t)) ?_ ?_
 ·all_goals refine Dd mv' ?_
  all_goals refine Dd ne' ?_
  all_goals refine Dd mv' ?_
  all_goals refine Sp 27 (fun h27=>?_) fun h27=>?_
  all_goals try contradiction
  all_goals first|refine Fo ?_|refine On mv' ?_
  all_goals first|refine Fo ?_|refine On mv' ?_
  all_goals first|refine Fo ?_|refine On sn' ?_
  all_goals refine Dd pk' ?_
  all_goals refine al_nil ?_
  all_goals(exact⟨⟨_,rfl,by(simp_all;done)⟩,rfl,rfl,rfl⟩)
 refine Cn (fun hc2=>?_) fun hc2=>?_
 ·skip
  have hne:gTextC L≠(t,0):=fun e=>by have h:=hc2;rw [e] at h;simp at h
  rw [if_neg hne]
  refine Sq<|Rg<|Dd as'<|Dd as'<|Zz<|awp_ret ?_
  refine Ru ?_
  exact⟨rfl,rfl⟩
 skip
 have hee:gTextC L=(t,0):=by have h:=hc2;simp only [Bool.or_eq_false_iff,Bool.not_eq_false',decide_eq_true_eq] at h;exact Prod.ext h.2 h.1
 rw [if_pos hee]
 refine awp_skip<|Sq<|Rg<|Dd (l1' Tryz.isAgg22)<|Dd as'<|Dd as'<|Zz<|awp_ret ?_
 refine Ru ?_
 exact⟨rfl,rfl⟩
end
section
theorem lnsY:lnsE (t1Y++t2Y) (linesS (t1Y++t2Y)).length=[eMv,eTg]:=by
 rw [lnsE_all]
 kernel_rfl
theorem lnY2:(linesS (t1Y++t2Y)).length=2:=by kernel_rfl
theorem hdY (k:Nat) (hk:k < 2):¬ (splitC 32 (trimB (lineA (restA (t1Y++t2Y) k))).data.toList).headD []=wPut:=by
 have h:k=0∨k=1:=by omega
 rcases h with rfl|rfl
 ·have h1:(splitC 32 (trimB (lineA (restA (t1Y++t2Y) 0))).data.toList).headD []=[109,111,118,101]:=by kernel_rfl
  rw [h1]
  decide
 have h1:(splitC 32 (trimB (lineA (restA (t1Y++t2Y) 1))).data.toList).headD []=[116,97,103]:=by kernel_rfl
 rw [h1]
 decide
theorem noput {l:List GEdit} {Q:GEdit→Prop} (h:l.all (fun e=>!decide (e.op=1))=true):∀ e∈l,e.op=1→Q e:=fun e he h1=>by
 have:=List.all_eq_true.1 h e he
 rw [decide_eq_true h1] at this
 cases this
theorem head22s_c (H:Heap):ACalls Tryz.prog 9 [] H (fun r H'=>r=bv true∧H'=H):=by
 have hT1:∀ H,ACalls Tryz.prog 11 [.pv (slEdits [eMv])] H (fun r H'=>r=.tup [sv t1Y,iv 0]∧H'=H):=fun H=>by
  have:=textCO_c [eMv] H (noput rfl) (by decide) (fun e he=>okE_l2 e (List.mem_cons.2 (.inl (List.mem_singleton.1 he))))
  rw [ht1Y] at this
  exact this
 have hT2:∀ H,ACalls Tryz.prog 11 [.pv (slEdits [eTg])] H (fun r H'=>r=.tup [sv t2Y,iv 0]∧H'=H):=fun H=>by
  have:=textCO_c [eTg] H (noput rfl) (by decide) (fun e he=>okE_l2 e (List.mem_cons_of_mem _ he))
  rw [ht2Y] at this
  exact this
 have hP:∀ H,ACalls Tryz.prog 13 [sv (t1Y++t2Y)] H (fun r H'=>r=.tup [.pv (slEdits [eMv,eTg]),iv 0]∧H'=H):=fun H=>by
  have:=parseCO_c (t1Y++t2Y) H (fun k hk h=>absurd h (hdY k (by rw [lnY2] at hk;exact hk))) (by rw [lnsY];exact noput rfl) (by decide)
  rw [hp1Y] at this
  exact this
 exact head22_of hT1 hT2 hP allY_c H
end
section
theorem iRows_cloU (H:Heap) (u:List Nat):∀ r∈iRows u,∀ a∈r,Clo H a:=by
 intro r hr a ha
 obtain ⟨x,_,rfl⟩:=List.mem_map.1 hr
 rw [List.mem_singleton] at ha
 subst ha
 simp
theorem names_lenU {e:GEdit} (h:e.refs.length+e.obj.refs.length < 1099511627776):(gNames e).length < 4611686018427387904:=by
 unfold gNames
 split
 ·rw [sortS_length]
  have h1:=List.length_filter_le nonE (idsOf e)
  have h2:=addAll_len e.obj.refs (addAll (addAll [] [e.id,e.other,e.node,e.obj.id]) e.refs)
  have h3:=addAll_len e.refs (addAll [] [e.id,e.other,e.node,e.obj.id])
  have h4:=addAll_len [e.id,e.other,e.node,e.obj.id] []
  have h5:([e.id,e.other,e.node,e.obj.id]:List ByteArray).length=4:=rfl
  have h6:([]:List ByteArray).length=0:=rfl
  have h7:(idsOf e).length=(addAll (addAll (addAll [] [e.id,e.other,e.node,e.obj.id]) e.refs) e.obj.refs).length:=rfl
  omega
 exact Nat.zero_lt_succ _
def lnkB (a b:GEdit):Bool:=(gNames a).any (inB (gWrites b))||(gNames b).any (inB (gWrites a))
theorem inB_memU {l:List ByteArray} {s:ByteArray}:inB l s=true↔s∈l:=by
 rw [← inB_eq,List.any_eq_true]
 constructor
 ·rintro⟨x,hx,h⟩
  rw [of_decide_eq_true h];exact hx
 intro h;exact⟨s,h,decide_eq_true rfl⟩
theorem any_next {l:List ByteArray} {p:ByteArray→Bool} {k:Nat} {s:ByteArray} (h:l[k]?=some s):(l.take (k+1)).any p=((l.take k).any p||p s):=by
 rw [List.take_add_one,h,Option.toList_some,List.any_append]
 simp
theorem any_at {l:List ByteArray} {p:ByteArray→Bool} {k:Nat} {s:ByteArray} (h:l[k]?=some s) (hp:p s=true):l.any p=true:=List.any_eq_true.2 ⟨s,List.mem_of_getElem? h,hp⟩
theorem linked_c (a b:GEdit) (H:Heap) (ha:okE a) (hb:okE b) (sa:a.refs.length+a.obj.refs.length < 1099511627776) (sb:b.refs.length+b.obj.refs.length < 1099511627776) :
  ACalls Tryz.prog 24 [av (encEdit a),av (encEdit b)] H (fun r H'=>r=bv (lnkB a b)∧H'=H):=by
 refine ACalls.pure ?_ (by simp) H
 have la:=names_lenU sa
 have lb:=names_lenU sb
 have hla:((gNames a).map encStr).length=(gNames a).length:=List.length_map _
 have hlb:((gNames b).map encStr).length=(gNames b).length:=List.length_map _
 refine Bd Tryz.func24 rfl Tryz.ntmps24<|Sq<|Rg<|Dd (by exact opd_box (id:=2) rfl rfl rfl rfl rfl)<|Dd (by exact opd_box (id:=3) rfl rfl rfl rfl rfl)<|Dd as'<|Zz<|Sq<|Rg<|Dd (by exact opd_loadn_ref rfl Tryz.isAgg51 Tryz.sizeOf51 rfl rfl rfl rfl (by simp only [Zl,encTag,encObj,encStr,encEdit,encInt];rfl) rfl)<|Dd (by exact opr_call rfl rfl Tryz.call47 rfl (names_cE a _ ha sa))<|Dd as'<|Zz<|Sq<|Rg<|Dd (by exact opd_loadn_ref rfl Tryz.isAgg51 Tryz.sizeOf51 rfl rfl rfl rfl (by simp only [Zl,encTag,encObj,encStr,encEdit,encInt];rfl) rfl)<|Dd (by exact opr_call rfl rfl Tryz.call47 rfl (names_cE b _ hb sb))<|Dd as'<|Zz<|Sq<|Sq<|Rg<|Dd as'<|Zz<|awp_block ?_
 refine awp_loop (σ:=Nat) (fun i=>([(2,.ref 2 0 0 0),(3,.ref 3 0 0 0),(5,.pv (slStrs (gNames a))),(6,.pv (slStrs (gNames b))),(7,iv (i:Int))],[(3,bx 15 51 ((encEdit b).map .pv)),(2,bx 15 51 ((encEdit a).map .pv))])) (fun i=>i≤(gNames a).length∧((gNames a).take i).any (inB (gWrites b))=false) (fun i=>(gNames a).length - i) 0 ⟨Nat.zero_le _,rfl⟩ ?_ ?_
 ·exact Wk
 rintro i ⟨hi,hno⟩
 refine Sq<|Sq<|Rg<|Dd mv'<|Dd mv'<|Dd (ll' Tryz.underlying46)<|Dd lss'<|Zz ?_
 refine Cn (fun hc1=>?_) fun hc1=>?_
 ·skip
  have hlt:i < (gNames a).length:=by have:=of_decide_eq_true hc1;omega
  obtain ⟨s,hs⟩:=get_of_lt hlt
  have his:=map_get (f:=encStr) hs
  have hnx:=any_next (p:=inB (gWrites b)) hs
  rw [hno,Bool.false_or] at hnx
  refine awp_skip<|Sq<|awp_block<|Sq ?_
  refine awp_drawc follows ?_
  refine Cq (by exact opd_loadn_ref rfl Tryz.isAgg51 Tryz.sizeOf51 rfl rfl rfl rfl (by simp only [Zl,encTag,encObj,encStr,encEdit,encInt];rfl) rfl)<|Cq mv'<|Cq mv'<|Cq (xp' so46)<|Cq (lp' Tryz.isAgg9)<|Cq (by exact opr_call rfl rfl Tryz.call63 rfl (writesL_c b s _)) ?_
  refine dc_nil ⟨by kernel_rfl,?_⟩
  refine Cn (fun hc2=>?_) fun hc2=>?_
  ·skip
   have hy:inB (gWrites b) s=true:=hc2
   refine Sq<|Rg<|Dd as'<|Zz<|awp_ret ?_
   refine Rt ?_
   exact⟨by rw [lnkB,any_at hs hy,Bool.true_or],rfl⟩
  skip
  have hy:inB (gWrites b) s=false:=hc2
  refine awp_skip<|Rg<|Dd mv'<|Dd ad'<|Dd as'<|Zz ?_
  exact⟨i+1,⟨by omega,by rw [hnx,hy]⟩,by omega,Wk⟩
 skip
 have hge:i=(gNames a).length:=by have:=of_decide_eq_false hc1;omega
 subst hge
 rw [List.take_length] at hno
 refine awp_exit<|Sq<|Sq<|Rg<|Dd as'<|Zz<|awp_block ?_
 refine awp_loop (σ:=Nat) (fun i=>([(2,.ref 2 0 0 0),(6,.pv (slStrs (gNames b))),(8,iv (i:Int))],[(2,bx 15 51 ((encEdit a).map .pv))])) (fun i=>i≤(gNames b).length∧((gNames b).take i).any (inB (gWrites a))=false) (fun i=>(gNames b).length - i) 0 ⟨Nat.zero_le _,rfl⟩ ?_ ?_
 ·exact Wk
 rintro i ⟨hi,hno2⟩
 refine Sq<|Sq<|Rg<|Dd mv'<|Dd mv'<|Dd (ll' Tryz.underlying46)<|Dd lss'<|Zz ?_
 refine Cn (fun hc3=>?_) fun hc3=>?_
 ·skip
  have hlt:i < (gNames b).length:=by have:=of_decide_eq_true hc3;omega
  obtain ⟨s,hs⟩:=get_of_lt hlt
  have his:=map_get (f:=encStr) hs
  have hnx:=any_next (p:=inB (gWrites a)) hs
  rw [hno2,Bool.false_or] at hnx
  refine awp_skip<|Sq<|awp_block<|Sq ?_
  refine awp_drawc follows ?_
  refine Cq (by exact opd_loadn_ref rfl Tryz.isAgg51 Tryz.sizeOf51 rfl rfl rfl rfl (by simp only [Zl,encTag,encObj,encStr,encEdit,encInt];rfl) rfl)<|Cq mv'<|Cq mv'<|Cq (xp' so46)<|Cq (lp' Tryz.isAgg9)<|Cq (by exact opr_call rfl rfl Tryz.call63 rfl (writesL_c a s _)) ?_
  refine dc_nil ⟨by kernel_rfl,?_⟩
  refine Cn (fun hc4=>?_) fun hc4=>?_
  ·skip
   have hy:inB (gWrites a) s=true:=hc4
   refine Sq<|Rg<|Dd as'<|Zz<|awp_ret ?_
   refine Rt ?_
   exact⟨by rw [lnkB,any_at hs hy,Bool.or_true],rfl⟩
  skip
  have hy:inB (gWrites a) s=false:=hc4
  refine awp_skip<|Rg<|Dd mv'<|Dd ad'<|Dd as'<|Zz ?_
  exact⟨i+1,⟨by omega,by rw [hnx,hy]⟩,by omega,Wk⟩
 skip
 have hge:i=(gNames b).length:=by have:=of_decide_eq_false hc3;omega
 subst hge
 rw [List.take_length] at hno2
 refine awp_exit<|Sq<|Rg<|Dd as'<|Zz<|awp_ret ?_
 refine Rt ?_
 exact⟨by rw [lnkB,hno,hno2];rfl,rfl⟩
theorem lnk_iff {l:List GEdit} {i k:Nat} {a b:GEdit} (ha:l[i]?=some a) (hb:l[k]?=some b):lnkB a b=true↔LnkE l i k:=by
 have hi:=(List.getElem?_eq_some_iff.1 ha).1
 have hk:=(List.getElem?_eq_some_iff.1 hb).1
 have na:nmOf l i=gNames a:=by rw [nmOf,ha];rfl
 have nb:nmOf l k=gNames b:=by rw [nmOf,hb];rfl
 have wa:wrOf l i=gWrites a:=by rw [wrOf,ha];rfl
 have wb:wrOf l k=gWrites b:=by rw [wrOf,hb];rfl
 rw [lnkB,Bool.or_eq_true,List.any_eq_true,List.any_eq_true]
 constructor
 ·rintro(⟨s,h1,h2⟩|⟨s,h1,h2⟩)
  ·exact .inl ⟨hi,hk,s,by rw [na];exact h1,by rw [wb];exact inB_memU.1 h2⟩
  exact .inr ⟨hk,hi,s,by rw [nb];exact h1,by rw [wa];exact inB_memU.1 h2⟩
 rintro(⟨_,_,s,h1,h2⟩|⟨_,_,s,h1,h2⟩)
 ·exact .inl ⟨s,by rw [← na];exact h1,inB_memU.2 (by rw [← wb];exact h2)⟩
 exact .inr ⟨s,by rw [← nb];exact h1,inB_memU.2 (by rw [← wa];exact h2)⟩
theorem lnk_symm {l:List GEdit} {i k:Nat} (h:LnkE l i k):LnkE l k i:=h.elim .inr .inl
theorem alone_len {L:Nat→Nat→Prop} {f:Nat→Nat} (hc:Cls L f) (hs:∀ i k,L i k→L k i) {n i:Nat} (hi:i < n) (h:∀ k,k≠i→¬ L i k):(grp f n (f i)).length=1:=by
 have hall:∀ j∈grp f n (f i),j=i:=fun j hj=>alone hc.sn (fun k hk=>⟨h k hk,fun h2=>h k hk (hs _ _ h2)⟩) (mem_grp.1 hj).2
 have hmem:i∈grp f n (f i):=mem_grp.2 ⟨hi,rfl⟩
 have hpos:0 < (grp f n (f i)).length:=List.length_pos_of_mem hmem
 by_cases h1:(grp f n (f i)).length=1
 ·exact h1
 have h2:1 < (grp f n (f i)).length:=by omega
 have e0:=hall _ (List.getElem_mem hpos)
 have e1:=hall _ (List.getElem_mem h2)
 have:=sorted_inj (grp_sorted f n (f i)) (i:=0) (j:=1) (a:=i) (by rw [List.getElem?_eq_getElem hpos,e0]) (by rw [List.getElem?_eq_getElem h2,e1])
 cases this
/-- What 'of' holds when the first i groups and j of the next one's members are marked. -/
def OfI (f:Nat→Nat) (n i:Nat) (g:List Nat) (O:List Nat):Prop:=O.length=n∧∀ x,x < n→O.getD x 0=if rank f n x < i∨x∈g then rank f n x+1 else 0
theorem ofI_zero (f:Nat→Nat) (n:Nat):OfI f n 0 [] (List.replicate n 0):=⟨List.length_replicate,fun x hx=>by
 rw [if_neg (by simp),List.getD_eq_getElem?_getD,List.getElem?_replicate,if_pos hx];rfl⟩
theorem ofI_step {f:Nat→Nat} {n i x:Nat} {g O:List Nat} (h:OfI f n i g O) (hx:x < n) (hr:rank f n x=i):OfI f n i (g++[x]) (O.set x (i+1)):=⟨by rw [List.length_set,h.1],fun y hy=>by
 by_cases e:y=x
 ·subst e
  rw [if_pos (.inr (by simp)),List.getD_eq_getElem?_getD,List.getElem?_set_self (by rw [h.1];exact hx),hr]
  rfl
 rw [List.getD_eq_getElem?_getD,List.getElem?_set_ne (fun h=>e h.symm),← List.getD_eq_getElem?_getD,h.2 y hy]
 have:(y∈g++[x])↔y∈g:=by simp [e]
 simp only [this]⟩
theorem ofI_next {f:Nat→Nat} {n i:Nat} {g O:List Nat} (h:OfI f n i g O) (hg:∀ x,x < n→(x∈g↔rank f n x=i)):OfI f n (i+1) [] O:=⟨h.1,fun x hx=>by
 rw [h.2 x hx]
 have:(rank f n x < i∨x∈g)↔(rank f n x < i+1∨x∈([]:List Nat)):=by
  rw [hg x hx]
  simp only [List.not_mem_nil,or_false]
  omega
 simp only [this]⟩
theorem ofI_at {f:Nat→Nat} {n i x:Nat} {O:List Nat} (h:OfI f n i [] O) (hx:x < n) (hr:rank f n x < i):O[x]?=some (rank f n x+1):=by
 have h1:=h.2 x hx
 rw [if_pos (.inl hr),List.getD_eq_getElem?_getD,List.getElem?_eq_getElem (by rw [h.1];exact hx)] at h1
 rw [List.getElem?_eq_getElem (by rw [h.1];exact hx)]
 exact congrArg some h1
theorem ofI_new {f:Nat→Nat} {n i x:Nat} {g O:List Nat} (h:OfI f n i g O) (hx:x < n) (hr:¬ rank f n x < i) (hg:x∉g):O[x]?=some 0:=by
 have h1:=h.2 x hx
 rw [if_neg (by rintro(h|h);exact hr h;exact hg h),List.getD_eq_getElem?_getD,List.getElem?_eq_getElem (by rw [h.1];exact hx)] at h1
 rw [List.getElem?_eq_getElem (by rw [h.1];exact hx)]
 exact congrArg some h1
theorem iRows_rep (n:Nat):iRows (List.replicate n 0)=List.replicate n [iv 0]:=by rw [iRows,List.map_replicate];rfl
def zI (g:List Nat):List Int:=g.map fun(x:Nat)=>(x:Int)
theorem zI_get {g:List Nat} {j x:Nat} (h:g[j]?=some x):((zI g).map encInt)[j]?=some [.int .i64 (x:Int)]:=by rw [List.getElem?_map,zI,List.getElem?_map,h];rfl
theorem zI_len (g:List Nat):((zI g).map encInt).length=g.length:=by rw [List.length_map,zI,List.length_map]
theorem gr_get {f:Nat→Nat} {n i r:Nat} (h:(roots f n)[i]?=some r):((groups f n).map encG)[i]?=some [slInts (zI (grp f n r))]:=by rw [List.getElem?_map,groups,List.getElem?_map,h];rfl
theorem gr_len (f:Nat→Nat) (n:Nat):((groups f n).map encG).length=(roots f n).length:=by rw [List.length_map,groups,List.length_map]
def cUn (f:Nat→Nat) (n i:Nat):Nat:=(((groups f n).take i).map List.length).sum
theorem cUn_next {f:Nat→Nat} {n i r:Nat} (h:(roots f n)[i]?=some r):cUn f n (i+1)=cUn f n i+(grp f n r).length:=by
 have hg:(groups f n)[i]?=some (grp f n r):=by rw [groups,List.getElem?_map,h];rfl
 rw [cUn,cUn,List.take_add_one,hg,Option.toList_some,List.map_append,List.sum_append]
 simp
theorem cUn_le {f:Nat→Nat} (hle:∀ x,f x≤x) (hid:∀ x,f (f x)=f x) (n i:Nat):cUn f n i≤n:=by
 have h:=groups_sum hle hid n
 rw [← List.take_append_drop i (groups f n),List.map_append,List.sum_append] at h
 rw [cUn]
 omega
theorem cUn_all {f:Nat→Nat} (hle:∀ x,f x≤x) (hid:∀ x,f (f x)=f x) (n:Nat):cUn f n (roots f n).length=n:=by
 rw [cUn,List.take_of_length_le (by rw [groups,List.length_map];exact Nat.le_refl _)]
 exact groups_sum hle hid n
/-- The shorter change's units lie within units. -/
theorem less_in {l:List GEdit} (hl:gChange l=true) {q i:Nat} {g:List Nat} (hq:q≤l.length) (hg:(gUnits (l.take q))[i]?=some g):0 < g.length∧∀ a∈g,a < q∧∀ b∈g,top (topsE l) a=top (topsE l) b:=by
 rw [gUnits] at hg
 split at hg
 ·next h2 =>
  have c1:=(topsE_ok hl).1
  have c2:=(topsE_ok h2).1
  have hql:(l.take q).length=q:=by rw [List.length_take];omega
  rw [groups,List.getElem?_map] at hg
  cases hr:(roots (top (topsE (l.take q))) (l.take q).length)[i]? with
  | none=>rw [hr] at hg;cases hg
  | some r =>
   rw [hr] at hg
   have hg:grp (top (topsE (l.take q))) (l.take q).length r=g:=Option.some.inj hg
   subst hg
   obtain ⟨r1,r2⟩:=mem_roots.1 (List.mem_of_getElem? hr)
   refine⟨List.length_pos_of_mem (mem_grp.2 ⟨r1,r2⟩),fun a ha=>?_⟩
   obtain ⟨a1,a2⟩:=mem_grp.1 ha
   refine⟨by omega,fun b hb=>?_⟩
   obtain ⟨b1,b2⟩:=mem_grp.1 hb
   have tk:∀ i,i < q→(l.take q)[i]?=l[i]?:=fun i hi=>List.getElem?_take_of_lt hi
   refine c2.less c1 (fun i k hik=>?_) (a2.trans b2.symm)
   rcases hik with⟨i1,k1,s,s1,s2⟩|⟨i1,k1,s,s1,s2⟩
   ·refine .inl ⟨by omega,by omega,s,?_,?_⟩
    ·rw [nmOf,← tk i (by omega)];exact s1
    rw [wrOf,← tk k (by omega)];exact s2
   refine .inr ⟨by omega,by omega,s,?_,?_⟩
   ·rw [nmOf,← tk k (by omega)];exact s1
   rw [wrOf,← tk i (by omega)];exact s2
 cases hg
theorem okU_take {l:List GEdit} (h:okU l) (q:Nat):okU (l.take q):=fun e he=>h e (List.mem_of_mem_take he)
theorem grp_smallU (f:Nat→Nat) (n r:Nat):(grp f n r).length≤n:=Nat.le_trans (List.length_filter_le _ _) (by rw [List.length_range];exact Nat.le_refl _)
theorem changeUnits_c (l:List GEdit) (H:Heap) (hU:okU l) (hll:l.length < 1099511627776) :
  ACalls Tryz.prog 6 [.pv (slEdits l)] H (fun r H'=>r=bv true∧H'=H):=by
 refine ACalls.pure ?_ (by simp) H
 have hle:∀ e∈l,okE e:=fun e he=>(hU e he).1
 obtain ⟨n,hn⟩:∃ n,n=l.length:=⟨_,rfl⟩
 have hml:(l.map encEdit).length=n:=by rw [hn];exact List.length_map _
 have hrE:∀ r∈l.map encEdit,r.length=15:=rlE l
 refine Bd Tryz.func6 rfl Tryz.ntmps6<|Sq<|Rg<|Dd as'<|Zz<|Sq<|Rg<|Dd (by exact opr_call rfl rfl Tryz.call9 rfl (head22s_c _))<|Dd as'<|Zz<|Sq<|Sq ?_
 refine awp_bool (t:=26) (n:=9) (X:=!few22 l 30||!gChange l) ?_ ?_
 ·all_goals refine Dd mv' ?_
  all_goals refine Dd (by exact opr_call rfl rfl Tryz.call10 rfl (few22_c l 30 _ (by omega) (fun e h=>okEdit_E (hle e h)))) ?_
  all_goals refine Dd no' ?_
  all_goals refine Dd mv' ?_
  all_goals refine Sp 22 (fun h22=>?_) fun h22=>?_
  all_goals try contradiction
  all_goals first|refine Fo ?_|refine On mv' ?_
  all_goals first|refine Fo ?_|refine On (by exact opr_call rfl rfl Tryz.call15 rfl (changeValid_c l _ (by omega) hle)) ?_
  all_goals first|refine Fo ?_|refine On no' ?_
  all_goals refine Dd pk' ?_
  all_goals refine al_nil ?_
  all_goals(exact⟨⟨_,rfl,by(simp_all;done)⟩,rfl,rfl,rfl⟩)
 refine Cn (fun hc1=>?_) fun hc1=>?_
 ·skip
  refine Sq<|Rg<|Dd mv'<|Dd as'<|Zz<|awp_ret ?_
  refine Rt ?_
  exact⟨rfl,rfl⟩
 skip
 have hb:few22 l 30=true∧gChange l=true:=by have h:=hc1;simp only [Bool.or_eq_false_iff,Bool.not_eq_false'] at h;exact h
 obtain ⟨hf2,hgc⟩:=hb
 have hn200:n≤200:=by rw [hn];exact(gChange_all hgc).2.1
 have hn0:0 < n:=by rw [hn];exact(gChange_all hgc).1
 have hcl:=(topsE_ok hgc).1
 have hls:∀ {q i:Nat} {g:List Nat},q≤n→(gUnits (l.take q))[i]?=some g→0 < g.length∧∀ a∈g,a < q∧∀ b∈g,top (topsE l) a=top (topsE l) b:=fun hq hg=>less_in hgc (by omega) hg
 have hgu:gUnits l=groups (top (topsE l)) n:=by rw [gUnits,if_pos hgc,hn]
 obtain ⟨f,hf⟩:∃ f,f=top (topsE l):=⟨_,rfl⟩
 rw [← hf] at hgu hcl hls
 have hfle:=hcl.le
 have hfid:=hcl.idem
 have hun:∀ H,ACalls Tryz.prog 19 [.pv (slEdits l)] H (fun r H'=>r=.pv (slGroups (groups f n))∧H'=H):=fun H=>by
  have:=units_c l hU (by omega) H
  rwa [hgu] at this
 have hgl:=gr_len f n
 obtain ⟨m,hm⟩:∃ m,m=(roots f n).length:=⟨_,rfl⟩
 rw [← hm] at hgl
 have hmn:m≤n:=by rw [hm];exact Nat.le_trans (List.length_filter_le _ _) (by rw [List.length_range];exact Nat.le_refl _)
 have hO0:=ofI_zero f n
 have hrep:=iRows_rep n
 refine awp_skip<|Sq<|Rg<|Dd mv'<|Dd (by exact opr_call rfl rfl Tryz.call19 rfl (hun _))<|Dd as'<|Zz<|Sq<|Rg<|Dd mv'<|Dd (ll' Tryz.underlying22)<|Dd (by exact x_makeSlice (id:=908) rfl so42 ei3 zo3 rfl rfl rfl (by omega) (by omega) (by exact Int.toNat_natCast _) (by exact Int.toNat_natCast _) (by omega) rfl)<|Dd as'<|Zz<|Sq<|Rg<|Dd as'<|Zz<|Sq<|Sq<|Rg<|Dd as'<|Zz<|awp_block ?_
 rw [hml]
 refine awp_loop2 (fun(i:Nat) (O:List Nat)=>([(0,.pv (slEdits l)),(3,bv true),(4,.pv (slGroups (groups f n))),(5,.osl 908 0 0 n),(6,iv (cUn f n i:Int)),(7,iv (i:Int))],[(908,⟨0,1,3,iRows O⟩)])) (fun i O=>i≤m∧OfI f n i [] O) (fun i _=>m - i) 0 (List.replicate n 0) ⟨Nat.zero_le _,hO0⟩ ?_ ?_
 ·rw [hrep]
  exact Wk
 rintro i O ⟨him,hO⟩
 have hcn:=cUn_le hfle hfid n i
 refine Sq<|Sq<|Rg<|Dd mv'<|Dd mv'<|Dd (ll' Tryz.underlying33)<|Dd lss'<|Zz ?_
 refine Cn (fun hc2=>?_) fun hc2=>?_
 ·skip
  have hlt:i < m:=by have:=of_decide_eq_true hc2;omega
  obtain ⟨r,hr⟩:=get_of_lt (l:=roots f n) (k:=i) (by omega)
  have hgi:=gr_get hr
  have hrm:=List.mem_of_getElem? hr
  have hhd:=grp_head hfle hrm
  have hnx:=cUn_next hr
  have hrk:∀ x,x < n→(x∈grp f n r↔rank f n x=i):=fun x hx=>⟨rank_of hfle hfid hr,fun e=>by
   have h1:=(rank_get hfle hfid hx).1
   rw [e,hr] at h1
   exact mem_grp.2 ⟨hx,(Option.some.inj h1).symm⟩⟩
  have hgs:=grp_sorted f n r
  have hgb:∀ x∈grp f n r,x < n:=fun x hx=>(mem_grp.1 hx).1
  have hgn:=grp_smallU f n r
  obtain ⟨p,hp⟩:∃ p,0 < i→(roots f n)[i - 1]?=some p∧p < r∧((zI (grp f n p)).map encInt)[0]?=some [.int .i64 (p:Int)]:=by
   by_cases k0:0 < i
   ·obtain ⟨p,hp⟩:=get_of_lt (l:=roots f n) (k:=i - 1) (by omega)
    exact⟨p,fun _=>⟨hp,sorted_lt (roots_sorted f n) (by omega) hp hr,zI_get (grp_head hfle (List.mem_of_getElem? hp))⟩⟩
   exact⟨0,fun h=>absurd h k0⟩
  have hpv:0 < i→((groups f n).map encG)[i - 1]?=some [slInts (zI (grp f n p))]:=fun h=>gr_get (hp h).1
  have hp0:0 < i→((zI (grp f n p)).map encInt)[0]?=some [.int .i64 (p:Int)]:=fun h=>(hp h).2.2
  have hpr:0 < i→p < r:=fun h=>(hp h).2.1
  obtain ⟨g,hg⟩:∃ g,g=grp f n r:=⟨_,rfl⟩
  rw [← hg] at hgi hhd hnx hrk hgs hgb hgn
  have hzl:=zI_len g
  have hz0:=zI_get hhd
  have hgl0:0 < g.length:=(List.getElem?_eq_some_iff.1 hhd).1
  have h45:decide ((((zI g).map encInt).length:Int)=0)=false:=decide_eq_false (by omega)
  refine awp_skip<|Sq<|awp_block<|Sq<|Sq ?_
  refine awp_mergeR (t:=73) (n:=35) (X:=false) ?_ ?_
  ·cases hg48:(decide ((0:Int) < (i:Int)):Bool)
   ·refine awp_drawc follows ?_
    refine Cq mv'<|Cq mv'<|Cq (xp' so33)<|Cq (lp' Tryz.isAgg42)<|Cq (ll' Tryz.underlying42)<|Cq eql'<|Cq mv'<|Nf mv'<|Nf gt'<|Nf mv'<|Ot<|Ot<|Ot<|Ot<|Ot<|Ot<|Ot<|Nf pf'<|Nf mv'<|Ot<|Ot<|Ot<|Ot<|Ot<|Ot<|Ot<|Ot<|Ot<|Ot<|Ot<|Ot<|Ot<|Ot<|Nf pk'<|Cq pf' ?_
    refine dc_nil ⟨by kernel_rfl,?_⟩
    exact⟨rfl,⟨_,rfl,by rfl⟩,rfl,rfl,rfl⟩
   cases hg57:(decide ((0:Int) < (((zI (grp f n p)).map encInt).length:Int)):Bool)
   ·refine awp_drawc follows ?_
    refine Cq mv'<|Cq mv'<|Cq (xp' so33)<|Cq (lp' Tryz.isAgg42)<|Cq (ll' Tryz.underlying42)<|Cq eql'<|Cq mv'<|Nf mv'<|Nf gt'<|Nf mv'<|Nt mv'<|Nt mv'<|Nt (by exact opd_sub rfl rfl rfl (by exact w64 (by omega) (by omega)))<|Nt (by exact x_index_pad rfl so33 rfl rfl (by have:=of_decide_eq_true hg48;omega) (show ((i:Int) - 1).toNat=i - 1 by omega) (hpv (by have:=of_decide_eq_true hg48;omega)) rfl)<|Nt (by exact opd_load1_pad rfl Tryz.isAgg42 rfl (hpv (by have:=of_decide_eq_true hg48;omega)) rfl)<|Nt (ll' Tryz.underlying42)<|Nt gt'<|Nf pt'<|Nf mv'<|Ot<|Ot<|Ot<|Ot<|Ot<|Ot<|Ot<|Ot<|Ot<|Ot<|Ot<|Ot<|Ot<|Ot<|Nf pf'<|Cq pf' ?_
    refine dc_nil ⟨by kernel_rfl,?_⟩
    exact⟨rfl,⟨_,rfl,by rfl⟩,rfl,rfl,rfl⟩
   refine awp_drawc follows ?_
   refine Cq mv'<|Cq mv'<|Cq (xp' so33)<|Cq (lp' Tryz.isAgg42)<|Cq (ll' Tryz.underlying42)<|Cq eql'<|Cq mv'<|Nf mv'<|Nf gt'<|Nf mv'<|Nt mv'<|Nt mv'<|Nt (by exact opd_sub rfl rfl rfl (by exact w64 (by omega) (by omega)))<|Nt (by exact x_index_pad rfl so33 rfl rfl (by have:=of_decide_eq_true hg48;omega) (show ((i:Int) - 1).toNat=i - 1 by omega) (hpv (by have:=of_decide_eq_true hg48;omega)) rfl)<|Nt (by exact opd_load1_pad rfl Tryz.isAgg42 rfl (hpv (by have:=of_decide_eq_true hg48;omega)) rfl)<|Nt (ll' Tryz.underlying42)<|Nt gt'<|Nf pt'<|Nf mv'<|Nt mv'<|Nt mv'<|Nt (by exact opd_sub rfl rfl rfl (by exact w64 (by omega) (by omega)))<|Nt (by exact x_index_pad rfl so33 rfl rfl (by have:=of_decide_eq_true hg48;omega) (show ((i:Int) - 1).toNat=i - 1 by omega) (hpv (by have:=of_decide_eq_true hg48;omega)) rfl)<|Nt (by exact opd_load1_pad rfl Tryz.isAgg42 rfl (hpv (by have:=of_decide_eq_true hg48;omega)) rfl) ?_
   refine Nt (by exact x_index_pad rfl so42 rfl rfl (by omega) rfl (hp0 (by have:=of_decide_eq_true hg48;omega)) rfl)<|Nt (by exact opd_load1_pad rfl Tryz.isAgg3 rfl (hp0 (by have:=of_decide_eq_true hg48;omega)) rfl)<|Nt mv'<|Nt mv'<|Nt (xp' so33)<|Nt (lp' Tryz.isAgg42)<|Nt (by exact x_index_pad rfl so42 rfl rfl (by omega) rfl hz0 rfl)<|Nt (lp' Tryz.isAgg3 (hi:=hz0))<|Nt ge'<|Nf pt'<|Cq pf' ?_
   refine dc_nil ⟨by kernel_rfl,?_⟩
   exact⟨rfl,⟨_,rfl,by exact decide_eq_false (by have:=hpr (by have:=of_decide_eq_true hg48;omega);omega)⟩,rfl,rfl,rfl⟩
  refine Cn (fun hc3=>?_) fun hc3=>?_
  ·skip
   cases hc3
  skip
  refine awp_skip<|Sq<|Rg<|Dd as'<|Zz<|awp_block ?_
  refine awp_loop2 (fun(j:Nat) (O:List Nat)=>([(0,.pv (slEdits l)),(3,bv true),(4,.pv (slGroups (groups f n))),(5,.osl 908 0 0 n),(6,iv ((cUn f n i+j:Nat):Int)),(7,iv (i:Int)),(8,iv (j:Int))],[(908,⟨0,1,3,iRows O⟩)])) (fun j O=>j≤g.length∧OfI f n i (g.take j) O) (fun j _=>g.length - j) 0 O ⟨Nat.zero_le _,hO⟩ ?_ ?_
  ·exact(Ent.wk (Eb<|Eb<|Eb<|Ea<|Eb<|Eb<|Eb<|trivial) (Hc (iRows_cloU _ _)<|trivial) trivial)
  rintro j O ⟨hjg,hO⟩
  refine Sq<|Sq<|Rg<|Dd mv'<|Dd mv'<|Dd mv'<|Dd (xp' so33)<|Dd (lp' Tryz.isAgg42)<|Dd (ll' Tryz.underlying42)<|Dd lss'<|Zz ?_
  refine Cn (fun hc4=>?_) fun hc4=>?_
  ·skip
   have hjl:j < g.length:=by have:=of_decide_eq_true hc4;omega
   obtain ⟨x,hx⟩:=get_of_lt hjl
   have hxm:=List.mem_of_getElem? hx
   have hxn:=hgb x hxm
   have hix:=zI_get hx
   have hrx:=(hrk x hxn).1 hxm
   have hxt:x∉g.take j:=fun h=>by
    obtain ⟨q,hq1,hq2⟩:=List.mem_iff_getElem.1 h
    have hqj:q < j:=by rw [List.length_take] at hq1;omega
    have hq:g[q]?=some x:=by rw [← List.getElem?_take_of_lt hqj,List.getElem?_eq_getElem hq1,hq2]
    have:=sorted_inj hgs hq hx
    omega
   have hOx:=ofI_new hO hxn (by omega) hxt
   have hOr:(iRows O)[x]?=some [iv ((0:Nat):Int)]:=iRows_get hOx
   have hst:=ofI_step hO hxn hrx
   have htk:g.take (j+1)=g.take j++[x]:=by rw [List.take_add_one,hx];rfl
   rw [← htk] at hst
   obtain ⟨y,hy⟩:∃ y,0 < j→g[j - 1]?=some y∧y < x:=by
    by_cases k0:0 < j
    ·obtain ⟨y,hy⟩:=get_of_lt (l:=g) (k:=j - 1) (by omega)
     exact⟨y,fun _=>⟨hy,sorted_lt hgs (by omega) hy hx⟩⟩
    exact⟨0,fun h=>absurd h k0⟩
   have hyv:0 < j→((zI g).map encInt)[j - 1]?=some [.int .i64 (y:Int)]:=fun h=>zI_get (hy h).1
   have hyx:0 < j→y < x:=fun h=>(hy h).2
   have k91:decide ((x:Int) < 0)=false:=decide_eq_false (by omega)
   have k96:decide (((l.map encEdit).length:Int)≤(x:Int))=false:=decide_eq_false (by omega)
   refine awp_skip<|Sq<|awp_block<|Sq<|Rg<|Dd mv'<|Dd mv'<|Dd (xp' so33)<|Dd (lp' Tryz.isAgg42)<|Dd mv'<|Dd (xp' so42)<|Dd (lp' Tryz.isAgg3)<|Dd as'<|Zz<|Sq<|Sq ?_
   refine awp_bool (t:=120) (n:=35) (X:=false) ?_ ?_
   ·all_goals refine Dd mv' ?_
    all_goals refine Dd lss' ?_
    all_goals refine Dd mv' ?_
    all_goals refine Sp 92 (fun h92=>?_) fun h92=>?_
    all_goals try contradiction
    all_goals(refine al_ond rfl rfl rfl rfl rfl rfl (by exact opd_move rfl rfl) ?_)
    all_goals(refine al_ond rfl rfl rfl rfl rfl rfl (by exact opd_move rfl rfl) ?_)
    all_goals(refine al_ond rfl rfl rfl rfl rfl rfl (by exact opd_len_sl rfl Tryz.underlying22 rfl) ?_)
    all_goals(refine al_ond rfl rfl rfl rfl rfl rfl (by exact opd_geq rfl rfl rfl) ?_)
    all_goals refine Dd pk' ?_
    all_goals refine Dd mv' ?_
    all_goals refine Sp 98 (fun h98=>?_) fun h98=>?_
    all_goals try contradiction
    all_goals first|refine Fo ?_|refine On mv' ?_
    all_goals first|refine Fo ?_|refine On gt' ?_
    all_goals first|refine Fo ?_|refine On mv' ?_
    all_goals(first|refine Sp 101 (fun h101=>?_) fun h101=>?_|refine al_dup (t:=101) rfl ?_)
    all_goals try contradiction
    all_goals first|refine Fo ?_|refine Fu ?_|refine On mv' ?_
    all_goals first|refine Fo ?_|refine Fu ?_|refine On mv' ?_
    all_goals first|refine Fo ?_|refine Fu ?_|refine On mv' ?_
    all_goals first|refine Fo ?_|refine Fu ?_|refine On (xp' so33) ?_
    all_goals first|refine Fo ?_|refine Fu ?_|refine On (lp' Tryz.isAgg42) ?_
    all_goals first|refine Fo ?_|refine Fu ?_|refine On mv' ?_
    all_goals first|refine Fo ?_|refine Fu ?_|refine On (by exact opd_sub rfl rfl rfl (by exact w64 (by omega) (by omega))) ?_
    all_goals first|refine Fo ?_|refine Fu ?_|refine On (by exact x_index_pad rfl so42 rfl rfl (by have:=of_decide_eq_true h101;omega) (show ((j:Int) - 1).toNat=j - 1 by omega) (hyv (by have:=of_decide_eq_true h101;omega)) rfl) ?_
    all_goals first|refine Fo ?_|refine Fu ?_|refine On (by exact opd_load1_pad rfl Tryz.isAgg3 rfl (hyv (by have:=of_decide_eq_true h101;omega)) rfl) ?_
    all_goals first|refine Fo ?_|refine Fu ?_|refine On le' ?_
    all_goals first|refine Fo ?_|refine On pk' ?_
    all_goals refine Dd pk' ?_
    all_goals refine Dd mv' ?_
    all_goals refine Sp 114 (fun h114=>?_) fun h114=>?_
    all_goals try contradiction
    all_goals first|refine Fo ?_|refine On mv' ?_
    all_goals first|refine Fo ?_|refine On mv' ?_
    all_goals first|refine Fo ?_|refine On (by exact x_index_osl rfl so42 rfl rfl rfl rfl rfl (by omega) (by exact Int.toNat_natCast _) hxn (Nat.zero_add _)) ?_
    all_goals first|refine Fo ?_|refine On (by exact opd_load1_ref rfl Tryz.isAgg3 rfl rfl rfl hOr rfl) ?_
    all_goals first|refine Fo ?_|refine On ne' ?_
    all_goals refine Dd pk' ?_
    all_goals refine al_nil ?_
    all_goals(exact⟨⟨_,rfl,by first|rfl|(rw [k96] at h98;cases h98;done)|exact absurd (of_decide_eq_true h114) (by have:=hyx (by have:=of_decide_eq_true h101;omega);omega)⟩,rfl,rfl,rfl⟩)
   refine Cn (fun hc5=>?_) fun hc5=>?_
   ·skip
    cases hc5
   skip
   refine awp_skip<|Sq<|Rg<|Dd mv'<|Dd mv'<|Dd mv'<|Dd ad'<|Dd (by exact x_index_osl rfl so42 rfl rfl rfl rfl rfl (by omega) (by exact Int.toNat_natCast _) hxn (Nat.zero_add _))<|Uu (by exact x_store1 rfl Tryz.sizeOf3 rfl rfl rfl rfl rfl hOr Nat.zero_lt_one rfl (iRows_set O x (i+1)))<|Zz<|Rg<|Dd mv'<|Dd ad'<|Dd as'<|Zz<|Rg<|Dd mv'<|Dd ad'<|Dd as'<|Zz ?_
   exact⟨j+1,O.set x (i+1),⟨by omega,hst⟩,by omega,(Ent.wk (Eb<|Eb<|Eb<|Ea<|Eb<|Eb<|Eb<|trivial) (Hc (iRows_cloU _ _)<|trivial) trivial)⟩
  skip
  have hjl:j=g.length:=by have:=of_decide_eq_false hc4;omega
  subst hjl
  rw [List.take_length] at hO
  have hO2:=ofI_next hO hrk
  refine awp_exit<|Rg<|Dd mv'<|Dd ad'<|Dd as'<|Zz ?_
  refine⟨i+1,O,⟨by omega,hO2⟩,by omega,?_⟩
  rw [hnx]
  exact(Ent.wk (Eb<|Eb<|Eb<|Ea<|Eb<|Eb<|trivial) (Hc (iRows_cloU _ _)<|trivial) trivial)
 skip
 have hge:i=m:=by have:=of_decide_eq_false hc2;omega
 have hcm:cUn f n i=n:=by rw [hge,hm];exact cUn_all hfle hfid n
 rw [hcm]
 have hOx:∀ x,x < n→(iRows O)[x]?=some [iv ((rank f n x+1:Nat):Int)]:=fun x hx=>iRows_get (ofI_at hO hx (by rw [hge,hm];exact(rank_get hfle hfid hx).2))
 clear hO hcn hcm
 refine awp_exit<|Sq<|Sq<|Rg<|Dd mv'<|Dd mv'<|Dd (ll' Tryz.underlying22)<|Dd ne'<|Zz ?_
 refine Cn (fun hc6=>?_) fun hc6=>?_
 ·skip
  have h:=hc6;rw [hml] at h;simp at h
 skip
 refine awp_skip<|Sq<|Sq<|Rg<|Dd as'<|Zz<|awp_block ?_
 refine awp_loop (σ:=Nat) (fun i=>([(0,.pv (slEdits l)),(3,bv true),(4,.pv (slGroups (groups f n))),(5,.osl 908 0 0 n),(10,iv (i:Int))],[(908,⟨0,1,3,iRows O⟩)])) (fun i=>i≤n) (fun i=>n - i) 0 (Nat.zero_le _) ?_ ?_
 ·exact(Ent.wk (Eb<|Eb<|Eb<|Ea<|Eb<|trivial) (Hc (iRows_cloU _ _)<|trivial) trivial)
 rintro i hin
 refine Sq<|Sq<|Rg<|Dd mv'<|Dd mv'<|Dd (ll' Tryz.underlying22)<|Dd lss'<|Zz ?_
 refine Cn (fun hc7=>?_) fun hc7=>?_
 ·skip
  have hlt:i < n:=by have:=of_decide_eq_true hc7;omega
  obtain ⟨a,ha⟩:=get_of_lt (l:=l) (k:=i) (by omega)
  have hia:=map_get (f:=encEdit) ha
  have hoi:=hOx i hlt
  have hri:=rank_get hfle hfid hlt
  have hgi:=gr_get hri.1
  have hzl:=zI_len (grp f n (f i))
  have hal:=fun h=>alone_len (n:=n) hcl (fun _ _=>lnk_symm) hlt h
  obtain ⟨g,hg⟩:∃ g,g=grp f n (f i):=⟨_,rfl⟩
  rw [← hg] at hgi hzl hal
  refine awp_skip<|Sq<|awp_block<|Sq<|Rg<|Dd mv'<|Dd mv'<|Dd mv'<|Dd (by exact x_index_osl rfl so42 rfl rfl rfl rfl rfl (by omega) (by exact Int.toNat_natCast _) hlt (Nat.zero_add _))<|Dd (by exact opd_load1_ref rfl Tryz.isAgg3 rfl rfl rfl hoi rfl)<|Dd (by exact opd_sub rfl rfl rfl (by exact w64 (by omega) (by omega)))<|Dd (by exact x_index_pad rfl so33 rfl rfl (by omega) (show (((rank f n i+1:Nat):Int) - 1).toNat=rank f n i by omega) hgi rfl)<|Dd (lp' Tryz.isAgg42 (hi:=hgi))<|Dd (ll' Tryz.underlying42)<|Dd eql'<|Dd as'<|Zz<|Sq<|Sq<|Rg<|Dd as'<|Zz<|awp_block ?_
  refine awp_loop2 (fun(k:Nat) (K:Bool)=>([(0,.pv (slEdits l)),(3,bv true),(4,.pv (slGroups (groups f n))),(5,.osl 908 0 0 n),(10,iv (i:Int)),(11,bv K),(12,iv (k:Int))],[(908,⟨0,1,3,iRows O⟩)])) (fun k K=>k≤n∧(∀ j,j < k→j≠i→LnkE l i j→K=true)∧(g.length=1→K=true)) (fun k _=>n - k) 0 (decide ((((zI g).map encInt).length:Int)=1)) ⟨Nat.zero_le _,fun j hj=>absurd hj (Nat.not_lt_zero _),fun h=>decide_eq_true (by omega)⟩ ?_ ?_
  ·exact(Ent.wk (Eb<|Eb<|Eb<|Ea<|Eb<|Eb<|Eb<|trivial) (Hc (iRows_cloU _ _)<|trivial) trivial)
  rintro k K ⟨hkn,hK1,hK2⟩
  refine Sq<|Sq<|Rg<|Dd mv'<|Dd mv'<|Dd (ll' Tryz.underlying22)<|Dd lss'<|Zz ?_
  refine Cn (fun hc8=>?_) fun hc8=>?_
  ·skip
   have hkl:k < n:=by have:=of_decide_eq_true hc8;omega
   obtain ⟨b,hb⟩:=get_of_lt (l:=l) (k:=k) (by omega)
   have hib:=map_get (f:=encEdit) hb
   have hok:=hOx k hkl
   have hli:=lnk_iff ha hb
   refine awp_skip<|Sq<|awp_block<|Sq<|Sq ?_
   refine awp_mergeR (t:=168) (n:=15) (X:=decide ((k:Int)=(i:Int))||!lnkB a b) ?_ ?_
   ·cases hg157:(decide ((k:Int)=(i:Int)):Bool)
    ·refine awp_drawc follows ?_
     refine Cq mv'<|Cq mv'<|Cq eql'<|Cq mv'<|Nf mv'<|Nf mv'<|Nf (xp' so22)<|Nf (by exact opd_loadn_pad rfl Tryz.isAgg51 Tryz.sizeOf51 rfl (by omega) (by simp only [Zl,encTag,encObj,encStr,encEdit,encInt];rfl) rfl)<|Nf mv'<|Nf mv'<|Nf (xp' so22)<|Nf (by exact opd_loadn_pad rfl Tryz.isAgg51 Tryz.sizeOf51 rfl (by omega) (by simp only [Zl,encTag,encObj,encStr,encEdit,encInt];rfl) rfl)<|Nf (by exact opr_call rfl rfl Tryz.call24 rfl (linked_c a b _ (hle a (List.mem_of_getElem? ha)) (hle b (List.mem_of_getElem? hb)) (hU a (List.mem_of_getElem? ha)).2 (hU b (List.mem_of_getElem? hb)).2))<|Nf no'<|Cq pf' ?_
     refine dc_nil ⟨by kernel_rfl,?_⟩
     exact⟨rfl,⟨_,rfl,by rfl⟩,rfl,rfl,rfl⟩
    refine awp_drawc follows ?_
    refine Cq mv'<|Cq mv'<|Cq eql'<|Cq mv'<|Of<|Of<|Of<|Of<|Of<|Of<|Of<|Of<|Of<|Of<|Cq pt' ?_
    refine dc_nil ⟨by kernel_rfl,?_⟩
    exact⟨rfl,⟨_,rfl,by rfl⟩,rfl,rfl,rfl⟩
   refine Cn (fun hc9=>?_) fun hc9=>?_
   ·skip
    have hno:k≠i→¬ LnkE l i k:=fun hki hL=>by have h:=hc9;rw [hli.2 hL,decide_eq_false (by omega)] at h;cases h
    refine awp_exit<|Rg<|Dd mv'<|Dd ad'<|Dd as'<|Zz ?_
    exact⟨k+1,K,⟨by omega,fun j hj hji hL=>by
     by_cases e:j=k
     ·subst e;exact absurd hL (hno hji)
     exact hK1 j (by omega) hji hL,hK2⟩,by omega,(Ent.wk (Eb<|Eb<|Eb<|Ea<|Eb<|Eb<|Eb<|trivial) (Hc (iRows_cloU _ _)<|trivial) trivial)⟩
   skip
   have hyes:lnkB a b=true:=by have h:=hc9;rw [Bool.or_eq_false_iff,Bool.not_eq_false'] at h;exact h.2
   have hff:f i=f k:=hcl.inv i k (hli.1 hyes)
   have hrr:rank f n k=rank f n i:=((rank_inj hfle hfid hlt hkl).2 hff).symm
   rw [hrr] at hok
   refine awp_skip<|Sq ?_
   refine awp_mergeR (t:=11) (n:=13) (X:=true) ?_ ?_
   ·cases hg170:(K:Bool)
    ·refine awp_drawc follows ?_
     refine Cq mv'<|Cq mv'<|Nf mv'<|Nf mv'<|Nf (by exact x_index_osl rfl so42 rfl rfl rfl rfl rfl (by omega) (by exact Int.toNat_natCast _) hlt (Nat.zero_add _))<|Nf (by exact opd_load1_ref rfl Tryz.isAgg3 rfl rfl rfl hoi rfl)<|Nf mv'<|Nf mv'<|Nf (by exact x_index_osl rfl so42 rfl rfl rfl rfl rfl (by omega) (by exact Int.toNat_natCast _) hkl (Nat.zero_add _))<|Nf (by exact opd_load1_ref rfl Tryz.isAgg3 rfl rfl rfl hok rfl)<|Nf eql'<|Cq pk'<|Cq as' ?_
     refine dc_nil ⟨by kernel_rfl,?_⟩
     exact⟨rfl,⟨_,rfl,by(simp_all;done)⟩,rfl,rfl,rfl⟩
    refine awp_drawc follows ?_
    refine Cq mv'<|Cq mv'<|Of<|Of<|Of<|Of<|Of<|Of<|Of<|Of<|Of<|Cq pk'<|Cq as' ?_
    refine dc_nil ⟨by kernel_rfl,?_⟩
    exact⟨rfl,⟨_,rfl,by rfl⟩,rfl,rfl,rfl⟩
   refine Sq ?_
   refine awp_drawc follows ?_
   refine Cq mv'<|Cq mv'<|Cq (by exact x_index_osl rfl so42 rfl rfl rfl rfl rfl (by omega) (by exact Int.toNat_natCast _) hlt (Nat.zero_add _))<|Cq (by exact opd_load1_ref rfl Tryz.isAgg3 rfl rfl rfl hoi rfl)<|Cq mv'<|Cq mv'<|Cq (by exact x_index_osl rfl so42 rfl rfl rfl rfl rfl (by omega) (by exact Int.toNat_natCast _) hkl (Nat.zero_add _))<|Cq (by exact opd_load1_ref rfl Tryz.isAgg3 rfl rfl rfl hok rfl)<|Cq ne' ?_
   refine dc_nil ⟨by kernel_rfl,?_⟩
   refine Cn (fun hc10=>?_) fun hc10=>?_
   ·skip
    have h:=hc10;simp at h
   skip
   refine awp_skip<|Rg<|Dd mv'<|Dd ad'<|Dd as'<|Zz ?_
   exact⟨k+1,true,⟨by omega,fun _ _ _ _=>rfl,fun _=>rfl⟩,by omega,(Ent.wk (Eb<|Eb<|Eb<|Ea<|Eb<|Eb<|Eb<|trivial) (Hc (iRows_cloU _ _)<|trivial) trivial)⟩
  skip
  have hge2:k=n:=by have:=of_decide_eq_false hc8;omega
  have hKt:K=true:=by
   cases hKK:K with
   | true=>rfl
   | false =>
    have hno:∀ j,j≠i→¬ LnkE l i j:=fun j hji hL=>by
     have hjn:j < n:=by rcases hL with⟨_,h,_⟩|⟨h,_,_⟩<;>omega
     have:=hK1 j (by omega) hji hL
     rw [hKK] at this
     cases this
    have:=hK2 (hal hno)
    rw [hKK] at this
    cases this
  subst hKt
  refine awp_exit<|Sq<|Rg<|Dd mv'<|Dd no'<|Zz ?_
  refine Cn (fun hc11=>?_) fun hc11=>?_
  ·skip
   cases hc11
  skip
  refine awp_skip<|Rg<|Dd mv'<|Dd ad'<|Dd as'<|Zz ?_
  exact⟨i+1,by omega,by omega,(Ent.wk (Eb<|Eb<|Eb<|Ea<|Eb<|trivial) (Hc (iRows_cloU _ _)<|trivial) trivial)⟩
 skip
 refine awp_exit<|Sq<|Sq<|Rg<|Dd mv'<|Dd (ll' Tryz.underlying22)<|Dd eql'<|Zz ?_
 refine Cn (fun hc12=>?_) fun hc12=>?_
 ·skip
  refine Sq<|Rg<|Dd mv'<|Dd as'<|Zz<|awp_ret ?_
  refine Rt ?_
  exact⟨rfl,rfl⟩
 skip
 have hn1:n≠1:=by have:=of_decide_eq_false hc12;omega
 have hun2:∀ H,ACalls Tryz.prog 19 [.pv (slEdits (l.take (n - 1)))] H (fun r H'=>r=.pv (slGroups (gUnits (l.take (n - 1))))∧H'=H):=fun H=>units_c (l.take (n - 1)) (okU_take hU _) (by rw [List.length_take];omega) H
 have hls2:=fun {i:Nat} {g:List Nat} (h:(gUnits (l.take (n - 1)))[i]?=some g)=>hls (q:=n - 1) (by omega) h
 obtain ⟨G,hG⟩:∃ G,G=gUnits (l.take (n - 1)):=⟨_,rfl⟩
 rw [← hG] at hun2 hls2
 have hGl:(G.map encG).length=G.length:=List.length_map _
 have hGn:G.length≤200:=by
  rw [hG,gUnits]
  split
  ·rw [groups,List.length_map]
   refine Nat.le_trans (List.length_filter_le _ _) ?_
   rw [List.length_range,List.length_take]
   omega
  exact Nat.zero_le _
 refine awp_skip<|Sq<|Rg<|Dd mv'<|Dd mv'<|Dd (ll' Tryz.underlying22)<|Dd (by exact opd_sub rfl rfl rfl (by exact w64 (by omega) (by omega)))<|Dd (by exact x_slice_sl (l:=0) (h:=n - 1) (rows':=(l.take (n - 1)).map encEdit) rfl so22 rfl hrE rfl (congrArg some (show (((l.map encEdit).length:Int) - 1)=((n - 1:Nat):Int)by omega)) (by omega) (by omega) (by rw [List.drop_zero];exact List.map_take.symm))<|Dd (by exact opr_call rfl rfl Tryz.call19 rfl (hun2 _))<|Dd as'<|Zz<|Sq<|Sq<|Rg<|Dd as'<|Zz<|awp_block ?_
 refine awp_loop (σ:=Nat) (fun i=>([(0,.pv (slEdits l)),(3,bv true),(5,.osl 908 0 0 n),(13,.pv (slGroups G)),(14,iv (i:Int))],[(908,⟨0,1,3,iRows O⟩)])) (fun i=>i≤G.length) (fun i=>G.length - i) 0 (Nat.zero_le _) ?_ ?_
 ·exact(Ent.wk (Eb<|Eb<|Ea<|Eb<|Eb<|trivial) (Hc (iRows_cloU _ _)<|trivial) trivial)
 rintro i hiG
 refine Sq<|Sq<|Rg<|Dd mv'<|Dd mv'<|Dd (ll' Tryz.underlying33)<|Dd lss'<|Zz ?_
 refine Cn (fun hc13=>?_) fun hc13=>?_
 ·skip
  have hlt:i < G.length:=by have:=of_decide_eq_true hc13;omega
  obtain ⟨g,hg⟩:=get_of_lt hlt
  have hgi:(G.map encG)[i]?=some [slInts (zI g)]:=by rw [List.getElem?_map,hg];rfl
  obtain ⟨hg0,hgm⟩:=hls2 hg
  have hzl:=zI_len g
  obtain ⟨a,ha⟩:=get_of_lt hg0
  have hia:=zI_get ha
  obtain ⟨han,hab⟩:=hgm a (List.mem_of_getElem? ha)
  have hoa:=hOx a (by omega)
  have hgl2:g.length≤200:=by
   rw [hG,gUnits] at hg
   split at hg
   ·rw [groups,List.getElem?_map] at hg
    obtain ⟨r,_,e⟩:=Option.map_eq_some_iff.1 hg
    rw [← e]
    refine Nat.le_trans (List.length_filter_le _ _) ?_
    rw [List.length_range,List.length_take]
    omega
   cases hg
  refine awp_skip<|Sq<|awp_block<|Sq<|Rg<|Dd as'<|Zz<|awp_block ?_
  refine awp_loop (σ:=Nat) (fun k=>([(0,.pv (slEdits l)),(3,bv true),(5,.osl 908 0 0 n),(13,.pv (slGroups G)),(14,iv (i:Int)),(15,iv (k:Int))],[(908,⟨0,1,3,iRows O⟩)])) (fun k=>1≤k∧k≤g.length) (fun k=>g.length - k) 1 ⟨Nat.le_refl _,by omega⟩ ?_ ?_
  ·exact(Ent.wk (Eb<|Eb<|Ea<|Eb<|Eb<|Eb<|trivial) (Hc (iRows_cloU _ _)<|trivial) trivial)
  rintro k ⟨hk1,hkg⟩
  refine Sq<|Sq<|Rg<|Dd mv'<|Dd mv'<|Dd mv'<|Dd (xp' so33)<|Dd (lp' Tryz.isAgg42)<|Dd (ll' Tryz.underlying42)<|Dd lss'<|Zz ?_
  refine Cn (fun hc14=>?_) fun hc14=>?_
  ·skip
   have hkl:k < g.length:=by have:=of_decide_eq_true hc14;omega
   obtain ⟨b,hb⟩:=get_of_lt hkl
   have hib:=zI_get hb
   have hbm:=List.mem_of_getElem? hb
   have hbn:=(hgm b hbm).1
   have hob:=hOx b (by omega)
   rw [← (rank_inj hfle hfid (n:=n) (x:=a) (y:=b) (by omega) (by omega)).2 (hab b hbm)] at hob
   have haN:a < n:=by omega
   have hbN:b < n:=by omega
   have k232:decide ((a:Int) < 0)=false:=decide_eq_false (by omega)
   have k238:decide (((l.map encEdit).length:Int)≤(a:Int))=false:=decide_eq_false (by omega)
   have k242:decide ((b:Int) < 0)=false:=decide_eq_false (by omega)
   have k248:decide (((l.map encEdit).length:Int)≤(b:Int))=false:=decide_eq_false (by omega)
   refine awp_skip<|Sq<|awp_block<|Sq ?_
   refine awp_drawc follows ?_
   refine Cq mv'<|Cq mv'<|Cq (xp' so33)<|Cq (lp' Tryz.isAgg42)<|Cq (by exact x_index_pad rfl so42 rfl rfl (by omega) rfl hia rfl)<|Cq (lp' Tryz.isAgg3 (hi:=hia))<|Cq mv'<|Cq mv'<|Cq (xp' so33)<|Cq (lp' Tryz.isAgg42)<|Cq mv'<|Cq (xp' so42)<|Cq (lp' Tryz.isAgg3)<|Cq as'<|Cq as' ?_
   refine dc_nil ⟨by kernel_rfl,?_⟩
   refine Sq ?_
   refine awp_mergeR (t:=258) (n:=29) (X:=false) ?_ ?_
   ·refine awp_drawc follows ?_
    refine Cq mv'<|Cq lss'<|Cq mv'<|Nf mv'<|Nf mv'<|Nf (ll' Tryz.underlying22)<|Nf ge'<|Cq pk'<|Cq mv'<|Nf mv'<|Nf lss'<|Cq pf'<|Cq mv'<|Nf mv'<|Nf mv'<|Nf (ll' Tryz.underlying22)<|Nf ge'<|Cq pk'<|Cq mv'<|Nf mv'<|Nf mv'<|Nf (by exact x_index_osl rfl so42 rfl rfl rfl rfl rfl (by omega) (by exact Int.toNat_natCast _) haN (Nat.zero_add _))<|Nf (by exact opd_load1_ref rfl Tryz.isAgg3 rfl rfl rfl hoa rfl)<|Nf mv'<|Nf mv'<|Nf (by exact x_index_osl rfl so42 rfl rfl rfl rfl rfl (by omega) (by exact Int.toNat_natCast _) hbN (Nat.zero_add _))<|Nf (by exact opd_load1_ref rfl Tryz.isAgg3 rfl rfl rfl hob rfl)<|Nf ne'<|Cq pf' ?_
    refine dc_nil ⟨by kernel_rfl,?_⟩
    exact⟨rfl,⟨_,rfl,by(simp;done)⟩,rfl,rfl,rfl⟩
   refine Cn (fun hc15=>?_) fun hc15=>?_
   ·skip
    cases hc15
   skip
   refine awp_skip<|Rg<|Dd mv'<|Dd ad'<|Dd as'<|Zz ?_
   exact⟨k+1,⟨by omega,by omega⟩,by omega,(Ent.wk (Eb<|Eb<|Ea<|Eb<|Eb<|Eb<|trivial) (Hc (iRows_cloU _ _)<|trivial) trivial)⟩
  skip
  refine awp_exit<|Rg<|Dd mv'<|Dd ad'<|Dd as'<|Zz ?_
  exact⟨i+1,by omega,by omega,(Ent.wk (Eb<|Eb<|Ea<|Eb<|Eb<|trivial) (Hc (iRows_cloU _ _)<|trivial) trivial)⟩
 skip
 refine awp_exit<|Sq<|Rg<|Dd mv'<|Dd as'<|Zz<|awp_ret ?_
 refine Rt ?_
 exact⟨rfl,rfl⟩
end
section
theorem okU_ofV {l:List GEdit} (h:szEdits 1048576 l):okU l:=fun e he=>⟨okE_sz (by decide) (h.2 e he),by
 have h1:=(h.2 e he).2.2.2.2.2.2.2.2.1.1
 have h2:=(h.2 e he).2.2.2.2.2.2.2.2.2.2.2.2.2.1.1
 omega⟩
end
end Go.Proofs.YtlnfjkdacimblaaGreatDoor
