/-
  CONTRACTS: change.line, change.read, change.Text, change.Parse: with object.Text and object.Parse as hypotheses where the law's own examples put no object (written by gen/mk_y43.py).
  CONTRACT: planispherelaw22.head answers true, without object.Text and object.Parse (its examples put no object). Conditions: none.
  PLAIN: the edits between two maps: none if they are equal, and none for equal objects. Conditions: none.
  CONTRACT: planispherelaw22.ChangeBetween answers true. Conditions: the arguments' sizes.
-/
import Derived.Test.YtlnfjkdacimblaaGreatDoorKW2M11
set_option linter.unusedVariables false
set_option linter.unusedSimpArgs false
set_option maxRecDepth 100000
set_option maxHeartbeats 2000000
namespace Go.Proofs.YtlnfjkdacimblaaGreatDoor
open Go.Abs
section
theorem lineO_c (e:GEdit) (H:Heap) (hO:e.op=1→∀ H,ACalls Tryz.prog 67 [av (encObj e.obj)] H (fun r H'=>r=.tup [sv (gObjT e.obj).1,iv (gObjT e.obj).2]∧H'=H)) (he:okE e) (hv:gEditV e=true):ACalls Tryz.prog 32 [av (encEdit e)] H (fun r H'=>r=.tup [sv (ofL (lineY e++[10])),iv (lineErr e)]∧H'=H):=by
 refine ACalls.pure ?_ (by simp) H
 obtain ⟨⟨o1,o2⟩,o3,o4⟩:=gEditV_iff.1 hv
 rw [okOf] at o3
 have hval:=gEditV_val hv
 have hs0:sizes []=0:=rfl
 refine Bd Tryz.func32 rfl Tryz.ntmps32<|Sq<|Rg<|Dd (by exact opd_box (id:=1) rfl rfl rfl rfl rfl)<|Dd as'<|Dd as'<|Zz<|Sq<|Rg<|Dd as'<|Zz<|Sq<|Sq<|Rg<|Dd (fr' fo51_0)<|Dd (l1' Tryz.isAgg3)<|Zz<|awp_block<|Sq<|Rg<|Dd eql'<|Dd as'<|Zz ?_
 refine Cn (fun hc1=>?_) fun hc1=>?_
 ·skip
  have h1:e.op=1:=of_decide_eq_true hc1
  have hos:=objT_size (o:=e.obj)
  have h4:(⟨#[112,117,116,32]⟩:ByteArray).size=4:=rfl
  have h10:(⟨#[10]⟩:ByteArray).size=1:=rfl
  have h4s:((⟨#[112,117,116,32]⟩:ByteArray)++(gObjT e.obj).1).size=4+(gObjT e.obj).1.size:=by rw [ByteArray.size_append];rfl
  refine Sq<|Rg<|Dd (fr' fo51_8)<|Dd (ln' Tryz.isAgg49 Tryz.sizeOf49)<|Dd (by exact opr_call rfl rfl Tryz.call67 rfl (hO h1 _))<|Dd mv'<|Dd ex'<|Dd ex'<|Dd as'<|Dd as'<|Zz<|Sq<|Rg<|Dd mv'<|Dd (by exact opd_sadd rfl rfl rfl (by omega) rfl)<|Dd (by exact opd_sadd rfl rfl rfl (by omega) rfl)<|Dd mv'<|Dd as'<|Dd as'<|Zz<|awp_ret ?_
  refine Ru ?_
  rw [put_out h1,show lineErr e=(gObjT e.obj).2 from if_pos h1]
  exact⟨rfl,rfl⟩
 skip
 have h1:e.op≠1:=of_decide_eq_false hc1
 rw [if_neg h1,Bool.and_eq_true] at o3
 obtain ⟨o5,o6⟩:=o3
 have hid:=gName_size o5
 refine Sq<|Rg<|Dd eql'<|Dd as'<|Zz ?_
 refine Cn (fun hc2=>?_) fun hc2=>?_
 ·skip
  have h2:e.op=2:=of_decide_eq_true hc2
  rw [if_pos h2,onP,Bool.and_eq_true,decide_eq_true_eq,decide_eq_true_eq] at o6
  have hx:0≤e.x∧e.x < 1048576:=by omega
  have hy:0≤e.y∧e.y < 1048576:=by omega
  have six:(itoaB e.x).size≤7:=by rw [← size_list];show (Lib.itoa e.x).length≤7;rw [itoa_nat _ hx.1];exact digits_small (by omega) (by decide)
  have siy:(itoaB e.y).size≤7:=by rw [← size_list];show (Lib.itoa e.y).length≤7;rw [itoa_nat _ hy.1];exact digits_small (by omega) (by decide)
  have hw0:(⟨#[109,111,118,101]⟩:ByteArray).size=4:=rfl
  refine awp_drawc follows ?_
  refine Cq (fr' fo51_1)<|Cq (l1' Tryz.isAgg9)<|Cq (fr' fo51_4)<|Cq (fr' fo45_0)<|Cq (l1' Tryz.isAgg3)<|Cq (by exact opr_call rfl rfl Tryz.call68 rfl (itoa_cT e.x (by omega) (by omega) _))<|Cq (fr' fo51_4)<|Cq (fr' fo45_1)<|Cq (l1' Tryz.isAgg3)<|Cq (by exact opr_call rfl rfl Tryz.call68 rfl (itoa_cT e.y (by omega) (by omega) _))<|Cq (by exact x_buildSlice (([⟨#[109,111,118,101]⟩,e.id,itoaB e.x,itoaB e.y]:List ByteArray).map encStr) rfl so46 rfl rfl rfl rfl rfl (encStr_rl _))<|Cq as' ?_
  refine dc_nil ⟨by kernel_rfl,?_⟩
  refine Sq<|Rg<|Dd mv' ?_
  have hw:bs [⟨#[109,111,118,101]⟩,e.id,itoaB e.x,itoaB e.y]=lineW e:=by
   rw [lineW]
   (rw [if_pos h2];rfl)
  have hne:e.op≠1:=by omega
  have hj:∀ H,ACalls Tryz.prog 71 [.pv (slStrs [⟨#[109,111,118,101]⟩,e.id,itoaB e.x,itoaB e.y]),sv ⟨#[32]⟩] H (fun x H'=>x=sv ⟨(gJoinS [32] (bs [⟨#[109,111,118,101]⟩,e.id,itoaB e.x,itoaB e.y])).toArray⟩∧H'=H):=fun H=>joins_c [⟨#[109,111,118,101]⟩,e.id,itoaB e.x,itoaB e.y] ⟨#[32]⟩ H (by decide) (by show 1*_+_+_ < _;simp only [sizes_cons,List.length_cons,List.length_nil];omega)
  have hjs:(⟨(gJoinS [32] (bs [⟨#[109,111,118,101]⟩,e.id,itoaB e.x,itoaB e.y])).toArray⟩:ByteArray).size≤70000:=by
   show (gJoinS [32] (bs [⟨#[109,111,118,101]⟩,e.id,itoaB e.x,itoaB e.y])).length≤_
   have:=join_size [⟨#[109,111,118,101]⟩,e.id,itoaB e.x,itoaB e.y]
   simp only [sizes_cons,List.length_cons,List.length_nil] at this
   omega
  have h10:(⟨#[10]⟩:ByteArray).size=1:=rfl
  refine Dd (by exact opr_call rfl rfl Tryz.call71 rfl (hj _))<|Dd (by exact opd_sadd rfl rfl rfl (by omega) rfl)<|Dd as'<|Dd as'<|Zz<|awp_ret ?_
  refine Ru ?_
  rw [join_out hne hw,show lineErr e=0 from if_neg hne]
  exact⟨rfl,rfl⟩
 skip
 have h2:e.op≠2:=of_decide_eq_false hc2
 rw [if_neg h2] at o6
 refine Sq<|Rg<|Dd eql'<|Dd as'<|Zz ?_
 refine Cn (fun hc3=>?_) fun hc3=>?_
 ·skip
  have h3:e.op=3:=of_decide_eq_true hc3
  rw [if_pos h3,Bool.and_eq_true,decide_eq_true_eq] at o6
  have hks:=gName_size o6.1
  have hq:=quote_size e.val
  have hw0:(⟨#[116,97,103]⟩:ByteArray).size=3:=rfl
  refine awp_drawc follows ?_
  refine Cq (fr' fo51_1)<|Cq (l1' Tryz.isAgg9)<|Cq (fr' fo51_5)<|Cq (l1' Tryz.isAgg9)<|Cq (fr' fo51_6)<|Cq (l1' Tryz.isAgg9)<|Cq (by exact opr_call rfl rfl Tryz.call69 rfl (quote_c e.val _ (by omega)))<|Cq (by exact x_buildSlice (([⟨#[116,97,103]⟩,e.id,e.key,⟨(gQuote e.val.data.toList).toArray⟩]:List ByteArray).map encStr) rfl so46 rfl rfl rfl rfl rfl (encStr_rl _))<|Cq as' ?_
  refine dc_nil ⟨by kernel_rfl,?_⟩
  refine Sq<|Rg<|Dd mv' ?_
  have hw:bs [⟨#[116,97,103]⟩,e.id,e.key,⟨(gQuote e.val.data.toList).toArray⟩]=lineW e:=by
   rw [lineW]
   (rw [if_neg h2,if_pos h3];rfl)
  have hne:e.op≠1:=by omega
  have hj:∀ H,ACalls Tryz.prog 71 [.pv (slStrs [⟨#[116,97,103]⟩,e.id,e.key,⟨(gQuote e.val.data.toList).toArray⟩]),sv ⟨#[32]⟩] H (fun x H'=>x=sv ⟨(gJoinS [32] (bs [⟨#[116,97,103]⟩,e.id,e.key,⟨(gQuote e.val.data.toList).toArray⟩])).toArray⟩∧H'=H):=fun H=>joins_c [⟨#[116,97,103]⟩,e.id,e.key,⟨(gQuote e.val.data.toList).toArray⟩] ⟨#[32]⟩ H (by decide) (by show 1*_+_+_ < _;simp only [sizes_cons,List.length_cons,List.length_nil];omega)
  have hjs:(⟨(gJoinS [32] (bs [⟨#[116,97,103]⟩,e.id,e.key,⟨(gQuote e.val.data.toList).toArray⟩])).toArray⟩:ByteArray).size≤70000:=by
   show (gJoinS [32] (bs [⟨#[116,97,103]⟩,e.id,e.key,⟨(gQuote e.val.data.toList).toArray⟩])).length≤_
   have:=join_size [⟨#[116,97,103]⟩,e.id,e.key,⟨(gQuote e.val.data.toList).toArray⟩]
   simp only [sizes_cons,List.length_cons,List.length_nil] at this
   omega
  have h10:(⟨#[10]⟩:ByteArray).size=1:=rfl
  refine Dd (by exact opr_call rfl rfl Tryz.call71 rfl (hj _))<|Dd (by exact opd_sadd rfl rfl rfl (by omega) rfl)<|Dd as'<|Dd as'<|Zz<|awp_ret ?_
  refine Ru ?_
  rw [join_out hne hw,show lineErr e=0 from if_neg hne]
  exact⟨rfl,rfl⟩
 skip
 have h3:e.op≠3:=of_decide_eq_false hc3
 rw [if_neg h3] at o6
 refine Sq<|Rg<|Dd eql'<|Dd as'<|Zz ?_
 refine Cn (fun hc4=>?_) fun hc4=>?_
 ·skip
  have h4:e.op=4:=of_decide_eq_true hc4
  rw [if_pos h4,Bool.and_eq_true,Bool.and_eq_true,decide_eq_true_eq,decide_eq_true_eq,List.all_eq_true] at o6
  obtain ⟨⟨r1,r2⟩,r3⟩:=o6
  have hrs:sizes e.refs≤24*e.refs.length:=sizes_bound (fun s hs=>gName_size (r3 s hs))
  have hw0:(⟨#[114,101,102,115]⟩:ByteArray).size=4:=rfl
  have hfl:(([[⟨#[114,101,102,115]⟩,e.id],e.refs]:List (List ByteArray)).flatten).length < 1099511627776:=by simp;omega
  refine Rg<|Dd (fr' fo51_1)<|Dd (l1' Tryz.isAgg9)<|Dd (by exact x_buildSlice (([⟨#[114,101,102,115]⟩,e.id]:List ByteArray).map encStr) rfl so46 rfl rfl rfl rfl rfl (encStr_rl _))<|Dd (fr' fo51_7)<|Dd (l1' Tryz.isAgg46)<|Dd (by exact x_buildSlice (([[⟨#[114,101,102,115]⟩,e.id],e.refs]:List (List ByteArray)).map (fun l=>[.sl (l.map encStr)])) rfl so163 rfl rfl rfl rfl rfl (by simp))<|Dd (by exact opr_call rfl rfl Tryz.call70 rfl (concat_ByteArray [[⟨#[114,101,102,115]⟩,e.id],e.refs] _ (by show 2 < _;omega) hfl))<|Dd as'<|Zz<|Sq<|Rg<|Dd mv' ?_
  rw [show ([[⟨#[114,101,102,115]⟩,e.id],e.refs]:List (List ByteArray)).flatten=⟨#[114,101,102,115]⟩::e.id::e.refs by simp]
  have hw:bs (⟨#[114,101,102,115]⟩::e.id::e.refs)=lineW e:=by
   rw [lineW]
   (rw [if_neg h2,if_neg h3,if_pos h4];rfl)
  have hne:e.op≠1:=by omega
  have hj:∀ H,ACalls Tryz.prog 71 [.pv (slStrs (⟨#[114,101,102,115]⟩::e.id::e.refs)),sv ⟨#[32]⟩] H (fun x H'=>x=sv ⟨(gJoinS [32] (bs (⟨#[114,101,102,115]⟩::e.id::e.refs))).toArray⟩∧H'=H):=fun H=>joins_c (⟨#[114,101,102,115]⟩::e.id::e.refs) ⟨#[32]⟩ H (by decide) (by show 1*_+_+_ < _;simp only [sizes_cons,List.length_cons,List.length_nil];omega)
  have hjs:(⟨(gJoinS [32] (bs (⟨#[114,101,102,115]⟩::e.id::e.refs))).toArray⟩:ByteArray).size≤70000:=by
   show (gJoinS [32] (bs (⟨#[114,101,102,115]⟩::e.id::e.refs))).length≤_
   have:=join_size (⟨#[114,101,102,115]⟩::e.id::e.refs)
   simp only [sizes_cons,List.length_cons,List.length_nil] at this
   omega
  have h10:(⟨#[10]⟩:ByteArray).size=1:=rfl
  refine Dd (by exact opr_call rfl rfl Tryz.call71 rfl (hj _))<|Dd (by exact opd_sadd rfl rfl rfl (by omega) rfl)<|Dd as'<|Dd as'<|Zz<|awp_ret ?_
  refine Ru ?_
  rw [join_out hne hw,show lineErr e=0 from if_neg hne]
  exact⟨rfl,rfl⟩
 skip
 have h4:e.op≠4:=of_decide_eq_false hc4
 rw [if_neg h4] at o6
 refine Sq<|Rg<|Dd eql'<|Dd as'<|Zz ?_
 refine Cn (fun hc5=>?_) fun hc5=>?_
 ·skip
  have h5:e.op=5:=of_decide_eq_true hc5
  have hw0:(⟨#[100,114,111,112]⟩:ByteArray).size=4:=rfl
  refine Rg<|Dd (fr' fo51_1)<|Dd (l1' Tryz.isAgg9)<|Dd (by exact x_buildSlice (([⟨#[100,114,111,112]⟩,e.id]:List ByteArray).map encStr) rfl so46 rfl rfl rfl rfl rfl (encStr_rl _))<|Dd as'<|Zz<|Sq<|Rg<|Dd mv' ?_
  have hw:bs [⟨#[100,114,111,112]⟩,e.id]=lineW e:=by
   rw [lineW]
   (rw [if_neg h2,if_neg h3,if_neg h4,if_pos h5];rfl)
  have hne:e.op≠1:=by omega
  have hj:∀ H,ACalls Tryz.prog 71 [.pv (slStrs [⟨#[100,114,111,112]⟩,e.id]),sv ⟨#[32]⟩] H (fun x H'=>x=sv ⟨(gJoinS [32] (bs [⟨#[100,114,111,112]⟩,e.id])).toArray⟩∧H'=H):=fun H=>joins_c [⟨#[100,114,111,112]⟩,e.id] ⟨#[32]⟩ H (by decide) (by show 1*_+_+_ < _;simp only [sizes_cons,List.length_cons,List.length_nil];omega)
  have hjs:(⟨(gJoinS [32] (bs [⟨#[100,114,111,112]⟩,e.id])).toArray⟩:ByteArray).size≤70000:=by
   show (gJoinS [32] (bs [⟨#[100,114,111,112]⟩,e.id])).length≤_
   have:=join_size [⟨#[100,114,111,112]⟩,e.id]
   simp only [sizes_cons,List.length_cons,List.length_nil] at this
   omega
  have h10:(⟨#[10]⟩:ByteArray).size=1:=rfl
  refine Dd (by exact opr_call rfl rfl Tryz.call71 rfl (hj _))<|Dd (by exact opd_sadd rfl rfl rfl (by omega) rfl)<|Dd as'<|Dd as'<|Zz<|awp_ret ?_
  refine Ru ?_
  rw [join_out hne hw,show lineErr e=0 from if_neg hne]
  exact⟨rfl,rfl⟩
 skip
 have h5:e.op≠5:=of_decide_eq_false hc5
 rw [if_neg h5] at o6
 refine Sq<|Rg<|Dd eql'<|Dd as'<|Zz ?_
 refine Cn (fun hc6=>?_) fun hc6=>?_
 ·skip
  have h6:e.op=6:=of_decide_eq_true hc6
  rw [if_pos h6,Bool.and_eq_true] at o6
  have hns:=gName_size o6.1
  have hos:=gName_size o6.2
  have hw0:(⟨#[115,112,108,105,116]⟩:ByteArray).size=5:=rfl
  refine Rg<|Dd (fr' fo51_1)<|Dd (l1' Tryz.isAgg9)<|Dd (fr' fo51_3)<|Dd (l1' Tryz.isAgg9)<|Dd (fr' fo51_2)<|Dd (l1' Tryz.isAgg9)<|Dd (by exact x_buildSlice (([⟨#[115,112,108,105,116]⟩,e.id,e.node,e.other]:List ByteArray).map encStr) rfl so46 rfl rfl rfl rfl rfl (encStr_rl _))<|Dd as'<|Zz<|Sq<|Rg<|Dd mv' ?_
  have hw:bs [⟨#[115,112,108,105,116]⟩,e.id,e.node,e.other]=lineW e:=by
   rw [lineW]
   (rw [if_neg h2,if_neg h3,if_neg h4,if_neg h5,if_pos h6];rfl)
  have hne:e.op≠1:=by omega
  have hj:∀ H,ACalls Tryz.prog 71 [.pv (slStrs [⟨#[115,112,108,105,116]⟩,e.id,e.node,e.other]),sv ⟨#[32]⟩] H (fun x H'=>x=sv ⟨(gJoinS [32] (bs [⟨#[115,112,108,105,116]⟩,e.id,e.node,e.other])).toArray⟩∧H'=H):=fun H=>joins_c [⟨#[115,112,108,105,116]⟩,e.id,e.node,e.other] ⟨#[32]⟩ H (by decide) (by show 1*_+_+_ < _;simp only [sizes_cons,List.length_cons,List.length_nil];omega)
  have hjs:(⟨(gJoinS [32] (bs [⟨#[115,112,108,105,116]⟩,e.id,e.node,e.other])).toArray⟩:ByteArray).size≤70000:=by
   show (gJoinS [32] (bs [⟨#[115,112,108,105,116]⟩,e.id,e.node,e.other])).length≤_
   have:=join_size [⟨#[115,112,108,105,116]⟩,e.id,e.node,e.other]
   simp only [sizes_cons,List.length_cons,List.length_nil] at this
   omega
  have h10:(⟨#[10]⟩:ByteArray).size=1:=rfl
  refine Dd (by exact opr_call rfl rfl Tryz.call71 rfl (hj _))<|Dd (by exact opd_sadd rfl rfl rfl (by omega) rfl)<|Dd as'<|Dd as'<|Zz<|awp_ret ?_
  refine Ru ?_
  rw [join_out hne hw,show lineErr e=0 from if_neg hne]
  exact⟨rfl,rfl⟩
 skip
 have h6:e.op≠6:=of_decide_eq_false hc6
 rw [if_neg h6] at o6
 have hos:=gName_size o6
 have hw0:(⟨#[106,111,105,110]⟩:ByteArray).size=4:=rfl
 refine Rg<|Dd (fr' fo51_1)<|Dd (l1' Tryz.isAgg9)<|Dd (fr' fo51_2)<|Dd (l1' Tryz.isAgg9)<|Dd (by exact x_buildSlice (([⟨#[106,111,105,110]⟩,e.id,e.other]:List ByteArray).map encStr) rfl so46 rfl rfl rfl rfl rfl (encStr_rl _))<|Dd as'<|Zz<|Sq<|Rg<|Dd mv' ?_
 have hw:bs [⟨#[106,111,105,110]⟩,e.id,e.other]=lineW e:=by
  rw [lineW]
  (rw [if_neg h2,if_neg h3,if_neg h4,if_neg h5,if_neg h6];rfl)
 have hne:e.op≠1:=by omega
 have hj:∀ H,ACalls Tryz.prog 71 [.pv (slStrs [⟨#[106,111,105,110]⟩,e.id,e.other]),sv ⟨#[32]⟩] H (fun x H'=>x=sv ⟨(gJoinS [32] (bs [⟨#[106,111,105,110]⟩,e.id,e.other])).toArray⟩∧H'=H):=fun H=>joins_c [⟨#[106,111,105,110]⟩,e.id,e.other] ⟨#[32]⟩ H (by decide) (by show 1*_+_+_ < _;simp only [sizes_cons,List.length_cons,List.length_nil];omega)
 have hjs:(⟨(gJoinS [32] (bs [⟨#[106,111,105,110]⟩,e.id,e.other])).toArray⟩:ByteArray).size≤70000:=by
  show (gJoinS [32] (bs [⟨#[106,111,105,110]⟩,e.id,e.other])).length≤_
  have:=join_size [⟨#[106,111,105,110]⟩,e.id,e.other]
  simp only [sizes_cons,List.length_cons,List.length_nil] at this
  omega
 have h10:(⟨#[10]⟩:ByteArray).size=1:=rfl
 refine Dd (by exact opr_call rfl rfl Tryz.call71 rfl (hj _))<|Dd (by exact opd_sadd rfl rfl rfl (by omega) rfl)<|Dd as'<|Dd as'<|Zz<|awp_ret ?_
 refine Ru ?_
 rw [join_out hne hw,show lineErr e=0 from if_neg hne]
 exact⟨rfl,rfl⟩
theorem readEO_c (s:ByteArray) (H:Heap) (hP:(splitC 32 s.data.toList).headD []=wPut→∀ H s,s.size≤20000→ACalls Tryz.prog 81 [sv s] H (fun r H'=>r=.tup [av (encObj (gParseO s).1),iv (gParseO s).2]∧H'=H)) (hs:s.size≤20000):ACalls Tryz.prog 38 [sv s] H (fun r H'=>r=av (encEdit (gReadE s.data.toList))∧H'=H):=by
 refine ACalls.pure ?_ (by simp) H
 have hsz:=size_list s
 obtain ⟨W,hW⟩:∃ W,W=splitC 32 s.data.toList:=⟨_,rfl⟩
 obtain ⟨w0,hw0⟩:∃ w,w=W.headD []:=⟨_,rfl⟩
 obtain ⟨rs,hrs⟩:∃ r,r=s.data.toList.drop (w0.length+1):=⟨_,rfl⟩
 have hrl:rs.length≤s.size:=by rw [hrs,List.length_drop,hsz];omega
 have hg:gReadE s.data.toList=readW W w0 rs:=by rw [gReadE,← hW,← hw0,← hrs]
 have hC:∃ b,∀ H,ACalls Tryz.prog 80 [sv s,sv sSp] H (fun r H'=>r=.tup [sv (ofL w0),sv (ofL rs),bv b]∧H'=H):=by
  obtain ⟨b,hb⟩:=cutV_eq s
  rw [← hW,← hw0,← hrs] at hb
  exact⟨b,fun H=>by rw [← hb];exact cut_c s H (by omega)⟩
 obtain ⟨b,hC⟩:=hC
 have hSl:(splitS s).length=W.length:=by rw [split_len,hW]
 have hml:((splitS s).map encStr).length=W.length:=by rw [List.length_map,hSl]
 have hSg:∀ i,i < W.length→((splitS s).map encStr)[i]?=some [.str (ofL (W.getD i []))]:=fun i hi=>by
  rw [hW]
  exact map_get (f:=encStr) (split_get s i (by rw [hSl];exact hi))
 have hWs:∀ i,(ofL (W.getD i [])).size≤s.size:=fun i=>by
  rw [ofL_size,List.getD_eq_getElem?_getD]
  cases e:W[i]? with
  | none=>exact Nat.zero_le _
  | some w =>
   have:=split_word 32 (l:=s.data.toList) (w:=w) (by rw [← hW];exact List.mem_of_getElem? e)
   rw [hsz] at this
   exact this
 have hWl:W.length≤s.size+1:=by
  rw [hW,splitC_len]
  have:=List.count_le_length (l:=s.data.toList) (a:=32)
  omega
 have hjl:((splitS s).drop 3).length≤20001:=by rw [List.length_drop,hSl];omega
 have hjs:sizes ((splitS s).drop 3)≤20000*((splitS s).drop 3).length:=sizes_bound (fun w hw=>by
  have hw2:=List.mem_of_mem_drop hw
  rw [splitS,← hW] at hw2
  obtain ⟨x,hx,rfl⟩:=List.mem_map.1 hw2
  have:=split_word 32 (l:=s.data.toList) (w:=x) (by rw [← hW];exact hx)
  show (ofL x).size≤_
  rw [ofL_size]
  omega)
 rw [hg,readW]
 refine Bd Tryz.func38 rfl Tryz.ntmps38<|Sq<|Rg<|Dd (by exact x_alloc (id:=2) rfl zo51 rfl rfl)<|Zz<|Sq<|Rg<|Dd mv'<|Dd (by exact opr_call rfl rfl Tryz.call79 rfl (splitSp_c s _ (by omega)))<|Dd as'<|Zz<|Sq<|Rg<|Dd mv'<|Dd (by exact opr_call rfl rfl Tryz.call80 rfl (hC _))<|Dd mv'<|Dd ex'<|Dd ex'<|Dd ex'<|Dd as'<|Dd as'<|Dd as'<|Zz<|Sq<|awp_block<|Sq<|Rg<|Dd mv'<|Dd se'<|Dd as'<|Zz ?_
 refine Cn (fun hc1=>?_) fun hc1=>?_
 ·skip
  have h1:w0=wPut:=ofL_eq.1 (of_decide_eq_true hc1)
  rw [if_pos h1]
  refine Sq<|Rg<|Dd mv'<|Dd (by exact opr_call rfl rfl Tryz.call81 rfl (hP (by rw [← hW,← hw0];exact h1) _ (ofL rs) (by rw [ofL_size];omega)))<|Dd mv'<|Dd ex'<|Dd ex'<|Dd (by exact x_alloc (id:=7) rfl zo49 rfl rfl)<|Uu (sa' Tryz.sizeOf49)<|Dd as'<|Zz<|Sq<|Rg<|Dd (ln' Tryz.isAgg49 Tryz.sizeOf49)<|Dd (bu' bo51)<|Uu (sa' Tryz.sizeOf51)<|Zz<|awp_ret ?_
  refine aret1 (H':=[]) (.inr rfl) rfl (rl' Tryz.isAgg51 Tryz.sizeOf51) (Fin.wk (r:=av (encEdit ⟨1,sNil,sNil,sNil,0,0,sNil,sNil,[],(gParseO (ofL rs)).1⟩)) (by simp) trivial trivial) ?_
  exact⟨rfl,rfl⟩
 skip
 have h1:¬ w0=wPut:=fun e=>of_decide_eq_false hc1 (ofL_eq.2 e)
 rw [if_neg h1]
 refine Sq ?_
 refine awp_bool (t:=30) (n:=9) (X:=decide (ofL w0=⟨#[109,111,118,101]⟩)&&decide ((((splitS s).map encStr).length:Int)=4)) ?_ ?_
 ·all_goals refine Dd mv' ?_
  all_goals refine Dd se' ?_
  all_goals refine Dd mv' ?_
  all_goals refine Sp 33 (fun h33=>?_) fun h33=>?_
  all_goals try contradiction
  all_goals first|refine Fo ?_|refine On mv' ?_
  all_goals first|refine Fo ?_|refine On (ll' Tryz.underlying46) ?_
  all_goals first|refine Fo ?_|refine On eql' ?_
  all_goals refine Dd pk' ?_
  all_goals refine Dd as' ?_
  all_goals refine al_nil ?_
  all_goals(exact⟨⟨_,rfl,by(simp_all;done)⟩,rfl,rfl,rfl⟩)
 refine Cn (fun hc2=>?_) fun hc2=>?_
 ·skip
  have h2:ofL w0=ofL wMove∧_:=and_t hc2
  rw [ofL_eq,hml] at h2
  rw [if_pos ⟨h2.1,by omega⟩]
  have i1:=hSg 1 (by omega)
  have i2:=hSg 2 (by omega)
  have i3:=hSg 3 (by omega)
  have s2:=hWs 2
  have s3:=hWs 3
  refine Sq ?_
  refine awp_drawc follows ?_
  refine Cr [] (fun _ _=>mv')<|Cr [] (fun _ _=>(xp' so46))<|Cr [] (fun _ _=>(lp' Tryz.isAgg9))<|Cr [] (fun _ _=>mv')<|Cr [] (fun _ _=>(xp' so46))<|Cr [] (fun _ _=>(lp' Tryz.isAgg9))<|Cr [] (fun H1 hH=>by exact opr_call rfl rfl Tryz.call82 rfl (number_c (ofL (W.getD 2 [])) _ (by omega)))<|Cr [] (fun _ _=>mv')<|Cr [] (fun _ _=>(xp' so46))<|Cr [] (fun _ _=>(lp' Tryz.isAgg9))<|Cr [] (fun H1 hH=>by exact opr_call rfl rfl Tryz.call82 rfl (number_c (ofL (W.getD 3 [])) _ (by omega)))<|Cr [] (fun _ _=>(bu' bo45))<|Cr [] (fun _ _=>(bu' bo51))<|Cp [2] (fun H1 hH=>by exact x_store_all rfl Tryz.sizeOf51 rfl rfl rfl rfl ((hH _ rfl).trans rfl) rfl rfl rfl) ?_
  refine dc_nil ⟨by kernel_rfl,?_⟩
  refine awp_ret ?_
  refine aret1 (H':=[]) (.inr rfl) rfl (rl' Tryz.isAgg51 Tryz.sizeOf51) (Fin.wk (r:=av (encEdit ⟨2,ofL (W.getD 1 []),sNil,sNil,numV (W.getD 2 []),numV (W.getD 3 []),sNil,sNil,[],zObj⟩)) (by simp) trivial trivial) ?_
  exact⟨rfl,rfl⟩
 skip
 have h2:¬ (ofL w0=ofL wMove∧_):=and_f hc2
 rw [ofL_eq,hml] at h2
 rw [if_neg (fun h=>h2 ⟨h.1,by omega⟩)]
 refine Sq ?_
 refine awp_bool (t:=51) (n:=9) (X:=decide (ofL w0=⟨#[116,97,103]⟩)&&decide ((3:Int) < (((splitS s).map encStr).length:Int))) ?_ ?_
 ·all_goals refine Dd mv' ?_
  all_goals refine Dd se' ?_
  all_goals refine Dd mv' ?_
  all_goals refine Sp 54 (fun h54=>?_) fun h54=>?_
  all_goals try contradiction
  all_goals first|refine Fo ?_|refine On mv' ?_
  all_goals first|refine Fo ?_|refine On (ll' Tryz.underlying46) ?_
  all_goals first|refine Fo ?_|refine On gt' ?_
  all_goals refine Dd pk' ?_
  all_goals refine Dd as' ?_
  all_goals refine al_nil ?_
  all_goals(exact⟨⟨_,rfl,by(simp_all;done)⟩,rfl,rfl,rfl⟩)
 refine Cn (fun hc3=>?_) fun hc3=>?_
 ·skip
  have h3:ofL w0=ofL wTag∧_:=and_t hc3
  rw [ofL_eq,hml] at h3
  rw [if_pos ⟨h3.1,by omega⟩]
  have i1:=hSg 1 (by omega)
  have i2:=hSg 2 (by omega)
  have hJe:bs ((splitS s).drop 3)=W.drop 3:=by
   rw [bs,splitS,← hW,List.map_drop,List.map_map]
   congr 1
   exact(List.map_congr_left fun x _=>ofL_list x).trans (List.map_id _)
  have hj:∀ H,ACalls Tryz.prog 71 [.pv (slStrs ((splitS s).drop 3)),sv ⟨#[32]⟩] H (fun x H'=>x=sv (ofL (gJoinS [32] (W.drop 3)))∧H'=H):=fun H=>by
   have:=joins_c ((splitS s).drop 3) ⟨#[32]⟩ H (by decide) (by show 1*_+_+_ < _;omega)
   rw [hJe] at this
   exact this
  have hJs:(ofL (gJoinS [32] (W.drop 3))).size < 1099511627776:=by
   have:=join_size ((splitS s).drop 3)
   rw [hJe] at this
   rw [ofL_size]
   omega
  obtain ⟨J,hJ⟩:∃ J,J=ofL (gJoinS [32] (W.drop 3)):=⟨_,rfl⟩
  rw [← hJ] at hJs ⊢
  simp only [← hJ] at hj
  have htl:((gLex J).1.map encTok).length=(gLex J).1.length:=List.length_map _
  refine Sq<|Rg<|Dd mv'<|Dd (by exact x_slice_sl (l:=3) (h:=((splitS s).map encStr).length) (rows':=((splitS s).drop 3).map encStr) rfl so46 rfl (encStr_rlY _) rfl rfl (by omega) (Nat.le_refl _) (by rw [List.take_length];exact List.map_drop.symm))<|Dd (by exact opr_call rfl rfl Tryz.call71 rfl (hj _))<|Dd (by exact opr_call rfl rfl Tryz.call83 rfl (lex_c J _ hJs))<|Dd mv'<|Dd ex'<|Dd ex'<|Dd ex'<|Dd as'<|Dd as'<|Dd as'<|Zz<|Sq<|Rg<|Dd mv'<|Dd (ll' Tryz.underlying133)<|Dd eql'<|Zz ?_
  refine Cn (fun hc4=>?_) fun hc4=>?_
  ·skip
   have h4:(gLex J).1.length=1:=by have:=of_decide_eq_true hc4;omega
   obtain ⟨f,hf⟩:=List.length_eq_one_iff.1 h4
   rw [hf]
   have hf0:([f].map encTok)[0]?=some [.int .i64 f.kind,.str f.text,.int .i64 f.pos]:=rfl
   refine Sq ?_
   refine awp_drawc follows ?_
   refine Cr [] (fun _ _=>mv')<|Cr [] (fun _ _=>(xp' so46))<|Cr [] (fun _ _=>(lp' Tryz.isAgg9))<|Cr [] (fun _ _=>mv')<|Cr [] (fun _ _=>(xp' so46))<|Cr [] (fun _ _=>(lp' Tryz.isAgg9))<|Cr [] (fun _ _=>mv')<|Cr [] (fun _ _=>(xp' so133))<|Cr [] (fun _ _=>(fp' fo137_1))<|Cr [] (fun _ _=>(lp' Tryz.isAgg9))<|Cr [] (fun _ _=>(bu' bo51))<|Cp [2] (fun H1 hH=>by exact x_store_all rfl Tryz.sizeOf51 rfl rfl rfl rfl ((hH _ rfl).trans rfl) rfl rfl rfl) ?_
   refine dc_nil ⟨by kernel_rfl,?_⟩
   refine awp_ret ?_
   refine aret1 (H':=[]) (.inr rfl) rfl (rl' Tryz.isAgg51 Tryz.sizeOf51) (Fin.wk (r:=av (encEdit ⟨3,ofL (W.getD 1 []),sNil,sNil,0,0,ofL (W.getD 2 []),f.text,[],zObj⟩)) (by simp) trivial trivial) ?_
   exact⟨rfl,rfl⟩
  skip
  have h4:(gLex J).1.length≠1:=by have:=of_decide_eq_false hc4;omega
  split
  ·next f hf=>rw [hf] at h4;exact absurd rfl h4
  refine awp_skip<|Sq<|Rg<|Dd (bu' bo51)<|Uu (sa' Tryz.sizeOf51)<|Zz<|awp_ret ?_
  refine aret1 (H':=[]) (.inr rfl) rfl (rl' Tryz.isAgg51 Tryz.sizeOf51) (Fin.wk (r:=av (encEdit eNone)) (by simp) trivial trivial) ?_
  exact⟨rfl,rfl⟩
 skip
 have h3:¬ (ofL w0=ofL wTag∧_):=and_f hc3
 rw [ofL_eq,hml] at h3
 rw [if_neg (fun h=>h3 ⟨h.1,by omega⟩)]
 refine Sq ?_
 refine awp_bool (t:=81) (n:=9) (X:=decide (ofL w0=⟨#[114,101,102,115]⟩)&&decide ((1:Int) < (((splitS s).map encStr).length:Int))) ?_ ?_
 ·all_goals refine Dd mv' ?_
  all_goals refine Dd se' ?_
  all_goals refine Dd mv' ?_
  all_goals refine Sp 84 (fun h84=>?_) fun h84=>?_
  all_goals try contradiction
  all_goals first|refine Fo ?_|refine On mv' ?_
  all_goals first|refine Fo ?_|refine On (ll' Tryz.underlying46) ?_
  all_goals first|refine Fo ?_|refine On gt' ?_
  all_goals refine Dd pk' ?_
  all_goals refine Dd as' ?_
  all_goals refine al_nil ?_
  all_goals(exact⟨⟨_,rfl,by(simp_all;done)⟩,rfl,rfl,rfl⟩)
 refine Cn (fun hc5=>?_) fun hc5=>?_
 ·skip
  have h4:ofL w0=ofL wRefs∧_:=and_t hc5
  rw [ofL_eq,hml] at h4
  rw [if_pos ⟨h4.1,by omega⟩]
  have i1:=hSg 1 (by omega)
  refine Sq ?_
  refine awp_drawc follows ?_
  refine Cr [] (fun _ _=>mv')<|Cr [] (fun _ _=>(xp' so46))<|Cr [] (fun _ _=>(lp' Tryz.isAgg9))<|Cr [] (fun _ _=>mv')<|Cr [] (fun H1 hH=>by exact x_slice_sl (l:=2) (h:=((splitS s).map encStr).length) (rows':=((W.drop 2).map ofL).map encStr) rfl so46 rfl (encStr_rlY _) rfl rfl (by omega) (Nat.le_refl _) (by rw [List.take_length,splitS,← hW,List.map_drop,List.map_drop];rfl))<|Cr [] (fun _ _=>(bu' bo51))<|Cp [2] (fun H1 hH=>by exact x_store_all rfl Tryz.sizeOf51 rfl rfl rfl rfl ((hH _ rfl).trans rfl) rfl rfl rfl) ?_
  refine dc_nil ⟨by kernel_rfl,?_⟩
  refine awp_ret ?_
  refine aret1 (H':=[]) (.inr rfl) rfl (rl' Tryz.isAgg51 Tryz.sizeOf51) (Fin.wk (r:=av (encEdit ⟨4,ofL (W.getD 1 []),sNil,sNil,0,0,sNil,sNil,(W.drop 2).map ofL,zObj⟩)) (by simp) trivial trivial) ?_
  exact⟨rfl,rfl⟩
 skip
 have h4:¬ (ofL w0=ofL wRefs∧_):=and_f hc5
 rw [ofL_eq,hml] at h4
 rw [if_neg (fun h=>h4 ⟨h.1,by omega⟩)]
 refine Sq ?_
 refine awp_bool (t:=95) (n:=9) (X:=decide (ofL w0=⟨#[100,114,111,112]⟩)&&decide ((((splitS s).map encStr).length:Int)=2)) ?_ ?_
 ·all_goals refine Dd mv' ?_
  all_goals refine Dd se' ?_
  all_goals refine Dd mv' ?_
  all_goals refine Sp 98 (fun h98=>?_) fun h98=>?_
  all_goals try contradiction
  all_goals first|refine Fo ?_|refine On mv' ?_
  all_goals first|refine Fo ?_|refine On (ll' Tryz.underlying46) ?_
  all_goals first|refine Fo ?_|refine On eql' ?_
  all_goals refine Dd pk' ?_
  all_goals refine Dd as' ?_
  all_goals refine al_nil ?_
  all_goals(exact⟨⟨_,rfl,by(simp_all;done)⟩,rfl,rfl,rfl⟩)
 refine Cn (fun hc6=>?_) fun hc6=>?_
 ·skip
  have h5:ofL w0=ofL wDrop∧_:=and_t hc6
  rw [ofL_eq,hml] at h5
  rw [if_pos ⟨h5.1,by omega⟩]
  have i1:=hSg 1 (by omega)
  refine Sq<|Rg<|Dd mv'<|Dd (xp' so46)<|Dd (lp' Tryz.isAgg9)<|Dd (bu' bo51)<|Uu (sa' Tryz.sizeOf51)<|Zz<|awp_ret ?_
  refine aret1 (H':=[]) (.inr rfl) rfl (rl' Tryz.isAgg51 Tryz.sizeOf51) (Fin.wk (r:=av (encEdit ⟨5,ofL (W.getD 1 []),sNil,sNil,0,0,sNil,sNil,[],zObj⟩)) (by simp) trivial trivial) ?_
  exact⟨rfl,rfl⟩
 skip
 have h5:¬ (ofL w0=ofL wDrop∧_):=and_f hc6
 rw [ofL_eq,hml] at h5
 rw [if_neg (fun h=>h5 ⟨h.1,by omega⟩)]
 refine Sq ?_
 refine awp_bool (t:=107) (n:=9) (X:=decide (ofL w0=⟨#[115,112,108,105,116]⟩)&&decide ((((splitS s).map encStr).length:Int)=4)) ?_ ?_
 ·all_goals refine Dd mv' ?_
  all_goals refine Dd se' ?_
  all_goals refine Dd mv' ?_
  all_goals refine Sp 110 (fun h110=>?_) fun h110=>?_
  all_goals try contradiction
  all_goals first|refine Fo ?_|refine On mv' ?_
  all_goals first|refine Fo ?_|refine On (ll' Tryz.underlying46) ?_
  all_goals first|refine Fo ?_|refine On eql' ?_
  all_goals refine Dd pk' ?_
  all_goals refine Dd as' ?_
  all_goals refine al_nil ?_
  all_goals(exact⟨⟨_,rfl,by(simp_all;done)⟩,rfl,rfl,rfl⟩)
 refine Cn (fun hc7=>?_) fun hc7=>?_
 ·skip
  have h6:ofL w0=ofL wSplit∧_:=and_t hc7
  rw [ofL_eq,hml] at h6
  rw [if_pos ⟨h6.1,by omega⟩]
  have i1:=hSg 1 (by omega)
  have i2:=hSg 2 (by omega)
  have i3:=hSg 3 (by omega)
  refine Sq ?_
  refine awp_drawc follows ?_
  refine Cr [] (fun _ _=>mv')<|Cr [] (fun _ _=>(xp' so46))<|Cr [] (fun _ _=>(lp' Tryz.isAgg9))<|Cr [] (fun _ _=>mv')<|Cr [] (fun _ _=>(xp' so46))<|Cr [] (fun _ _=>(lp' Tryz.isAgg9))<|Cr [] (fun _ _=>mv')<|Cr [] (fun _ _=>(xp' so46))<|Cr [] (fun _ _=>(lp' Tryz.isAgg9))<|Cr [] (fun _ _=>(bu' bo51))<|Cp [2] (fun H1 hH=>by exact x_store_all rfl Tryz.sizeOf51 rfl rfl rfl rfl ((hH _ rfl).trans rfl) rfl rfl rfl) ?_
  refine dc_nil ⟨by kernel_rfl,?_⟩
  refine awp_ret ?_
  refine aret1 (H':=[]) (.inr rfl) rfl (rl' Tryz.isAgg51 Tryz.sizeOf51) (Fin.wk (r:=av (encEdit ⟨6,ofL (W.getD 1 []),ofL (W.getD 3 []),ofL (W.getD 2 []),0,0,sNil,sNil,[],zObj⟩)) (by simp) trivial trivial) ?_
  exact⟨rfl,rfl⟩
 skip
 have h6:¬ (ofL w0=ofL wSplit∧_):=and_f hc7
 rw [ofL_eq,hml] at h6
 rw [if_neg (fun h=>h6 ⟨h.1,by omega⟩)]
 refine Sq ?_
 refine awp_bool (t:=125) (n:=9) (X:=decide (ofL w0=⟨#[106,111,105,110]⟩)&&decide ((((splitS s).map encStr).length:Int)=3)) ?_ ?_
 ·all_goals refine Dd mv' ?_
  all_goals refine Dd se' ?_
  all_goals refine Dd mv' ?_
  all_goals refine Sp 128 (fun h128=>?_) fun h128=>?_
  all_goals try contradiction
  all_goals first|refine Fo ?_|refine On mv' ?_
  all_goals first|refine Fo ?_|refine On (ll' Tryz.underlying46) ?_
  all_goals first|refine Fo ?_|refine On eql' ?_
  all_goals refine Dd pk' ?_
  all_goals refine Dd as' ?_
  all_goals refine al_nil ?_
  all_goals(exact⟨⟨_,rfl,by(simp_all;done)⟩,rfl,rfl,rfl⟩)
 refine Cn (fun hc8=>?_) fun hc8=>?_
 ·skip
  have h7:ofL w0=ofL wJoin∧_:=and_t hc8
  rw [ofL_eq,hml] at h7
  rw [if_pos ⟨h7.1,by omega⟩]
  have i1:=hSg 1 (by omega)
  have i2:=hSg 2 (by omega)
  refine Sq ?_
  refine awp_drawc follows ?_
  refine Cr [] (fun _ _=>mv')<|Cr [] (fun _ _=>(xp' so46))<|Cr [] (fun _ _=>(lp' Tryz.isAgg9))<|Cr [] (fun _ _=>mv')<|Cr [] (fun _ _=>(xp' so46))<|Cr [] (fun _ _=>(lp' Tryz.isAgg9))<|Cr [] (fun _ _=>(bu' bo51))<|Cp [2] (fun H1 hH=>by exact x_store_all rfl Tryz.sizeOf51 rfl rfl rfl rfl ((hH _ rfl).trans rfl) rfl rfl rfl) ?_
  refine dc_nil ⟨by kernel_rfl,?_⟩
  refine awp_ret ?_
  refine aret1 (H':=[]) (.inr rfl) rfl (rl' Tryz.isAgg51 Tryz.sizeOf51) (Fin.wk (r:=av (encEdit ⟨7,ofL (W.getD 1 []),ofL (W.getD 2 []),sNil,0,0,sNil,sNil,[],zObj⟩)) (by simp) trivial trivial) ?_
  exact⟨rfl,rfl⟩
 skip
 have h7:¬ (ofL w0=ofL wJoin∧_):=and_f hc8
 rw [ofL_eq,hml] at h7
 rw [if_neg (fun h=>h7 ⟨h.1,by omega⟩)]
 refine awp_skip<|Sq<|Rg<|Dd (bu' bo51)<|Uu (sa' Tryz.sizeOf51)<|Zz<|awp_ret ?_
 refine aret1 (H':=[]) (.inr rfl) rfl (rl' Tryz.isAgg51 Tryz.sizeOf51) (Fin.wk (r:=av (encEdit eNone)) (by simp) trivial trivial) ?_
 exact⟨rfl,rfl⟩
theorem textCO_c (l:List GEdit) (H:Heap) (hO:∀ e∈l,e.op=1→∀ H,ACalls Tryz.prog 67 [av (encObj e.obj)] H (fun r H'=>r=.tup [sv (gObjT e.obj).1,iv (gObjT e.obj).2]∧H'=H)) (hl:l.length < 4611686018427387904) (he:∀ e∈l,okE e):ACalls Tryz.prog 11 [.pv (slEdits l)] H (fun r H'=>r=.tup [sv (gTextC l).1,iv (gTextC l).2]∧H'=H):=by
 refine ACalls.pure ?_ (by simp) H
 have hml:(l.map encEdit).length=l.length:=List.length_map _
 refine Bd Tryz.func11 rfl Tryz.ntmps11<|Sq<|Rg<|Dd as'<|Dd as'<|Zz<|Sq<|Sq<|Rg<|Dd mv'<|Dd (by exact opr_call rfl rfl Tryz.call15 rfl (changeValid_c l _ hl he))<|Dd no'<|Zz ?_
 refine Cn (fun hc1=>?_) fun hc1=>?_
 ·skip
  have hg:gChange l=false:=by have h:=hc1;rwa [Bool.not_eq_true'] at h
  rw [show gTextC l=(sNil,1)by rw [gTextC,hg];rfl]
  refine Sq<|Rg<|Dd as'<|Dd as'<|Zz<|awp_ret ?_
  refine Ru ?_
  exact⟨rfl,rfl⟩
 skip
 have hg:gChange l=true:=by have h:=hc1;rwa [Bool.not_eq_false'] at h
 have hv:=(gChange_of hg).2
 have hT:gTextC l=(ofL (textF [] l).1,(textF [] l).2):=by rw [gTextC,if_pos hg]
 refine awp_skip<|Sq<|Rg<|Dd (by exact x_alloc (id:=2001) rfl zoN62 rfl rfl)<|Zz<|Sq<|Sq ?_
 refine AWp.ent (E':=[(0,.pv (slEdits l)),(4,.ref 2001 0 0 0)]) (H':=[(2002,⟨0,1,5,[]⟩),(2001,bObT (.osl 2002 0 0 0) false)]) (Ent.nz 2002 1 5 rfl rfl ⟨⟨_,rfl,(by exact Nz.same (by(simp;done)))⟩,⟨_,rfl,(by exact Nz.same (by(simp;rfl)))⟩,trivial⟩ ⟨⟨_,rfl,rfl,rfl,rfl,(by exact .inr ⟨_,_,rfl,rfl,(by repeat(first|exact trivial|refine⟨(by first|exact Nz.own|exact Nz.same (by(simp;done))),?_⟩))⟩)⟩,trivial⟩ trivial) ?_
 refine Rg<|Dd mv'<|Dd (ll' Tryz.underlying22)<|Dd mv'<|Zz<|awp_block ?_
 refine awp_loop (σ:=Nat) (fun k=>([(4,.ref 2001 0 0 0),(12,.pv (slEdits l)),(13,iv ((l.map encEdit).length:Int)),(14,iv (k:Int))],[(2001,bldA (accC l k) k (uK k)),(2002,bldD (accC l k) k)])) (fun k=>k≤l.length∧textF [] l=textF (accC l k) (l.drop k)∧(accC l k).length≤20000) (fun k=>l.length - k) 0 ⟨Nat.zero_le _,rfl,Nat.zero_le _⟩ ?_ ?_
 ·exact(Ent.wk (Ea<|Eb<|Eb<|Eb<|trivial) (Hc (bOb_cloT rfl rfl)<|Hc (brows_clo _ _)<|trivial) trivial)
 rintro k ⟨hk,hF,hA⟩
 refine Sq<|Rg<|Dd lss'<|Zz<|Sq ?_
 refine Cn (fun hc2=>?_) fun hc2=>?_
 ·skip
  have hlt:k < l.length:=by have:=of_decide_eq_true hc2;omega
  obtain ⟨e,hke⟩:=get_of_lt hlt
  have hi:=map_get (f:=encEdit) hke
  have hem:=List.mem_of_getElem? hke
  have hnx:=accC_next hke
  have hYl:=lineY_len (hv e hem)
  have hdr:l.drop k=e::l.drop (k+1):=by
   rw [List.drop_eq_getElem_cons hlt]
   rw [List.getElem?_eq_getElem hlt] at hke
   cases hke
   rfl
  rw [hdr,textF] at hF
  have hsz:(ofL (lineY e++[10])).size=(lineY e).length+1:=by rw [ofL_size,List.length_append];rfl
  have hbl:bld (k+1) (accC l k++(ofL (lineY e++[10])).data.toList) true=bld (k+1) (accC l (k+1)) true:=by rw [ofL_list,hnx]
  have hnl:(accC l (k+1)).length=(accC l k).length+((lineY e).length+1):=by rw [hnx,List.length_append,List.length_append];rfl
  have hw:∀ H,H.get 2001=some (bldA (accC l k) k (uK k))→H.get 2002=some (bldD (accC l k) k)→ACalls Tryz.prog 33 [.ref 2001 0 0 0,sv (ofL (lineY e++[10]))] H (fun r H'=>r=.tup [iv ((ofL (lineY e++[10])).size:Int),.pv nilI]∧H'=bld (k+1) (accC l (k+1)) true++H):=fun H h1 h2=>by
   have:=wrB_f (H:=H) (ofL (lineY e++[10])) h1 h2 (by omega)
   rwa [hbl] at this
  refine awp_skip<|Sq<|awp_block<|Sq<|Rg<|Dd (xp' so22)<|Dd (by exact opd_loadn_pad rfl Tryz.isAgg51 Tryz.sizeOf51 rfl (by omega) rfl rfl)<|Dd (by exact x_alloc (id:=6) rfl zo51 rfl rfl)<|Uu (sa' Tryz.sizeOf51)<|Zz<|Sq<|Rg<|Dd (ln' Tryz.isAgg51 Tryz.sizeOf51)<|Dd (by exact opr_call rfl rfl Tryz.call32 rfl (lineO_c e _ (hO e hem) (he e hem) (hv e hem)))<|Dd mv'<|Dd ex'<|Dd ex'<|Dd as'<|Dd as'<|Zz<|Sq<|Rg<|Dd mv'<|Dd (by exact opr_call rfl rfl Tryz.call33 rfl (hw _ rfl rfl))<|Zz<|Sq ?_
  refine awp_bool (t:=30) (n:=7) (X:=!decide (lineErr e=0)||decide ((20000:Int) < ((accC l (k+1)).length:Int))) ?_ ?_
  ·all_goals refine Dd mv' ?_
   all_goals refine Dd ne' ?_
   all_goals refine Dd mv' ?_
   all_goals refine Sp 27 (fun h27=>?_) fun h27=>?_
   all_goals try contradiction
   all_goals first|refine Fo ?_|refine On (by exact opr_call rfl rfl Tryz.call34 rfl (lenB_f (l:=accC l (k+1)) (g:=k+1) (u:=true) rfl rfl)) ?_
   all_goals first|refine Fo ?_|refine On gt' ?_
   all_goals refine Dd pk' ?_
   all_goals refine al_nil ?_
   all_goals(exact⟨⟨_,rfl,by(simp only [*,Zo];done)⟩,rfl,rfl,rfl⟩)
  refine Cn (fun hc3=>?_) fun hc3=>?_
  ·skip
   have hbad:lineErr e≠0∨20000 < (accC l k++(lineY e++[10])).length:=by have h:=hc3;rw [← hnx];simp only [Bool.or_eq_true,Bool.not_eq_true',decide_eq_false_iff_not,decide_eq_true_eq] at h;omega
   rw [if_pos hbad] at hF
   rw [hT,hF]
   refine Sq<|Rg<|Dd as'<|Dd as'<|Zz<|awp_ret ?_
   refine Ru ?_
   exact⟨rfl,rfl⟩
  skip
  have hfine:¬ (lineErr e≠0∨20000 < (accC l k++(lineY e++[10])).length):=by have h:=hc3;rw [← hnx];simp only [Bool.or_eq_false_iff,Bool.not_eq_false',decide_eq_false_iff_not,decide_eq_true_eq] at h;omega
  rw [if_neg hfine,← hnx] at hF
  rw [← hnx] at hfine
  refine awp_skip<|Rg<|Dd ad'<|Dd mv'<|Zz ?_
  exact⟨k+1,⟨hlt,hF,by omega⟩,by omega,(Ent.wk (Ea<|Eb<|Eb<|Eb<|trivial) (Hc (bOb_cloT rfl rfl)<|Hc (brows_clo _ _)<|trivial) trivial)⟩
 skip
 have hge:k=l.length:=by have:=of_decide_eq_false hc2;omega
 subst hge
 rw [List.drop_length,textF] at hF
 rw [hT,hF]
 refine awp_exit<|Sq<|Rg<|Dd (by exact opr_call rfl rfl Tryz.call35 rfl (strB_f (l:=accC l l.length) (g:=l.length) (u:=uK l.length) rfl rfl (by omega)))<|Dd as'<|Dd as'<|Zz<|awp_ret ?_
 refine Ru ?_
 exact⟨rfl,rfl⟩
theorem parseCO_c (t:ByteArray) (H:Heap) (hR:∀ k,k < (linesS t).length→(splitC 32 (trimB (lineA (restA t k))).data.toList).headD []=wPut→∀ H s,s.size≤20000→ACalls Tryz.prog 81 [sv s] H (fun r H'=>r=.tup [av (encObj (gParseO s).1),iv (gParseO s).2]∧H'=H)) (hO:∀ e∈lnsE t (linesS t).length,e.op=1→∀ H,ACalls Tryz.prog 67 [av (encObj e.obj)] H (fun r H'=>r=.tup [sv (gObjT e.obj).1,iv (gObjT e.obj).2]∧H'=H)) (hs:t.size < 1099511627776):ACalls Tryz.prog 13 [sv t] H (fun r H'=>r=.tup [.pv (slEdits (gParseC t).1),iv (gParseC t).2]∧H'=H):=by
 refine ACalls.pure ?_ (by simp) H
 rw [gParseC,← lnsE_all]
 refine Bd Tryz.func13 rfl Tryz.ntmps13<|Sq<|Rg<|Dd as'<|Dd as'<|Zz<|Sq<|Sq<|Rg<|Dd mv'<|Dd (ls' Tryz.underlying9)<|Dd gt'<|Zz ?_
 refine Cn (fun hc1=>?_) fun hc1=>?_
 ·skip
  have h2:20000 < t.size:=by have:=of_decide_eq_true hc1;omega
  rw [if_pos h2]
  refine Sq<|Rg<|Dd as'<|Dd as'<|Zz<|awp_ret ?_
  refine Ru ?_
  exact⟨rfl,rfl⟩
 skip
 have h2:¬ 20000 < t.size:=by have:=of_decide_eq_false hc1;omega
 rw [if_neg h2]
 refine awp_skip<|Sq<|Rg<|Dd (by exact x_alloc (id:=4) rfl zoN22 rfl rfl)<|Zz<|Sq<|Sq<|Rg<|Dd mv'<|Dd (by exact opr_call rfl rfl Tryz.call37 rfl (lines_c t _ rfl))<|Zz<|awp_block ?_
 obtain ⟨n,hn⟩:∃ n,n=(linesS t).length:=⟨_,rfl⟩
 have hnl:n≤20000:=by rw [hn];exact lines_len (by omega)
 refine AWp.ent (E':=[(0,sv t),(4,.ref 4 0 0 0),(12,.clo 77 [.ref 933 0 0 0])]) (H':=[(905,⟨0,15,51,[]⟩),(933,lB t),(4,bx 1 22 [.osl 905 0 0 0])]) ?_ ?_
 ·exact(Ent.nz 905 15 51 rfl rfl ⟨⟨_,rfl,(by exact Nz.same (by(simp;done)))⟩,⟨_,rfl,(by exact Nz.same (by(simp;rfl)))⟩,⟨_,rfl,(by exact Nz.same (by(simp;rfl)))⟩,trivial⟩ ⟨⟨_,rfl,rfl,rfl,rfl,(by exact .inl ⟨rfl,(by exact lB_clo _ _)⟩)⟩,⟨_,rfl,rfl,rfl,rfl,(by exact .inr ⟨_,_,rfl,rfl,(by repeat(first|exact trivial|refine⟨(by exact Nz.own),?_⟩))⟩)⟩,trivial⟩ trivial)
 refine AWp.ent (E':=[(0,sv t),(4,.ref 4 0 0 0),(12,.clo 77 [.ref 933 0 0 0])]) (H':=pcK t t 0) (Ent.wk (Eb<|Ea<|Ea<|trivial) (Hc (lB_clo _ _)<|Hc (eRows_clo _ _)<|Ha<|trivial) trivial) ?_
 refine awp_range (id:=904) (p:=13) (pcE t) rfl Tryz.call77 rfl rfl (by simp [pcE];exact⟨rfl,rfl⟩) ?_
 intro x hx1 hx2 hx3 hx4 hx5 hx6
 have hround:∀ k,k < n→CallsV Tryz.prog (.yld 904 0) [sv (lineA (restA t k))] ((904,LR x (pcE t))::pcK t (restA t (k+1)) k) (fun r H'=>r=bv true∧H'=(904,LR x (pcE t))::pcK t (restA t (k+1)) (k+1)):=by
  intro k hk
  have hnx:=lnsE_next t k
  have hll:=lnsE_len t k
  have hls:=lineA_small (t:=t) (k:=k) (by omega)
  have hla:(lineA (restA t k)).size≤t.size:=Nat.le_trans (lineA_size _) (rest_drop t k (by omega)).2
  refine .inl ⟨904,0,rfl,?_⟩
  refine ycalls [(0,sv t),(4,.ref 4 0 0 0),(5,sv (lineA (restA t k)))] (pcK t (restA t (k+1)) k) hx1 hx2 hx3 hx4 hx5 hx6 rfl rfl rfl ?_ ?_
  ·skip
   refine Rg<|Dd as'<|Zz ?_
   exact(Ent.wk (Eb<|Ea<|Eb<|trivial) (Hc (LR_clo (by simp [pcE];rfl))<|Hc (lB_clo _ _)<|Hc (eRows_clo _ _)<|Ha<|trivial) ⟨rfl,rfl,rfl,rfl,trivial⟩)
  skip
  refine awp_block ?_
  refine awp_drawc follows ?_
  refine dc_cons (r:=⟨_,none,[]⟩) (DStep.plain rfl (fun H1 hH=>by exact(by exact opd_load1_ref rfl Tryz.isAgg22 rfl ((hH _ rfl).trans rfl) rfl rfl rfl))) rfl ?_
  refine dc_cons (r:=⟨_,none,[]⟩) (DStep.plain rfl (fun H1 hH=>by exact opd_move rfl rfl)) rfl ?_
  refine dc_cons (r:=⟨_,none,[]⟩) (DStep.plain rfl (fun H1 hH=>by exact opr_call rfl rfl Tryz.call39 rfl (trim_c (lineA (restA t k)) _ (by omega)))) rfl ?_
  refine dc_cons (r:=⟨_,none,[]⟩) (DStep.plain rfl (fun H1 hH=>by exact opr_call rfl rfl Tryz.call38 rfl (readEO_c (trimB (lineA (restA t k))) _ (hR k (by omega)) (by omega)))) rfl ?_
  refine dc_cons (r:=⟨_,none,[]⟩) (DStep.plain rfl (fun H1 hH=>by exact(by exact x_buildSlice [encEdit (lnE t k)] rfl so22 rfl rfl rfl rfl rfl (by intro r hr;rw [List.mem_singleton] at hr;subst hr;rfl)))) rfl ?_
  refine dc_cons (r:=⟨_,none,[_]⟩) (DStep.plain rfl (fun H1 hH=>by exact x_append (ps:=[encEdit (lnE t k)]) rfl so22 ei51 rfl ((hH _ rfl).trans rfl) rfl rfl rfl ((eRows_len _).trans hll) rfl (by intro r hr;rw [List.mem_singleton] at hr;subst hr;rfl) (m:=1) rfl (by omega) rfl (eRows_app (lnsE t k) (lnE t k)))) rfl ?_
  refine dc_cons (r:=⟨_,none,[_]⟩) (DStep.plain rfl (fun H1 hH=>by exact(by exact x_store_all rfl Tryz.sizeOf22 rfl rfl rfl rfl ((hH _ rfl).trans rfl) rfl rfl rfl))) rfl ?_
  refine dc_nil ⟨by kernel_rfl,?_⟩
  exact⟨[(933,lB (restA t (k+1))),(905,⟨k+1,15,51,eRows (lnsE t k++[lnE t k])⟩),(4,bx 1 22 [.osl 905 (k+1) 0 (k+1)])],(Ent.wk trivial (Hc (LR_clo (by simp [pcE];rfl))<|Hc (lB_clo _ _)<|Hc (eRows_clo _ _)<|Ha<|trivial) ⟨rfl,rfl,rfl,rfl,trivial⟩),rfl,by rw [← hnx];rfl⟩
 refine(lines1_c t (.yld 904 0) (fun k=>(904,LR x (pcE t))::pcK t (restA t k) k) hs (fun k=>rfl) (fun k hk=>?_)).mono ?_
 ·exact CallsV.congrG (hround k (by omega)) (fun j=>get_shY j) (fun j=>rfl)
 rintro r H' ⟨rfl,rfl⟩
 refine⟨x,_,rfl,by rw [hx1];decide,rfl,fun z=>?_⟩
 rw [hx2]
 obtain ⟨L,hL⟩:∃ L,L=lnsE t n:=⟨_,rfl⟩
 have hLl:L.length=n:=by rw [hL];exact lnsE_len t n
 rw [← hn,← hL]
 have hok:∀ e∈L,okE e:=fun e he=>by
  rw [hL,lnsE] at he
  obtain ⟨k,hk,rfl⟩:=List.mem_map.1 he
  have:=lineA_small (t:=t) (k:=k) (by have:=List.mem_range.1 hk;omega)
  exact gReadE_ok (by rw [size_list];omega)
 refine Sq<|Sq ?_
 refine AWp.ent (Ent.fzG (id:=905) (E':=[(0,sv t),(4,.ref 4 0 0 0)]) (H':=[(4,bx 1 22 [.pv (slEdits L)])]) (L.map encEdit) rfl (by rw [hL];exact rows_ofY encEdit _) ?_ rfl ?_ ?_) ?_
 ·intro p hp
  simp only [List.mem_cons,List.not_mem_nil,or_false] at hp
  rcases hp with rfl|rfl<;>exact⟨_,rfl,.same (by simp;try rfl)⟩
 ·exact⟨⟨_,rfl,rfl,rfl,rfl,fzr_one rfl (fz_cons (.osl (by rw [← hLl];exact take_rows encEdit L)) fz_nil)⟩,trivial⟩
 ·exact trivial
 refine Rg<|Dd (l1' Tryz.isAgg22)<|Dd (by exact opr_call rfl rfl Tryz.call11 rfl (textCO_c L _ (by rw [hL,hn];exact hO) (by omega) hok))<|Dd mv'<|Dd ex'<|Dd ex'<|Dd as'<|Dd as'<|Zz<|Sq ?_
 refine awp_bool (t:=31) (n:=8) (X:=!decide ((gTextC L).2=0)||!decide ((gTextC L).1=t)) ?_ ?_
 ·all_goals refine Dd mv' ?_
  all_goals refine Dd ne' ?_
  all_goals refine Dd mv' ?_
  all_goals refine Sp 27 (fun h27=>?_) fun h27=>?_
  all_goals try contradiction
  all_goals first|refine Fo ?_|refine On mv' ?_
  all_goals first|refine Fo ?_|refine On mv' ?_
  all_goals first|refine Fo ?_|refine On sn' ?_
  all_goals refine Dd pk' ?_
  all_goals refine al_nil ?_
  all_goals(exact⟨⟨_,rfl,by(simp_all;done)⟩,rfl,rfl,rfl⟩)
 refine Cn (fun hc2=>?_) fun hc2=>?_
 ·skip
  have hne:gTextC L≠(t,0):=fun e=>by have h:=hc2;rw [e] at h;simp at h
  rw [if_neg hne]
  refine Sq<|Rg<|Dd as'<|Dd as'<|Zz<|awp_ret ?_
  refine Ru ?_
  exact⟨rfl,rfl⟩
 skip
 have hee:gTextC L=(t,0):=by have h:=hc2;simp only [Bool.or_eq_false_iff,Bool.not_eq_false',decide_eq_true_eq] at h;exact Prod.ext h.2 h.1
 rw [if_pos hee]
 refine awp_skip<|Sq<|Rg<|Dd (l1' Tryz.isAgg22)<|Dd as'<|Dd as'<|Zz<|awp_ret ?_
 refine Ru ?_
 exact⟨rfl,rfl⟩
end
section
theorem lnsY:lnsE (t1Y++t2Y) (linesS (t1Y++t2Y)).length=[eMv,eTg]:=by
 rw [lnsE_all]
 kernel_rfl
theorem lnY2:(linesS (t1Y++t2Y)).length=2:=by kernel_rfl
theorem hdY (k:Nat) (hk:k < 2):¬ (splitC 32 (trimB (lineA (restA (t1Y++t2Y) k))).data.toList).headD []=wPut:=by
 have h:k=0∨k=1:=by omega
 rcases h with rfl|rfl
 ·have h1:(splitC 32 (trimB (lineA (restA (t1Y++t2Y) 0))).data.toList).headD []=[109,111,118,101]:=by kernel_rfl
  rw [h1]
  decide
 have h1:(splitC 32 (trimB (lineA (restA (t1Y++t2Y) 1))).data.toList).headD []=[116,97,103]:=by kernel_rfl
 rw [h1]
 decide
theorem noput {l:List GEdit} {Q:GEdit→Prop} (h:l.all (fun e=>!decide (e.op=1))=true):∀ e∈l,e.op=1→Q e:=fun e he h1=>by
 have:=List.all_eq_true.1 h e he
 rw [decide_eq_true h1] at this
 cases this
theorem head22s_c (H:Heap):ACalls Tryz.prog 9 [] H (fun r H'=>r=bv true∧H'=H):=by
 have hT1:∀ H,ACalls Tryz.prog 11 [.pv (slEdits [eMv])] H (fun r H'=>r=.tup [sv t1Y,iv 0]∧H'=H):=fun H=>by
  have:=textCO_c [eMv] H (noput rfl) (by decide) (fun e he=>okE_l2 e (List.mem_cons.2 (.inl (List.mem_singleton.1 he))))
  rw [ht1Y] at this
  exact this
 have hT2:∀ H,ACalls Tryz.prog 11 [.pv (slEdits [eTg])] H (fun r H'=>r=.tup [sv t2Y,iv 0]∧H'=H):=fun H=>by
  have:=textCO_c [eTg] H (noput rfl) (by decide) (fun e he=>okE_l2 e (List.mem_cons_of_mem _ he))
  rw [ht2Y] at this
  exact this
 have hP:∀ H,ACalls Tryz.prog 13 [sv (t1Y++t2Y)] H (fun r H'=>r=.tup [.pv (slEdits [eMv,eTg]),iv 0]∧H'=H):=fun H=>by
  have:=parseCO_c (t1Y++t2Y) H (fun k hk h=>absurd h (hdY k (by rw [lnY2] at hk;exact hk))) (by rw [lnsY];exact noput rfl) (by decide)
  rw [hp1Y] at this
  exact this
 exact head22_of hT1 hT2 hP allY_c H
end
section
theorem tagL_same {o:GObj} (h:gTags o.tags=true):tagL o o=[]:=by
 obtain ⟨_,h2,_⟩:=gTags_iff.1 h
 have e1:tagDel o o=[]:=by
  rw [tagDel,List.filter_eq_nil_iff]
  intro t ht
  rw [gGet_of h2 (k:=t.key) (v:=t.val) ht]
  simp
 have e2:tagNew o o=[]:=by
  rw [tagNew,List.filter_eq_nil_iff]
  intro t ht
  rw [inT_iff.2 ht]
  decide
 rw [tagL,e1,e2]
 rfl
theorem rnL_none {b:List GObj}:∀ {L:List GObj},(∀ o∈L,direct b o=false)→rnL b [] L=[]
 | [],_=>rfl
 | o::L,h=>by
  have e:rnB b [] o=false:=by
   rw [rnB,h o List.mem_cons_self,Bool.false_or,List.any_eq_false]
   intro s _
   rw [inB_iff]
   exact List.not_mem_nil
  rw [rnL,e,if_neg (by decide)]
  exact rnL_none fun x hx=>h x (List.mem_cons_of_mem _ hx)
theorem between_nil {a b:List GObj} (ha:closedB a=true) (hb:closedB b=true) (hl:a.length≤999000):betL a b=[]↔a=b:=by
 constructor
 ·intro h
  have:=between_run ha hb (by rw [h,List.length_nil];omega)
  rw [h] at this
  cases this
  rfl
 rintro rfl
 obtain ⟨g1,hu,_⟩:=gMap_iff.1 (closed_gMap ha)
 have hk:∀ o∈a,1≤o.kind∧o.kind≤5:=fun o ho=>gObj_kind (g1 o ho)
 have hX:renewed a a=[]:=rnL_none fun o ho=>by
  rw [direct,mem_look hu ((mem_layL hk).1 ho)]
  simp
 have hin:∀ s,inB (renewed a a) s=false:=fun s=>by
  cases e:inB (renewed a a) s with
  | false=>rfl
  | true=>rw [inB_iff,hX] at e;cases e
 have e1:bFirst a a=[]:=by rw [bFirst,List.filter_eq_nil_iff];intro o _;rw [hin];decide
 have e2:bPuts a a=[]:=by rw [bPuts,List.filter_eq_nil_iff];intro o ho;rw [hin,mem_look hu ((mem_layL hk).1 ho)];simp
 have e3:bLast a a=[]:=by rw [bLast,List.filter_eq_nil_iff];intro o ho;rw [mem_look hu ((mem_layL hk).1 ho)];simp
 have hB:∀ k∈bBoth a a,k.1=k.2∧gTags k.1.tags=true:=fun k hk2=>by
  obtain ⟨h1,h2,_⟩:=mem_both.1 hk2
  rw [mem_look hu h1] at h2
  have h3:k.2=k.1:=Option.some.inj h2
  exact⟨h3.symm,by rw [← h3];exact(gObj_len (g1 _ h1)).2.2.1⟩
 have hf:∀ g:GObj×GObj→List GEdit,(∀ k∈bBoth a a,g k=[])→(bBoth a a).flatMap g=[]:=fun g hg=>List.flatMap_eq_nil_iff.2 hg
 rw [betL,e1,e2,e3,hf stMove fun k hk2=>by rw [stMove,if_pos ⟨by rw [(hB k hk2).1],by rw [(hB k hk2).1]⟩],hf stRefs fun k hk2=>by rw [stRefs,if_pos (by rw [(hB k hk2).1])],hf stTags fun k hk2=>by
  obtain ⟨h1,h2⟩:=hB k hk2
  rw [stTags,← h1,tagL_same h2]
  rfl]
 rfl
theorem renewed_turn {a b:List GObj} (ha:closedB a=true) (hn:∀ o∈a,∀ p,look b o.id=some p→p.kind=o.kind):∀ (n:Nat) (o:GObj),o∈a→o.kind.tdiv 2 < (n:Int)→o.id∈renewed a b→direct b o=true
 | 0,o,ho,h,_=>by
  have:=gObj_kind ((gMap_iff.1 (closed_gMap ha)).1 o ho)
  have h0:0≤o.kind.tdiv 2:=Int.tdiv_nonneg (by omega) (by decide)
  omega
 | n+1,o,ho,h,hX=>by
  rcases(renewed_iff ha ho).1 hX with h1|⟨s,hs,hsX⟩
  ·exact h1
  have hk:=gObj_kind ((gMap_iff.1 (closed_gMap ha)).1 o ho)
  obtain ⟨z,hz,rfl⟩:=renewed_sub (fun o ho=>gObj_kind ((gMap_iff.1 (closed_gMap ha)).1 o ho)) hsX
  have hd:=renewed_turn ha hn n z hz (by have:=ref_low ha ho hz hs;omega) hsX
  have hz5:=ref_kind ha ho hz hs
  rw [direct] at hd
  cases hl:look b z.id with
  | none=>rw [hl] at hd;cases hd
  | some p =>
   rw [hl] at hd
   have:=hn z hz p hl
   simp only [this,decide_true,Bool.not_true,Bool.false_or,Bool.and_eq_true,decide_eq_true_eq] at hd
   omega
/-- Without changes of kinds, no edit writes an object that stays as it is. -/
theorem between_writes {a b:List GObj} (ha:closedB a=true) (hb:closedB b=true) (hn:∀ o∈a,∀ p,look b o.id=some p→p.kind=o.kind) {e:GEdit} (he:e∈betL a b) {s:ByteArray} (hs:s∈gWrites e) {x y:GObj} (hx:look a s=some x) (hy:look b s=some y):x≠y:=by
 obtain ⟨g1,hu,_⟩:=gMap_iff.1 (closed_gMap ha)
 obtain ⟨g2,hub,_⟩:=gMap_iff.1 (closed_gMap hb)
 have hk:∀ o∈a,1≤o.kind∧o.kind≤5:=fun o ho=>gObj_kind (g1 o ho)
 have hkb:∀ o∈b,1≤o.kind∧o.kind≤5:=fun o ho=>gObj_kind (g2 o ho)
 have hX:s∈renewed a b→x≠y:=fun h=>by
  have hid:=look_id hx
  have hd:=renewed_turn ha hn (x.kind.tdiv 2).toNat.succ x (look_mem hx) (by have:=gObj_kind (g1 x (look_mem hx));have h0:0≤x.kind.tdiv 2:=Int.tdiv_nonneg (by omega) (by decide);omega) (by rw [hid];exact h)
  rintro rfl
  rw [direct,hid,hy] at hd
  simp at hd
 have hB:∀ k∈bBoth a b,s=k.1.id→x=k.1∧y=k.2:=fun k hk2 e=>by
  obtain ⟨q1,q2,q3,_⟩:=both_facts ha hb hk2
  subst e
  rw [mem_look hu q1] at hx
  rw [q3,mem_look hub q2] at hy
  exact⟨(Option.some.inj hx).symm,(Option.some.inj hy).symm⟩
 rw [betL] at he
 simp only [List.mem_append] at he
 rcases he with h|h|h|h|h|h
 ·obtain ⟨o,ho,rfl⟩:=List.mem_map.1 h
  have:s=o.id:=List.mem_singleton.1 hs
  subst this
  exact hX (inB_iff.1 (List.mem_filter.1 ho).2)
 ·obtain ⟨o,ho,rfl⟩:=List.mem_map.1 h
  have:s=o.id:=List.mem_singleton.1 hs
  subst this
  have h2:=(List.mem_filter.1 ho).2
  rw [Bool.or_eq_true,inB_iff,hx] at h2
  exact hX (h2.elim id fun h=>by cases h)
 ·obtain ⟨k,hk2,h⟩:=List.mem_flatMap.1 h
  rw [stMove] at h
  split at h
  ·cases h
  next hne =>
  obtain rfl:=List.mem_singleton.1 h
  obtain ⟨rfl,rfl⟩:=hB k hk2 (List.mem_singleton.1 hs)
  exact fun e=>hne ⟨by rw [e],by rw [e]⟩
 ·obtain ⟨k,hk2,h⟩:=List.mem_flatMap.1 h
  rw [stRefs] at h
  split at h
  ·cases h
  next hne =>
  obtain rfl:=List.mem_singleton.1 h
  obtain ⟨rfl,rfl⟩:=hB k hk2 (List.mem_singleton.1 hs)
  exact fun e=>hne (by rw [e])
 ·obtain ⟨k,hk2,h⟩:=List.mem_flatMap.1 h
  obtain ⟨p,hp,rfl⟩:=List.mem_map.1 h
  obtain ⟨rfl,rfl⟩:=hB k hk2 (List.mem_singleton.1 hs)
  intro e
  rw [e,tagL_same (gObj_len (g2 _ (look_mem hy))).2.2.1] at hp
  cases hp
 obtain ⟨o,ho,rfl⟩:=List.mem_map.1 h
 have:s=o.id:=List.mem_singleton.1 hs
 subst this
 have h2:=(List.mem_filter.1 ho).2
 rw [hy] at h2
 simp at h2
end
section
theorem okE_bet {a b:List GObj} (ha:okM a) (hb:okM b) (hca:closedB a=true) (hcb:closedB b=true):∀ e∈betL a b,okE e:=by
 have hga:=gMap_iff.1 (closed_gMap hca)
 have hgb:=gMap_iff.1 (closed_gMap hcb)
 have hka:∀ o∈a,1≤o.kind∧o.kind≤5:=fun o ho=>gObj_kind (hga.1 o ho)
 have hkb:∀ o∈b,1≤o.kind∧o.kind≤5:=fun o ho=>gObj_kind (hgb.1 o ho)
 have hz:sNil.size < 4611686018427387904:=by decide
 intro e he
 simp only [betL,List.mem_append,List.mem_map,List.mem_flatMap] at he
 rcases he with⟨o,ho,rfl⟩|⟨o,ho,rfl⟩|⟨k,hk,he⟩|⟨k,hk,he⟩|⟨k,hk,he⟩|⟨o,ho,rfl⟩
 ·exact okE_of1 (ha.2 o ((mem_layL hka).1 (List.mem_filter.1 ho).1)).1 hz
 ·exact okE_put (hb.2 o ((mem_layL hkb).1 (List.mem_filter.1 ho).1))
 ·obtain ⟨q1,q2,_⟩:=mem_both.1 hk
  rw [stMove] at he
  split at he
  ·cases he
  rw [List.mem_singleton] at he
  subst he
  exact okE_of1 (ha.2 _ (look_mem q2)).1 hz
 ·obtain ⟨q1,q2,_⟩:=mem_both.1 hk
  rw [stRefs] at he
  split at he
  ·cases he
  rw [List.mem_singleton] at he
  subst he
  have h2:=hb.2 _ q1
  exact⟨⟨(ha.2 _ (look_mem q2)).1,hz,hz,hz⟩,⟨h2.2.2.1,h2.2.2.2⟩,zObj_ok⟩
 ·obtain ⟨q1,q2,_⟩:=mem_both.1 hk
  rw [stTags] at he
  obtain ⟨p,hp,rfl⟩:=List.mem_map.1 he
  have h1:=ha.2 _ (look_mem q2)
  have h2:=hb.2 _ q1
  rw [tagL,List.mem_append,List.mem_map,List.mem_map] at hp
  rcases hp with⟨t,ht,rfl⟩|⟨t,ht,rfl⟩
  ·exact okE_of1 h1.1 (h1.2.1.2 t (List.mem_filter.1 ht).1).1
  exact okE_of1 h1.1 (h2.2.1.2 t (List.mem_filter.1 ht).1).1
 exact okE_of1 (ha.2 o ((mem_layL hka).1 (List.mem_filter.1 ho).1)).1 hz
theorem bet_err {a b:List GObj} (h:(gBetween a b).2≠0):(gBetween a b).1=[]:=by
 rw [gBetween] at h ⊢
 split
 ·rfl
 next h1 =>
 rw [if_neg h1] at h
 split
 ·rfl
 next h2=>rw [if_neg h2] at h;exact absurd rfl h
def kdif (b:List GObj) (o:GObj):Bool:=match look b o.id with
 | some p=>!decide (p.kind=o.kind)
 | none=>false
theorem kdif_none {b:List GObj} {o:GObj} (h:look b o.id=none):kdif b o=false:=by rw [kdif,h]
theorem kdif_some {b:List GObj} {o p:GObj} (h:look b o.id=some p):kdif b o=!decide (p.kind=o.kind):=by rw [kdif,h]
theorem any_take {l:List GObj} {p:GObj→Bool} {k:Nat} {o:GObj} (h:l[k]?=some o):(l.take (k+1)).any p=((l.take k).any p||p o):=by
 rw [List.take_add_one,h,Option.toList_some,List.any_append]
 simp
theorem gidx_any2 {α:Type} (p:α→Bool) (l:List α):∃ n,gidx p l=n:=⟨_,rfl⟩
theorem rFindV {m:List GObj} {s:ByteArray} {n:Int} (e:gidx (idIs s) m=n) (hm:m.length < 4611686018427387904) (H:Heap):ACalls Tryz.prog 27 [.agg [.pv (slObjs m)],sv s] H (fun r H'=>r=iv n∧H'=H):=by
 have:=rFind_c m s H hm
 rw [e] at this
 exact this
theorem changeBetween_c (a b:List GObj) (H:Heap) (ha:okM a) (hb:okM b) :
  ACalls Tryz.prog 8 [.agg [.pv (slObjs a)],.agg [.pv (slObjs b)]] H (fun r H'=>r=bv true∧H'=H):=by
 refine ACalls.pure ?_ (by simp) H
 have hma:(a.map encObj).length=a.length:=List.length_map _
 have hmb:(b.map encObj).length=b.length:=List.length_map _
 refine Bd Tryz.func8 rfl Tryz.ntmps8<|Sq<|Rg<|Dd (by exact opd_box (id:=2) rfl rfl rfl rfl rfl)<|Dd (by exact opd_box (id:=3) rfl rfl rfl rfl rfl)<|Dd as'<|Zz<|Sq<|Rg<|Dd (by exact opr_call rfl rfl Tryz.call9 rfl (head22s_c _))<|Dd as'<|Zz<|Sq<|Sq<|Rg<|Dd (by exact opd_loadn_ref rfl Tryz.isAgg38 Tryz.sizeOf38 rfl rfl rfl rfl (by simp only [Zl,encTag,encObj,encStr,encEdit,encInt];rfl) rfl)<|Dd (by exact opd_loadn_ref rfl Tryz.isAgg38 Tryz.sizeOf38 rfl rfl rfl rfl (by simp only [Zl,encTag,encObj,encStr,encEdit,encInt];rfl) rfl)<|Dd (by exact opr_call rfl rfl Tryz.call21 rfl (fewC_c a b _ ha hb))<|Dd no'<|Zz ?_
 refine Cn (fun hc1=>?_) fun hc1=>?_
 ·skip
  refine Sq<|Rg<|Dd mv'<|Dd as'<|Zz<|awp_ret ?_
  refine Rt ?_
  exact⟨rfl,rfl⟩
 skip
 have hf:gFewC a b=true:=by have h:=hc1;simpa using h
 have hal:a.length≤24:=by
  simp only [gFewC,few13,Bool.and_eq_true,Bool.not_eq_true',decide_eq_false_iff_not] at hf
  have:=hf.1.1;omega
 have hbl:b.length≤24:=by
  simp only [gFewC,few13,Bool.and_eq_true,Bool.not_eq_true',decide_eq_false_iff_not] at hf
  have:=hf.2.1;omega
 by_cases h0:(gBetween a b).2=0
 ·obtain ⟨hba,hca,hcb,hxb⟩:=between_all h0 (by omega)
  obtain ⟨xs,hxs⟩:∃ xs,xs=(gBetween a b).1:=⟨_,rfl⟩
  have hB:∀ H,ACalls Tryz.prog 22 [.agg [.pv (slObjs a)],.agg [.pv (slObjs b)]] H (fun r H'=>r=.tup [.pv (slEdits xs),iv 0]∧H'=H):=fun H=>by
   have:=between_c a b ha hb H
   rw [h0,← hxs] at this
   exact this
  rw [← hxs] at hba hxb
  have hxl:xs.length≤200:=by
   have h1:=h0
   rw [gBetween,if_neg (by rw [hca,hcb];decide)] at h1
   split at h1
   ·cases h1
   rw [hxb];omega
  have hxE:∀ e∈xs,okE e:=by rw [hxb];exact okE_bet ha hb hca hcb
  have hA:∀ H,ACalls Tryz.prog 25 [.agg [.pv (slObjs a)],.pv (slEdits xs)] H (fun r H'=>r=.tup [.agg [.pv (slObjs b)],iv (-1),iv 0]∧H'=H):=fun H=>by
   have:=all_c a xs H ha (by omega) hxE
   rw [hba] at this
   exact this
  have hS:∀ H,ACalls Tryz.prog 26 [.agg [.pv (slObjs b)],.agg [.pv (slObjs b)]] H (fun r H'=>r=bv true∧H'=H):=fun H=>by
   have:=same12Y_c b b H hb
   rw [decide_eq_true rfl] at this
   exact this
  have hmx:(xs.map encEdit).length=xs.length:=List.length_map _
  have hnil:decide (((xs.map encEdit).length:Int)=0)=decide (a=b):=by
   rw [Bool.eq_iff_iff,decide_eq_true_eq,decide_eq_true_eq,hmx,← between_nil hca hcb (by omega),← hxb]
   constructor
   ·intro h;exact List.eq_nil_of_length_eq_zero (by omega)
   intro h;rw [h];rfl
  refine awp_skip<|Sq<|Rg<|Dd (by exact opd_loadn_ref rfl Tryz.isAgg38 Tryz.sizeOf38 rfl rfl rfl rfl (by simp only [Zl,encTag,encObj,encStr,encEdit,encInt];rfl) rfl)<|Dd (by exact opd_loadn_ref rfl Tryz.isAgg38 Tryz.sizeOf38 rfl rfl rfl rfl (by simp only [Zl,encTag,encObj,encStr,encEdit,encInt];rfl) rfl)<|Dd (by exact opr_call rfl rfl Tryz.call22 rfl (hB _))<|Dd mv'<|Dd ex'<|Dd ex'<|Dd as'<|Dd as'<|Zz<|Sq<|Sq<|Rg<|Dd mv'<|Dd ne'<|Zz ?_
  refine Cn (fun hc2=>?_) fun hc2=>?_
  ·skip
   cases hc2
  skip
  refine awp_skip<|Sq<|Rg<|Dd (by exact opd_loadn_ref rfl Tryz.isAgg38 Tryz.sizeOf38 rfl rfl rfl rfl (by simp only [Zl,encTag,encObj,encStr,encEdit,encInt];rfl) rfl)<|Dd mv'<|Dd (by exact opr_call rfl rfl Tryz.call25 rfl (hA _))<|Dd mv'<|Dd ex'<|Dd ex'<|Dd ex'<|Dd (by exact x_alloc (id:=8) rfl zo38 rfl rfl)<|Uu (sa' Tryz.sizeOf38)<|Dd as'<|Dd as'<|Zz<|Sq<|Sq<|Rg<|Dd mv'<|Dd ne'<|Dd mv' ?_
  refine al_ond rfl rfl rfl (by rfl) rfl rfl (by exact opd_loadn_ref rfl Tryz.isAgg38 Tryz.sizeOf38 rfl rfl rfl rfl (by simp only [Zl,encTag,encObj,encStr,encEdit,encInt];rfl) rfl) ?_
  refine al_ond rfl rfl rfl (by rfl) rfl rfl (by exact opd_loadn_ref rfl Tryz.isAgg38 Tryz.sizeOf38 rfl rfl rfl rfl (by simp only [Zl,encTag,encObj,encStr,encEdit,encInt];rfl) rfl) ?_
  refine al_ond rfl rfl rfl (by rfl) rfl rfl (by exact opr_call rfl rfl Tryz.call26 rfl (hS _)) ?_
  refine al_ond rfl rfl rfl (by rfl) rfl rfl (by exact opd_not rfl rfl) ?_
  refine Dd pk'<|Dd mv' ?_
  refine al_ond rfl rfl rfl (by rfl) rfl rfl (by exact opd_move rfl rfl) ?_
  refine al_ond rfl rfl rfl (by rfl) rfl rfl (by exact opd_len_sl rfl Tryz.underlying22 rfl) ?_
  refine al_ond rfl rfl rfl (by rfl) rfl rfl (by exact opd_eql rfl rfl rfl) ?_
  refine al_ond rfl rfl rfl (by rfl) rfl rfl (by exact opd_loadn_ref rfl Tryz.isAgg38 Tryz.sizeOf38 rfl rfl rfl rfl (by simp only [Zl,encTag,encObj,encStr,encEdit,encInt];rfl) rfl) ?_
  refine al_ond rfl rfl rfl (by rfl) rfl rfl (by exact opd_loadn_ref rfl Tryz.isAgg38 Tryz.sizeOf38 rfl rfl rfl rfl (by simp only [Zl,encTag,encObj,encStr,encEdit,encInt];rfl) rfl) ?_
  refine al_ond rfl rfl rfl (by rfl) rfl rfl (by exact opr_call rfl rfl Tryz.call26 rfl (same12Y_c a b _ ha)) ?_
  refine al_ond rfl rfl rfl (by rfl) rfl rfl (by exact opd_bneq rfl Tryz.underlying4 rfl rfl) ?_
  refine Dd pk'<|Zz ?_
  refine Cn (fun hc3=>?_) fun hc3=>?_
  ·skip
   have h:=hc3;rw [hnil] at h;simp at h
  skip
  refine awp_skip<|Sq<|Rg<|Dd as'<|Zz<|Sq<|Sq<|Rg<|Dd as'<|Zz<|awp_block ?_
  refine awp_loop (σ:=Nat) (fun i=>([(2,.ref 2 0 0 0),(3,.ref 3 0 0 0),(5,bv true),(6,.pv (slEdits xs)),(11,bv ((a.take i).any (kdif b))),(12,iv (i:Int))],[(3,mB b),(2,mB a)])) (fun i=>i≤a.length) (fun i=>a.length - i) 0 (Nat.zero_le _) ?_ ?_
  ·exact(Ent.wk (Ea<|Ea<|Eb<|Eb<|Eb<|Eb<|trivial) (Hc (mB_clo _ _)<|Hc (mB_clo _ _)<|trivial) trivial)
  rintro i hi
  obtain ⟨K,hK⟩:∃ K,K=(a.take i).any (kdif b):=⟨_,rfl⟩
  rw [← hK]
  refine Sq<|Sq<|Rg<|Dd mv'<|Dd (fr' fo38_0)<|Dd (l1' Tryz.isAgg36)<|Dd (ll' Tryz.underlying36)<|Dd lss'<|Zz ?_
  refine Cn (fun hc4=>?_) fun hc4=>?_
  ·skip
   have hlt:i < a.length:=by have:=of_decide_eq_true hc4;omega
   obtain ⟨o,ho⟩:=get_of_lt hlt
   have hio:=map_get (f:=encObj) ho
   have hst:=any_take (p:=kdif b) ho
   rw [← hK] at hst
   rcases gidx_cases (idIs o.id) b with⟨e1,e2⟩|⟨q,p,e1,e2,e3⟩
   ·rw [kdif_none e2,Bool.or_false] at hst
    refine awp_skip<|Sq<|awp_block<|Sq ?_
    refine awp_drawc follows ?_
    refine Cq (by exact opd_loadn_ref rfl Tryz.isAgg38 Tryz.sizeOf38 rfl rfl rfl rfl (by simp only [Zl,encTag,encObj,encStr,encEdit,encInt];rfl) rfl)<|Cq (fr' fo38_0)<|Cq (l1' Tryz.isAgg36)<|Cq mv'<|Cq (xp' so36)<|Cq (fp' fo49_0)<|Cq (lp' Tryz.isAgg9)<|Cq (by exact opr_call rfl rfl Tryz.call27 rfl (rFindV e1 (by omega) _))<|Cq as' ?_
    refine dc_nil ⟨by kernel_rfl,?_⟩
    refine awp_mergeR (t:=11) (n:=21) (X:=K) ?_ ?_
    ·cases hg79:(K:Bool)
     ·refine awp_drawc follows ?_
      refine Cq mv'<|Cq mv'<|Nf mv'<|Nf ge'<|Nf mv'<|Ot<|Ot<|Ot<|Ot<|Ot<|Ot<|Ot<|Ot<|Ot<|Ot<|Ot<|Ot<|Ot<|Nf pk'<|Cq pk'<|Cq as' ?_
      refine dc_nil ⟨by kernel_rfl,?_⟩
      exact⟨rfl,⟨_,rfl,by rfl⟩,rfl,rfl,rfl⟩
     refine awp_drawc follows ?_
     refine Cq mv'<|Cq mv'<|Of<|Of<|Of<|Ou<|Ou<|Ou<|Ou<|Ou<|Ou<|Ou<|Ou<|Ou<|Ou<|Ou<|Ou<|Ou<|Of<|Cq pk'<|Cq as' ?_
     refine dc_nil ⟨by kernel_rfl,?_⟩
     exact⟨rfl,⟨_,rfl,by rfl⟩,rfl,rfl,rfl⟩
    refine Rg<|Dd mv'<|Dd ad'<|Dd as'<|Zz ?_
    refine⟨i+1,by omega,by omega,?_⟩
    rw [hst]
    exact(Ent.wk (Ea<|Ea<|Eb<|Eb<|Eb<|Eb<|trivial) (Hc (mB_clo _ _)<|Hc (mB_clo _ _)<|trivial) trivial)
   rw [kdif_some e3] at hst
   have hip:=map_get (f:=encObj) e2
   have hqb:=(List.getElem?_eq_some_iff.1 e2).1
   have hq0:decide ((0:Int)≤(q:Int))=true:=decide_eq_true (by omega)
   refine awp_skip<|Sq<|awp_block<|Sq ?_
   refine awp_drawc follows ?_
   refine Cq (by exact opd_loadn_ref rfl Tryz.isAgg38 Tryz.sizeOf38 rfl rfl rfl rfl (by simp only [Zl,encTag,encObj,encStr,encEdit,encInt];rfl) rfl)<|Cq (fr' fo38_0)<|Cq (l1' Tryz.isAgg36)<|Cq mv'<|Cq (xp' so36)<|Cq (fp' fo49_0)<|Cq (lp' Tryz.isAgg9)<|Cq (by exact opr_call rfl rfl Tryz.call27 rfl (rFindV e1 (by omega) _))<|Cq as' ?_
   refine dc_nil ⟨by kernel_rfl,?_⟩
   refine awp_mergeR (t:=11) (n:=21) (X:=K||!decide (p.kind=o.kind)) ?_ ?_
   ·cases hg79:(K:Bool)
    ·refine awp_drawc follows ?_
     refine Cq mv'<|Cq mv'<|Nf mv'<|Nf ge'<|Nf mv'<|Nt (fr' fo38_0)<|Nt (l1' Tryz.isAgg36)<|Nt mv'<|Nt (xp' so36)<|Nt (fp' fo49_1)<|Nt (lp' Tryz.isAgg3)<|Nt (fr' fo38_0)<|Nt (l1' Tryz.isAgg36)<|Nt mv'<|Nt (xp' so36)<|Nt (fp' fo49_1)<|Nt (lp' Tryz.isAgg3)<|Nt ne'<|Nf pk'<|Cq pk'<|Cq as' ?_
     refine dc_nil ⟨by kernel_rfl,?_⟩
     exact⟨rfl,⟨_,rfl,by rfl⟩,rfl,rfl,rfl⟩
    refine awp_drawc follows ?_
    refine Cq mv'<|Cq mv'<|Of<|Of<|Of<|Ou<|Ou<|Ou<|Ou<|Ou<|Ou<|Ou<|Ou<|Ou<|Ou<|Ou<|Ou<|Ou<|Of<|Cq pk'<|Cq as' ?_
    refine dc_nil ⟨by kernel_rfl,?_⟩
    exact⟨rfl,⟨_,rfl,by rfl⟩,rfl,rfl,rfl⟩
   refine Rg<|Dd mv'<|Dd ad'<|Dd as'<|Zz ?_
   refine⟨i+1,by omega,by omega,?_⟩
   rw [hst]
   exact(Ent.wk (Ea<|Ea<|Eb<|Eb<|Eb<|Eb<|trivial) (Hc (mB_clo _ _)<|Hc (mB_clo _ _)<|trivial) trivial)
  skip
  have hge:i=a.length:=by have:=of_decide_eq_false hc4;omega
  subst hge
  rw [List.take_length] at hK
  refine awp_exit<|Sq<|Sq<|Rg<|Dd as'<|Zz<|awp_block ?_
  refine awp_loop (σ:=Nat) (fun i=>([(2,.ref 2 0 0 0),(3,.ref 3 0 0 0),(5,bv true),(6,.pv (slEdits xs)),(11,bv K),(14,iv (i:Int))],[(3,mB b),(2,mB a)])) (fun i=>i≤xs.length) (fun i=>xs.length - i) 0 (Nat.zero_le _) ?_ ?_
  ·exact(Ent.wk (Ea<|Ea<|Eb<|Eb<|Eb<|Eb<|trivial) (Hc (mB_clo _ _)<|Hc (mB_clo _ _)<|trivial) trivial)
  rintro i hi
  refine Sq<|Sq ?_
  refine awp_bool (t:=105) (n:=9) (X:=decide ((i:Int) < ((xs.map encEdit).length:Int))&&!K) ?_ ?_
  ·all_goals refine Dd mv' ?_
   all_goals refine Dd mv' ?_
   all_goals refine Dd (ll' Tryz.underlying22) ?_
   all_goals refine Dd lss' ?_
   all_goals refine Dd mv' ?_
   all_goals refine Sp 102 (fun h102=>?_) fun h102=>?_
   all_goals try contradiction
   all_goals first|refine Fo ?_|refine On mv' ?_
   all_goals first|refine Fo ?_|refine On no' ?_
   all_goals refine Dd pk' ?_
   all_goals refine al_nil ?_
   all_goals(exact⟨⟨_,rfl,by(rw [h102];rfl)⟩,rfl,rfl,rfl⟩)
  refine Cn (fun hc5=>?_) fun hc5=>?_
  ·skip
   have hcc:i < xs.length∧K=false:=by have h:=hc5;rw [Bool.and_eq_true,decide_eq_true_eq] at h;exact⟨by omega,by simpa using h.2⟩
   obtain ⟨hlt,hKf⟩:=hcc
   obtain ⟨e,he⟩:=get_of_lt hlt
   have hie:=map_get (f:=encEdit) he
   have hem:e∈betL a b:=by rw [← hxb];exact List.mem_of_getElem? he
   have hn:∀ o∈a,∀ p,look b o.id=some p→p.kind=o.kind:=fun o ho p hp=>by
    rw [hK] at hKf
    have h1:kdif b o=false:=by
     cases h2:kdif b o with
     | false=>rfl
     | true=>rw [List.any_eq_true.2 ⟨o,ho,h2⟩] at hKf;cases hKf
    rw [kdif_some hp] at h1
    simpa using h1
   have hwl:(gWrites e).length≤2:=by
    rw [gWrites]
    split
    ·simp
    split<;>simp
   have hmw:((gWrites e).map encStr).length=(gWrites e).length:=List.length_map _
   refine awp_skip<|Sq<|awp_block<|Sq<|Rg<|Dd mv'<|Dd mv'<|Dd (xp' so22)<|Dd (by exact opd_loadn_pad rfl Tryz.isAgg51 Tryz.sizeOf51 rfl (by omega) (by simp only [Zl,encTag,encObj,encStr,encEdit,encInt];rfl) rfl)<|Dd (by exact opr_call rfl rfl Tryz.call28 rfl (rWrites_c e _))<|Dd as'<|Zz<|Sq<|Rg<|Dd as'<|Zz<|awp_block ?_
   refine awp_loop (σ:=Nat) (fun j=>([(2,.ref 2 0 0 0),(3,.ref 3 0 0 0),(5,bv true),(6,.pv (slEdits xs)),(11,bv K),(14,iv (i:Int)),(15,.pv (slStrs (gWrites e))),(16,iv (j:Int))],[(3,mB b),(2,mB a)])) (fun j=>j≤(gWrites e).length) (fun j=>(gWrites e).length - j) 0 (Nat.zero_le _) ?_ ?_
   ·exact(Ent.wk (Ea<|Ea<|Eb<|Eb<|Eb<|Eb<|Eb<|Eb<|trivial) (Hc (mB_clo _ _)<|Hc (mB_clo _ _)<|trivial) trivial)
   rintro j hj
   refine Sq<|Sq<|Rg<|Dd mv'<|Dd mv'<|Dd (ll' Tryz.underlying46)<|Dd lss'<|Zz ?_
   refine Cn (fun hc6=>?_) fun hc6=>?_
   ·skip
    have hjl:j < (gWrites e).length:=by have:=of_decide_eq_true hc6;omega
    obtain ⟨s,hs⟩:=get_of_lt hjl
    have his:=map_get (f:=encStr) hs
    have hsm:=List.mem_of_getElem? hs
    rcases gidx_cases (idIs s) a with⟨e1,e2⟩|⟨q,x,e1,e2,e3⟩
    ·rcases gidx_any2 (idIs s) b with⟨n,f1⟩
     refine awp_skip<|Sq<|awp_block<|Sq ?_
     refine awp_drawc follows ?_
     refine Cq (by exact opd_loadn_ref rfl Tryz.isAgg38 Tryz.sizeOf38 rfl rfl rfl rfl (by simp only [Zl,encTag,encObj,encStr,encEdit,encInt];rfl) rfl)<|Cq mv'<|Cq mv'<|Cq (xp' so46)<|Cq (lp' Tryz.isAgg9)<|Cq (by exact opr_call rfl rfl Tryz.call27 rfl (rFindV e1 (by omega) _))<|Cq (by exact opd_loadn_ref rfl Tryz.isAgg38 Tryz.sizeOf38 rfl rfl rfl rfl (by simp only [Zl,encTag,encObj,encStr,encEdit,encInt];rfl) rfl)<|Cq mv'<|Cq mv'<|Cq (xp' so46)<|Cq (lp' Tryz.isAgg9)<|Cq (by exact opr_call rfl rfl Tryz.call27 rfl (rFindV f1 (by omega) _))<|Cq as'<|Cq as' ?_
     refine dc_nil ⟨by kernel_rfl,?_⟩
     refine Sq ?_
     refine awp_drawc follows ?_
     refine Cq mv'<|Cq ge'<|Cq mv'<|Ot<|Ot<|Cq pk'<|Cq mv'<|Ot<|Ot<|Ot<|Ot<|Ot<|Ot<|Ot<|Ot<|Ot<|Ot<|Ot<|Ot<|Ot<|Cq pk' ?_
     refine dc_nil ⟨by kernel_rfl,?_⟩
     refine Cn (fun hc7=>?_) fun hc7=>?_
     ·skip
      cases hc7
     skip
     refine awp_skip<|Rg<|Dd mv'<|Dd ad'<|Dd as'<|Zz ?_
     exact⟨j+1,by omega,by omega,(Ent.wk (Ea<|Ea<|Eb<|Eb<|Eb<|Eb<|Eb<|Eb<|trivial) (Hc (mB_clo _ _)<|Hc (mB_clo _ _)<|trivial) trivial)⟩
    have hia:=map_get (f:=encObj) e2
    have hqa:=(List.getElem?_eq_some_iff.1 e2).1
    have hq0:decide ((0:Int)≤(q:Int))=true:=decide_eq_true (by omega)
    rcases gidx_cases (idIs s) b with⟨f1,f2⟩|⟨q2,y,f1,f2,f3⟩
    ·skip
     refine awp_skip<|Sq<|awp_block<|Sq ?_
     refine awp_drawc follows ?_
     refine Cq (by exact opd_loadn_ref rfl Tryz.isAgg38 Tryz.sizeOf38 rfl rfl rfl rfl (by simp only [Zl,encTag,encObj,encStr,encEdit,encInt];rfl) rfl)<|Cq mv'<|Cq mv'<|Cq (xp' so46)<|Cq (lp' Tryz.isAgg9)<|Cq (by exact opr_call rfl rfl Tryz.call27 rfl (rFindV e1 (by omega) _))<|Cq (by exact opd_loadn_ref rfl Tryz.isAgg38 Tryz.sizeOf38 rfl rfl rfl rfl (by simp only [Zl,encTag,encObj,encStr,encEdit,encInt];rfl) rfl)<|Cq mv'<|Cq mv'<|Cq (xp' so46)<|Cq (lp' Tryz.isAgg9)<|Cq (by exact opr_call rfl rfl Tryz.call27 rfl (rFindV f1 (by omega) _))<|Cq as'<|Cq as' ?_
     refine dc_nil ⟨by kernel_rfl,?_⟩
     refine Sq ?_
     refine awp_drawc follows ?_
     refine Cq mv'<|Cq ge'<|Cq mv'<|Nt mv'<|Nt ge'<|Cq pk'<|Cq mv'<|Ot<|Ot<|Ot<|Ot<|Ot<|Ot<|Ot<|Ot<|Ot<|Ot<|Ot<|Ot<|Ot<|Cq pk' ?_
     refine dc_nil ⟨by kernel_rfl,?_⟩
     refine Cn (fun hc8=>?_) fun hc8=>?_
     ·skip
      cases hc8
     skip
     refine awp_skip<|Rg<|Dd mv'<|Dd ad'<|Dd as'<|Zz ?_
     exact⟨j+1,by omega,by omega,(Ent.wk (Ea<|Ea<|Eb<|Eb<|Eb<|Eb<|Eb<|Eb<|trivial) (Hc (mB_clo _ _)<|Hc (mB_clo _ _)<|trivial) trivial)⟩
    have hib:=map_get (f:=encObj) f2
    have hqb:=(List.getElem?_eq_some_iff.1 f2).1
    have hq2:decide ((0:Int)≤(q2:Int))=true:=decide_eq_true (by omega)
    have hne:=between_writes hca hcb hn hem hsm e3 f3
    have hSm:∀ H,ACalls Tryz.prog 29 [av (encEdit ⟨0,sNil,sNil,sNil,0,0,sNil,sNil,[],x⟩),av (encEdit ⟨0,sNil,sNil,sNil,0,0,sNil,sNil,[],y⟩)] H (fun r H'=>r=bv false∧H'=H):=fun H=>by
     have:=same22P_c x y H (ha.2 x (List.mem_of_getElem? e2)) (hb.2 y (List.mem_of_getElem? f2))
     rw [decide_eq_false hne] at this
     exact this
    refine awp_skip<|Sq<|awp_block<|Sq ?_
    refine awp_drawc follows ?_
    refine Cq (by exact opd_loadn_ref rfl Tryz.isAgg38 Tryz.sizeOf38 rfl rfl rfl rfl (by simp only [Zl,encTag,encObj,encStr,encEdit,encInt];rfl) rfl)<|Cq mv'<|Cq mv'<|Cq (xp' so46)<|Cq (lp' Tryz.isAgg9)<|Cq (by exact opr_call rfl rfl Tryz.call27 rfl (rFindV e1 (by omega) _))<|Cq (by exact opd_loadn_ref rfl Tryz.isAgg38 Tryz.sizeOf38 rfl rfl rfl rfl (by simp only [Zl,encTag,encObj,encStr,encEdit,encInt];rfl) rfl)<|Cq mv'<|Cq mv'<|Cq (xp' so46)<|Cq (lp' Tryz.isAgg9)<|Cq (by exact opr_call rfl rfl Tryz.call27 rfl (rFindV f1 (by omega) _))<|Cq as'<|Cq as' ?_
    refine dc_nil ⟨by kernel_rfl,?_⟩
    refine Sq ?_
    refine awp_drawc follows ?_
    refine Cq mv'<|Cq ge'<|Cq mv'<|Nt mv'<|Nt ge'<|Cq pk'<|Cq mv'<|Nt (fr' fo38_0)<|Nt (l1' Tryz.isAgg36)<|Nt mv'<|Nt (xp' so36)<|Nt (by exact opd_loadn_pad rfl Tryz.isAgg49 Tryz.sizeOf49 rfl (by omega) (by simp only [Zl,encTag,encObj,encStr,encEdit,encInt];rfl) rfl)<|Nt (bu' bo51)<|Nt (fr' fo38_0)<|Nt (l1' Tryz.isAgg36)<|Nt mv'<|Nt (xp' so36)<|Nt (by exact opd_loadn_pad rfl Tryz.isAgg49 Tryz.sizeOf49 rfl (by omega) (by simp only [Zl,encTag,encObj,encStr,encEdit,encInt];rfl) rfl)<|Nt (bu' bo51)<|Nt (by exact opr_call rfl rfl Tryz.call29 rfl (hSm _))<|Cq pk' ?_
    refine dc_nil ⟨by kernel_rfl,?_⟩
    refine Cn (fun hc9=>?_) fun hc9=>?_
    ·skip
     cases hc9
    skip
    refine awp_skip<|Rg<|Dd mv'<|Dd ad'<|Dd as'<|Zz ?_
    exact⟨j+1,by omega,by omega,(Ent.wk (Ea<|Ea<|Eb<|Eb<|Eb<|Eb<|Eb<|Eb<|trivial) (Hc (mB_clo _ _)<|Hc (mB_clo _ _)<|trivial) trivial)⟩
   skip
   have hjl:j=(gWrites e).length:=by have:=of_decide_eq_false hc6;omega
   refine awp_exit<|Rg<|Dd mv'<|Dd ad'<|Dd as'<|Zz ?_
   exact⟨i+1,by omega,by omega,(Ent.wk (Ea<|Ea<|Eb<|Eb<|Eb<|Eb<|trivial) (Hc (mB_clo _ _)<|Hc (mB_clo _ _)<|trivial) trivial)⟩
  skip
  refine awp_exit<|Sq<|Rg<|Dd mv'<|Dd as'<|Zz<|awp_ret ?_
  refine Rt ?_
  exact⟨rfl,rfl⟩
 have hx:=bet_err h0
 obtain ⟨n,hn⟩:∃ n,n=(gBetween a b).2:=⟨_,rfl⟩
 rw [← hn] at h0
 have hB:∀ H,ACalls Tryz.prog 22 [.agg [.pv (slObjs a)],.agg [.pv (slObjs b)]] H (fun r H'=>r=.tup [.pv (slEdits []),iv n]∧H'=H):=fun H=>by
  have:=between_c a b ha hb H
  rw [hx,← hn] at this
  exact this
 refine awp_skip<|Sq<|Rg<|Dd (by exact opd_loadn_ref rfl Tryz.isAgg38 Tryz.sizeOf38 rfl rfl rfl rfl (by simp only [Zl,encTag,encObj,encStr,encEdit,encInt];rfl) rfl)<|Dd (by exact opd_loadn_ref rfl Tryz.isAgg38 Tryz.sizeOf38 rfl rfl rfl rfl (by simp only [Zl,encTag,encObj,encStr,encEdit,encInt];rfl) rfl)<|Dd (by exact opr_call rfl rfl Tryz.call22 rfl (hB _))<|Dd mv'<|Dd ex'<|Dd ex'<|Dd as'<|Dd as'<|Zz<|Sq<|Sq<|Rg<|Dd mv'<|Dd ne'<|Zz ?_
 refine Cn (fun hc10=>?_) fun hc10=>?_
 ·skip
  refine Sq<|Rg<|Dd mv'<|Dd mv' ?_
  refine al_ond rfl rfl rfl (by rfl) rfl rfl (by exact opd_move rfl rfl) ?_
  refine al_ond rfl rfl rfl (by rfl) rfl rfl (by exact opd_len_sl rfl Tryz.underlying22 rfl) ?_
  refine al_ond rfl rfl rfl (by rfl) rfl rfl (by exact opd_eql rfl rfl rfl) ?_
  refine Dd pk'<|Dd as'<|Zz<|awp_ret ?_
  refine Rt ?_
  exact⟨rfl,rfl⟩
 skip
 have h:=hc10;simp at h;exact absurd h h0
end
end Go.Proofs.YtlnfjkdacimblaaGreatDoor
