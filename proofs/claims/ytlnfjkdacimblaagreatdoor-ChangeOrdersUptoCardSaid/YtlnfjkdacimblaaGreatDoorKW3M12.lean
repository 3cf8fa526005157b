/-
  CONTRACT: planispherelaw22.ChangeOrders answers true. Conditions: the arguments' sizes.
  Values that a law draws: slices of bytes; edits' sizes.
-/
import Derived.Test.YtlnfjkdacimblaaGreatDoorKW3M11
set_option linter.unusedVariables false
set_option linter.unusedSimpArgs false
set_option maxRecDepth 100000
set_option maxHeartbeats 2000000
namespace Go.Proofs.YtlnfjkdacimblaaGreatDoor
open Go.Abs
section
def encU8 (i:Int):List PV:=[.int .u8 i]
def slU8s (l:List Int):PV:=.sl (l.map encU8)
theorem zRows_clo (H:Heap) (G:List (List Nat)):∀ r∈zRows G,∀ a∈r,Clo H a:=by
 intro r hr a ha
 obtain ⟨g,_,rfl⟩:=List.mem_map.1 hr
 obtain ⟨p,hp,rfl⟩:=List.mem_map.1 ha
 simp
def swpR (R:List Nat) (i k:Nat):List Nat:=(R.set i (R.getD k 0)).set k (R.getD i 0)
theorem swpR_perm {R:List Nat} {i k:Nat} (hi:i < R.length) (hk:k < R.length):(swpR R i k).Perm R:=by
 have:=List.set_set_perm hi hk
 rwa [swpR,List.getD_eq_getElem?_getD,List.getD_eq_getElem?_getD,List.getElem?_eq_getElem hi,List.getElem?_eq_getElem hk]
abbrev grY (l:List GEdit):Nat→List Nat:=grp (top (topsE l)) l.length
def zG (l:List GEdit) (R:List Nat):List (List AV):=zRows (R.map (grY l))
theorem zG_len (l:List GEdit) (R:List Nat):(zG l R).length=R.length:=by rw [zG,zRows_len,List.length_map]
theorem zG_get {l:List GEdit} {R:List Nat} {i:Nat} (h:i < R.length):(zG l R)[i]?=some [.pv (slInts ((grY l (R.getD i 0)).map fun(x:Nat)=>(x:Int)))]:=by
 rw [zG,zRows,List.getElem?_map,List.getElem?_map,List.getD_eq_getElem?_getD,List.getElem?_eq_getElem h]
 rfl
theorem zG_set (l:List GEdit) (R:List Nat) (i x:Nat):(zG l R).set i [.pv (slInts ((grY l x).map fun(x:Nat)=>(x:Int)))]=zG l (R.set i x):=by
 rw [zG,zG,zRows,zRows,List.map_set,List.map_set]
 rfl
/-- What the inner rounds have gathered. -/
def tnA (l:List GEdit) (R:List Nat) (i j:Nat):List GEdit:=turnedE l (R.take i)++(((grY l (R.getD i 0)).take j).map fun x=>l.getD x eNone)
theorem tnA_zero (l:List GEdit) (R:List Nat) (i:Nat):tnA l R i 0=turnedE l (R.take i):=by rw [tnA,List.take_zero,List.map_nil,List.append_nil]
theorem tnA_next {l:List GEdit} {R:List Nat} {i j x:Nat} (h:(grY l (R.getD i 0))[j]?=some x):tnA l R i (j+1)=tnA l R i j++[l.getD x eNone]:=by
 rw [tnA,tnA,List.take_add_one,h,Option.toList_some,List.map_append,List.append_assoc]
 rfl
theorem tnA_end {l:List GEdit} {R:List Nat} {i:Nat} (h:i < R.length):tnA l R i (grY l (R.getD i 0)).length=turnedE l (R.take (i+1)):=by
 rw [tnA,List.take_length,List.take_add_one,List.getElem?_eq_getElem h,Option.toList_some,turnedE,turnedE,List.flatMap_append,List.map_append]
 rw [List.getD_eq_getElem?_getD,List.getElem?_eq_getElem h]
 simp [grY]
theorem turned_mem {l:List GEdit} {R:List Nat} {e:GEdit} (h:e∈turnedE l R):e∈l:=by
 obtain ⟨x,hx,rfl⟩:=List.mem_map.1 h
 obtain ⟨r,_,hr⟩:=List.mem_flatMap.1 hx
 have:=(mem_grp.1 hr).1
 rw [List.getD_eq_getElem?_getD,List.getElem?_eq_getElem this]
 exact List.getElem_mem this
theorem turned_len {l:List GEdit} {R:List Nat} (hl:gChange l=true) (hR:R.Perm (roots (top (topsE l)) l.length)):(turnedE l R).length=l.length:=by
 have hc:=(topsE_ok hl).1
 rw [turnedE,List.length_map,(List.Perm.flatMap_right _ hR).length_eq,List.length_flatMap]
 have:=groups_sum hc.le hc.idem l.length
 rw [groups,List.map_map] at this
 exact this
theorem grp_small (f:Nat→Nat) (n r:Nat):(grp f n r).length≤n:=Nat.le_trans (List.length_filter_le _ _) (by rw [List.length_range];exact Nat.le_refl _)
theorem turned_small (l:List GEdit):∀ R:List Nat,(turnedE l R).length≤R.length*l.length
 | []=>Nat.zero_le _
 | r::R=>by
  have h:=turned_small l R
  have hg:=grp_small (top (topsE l)) l.length r
  rw [turnedE,List.length_map] at h ⊢
  rw [List.flatMap_cons,List.length_append,List.length_cons,Nat.add_mul]
  omega
theorem tnA_small {l:List GEdit} {R:List Nat} {i j:Nat} (hi:i≤200) (hl:l.length≤200):(tnA l R i j).length≤40200:=by
 have h1:=turned_small l (R.take i)
 have h2:(R.take i).length*l.length≤200*200:=Nat.mul_le_mul (by rw [List.length_take];omega) hl
 have h3:(grY l (R.getD i 0)).length≤l.length:=grp_small (top (topsE l)) l.length (R.getD i 0)
 rw [tnA,List.length_append,List.length_map,List.length_take]
 omega
theorem all_okM {m:List GObj} {l:List GEdit} (hm:okM m) (he:∀ e∈l,okE e):okM (gAll m l).1:=by
 have hz:okM ([]:List GObj):=⟨by decide,fun o ho=>by cases ho⟩
 rcases all_cases (l2:=[]) hm he (fun e h=>by cases h)with⟨_,_,h⟩|⟨_,h,_⟩
 ·rw [h];exact hz
 exact h
theorem all_orders {m:List GObj} {l:List GEdit} {R:List Nat} (hl:gChange l=true) (hR:R.Perm (roots (top (topsE l)) l.length)) (h1:(gAll m l).2.2=0) (h2:(gAll m (turnedE l R)).2.2=0):(gAll m l).1=(gAll m (turnedE l R)).1:=by
 cases hc:closedB m with
 | false=>rw [gAll,hc] at h1;cases h1
 | true =>
  rw [gAll,hc] at h1 h2 ⊢
  rw [gAll,hc]
  exact orders_same hc hl hR h1 h2
theorem eRows_ofY (l:List GEdit):eRows l=(l.map encEdit).map (·.map .pv):=by rw [eRows,List.map_map];rfl
theorem changeOrders_c (m:List GObj) (l:List GEdit) (od:List Int) (H:Heap) (hm:okM m) (hU:okU l) (hod:∀ i∈od,0≤i∧i≤255) (hol:od.length < 1099511627776) (hll:l.length < 1099511627776) :
  ACalls Tryz.prog 7 [.agg [.pv (slObjs m)],.pv (slEdits l),.pv (slU8s od)] H (fun r H'=>r=bv true∧H'=H):=by
 refine ACalls.pure ?_ (by simp) H
 have hle:∀ e∈l,okE e:=fun e he=>(hU e he).1
 have hml:(l.map encEdit).length=l.length:=List.length_map _
 have hmo:(od.map encU8).length=od.length:=List.length_map _
 have hz:okM ([]:List GObj):=⟨by decide,fun o ho=>by cases ho⟩
 refine Bd Tryz.func7 rfl Tryz.ntmps7<|Sq<|Rg<|Dd (by exact opd_box (id:=3) rfl rfl rfl rfl rfl)<|Dd as'<|Zz<|Sq<|Rg<|Dd (by exact opr_call rfl rfl Tryz.call9 rfl (head22s_c _))<|Dd as'<|Zz<|Sq<|Sq ?_
 refine awp_bool (t:=40) (n:=22) (X:=!gFewC m []||!few22 l 12||decide (20 < (od.length:Int))||!gChange l) ?_ ?_
 ·all_goals refine Dd (by exact opd_loadn_ref rfl Tryz.isAgg38 Tryz.sizeOf38 rfl rfl rfl rfl (by simp only [Zl,encTag,encObj,encStr,encEdit,encInt];rfl) rfl) ?_
  all_goals refine Dd (bu' bo38) ?_
  all_goals refine Dd (by exact opr_call rfl rfl Tryz.call21 rfl (fewC_c m [] _ hm hz)) ?_
  all_goals refine Dd no' ?_
  all_goals refine Dd mv' ?_
  all_goals refine Sp 26 (fun h26=>?_) fun h26=>?_
  all_goals try contradiction
  all_goals first|refine Fo ?_|refine On mv' ?_
  all_goals first|refine Fo ?_|refine On (by exact opr_call rfl rfl Tryz.call10 rfl (few22_c l 12 _ (by omega) (fun e h=>okEdit_E (hle e h)))) ?_
  all_goals first|refine Fo ?_|refine On no' ?_
  all_goals refine Dd pk' ?_
  all_goals refine Dd mv' ?_
  all_goals refine Sp 31 (fun h31=>?_) fun h31=>?_
  all_goals try contradiction
  all_goals first|refine Fo ?_|refine On mv' ?_
  all_goals first|refine Fo ?_|refine On (ll' Tryz.underlying52) ?_
  all_goals first|refine Fo ?_|refine On gt' ?_
  all_goals refine Dd pk' ?_
  all_goals refine Dd mv' ?_
  all_goals refine Sp 36 (fun h36=>?_) fun h36=>?_
  all_goals try contradiction
  all_goals first|refine Fo ?_|refine On mv' ?_
  all_goals first|refine Fo ?_|refine On (by exact opr_call rfl rfl Tryz.call15 rfl (changeValid_c l _ (by omega) hle)) ?_
  all_goals first|refine Fo ?_|refine On no' ?_
  all_goals refine Dd pk' ?_
  all_goals refine al_nil ?_
  all_goals(exact⟨⟨_,rfl,by first|(simp_all;done)|(simp_all;intro h;omega)⟩,rfl,rfl,rfl⟩)
 refine Cn (fun hc1=>?_) fun hc1=>?_
 ·skip
  refine Sq<|Rg<|Dd mv'<|Dd as'<|Zz<|awp_ret ?_
  refine Rt ?_
  exact⟨rfl,rfl⟩
 skip
 have hb:(gFewC m []=true∧few22 l 12=true)∧od.length≤20∧gChange l=true:=by have h:=hc1;simp only [Bool.or_eq_false_iff,Bool.not_eq_false',decide_eq_false_iff_not] at h;exact⟨h.1.1,by omega,h.2⟩
 obtain ⟨⟨hf1,hf2⟩,hol,hgc⟩:=hb
 have hl200:=(gChange_all hgc).2.1
 have hgu:gUnits l=(roots (top (topsE l)) l.length).map (grY l):=by rw [gUnits,if_pos hgc,groups]
 obtain ⟨R0,hR0⟩:∃ R,R=roots (top (topsE l)) l.length:=⟨_,rfl⟩
 rw [← hR0] at hgu
 have hzu:zRows (gUnits l)=zG l R0:=by rw [hgu,zG]
 have hnu:(gUnits l).length=R0.length:=by rw [hgu,List.length_map]
 have hn0:R0.length≤l.length:=by rw [hR0,roots];exact Nat.le_trans (List.length_filter_le _ _) (by rw [List.length_range];exact Nat.le_refl _)
 have hun:∀ H,H.get 905=none→ACalls Tryz.prog 19 [.pv (slEdits l)] H (fun r H'=>r=.osl 905 R0.length 0 R0.length∧H'=[(905,oObU R0.length (zG l R0))]++H):=fun H h=>by
  have:=unitsO_c l hU hgc H h
  rwa [hzu,hnu] at this
 obtain ⟨n,hn⟩:∃ n,n=R0.length:=⟨_,rfl⟩
 rw [← hn] at hun hn0
 refine awp_skip<|Sq<|Rg<|Dd mv'<|Dd (by exact opr_call rfl rfl Tryz.call19 rfl (hun _ rfl))<|Dd as'<|Zz<|Sq<|Sq<|Rg<|Dd as'<|Zz<|awp_block ?_
 refine awp_loop2 (fun(i:Nat) (R:List Nat)=>([(1,.pv (slEdits l)),(2,.pv (slU8s od)),(3,.ref 3 0 0 0),(7,bv true),(8,.osl 905 n 0 n),(9,iv (i:Int))],[(905,oObU n (zG l R)),(3,mB m)])) (fun i R=>i≤n∧i≤od.length∧R.Perm R0) (fun i _=>n - i) 0 R0 ⟨Nat.zero_le _,Nat.zero_le _,.refl _⟩ ?_ ?_
 ·exact(Ent.wk (Eb<|Eb<|Ea<|Eb<|Ea<|Eb<|trivial) (Hc (zRows_clo _ _)<|Hc (mB_clo _ _)<|trivial) trivial)
 rintro i R ⟨hin,hio,hRp⟩
 have hRl:R.length=n:=by rw [hRp.length_eq,hn]
 have hzl:=zG_len l R
 refine Sq<|Sq ?_
 refine awp_bool (t:=53) (n:=11) (X:=decide ((i:Int) < (n:Int))&&decide ((i:Int) < ((od.map encU8).length:Int))) ?_ ?_
 ·all_goals refine Dd mv' ?_
  all_goals refine Dd mv' ?_
  all_goals refine Dd (by exact opd_len_osl rfl Tryz.underlying33 rfl rfl rfl) ?_
  all_goals refine Dd lss' ?_
  all_goals refine Dd mv' ?_
  all_goals refine Sp 48 (fun h48=>?_) fun h48=>?_
  all_goals try contradiction
  all_goals first|refine Fo ?_|refine On mv' ?_
  all_goals first|refine Fo ?_|refine On mv' ?_
  all_goals first|refine Fo ?_|refine On (ll' Tryz.underlying52) ?_
  all_goals first|refine Fo ?_|refine On lss' ?_
  all_goals refine Dd pk' ?_
  all_goals refine al_nil ?_
  all_goals(exact⟨⟨_,rfl,by first|(simp_all;done)|(simp_all;intro h;omega)⟩,rfl,rfl,rfl⟩)
 refine Cn (fun hc2=>?_) fun hc2=>?_
 ·skip
  have hlt:i < n∧i < od.length:=by have h:=hc2;rw [Bool.and_eq_true,decide_eq_true_eq,decide_eq_true_eq] at h;omega
  obtain ⟨hlt,hlo⟩:=hlt
  obtain ⟨q,hq⟩:=get_of_lt hlo
  have hiq:=map_get (f:=encU8) hq
  have hqr:=hod q (List.mem_of_getElem? hq)
  have hkn:q.toNat % n < n:=Nat.mod_lt _ (by omega)
  obtain ⟨k,hk⟩:∃ k,k=q.toNat % n:=⟨_,rfl⟩
  rw [← hk] at hkn
  have hrem:q.tmod (n:Int)=(k:Int):=by
   obtain ⟨a,rfl⟩:=Int.eq_ofNat_of_zero_le hqr.1
   rw [hk]
   rfl
  have hgi:=zG_get (l:=l) (R:=R) (i:=i) (by omega)
  have hgk:=zG_get (l:=l) (R:=R) (i:=k) (by omega)
  have hgk2:=zG_get (l:=l) (R:=R.set i (R.getD k 0)) (i:=k) (by rw [List.length_set];omega)
  refine awp_skip<|Sq<|awp_block<|Sq<|Rg<|Dd mv'<|Dd mv'<|Dd (xp' so52)<|Dd (lp' Tryz.isAgg5)<|Dd (by exact opd_conv_int rfl Tryz.underlying5 Tryz.underlying3 rfl (by exact w64 (by omega) (by omega)))<|Dd mv'<|Dd (by exact opd_len_osl rfl Tryz.underlying33 rfl rfl rfl)<|Dd (by exact opd_rem rfl rfl rfl (by omega) hrem)<|Dd as'<|Zz ?_
  refine awp_drawc follows ?_
  refine Cr [] (fun _ _=>mv')<|Cr [] (fun _ _=>mv')<|Cr [] (fun _ _=>mv')<|Cr [] (fun _ _=>mv')<|Cr [] (fun _ _=>mv')<|Cr [] (fun _ _=>mv')<|Cr [905] (fun H1 hH=>by exact x_index_osl rfl so33 rfl ((hH _ rfl).trans rfl) rfl rfl rfl (by omega) (by exact Int.toNat_natCast _) (show k < n by omega) (Nat.zero_add _))<|Cr [905] (fun H1 hH=>by exact opd_load1_ref rfl Tryz.isAgg42 rfl ((hH _ rfl).trans rfl) rfl hgk rfl)<|Cr [] (fun _ _=>mv')<|Cr [] (fun _ _=>mv')<|Cr [905] (fun H1 hH=>by exact x_index_osl rfl so33 rfl ((hH _ rfl).trans rfl) rfl rfl rfl (by omega) (by exact Int.toNat_natCast _) hlt (Nat.zero_add _))<|Cr [905] (fun H1 hH=>by exact opd_load1_ref rfl Tryz.isAgg42 rfl ((hH _ rfl).trans rfl) rfl hgi rfl)<|Cr [905] (fun H1 hH=>by exact x_index_osl rfl so33 rfl ((hH _ rfl).trans rfl) rfl rfl rfl (by omega) (by exact Int.toNat_natCast _) hlt (Nat.zero_add _))<|Cp [905] (fun H1 hH=>by exact x_store1 rfl Tryz.sizeOf42 rfl rfl rfl ((hH _ rfl).trans rfl) rfl hgi Nat.zero_lt_one rfl (zG_set l R _ _)) ?_
  refine Cr [905] (fun H1 hH=>by exact x_index_osl rfl so33 rfl ((hH _ rfl).trans rfl) rfl rfl rfl (by omega) (by exact Int.toNat_natCast _) (show k < n by omega) (Nat.zero_add _))<|Cp [905] (fun H1 hH=>by exact x_store1 rfl Tryz.sizeOf42 rfl rfl rfl ((hH _ rfl).trans rfl) rfl hgk2 Nat.zero_lt_one rfl (zG_set l _ _ _)) ?_
  refine dc_nil ⟨by kernel_rfl,?_⟩
  refine Rg<|Dd mv'<|Dd ad'<|Dd as'<|Zz ?_
  refine⟨i+1,swpR R i k,⟨by omega,by omega,(swpR_perm (by omega) (by omega)).trans hRp⟩,by omega,?_⟩
  exact(Ent.wk (Eb<|Eb<|Ea<|Eb<|Ea<|Eb<|trivial) (Hc (zRows_clo _ _)<|Hc (mB_clo _ _)<|trivial) trivial)
 skip
 refine awp_exit<|Sq<|Rg<|Dd (by exact opd_assign_own (id:=906) (sz:=15) (ty:=51) rfl rfl rfl)<|Zz<|Sq<|Sq<|Rg<|Dd as'<|Zz<|awp_block ?_
 skip
 refine awp_loop (σ:=Nat) (fun i=>([(1,.pv (slEdits l)),(3,.ref 3 0 0 0),(7,bv true),(8,.osl 905 n 0 n),(11,.osl 906 (turnedE l (R.take i)).length 0 (turnedE l (R.take i)).length),(12,iv (i:Int))],[(906,⟨(turnedE l (R.take i)).length,15,51,eRows (turnedE l (R.take i))⟩),(905,oObU n (zG l R)),(3,mB m)])) (fun i=>i≤n) (fun i=>n - i) 0 (Nat.zero_le _) ?_ ?_
 ·exact(Ent.wk (Eb<|Ea<|Eb<|Ea<|Ea<|Eb<|trivial) (Hc (eRows_clo _ _)<|Hc (zRows_clo _ _)<|Hc (mB_clo _ _)<|trivial) trivial)
 rintro i hi
 refine Sq<|Sq<|Rg<|Dd mv'<|Dd mv'<|Dd (by exact opd_len_osl rfl Tryz.underlying33 rfl rfl rfl)<|Dd lss'<|Zz ?_
 refine Cn (fun hc3=>?_) fun hc3=>?_
 ·skip
  have hlt:i < n:=by have:=of_decide_eq_true hc3;omega
  have hgi:=zG_get (l:=l) (R:=R) (i:=i) (by omega)
  obtain ⟨g,hg⟩:∃ g,g=grY l (R.getD i 0):=⟨_,rfl⟩
  rw [← hg] at hgi
  have hmg:((g.map fun(x:Nat)=>(x:Int)).map encInt).length=g.length:=by rw [List.length_map,List.length_map]
  have hgr:∀ x∈g,x < l.length:=fun x hx=>by rw [hg] at hx;exact(mem_grp.1 hx).1
  have hgl:g.length≤l.length:=by rw [hg];exact Nat.le_trans (List.length_filter_le _ _) (by rw [List.length_range];exact Nat.le_refl _)
  rw [← tnA_zero l R i]
  refine awp_skip<|Sq<|awp_block<|Sq<|Rg<|Dd as'<|Zz<|awp_block ?_
  refine awp_loop (σ:=Nat) (fun j=>([(1,.pv (slEdits l)),(3,.ref 3 0 0 0),(7,bv true),(8,.osl 905 n 0 n),(11,.osl 906 (tnA l R i j).length 0 (tnA l R i j).length),(12,iv (i:Int)),(13,iv (j:Int))],[(906,⟨(tnA l R i j).length,15,51,eRows (tnA l R i j)⟩),(905,oObU n (zG l R)),(3,mB m)])) (fun j=>j≤g.length) (fun j=>g.length - j) 0 (Nat.zero_le _) ?_ ?_
  ·exact(Ent.wk (Eb<|Ea<|Eb<|Ea<|Ea<|Eb<|Eb<|trivial) (Hc (eRows_clo _ _)<|Hc (zRows_clo _ _)<|Hc (mB_clo _ _)<|trivial) trivial)
  rintro j hj
  have hTl:=eRows_len (tnA l R i j)
  have hTs:=tnA_small (l:=l) (R:=R) (i:=i) (j:=j) (by omega) hl200
  refine Sq<|Sq<|Rg<|Dd mv'<|Dd mv'<|Dd mv'<|Dd (by exact x_index_osl rfl so33 rfl rfl rfl rfl rfl (by omega) (by exact Int.toNat_natCast _) hlt (Nat.zero_add _))<|Dd (by exact opd_load1_ref rfl Tryz.isAgg42 rfl rfl rfl hgi rfl)<|Dd (ll' Tryz.underlying42)<|Dd lss'<|Zz ?_
  refine Cn (fun hc4=>?_) fun hc4=>?_
  ·skip
   have hjl:j < g.length:=by have:=of_decide_eq_true hc4;omega
   obtain ⟨x,hx⟩:=get_of_lt hjl
   have hxl:=hgr x (List.mem_of_getElem? hx)
   have hix:((g.map fun(x:Nat)=>(x:Int)).map encInt)[j]?=some [.int .i64 (x:Int)]:=by rw [List.getElem?_map,List.getElem?_map,hx];rfl
   have hnx:=tnA_next (l:=l) (R:=R) (i:=i) (j:=j) (by rw [← hg];exact hx)
   obtain ⟨e,he⟩:=get_of_lt hxl
   have hie:=map_get (f:=encEdit) he
   have hed:l.getD x eNone=e:=by rw [List.getD_eq_getElem?_getD,he];rfl
   rw [hed] at hnx
   have hnl:(tnA l R i j++[e]).length=(tnA l R i j).length+1:=by rw [List.length_append];rfl
   refine awp_skip<|Sq<|awp_block<|Sq<|Rg<|Dd mv'<|Dd mv'<|Dd (by exact x_index_osl rfl so33 rfl rfl rfl rfl rfl (by omega) (by exact Int.toNat_natCast _) hlt (Nat.zero_add _))<|Dd (by exact opd_load1_ref rfl Tryz.isAgg42 rfl rfl rfl hgi rfl)<|Dd mv'<|Dd (xp' so42)<|Dd (lp' Tryz.isAgg3)<|Dd as'<|Zz<|Sq<|Sq ?_
   refine awp_bool (t:=107) (n:=9) (X:=false) ?_ ?_
   ·all_goals refine Dd mv' ?_
    all_goals refine Dd lss' ?_
    all_goals refine Dd mv' ?_
    all_goals refine Sp 102 (fun h102=>?_) fun h102=>?_
    all_goals try contradiction
    all_goals(refine al_ond rfl rfl rfl rfl rfl rfl (by exact opd_move rfl rfl) ?_)
    all_goals(refine al_ond rfl rfl rfl rfl rfl rfl (by exact opd_move rfl rfl) ?_)
    all_goals(refine al_ond rfl rfl rfl rfl rfl rfl (by exact opd_len_sl rfl Tryz.underlying22 rfl) ?_)
    all_goals(refine al_ond rfl rfl rfl rfl rfl rfl (by exact opd_geq rfl rfl rfl) ?_)
    all_goals refine Dd pk' ?_
    all_goals refine al_nil ?_
    all_goals(exact⟨⟨_,rfl,by(simp;omega)⟩,rfl,rfl,rfl⟩)
   refine Cn (fun hc5=>?_) fun hc5=>?_
   ·skip
    cases hc5
   skip
   refine awp_skip<|Rg<|Dd mv'<|Dd mv'<|Dd mv'<|Dd (xp' so22)<|Dd (by exact opd_loadn_pad rfl Tryz.isAgg51 Tryz.sizeOf51 rfl (by omega) (by simp only [Zl,encTag,encObj,encStr,encEdit,encInt];rfl) rfl)<|Dd (by exact x_buildSlice [encEdit e] rfl so22 rfl rfl rfl rfl rfl (by intro r hr;rw [List.mem_singleton] at hr;subst hr;rfl))<|Dd (by exact x_append (ps:=[encEdit e]) rfl so22 ei51 rfl rfl rfl rfl rfl hTl rfl (by intro r hr;rw [List.mem_singleton] at hr;subst hr;rfl) (m:=1) rfl (by omega) rfl (eRows_app (tnA l R i j) e))<|Dd as'<|Zz<|Rg<|Dd mv'<|Dd ad'<|Dd as'<|Zz ?_
   refine⟨j+1,by omega,by omega,?_⟩
   rw [hnx,hnl]
   exact(Ent.wk (Eb<|Ea<|Eb<|Ea<|Ea<|Eb<|Eb<|trivial) (Hc (eRows_clo _ _)<|Hc (zRows_clo _ _)<|Hc (mB_clo _ _)<|trivial) trivial)
  skip
  have hjl:j=g.length:=by have:=of_decide_eq_false hc4;omega
  subst hjl
  have hte:=tnA_end (l:=l) (R:=R) (i:=i) (by omega)
  rw [← hg] at hte
  rw [hte]
  refine awp_exit<|Rg<|Dd mv'<|Dd ad'<|Dd as'<|Zz ?_
  exact⟨i+1,by omega,by omega,(Ent.wk (Eb<|Ea<|Eb<|Ea<|Ea<|Eb<|trivial) (Hc (eRows_clo _ _)<|Hc (zRows_clo _ _)<|Hc (mB_clo _ _)<|trivial) trivial)⟩
 skip
 have hge:i=n:=by have:=of_decide_eq_false hc3;omega
 subst hge
 rw [List.take_of_length_le (Nat.le_of_eq hRl)]
 have hRR:R.Perm (roots (top (topsE l)) l.length):=by rw [← hR0];exact hRp
 have htl:=turned_len hgc hRR
 have htm:∀ e∈turnedE l R,okE e:=fun e he=>hle e (turned_mem he)
 obtain ⟨T,hT⟩:∃ T,T=turnedE l R:=⟨_,rfl⟩
 have hor:=fun h1 h2=>all_orders (m:=m) hgc hRR h1 h2
 rw [← hT] at hor htl htm ⊢
 have hmT:(T.map encEdit).length=T.length:=List.length_map _
 have ho1:=all_okM (l:=l) hm hle
 have ho2:=all_okM (l:=T) hm htm
 have hA1:∀ H,ACalls Tryz.prog 25 [.agg [.pv (slObjs m)],.pv (slEdits l)] H (fun r H'=>r=.tup [.agg [.pv (slObjs (gAll m l).1)],iv (gAll m l).2.1,iv (gAll m l).2.2]∧H'=H):=fun H=>all_c m l H hm (by omega) hle
 have hA2:∀ H,ACalls Tryz.prog 25 [.agg [.pv (slObjs m)],.pv (slEdits T)] H (fun r H'=>r=.tup [.agg [.pv (slObjs (gAll m T).1)],iv (gAll m T).2.1,iv (gAll m T).2.2]∧H'=H):=fun H=>all_c m T H hm (by omega) htm
 obtain ⟨A,hA⟩:∃ A,A=gAll m l:=⟨_,rfl⟩
 obtain ⟨B,hB⟩:∃ B,B=gAll m T:=⟨_,rfl⟩
 rw [← hA] at hA1 ho1 hor
 rw [← hB] at hA2 ho2 hor
 refine AWp.ent (Ent.fzG (id:=906) (E':=[(1,.pv (slEdits l)),(3,.ref 3 0 0 0),(7,bv true),(11,.pv (slEdits T))]) (H':=[(3,mB m)]) (T.map encEdit) rfl (eRows_ofY T) ?_ rfl ?_ ?_) ?_
 ·intro p hp
  simp only [List.mem_cons,List.not_mem_nil,or_false] at hp
  rcases hp with rfl|rfl|rfl|rfl
  ·exact⟨_,rfl,.same (by simp;try rfl)⟩
  ·exact⟨_,rfl,.same (by simp;try rfl)⟩
  ·exact⟨_,rfl,.same (by simp;try rfl)⟩
  exact⟨_,rfl,.osl (take_rows encEdit T)⟩
 ·exact⟨⟨_,rfl,rfl,rfl,rfl,fzr_one rfl (fz_cons (.same (by simp;try rfl)) fz_nil)⟩,trivial⟩
 ·exact trivial
 refine awp_exit<|Sq<|Rg<|Dd (by exact opd_loadn_ref rfl Tryz.isAgg38 Tryz.sizeOf38 rfl rfl rfl rfl (by simp only [Zl,encTag,encObj,encStr,encEdit,encInt];rfl) rfl)<|Dd mv'<|Dd (by exact opr_call rfl rfl Tryz.call25 rfl (hA1 _))<|Dd mv'<|Dd ex'<|Dd ex'<|Dd ex'<|Dd (by exact x_alloc (id:=15) rfl zo38 rfl rfl)<|Uu (sa' Tryz.sizeOf38)<|Dd as'<|Dd as'<|Zz<|Sq<|Rg<|Dd (by exact opd_loadn_ref rfl Tryz.isAgg38 Tryz.sizeOf38 rfl rfl rfl rfl (by simp only [Zl,encTag,encObj,encStr,encEdit,encInt];rfl) rfl)<|Dd mv'<|Dd (by exact opr_call rfl rfl Tryz.call25 rfl (hA2 _))<|Dd mv'<|Dd ex'<|Dd ex'<|Dd ex'<|Dd (by exact x_alloc (id:=18) rfl zo38 rfl rfl)<|Uu (sa' Tryz.sizeOf38)<|Dd as'<|Dd as'<|Zz<|Sq ?_
 refine awp_bool (t:=6) (n:=26) (X:=true) ?_ ?_
 ·all_goals refine Dd mv' ?_
  all_goals refine Dd mv' ?_
  all_goals refine Sp 130 (fun h130=>?_) fun h130=>?_
  all_goals try contradiction
  all_goals(refine al_ond rfl rfl rfl rfl rfl rfl (by exact opd_move rfl rfl) ?_)
  all_goals(refine al_ond rfl rfl rfl rfl rfl rfl (by exact opd_len_sl rfl Tryz.underlying22 rfl) ?_)
  all_goals(refine al_ond rfl rfl rfl rfl rfl rfl (by exact opd_move rfl rfl) ?_)
  all_goals(refine al_ond rfl rfl rfl rfl rfl rfl (by exact opd_len_sl rfl Tryz.underlying22 rfl) ?_)
  all_goals(refine al_ond rfl rfl rfl rfl rfl rfl (by exact opd_eql rfl rfl rfl) ?_)
  all_goals refine Dd pk' ?_
  all_goals refine Dd mv' ?_
  all_goals refine Sp 137 (fun h137=>?_) fun h137=>?_
  all_goals try contradiction
  all_goals first|refine Fo ?_|refine On mv' ?_
  all_goals first|refine Fo ?_|refine On ne' ?_
  all_goals first|refine Fo ?_|refine On mv' ?_
  all_goals(first|refine Sp 140 (fun h140=>?_) fun h140=>?_|refine al_dup (t:=140) rfl ?_)
  all_goals try contradiction
  all_goals first|refine Fo ?_|refine Fu ?_|refine On mv' ?_
  all_goals first|refine Fo ?_|refine Fu ?_|refine On ne' ?_
  all_goals first|refine Fo ?_|refine On pk' ?_
  all_goals first|refine Fo ?_|refine On mv' ?_
  all_goals(first|refine Sp 144 (fun h144=>?_) fun h144=>?_|refine al_dup (t:=144) rfl ?_)
  all_goals try contradiction
  all_goals first|refine Fo ?_|refine Fu ?_|refine On (by exact opd_loadn_ref rfl Tryz.isAgg38 Tryz.sizeOf38 rfl rfl rfl rfl (by simp only [Zl,encTag,encObj,encStr,encEdit,encInt];rfl) rfl) ?_
  all_goals first|refine Fo ?_|refine Fu ?_|refine On (by exact opd_loadn_ref rfl Tryz.isAgg38 Tryz.sizeOf38 rfl rfl rfl rfl (by simp only [Zl,encTag,encObj,encStr,encEdit,encInt];rfl) rfl) ?_
  all_goals first|refine Fo ?_|refine Fu ?_|refine On (by exact opr_call rfl rfl Tryz.call26 rfl (same12Y_c A.1 B.1 _ ho1)) ?_
  all_goals first|refine Fo ?_|refine On pk' ?_
  all_goals refine Dd pk' ?_
  all_goals refine Dd as' ?_
  all_goals refine al_nil ?_
  all_goals(exact⟨⟨_,rfl,by first|rfl|(simp_all;done)⟩,rfl,rfl,rfl⟩)
 refine awp_ret ?_
 refine Rt ?_
 exact⟨rfl,rfl⟩
end
section
theorem d_u8s {B n:Nat} {ps:List PV} (h:Sh Tryz.prog B (n+2) 52 ps):∃ l,ps=[slU8s l]∧l.length≤B∧∀ i,i∈l→(0≤i∧i≤255):=by
 obtain ⟨l,rfl,h1,h2⟩:=sh_rows (f:=encU8) (good:=fun i=>0≤i∧i≤255) Tryz.underlying52 h (fun r hr=>by
  obtain ⟨s,rfl,hs⟩:=sh_int Tryz.underlying5 hr
  exact⟨s,rfl,by simpa [Lit.wf,IntKind.min,IntKind.max,IntKind.signed,IntKind.bits] using hs⟩)
 exact⟨l,rfl,h1,h2⟩
theorem okU_of {l:List GEdit} (h:szEdits 1048576 l):okU l:=fun e he=>⟨okE_sz (by decide) (h.2 e he),by
 have h1:=(h.2 e he).2.2.2.2.2.2.2.2.1.1
 have h2:=(h.2 e he).2.2.2.2.2.2.2.2.2.2.2.2.2.1.1
 omega⟩
end
end Go.Proofs.YtlnfjkdacimblaaGreatDoor
