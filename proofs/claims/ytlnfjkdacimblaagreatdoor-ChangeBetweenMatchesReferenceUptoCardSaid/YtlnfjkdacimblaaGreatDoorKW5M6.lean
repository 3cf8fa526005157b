/-
  CONTRACTS: atlas.valid, at, Put, Drop. Conditions: lengths below 2^40.
  PLAIN: a map with an object put in: valid, in order, and the same views. Conditions: none.
  A nil SLICE THAT IS HANDED ON AS nil; slices that are made shorter; a call's contract at a small heap, used in a greater one.
 Conditions: each rule's own premises.
  CONTRACTS: slices.Index, Contains at strings and ints, Clone and Concat at strings; package edit: inner, referred, get. Conditions: lengths below 2^40.
  CONTRACTS: package edit: referred, get. Conditions: lengths below 2^40.
  CONTRACTS: slices.Clone, Grow, Concat at strings: what is returned never changes. Conditions: lengths below 2^40.
  CONTRACTS: atlas.Drop; package edit: split, join. Conditions: lengths below 2^40.
  CONTRACTS: package edit: join. Conditions: lengths below 2^40.
  CONTRACTS: package edit: perform. Conditions: lengths below 2^39.
  CONTRACTS: package edit: perform, the other operations. Conditions: lengths below 2^39.
  PLAIN: what a valid object's lists are at most; the sizes of what an edit puts. CONTRACT: perform. Conditions: sizes.
  CONTRACTS: package edit: after, Apply. Conditions: lengths below 2^39.
  PLAIN: maps by their lookups. Conditions: none.
  PLAIN: closed maps stay closed under edits; what an edit leads to, by operations. Conditions: none.
  slices.Sort OF AN OWNED SLICE OF TEXTS: the library's contract, carried over. Conditions: lengths below 2^62.
  slices.Sort at this program: the library's contract laid. Conditions: lengths below 2^62.
  CONTRACT: edit.Names. Conditions: lengths below 2^38.
  PLAIN: what an edit puts and drops is named by it; two edits without a common name commute. Conditions: none.
  CONTRACTS: atlas.Same, planisphereref06.Same, Has, the sizes' tests of layer 21, its example map. Conditions: lengths below 2^40.
  CONTRACTS: planispherelaw21.sample, head. Conditions: none.
  CONTRACT: planispherelaw21.head answers true. Conditions: none.
  CONTRACTS: the reference: letters, names, points, words, tags. Conditions: lengths below 2^62.
-/
import Derived.Test.YtlnfjkdacimblaaGreatDoorKW5M5
import Derived.Shelf.SortM.Plain
import Derived.Shelf.SortM.SortNone
import Derived.Ground.SlgmProg
set_option linter.unusedVariables false
set_option linter.unusedSimpArgs false
set_option maxRecDepth 100000
set_option maxHeartbeats 2000000
namespace Go.Proofs.YtlnfjkdacimblaaGreatDoor
open Go.Abs
section
def encMap (m:List GObj):List PV:=[slObjs m]
/-- slices.IndexFunc at planisphere/api.Map. -/
theorem indexFunc_Map (fv:AV) (l:List (List GObj)) (p:(List GObj)→Bool) (H:Heap) (hl:l.length < 4611686018427387904) (hf:∀ o,o∈l→CallsV Tryz.prog fv [.agg ((encMap o).map .pv)] H (fun r H'=>r=.pv (.bool (p o))∧H'=H)) :
    ACalls Tryz.prog 246 [.pv (.sl (l.map encMap)),fv] H (fun r H'=>r=.pv (.int .i64 (gidx p l))∧H'=H):=by
  refine Bd Tryz.func246 rfl Tryz.ntmps246<|Sq<|Rg<|Dd as'<|Zz<|Sq<|Sq<|Rg<|Dd mv'<|Dd (ll' Tryz.underlying244)<|Dd mv'<|Zz<|awp_block ?_
  refine awp_loop (σ:=Nat) (fun k=>([(0,.pv (.sl (l.map encMap))),(1,fv),(7,.pv (.int .i64 (l.map encMap).length)),(8,.pv (.int .i64 (k:Int)))],H)) (fun k=>k≤l.length∧∀ j,j < k→∀ b,l[j]?=some b→p b=false) (fun k=>l.length - k) 0 ⟨by omega,by omega⟩ ?_ ?_
  · exact E0
  · rintro k ⟨hk,hno⟩
    refine Sq<|Rg<|Dd lss'<|Zz<|Sq ?_
    refine Cn (fun hc1=>?_) fun hc1=>?_
    · have hlt:k < l.length:=by simpa using hc1
      obtain ⟨o,ho⟩:=get_of_lt hlt
      have hi:=map_get (f:=encMap) ho
      have hfo:=hf o (List.mem_of_getElem? ho)
      refine awp_skip<|Sq<|awp_block<|Sq<|Rg<|Dd mv'<|Dd as'<|Zz<|Sq<|Rg<|Dd mv'<|Dd mv'<|Dd mv'<|Dd (xp' so244)<|Dd (by exact opd_loadn_pad rfl Tryz.isAgg38 Tryz.sizeOf38 rfl (by omega) (by simp only [Zl,encMap];rfl) rfl)<|Dd (by exact opr_callV rfl rfl rfl (hfo))<|Zz ?_
      refine Cn (fun hc2=>?_) fun hc2=>?_
      · skip
        refine Sq<|Rg<|Dd mv'<|Dd as'<|Zz<|awp_ret ?_
        exact aret1 (H':=H) (.inr rfl) rfl (rval_tmp rfl) Fin.refl ⟨by rw [gidx,fidx_some hno ho hc2],rfl⟩
      · skip
        refine awp_skip<|Rg<|Dd ad'<|Dd mv'<|Zz ?_
        refine⟨k+1,⟨by omega,fun j hj b hb=>?_⟩,by omega,E0⟩
        by_cases e:j=k
        · subst e;rw [ho] at hb;cases hb;exact hc2
        · exact hno j (by omega) b hb
    · have hge : k = l.length := by have : l.length ≤ k := by simpa using hc1
                                    omega
      subst hge
      refine awp_exit<|Sq<|Rg<|Dd as'<|Zz<|awp_ret ?_
      exact aret1 (H':=H) (.inr rfl) rfl (rval_tmp rfl) Fin.refl ⟨by rw [gidx,fidx_none hno],rfl⟩
/-- slices.ContainsFunc at planisphere/api.Map. -/
theorem containsFunc_Map (fv:AV) (l:List (List GObj)) (p:(List GObj)→Bool) (H:Heap) (hl:l.length < 4611686018427387904) (hf:∀ H,∀ o,o∈l→CallsV Tryz.prog fv [.agg ((encMap o).map .pv)] H (fun r H'=>r=.pv (.bool (p o))∧H'=H)) :
  ACalls Tryz.prog 214 [.pv (.sl (l.map encMap)),fv] H (fun r H'=>r=bv (l.any p)∧H'=H):=by
 refine Bd Tryz.func214 rfl Tryz.ntmps214<|Sq<|Rg<|Dd as'<|Zz<|Sq<|Rg<|Dd mv'<|Dd mv'<|Dd (by exact opr_call rfl rfl Tryz.call246 rfl (indexFunc_Map fv l p _ hl (hf _)))<|Dd ge'<|Dd as'<|Zz<|awp_ret ?_
 refine aret1 (H':=H) (.inr rfl) rfl (rval_tmp rfl) Fin.refl ?_
 exact⟨by rw [← gidx_any],rfl⟩
theorem valids1_c (m:List GObj) (H:Heap) (hm:okM m):ACalls Tryz.prog 215 [.agg ((encMap m).map .pv)] H (fun r H'=>r=bv (!gMap m)∧H'=H):=by
 refine ACalls.pure ?_ (by simp [encMap]) H
 refine Bd Tryz.func215 rfl Tryz.ntmps215<|Sq<|Rg<|Dd (by exact opd_box (id:=1) rfl rfl rfl rfl rfl)<|Dd as'<|Zz<|Sq<|Rg<|Dd (by exact opd_loadn_ref rfl Tryz.isAgg38 Tryz.sizeOf38 rfl rfl rfl rfl (by simp only [Zl,encObj];rfl) rfl)<|Dd (by exact opr_call rfl rfl Tryz.call116 rfl (atlasValid_c m _ hm))<|Dd no'<|Dd as'<|Zz<|awp_ret ?_
 refine Rt ?_
 exact⟨rfl,rfl⟩
theorem valids_c (l:List (List GObj)) (H:Heap) (hl:l.length < 4611686018427387904) (hm:∀ m,m∈l→okM m):ACalls Tryz.prog 166 [.pv (.sl (l.map encMap))] H (fun r H'=>r=bv (l.all gMap)∧H'=H):=by
 refine ACalls.pure ?_ (by simp) H
 refine Bd Tryz.func166 rfl Tryz.ntmps166<|Sq<|Rg<|Dd as'<|Zz<|Sq<|Rg<|Dd mv'<|Dd (by exact opr_call rfl rfl Tryz.call214 rfl (containsFunc_Map (.pv (.fn 215)) l (fun m=>!gMap m) _ hl (fun H o ho=>CallsV.fn Tryz.call215 (valids1_c o H (hm o ho)))))<|Dd no'<|Dd as'<|Zz<|awp_ret ?_
 refine Rt ?_
 exact⟨by rw [List.any_eq_not_all_not];simp,rfl⟩
theorem at1_c (o:GObj) (s:ByteArray) (H:Heap):ACalls Tryz.prog 217 [av (encObj o),sv s] H (fun r H'=>r=iv (gCmp o.id s)∧H'=H):=by
 refine ACalls.pure ?_ (by simp) H
 refine Bd Tryz.func217 rfl Tryz.ntmps217<|Sq<|Rg<|Dd (by exact opd_box (id:=2) rfl rfl rfl rfl rfl)<|Dd as'<|Zz<|Sq<|Rg<|Dd (fr' fo49_0)<|Dd (l1' Tryz.isAgg9)<|Dd mv'<|Dd (by exact opr_call rfl rfl Tryz.call205 rfl (compare_c o.id s _))<|Dd as'<|Zz<|awp_ret ?_
 refine Rt ?_
 exact⟨rfl,rfl⟩
theorem at_c (m:List GObj) (s:ByteArray) (H:Heap) (hl:m.length < 1099511627776) (hu:ups m):ACalls Tryz.prog 167 [.agg [.pv (slObjs m)],sv s] H (fun r H'=>r=.tup [iv (lbI GObj.id m s:Nat),bv (hasK GObj.id m s)]∧H'=H):=by
 refine ACalls.pure ?_ (by simp) H
 refine Bd Tryz.func167 rfl Tryz.ntmps167<|Sq<|Rg<|Dd (by exact opd_box (id:=2) rfl rfl rfl rfl rfl)<|Dd as'<|Dd as'<|Zz<|Sq<|Rg<|Dd (fr' fo38_0)<|Dd (l1' Tryz.isAgg36)<|Dd mv'<|Dd (by exact opr_call rfl rfl Tryz.call216 rfl (bsf_GObj (.pv (.fn 217)) m s _ hl hu (fun o ho=>CallsV.fn Tryz.call217 (at1_c o s _))))<|Dd ex'<|Dd ex'<|Dd as'<|Dd as'<|Zz<|awp_ret ?_
 refine Ru ?_
 exact⟨rfl,rfl⟩
theorem encObj_rl (l:List GObj):∀ r∈l.map encObj,r.length=6:=fun r hr=>by
 obtain ⟨t,_,rfl⟩:=List.mem_map.1 hr
 rfl
/-- A map with an object in it. -/
def gWith (m:List GObj) (o:GObj):List GObj:=if hasK GObj.id m o.id then m.set (lbI GObj.id m o.id) o else m.take (lbI GObj.id m o.id)++o::m.drop (lbI GObj.id m o.id)
def gPutM (m:List GObj) (o:GObj):List GObj×Int :=
 if !gMap m||!gObj o then([],1)else if !hasK GObj.id m o.id&&decide (m.length=1000000)then([],2)else(gWith m o,0)
/-- A map out of an owned slice and another value are returned. -/
theorem Fin.map1 {H1:Heap} {id g n:Nat} {x:AV} {ob:Ob} (ps:List (List PV)) (hH:H1.get id=some ob) (hg:ob.g=g) (hps:ob.rows=ps.map (·.map .pv)) (hn:ps.length=n) (hx:Clo [] x) :
  Fin [] H1 (.tup [.agg [.osl id g 0 n],x]) [] (.tup [.agg [.pv (.sl ps)],x]):=by
 subst hg hn
 exact Fin.fz (id:=id) (ob:=ob) ps hH hps (.tup rfl (fz_cons (.agg rfl (fz_cons (.osl (by rw [Nat.zero_add,List.drop_zero,List.take_length])) fz_nil)) (fz_cons (.same hx) fz_nil))) rfl trivial trivial
theorem putM_c (m:List GObj) (o:GObj) (H:Heap) (hm:okM m) (ho:okO o) (hl:m.length < 1099511627776):ACalls Tryz.prog 119 [.agg [.pv (slObjs m)],av (encObj o)] H (fun r H'=>r=.tup [.agg [.pv (slObjs (gPutM m o).1)],iv (gPutM m o).2]∧H'=H):=by
 refine ACalls.pure ?_ (by simp) H
 have hml:(m.map encObj).length=m.length:=List.length_map _
 have hrl:=encObj_rl m
 have hv:=fun H=>valids_c [m] H (by show 1 < _;omega) (by intro x hx;rw [List.mem_singleton] at hx;subst hx;exact hm)
 rw [show ([m].all gMap)=gMap m by simp] at hv
 refine Bd Tryz.func119 rfl Tryz.ntmps119<|Sq<|Rg<|Dd (by exact opd_box (id:=2) rfl rfl rfl rfl rfl)<|Dd (by exact opd_box (id:=3) rfl rfl rfl rfl rfl)<|Dd (by exact x_alloc (id:=4) rfl zoN38 rfl rfl)<|Dd as'<|Zz<|Sq<|Sq ?_
 refine awp_bool (t:=17) (n:=10) (X:=!gMap m||!gObj o) ?_ ?_
 ·all_goals refine Dd (by exact opd_loadn_ref rfl Tryz.isAgg38 Tryz.sizeOf38 rfl rfl rfl rfl (by simp only [Zl,encObj];rfl) rfl) ?_
  all_goals refine Dd (by exact x_buildSlice ([m].map encMap) rfl so244 rfl rfl rfl rfl rfl (by simp [encMap])) ?_
  all_goals refine Dd (by exact opr_call rfl rfl Tryz.call166 rfl (hv _)) ?_
  all_goals refine Dd no' ?_
  all_goals refine Dd mv' ?_
  all_goals refine Sp 13 (fun h13=>?_) fun h13=>?_
  all_goals try contradiction
  all_goals first|refine Fo ?_|refine On (by exact opd_loadn_ref rfl Tryz.isAgg49 Tryz.sizeOf49 rfl rfl rfl rfl (by simp only [Zl,encObj];rfl) rfl) ?_
  all_goals first|refine Fo ?_|refine On (by exact opr_call rfl rfl Tryz.call91 rfl (objValid_c o _ ho)) ?_
  all_goals first|refine Fo ?_|refine On no' ?_
  all_goals refine Dd pk' ?_
  all_goals refine al_nil ?_
  all_goals(exact⟨⟨_,rfl,by(simp only [*,Zo];done)⟩,rfl,rfl,rfl⟩)
 refine Cn (fun hc1=>?_) fun hc1=>?_
 ·have e:gPutM m o=([],1):=by rw [gPutM,if_pos hc1]
  rw [e]
  refine Sq<|Rg<|Dd (bu' bo38)<|Uu (sa' Tryz.sizeOf38)<|Dd as'<|Zz<|awp_ret ?_
  refine aret2 (H':=[]) (.inr rfl) rfl (rval_cell rfl Tryz.isAgg38 Tryz.sizeOf38 rfl rfl rfl (by simp only [Zl,encObj];rfl) rfl) (rval_tmp rfl) (Fin.wk (by simp) trivial trivial) ?_
  exact⟨rfl,rfl⟩
 have hg:gMap m=true:=by
  have h:=hc1
  revert h
  cases gMap m<;>simp
 have hu:=(gMap_iff.1 hg).2.1
 have hle:=lbI_le GObj.id m o.id
 have hgp:gPutM m o=if !hasK GObj.id m o.id&&decide (m.length=1000000)then([],2)else(gWith m o,0):=by rw [gPutM,if_neg (by rw [hc1];simp)]
 obtain ⟨i,hi0⟩:∃ i,i=lbI GObj.id m o.id:=⟨_,rfl⟩
 rw [gWith,← hi0] at hgp
 rw [← hi0] at hle
 have hat:=fun H=>at_c m o.id H hl hu
 rw [← hi0] at hat
 refine awp_skip<|Sq<|Rg<|Dd (by exact opd_loadn_ref rfl Tryz.isAgg38 Tryz.sizeOf38 rfl rfl rfl rfl (by simp only [Zl,encObj];rfl) rfl)<|Dd (fr' fo49_0)<|Dd (l1' Tryz.isAgg9)<|Dd (by exact opr_call rfl rfl Tryz.call167 rfl (hat _))<|Dd mv'<|Dd ex'<|Dd ex'<|Dd as'<|Dd as'<|Zz<|Sq<|Rg<|Dd (fr' fo38_0)<|Dd (l1' Tryz.isAgg36)<|Dd (by exact opr_call rfl rfl Tryz.call168 rfl (clone_Obj (m.map encObj) _ (Closed.ofL ⟨(by(simp;done)),(by(simp;done)),(by(simp;done)),trivial⟩) rfl rfl (by omega) hrl))<|Dd (bu' bo38)<|Dd (by exact x_alloc (id:=8) rfl zoN38 rfl rfl)<|Uu (sa' Tryz.sizeOf38)<|Zz<|Sq<|awp_block<|Sq<|Rg<|Dd mv'<|Dd as'<|Zz ?_
 refine Cn (fun hc2=>?_) fun hc2=>?_
 ·have hf:hasK GObj.id m o.id=true:=hc2
  obtain ⟨x,hx,hxk⟩:=hasK_get hu hf
  rw [← hi0] at hx
  have hlt:=(List.getElem?_eq_some_iff.1 hx).1
  rw [hf] at hgp
  simp only [Bool.not_true,Bool.false_and,Bool.false_eq_true,if_false,if_true] at hgp
  rw [hgp]
  have hir:(pvR (m.map encObj))[i]?=some ((encObj x).map .pv):=by rw [pvR,List.map_map,List.getElem?_map,hx];rfl
  refine Rg<|Dd (fr' fo38_0)<|Dd (l1' Tryz.isAgg36)<|Dd mv'<|Dd (by exact opd_loadn_ref rfl Tryz.isAgg49 Tryz.sizeOf49 rfl rfl rfl rfl (by simp only [Zl,encObj];rfl) rfl)<|Dd (by exact x_index_osl rfl so36 rfl rfl rfl rfl rfl (by omega) (by exact Int.toNat_natCast _) (by rw [hml];exact hlt) (Nat.zero_add _))<|Uu (by exact x_store rfl Tryz.sizeOf49 rfl rfl rfl rfl rfl rfl hir (Nat.le_of_ble_eq_true rfl) rfl rfl)<|Zz<|Sq<|Rg<|Dd (ln' Tryz.isAgg38 Tryz.sizeOf38)<|Uu (sa' Tryz.sizeOf38)<|Dd as'<|Zz<|awp_ret ?_
  refine aret2 (H':=[]) (.inr rfl) rfl (rl' Tryz.isAgg38 Tryz.sizeOf38) (rval_tmp rfl) (Fin.map1 (id:=901) ((m.set i o).map encObj) rfl rfl (by rw [List.map_set,List.map_set];rfl) (by rw [List.length_map,List.length_set,List.length_map]) (by simp)) ?_
  exact⟨rfl,rfl⟩
 have hf:hasK GObj.id m o.id=false:=hc2
 rw [hf] at hgp
 simp only [Bool.not_false,Bool.true_and,Bool.false_eq_true,if_false] at hgp
 refine Sq<|Rg<|Dd (fr' fo38_0)<|Dd (l1' Tryz.isAgg36)<|Dd (ll' Tryz.underlying36)<|Dd eql'<|Dd as'<|Zz ?_
 refine Cn (fun hc3=>?_) fun hc3=>?_
 ·have h:m.length=1000000:=by
   have h:=of_decide_eq_true hc3
   omega
  rw [hgp,if_pos (by simp [h])]
  refine Sq<|Rg<|Dd (bu' bo38)<|Uu (sa' Tryz.sizeOf38)<|Dd as'<|Zz<|awp_ret ?_
  refine aret2 (H':=[]) (.inr rfl) rfl (rl' Tryz.isAgg38 Tryz.sizeOf38) (rval_tmp rfl) (Fin.wk (by simp) trivial trivial) ?_
  exact⟨rfl,rfl⟩
 have h:¬ m.length=1000000:=by
  have h:=of_decide_eq_false hc3
  omega
 rw [hgp,if_neg (by simp [h])]
 refine Rg<|Dd (fr' fo38_0)<|Dd (l1' Tryz.isAgg36)<|Dd mv'<|Dd (by exact opd_loadn_ref rfl Tryz.isAgg49 Tryz.sizeOf49 rfl rfl rfl rfl (by simp only [Zl,encObj];rfl) rfl)<|Dd (by exact x_buildSlice_own (id:=902) rfl so36 rfl rfl rfl rfl (by intro r hr;rw [List.mem_singleton] at hr;subst hr;rfl) rfl)<|Dd (by exact opr_call rfl rfl Tryz.call169 rfl (insert_Obj (m.map encObj) (encObj o) i 1 _ (Closed.ofL ⟨(by(simp;done)),(by exact clo_osl1 rfl),(by(simp;done)),(by(simp;done)),(by(simp;done)),(by(simp;done)),(by(simp;done)),trivial⟩) rfl rfl rfl (by omega) (by omega) hrl rfl))<|Dd (fr' fo38_0)<|Uu (sa' Tryz.sizeOf36)<|Zz<|Sq<|Rg<|Dd (ln' Tryz.isAgg38 Tryz.sizeOf38)<|Uu (sa' Tryz.sizeOf38)<|Dd as'<|Zz<|awp_ret ?_
 refine aret2 (H':=[]) (.inr rfl) rfl (rl' Tryz.isAgg38 Tryz.sizeOf38) (rval_tmp rfl) (Fin.wk (by simp) trivial trivial) ?_
 have hs:slObjs (m.take i++o::m.drop i)=.sl ((m.map encObj).take i++encObj o::(m.map encObj).drop i):=by rw [slObjs,List.map_append,List.map_take,List.map_cons,List.map_drop]
 exact⟨by rw [hs];rfl,rfl⟩
end
section
theorem gWith_len (m:List GObj) (o:GObj):(gWith m o).length=if hasK GObj.id m o.id then m.length else m.length+1:=by
 have:=lbI_le GObj.id m o.id
 unfold gWith
 split
 ·rw [List.length_set]
 rw [List.length_append,List.length_cons,List.length_take,List.length_drop];omega
theorem gWith_mem {m:List GObj} {o x:GObj} (h:x∈gWith m o):x=o∨x∈m:=by
 unfold gWith at h
 split at h
 ·rcases List.mem_or_eq_of_mem_set h with h|h
  ·exact .inr h
  exact .inl h
 rcases List.mem_append.1 h with h|h
 ·exact .inr (List.mem_of_mem_take h)
 rcases List.mem_cons.1 h with h|h
 ·exact .inl h
 exact .inr (List.mem_of_mem_drop h)
theorem okM_with {m:List GObj} {o:GObj} (hm:okM m) (ho:okO o) (hl:m.length < 1099511627776):okM (gWith m o):=by
 refine⟨by rw [gWith_len];split<;>omega,fun x hx=>?_⟩
 rcases gWith_mem hx with rfl|hx
 ·exact ho
 exact hm.2 x hx
end
end Go.Proofs.YtlnfjkdacimblaaGreatDoor
namespace Go.Abs
section
section
variable {P:Program} {G0:Heap} {N:Nat} {Q:Exit→Env→Heap→Prop} {E:Env} {H:Heap} {code:Code}
/-- A nil slice as an object of its own, whose capacity is 0. -/
theorem awp_nilc {t id sz:Nat} {ty:TypeId} (hx:E.get t=some (.pv .nils)) (hid:H.get id=none) (hsz:Nat.blt 0 sz=true) (h:AWp P G0 N code Q ((t,.osc id 0 0 0 0)::E) ((id,⟨0,sz,ty,[]⟩)::H)):AWp P G0 N code Q E H:=by
 intro G hG a w hs
 obtain ⟨I,ι,hr,hst,he⟩:=hs.rel
 obtain ⟨v,hv,hvr⟩:=he t _ hx
 have hz:0 < sz:=by simpa [Nat.blt_eq] using hsz
 obtain ⟨k1,k2⟩:=Rel.adopt (sz:=sz) (ty:=ty) hr hid hz
 have hvn:v=.slice none 0 0:=by
  have:=hvr.pv_inv
  cases this;rfl
 subst hvn
 refine h G hG a w ⟨hs.defers,hs.size,I,_,k1,hst.trans k2,fun u x hu=>?_⟩
 by_cases e:t=u
 ·subst e
  rw [Env.get_cons_same] at hu;cases hu
  exact⟨_,hv,.osc ⟨0,sz,ty,[]⟩ (get_cons_same _ _ _) (Nat.le_refl _) rfl fun _=>⟨hz,Nat.le_refl _,.inr ⟨by simp,rfl,rfl,rfl,rfl⟩⟩⟩
 rw [Env.get_cons_other _ _ e] at hu
 obtain ⟨c,h1,h2⟩:=he u x hu
 exact⟨c,h1,h2.mono hr k2⟩
end
section
variable {P:Program} {N:Nat} {o:Oper} {E:Env} {H:Heap} {T:TypeId} {x y:Operand} {Q:AV→Heap→Prop}
/-- A call whose first argument is nil. -/
theorem opr_call_nil {F:FuncId} {f y:Operand} {at_:Array TypeId} {v:AV} (ho:o.op=.call {callee:=.value f,args:=#[.const (.slice none 0 0),y],argTypes:=at_}) (hf:aeval E f=some (.pv (.fn F)))
  (hc:∀ (args:Array Value) (w:World),(callFunc F args).run P w=.ok (.enter F args) w) (hv:aeval E y=some v) (h:ACalls P F [.pv .nils,v] H Q):OpR P N o E H Q:=by
 intro a w I ι _ _ hr he K QQ hk
 have hfv:=(aeval_rel he hf).fn_inv
 unfold Oper.wpW execOp
 simp only [ho,resolve,hfv,Deferred.ofValue,Sem.run_bind,Sem.run_pure,Result.andThen_ok,invoke,hc,Oper.uponW_enter]
 refine(h I ι w _ hr (by simp) (fun i u b hu hb=>?_)).mono ?_
 ·match i with
  | 0=>simp [Act.eval] at hu hb;subst hu hb;exact .pv .nils
  | 1=>simp at hu hb;subst hu hb;exact aeval_rel he hv
  | i+2=>simp at hb
 rintro e w' ⟨r,H',I',ι',v,rfl,hq,k1,k2,k3⟩
 exact hk v w' I' ι' r H' hq k1 k2 k3
end
/-- An object loses its last rows; what led to it leads nowhere. -/
theorem Rel.cut {I:Nat→Prop} {ι:Plc} {H H':Heap} {w:World} {id k n:Nat} {ob:Ob} (hr:Rel I ι H w) (hH:H.get id=some ob) (hg:ob.g < k) (hz:0 < ob.sz)
  (h1:H'.get id=some ⟨k,ob.sz,ob.ty,ob.rows.take n⟩) (h2:∀ j,j≠id→H'.get j=H.get j):Rel I ι H' w∧Step I ι H w I ι H' w:=by
 have hst:Step I ι H w I ι H' w:=by
  refine⟨rfl,rfl,rfl,Nat.le_refl _,fun a _ _=>rfl,fun _ h=>h,fun _ h=>.inl h,?_,fun _ _ _=>rfl,?_⟩
  ·rintro x ⟨j,o,c,hj,hc⟩
   by_cases e:j=id
   ·subst e;exact .inl ⟨j,ob,c,hH,hc⟩
   exact .inl ⟨j,o,c,(h2 j e).symm.trans hj,hc⟩
  intro j o hj
  by_cases e:j=id
  ·subst e
   rw [hH] at hj;cases hj
   exact⟨_,h1,Nat.le_of_lt hg,fun e=>absurd e (by simp only;omega)⟩
  exact⟨o,(h2 j e).trans hj,Nat.le_refl _,fun _=>⟨rfl,rfl,fun _=>Nat.le_refl _⟩⟩
 refine⟨⟨hr.imm,?_,?_,hst.glob hr⟩,hst⟩
 ·intro j o hj
  by_cases e:j=id
  ·subst e
   rw [h1] at hj;cases hj
   obtain ⟨p1,p2,⟨b,cap,cs,e1,e2,e3,e4,e5,e5',e6⟩|⟨e1,e2⟩⟩:=(hr.obj j ob hH).cells hz
   ·refine .inl ⟨p1,fun r hr'=>p2 r (List.mem_of_mem_take hr'),.inl ⟨b,cap,cs,e1,e2,e3,e4,?_,e5',fun i r hi q a hq=>?_⟩⟩
    ·simp only [List.length_take];omega
    simp only [List.getElem?_take] at hi
    split at hi
    ·obtain ⟨v,q1,q2,q3⟩:=e6 i r hi q a hq
     exact⟨v,q1,q2,q3.mono hr hst⟩
    cases hi
   exact .inl ⟨p1,fun r hr'=>p2 r (List.mem_of_mem_take hr'),.inr ⟨e1,by simp only [e2,List.take_nil]⟩⟩
  rw [h2 j e] at hj
  exact(hr.obj j o hj).keep rfl (fun x c _ _=>⟨rfl,fun h=>h⟩) (fun r _ a _ v hv=>hv.mono hr hst)
 intro j j' o o' x c c' hj hj' hc hc'
 have key:∀ j o,H'.get j=some o→∃ o,H.get j=some o:=by
  intro j o hj
  by_cases e:j=id
  ·exact⟨ob,e▸hH⟩
  exact⟨o,(h2 j e).symm.trans hj⟩
 obtain ⟨q,hq⟩:=key j o hj
 obtain ⟨q',hq'⟩:=key j' o' hj'
 exact hr.inj j j' q q' x c c' hq hq' hc hc'
/-- The result's slice is made as short as it is. -/
theorem Fin.trunc {G0 H:Heap} {id k g n sz ty:Nat} {ob:Ob} {rows:List (List AV)} (hH:H.get id=some ob) (hg:ob.g=g) (hk:g < k) (hs:ob.sz=sz) (ht:ob.ty=ty) (hr:ob.rows.take n=rows):Fin G0 H (.osl id g 0 n) ((id,⟨k,sz,ty,rows⟩)::H) (.osl id k 0 n):=by
 intro G hG I ι w v h1 h2 h3
 subst hg hs ht hr
 have hz:=osl_sz h3 hH rfl
 obtain ⟨q1,q2⟩:=osl_slice h3 hH rfl
 obtain ⟨k2,k3⟩:=Rel.cut (H':=(id,⟨k,ob.sz,ob.ty,ob.rows.take n⟩)::H) h1 hH hk hz (get_cons_same _ _ _) (fun j hj=>get_cons_other _ _ hj)
 refine⟨I,ι,k2,h2.trans k3,?_⟩
 have hone:v.oneCell'=true:=by
  rcases q2 with⟨b,cap,oo,_,e,_⟩|⟨_,e,_⟩<;>subst e<;>rfl
 exact .osl _ (get_cons_same _ _ _) (Nat.le_refl _) hone fun _=>⟨hz,by simp only [List.length_take];omega,q2⟩
/-- A contract at a heap that stays as it is, in a greater heap. -/
theorem ACalls.congrH {P:Program} {f:FuncId} {args:List AV} {H H1 H2:Heap} {r0:AV} (h:ACalls P f args H (fun r H'=>r=r0∧H'=H1)) (he:∀ j,H2.get j=H1.get j):ACalls P f args H (fun r H'=>r=r0∧H'=H2):=by
 intro I ι w vs hr hl hv
 refine(h I ι w vs hr hl hv).mono ?_
 rintro e w' ⟨r,H',I',ι',v,rfl,⟨rfl,rfl⟩,k1,k2,k3⟩
 obtain ⟨q1,q2⟩:=k2.congr he
 exact⟨r,H2,I',ι',v,rfl,⟨rfl,rfl⟩,k1.mono k2 q2,q1,k3.trans q2⟩
theorem ACalls.frameS {P:Program} {f:FuncId} {args:List AV} {H0 H:Heap} {r0:AV} (h:ACalls P f args H0 (fun r H'=>r=r0∧H'=H0)) (hs:Sub H0 H) (hc:Closed H0) (ha:∀ a∈args,Clo H0 a):ACalls P f args H (fun r H'=>r=r0∧H'=H):=by
 refine(ACalls.frame h hs hc ha (fun id hi=>.inl hi)).congrH fun j=>?_
 rw [hget_app]
 cases e:H0.get j with
 | some o=>exact hs j o e
 | none=>rfl
theorem Sub.of2 {i j:Nat} {a b:Ob} {H:Heap} (h1:H.get i=some a) (h2:H.get j=some b):Sub [(i,a),(j,b)] H:=by
 intro id o ho
 simp only [Heap.get] at ho
 cases e1:Nat.beq i id with
 | true =>
  rw [e1] at ho
  have:=Nat.eq_of_beq_eq_true e1
  subst this
  cases ho;exact h1
 | false =>
  rw [e1] at ho
  cases e2:Nat.beq j id with
  | true =>
   rw [e2] at ho
   have:=Nat.eq_of_beq_eq_true e2
   subst this
   cases ho;exact h2
  | false=>rw [e2] at ho;cases ho
end
end Go.Abs
namespace Go.Proofs.YtlnfjkdacimblaaGreatDoor
open Go.Abs
section
theorem indexS_c (l:List ByteArray) (s:ByteArray) (H:Heap) (hl:l.length < 4611686018427387904):ACalls Tryz.prog 245 [.pv (slStrs l),sv s] H (fun r H'=>r=iv (gidx (fun x=>decide (s=x)) l)∧H'=H):=by
 refine ACalls.pure ?_ (by simp) H
 have hml:(l.map encStr).length=l.length:=List.length_map _
 refine Bd Tryz.func245 rfl Tryz.ntmps245<|Sq<|Rg<|Dd as'<|Zz<|Sq<|Sq<|Rg<|Dd mv'<|Dd (ll' Tryz.underlying46)<|Dd mv'<|Zz<|awp_block ?_
 refine awp_loop (σ:=Nat) (fun k=>([(0,.pv (slStrs l)),(1,sv s),(7,iv ((l.map encStr).length:Int)),(8,iv (k:Int))],[])) (fun k=>k≤l.length∧∀ j,j < k→∀ b,l[j]?=some b→decide (s=b)=false) (fun k=>l.length - k) 0 ⟨by omega,by omega⟩ ?_ ?_
 ·exact E0
 rintro k ⟨hk,hno⟩
 refine Sq<|Rg<|Dd lss'<|Zz<|Sq ?_
 refine Cn (fun hc1=>?_) fun hc1=>?_
 ·have hlt:k < l.length:=by have:=of_decide_eq_true hc1;omega
  obtain ⟨o,ho⟩:=get_of_lt hlt
  have hi:=map_get (f:=encStr) ho
  refine awp_skip<|Sq<|awp_block<|Sq<|Rg<|Dd mv'<|Dd as'<|Zz<|Sq<|Rg<|Dd mv'<|Dd mv'<|Dd mv'<|Dd (xp' so46)<|Dd (lp' Tryz.isAgg9)<|Dd se'<|Zz ?_
  refine Cn (fun hc2=>?_) fun hc2=>?_
  ·skip
   refine Sq<|Rg<|Dd mv'<|Dd as'<|Zz<|awp_ret ?_
   refine Rt ?_
   exact⟨by rw [gidx,fidx_some hno ho hc2],rfl⟩
  skip
  refine awp_skip<|Rg<|Dd ad'<|Dd mv'<|Zz ?_
  exact⟨k+1,⟨by omega,pre_succ hno ho hc2⟩,by omega,E0⟩
 have hge:k=l.length:=by have:=of_decide_eq_false hc1;omega
 subst hge
 refine awp_exit<|Sq<|Rg<|Dd as'<|Zz<|awp_ret ?_
 refine Rt ?_
 exact⟨by rw [gidx,fidx_none hno],rfl⟩
theorem inB_eq (l:List ByteArray) (s:ByteArray):l.any (fun x=>decide (s=x))=inB l s:=by
 rw [inB]
 congr 1
 funext x
 rw [Bool.eq_iff_iff,decide_eq_true_eq,decide_eq_true_eq]
 exact eq_comm
theorem containsS_c (l:List ByteArray) (s:ByteArray) (H:Heap) (hl:l.length < 4611686018427387904):ACalls Tryz.prog 212 [.pv (slStrs l),sv s] H (fun r H'=>r=bv (inB l s)∧H'=H):=by
 refine ACalls.pure ?_ (by simp) H
 refine Bd Tryz.func212 rfl Tryz.ntmps212<|Sq<|Rg<|Dd as'<|Zz<|Sq<|Rg<|Dd mv'<|Dd mv'<|Dd (by exact opr_call rfl rfl Tryz.call245 rfl (indexS_c l s _ hl))<|Dd ge'<|Dd as'<|Zz<|awp_ret ?_
 refine Rt ?_
 exact⟨by rw [gidx_any,inB_eq],rfl⟩
theorem indexI_c (l:List Int) (s:Int) (H:Heap) (hl:l.length < 4611686018427387904):ACalls Tryz.prog 202 [.pv (slInts l),iv s] H (fun r H'=>r=iv (gidx (fun x=>decide (s=x)) l)∧H'=H):=by
 refine ACalls.pure ?_ (by simp) H
 have hml:(l.map encInt).length=l.length:=List.length_map _
 refine Bd Tryz.func202 rfl Tryz.ntmps202<|Sq<|Rg<|Dd as'<|Zz<|Sq<|Sq<|Rg<|Dd mv'<|Dd (ll' Tryz.underlying42)<|Dd mv'<|Zz<|awp_block ?_
 refine awp_loop (σ:=Nat) (fun k=>([(0,.pv (slInts l)),(1,iv s),(7,iv ((l.map encInt).length:Int)),(8,iv (k:Int))],[])) (fun k=>k≤l.length∧∀ j,j < k→∀ b,l[j]?=some b→decide (s=b)=false) (fun k=>l.length - k) 0 ⟨by omega,by omega⟩ ?_ ?_
 ·exact E0
 rintro k ⟨hk,hno⟩
 refine Sq<|Rg<|Dd lss'<|Zz<|Sq ?_
 refine Cn (fun hc1=>?_) fun hc1=>?_
 ·have hlt:k < l.length:=by have:=of_decide_eq_true hc1;omega
  obtain ⟨o,ho⟩:=get_of_lt hlt
  have hi:=map_get (f:=encInt) ho
  refine awp_skip<|Sq<|awp_block<|Sq<|Rg<|Dd mv'<|Dd as'<|Zz<|Sq<|Rg<|Dd mv'<|Dd mv'<|Dd mv'<|Dd (xp' so42)<|Dd (lp' Tryz.isAgg3)<|Dd eql'<|Zz ?_
  refine Cn (fun hc2=>?_) fun hc2=>?_
  ·skip
   refine Sq<|Rg<|Dd mv'<|Dd as'<|Zz<|awp_ret ?_
   refine Rt ?_
   exact⟨by rw [gidx,fidx_some hno ho hc2],rfl⟩
  skip
  refine awp_skip<|Rg<|Dd ad'<|Dd mv'<|Zz ?_
  exact⟨k+1,⟨by omega,pre_succ hno ho hc2⟩,by omega,E0⟩
 have hge:k=l.length:=by have:=of_decide_eq_false hc1;omega
 subst hge
 refine awp_exit<|Sq<|Rg<|Dd as'<|Zz<|awp_ret ?_
 refine Rt ?_
 exact⟨by rw [gidx,fidx_none hno],rfl⟩
theorem containsI_c (l:List Int) (s:Int) (H:Heap) (hl:l.length < 4611686018427387904):ACalls Tryz.prog 161 [.pv (slInts l),iv s] H (fun r H'=>r=bv (l.any (fun x=>decide (s=x)))∧H'=H):=by
 refine ACalls.pure ?_ (by simp) H
 refine Bd Tryz.func161 rfl Tryz.ntmps161<|Sq<|Rg<|Dd as'<|Zz<|Sq<|Rg<|Dd mv'<|Dd mv'<|Dd (by exact opr_call rfl rfl Tryz.call202 rfl (indexI_c l s _ hl))<|Dd ge'<|Dd as'<|Zz<|awp_ret ?_
 refine Rt ?_
 exact⟨by rw [gidx_any],rfl⟩
/-- The index of a node inside of a list, once. -/
def gInner (l:List ByteArray) (node:ByteArray):Int:=if decide (gidx (fun x=>decide (node=x)) l≤0)||decide (gidx (fun x=>decide (node=x)) l=(l.length:Int) - 1)||inB (l.drop ((gidx (fun x=>decide (node=x)) l).toNat+1)) node then -1 else gidx (fun x=>decide (node=x)) l
end
section
theorem containsFunc_GObj (fv:AV) (l:List GObj) (p:GObj→Bool) (H:Heap) (hl:l.length < 4611686018427387904) (hf:∀ o,o∈l→CallsV Tryz.prog fv [.agg ((encObj o).map .pv)] H (fun r H'=>r=.pv (.bool (p o))∧H'=H)) :
  ACalls Tryz.prog 209 [.pv (.sl (l.map encObj)),fv] H (fun r H'=>r=bv (l.any p)∧H'=H):=by
 refine Bd Tryz.func209 rfl Tryz.ntmps209<|Sq<|Rg<|Dd as'<|Zz<|Sq<|Rg<|Dd mv'<|Dd mv'<|Dd (by exact opr_call rfl rfl Tryz.call104 rfl (indexFunc_GObj fv l p _ hl hf))<|Dd ge'<|Dd as'<|Zz<|awp_ret ?_
 refine aret1 (H':=H) (.inr rfl) rfl (rval_tmp rfl) Fin.refl ?_
 exact⟨by rw [← gidx_any],rfl⟩
/-- Whether an object refers to one of some. -/
def refsTo (routes:Bool) (ids:List ByteArray) (o:GObj):Bool:=(!routes||decide (4≤o.kind))&&o.refs.any (fun r=>inB ids r)
def gRefd (m:List GObj) (routes:Bool) (ids:List ByteArray):Bool:=m.any (refsTo routes ids)
theorem refd11_c (s:ByteArray) (ids:List ByteArray) (T:Nat) (H:Heap) (h5:H.get 5=some (bx 1 T [.pv (slStrs ids)])) (hl:ids.length < 4611686018427387904):ACalls Tryz.prog 211 [sv s,.ref 5 0 0 0] H (fun r H'=>r=bv (inB ids s)∧H'=H):=by
 refine Bd Tryz.func211 rfl Tryz.ntmps211<|Sq<|Rg<|Dd as'<|Zz<|Sq<|Rg<|Dd (by exact opd_load1_ref rfl Tryz.isAgg46 rfl h5 rfl rfl rfl)<|Dd mv'<|Dd (by exact opr_call rfl rfl Tryz.call212 rfl (containsS_c ids s _ hl))<|Dd as'<|Zz<|awp_ret ?_
 refine aret1 (H':=H) (.inr rfl) rfl (rval_tmp rfl) Fin.refl ?_
 exact⟨rfl,rfl⟩
theorem refd1_c (o:GObj) (routes:Bool) (ids:List ByteArray) (T T2:Nat) (H:Heap) (h4:H.get 4=some (bx 1 T [bv routes])) (h5:H.get 5=some (bx 1 T2 [.pv (slStrs ids)])) (h9:H.get 983=none) (hc:Closed H) (hl:ids.length < 4611686018427387904) (ho:o.refs.length < 4611686018427387904) :
  ACalls Tryz.prog 210 [av (encObj o),.ref 4 0 0 0,.ref 5 0 0 0] H (fun r H'=>r=bv (refsTo routes ids o)∧H'=H):=by
 have h4':Heap.get ((983,bx 6 49 ((encObj o).map .pv))::H) 4=some (bx 1 T [bv routes]):=h4
 have h5':Heap.get ((983,bx 6 49 ((encObj o).map .pv))::H) 5=some (bx 1 T2 [.pv (slStrs ids)]):=h5
 have hcf:=containsFuncS (.clo 211 [.ref 5 0 0 0]) o.refs (atP o.refs (fun r=>inB ids r)) (fun _=>(983,bx 6 49 ((encObj o).map .pv))::H) ho (fun k s hk=>CallsV.clo Tryz.call211 (by rw [atP_some hk];exact refd11_c s ids T2 _ h5' hl))
 rw [range_any_get] at hcf
 refine Bd Tryz.func210 rfl Tryz.ntmps210<|Sq<|Rg<|Dd (by exact opd_box (id:=983) rfl rfl rfl rfl h9)<|Dd as'<|Zz<|Sq ?_
 refine awp_bool (t:=4) (n:=16) (X:=refsTo routes ids o) ?_ ?_
 ·all_goals refine Dd (by exact opd_load1_ref rfl Tryz.isAgg4 rfl h4' rfl rfl rfl) ?_
  all_goals refine Dd no' ?_
  all_goals refine Dd mv' ?_
  all_goals refine Sp 7 (fun h7=>?_) fun h7=>?_
  all_goals try contradiction
  all_goals first|refine Fo ?_|refine On (fr' fo49_1) ?_
  all_goals first|refine Fo ?_|refine On (l1' Tryz.isAgg3) ?_
  all_goals first|refine Fo ?_|refine On ge' ?_
  all_goals refine Dd pk' ?_
  all_goals refine Dd mv' ?_
  all_goals refine Sp 12 (fun h12=>?_) fun h12=>?_
  all_goals try contradiction
  all_goals first|refine Fo ?_|refine On (fr' fo49_3) ?_
  all_goals first|refine Fo ?_|refine On (l1' Tryz.isAgg46) ?_
  all_goals first|refine Fo ?_|refine On (by exact opd_makeFunc rfl rfl) ?_
  all_goals first|refine Fo ?_|refine On (by exact opr_call rfl rfl Tryz.call101 rfl (hcf)) ?_
  all_goals refine Dd pk' ?_
  all_goals refine Dd as' ?_
  all_goals refine al_nil ?_
  all_goals(exact⟨⟨_,rfl,by(cases routes<;>first|rfl|(exact absurd h7 (by decide))|(simp only [refsTo,h12,Bool.not_true,Bool.not_false,Bool.true_or,Bool.false_or,Bool.true_and,Bool.false_and];done))⟩,rfl,rfl,rfl⟩)
 refine awp_ret ?_
 refine aret1 (H':=H) (.inr rfl) rfl (rval_tmp rfl) (Fin.pops [(983,bx 6 49 ((encObj o).map .pv))] (by simp) hc (by simp [h9])) ⟨rfl,rfl⟩
theorem cl_c {f:FuncId} {args:List AV} {m:List GObj} {H:Heap} {r0:AV} (h:ACalls Tryz.prog f args (cH m) (fun r H'=>r=r0∧H'=cH m)) (h14:H.get 14=some (cRow m)) (h12:H.get 12=some (kob m)) (ha:∀ a∈args,Clo (cH m) a):ACalls Tryz.prog f args H (fun r H'=>r=r0∧H'=H) :=
 h.frameS (Sub.of2 h14 h12) (Closed.ofL ⟨(by(simp;rfl)),(by exact kob_clo _ _),trivial⟩) ha
theorem okM_refs {m:List GObj} (hm:okM m):∀ o,o∈m→o.refs.length < 4611686018427387904:=fun o ho=>(hm.2 o ho).2.2.1
theorem refd0_c (m:List GObj) (routes:Bool) (ids:List ByteArray) (hm:okM m) (hl:ids.length < 4611686018427387904) :
  ACalls Tryz.prog 163 [.ref 14 0 0 0,bv routes,.pv (slStrs ids)] (cH m) (fun r H'=>r=bv (gRefd m routes ids)∧H'=cH m):=by
 have hf:∀ o,o∈m→CallsV Tryz.prog (.clo 210 [.ref 4 0 0 0,.ref 5 0 0 0]) [.agg ((encObj o).map .pv)] ((5,bx 1 46 [.pv (slStrs ids)])::(4,bx 1 4 [bv routes])::cH m) (fun r H'=>r=bv (refsTo routes ids o)∧H'=(5,bx 1 46 [.pv (slStrs ids)])::(4,bx 1 4 [bv routes])::cH m) :=
  fun o ho=>CallsV.clo Tryz.call210 (refd1_c o routes ids 4 46 _ rfl rfl rfl (Closed.ofL ⟨(by(simp;done)),(by(simp;done)),(by(simp;rfl)),(by exact kob_clo _ _),trivial⟩) hl (okM_refs hm o ho))
 refine Bd Tryz.func163 rfl Tryz.ntmps163<|Sq<|Rg<|Dd (by exact opd_box (id:=4) rfl rfl rfl rfl rfl)<|Dd (by exact opd_box (id:=5) rfl rfl rfl rfl rfl)<|Dd as'<|Zz<|Sq<|Rg<|Dd mv'<|Dd nc'<|Dd (fr' fo114_0)<|Dd (fr' fo38_0)<|Dd (l1' Tryz.isAgg36)<|Dd (by exact opd_makeFunc rfl rfl)<|Dd (by exact opr_call rfl rfl Tryz.call209 rfl (containsFunc_GObj _ m (refsTo routes ids) _ hm.1 hf))<|Dd as'<|Zz<|awp_ret ?_
 refine aret1 (H':=(cH m)) (.inr rfl) rfl (rval_tmp rfl) (Fin.wk (by(simp;done)) (Ha<|Hc (kob_clo _ _)<|trivial) ⟨rfl,rfl,trivial⟩) ?_
 exact⟨rfl,rfl⟩
theorem refd_c (m:List GObj) (routes:Bool) (ids:List ByteArray) (H:Heap) (h14:H.get 14=some (cRow m)) (h12:H.get 12=some (kob m)) (hm:okM m) (hl:ids.length < 4611686018427387904) :
  ACalls Tryz.prog 163 [.ref 14 0 0 0,bv routes,.pv (slStrs ids)] H (fun r H'=>r=bv (gRefd m routes ids)∧H'=H) :=
 cl_c (refd0_c m routes ids hm hl) h14 h12 (by simp;rfl)
theorem get0_c (m:List GObj) (id:ByteArray) (o:GObj) (hm:okM m) (ho:m.find? (idIs id)=some o) :
  ACalls Tryz.prog 160 [.ref 14 0 0 0,sv id] (cH m) (fun r H'=>r=av (encObj o)∧H'=cH m):=by
 rcases gidx_cases (idIs id) m with⟨e1,e2⟩|⟨k,x,e1,e2,e3⟩
 ·rw [ho] at e2;cases e2
 rw [ho] at e3;cases e3
 have hi:=map_get (f:=encObj) e2
 have hF:=fun H=>find_c m id H hm.1
 rw [e1] at hF
 refine Bd Tryz.func160 rfl Tryz.ntmps160<|Sq<|Rg<|Dd (by exact x_alloc (id:=4) rfl zo49 rfl rfl)<|Zz<|Sq ?_
 refine awp_drawc follows ?_
 refine Cr [14] (fun _ _=>mv')<|Cr [14] (fun H1 hH=>by exact opd_nilCheck_ref rfl rfl ((hH _ rfl).trans rfl) rfl)<|Cr [14] (fun _ h=>fh fo114_0 h)<|Cr [14] (fun _ h=>fh fo38_0 h)<|Cr [14] (fun _ h=>lh Tryz.isAgg36 h)<|Cr [14] (fun _ _=>mv')<|Cr [14] (fun H1 hH=>by exact opd_nilCheck_ref rfl rfl ((hH _ rfl).trans rfl) rfl)<|Cr [14] (fun _ h=>fh fo114_0 h)<|Cr [14] (fun H1 hH=>by exact opd_loadn_ref rfl Tryz.isAgg38 Tryz.sizeOf38 rfl ((hH _ rfl).trans rfl) rfl rfl rfl rfl)<|Cr [] (fun _ _=>mv')<|Cr [] (fun H1 hH=>by exact opr_call rfl rfl Tryz.call54 rfl (hF _))<|Cr [] (fun _ _=>(xp' so36))<|Cr [] (fun H1 hH=>by exact opd_loadn_pad rfl Tryz.isAgg49 Tryz.sizeOf49 rfl (by omega) (by simp only [Zl,encTag,encObj,encStr,encEdit,encInt];rfl) rfl)<|Cp [4] (fun H1 hH=>by exact x_store_all rfl Tryz.sizeOf49 rfl rfl rfl rfl ((hH _ rfl).trans rfl) rfl rfl rfl) ?_
 refine dc_nil ⟨by kernel_rfl,?_⟩
 refine awp_ret ?_
 refine aret1 (H':=(cH m)) (.inr rfl) rfl (rval_cell rfl Tryz.isAgg49 Tryz.sizeOf49 rfl rfl rfl (by simp only [Zl,encTag,encObj,encStr,encEdit,encInt];rfl) rfl) (Fin.wk (by(simp;done)) (Ha<|Hc (kob_clo _ _)<|trivial) ⟨rfl,rfl,trivial⟩) ?_
 exact⟨rfl,rfl⟩
theorem get_c (m:List GObj) (id:ByteArray) (o:GObj) (H:Heap) (h14:H.get 14=some (cRow m)) (h12:H.get 12=some (kob m)) (hm:okM m) (ho:m.find? (idIs id)=some o) :
  ACalls Tryz.prog 160 [.ref 14 0 0 0,sv id] H (fun r H'=>r=av (encObj o)∧H'=H) :=
 cl_c (get0_c m id o hm ho) h14 h12 (by simp;rfl)
end
section
/-- The one object in front is what is returned, for good; nothing else is left. -/
theorem Fin.slice0 {H1:Heap} {id g n:Nat} {ob:Ob} (ps:List (List PV)) (hH:H1.get id=some ob) (hg:ob.g=g) (hps:ob.rows=ps.map (·.map .pv)) (hn:ps.length=n) :
  Fin [] H1 (.osl id g 0 n) [] (.pv (.sl ps)):=by
 subst hg hn
 exact Fin.fz (id:=id) (ob:=ob) ps hH hps (.osl (by rw [Nat.zero_add,List.drop_zero,List.take_length])) rfl trivial trivial
theorem rl_ByteArray (l:List ByteArray):∀ r∈l.map encStr,r.length=1:=fun r hr=>by
 obtain ⟨t,_,rfl⟩:=List.mem_map.1 hr
 rfl
theorem cloneF_ByteArray (l:List ByteArray) (H:Heap) (hl:l.length < 1099511627776):ACalls Tryz.prog 108 [.pv (.sl (l.map encStr))] H (fun r H'=>r=.pv (.sl (l.map encStr))∧H'=H):=by
 refine ACalls.pure ?_ (by simp) H
 have hml:(l.map encStr).length=l.length:=List.length_map _
 refine Bd Tryz.func108 rfl Tryz.ntmps108<|Sq<|Rg<|Dd as'<|Zz<|Sq<|Sq<|Rg<|Dd mv' ?_
 refine al_r rfl rfl (opr_sl_nil rfl Tryz.underlying46 rfl) ?_
 rintro _ H2 ⟨e2,b,rfl,hb⟩
 rw [e2]
 clear e2 H2
 refine Zz ?_
 refine Cn (fun hc1=>?_) fun hc1=>?_
 ·have h0:=hb hc1
  rw [h0]
  refine Sq<|Rg<|Dd as'<|Zz<|awp_ret ?_
  refine Rt ?_
  exact⟨rfl,rfl⟩
 skip
 refine awp_skip<|Sq<|Rg<|Dd (by exact x_buildSlice_own (id:=901) rfl so46 rfl rfl rfl rfl (by simp) rfl)<|Dd mv'<|Dd (by exact x_append rfl so46 ei9 rfl rfl rfl rfl rfl rfl rfl (rl_ByteArray l) rfl (by omega) (Nat.zero_add _) (List.nil_append _))<|Dd as'<|Zz<|awp_ret ?_
 refine aret1 (H':=[]) (.inr rfl) rfl (rval_tmp rfl) (Fin.slice0 (id:=901) (l.map encStr) rfl rfl rfl rfl) ?_
 exact⟨rfl,rfl⟩
theorem grow_ByteArray (n:Nat) (H:Heap) (h4:H.get 904=none) (h5:H.get 905=none) (hc:Closed H) (hn:n < 1099511627776) :
  ACalls Tryz.prog 126 [.pv .nils,iv (n:Int)] H (fun r H'=>r=.osl 905 1 0 0∧H'=(905,⟨1,1,9,[]⟩)::H):=by
 refine Bd Tryz.func126 rfl Tryz.ntmps126 ?_
 by_cases h0:n=0
 ·subst h0
  refine awp_nilc (t:=0) (id:=905) (sz:=1) (ty:=9) rfl h5 rfl ?_
  refine Sq<|Rg<|Dd as'<|Zz<|Sq<|Sq<|Rg<|Dd mv'<|Dd lss'<|Zz ?_
  refine Cn (fun hc1=>?_) fun hc1=>?_
  ·have h:=of_decide_eq_true hc1;omega
  skip
  refine awp_skip<|Sq<|Sq<|Rg<|Dd mv'<|Dd mv'<|Dd (by exact opd_cap_osc rfl Tryz.underlying46 rfl rfl rfl)<|Dd mv'<|Dd (by exact opd_len_osc rfl Tryz.underlying46 rfl rfl rfl)<|Dd (by exact opd_sub rfl rfl rfl (by exact w64 (by omega) (by omega)))<|Dd (by exact opd_sub rfl rfl rfl (by exact w64 (by omega) (by omega)))<|Dd as'<|Zz<|Sq<|Rg<|Dd mv'<|Dd gt'<|Zz ?_
  refine Cn (fun hc2=>?_) fun hc2=>?_
  ·have h:=of_decide_eq_true hc2;omega
  skip
  refine awp_skip<|Sq ?_
  refine awp_uncap (t:=0) rfl rfl rfl (by decide) ?_
  refine Rg<|Dd mv'<|Dd as'<|Zz<|awp_ret ?_
  refine aret1 (H':=((905,⟨1,1,9,[]⟩)::H)) (.inr rfl) rfl (rval_tmp rfl) ((Fin.bump (g:=0) (k:=1) rfl rfl (by decide) rfl rfl rfl).trans (Fin.get' (fun j=>get_dup _ _ _ _ j))) ?_
  exact⟨rfl,rfl⟩
 refine awp_nilc (t:=0) (id:=904) (sz:=1) (ty:=9) rfl h4 rfl ?_
 have h5':Heap.get ((904,(⟨0,1,9,[]⟩:Ob))::H) 905=none:=h5
 refine Sq<|Rg<|Dd as'<|Zz<|Sq<|Sq<|Rg<|Dd mv'<|Dd lss'<|Zz ?_
 refine Cn (fun hc3=>?_) fun hc3=>?_
 ·have h:=of_decide_eq_true hc3;omega
 skip
 refine awp_skip<|Sq<|Sq<|Rg<|Dd mv'<|Dd mv'<|Dd (by exact opd_cap_osc rfl Tryz.underlying46 rfl rfl rfl)<|Dd mv'<|Dd (by exact opd_len_osc rfl Tryz.underlying46 rfl rfl rfl)<|Dd (by exact opd_sub rfl rfl rfl (by exact w64 (by omega) (by omega)))<|Dd (by exact opd_sub rfl rfl rfl (by exact w64 (by omega) (by omega)))<|Dd as'<|Zz<|Sq<|Rg<|Dd mv'<|Dd gt'<|Zz ?_
 refine Cn (fun hc4=>?_) fun hc4=>?_
 ·skip
  refine Rg<|Dd mv'<|Dd mv'<|Dd (by exact opd_cap_osc rfl Tryz.underlying46 rfl rfl rfl)<|Dd (by exact x_slice_osc (l:=0) (h:=0) rfl so46 rfl rfl rfl rfl rfl rfl (Nat.le_refl _) (Nat.le_refl _) rfl rfl rfl)<|Dd mv'<|Dd (by exact x_append_zeros (id2:=905) (m:=n) rfl so46 Tryz.underlying3 ei9 zo9 rfl rfl rfl rfl rfl (Nat.le_refl _) rfl (by omega) (by omega) (by omega) (Nat.zero_add _) (by omega) h5' rfl)<|Dd mv'<|Dd (by exact opd_len_osc rfl Tryz.underlying46 rfl rfl rfl)<|Dd (by exact x_slice_osl (l:=0) (h:=0) rfl so46 rfl rfl rfl rfl rfl rfl (Nat.le_refl _) (by omega) rfl rfl)<|Dd as'<|Zz<|Sq<|Rg<|Dd mv'<|Dd as'<|Zz<|awp_ret ?_
  refine aret1 (H':=((905,⟨1,1,9,[]⟩)::H)) (.inr rfl) rfl (rval_tmp rfl) ((Fin.trunc (g:=0) (k:=1) (sz:=1) (ty:=9) (rows:=[]) rfl rfl (by decide) rfl rfl (List.take_zero)).trans (Fin.front' [_,_,_] [(905,⟨1,1,9,[]⟩)] (by simp;rfl) (by simp [h4,h5]) (by simp [Heap.get]) (by simp) hc (by simp [h4,h5]))) ?_
  exact⟨rfl,rfl⟩
 have h:=of_decide_eq_false hc4;omega
theorem concat_ByteArray (ls:List (List ByteArray)) (H:Heap) (hls:ls.length < 1099511627776) (hb:ls.flatten.length < 1099511627776) :
  ACalls Tryz.prog 70 [.pv (.sl (ls.map (fun l=>[.sl (l.map encStr)])))] H (fun r H'=>r=.pv (.sl (ls.flatten.map encStr))∧H'=H):=by
 refine ACalls.pure ?_ (by simp) H
 have hml:(ls.map (fun l=>[PV.sl (l.map encStr)])).length=ls.length:=List.length_map _
 have hpre:∀ k,((ls.take k).flatten).length≤ls.flatten.length:=fun k=>by
  conv=>rhs;rw [← List.take_append_drop k ls,List.flatten_append,List.length_append]
  omega
 have hst:∀ k l,ls[k]?=some l→(ls.take (k+1)).flatten=(ls.take k).flatten++l:=fun k l h=>by
  rw [List.take_add_one,h,List.flatten_append];simp
 refine Bd Tryz.func70 rfl Tryz.ntmps70<|Sq<|Rg<|Dd as'<|Zz<|Sq<|Rg<|Dd as'<|Zz<|Sq<|Sq<|Rg<|Dd mv'<|Dd (ll' Tryz.underlying163)<|Dd mv'<|Zz<|awp_block ?_
 refine awp_loop (σ:=Nat) (fun k=>([(0,.pv (.sl (ls.map (fun l=>[.sl (l.map encStr)])))),(3,iv (((ls.take k).flatten).length:Int)),(9,.pv (.sl (ls.map (fun l=>[.sl (l.map encStr)])))),(10,iv ((ls.map (fun l=>[PV.sl (l.map encStr)])).length:Int)),(11,iv (k:Int))],[])) (fun k=>k≤ls.length) (fun k=>ls.length - k) 0 (by omega) ?_ ?_
 ·exact E0
 intro k hk
 refine Sq<|Rg<|Dd lss'<|Zz<|Sq ?_
 refine Cn (fun hc1=>?_) fun hc1=>?_
 ·have hlt:k < ls.length:=by have:=of_decide_eq_true hc1;omega
  obtain ⟨l,hl⟩:=get_of_lt hlt
  have hi:=map_get (f:=fun l=>[PV.sl (l.map encStr)]) hl
  have hml2:(l.map encStr).length=l.length:=List.length_map _
  have h1:=hst k l hl
  have h2:=hpre (k+1)
  have h3:((ls.take (k+1)).flatten).length=((ls.take k).flatten).length+l.length:=by rw [h1,List.length_append]
  have hw:IntKind.i64.wrap ((((ls.take k).flatten).length:Int)+((l.map encStr).length:Int))=(((ls.take (k+1)).flatten).length:Int):=by rw [IntKind.wrap_i64,hml2,h3];omega
  refine awp_skip<|Sq<|awp_block<|Sq<|Rg<|Dd (xp' so163)<|Dd (lp' Tryz.isAgg46)<|Dd as'<|Zz<|Sq<|Rg<|Dd mv'<|Dd mv'<|Dd (ll' Tryz.underlying46)<|Dd (by exact opd_add rfl rfl rfl hw)<|Dd as'<|Zz<|Sq<|Rg<|Dd mv'<|Dd lss'<|Zz ?_
  refine Cn (fun hc2=>?_) fun hc2=>?_
  ·have h:=of_decide_eq_true hc2;omega
  skip
  refine awp_skip<|Rg<|Dd ad'<|Dd mv'<|Zz ?_
  exact⟨k+1,by omega,by omega,E0⟩
 have hge:k=ls.length:=by have:=of_decide_eq_false hc1;omega
 subst hge
 rw [List.take_length]
 refine awp_exit<|Sq<|Rg<|Dd mv'<|Dd (by exact opr_call_nil rfl rfl Tryz.call126 rfl (grow_ByteArray ls.flatten.length [] rfl rfl (Closed.of (by simp)) hb))<|Dd as'<|Zz<|Sq<|Sq<|Rg<|Dd mv'<|Dd (ll' Tryz.underlying163)<|Dd mv'<|Zz<|awp_block ?_
 refine awp_loop2 (fun(k:Nat) (g:Nat)=>([(6,.osl 905 g 0 ((ls.take k).flatten.map encStr).length),(25,.pv (.sl (ls.map (fun l=>[.sl (l.map encStr)])))),(26,iv ((ls.map (fun l=>[PV.sl (l.map encStr)])).length:Int)),(27,iv (k:Int))],[(905,⟨g,1,9,pvR ((ls.take k).flatten.map encStr)⟩)])) (fun k g=>k≤ls.length) (fun k g=>ls.length - k) 0 1 (by omega) ?_ ?_
 ·exact E0
 intro k g hk
 refine Sq<|Rg<|Dd lss'<|Zz<|Sq ?_
 refine Cn (fun hc3=>?_) fun hc3=>?_
 ·have hlt:k < ls.length:=by have:=of_decide_eq_true hc3;omega
  obtain ⟨l,hl⟩:=get_of_lt hlt
  have hi:=map_get (f:=fun l=>[PV.sl (l.map encStr)]) hl
  have hml2:(l.map encStr).length=l.length:=List.length_map _
  have hml3:((ls.take k).flatten.map encStr).length=((ls.take k).flatten).length:=List.length_map _
  have h1:=hst k l hl
  have h2:=hpre (k+1)
  have h3:((ls.take (k+1)).flatten).length=((ls.take k).flatten).length+l.length:=by rw [h1,List.length_append]
  refine awp_skip<|Sq<|awp_block<|Sq<|Rg<|Dd (xp' so163)<|Dd (lp' Tryz.isAgg46)<|Dd as'<|Zz<|Rg<|Dd mv'<|Dd mv'<|Dd (by exact x_append rfl so46 ei9 rfl rfl rfl rfl rfl (pvR_len _) rfl (rl_ByteArray l) rfl (by omega) (by rw [h1,List.map_append,List.length_append]:((ls.take k).flatten.map encStr).length+(l.map encStr).length=((ls.take (k+1)).flatten.map encStr).length) (by rw [h1,List.map_append,pvR,pvR,List.map_append]:pvR ((ls.take k).flatten.map encStr)++(l.map encStr).map (·.map .pv)=pvR ((ls.take (k+1)).flatten.map encStr)))<|Dd as'<|Zz<|Rg<|Dd ad'<|Dd mv'<|Zz ?_
  exact⟨k+1,g+1,by omega,by omega,Ent.dup ⟨⟨_,rfl,rfl⟩,⟨_,rfl,rfl⟩,⟨_,rfl,rfl⟩,⟨_,rfl,rfl⟩,trivial⟩⟩
 have hge:k=ls.length:=by have:=of_decide_eq_false hc3;omega
 subst hge
 rw [List.take_length]
 refine awp_exit<|Sq<|Rg<|Dd mv'<|Dd as'<|Zz<|awp_ret ?_
 refine aret1 (H':=[]) (.inr rfl) rfl (rval_tmp rfl) (Fin.slice0 (id:=905) (ls.flatten.map encStr) rfl rfl rfl rfl) ?_
 exact⟨rfl,rfl⟩
end
section
def gDropM (m:List GObj) (id:ByteArray):List GObj×Int :=
 if !gMap m then([],1)else if !hasK GObj.id m id then([],11)else(m.take (lbI GObj.id m id)++m.drop (lbI GObj.id m id+1),0)
theorem drop_c (m:List GObj) (id:ByteArray) (H:Heap) (hm:okM m) (hl:m.length < 1099511627776):ACalls Tryz.prog 120 [.agg [.pv (slObjs m)],sv id] H (fun r H'=>r=.tup [.agg [.pv (slObjs (gDropM m id).1)],iv (gDropM m id).2]∧H'=H):=by
 refine ACalls.pure ?_ (by simp) H
 have hml:(m.map encObj).length=m.length:=List.length_map _
 have hrl:=encObj_rl m
 have hv:=fun H=>valids_c [m] H (by show 1 < _;omega) (by intro x hx;rw [List.mem_singleton] at hx;subst hx;exact hm)
 rw [show ([m].all gMap)=gMap m by simp] at hv
 refine Bd Tryz.func120 rfl Tryz.ntmps120<|Sq<|Rg<|Dd (by exact opd_box (id:=2) rfl rfl rfl rfl rfl)<|Dd (by exact x_alloc (id:=4) rfl zoN38 rfl rfl)<|Dd as'<|Zz<|Sq<|Sq<|Rg<|Dd (by exact opd_loadn_ref rfl Tryz.isAgg38 Tryz.sizeOf38 rfl rfl rfl rfl (by simp only [Zl,encTag,encObj,encStr,encEdit,encInt];rfl) rfl)<|Dd (by exact x_buildSlice ([m].map encMap) rfl so244 rfl rfl rfl rfl rfl (by simp [encMap]))<|Dd (by exact opr_call rfl rfl Tryz.call166 rfl (hv _))<|Dd no'<|Zz ?_
 refine Cn (fun hc1=>?_) fun hc1=>?_
 ·have e:gDropM m id=([],1):=by rw [gDropM,if_pos hc1]
  rw [e]
  refine Sq<|Rg<|Dd (bu' bo38)<|Uu (sa' Tryz.sizeOf38)<|Dd as'<|Zz<|awp_ret ?_
  refine aret2 (H':=[]) (.inr rfl) rfl (rval_cell rfl Tryz.isAgg38 Tryz.sizeOf38 rfl rfl rfl (by simp only [Zl,encTag,encObj,encStr,encEdit,encInt];rfl) rfl) (rval_tmp rfl) (Fin.wk (by simp) trivial trivial) ?_
  exact⟨rfl,rfl⟩
 have hg:gMap m=true:=by
  have h:=hc1
  revert h
  cases gMap m<;>simp
 have hu:=(gMap_iff.1 hg).2.1
 have hle:=lbI_le GObj.id m id
 have hgp:gDropM m id=if !hasK GObj.id m id then([],11)else(m.take (lbI GObj.id m id)++m.drop (lbI GObj.id m id+1),0):=by rw [gDropM,if_neg (by rw [hc1];simp)]
 obtain ⟨i,hi0⟩:∃ i,i=lbI GObj.id m id:=⟨_,rfl⟩
 rw [← hi0] at hgp hle
 have hat:=fun H=>at_c m id H hl hu
 rw [← hi0] at hat
 refine awp_skip<|Sq<|Rg<|Dd (by exact opd_loadn_ref rfl Tryz.isAgg38 Tryz.sizeOf38 rfl rfl rfl rfl (by simp only [Zl,encTag,encObj,encStr,encEdit,encInt];rfl) rfl)<|Dd mv'<|Dd (by exact opr_call rfl rfl Tryz.call167 rfl (hat _))<|Dd mv'<|Dd ex'<|Dd ex'<|Dd as'<|Dd as'<|Zz<|Sq<|Sq<|Rg<|Dd mv'<|Dd no'<|Zz ?_
 refine Cn (fun hc2=>?_) fun hc2=>?_
 ·rw [hgp,if_pos hc2]
  refine Sq<|Rg<|Dd (bu' bo38)<|Uu (sa' Tryz.sizeOf38)<|Dd as'<|Zz<|awp_ret ?_
  refine aret2 (H':=[]) (.inr rfl) rfl (rval_cell rfl Tryz.isAgg38 Tryz.sizeOf38 rfl rfl rfl (by simp only [Zl,encTag,encObj,encStr,encEdit,encInt];rfl) rfl) (rval_tmp rfl) (Fin.wk (by simp) trivial trivial) ?_
  exact⟨rfl,rfl⟩
 have hf:hasK GObj.id m id=true:=by
  have h:=hc2
  revert h
  cases hasK GObj.id m id<;>simp
 obtain ⟨x,hx,hxk⟩:=hasK_get hu hf
 rw [← hi0] at hx
 have hlt:=(List.getElem?_eq_some_iff.1 hx).1
 rw [hgp,if_neg (by rw [hc2];simp)]
 have hw:IntKind.i64.wrap ((i:Int)+1)=((i+1:Nat):Int):=by rw [IntKind.wrap_i64];omega
 have hs:slObjs (m.take i++m.drop (i+1))=.sl ((m.map encObj).take i++(m.map encObj).drop (i+1)):=by rw [slObjs,List.map_append,List.map_take,List.map_drop]
 rw [hs]
 refine awp_skip<|Sq<|Rg<|Dd (fr' fo38_0)<|Dd (l1' Tryz.isAgg36)<|Dd (by exact opr_call rfl rfl Tryz.call168 rfl (clone_Obj (m.map encObj) _ (Closed.ofL ⟨(by(simp;done)),(by(simp;done)),trivial⟩) rfl rfl (by omega) hrl))<|Dd mv'<|Dd mv'<|Dd (by exact opd_add rfl rfl rfl hw)<|Dd (by exact opr_call rfl rfl Tryz.call170 rfl (delete_Obj (m.map encObj) i (i+1) 1 _ (Closed.ofL ⟨(by(simp;done)),(by(simp;done)),(by(simp;done)),trivial⟩) rfl (by omega) (by omega) (by omega) hrl))<|Dd (bu' bo38)<|Uu (sa' Tryz.sizeOf38)<|Dd as'<|Zz<|awp_ret ?_
 refine aret2 (H':=[]) (.inr rfl) rfl (rl' Tryz.isAgg38 Tryz.sizeOf38) (rval_tmp rfl) (Fin.wk (r:=.tup [.agg [.pv (.sl ((m.map encObj).take i++(m.map encObj).drop (i+1)))],iv 0]) (by simp) trivial trivial) ?_
 exact⟨rfl,rfl⟩
/-- What an edit leads to: objects to put, an Id to drop, an error. -/
structure GRes where
 put:List GObj
 drop:ByteArray
 err:Int
def encRes (r:GRes):List PV:=[slObjs r.put,.str r.drop,.int .i64 r.err]
def errR (n:Int):GRes:=⟨[],sNil,n⟩
def gSplit (m:List GObj) (e:GEdit) (o:GObj):GRes :=
 if(kindOf m e.other).isSome then errR 9
 else if decide (gInner o.refs e.node < 0)then errR 12
 else if gRefd m true [e.id] then errR 14
 else⟨[⟨o.id,o.kind,o.x,o.y,o.refs.take ((gInner o.refs e.node).toNat+1),o.tags⟩,⟨e.other,2,0,0,o.refs.drop (gInner o.refs e.node).toNat,o.tags⟩],sNil,0⟩
/-- A plain result, of a function on a closed map. -/
theorem Fin.cl {m:List GObj} {H1:Heap} (ps:List PV) (h14:H1.get 14=some (cRow m)) (h12:H1.get 12=some (kob m)):Fin (cH m) H1 (av ps) (cH m) (av ps) :=
 Fin.wk (by simp [av]) ⟨⟨_,h14,rfl⟩,by simp;rfl,⟨_,h12,rfl⟩,kob_clo _ _,trivial⟩ ⟨h14.symm,h12.symm,trivial⟩
end
section
def atS (l:List ByteArray) (k:Nat):ByteArray:=(l[k]?).getD sNil
def gJoin (m:List GObj) (e:GEdit) (o x:GObj):GRes :=
 if !decide (x.kind=2)then errR 13
 else if decide (e.id=e.other)||!decide (atS o.refs (o.refs.length - 1)=atS x.refs 0)then errR 12
 else if gRefd m true [e.id,e.other] then errR 14
 else if decide (2000 < o.refs.length+x.refs.length - 1)then errR 2
 else⟨[⟨o.id,o.kind,o.x,o.y,[o.refs,x.refs.drop 1].flatten,o.tags⟩],e.other,0⟩
end
section
section
variable {N:Nat} {o:Oper} {E:Env} {H:Heap} {x y:Operand}
theorem lk_some {m:List GObj} {s:ByteArray} {k:Int} (ho:o.op=.lookup 80 x y true) (hx:aeval E x=some (.mp 12 0)) (hH:H.get 12=some (kob m)) (hy:aeval E y=some (sv s)) (hk:kindOf m s=some k):OpD Tryz.prog N o E H (.tup [iv k,bv true]) H:=by
 have h:=opd_lookup_ok (N:=N) (κ:=strK) ho Tryz.underlying80 Tryz.underlying9 hx hH rfl rfl hy Tryz.zeroValue3 (.inl rfl)
 rw [kM_kind,hk] at h
 exact h
theorem lk_none {m:List GObj} {s:ByteArray} (ho:o.op=.lookup 80 x y true) (hx:aeval E x=some (.mp 12 0)) (hH:H.get 12=some (kob m)) (hy:aeval E y=some (sv s)) (hk:kindOf m s=none):OpD Tryz.prog N o E H (.tup [iv 0,bv false]) H:=by
 have h:=opd_lookup_ok (N:=N) (κ:=strK) ho Tryz.underlying80 Tryz.underlying9 hx hH rfl rfl hy Tryz.zeroValue3 (.inl rfl)
 rw [kM_kind,hk] at h
 exact h
theorem lk_c {m:List GObj} {s:ByteArray} (ho:o.op=.lookup 80 x y true) (hx:aeval E x=some (.mp 12 0)) (hH:H.get 12=some (kob m)) (hy:aeval E y=some (sv s)):OpD Tryz.prog N o E H (.tup [iv ((kindOf m s).getD 0),bv (kindOf m s).isSome]) H:=by
 cases hk:kindOf m s with
 | none=>exact lk_none ho hx hH hy hk
 | some k=>exact lk_some ho hx hH hy hk
end
def fitsB (op kind:Int):Bool:=if op=2 then decide (kind=1)else if op=4 then(decide (kind=2)||(decide (kind=3)||decide (kind=4)))else if op=6||op=7 then decide (kind=2)else true
def gPerform (m:List GObj) (e:GEdit):GRes :=
 if e.op=1 then(if(kindOf m e.obj.id).isSome then errR 9 else⟨[e.obj],sNil,refErr m e.obj.kind 0 e.obj.refs⟩)
 else match m.find? (idIs e.id)with
 | none=>errR 11
 | some o =>
  if decide (e.op=7)&&(m.find? (idIs e.other)).isNone then errR 11
  else if !fitsB e.op o.kind then errR 13
  else if e.op=2 then⟨[⟨o.id,o.kind,e.x,e.y,o.refs,o.tags⟩],sNil,0⟩
  else if e.op=3 then(if !decide ((gSet o.tags e.key e.val).2=0)then errR (gSet o.tags e.key e.val).2 else⟨[⟨o.id,o.kind,o.x,o.y,o.refs,(gSet o.tags e.key e.val).1⟩],sNil,0⟩)
  else if e.op=4 then(if !gObj ⟨o.id,o.kind,o.x,o.y,e.refs,o.tags⟩then errR 1 else⟨[⟨o.id,o.kind,o.x,o.y,e.refs,o.tags⟩],sNil,refErr m o.kind 0 e.refs⟩)
  else if e.op=5 then(if gRefd m false [e.id] then errR 14 else⟨[],e.id,0⟩)
  else if e.op=6 then gSplit m e o
  else gJoin m e o ((m.find? (idIs e.other)).getD zObj)
theorem kindOf_some {m:List GObj} {s:ByteArray} {o:GObj} (h:m.find? (idIs s)=some o):kindOf m s=some o.kind:=by rw [kindOf,h];rfl
theorem kindOf_none {m:List GObj} {s:ByteArray} (h:m.find? (idIs s)=none):kindOf m s=none:=by rw [kindOf,h];rfl
theorem refsC_c (m:List GObj) (o:GObj) (H:Heap) (h14:H.get 14=some (cRow m)) (h12:H.get 12=some (kob m)) (hl:o.refs.length < 4611686018427387904):ACalls Tryz.prog 117 [.ref 14 0 0 0,av (encObj o)] H (fun r H'=>r=iv (refErr m o.kind 0 o.refs)∧H'=H) :=
 cl_c (refs_c m o (cH m) rfl rfl rfl (Closed.ofL ⟨(by(simp;rfl)),(by exact kob_clo _ _),trivial⟩) hl) h14 h12 (by simp;rfl)
theorem perf1_c (m:List GObj) (e:GEdit) (hm:okM m) (he:e.op=1) (hr:e.obj.refs.length < 4611686018427387904) :
  ACalls Tryz.prog 118 [.ref 14 0 0 0,av (encEdit e)] (cH m) (fun r H'=>r=av (encRes (gPerform m e))∧H'=cH m):=by
 rw [gPerform,if_pos he]
 refine Bd Tryz.func118 rfl Tryz.ntmps118<|Sq<|Rg<|Dd (by exact opd_box (id:=3) rfl rfl rfl rfl rfl)<|Dd (by exact x_alloc (id:=4) rfl zo154 rfl rfl)<|Zz<|Sq<|Sq<|Rg<|Dd (fr' fo51_0)<|Dd (l1' Tryz.isAgg3)<|Dd eql'<|Zz ?_
 refine Cn (fun hc1=>?_) fun hc1=>?_
 ·cases hf:kindOf m e.obj.id with
  | some k =>
   rw [if_pos (show (some k).isSome=true from rfl)]
   refine Sq<|Sq ?_
   refine awp_drawc follows ?_
   refine Cq mv'<|Cq nc'<|Cq (fr' fo114_1)<|Cq (l1' Tryz.isAgg80)<|Cq (fr' fo51_8)<|Cq (fr' fo49_0)<|Cq (l1' Tryz.isAgg9)<|Cq (by exact lk_some rfl rfl rfl rfl hf)<|Cq mv'<|Cq ex'<|Cq ex'<|Cq as'<|Cq as' ?_
   refine dc_nil ⟨by kernel_rfl,?_⟩
   refine Sq<|Rg<|Dd mv'<|Zz ?_
   refine Cn (fun hc2=>?_) fun hc2=>?_
   ·skip
    refine Sq<|Rg<|Dd (bu' bo154)<|Uu (sa' Tryz.sizeOf154)<|Zz<|awp_ret ?_
    refine aret1 (H':=(cH m)) (.inr rfl) rfl (rl' Tryz.isAgg154 Tryz.sizeOf154) (Fin.cl (m:=m) (encRes (errR 9)) rfl rfl) ?_
    exact⟨rfl,rfl⟩
   cases hc2
  | none =>
   rw [if_neg (show ¬ (none:Option Int).isSome=true by simp)]
   refine Sq<|Sq ?_
   refine awp_drawc follows ?_
   refine Cq mv'<|Cq nc'<|Cq (fr' fo114_1)<|Cq (l1' Tryz.isAgg80)<|Cq (fr' fo51_8)<|Cq (fr' fo49_0)<|Cq (l1' Tryz.isAgg9)<|Cq (by exact lk_none rfl rfl rfl rfl hf)<|Cq mv'<|Cq ex'<|Cq ex'<|Cq as'<|Cq as' ?_
   refine dc_nil ⟨by kernel_rfl,?_⟩
   refine Sq<|Rg<|Dd mv'<|Zz ?_
   refine Cn (fun hc3=>?_) fun hc3=>?_
   ·cases hc3
   skip
   refine awp_skip<|Sq ?_
   refine awp_drawc follows ?_
   refine Cr [3] (fun _ h=>fh fo51_8 h)<|Cr [3] (fun H1 hH=>by exact opd_loadn_ref rfl Tryz.isAgg49 Tryz.sizeOf49 rfl ((hH _ rfl).trans rfl) rfl rfl (by simp only [Zl,encTag,encObj,encStr,encEdit,encInt];rfl) rfl)<|Cr [] (fun H1 hH=>by exact x_buildSlice ([e.obj].map encObj) rfl so36 rfl rfl rfl rfl rfl (by simp [encObj]))<|Cr [14] (fun _ _=>mv')<|Cr [3] (fun _ h=>fh fo51_8 h)<|Cr [3] (fun H1 hH=>by exact opd_loadn_ref rfl Tryz.isAgg49 Tryz.sizeOf49 rfl ((hH _ rfl).trans rfl) rfl rfl (by simp only [Zl,encTag,encObj,encStr,encEdit,encInt];rfl) rfl)<|Cr [14,12] (fun H1 hH=>by exact opr_call rfl rfl Tryz.call117 rfl (refsC_c m e.obj _ ((hH 14 rfl).trans rfl) ((hH 12 rfl).trans rfl) hr))<|Cr [] (fun _ _=>(bu' bo154))<|Cp [4] (fun H1 hH=>by exact x_store_all rfl Tryz.sizeOf154 rfl rfl rfl rfl ((hH _ rfl).trans rfl) rfl rfl rfl) ?_
   refine dc_nil ⟨by kernel_rfl,?_⟩
   refine awp_ret ?_
   refine aret1 (H':=(cH m)) (.inr rfl) rfl (rl' Tryz.isAgg154 Tryz.sizeOf154) (Fin.cl (m:=m) (encRes ⟨[e.obj],sNil,refErr m e.obj.kind 0 e.obj.refs⟩) rfl rfl) ?_
   exact⟨rfl,rfl⟩
 have:=of_decide_eq_false hc1
 exact absurd he this
theorem perf2_c (m:List GObj) (id other node:ByteArray) (x y:Int) (key val:ByteArray) (refs:List ByteArray) (obj:GObj) (hm:okM m) (ho9:∀ o,o∈m→o.refs.length < 549755813888∧o.tags.length < 1099511627776) :
  ACalls Tryz.prog 118 [.ref 14 0 0 0,av (encEdit ⟨2,id,other,node,x,y,key,val,refs,obj⟩)] (cH m) (fun r H'=>r=av (encRes (gPerform m ⟨2,id,other,node,x,y,key,val,refs,obj⟩))∧H'=cH m):=by
 rw [gPerform,if_neg (show ¬ ((2:Int)=1)by decide)]
 simp only
 refine Bd Tryz.func118 rfl Tryz.ntmps118<|Sq<|Rg<|Dd (by exact opd_box (id:=3) rfl rfl rfl rfl rfl)<|Dd (by exact x_alloc (id:=4) rfl zo154 rfl rfl)<|Zz<|Sq<|Sq<|Rg<|Dd (fr' fo51_0)<|Dd (l1' Tryz.isAgg3)<|Dd eql'<|Zz ?_
 refine Cn (fun hc1=>?_) fun hc1=>?_
 ·cases hc1
 skip
 cases hf:m.find? (idIs id)with
 | none =>
  refine awp_skip<|Sq ?_
  refine awp_drawc follows ?_
  refine Cq mv'<|Cq nc'<|Cq (fr' fo114_1)<|Cq (l1' Tryz.isAgg80)<|Cq (fr' fo51_1)<|Cq (l1' Tryz.isAgg9)<|Cq (by exact lk_none rfl rfl rfl rfl (kindOf_none hf))<|Cq mv'<|Cq ex'<|Cq ex'<|Cq as'<|Cq as' ?_
  refine dc_nil ⟨by kernel_rfl,?_⟩
  refine Sq<|Sq ?_
  refine awp_drawc follows ?_
  refine Cq mv'<|Cq nc'<|Cq (fr' fo114_1)<|Cq (l1' Tryz.isAgg80)<|Cq (fr' fo51_2)<|Cq (l1' Tryz.isAgg9)<|Cq (by exact lk_c rfl rfl rfl rfl)<|Cq mv'<|Cq ex'<|Cq ex'<|Cq as'<|Cq as' ?_
  refine dc_nil ⟨by kernel_rfl,?_⟩
  refine Sq<|Rg<|Dd mv'<|Dd no'<|Dd mv' ?_
  refine al_off rfl rfl rfl (by rfl) rfl ?_
  refine al_off rfl rfl rfl (by rfl) rfl ?_
  refine al_off rfl rfl rfl (by rfl) rfl ?_
  refine al_off rfl rfl rfl (by rfl) rfl ?_
  refine al_offu rfl rfl rfl rfl ?_
  refine al_offu rfl rfl rfl rfl ?_
  refine al_off rfl rfl rfl (by rfl) rfl ?_
  refine Dd pk'<|Zz ?_
  refine Cn (fun hc2=>?_) fun hc2=>?_
  ·skip
   refine Sq<|Rg<|Dd (bu' bo154)<|Uu (sa' Tryz.sizeOf154)<|Zz<|awp_ret ?_
   refine aret1 (H':=(cH m)) (.inr rfl) rfl (rl' Tryz.isAgg154 Tryz.sizeOf154) (Fin.cl (m:=m) (encRes (errR 11)) rfl rfl) ?_
   exact⟨rfl,rfl⟩
  cases hc2
 | some o =>
  simp only [show decide ((2:Int)=7)=false from rfl,Bool.false_and,Bool.false_eq_true,if_false,if_true]
  have hom:=List.mem_of_find?_eq_some hf
  obtain ⟨ho1,ho2⟩:=ho9 o hom
  have hoo:=hm.2 o hom
  refine awp_skip<|Sq ?_
  refine awp_drawc follows ?_
  refine Cq mv'<|Cq nc'<|Cq (fr' fo114_1)<|Cq (l1' Tryz.isAgg80)<|Cq (fr' fo51_1)<|Cq (l1' Tryz.isAgg9)<|Cq (by exact lk_some rfl rfl rfl rfl (kindOf_some hf))<|Cq mv'<|Cq ex'<|Cq ex'<|Cq as'<|Cq as' ?_
  refine dc_nil ⟨by kernel_rfl,?_⟩
  refine Sq<|Sq ?_
  refine awp_drawc follows ?_
  refine Cq mv'<|Cq nc'<|Cq (fr' fo114_1)<|Cq (l1' Tryz.isAgg80)<|Cq (fr' fo51_2)<|Cq (l1' Tryz.isAgg9)<|Cq (by exact lk_c rfl rfl rfl rfl)<|Cq mv'<|Cq ex'<|Cq ex'<|Cq as'<|Cq as' ?_
  refine dc_nil ⟨by kernel_rfl,?_⟩
  refine Sq<|Rg<|Dd mv'<|Dd no'<|Dd mv' ?_
  refine al_ond rfl rfl rfl (by rfl) rfl rfl (by exact opd_field_ref rfl fo51_0 rfl rfl rfl rfl) ?_
  refine al_ond rfl rfl rfl (by rfl) rfl rfl (by exact opd_load1_ref rfl Tryz.isAgg3 rfl rfl rfl rfl rfl) ?_
  refine al_ond rfl rfl rfl (by rfl) rfl rfl (by exact opd_eql rfl rfl rfl) ?_
  refine al_ond rfl rfl rfl (by rfl) rfl rfl (by exact opd_move rfl rfl) ?_
  refine al_off rfl rfl rfl (by rfl) rfl ?_
  refine al_off rfl rfl rfl (by rfl) rfl ?_
  refine al_ond rfl rfl rfl (by rfl) rfl rfl (by exact opd_pick_f rfl rfl rfl) ?_
  refine Dd pk'<|Zz ?_
  refine Cn (fun hc3=>?_) fun hc3=>?_
  ·cases hc3
  skip
  refine awp_skip<|Sq<|Rg<|Dd mv'<|Dd (fr' fo51_1)<|Dd (l1' Tryz.isAgg9)<|Dd (by exact opr_call rfl rfl Tryz.call160 rfl (get_c m id o _ rfl rfl hm hf))<|Dd (by exact x_alloc (id:=11) rfl zo49 rfl rfl)<|Uu (sa' Tryz.sizeOf49)<|Zz<|Sq<|Rg<|Dd (by exact opd_makeMap (id:=77) (intK .i64) rfl rfl)<|Dd (by exact x_buildSlice ([(1:Int)].map encInt) rfl so42 rfl rfl rfl rfl rfl (by simp [encInt]))<|Uu (by exact x_mapUpdate (κ:=(intK .i64)) (.inr rfl) Tryz.underlying193 Tryz.underlying3 rfl rfl rfl rfl rfl rfl rfl rfl)<|Dd (by exact x_buildSlice ([(2:Int),3,4].map encInt) rfl so42 rfl rfl rfl rfl rfl (by simp [encInt]))<|Uu (by exact x_mapUpdate (κ:=(intK .i64)) (.inr rfl) Tryz.underlying193 Tryz.underlying3 rfl rfl rfl rfl rfl rfl rfl rfl)<|Dd (by exact x_buildSlice ([(2:Int)].map encInt) rfl so42 rfl rfl rfl rfl rfl (by simp [encInt]))<|Uu (by exact x_mapUpdate (κ:=(intK .i64)) (.inr rfl) Tryz.underlying193 Tryz.underlying3 rfl rfl rfl rfl rfl rfl rfl rfl) ?_
  refine Dd (by exact x_buildSlice ([(2:Int)].map encInt) rfl so42 rfl rfl rfl rfl rfl (by simp [encInt]))<|Uu (by exact x_mapUpdate (κ:=(intK .i64)) (.inr rfl) Tryz.underlying193 Tryz.underlying3 rfl rfl rfl rfl rfl rfl rfl rfl)<|Dd mv'<|Dd as'<|Zz<|Sq<|Sq<|Rg<|Dd mv'<|Dd (fr' fo51_0)<|Dd (l1' Tryz.isAgg3)<|Dd (by exact opd_lookup_ok (κ:=(intK .i64)) rfl Tryz.underlying193 Tryz.underlying3 rfl rfl rfl rfl rfl Tryz.zeroValue42 (.inl rfl))<|Dd mv'<|Dd ex'<|Dd ex'<|Dd as'<|Dd as'<|Zz<|Sq<|Rg<|Dd mv'<|Dd mv' ?_
  refine al_ond rfl rfl rfl (by rfl) rfl rfl (by exact opd_move rfl rfl) ?_
  refine al_ond rfl rfl rfl (by rfl) rfl rfl (by exact opd_field_ref rfl fo49_1 rfl rfl rfl rfl) ?_
  refine al_ond rfl rfl rfl (by rfl) rfl rfl (by exact opd_load1_ref rfl Tryz.isAgg3 rfl rfl rfl rfl rfl) ?_
  refine al_ond rfl rfl rfl (by rfl) rfl rfl (by exact opr_call rfl rfl Tryz.call161 rfl (containsI_c [(1:Int)] o.kind _ (by decide))) ?_
  refine al_ond rfl rfl rfl (by rfl) rfl rfl (by exact opd_not rfl rfl) ?_
  refine Dd pk'<|Zz ?_
  refine Cn (fun hc4=>?_) fun hc4=>?_
  ·have hb:(!fitsB 2 o.kind)=true:=by
    have h:=hc4
    rw [← h]
    simp [fitsB]
   rw [hb,if_pos rfl]
   refine Sq<|Rg<|Dd (bu' bo154)<|Uu (sa' Tryz.sizeOf154)<|Zz<|awp_ret ?_
   refine aret1 (H':=(cH m)) (.inr rfl) rfl (rl' Tryz.isAgg154 Tryz.sizeOf154) (Fin.cl (m:=m) (encRes (errR 13)) rfl rfl) ?_
   exact⟨rfl,rfl⟩
  have hb:(!fitsB 2 o.kind)=false:=by
   have h:=hc4
   rw [← h]
   simp [fitsB]
  rw [hb,if_neg (by simp)]
  refine awp_skip<|Sq<|Sq<|Rg<|Dd (fr' fo51_0)<|Dd (l1' Tryz.isAgg3)<|Zz<|awp_block<|Sq<|Rg<|Dd eql'<|Dd as'<|Zz ?_
  refine Cn (fun hc5=>?_) fun hc5=>?_
  ·skip
   refine Rg<|Dd (fr' fo51_4)<|Dd (by exact opd_loadn_ref rfl Tryz.isAgg45 Tryz.sizeOf45 rfl rfl rfl rfl (by simp only [Zl,encTag,encObj,encStr,encEdit,encInt];rfl) rfl)<|Dd (fr' fo49_2)<|Uu (by exact x_store rfl Tryz.sizeOf45 rfl rfl rfl rfl rfl rfl rfl (Nat.le_of_ble_eq_true rfl) rfl rfl)<|Zz<|Sq<|Rg<|Dd (ln' Tryz.isAgg49 Tryz.sizeOf49)<|Dd (by exact x_buildSlice ([(⟨o.id,o.kind,x,y,o.refs,o.tags⟩:GObj)].map encObj) rfl so36 rfl rfl rfl rfl rfl (by simp [encObj]))<|Dd (bu' bo154)<|Uu (sa' Tryz.sizeOf154)<|Zz<|awp_ret ?_
   refine aret1 (H':=(cH m)) (.inr rfl) rfl (rl' Tryz.isAgg154 Tryz.sizeOf154) (Fin.cl (m:=m) (encRes ⟨[⟨o.id,o.kind,x,y,o.refs,o.tags⟩],sNil,0⟩) rfl rfl) ?_
   exact⟨rfl,rfl⟩
  cases hc5
end
section
theorem perf5_c (m:List GObj) (id other node:ByteArray) (x y:Int) (key val:ByteArray) (refs:List ByteArray) (obj:GObj) (hm:okM m) (ho9:∀ o,o∈m→o.refs.length < 549755813888∧o.tags.length < 1099511627776) :
  ACalls Tryz.prog 118 [.ref 14 0 0 0,av (encEdit ⟨5,id,other,node,x,y,key,val,refs,obj⟩)] (cH m) (fun r H'=>r=av (encRes (gPerform m ⟨5,id,other,node,x,y,key,val,refs,obj⟩))∧H'=cH m):=by
 rw [gPerform,if_neg (show ¬ ((5:Int)=1)by decide)]
 simp only
 refine Bd Tryz.func118 rfl Tryz.ntmps118<|Sq<|Rg<|Dd (by exact opd_box (id:=3) rfl rfl rfl rfl rfl)<|Dd (by exact x_alloc (id:=4) rfl zo154 rfl rfl)<|Zz<|Sq<|Sq<|Rg<|Dd (fr' fo51_0)<|Dd (l1' Tryz.isAgg3)<|Dd eql'<|Zz ?_
 refine Cn (fun hc1=>?_) fun hc1=>?_
 ·cases hc1
 skip
 cases hf:m.find? (idIs id)with
 | none =>
  refine awp_skip<|Sq ?_
  refine awp_drawc follows ?_
  refine Cq mv'<|Cq nc'<|Cq (fr' fo114_1)<|Cq (l1' Tryz.isAgg80)<|Cq (fr' fo51_1)<|Cq (l1' Tryz.isAgg9)<|Cq (by exact lk_none rfl rfl rfl rfl (kindOf_none hf))<|Cq mv'<|Cq ex'<|Cq ex'<|Cq as'<|Cq as' ?_
  refine dc_nil ⟨by kernel_rfl,?_⟩
  refine Sq<|Sq ?_
  refine awp_drawc follows ?_
  refine Cq mv'<|Cq nc'<|Cq (fr' fo114_1)<|Cq (l1' Tryz.isAgg80)<|Cq (fr' fo51_2)<|Cq (l1' Tryz.isAgg9)<|Cq (by exact lk_c rfl rfl rfl rfl)<|Cq mv'<|Cq ex'<|Cq ex'<|Cq as'<|Cq as' ?_
  refine dc_nil ⟨by kernel_rfl,?_⟩
  refine Sq<|Rg<|Dd mv'<|Dd no'<|Dd mv' ?_
  refine al_off rfl rfl rfl (by rfl) rfl ?_
  refine al_off rfl rfl rfl (by rfl) rfl ?_
  refine al_off rfl rfl rfl (by rfl) rfl ?_
  refine al_off rfl rfl rfl (by rfl) rfl ?_
  refine al_offu rfl rfl rfl rfl ?_
  refine al_offu rfl rfl rfl rfl ?_
  refine al_off rfl rfl rfl (by rfl) rfl ?_
  refine Dd pk'<|Zz ?_
  refine Cn (fun hc2=>?_) fun hc2=>?_
  ·skip
   refine Sq<|Rg<|Dd (bu' bo154)<|Uu (sa' Tryz.sizeOf154)<|Zz<|awp_ret ?_
   refine aret1 (H':=(cH m)) (.inr rfl) rfl (rl' Tryz.isAgg154 Tryz.sizeOf154) (Fin.cl (m:=m) (encRes (errR 11)) rfl rfl) ?_
   exact⟨rfl,rfl⟩
  cases hc2
 | some o =>
  simp only [show decide ((5:Int)=7)=false from rfl,Bool.false_and,Bool.false_eq_true,if_false,if_true]
  rw [if_neg (show ¬ ((5:Int)=2)by decide),if_neg (show ¬ ((5:Int)=3)by decide),if_neg (show ¬ ((5:Int)=4)by decide)]
  have hom:=List.mem_of_find?_eq_some hf
  obtain ⟨ho1,ho2⟩:=ho9 o hom
  have hoo:=hm.2 o hom
  refine awp_skip<|Sq ?_
  refine awp_drawc follows ?_
  refine Cq mv'<|Cq nc'<|Cq (fr' fo114_1)<|Cq (l1' Tryz.isAgg80)<|Cq (fr' fo51_1)<|Cq (l1' Tryz.isAgg9)<|Cq (by exact lk_some rfl rfl rfl rfl (kindOf_some hf))<|Cq mv'<|Cq ex'<|Cq ex'<|Cq as'<|Cq as' ?_
  refine dc_nil ⟨by kernel_rfl,?_⟩
  refine Sq<|Sq ?_
  refine awp_drawc follows ?_
  refine Cq mv'<|Cq nc'<|Cq (fr' fo114_1)<|Cq (l1' Tryz.isAgg80)<|Cq (fr' fo51_2)<|Cq (l1' Tryz.isAgg9)<|Cq (by exact lk_c rfl rfl rfl rfl)<|Cq mv'<|Cq ex'<|Cq ex'<|Cq as'<|Cq as' ?_
  refine dc_nil ⟨by kernel_rfl,?_⟩
  refine Sq<|Rg<|Dd mv'<|Dd no'<|Dd mv' ?_
  refine al_ond rfl rfl rfl (by rfl) rfl rfl (by exact opd_field_ref rfl fo51_0 rfl rfl rfl rfl) ?_
  refine al_ond rfl rfl rfl (by rfl) rfl rfl (by exact opd_load1_ref rfl Tryz.isAgg3 rfl rfl rfl rfl rfl) ?_
  refine al_ond rfl rfl rfl (by rfl) rfl rfl (by exact opd_eql rfl rfl rfl) ?_
  refine al_ond rfl rfl rfl (by rfl) rfl rfl (by exact opd_move rfl rfl) ?_
  refine al_off rfl rfl rfl (by rfl) rfl ?_
  refine al_off rfl rfl rfl (by rfl) rfl ?_
  refine al_ond rfl rfl rfl (by rfl) rfl rfl (by exact opd_pick_f rfl rfl rfl) ?_
  refine Dd pk'<|Zz ?_
  refine Cn (fun hc3=>?_) fun hc3=>?_
  ·cases hc3
  skip
  refine awp_skip<|Sq<|Rg<|Dd mv'<|Dd (fr' fo51_1)<|Dd (l1' Tryz.isAgg9)<|Dd (by exact opr_call rfl rfl Tryz.call160 rfl (get_c m id o _ rfl rfl hm hf))<|Dd (by exact x_alloc (id:=11) rfl zo49 rfl rfl)<|Uu (sa' Tryz.sizeOf49)<|Zz<|Sq<|Rg<|Dd (by exact opd_makeMap (id:=77) (intK .i64) rfl rfl)<|Dd (by exact x_buildSlice ([(1:Int)].map encInt) rfl so42 rfl rfl rfl rfl rfl (by simp [encInt]))<|Uu (by exact x_mapUpdate (κ:=(intK .i64)) (.inr rfl) Tryz.underlying193 Tryz.underlying3 rfl rfl rfl rfl rfl rfl rfl rfl)<|Dd (by exact x_buildSlice ([(2:Int),3,4].map encInt) rfl so42 rfl rfl rfl rfl rfl (by simp [encInt]))<|Uu (by exact x_mapUpdate (κ:=(intK .i64)) (.inr rfl) Tryz.underlying193 Tryz.underlying3 rfl rfl rfl rfl rfl rfl rfl rfl)<|Dd (by exact x_buildSlice ([(2:Int)].map encInt) rfl so42 rfl rfl rfl rfl rfl (by simp [encInt]))<|Uu (by exact x_mapUpdate (κ:=(intK .i64)) (.inr rfl) Tryz.underlying193 Tryz.underlying3 rfl rfl rfl rfl rfl rfl rfl rfl) ?_
  refine Dd (by exact x_buildSlice ([(2:Int)].map encInt) rfl so42 rfl rfl rfl rfl rfl (by simp [encInt]))<|Uu (by exact x_mapUpdate (κ:=(intK .i64)) (.inr rfl) Tryz.underlying193 Tryz.underlying3 rfl rfl rfl rfl rfl rfl rfl rfl)<|Dd mv'<|Dd as'<|Zz<|Sq<|Sq<|Rg<|Dd mv'<|Dd (fr' fo51_0)<|Dd (l1' Tryz.isAgg3)<|Dd (by exact opd_lookup_ok (κ:=(intK .i64)) rfl Tryz.underlying193 Tryz.underlying3 rfl rfl rfl rfl rfl Tryz.zeroValue42 (.inl rfl))<|Dd mv'<|Dd ex'<|Dd ex'<|Dd as'<|Dd as'<|Zz<|Sq<|Rg<|Dd mv'<|Dd mv' ?_
  refine al_off rfl rfl rfl (by rfl) rfl ?_
  refine al_off rfl rfl rfl (by rfl) rfl ?_
  refine al_off rfl rfl rfl (by rfl) rfl ?_
  refine al_off rfl rfl rfl (by rfl) rfl ?_
  refine al_off rfl rfl rfl (by rfl) rfl ?_
  refine Dd pk'<|Zz ?_
  refine Cn (fun hc4=>?_) fun hc4=>?_
  ·cases hc4
  have hb:(!fitsB 5 o.kind)=false:=rfl
  rw [hb,if_neg (by simp)]
  refine awp_skip<|Sq<|Sq<|Rg<|Dd (fr' fo51_0)<|Dd (l1' Tryz.isAgg3)<|Zz<|awp_block<|Sq<|Rg<|Dd eql'<|Dd as'<|Zz ?_
  refine Cn (fun hc5=>?_) fun hc5=>?_
  ·cases hc5
  skip
  refine Sq<|Rg<|Dd eql'<|Dd as'<|Zz ?_
  refine Cn (fun hc6=>?_) fun hc6=>?_
  ·cases hc6
  skip
  refine Sq<|Rg<|Dd eql'<|Dd as'<|Zz ?_
  refine Cn (fun hc7=>?_) fun hc7=>?_
  ·cases hc7
  skip
  refine Sq<|Rg<|Dd eql'<|Dd as'<|Zz ?_
  refine Cn (fun hc8=>?_) fun hc8=>?_
  ·skip
   refine Sq<|Sq<|Rg<|Dd mv'<|Dd (fr' fo51_1)<|Dd (l1' Tryz.isAgg9)<|Dd (by exact x_buildSlice ([id].map encStr) rfl so46 rfl rfl rfl rfl rfl (by simp [encStr]))<|Dd (by exact opr_call rfl rfl Tryz.call163 rfl (refd_c m false [id] _ rfl rfl hm (by show 1 < _;omega)))<|Zz ?_
   refine Cn (fun hc9=>?_) fun hc9=>?_
   ·rw [if_pos hc9]
    refine Sq<|Rg<|Dd (bu' bo154)<|Uu (sa' Tryz.sizeOf154)<|Zz<|awp_ret ?_
    refine aret1 (H':=(cH m)) (.inr rfl) rfl (rl' Tryz.isAgg154 Tryz.sizeOf154) (Fin.cl (m:=m) (encRes (errR 14)) rfl rfl) ?_
    exact⟨rfl,rfl⟩
   rw [if_neg (by rw [hc9];simp)]
   refine awp_skip<|Sq<|Rg<|Dd (fr' fo51_1)<|Dd (l1' Tryz.isAgg9)<|Dd (bu' bo154)<|Uu (sa' Tryz.sizeOf154)<|Zz<|awp_ret ?_
   refine aret1 (H':=(cH m)) (.inr rfl) rfl (rl' Tryz.isAgg154 Tryz.sizeOf154) (Fin.cl (m:=m) (encRes ⟨[],id,0⟩) rfl rfl) ?_
   exact⟨rfl,rfl⟩
  cases hc8
end
section
theorem gObj_len {o:GObj} (h:gObj o=true):o.refs.length≤2000∧o.tags.length≤60∧gTags o.tags=true∧gName o.id=true∧(o.kind=2→2≤o.refs.length):=by
 rw [gObj,Bool.and_eq_true,Bool.not_eq_true',gHead,gHeadN] at h
 have h1:=h.1
 simp only [Bool.or_eq_false_iff,Bool.not_eq_false',decide_eq_false_iff_not] at h1
 obtain ⟨⟨⟨⟨a1,a2⟩,a3⟩,a4⟩,a5⟩:=h1
 refine⟨by omega,(gTags_iff.1 a3).2.2,a3,a2,fun hk=>?_⟩
 rw [hk,show gLeast 2=2 from rfl] at a4
 omega
theorem okTags_ins {l l':List GTag} {key val:ByteArray} (hl:okTags l) (hk:key.size < 4611686018427387904) (hv:val.size < 4611686018427387904) (hlen:l'.length≤l.length+1) (hlt:l.length < 1099511627776) (hm:∀ t,t∈l'→t=⟨key,val⟩∨t∈l):okTags l':=by
 refine⟨by omega,fun t ht=>?_⟩
 rcases hm t ht with rfl|h
 ·exact⟨hk,hv⟩
 exact hl.2 t h
theorem gSet_ok {l:List GTag} {key val:ByteArray} (hl:okTags l) (hk:key.size < 4611686018427387904) (hv:val.size < 4611686018427387904) (hlt:l.length < 1099511627776):okTags (gSet l key val).1:=by
 have hle:=lbI_le GTag.key l key
 unfold gSet
 split
 ·exact⟨by show 0 < _;omega,fun t ht=>by cases ht⟩
 split
 ·split
  ·refine okTags_ins hl hk hv (by simp only [List.length_append,List.length_take,List.length_drop];omega) hlt (fun t ht=>.inr ?_)
   rcases List.mem_append.1 ht with h|h
   ·exact List.mem_of_mem_take h
   exact List.mem_of_mem_drop h
  refine okTags_ins hl hk hv (by simp only [List.length_set];omega) hlt (fun t ht=>?_)
  rcases List.mem_or_eq_of_mem_set ht with h|h
  ·exact .inr h
  exact .inl h
 split
 ·exact hl
 split
 ·exact⟨by show 0 < _;omega,fun t ht=>by cases ht⟩
 refine okTags_ins hl hk hv (by simp only [List.length_append,List.length_take,List.length_drop,List.length_cons];omega) hlt (fun t ht=>?_)
 rcases List.mem_append.1 ht with h|h
 ·exact .inr (List.mem_of_mem_take h)
 rcases List.mem_cons.1 h with h|h
 ·exact .inl h
 exact .inr (List.mem_of_mem_drop h)
theorem find_ok {m:List GObj} {s:ByteArray} {o:GObj} (hm:okM m) (h:m.find? (idIs s)=some o):okO o:=hm.2 o (List.mem_of_find?_eq_some h)
theorem gEditV_iff {e:GEdit}:gEditV e=true↔(1≤e.op∧e.op≤7)∧okOf e=true∧xOf e=e:=by
 rw [gEditV,Bool.and_eq_true,Bool.and_eq_true,Bool.and_eq_true,decide_eq_true_eq,decide_eq_true_eq,gSameE_iff]
theorem gEditV_val {e:GEdit} (h:gEditV e=true):e.val.size≤200:=by
 obtain ⟨_,h2,h3⟩:=gEditV_iff.1 h
 have hv:(xOf e).val=e.val:=by rw [h3]
 by_cases e3:e.op=3
 ·rw [okOf,if_neg (by omega),if_neg (by omega),if_pos e3,Bool.and_eq_true,Bool.and_eq_true,decide_eq_true_eq] at h2
  omega
 have:e.val=sNil:=by
  rw [← hv,xOf]
  repeat' split
  all_goals rfl
 rw [this];decide
theorem perf_ok {m:List GObj} {e:GEdit} (hm:okM m) (hg:gMap m=true) (he:okE e) (hv:gEditV e=true):∀ o,o∈(gPerform m e).put→okO o:=by
 have hvs:=gEditV_val hv
 obtain ⟨⟨h1,h2,h3,h4⟩,⟨h5,h6⟩,h7⟩:=he
 have hlen:∀ o,o∈m→o.refs.length≤2000∧o.tags.length≤60:=fun o ho=>by
  have:=gObj_len ((gMap_iff.1 hg).1 o ho)
  exact⟨this.1,this.2.1⟩
 have hnone:∀ n,∀ o,o∈(errR n).put→okO o:=fun n o ho=>by cases ho
 unfold gPerform
 split
 ·split
  ·exact hnone _
  intro o ho
  rw [List.mem_singleton] at ho;subst ho;exact h7
 split
 ·exact hnone _
 next o hf =>
 have hoo:=find_ok hm hf
 have hol:=hlen o (List.mem_of_find?_eq_some hf)
 split
 ·exact hnone _
 split
 ·exact hnone _
 split
 ·intro x hx
  rw [List.mem_singleton] at hx;subst hx;exact hoo
 split
 ·split
  ·exact hnone _
  intro x hx
  rw [List.mem_singleton] at hx;subst hx
  refine⟨hoo.1,gSet_ok hoo.2.1 ?_ ?_ (by omega),hoo.2.2⟩
  ·exact h4
  omega
 split
 ·split
  ·exact hnone _
  intro x hx
  rw [List.mem_singleton] at hx;subst hx
  exact⟨hoo.1,hoo.2.1,h5,h6⟩
 split
 ·split
  ·exact hnone _
  intro x hx;cases hx
 split
 ·unfold gSplit
  split
  ·exact hnone _
  split
  ·exact hnone _
  split
  ·exact hnone _
  intro x hx
  simp only [List.mem_cons,List.not_mem_nil,or_false] at hx
  rcases hx with rfl|rfl
  ·exact⟨hoo.1,hoo.2.1,by simp only [List.length_take];omega,fun s hs=>hoo.2.2.2 s (List.mem_of_mem_take hs)⟩
  exact⟨h2,hoo.2.1,by simp only [List.length_drop];omega,fun s hs=>hoo.2.2.2 s (List.mem_of_mem_drop hs)⟩
 unfold gJoin
 split
 ·exact hnone _
 split
 ·exact hnone _
 split
 ·exact hnone _
 split
 ·exact hnone _
 intro x hx
 rw [List.mem_singleton] at hx;subst hx
 have hx2:okO ((m.find? (idIs e.other)).getD zObj)∧((m.find? (idIs e.other)).getD zObj).refs.length≤2000:=by
  cases hf2:m.find? (idIs e.other)with
  | none=>exact⟨⟨by decide,⟨by decide,fun t ht=>by cases ht⟩,by decide,fun s hs=>by cases hs⟩,by decide⟩
  | some x=>exact⟨find_ok hm hf2,(hlen x (List.mem_of_find?_eq_some hf2)).1⟩
 refine⟨hoo.1,hoo.2.1,?_,fun s hs=>?_⟩
 ·simp only [List.flatten_cons,List.flatten_nil,List.append_nil,List.length_append,List.length_drop];omega
 simp only [List.flatten_cons,List.flatten_nil,List.append_nil] at hs
 rcases List.mem_append.1 hs with h|h
 ·exact hoo.2.2.2 s h
 exact hx2.1.2.2.2 s (List.mem_of_mem_drop h)
/-- The objects of a list put into a map, one after the other. -/
def putAll:List GObj→List GObj→List GObj×Int
 | m,[]=>(m,0)
 | m,o::r=>if !decide ((gPutM m o).2=0)then([],(gPutM m o).2)else putAll (gPutM m o).1 r
def gAfter (m:List GObj) (e:GEdit):List GObj×Int :=
 if !gEditV e then([],1)
 else if !decide ((gPerform m e).err=0)then([],(gPerform m e).err)
 else if !decide ((putAll m (gPerform m e).put).2=0)then putAll m (gPerform m e).put
 else if !decide ((gPerform m e).drop=sNil)then gDropM (putAll m (gPerform m e).put).1 (gPerform m e).drop
 else((putAll m (gPerform m e).put).1,0)
theorem gPutM_ok {m:List GObj} {o:GObj} (hm:okM m) (ho:okO o) (hl:m.length < 1099511627776):okM (gPutM m o).1∧(gPutM m o).1.length≤m.length+1:=by
 unfold gPutM
 split
 ·exact⟨⟨by show 0 < _;omega,fun x hx=>by cases hx⟩,by show 0≤_;omega⟩
 split
 ·exact⟨⟨by show 0 < _;omega,fun x hx=>by cases hx⟩,by show 0≤_;omega⟩
 exact⟨okM_with hm ho hl,by show (gWith m o).length≤_;rw [gWith_len];split<;>omega⟩
end
section
/-- A map and an error are returned, of a function on a closed map. -/
theorem Fin.clT {m:List GObj} {H1:Heap} (p:PV) (n:Int) (h14:H1.get 14=some (cRow m)) (h12:H1.get 12=some (kob m)):Fin (cH m) H1 (.tup [.agg [.pv p],iv n]) (cH m) (.tup [.agg [.pv p],iv n]) :=
 Fin.wk (by simp) ⟨⟨_,h14,rfl⟩,by simp;rfl,⟨_,h12,rfl⟩,kob_clo _ _,trivial⟩ ⟨h14.symm,h12.symm,trivial⟩
theorem put_small {m:List GObj} {e:GEdit}:(gPerform m e).put.length≤2:=by
 have hn:∀ n,(errR n).put.length≤2:=fun n=>by show 0≤2;omega
 unfold gPerform
 repeat' split
 all_goals first|exact hn _|(simp only [List.length_cons,List.length_nil];omega)|skip
 ·unfold gSplit
  repeat' split
  all_goals first|exact hn _|(simp only [List.length_cons,List.length_nil];omega)
 unfold gJoin
 repeat' split
 all_goals first|exact hn _|(simp only [List.length_cons,List.length_nil];omega)
theorem after0g_c (m:List GObj) (e:GEdit) (hm:okM m) (he:okE e) (hl:m.length < 549755813888) (hpo:gEditV e=true→∀ o,o∈(gPerform m e).put→okO o) (hps:(gPerform m e).put.length≤2)
  (hpf0:gEditV e=true→ACalls Tryz.prog 118 [.ref 14 0 0 0,av (encEdit e)] (cH m) (fun r H'=>r=av (encRes (gPerform m e))∧H'=cH m)) :
  ACalls Tryz.prog 65 [.ref 14 0 0 0,av (encEdit e)] (cH m) (fun r H'=>r=.tup [.agg [.pv (slObjs (gAfter m e).1)],iv (gAfter m e).2]∧H'=cH m):=by
 refine Bd Tryz.func65 rfl Tryz.ntmps65<|Sq<|Rg<|Dd (by exact opd_box (id:=3) rfl rfl rfl rfl rfl)<|Dd (by exact x_alloc (id:=4) rfl zo38 rfl rfl)<|Dd as'<|Zz<|Sq<|Sq<|Rg<|Dd (ln' Tryz.isAgg51 Tryz.sizeOf51)<|Dd (by exact opr_call rfl rfl Tryz.call43 rfl (editValid_c e _ he))<|Dd no'<|Zz ?_
 refine Cn (fun hc1=>?_) fun hc1=>?_
 ·have hga:gAfter m e=([],1):=by rw [gAfter,if_pos hc1]
  rw [hga]
  refine Sq<|Rg<|Dd (bu' bo38)<|Uu (sa' Tryz.sizeOf38)<|Dd as'<|Zz<|awp_ret ?_
  refine aret2 (H':=(cH m)) (.inr rfl) rfl (rl' Tryz.isAgg38 Tryz.sizeOf38) (rval_tmp rfl) (Fin.clT (m:=m) (slObjs []) 1 rfl rfl) ?_
  exact⟨rfl,rfl⟩
 have hv:gEditV e=true:=by
  have h:=hc1
  revert h
  cases gEditV e<;>simp
 have hpo:=hpo hv
 have hga:gAfter m e=(if !decide ((gPerform m e).err=0)then([],(gPerform m e).err)else if !decide ((putAll m (gPerform m e).put).2=0)then putAll m (gPerform m e).put else if !decide ((gPerform m e).drop=sNil)then gDropM (putAll m (gPerform m e).put).1 (gPerform m e).drop else((putAll m (gPerform m e).put).1,0)):=by
  rw [gAfter,if_neg (by rw [hc1];simp)]
 obtain ⟨R,hR⟩:∃ R,R=gPerform m e:=⟨_,rfl⟩
 have hpf:∀ H,H.get 14=some (cRow m)→H.get 12=some (kob m)→ACalls Tryz.prog 118 [.ref 14 0 0 0,av (encEdit e)] H (fun r H'=>r=av (encRes (gPerform m e))∧H'=H):=fun H h14 h12=>cl_c (hpf0 hv) h14 h12 (by simp;rfl)
 clear hpf0
 rw [← hR] at hpo hps hga hpf
 rw [hga]
 refine awp_skip<|Sq<|Rg<|Dd mv'<|Dd (ln' Tryz.isAgg51 Tryz.sizeOf51)<|Dd (by exact opr_call rfl rfl Tryz.call118 rfl (hpf _ rfl rfl))<|Dd (by exact x_alloc (id:=6) rfl zo154 rfl rfl)<|Uu (sa' Tryz.sizeOf154)<|Zz<|Sq<|Sq<|Rg<|Dd (fr' fo154_2)<|Dd (l1' Tryz.isAgg25)<|Dd ne'<|Zz ?_
 refine Cn (fun hc2=>?_) fun hc2=>?_
 ·rw [if_pos hc2]
  refine Sq ?_
  refine awp_drawc follows ?_
  refine Cr [] (fun _ _=>(bu' bo38))<|Cr [6] (fun _ h=>fh fo154_2 h)<|Cr [6] (fun _ h=>lh Tryz.isAgg25 h)<|Cp [4] (fun H1 hH=>by exact x_store_all rfl Tryz.sizeOf38 rfl rfl rfl rfl ((hH _ rfl).trans rfl) rfl rfl rfl)<|Cr [] (fun _ _=>as') ?_
  refine dc_nil ⟨by kernel_rfl,?_⟩
  refine awp_ret ?_
  refine aret2 (H':=(cH m)) (.inr rfl) rfl (rl' Tryz.isAgg38 Tryz.sizeOf38) (rval_tmp rfl) (Fin.clT (m:=m) (slObjs []) R.err rfl rfl) ?_
  exact⟨rfl,rfl⟩
 rw [if_neg (by rw [hc2];simp)]
 refine awp_skip<|Sq<|Rg<|Dd mv'<|Dd nc'<|Dd (fr' fo114_0)<|Dd (ln' Tryz.isAgg38 Tryz.sizeOf38)<|Dd (by exact x_alloc (id:=7) rfl zo38 rfl rfl)<|Uu (sa' Tryz.sizeOf38)<|Zz<|Sq<|Sq<|Rg<|Dd (fr' fo154_0)<|Dd (l1' Tryz.isAgg36)<|Dd (ll' Tryz.underlying36)<|Dd mv'<|Zz<|awp_block ?_
 have hml:(R.put.map encObj).length=R.put.length:=List.length_map _
 refine awp_loop2 (fun(k:Nat) (mk:List GObj)=>([(0,.ref 14 0 0 0),(4,.ref 4 0 0 0),(6,.ref 6 0 0 0),(7,.ref 7 0 0 0),(30,.pv (slObjs R.put)),(31,iv ((R.put.map encObj).length:Int)),(32,iv (k:Int))],[(7,bx 1 38 [.pv (slObjs mk)]),(6,bx 3 154 [.pv (slObjs R.put),sv R.drop,iv R.err]),(4,bx 1 38 [lv []]),(14,cRow m),(12,kob m)])) (fun k mk=>k≤R.put.length∧okM mk∧mk.length≤m.length+k∧putAll m R.put=putAll mk (R.put.drop k)) (fun k mk=>R.put.length - k) 0 m ⟨by omega,hm,by omega,rfl⟩ ?_ ?_
 ·exact(Ent.wk (Ea<|Ea<|Ea<|Ea<|Eb<|Eb<|Eb<|trivial) (Hb<|Hb<|Hb<|Ha<|Hc (kob_clo _ _)<|trivial) ⟨rfl,rfl,trivial⟩)
 rintro k mk ⟨hk,hmk,hmkl,hpa⟩
 refine Sq<|Rg<|Dd lss'<|Zz<|Sq ?_
 refine Cn (fun hc3=>?_) fun hc3=>?_
 ·have hlt:k < R.put.length:=by have:=of_decide_eq_true hc3;omega
  obtain ⟨o,ho⟩:=get_of_lt hlt
  have hi:=map_get (f:=encObj) ho
  have hoo:=hpo o (List.mem_of_getElem? ho)
  have hdr:R.put.drop k=o::R.put.drop (k+1):=by
   obtain ⟨hl1,he1⟩:=List.getElem?_eq_some_iff.1 ho
   rw [List.drop_eq_getElem_cons hl1,he1]
  rw [hdr,putAll] at hpa
  obtain ⟨q1,q2⟩:=gPutM_ok hmk hoo (by omega)
  refine awp_skip<|Sq<|awp_block<|Sq<|Rg<|Dd (xp' so36)<|Dd (by exact opd_loadn_pad rfl Tryz.isAgg49 Tryz.sizeOf49 rfl (by omega) rfl rfl)<|Dd (by exact x_alloc (id:=9) rfl zo49 rfl rfl)<|Uu (sa' Tryz.sizeOf49)<|Zz<|Sq<|Rg<|Dd (ln' Tryz.isAgg38 Tryz.sizeOf38)<|Dd (ln' Tryz.isAgg49 Tryz.sizeOf49)<|Dd (by exact opr_call rfl rfl Tryz.call119 rfl (putM_c mk o _ hmk hoo (by omega)))<|Dd mv'<|Dd ex'<|Dd ex'<|Dd (by exact x_alloc (id:=10) rfl zo38 rfl rfl)<|Uu (sa' Tryz.sizeOf38)<|Dd as'<|Zz<|Sq<|Sq<|Rg<|Dd mv'<|Dd ne'<|Zz ?_
  refine Cn (fun hc4=>?_) fun hc4=>?_
  ·rw [if_pos hc4] at hpa
   have hne:(!decide ((putAll m R.put).2=0))=true:=by rw [hpa];exact hc4
   rw [if_pos hne,hpa]
   refine Sq<|Rg<|Dd (bu' bo38)<|Dd mv'<|Uu (sa' Tryz.sizeOf38)<|Dd as'<|Zz<|awp_ret ?_
   refine aret2 (H':=(cH m)) (.inr rfl) rfl (rl' Tryz.isAgg38 Tryz.sizeOf38) (rval_tmp rfl) (Fin.clT (m:=m) (slObjs []) (gPutM mk o).2 rfl rfl) ?_
   exact⟨rfl,rfl⟩
  rw [if_neg (by rw [hc4];simp)] at hpa
  refine awp_skip<|Rg<|Dd (ln' Tryz.isAgg38 Tryz.sizeOf38)<|Uu (sa' Tryz.sizeOf38)<|Zz<|Rg<|Dd ad'<|Dd mv'<|Zz ?_
  exact⟨k+1,(gPutM mk o).1,⟨by omega,q1,by omega,hpa⟩,by omega,(Ent.wk (Ea<|Ea<|Ea<|Ea<|Eb<|Eb<|Eb<|trivial) (Hb<|Hb<|Hb<|Ha<|Hc (kob_clo _ _)<|trivial) ⟨rfl,rfl,trivial⟩)⟩
 have hge:k=R.put.length:=by have:=of_decide_eq_false hc3;omega
 subst hge
 rw [List.drop_length,putAll] at hpa
 rw [hpa]
 rw [if_neg (show ¬ ((!decide (((mk,(0:Int)):List GObj×Int).2=0))=true)by simp)]
 refine awp_exit<|Sq<|Sq<|Rg<|Dd (fr' fo154_1)<|Dd (l1' Tryz.isAgg9)<|Dd sn'<|Zz ?_
 refine Cn (fun hc5=>?_) fun hc5=>?_
 ·rw [if_pos hc5]
  refine Sq<|Rg<|Dd (ln' Tryz.isAgg38 Tryz.sizeOf38)<|Dd (fr' fo154_1)<|Dd (l1' Tryz.isAgg9)<|Dd (by exact opr_call rfl rfl Tryz.call120 rfl (drop_c mk R.drop _ hmk (by omega)))<|Dd ex'<|Dd ex'<|Uu (sa' Tryz.sizeOf38)<|Dd as'<|Zz<|awp_ret ?_
  refine aret2 (H':=(cH m)) (.inr rfl) rfl (rl' Tryz.isAgg38 Tryz.sizeOf38) (rval_tmp rfl) (Fin.clT (m:=m) (slObjs (gDropM mk R.drop).1) (gDropM mk R.drop).2 rfl rfl) ?_
  exact⟨rfl,rfl⟩
 rw [if_neg (by rw [hc5];simp)]
 refine awp_skip<|Sq<|Rg<|Dd (ln' Tryz.isAgg38 Tryz.sizeOf38)<|Uu (sa' Tryz.sizeOf38)<|Dd as'<|Zz<|awp_ret ?_
 refine aret2 (H':=(cH m)) (.inr rfl) rfl (rl' Tryz.isAgg38 Tryz.sizeOf38) (rval_tmp rfl) (Fin.clT (m:=m) (slObjs mk) 0 rfl rfl) ?_
 exact⟨rfl,rfl⟩
theorem closed_gMap {m:List GObj} (h:closedB m=true):gMap m=true:=by
 rw [closedB,Bool.and_eq_true] at h
 exact h.1
end
section
abbrev look (m:List GObj) (s:ByteArray):Option GObj:=m.find? (idIs s)
theorem look_id {m:List GObj} {s:ByteArray} {o:GObj} (h:look m s=some o):o.id=s:=of_decide_eq_true (show idIs s o=true from List.find?_some h)
theorem look_mem {m:List GObj} {s:ByteArray} {o:GObj} (h:look m s=some o):o∈m:=List.mem_of_find?_eq_some h
theorem mem_look {m:List GObj} {o:GObj} (hu:ups m) (h:o∈m):look m o.id=some o:=by
 cases hf:look m o.id with
 | none =>
  have:=List.find?_eq_none.1 hf o h
  exact absurd (show idIs o.id o=true from decide_eq_true rfl) this
 | some x =>
  have hx:=look_id hf
  obtain ⟨i,hi⟩:=List.mem_iff_getElem?.1 h
  obtain ⟨j,hj⟩:=List.mem_iff_getElem?.1 (look_mem hf)
  rcases Nat.lt_trichotomy i j with h1|h1|h1
  ·have:=asc_get (f:=GObj.id) hu h1 hi hj
   rw [hx,slt_irr] at this;cases this
  ·subst h1;rw [hi] at hj;cases hj;rfl
  have:=asc_get (f:=GObj.id) hu h1 hj hi
  rw [hx,slt_irr] at this;cases this
theorem kindOf_look (m:List GObj) (s:ByteArray):kindOf m s=(look m s).map GObj.kind:=rfl
/-- References that lead to objects of the right kind. -/
def refsOk (m:List GObj) (kind:Int) (refs:List ByteArray):Prop:=∀ (i:Nat) (s:ByteArray),refs[i]?=some s→kindOf m s=some (gWanted kind (i:Int))
theorem refBad_zero {m:List GObj} {kind:Int} {i:Nat} {s:ByteArray}:refBad m kind i s=0↔kindOf m s=some (gWanted kind (i:Int)):=by
 unfold refBad
 cases kindOf m s with
 | none=>simp
 | some k =>
  simp only [Option.some.injEq]
  by_cases e:k=gWanted kind (i:Int)
  ·simp [e]
  simp [e]
theorem refErr_zero {m:List GObj} {kind:Int}:∀ (j:Nat) (l:List ByteArray),refErr m kind j l=0↔∀ (i:Nat) (s:ByteArray),l[i]?=some s→kindOf m s=some (gWanted kind ((j+i:Nat):Int))
 | j,[]=>by simp [refErr]
 | j,s::l=>by
  rw [refErr]
  constructor
  ·intro h
   split at h
   ·next h0 =>
    intro i x hx
    cases i with
    | zero =>
     rw [List.getElem?_cons_zero] at hx;cases hx
     exact refBad_zero.1 h0
    | succ i =>
     rw [List.getElem?_cons_succ] at hx
     have:=(refErr_zero (j+1) l).1 h i x hx
     rw [show j+(i+1)=j+1+i by omega]
     exact this
   next h0=>exact absurd h h0
  intro h
  have h0:=refBad_zero.2 (h 0 s rfl)
  rw [Nat.add_zero] at h0
  rw [if_pos h0]
  refine(refErr_zero (j+1) l).2 fun i x hx=>?_
  have:=h (i+1) x (by rw [List.getElem?_cons_succ];exact hx)
  rw [show j+1+i=j+(i+1)by omega]
  exact this
theorem refErr_ok {m:List GObj} {kind:Int} {l:List ByteArray}:refErr m kind 0 l=0↔refsOk m kind l:=by
 rw [refErr_zero]
 simp only [refsOk,Nat.zero_add]
theorem closed_iff {m:List GObj}:closedB m=true↔gMap m=true∧∀ o,o∈m→refsOk m o.kind o.refs:=by
 rw [closedB,Bool.and_eq_true,List.all_eq_true]
 constructor
 ·rintro⟨h1,h2⟩
  exact⟨h1,fun o ho=>refErr_ok.1 (of_decide_eq_true (h2 o ho))⟩
 rintro⟨h1,h2⟩
 exact⟨h1,fun o ho=>decide_eq_true (refErr_ok.2 (h2 o ho))⟩
end
section
theorem gWanted_low {kind i:Int} (h:kind≤3):gWanted kind i=1:=by
 rw [gWanted,if_neg]
 simp only [Bool.or_eq_true,Bool.and_eq_true,decide_eq_true_eq]
 omega
theorem gObj_kind {o:GObj} (h:gObj o=true):1≤o.kind∧o.kind≤5:=by
 rw [gObj,Bool.and_eq_true,Bool.not_eq_true',gHead,gHeadN] at h
 have h1:=h.1
 simp only [Bool.or_eq_false_iff,decide_eq_false_iff_not] at h1
 have hw:=h1.1.1.1.1
 unfold gWord at hw
 by_cases a:o.kind=1
 ·omega
 by_cases b:o.kind=2
 ·omega
 by_cases c:o.kind=3
 ·omega
 by_cases d:o.kind=4
 ·omega
 by_cases f:o.kind=5
 ·omega
 rw [if_neg a,if_neg b,if_neg c,if_neg d,if_neg f] at hw
 exact absurd rfl hw
end
end Go.Proofs.YtlnfjkdacimblaaGreatDoor
namespace Go.Abs
open Go.Proofs
section
/-- New blocks behind all others. -/
theorem Rel.grown {I:Nat→Prop} {ι:Plc} {H:Heap} {w:World} (os:Array Obj) (hr:Rel I ι H w):Rel I ι H (Sort.grow w os)∧Step I ι H w I ι H (Sort.grow w os):=by
 have hk:∀ b,b < w.heap.size→(Sort.grow w os).heap[b]?=w.heap[b]?:=fun b hb=>by
  show (w.heap++os)[b]?=_
  rw [Array.getElem?_append_left hb]
 have hst:Step I ι H w I ι H (Sort.grow w os):=by
  refine⟨rfl,rfl,rfl,?_,fun a ha _=>?_,fun _ h=>h,fun _ h=>.inl h,fun _ h=>.inl h,fun b hb _=>hk b hb,fun _ o h=>⟨o,h,Nat.le_refl _,fun _=>⟨rfl,rfl,fun _=>Nat.le_refl _⟩⟩⟩
  ·show w.heap.size≤(w.heap++os).size
   simp
  unfold World.frozen?
  rw [hk _ ha]
 refine⟨⟨fun b hb=>?_,fun j o hj=>?_,hr.inj,hst.glob hr⟩,hst⟩
 ·have:=hr.imm b hb
  show b < (w.heap++os).size
  simp;omega
 exact(hr.obj j o hj).keep rfl (fun b c _ hb=>⟨hk b hb,fun h=>h⟩) (fun r _ a _ v hv=>hv.mono hr hst)
def strRows (l:List ByteArray):List (List AV):=l.map fun s=>[.pv (.str s)]
def toU (s:ByteArray):List UInt8:=s.data.toList
def ofU (l:List UInt8):ByteArray:=⟨l.toArray⟩
theorem ofU_toU (s:ByteArray):ofU (toU s)=s:=by
 cases s;simp [ofU,toU]
/-- The texts in order. -/
def sortS (l:List ByteArray):List ByteArray:=((l.map toU).mergeSort fun x y=>decide (x≤y)).map ofU
theorem sortS_length (l:List ByteArray):(sortS l).length=l.length:=by simp [sortS,List.length_mergeSort]
theorem map_toU (l:List ByteArray):(l.map toU).map ofU=l:=by
 rw [List.map_map]
 conv=>rhs;rw [← List.map_id l]
 exact List.map_congr_left fun s _=>ofU_toU s
theorem sortS_perm (l:List ByteArray):(sortS l).Perm l:=by
 have h:=(List.mergeSort_perm (l.map toU) (fun x y=>decide (x≤y))).map ofU
 rw [map_toU] at h
 exact h
theorem heap_putRow {w:World} {b:Nat} {cs:Array Value} {t:TypeId} {f:Nat×Nat} (h:w.heap[b]?=some (.cells cs t f)) (d:Array (List UInt8)):(Sort.putRow Proofs.encStr w b 0 d)=w.setRow b (Sort.putCells Proofs.encStr 0 d cs):=by
 unfold Sort.putRow Sort.mapBlock World.setRow
 congr 1
 apply Array.ext_getElem?
 intro k
 simp only [Array.getElem?_modify]
 by_cases e:b=k
 ·subst e
  simp [h,Sort.onCells]
 simp [e]
theorem sort_c {P:Program} {ρ:Shelf.Ren} (Ly:SlLaysM.n6 P ρ) (ss:List ByteArray) {id g n ty:Nat} {H:Heap} (hH:H.get id=some ⟨g,1,ty,strRows ss⟩) (hn:n=ss.length) (hl:ss.length < 4611686018427387904) :
  ACalls P (ρ.f 6) [.osl id g 0 n] H (fun r H'=>r=.tup []∧H'=(id,⟨g,1,ty,strRows (sortS ss)⟩)::H):=by
 subst hn
 intro I ι w vs hr hvl hv
 obtain ⟨v,rfl⟩:∃ v,vs=#[v]:=by
  match vs,hvl with
  | ⟨[v]⟩,_=>exact⟨v,rfl⟩
 have h1:=hv 0 v _ rfl rfl
 obtain ⟨_,hcase⟩:=osl_slice h1 hH rfl
 have hrowlen:∀ r∈strRows (sortS ss),r.length=1:=fun r hr=>by
  obtain ⟨s,_,rfl⟩:=List.mem_map.1 hr;rfl
 have g1:Heap.get ((id,⟨g,1,ty,strRows (sortS ss)⟩)::H) id=some ⟨g,1,ty,strRows (sortS ss)⟩:=by simp [Heap.get,beq_self]
 have g2:∀ j,j≠id→Heap.get ((id,⟨g,1,ty,strRows (sortS ss)⟩)::H) j=H.get j:=fun j hj=>by simp [Heap.get,beq_ne (Ne.symm hj)]
 rcases hcase with⟨b,cap,oo,c1,c2,c3⟩|⟨c1,c2,_,c4⟩
 ·have hoo:oo=0:=by rw [c3 (.inr rfl)];simp
  subst hoo c2
  have hobj:=(hr.obj id _ hH).cells (Nat.succ_pos 0)
  obtain ⟨p1,p2,⟨b',cap',cs,e1,e2,e3,e4,e5,e5',e6⟩|⟨e1,_⟩⟩:=hobj
  ·rw [c1] at e1;cases e1
   simp only [Nat.mul_one] at e4 e6
   have hlen:(strRows ss).length=ss.length:=by simp [strRows]
   simp only [hlen] at e5
   have hcs:∀ (i:Nat) (s:ByteArray),ss[i]?=some s→cs[i]?=some (.string s):=fun i s hs=>by
    obtain ⟨u,q1,q2,q3⟩:=e6 i [.pv (.str s)] (by rw [strRows,List.getElem?_map,hs];rfl) 0 _ rfl
    rw [q3.str_inv] at q1
    exact q1
   have hholds:Sort.Holds Proofs.encStr w b 0 (ss.map toU).toArray:=by
    intro j hj
    simp only [List.size_toArray,List.length_map] at hj
    refine⟨?_,?_⟩
    ·have:=hcs j _ (List.getElem?_eq_getElem hj)
     rw [Nat.zero_add]
     simp only [World.cell?,e2,this]
     congr 1
     rw [getElem!_pos _ _ (by simpa using hj)]
     simp only [List.getElem_toArray,List.getElem_map]
     show some (Value.string ss[j])=some (Value.string (ofU (toU ss[j])))
     rw [ofU_toU]
    simp [World.frozen?,e2]
   have hrun:=AnyM.slices_Sort_string Ly b 0 (cap - 0) (ss.map toU) w hholds (Array.getElem?_eq_some_iff.1 e2).1 (by rw [List.length_map];exact hl)
   rw [List.length_map] at hrun
   refine hrun.mono ?_
   rintro e w' ⟨rfl,n,os,rfl⟩
   obtain ⟨k1,k2⟩:=Rel.drawn (w':=Sort.ahead w n) hr rfl rfl rfl rfl
   have e2':(Sort.ahead w n).heap[b]?=some (.cells cs ty (0,0)):=e2
   rw [heap_putRow e2']
   obtain ⟨m1,m2⟩:=Rel.update (H':=(id,⟨g,1,ty,strRows (sortS ss)⟩)::H) (ob':=⟨g,1,ty,strRows (sortS ss)⟩) (cs':=Sort.putCells Proofs.encStr 0 ((ss.map toU).mergeSort fun x y=>decide (x≤y)).toArray cs) k1 hH c1 e2' (Nat.le_refl _) rfl rfl
    (fun _=>by simp [strRows,sortS_length]) (by rw [Sort.putCells];simp;omega) (by simp only [strRows,List.length_map,sortS_length];omega) hrowlen (fun i r hi k a hk=>by
     rw [strRows,List.getElem?_map] at hi
     obtain ⟨s,hs,rfl⟩:=Option.map_eq_some_iff.1 hi
     cases k with
     | succ k=>simp at hk
     | zero =>
      cases hk
      have hil:=(List.getElem?_eq_some_iff.1 hs).1
      rw [sortS_length] at hil
      have hics:i < cs.size:=by omega
      refine⟨.string s,?_,rfl,.pv (.str s)⟩
      rw [Nat.mul_one,Nat.add_zero,Sort.putCells,Array.getElem?_mapIdx,Array.getElem?_eq_getElem hics,Option.map_some]
      have hsz:i < ((ss.map toU).mergeSort fun x y=>decide (x≤y)).length:=by rw [List.length_mergeSort,List.length_map];exact hil
      rw [if_pos ⟨Nat.zero_le _,by simpa using hsz⟩]
      congr 1
      rw [Nat.sub_zero,getElem!_pos _ _ (by simpa using hsz)]
      rw [sortS,List.getElem?_map] at hs
      obtain ⟨u,hu,rfl⟩:=Option.map_eq_some_iff.1 hs
      simp only [List.getElem_toArray]
      rw [(List.getElem?_eq_some_iff.1 hu).2]
      rfl) g1 g2
   obtain ⟨n1,n2⟩:=Rel.grown os m1
   exact⟨_,_,I,ι,.tuple #[],rfl,⟨rfl,rfl⟩,.tup rfl (by simp),n1,(k2.trans m2).trans n2⟩
  rw [c1] at e1;cases e1
 subst c2
 have h0:ss=[]:=List.eq_nil_of_length_eq_zero c4
 subst h0
 refine(AnyM.slices_Sort_string_none Ly none 0 w).mono ?_
 rintro e w' ⟨rfl,rfl⟩
 have hg:∀ j,Heap.get ((id,⟨g,1,ty,strRows (sortS [])⟩)::H) j=H.get j:=fun j=>by
  by_cases e:j=id
  ·subst e
   rw [g1,hH,show sortS []=[] by simp [sortS]]
  exact g2 j e
 obtain ⟨k1,k2⟩:=hr.congr hg
 exact⟨_,_,I,ι,.tuple #[],rfl,⟨rfl,rfl⟩,.tup rfl (by simp),k1,k2⟩
end
end Go.Abs
section
namespace Go.Proofs
open Go.RowKit Go.Sort Go.Shelf
def Tryz.sortStr_ren:Go.Shelf.Ren:=⟨fun|6=>98|8=>153|9=>152|19=>200|20=>201|21=>191|22=>192|23=>193|24=>194|25=>195|26=>196|27=>197|28=>198|29=>199|36=>236|31=>237|32=>238|37=>239|38=>240|39=>241|41=>257|n=>n,fun|27=>46|29=>9|3=>3|32=>186|26=>46|0=>0|44=>233|46=>235|4=>4|36=>227|35=>226|41=>83|5=>5|9=>9|53=>263|57=>267|63=>282|64=>283|n=>n,fun|n=>n⟩
theorem Tryz.sortStr:Go.Proofs.SlLaysM.n6 Tryz.prog Tryz.sortStr_ren:={
  mixed:=by kernel_rfl
  f6:=⟨Tryz.f98.name,by decide,Tryz.func98.trans (congrArg some (by kernel_rfl))⟩
  f8:=Tryz.func153.trans (congrArg some (by kernel_rfl))
  f9:=⟨Tryz.f152.name,by decide,Tryz.func152.trans (congrArg some (by kernel_rfl))⟩
  f19:=Tryz.func200.trans (congrArg some (by kernel_rfl))
  f20:=Tryz.func201.trans (congrArg some (by kernel_rfl))
  f21:=⟨Tryz.f191.name,by decide,Tryz.func191.trans (congrArg some (by kernel_rfl))⟩
  f22:=⟨Tryz.f192.name,by decide,Tryz.func192.trans (congrArg some (by kernel_rfl))⟩
  f23:=⟨Tryz.f193.name,by decide,Tryz.func193.trans (congrArg some (by kernel_rfl))⟩
  f24:=⟨Tryz.f194.name,by decide,Tryz.func194.trans (congrArg some (by kernel_rfl))⟩
  f25:=⟨Tryz.f195.name,by decide,Tryz.func195.trans (congrArg some (by kernel_rfl))⟩
  f26:=⟨Tryz.f196.name,by decide,Tryz.func196.trans (congrArg some (by kernel_rfl))⟩
  f27:=⟨Tryz.f197.name,by decide,Tryz.func197.trans (congrArg some (by kernel_rfl))⟩
  f28:=⟨Tryz.f198.name,by decide,Tryz.func198.trans (congrArg some (by kernel_rfl))⟩
  f29:=⟨Tryz.f199.name,by decide,Tryz.func199.trans (congrArg some (by kernel_rfl))⟩
  f31:=Tryz.func237.trans (congrArg some (by kernel_rfl))
  f32:=Tryz.func238.trans (congrArg some (by kernel_rfl))
  f36:=⟨Tryz.f236.name,by decide,Tryz.func236.trans (congrArg some (by kernel_rfl))⟩
  f37:=⟨Tryz.f239.name,by decide,Tryz.func239.trans (congrArg some (by kernel_rfl))⟩
  f38:=⟨Tryz.f240.name,by decide,Tryz.func240.trans (congrArg some (by kernel_rfl))⟩
  f39:=⟨Tryz.f241.name,by decide,Tryz.func241.trans (congrArg some (by kernel_rfl))⟩
  f41:=⟨Tryz.f257.name,by decide,Tryz.func257.trans (congrArg some (by kernel_rfl))⟩
  t0:=Tryz.underlying0
  a0:=Tryz.isAgg0
  z0:=Tryz.sizeOf0
  v0:=Tryz.zeroValue0
  t3:=Tryz.underlying3
  a3:=Tryz.isAgg3
  z3:=Tryz.sizeOf3
  v3:=Tryz.zeroValue3
  t4:=Tryz.underlying4
  a4:=Tryz.isAgg4
  z4:=Tryz.sizeOf4
  v4:=Tryz.zeroValue4
  t5:=Tryz.underlying5
  a5:=Tryz.isAgg5
  z5:=Tryz.sizeOf5
  v5:=Tryz.zeroValue5
  t9:=Tryz.underlying9
  a9:=Tryz.isAgg9
  z9:=Tryz.sizeOf9
  v9:=Tryz.zeroValue9
  t26:=Tryz.underlying46
  a26:=Tryz.isAgg46
  z26:=Tryz.sizeOf46
  v26:=Tryz.zeroValue46
  t27:=Tryz.underlying46
  a27:=Tryz.isAgg46
  z27:=Tryz.sizeOf46
  v27:=Tryz.zeroValue46
  t29:=Tryz.underlying9
  a29:=Tryz.isAgg9
  z29:=Tryz.sizeOf9
  v29:=Tryz.zeroValue9
  t32:=Tryz.underlying186
  a32:=Tryz.isAgg186
  z32:=Tryz.sizeOf186
  v32:=Tryz.zeroValue186
  t35:=Tryz.underlying226
  a35:=Tryz.isAgg226
  z35:=Tryz.sizeOf226
  v35:=Tryz.zeroValue226
  t36:=Tryz.underlying227
  a36:=Tryz.isAgg227
  z36:=Tryz.sizeOf227
  v36:=Tryz.zeroValue227
  t41:=Tryz.underlying83
  a41:=Tryz.isAgg83
  z41:=Tryz.sizeOf83
  v41:=Tryz.zeroValue83
  t44:=Tryz.underlying233
  a44:=Tryz.isAgg233
  z44:=Tryz.sizeOf233
  v44:=Tryz.zeroValue233
  t46:=Tryz.underlying235
  a46:=Tryz.isAgg235
  z46:=Tryz.sizeOf235
  v46:=Tryz.zeroValue235
  t53:=Tryz.underlying263
  a53:=Tryz.isAgg263
  z53:=Tryz.sizeOf263
  v53:=Tryz.zeroValue263
  t57:=Tryz.underlying267
  a57:=Tryz.isAgg267
  z57:=Tryz.sizeOf267
  v57:=Tryz.zeroValue267
  t63:=Tryz.underlying282
  a63:=Tryz.isAgg282
  z63:=Tryz.sizeOf282
  v63:=Tryz.zeroValue282
  t64:=Tryz.underlying283
  a64:=Tryz.isAgg283
  z64:=Tryz.sizeOf283
  v64:=Tryz.zeroValue283}
end Go.Proofs
namespace Go.Proofs.YtlnfjkdacimblaaGreatDoor
open Go.Abs
theorem sortStr_c (ss:List ByteArray) {id g n ty:Nat} {H:Heap} (hH:H.get id=some ⟨g,1,ty,strRows ss⟩) (hn:n=ss.length) (hl:ss.length < 4611686018427387904) :
  ACalls Tryz.prog 98 [.osl id g 0 n] H (fun r H'=>r=.tup []∧H'=(id,⟨g,1,ty,strRows (sortS ss)⟩)::H):=sort_c Tryz.sortStr ss hH hn hl
theorem nodup_le:∀ (n:Nat) (l:List Nat),l.Nodup→(∀ i∈l,i < n)→l.length≤n
 | 0,l,_,h=>by
  cases l with
  | nil=>simp
  | cons a l=>have:=h a (by simp);omega
 | n+1,l,hd,h=>by
  by_cases e:n∈l
  ·have h1:=nodup_le n (l.erase n) (hd.erase n) (fun i hi=>by
    rw [hd.mem_erase_iff] at hi
    have:=h i hi.2
    omega)
   rw [List.length_erase_of_mem e] at h1
   have:=List.length_pos_of_mem e
   omega
  have:=nodup_le n l hd (fun i hi=>by
   have h2:=h i hi
   have:i≠n:=fun e2=>e (e2▸hi)
   omega)
  omega
/-- What has come of a list, by places. -/
def pick (L:List ByteArray) (seen:List Nat):List ByteArray:=seen.map fun i=>(L[i]?).getD ⟨#[]⟩
theorem pick_all {L:List ByteArray} {seen:List Nat} (hd:seen.Nodup) (h1:∀ i∈seen,i < L.length) (h2:∀ i,i < L.length→i∈seen):(pick L seen).Perm L:=by
 have hp:seen.Perm (List.range L.length):=(List.perm_ext_iff_of_nodup hd List.nodup_range).2 fun a=>⟨fun h=>List.mem_range.2 (h1 a h),fun h=>h2 a (List.mem_range.1 h)⟩
 have h3:=hp.map (fun i=>(L[i]?).getD ⟨#[]⟩)
 have h4:(List.range L.length).map (fun i=>(L[i]?).getD ⟨#[]⟩)=L:=by
  apply List.ext_getElem
  ·simp
  intro i h5 h6
  simp [h6]
 rw [h4] at h3
 exact h3
theorem u8_le_total (a b:List UInt8):decide (a≤b)||decide (b≤a):=by
 rcases List.le_total a b with h|h<;>simp [h]
theorem sortS_eq {a b:List ByteArray} (h:a.Perm b):sortS a=sortS b:=by
 unfold sortS
 congr 1
 have hs:∀ l:List ByteArray,((l.map toU).mergeSort fun x y=>decide (x≤y)).Pairwise (fun x y=>decide (x≤y)=true):=fun l =>
  List.pairwise_mergeSort (le:=fun(x y:List UInt8)=>decide (x≤y)) (fun a b c h1 h2=>decide_eq_true (List.le_trans (of_decide_eq_true h1) (of_decide_eq_true h2))) u8_le_total _
 exact List.Perm.eq_of_pairwise (fun x y _ _ h3 h4=>List.le_antisymm (of_decide_eq_true h3) (of_decide_eq_true h4)) (hs a) (hs b) (((List.mergeSort_perm _ _).trans (h.map toU)).trans (List.mergeSort_perm _ _).symm)
end Go.Proofs.YtlnfjkdacimblaaGreatDoor
end
namespace Go.Proofs.YtlnfjkdacimblaaGreatDoor
open Go.Abs
section
theorem sobN_clo (l:List ByteArray) (H:Heap):∀ r∈(sob l).rows,∀ a∈r,Clo H a:=by
 intro r hr a ha
 obtain ⟨i,hi⟩:=List.mem_iff_getElem?.1 hr
 obtain ⟨p,hp,rfl⟩:=mrows_get.1 hi
 simp only [sets,List.getElem?_map] at hp
 obtain ⟨q,_,rfl⟩:=Option.map_eq_some_iff.1 hp
 simp only [List.mem_cons,List.not_mem_nil,or_false] at ha
 rcases ha with rfl|rfl|rfl<;>simp
theorem irowsN_clo {H:Heap} {id g:Nat} (h:(H.get id).isSome=true) (a b:Nat) (l:List Nat):∀ r∈irows (.mp id g) a b l,∀ x∈r,Clo H x:=by
 intro r hr x hx
 rw [irows] at hr
 rcases List.mem_cons.1 hr with rfl|hr
 ·simp only [List.mem_cons,List.not_mem_nil,or_false] at hx
  rcases hx with rfl|rfl|rfl
  ·exact .mp h
  ·exact .pv _
  exact .pv _
 obtain ⟨n,_,rfl⟩:=List.mem_map.1 hr
 rw [List.mem_singleton] at hx
 subst hx
 exact .pv _
theorem rowsN_of {α:Type} (f:α→List PV) (l:List α):l.map (fun e=>(f e).map AV.pv)=(l.map f).map (·.map .pv):=by rw [List.map_map];rfl
theorem lenN_snoc {α:Type} (l:List α) (a:α):l.length+1=(l++[a]).length:=by simp
def addAll (L l:List ByteArray):List ByteArray:=l.foldl sput L
theorem front_get {H:Heap} {id:Nat} {o:Ob} (h:H.get id=some o) (j:Nat):Heap.get ((id,o)::H) j=H.get j:=by
 by_cases e:j=id
 ·subst e;rw [get_cons_same,h]
 exact get_cons_other _ _ e
theorem names1E_c (L l:List ByteArray) (T:Nat) (H:Heap) (h3:H.get 3=some (bx 1 T [.mp 10 0])) (h10:H.get 10=some (sob L)) (hl:l.length < 4611686018427387904) :
  ACalls Tryz.prog 97 [.pv (slStrs l),.ref 3 0 0 0] H (fun r H'=>r=.tup []∧H'=(10,sob (addAll L l))::H):=by
 have hml:(l.map encStr).length=l.length:=List.length_map _
 refine Bd Tryz.func97 rfl Tryz.ntmps97<|Sq<|Rg<|Dd mv'<|Dd (ll' Tryz.underlying46)<|Dd mv'<|Zz<|awp_block ?_
 refine awp_loop (σ:=Nat) (fun k=>([(1,.ref 3 0 0 0),(5,.pv (slStrs l)),(6,iv ((l.map encStr).length:Int)),(7,iv (k:Int))],(10,sob (addAll L (l.take k)))::H)) (fun k=>k≤l.length) (fun k=>l.length - k) 0 (by omega) ?_ ?_
 ·exact Ent.get' ⟨⟨_,rfl,rfl⟩,⟨_,rfl,rfl⟩,⟨_,rfl,rfl⟩,⟨_,rfl,rfl⟩,trivial⟩ (front_get h10)
 intro k hk
 have h3':Heap.get ((10,sob (addAll L (l.take k)))::H) 3=some (bx 1 T [.mp 10 0]):=h3
 refine Sq<|Rg<|Dd lss'<|Zz<|Sq ?_
 refine Cn (fun hc1=>?_) fun hc1=>?_
 ·have hlt:k < l.length:=by have:=of_decide_eq_true hc1;omega
  obtain ⟨s,hs⟩:=get_of_lt hlt
  have hi:=map_get (f:=encStr) hs
  have hst:addAll L (l.take (k+1))=sput (addAll L (l.take k)) s:=by rw [addAll,List.take_add_one,hs,List.foldl_append];rfl
  refine awp_skip<|Sq<|awp_block<|Sq<|Rg<|Dd (xp' so46)<|Dd (lp' Tryz.isAgg9)<|Dd as'<|Zz<|Rg<|Dd (by exact opd_load1_ref rfl Tryz.isAgg89 rfl h3' rfl rfl rfl)<|Dd mv'<|Uu (by exact x_put_set (.inl rfl) Tryz.underlying89 Tryz.underlying9 rfl rfl rfl rfl rfl rfl rfl)<|Zz<|Rg<|Dd ad'<|Dd mv'<|Zz ?_
  refine⟨k+1,by omega,by omega,?_⟩
  rw [hst]
  exact Ent.dup ⟨⟨_,rfl,rfl⟩,⟨_,rfl,rfl⟩,⟨_,rfl,rfl⟩,⟨_,rfl,rfl⟩,trivial⟩
 have hge:k=l.length:=by have:=of_decide_eq_false hc1;omega
 subst hge
 rw [List.take_length]
 refine awp_exit ?_
 exact aret0 (.inl rfl) rfl Fin.refl ⟨rfl,rfl⟩
def nonE (s:ByteArray):Bool:=!decide (s=sNil)
/-- All Ids that an edit mentions, with what is empty, once each. -/
def idsOf (e:GEdit):List ByteArray:=addAll (addAll (addAll [] [e.id,e.other,e.node,e.obj.id]) e.refs) e.obj.refs
def gNames (e:GEdit):List ByteArray:=if gEditV e then sortS ((idsOf e).filter nonE)else[]
theorem addAll_len:∀ (l L:List ByteArray),(addAll L l).length≤L.length+l.length
 | [],L=>by simp [addAll]
 | s::l,L=>by
  have:=addAll_len l (sput L s)
  have h2:(sput L s).length≤L.length+1:=by
   unfold sput
   split
   ·omega
   simp
  rw [addAll,List.foldl_cons] at *
  simp only [List.length_cons]
  omega
abbrev strN (l:List ByteArray):List (List AV):=l.map (fun e=>(encStr e).map .pv)
theorem pickN_snoc {L:List ByteArray} {seen:List Nat} {i:Nat} {s:ByteArray} (h:L[i]?=some s):pick L (seen++[i])=pick L seen++[s]:=by
 simp only [pick,List.map_append,List.map_cons,List.map_nil,h,Option.getD_some]
theorem names_cE (e:GEdit) (H:Heap) (he:okE e) (hsz:e.refs.length+e.obj.refs.length < 1099511627776):ACalls Tryz.prog 47 [av (encEdit e)] H (fun r H'=>r=.pv (slStrs (gNames e))∧H'=H):=by
 refine ACalls.pure ?_ (by simp) H
 have he':=he
 obtain ⟨⟨h1,h2,h3,h4⟩,⟨h5,h6⟩,h7⟩:=he'
 rw [gNames]
 refine Bd Tryz.func47 rfl Tryz.ntmps47<|Sq<|Rg<|Dd (by exact opd_box (id:=1) rfl rfl rfl rfl rfl)<|Dd as'<|Zz<|Sq<|Sq<|Rg<|Dd (ln' Tryz.isAgg51 Tryz.sizeOf51)<|Dd (by exact opr_call rfl rfl Tryz.call43 rfl (editValid_c e _ he))<|Dd no'<|Zz ?_
 refine Cn (fun hc1=>?_) fun hc1=>?_
 ·have hf:gEditV e=false:=by
   have h:=hc1
   simpa using h
  rw [hf,if_neg (by simp)]
  refine Sq<|Rg<|Dd as'<|Zz<|awp_ret ?_
  refine Rt ?_
  exact⟨rfl,rfl⟩
 have hv:gEditV e=true:=by
  have h:=hc1
  simpa using h
 rw [if_pos hv]
 obtain ⟨L,hL⟩:∃ L,L=idsOf e:=⟨_,rfl⟩
 have hsl:L.length < 1099511627780:=by
  have q1:=addAll_len e.obj.refs (addAll (addAll [] [e.id,e.other,e.node,e.obj.id]) e.refs)
  have q2:=addAll_len e.refs (addAll [] [e.id,e.other,e.node,e.obj.id])
  have q3:=addAll_len [e.id,e.other,e.node,e.obj.id] []
  simp only [List.length_cons,List.length_nil] at q3
  rw [hL,idsOf]
  omega
 refine awp_skip<|Sq<|Rg<|Dd (by exact opd_makeMap (id:=10) strK rfl rfl)<|Dd (by exact x_alloc (id:=3) rfl zo89 rfl rfl)<|Uu (sa' Tryz.sizeOf89)<|Zz<|Sq<|Rg<|Dd (by exact opd_makeFunc rfl rfl)<|Dd as'<|Zz<|Sq<|Rg<|Dd mv'<|Dd (fr' fo51_1)<|Dd (l1' Tryz.isAgg9)<|Dd (fr' fo51_2)<|Dd (l1' Tryz.isAgg9)<|Dd (fr' fo51_3)<|Dd (l1' Tryz.isAgg9)<|Dd (fr' fo51_8)<|Dd (fr' fo49_0)<|Dd (l1' Tryz.isAgg9)<|Dd (by exact x_buildSlice ([e.id,e.other,e.node,e.obj.id].map encStr) rfl so46 rfl rfl rfl rfl rfl (by simp [encStr]))<|Dd (by exact opr_callV rfl rfl rfl (CallsV.clo Tryz.call97 (names1E_c [] [e.id,e.other,e.node,e.obj.id] 89 _ rfl rfl (by show 4 < _;omega))))<|Zz<|Sq<|Rg<|Dd mv'<|Dd (fr' fo51_7)<|Dd (l1' Tryz.isAgg46)<|Dd (by exact opr_callV rfl rfl rfl (CallsV.clo Tryz.call97 (names1E_c (addAll [] [e.id,e.other,e.node,e.obj.id]) e.refs 89 _ rfl rfl h5)))<|Zz<|Sq<|Rg<|Dd mv'<|Dd (fr' fo51_8) ?_
 refine Dd (fr' fo49_3)<|Dd (l1' Tryz.isAgg46)<|Dd (by exact opr_callV rfl rfl rfl (CallsV.clo Tryz.call97 (names1E_c (addAll (addAll [] [e.id,e.other,e.node,e.obj.id]) e.refs) e.obj.refs 89 _ rfl rfl h7.2.2.1)))<|Zz<|Sq<|Rg<|Dd (by exact opd_assign_own (id:=5) (sz:=1) (ty:=9) rfl rfl rfl)<|Zz<|Sq<|Sq<|Rg<|Dd (l1' Tryz.isAgg89)<|Dd (by exact opd_range (q:=34) (κ:=strK) rfl Tryz.underlying89 rfl rfl rfl rfl rfl rfl)<|Zz<|awp_block ?_
 rw [idsOf] at hL
 rw [← idsOf,← hL.trans (idsOf.eq_1 e).symm]
 refine awp_loop2 (fun(seen:List Nat) (g:Nat)=>([(5,.osl 5 g 0 ((pick L seen).filter nonE).length),(34,.it 34 0)],[(34,⟨0,0,0,irows (.mp 10 0) (sets L).length (sets L).length seen⟩),(5,⟨g,1,9,strN ((pick L seen).filter nonE)⟩),(10,sob L)])) (fun seen g=>seen.Nodup∧∀ i∈seen,i < L.length) (fun seen g=>L.length - seen.length) [] 0 ⟨.nil,by simp⟩ ?_ ?_
 ·rw [hL]
  exact(Ent.wk (Ea<|Ea<|trivial) (Hc (irowsN_clo rfl _ _ _)<|Hc (clo_map _ _ _)<|Hc (sobN_clo _ _)<|trivial) trivial)
 rintro seen g ⟨hnd,hlt⟩
 have hse:=nodup_le L.length seen hnd hlt
 have hfl:((pick L seen).filter nonE).length≤seen.length:=by have:=List.length_filter_le nonE (pick L seen);rw [pick,List.length_map] at this;exact this
 refine Sq<|Rg ?_
 refine al_r rfl rfl (opr_next (κ:=strK) rfl rfl rfl rfl rfl rfl rfl rfl rfl (by omega) (by omega)) ?_
 rintro _ _ (⟨rfl,rfl,hn0⟩|⟨hni,hnp,hn1,hn2,rfl,rfl⟩)
 ·skip
  refine Dd ex'<|Zz<|Sq ?_
  refine Cn (fun hc2=>?_) fun hc2=>?_
  ·cases hc2
  skip
  have hpm:=pick_all (L:=L) hnd hlt (fun i hi=>hn0 i (by rw [sets_length];exact hi))
  refine awp_exit<|Sq<|Rg<|Dd mv'<|Dd (by exact opr_call rfl rfl Tryz.call98 rfl (sortStr_c ((pick L seen).filter nonE) (id:=5) (g:=g) (ty:=9) rfl rfl (by omega)))<|Zz<|Sq<|Rg<|Dd mv'<|Dd as'<|Zz<|awp_ret ?_
  rw [← sortS_eq (hpm.filter nonE)]
  refine aret1 (H':=[]) (.inr rfl) rfl (rval_tmp rfl) (Fin.slice0 (id:=5) ((sortS ((pick L seen).filter nonE)).map encStr) rfl rfl (rowsN_of encStr _) (by rw [List.length_map,sortS_length])) ⟨rfl,rfl⟩
 skip
 refine Dd ex'<|Zz<|Sq ?_
 refine Cn (fun hc3=>?_) fun hc3=>?_
 ·have hlen:=(List.getElem?_eq_some_iff.1 hn1).1
  rw [sets_length] at hlen
  obtain ⟨s,hs⟩:=get_of_lt hlen
  have hp:hnp=(s,bv true):=by
   rw [sets,List.getElem?_map,hs] at hn1
   exact(Option.some.inj hn1).symm
  subst hp
  have hnd2:(seen++[hni]).Nodup:=List.nodup_append.2 ⟨hnd,by simp,fun a ha b hb e=>by rw [List.mem_singleton] at hb;subst hb;subst e;exact hn2 ha⟩
  have hlt2:∀ i∈seen++[hni],i < L.length:=fun i hi=>by
   rcases List.mem_append.1 hi with hi|hi
   ·exact hlt i hi
   rw [List.mem_singleton] at hi;subst hi;exact hlen
  have hmu:L.length - (seen++[hni]).length < L.length - seen.length:=by
   have:=nodup_le L.length (seen++[hni]) hnd2 hlt2
   simp only [List.length_append,List.length_cons,List.length_nil] at this ⊢
   omega
  have hpk:(pick L (seen++[hni])).filter nonE=(pick L seen).filter nonE++[s].filter nonE:=by rw [pickN_snoc hs,List.filter_append]
  refine awp_skip<|awp_block<|Sq<|Rg<|Dd (by exact opd_entry rfl rfl rfl rfl rfl rfl rfl rfl rfl hn1)<|Dd ex'<|Dd as'<|Zz<|Sq<|Rg<|Dd mv'<|Dd sn'<|Zz ?_
  refine Cn (fun hc4=>?_) fun hc4=>?_
  ·have hns:nonE s=true:=hc4
   have hpk2:(pick L (seen++[hni])).filter nonE=(pick L seen).filter nonE++[s]:=by rw [hpk,List.filter_cons,hns];rfl
   refine Rg<|Dd mv'<|Dd mv'<|Dd (by exact x_buildSlice [encStr s] rfl so46 rfl rfl rfl rfl rfl (by simp [encStr]))<|Dd (by exact x_append rfl so46 ei9 rfl rfl rfl rfl rfl (List.length_map _) rfl (by simp [encStr]) (rfl:_=1) (by omega) (lenN_snoc _ s) ((List.map_append (l₂:=[s])).symm))<|Dd as'<|Zz ?_
   refine⟨seen++[hni],g+1,⟨hnd2,hlt2⟩,hmu,?_⟩
   rw [hpk2]
   exact(Ent.wk (Ea<|Ea<|trivial) (Hc (irowsN_clo rfl _ _ _)<|Hc (clo_map _ _ _)<|Hc (sobN_clo _ _)<|trivial) trivial)
  have hns:nonE s=false:=hc4
  have hpk2:(pick L (seen++[hni])).filter nonE=(pick L seen).filter nonE:=by rw [hpk,List.filter_cons,hns];simp
  refine awp_skip ?_
  refine⟨seen++[hni],g,⟨hnd2,hlt2⟩,hmu,?_⟩
  rw [hpk2]
  exact(Ent.wk (Ea<|Ea<|trivial) (Hc (irowsN_clo rfl _ _ _)<|Hc (clo_map _ _ _)<|Hc (sobN_clo _ _)<|trivial) trivial)
 cases hc3
end
section
/-- A string that an edit mentions, or the empty one. -/
def raw (e:GEdit) (s:ByteArray):Prop:=s=e.id∨s=e.other∨s=e.node∨s=e.obj.id∨s∈e.refs∨s∈e.obj.refs
theorem sputQ_mem {l:List ByteArray} {s x:ByteArray}:x∈sput l s↔x∈l∨x=s:=by
 unfold sput
 split
 ·next h =>
  have:=inB_iff.1 h
  constructor
  ·exact .inl
  rintro(h|rfl)
  ·exact h
  exact this
 rw [List.mem_append,List.mem_singleton]
theorem addAll_mem:∀ {l L:List ByteArray} {x:ByteArray},x∈addAll L l↔x∈L∨x∈l
 | [],L,x=>by simp [addAll]
 | s::l,L,x=>by
  show x∈addAll (sput L s) l↔_
  rw [addAll_mem,sputQ_mem,List.mem_cons,or_assoc]
theorem names_mem {e:GEdit} {s:ByteArray} (hv:gEditV e=true):s∈gNames e↔raw e s∧s≠sNil:=by
 rw [gNames,if_pos hv,(sortS_perm _).mem_iff,List.mem_filter,idsOf,addAll_mem,addAll_mem,addAll_mem]
 simp only [nonE,Bool.not_eq_true',decide_eq_false_iff_not,List.not_mem_nil,false_or,List.mem_cons,or_false,raw,or_assoc]
theorem gObj_id {o:GObj} (h:gObj o=true):o.id≠sNil:=gName_ne (gObj_len h).2.2.2.1
theorem okOf_id {e:GEdit} (h:okOf e=true) (h1:e.op≠1):e.id≠sNil:=by
 rw [okOf,if_neg h1,Bool.and_eq_true] at h
 exact gName_ne h.1
theorem okOf_other {e:GEdit} (h:okOf e=true) (h1:e.op=6∨e.op=7):e.other≠sNil:=by
 rw [okOf,if_neg (by omega),Bool.and_eq_true,if_neg (by omega),if_neg (by omega),if_neg (by omega),if_neg (by omega)] at h
 have h2:=h.2
 split at h2
 ·rw [Bool.and_eq_true] at h2;exact gName_ne h2.2
 exact gName_ne h2
theorem okOf_obj {e:GEdit} (h:okOf e=true) (h1:e.op=1):e.obj.id≠sNil:=by
 rw [okOf,if_pos h1] at h
 exact gObj_id h
end
section
instance decGObj:DecidableEq GObj:=fun a b=>if h:gSameO a b=true then isTrue (gSameO_iff.1 h)else isFalse (fun e=>h (gSameO_iff.2 e))
end
section
def st1 (c:UInt8):ByteArray:=⟨#[c]⟩
def nodeA (c:UInt8):GObj:=⟨st1 c,1,(c.toNat:Int),0,[],[]⟩
def cs3:List UInt8:=[97,98,99]
def wayA:GObj:=⟨st1 119,2,0,0,cs3.map st1,[]⟩
def s0:List GObj:=cs3.map nodeA++[wayA]
end
section
def x1:List GObj:=cs3.map nodeA++[⟨st1 118,2,0,0,[st1 98,st1 99],[]⟩,⟨st1 119,2,0,0,[st1 97,st1 98],[]⟩]
end
section
theorem rLetter_c (n:Int) (H:Heap):ACalls Tryz.prog 151 [.pv (.int .u8 n)] H (fun r H'=>r=bv (isLet n)∧H'=H):=by
 refine ACalls.pure ?_ (by simp) H
 refine Bd Tryz.func151 rfl Tryz.ntmps151<|Sq<|Rg<|Dd as'<|Zz<|Sq ?_
 refine awp_bool (t:=2) (n:=18) (X:=isLet n) ?_ ?_
 ·all_goals refine Dd mv' ?_
  all_goals refine Dd ge' ?_
  all_goals refine Dd mv' ?_
  all_goals refine Sp 5 (fun h5=>?_) fun h5=>?_
  all_goals try contradiction
  all_goals first|refine Fo ?_|refine On mv' ?_
  all_goals first|refine Fo ?_|refine On le' ?_
  all_goals refine Dd pk' ?_
  all_goals refine Dd mv' ?_
  all_goals refine Sp 9 (fun h9=>?_) fun h9=>?_
  all_goals try contradiction
  all_goals first|refine Fo ?_|refine On mv' ?_
  all_goals first|refine Fo ?_|refine On ge' ?_
  all_goals first|refine Fo ?_|refine On mv' ?_
  all_goals(first|refine Sp 12 (fun h12=>?_) fun h12=>?_|refine al_dup (t:=12) rfl ?_)
  all_goals try contradiction
  all_goals first|refine Fo ?_|refine Fu ?_|refine On mv' ?_
  all_goals first|refine Fo ?_|refine Fu ?_|refine On le' ?_
  all_goals first|refine Fo ?_|refine On pk' ?_
  all_goals refine Dd pk' ?_
  all_goals refine Dd as' ?_
  all_goals refine al_nil ?_
  all_goals(exact⟨⟨_,rfl,by(simp only [isLet, *];rfl)⟩,rfl,rfl,rfl⟩)
 refine awp_ret ?_
 refine Rt ?_
 exact⟨rfl,rfl⟩
theorem rDigit_c (n:Int) (H:Heap):ACalls Tryz.prog 188 [.pv (.int .u8 n)] H (fun r H'=>r=bv (isDig n)∧H'=H):=by
 refine ACalls.pure ?_ (by simp) H
 refine Bd Tryz.func188 rfl Tryz.ntmps188<|Sq<|Rg<|Dd as'<|Zz<|Sq ?_
 refine awp_bool (t:=2) (n:=8) (X:=isDig n) ?_ ?_
 ·all_goals refine Dd mv' ?_
  all_goals refine Dd ge' ?_
  all_goals refine Dd mv' ?_
  all_goals refine Sp 5 (fun h5=>?_) fun h5=>?_
  all_goals try contradiction
  all_goals first|refine Fo ?_|refine On mv' ?_
  all_goals first|refine Fo ?_|refine On le' ?_
  all_goals refine Dd pk' ?_
  all_goals refine Dd as' ?_
  all_goals refine al_nil ?_
  all_goals(exact⟨⟨_,rfl,by(simp only [isDig, *];rfl)⟩,rfl,rfl,rfl⟩)
 refine awp_ret ?_
 refine Rt ?_
 exact⟨rfl,rfl⟩
def isW (n:Int):Bool:=(isLet n||isDig n)||decide (n=95)
theorem rWord_c (n:Int) (H:Heap):ACalls Tryz.prog 150 [.pv (.int .u8 n)] H (fun r H'=>r=bv (isW n)∧H'=H):=by
 refine ACalls.pure ?_ (by simp) H
 refine Bd Tryz.func150 rfl Tryz.ntmps150<|Sq<|Rg<|Dd as'<|Zz<|Sq ?_
 refine awp_bool (t:=2) (n:=13) (X:=isW n) ?_ ?_
 ·all_goals refine Dd mv' ?_
  all_goals refine Dd (by exact opr_call rfl rfl Tryz.call151 rfl (rLetter_c n _)) ?_
  all_goals refine Dd mv' ?_
  all_goals refine Sp 5 (fun h5=>?_) fun h5=>?_
  all_goals try contradiction
  all_goals first|refine Fo ?_|refine On mv' ?_
  all_goals first|refine Fo ?_|refine On (by exact opr_call rfl rfl Tryz.call188 rfl (rDigit_c n _)) ?_
  all_goals refine Dd pk' ?_
  all_goals refine Dd mv' ?_
  all_goals refine Sp 9 (fun h9=>?_) fun h9=>?_
  all_goals try contradiction
  all_goals first|refine Fo ?_|refine On mv' ?_
  all_goals first|refine Fo ?_|refine On eql' ?_
  all_goals refine Dd pk' ?_
  all_goals refine Dd as' ?_
  all_goals refine al_nil ?_
  all_goals(exact⟨⟨_,rfl,by(simp only [isW, *];rfl)⟩,rfl,rfl,rfl⟩)
 refine awp_ret ?_
 refine Rt ?_
 exact⟨rfl,rfl⟩
theorem cls_all:∀ n:Fin 256,(decide (cls (n.val:Int)=3)=isLet (n.val:Int))∧(decide (cls (n.val:Int)=4)=isDig (n.val:Int))∧(decide (cls (n.val:Int)=5)=decide ((n.val:Int)=95)):=by decide +kernel
theorem cls_eq (s:ByteArray) (k:Nat):(decide (cls (byteAt s k)=3)=isLet (byteAt s k))∧(decide (cls (byteAt s k)=4)=isDig (byteAt s k))∧(decide (cls (byteAt s k)=5)=decide (byteAt s k=95)):=by
 have h:=cls_all ⟨(byteAt s k).toNat,byteAt_lt s k⟩
 simp only [Int.toNat_of_nonneg (byteAt_nn s k)] at h
 exact h
def badW (s:ByteArray) (k:Nat):Bool:=!isW (byteAt s k)
def rName (s:ByteArray):Bool:=!((List.range s.size).any (badW s))&&(decide ((0:Int) < (s.size:Int))&&decide ((s.size:Int)≤24)&&isLet (byteAt s 0))
theorem sNil_iff {s:ByteArray}:s=sNil↔s.size=0:=by
 constructor
 ·rintro rfl;rfl
 intro h;exact ByteArray.ext (Array.eq_empty_of_size_eq_zero h)
theorem rName_eq (s:ByteArray):rName s=gName s:=by
 have hb:∀ k,badC s k=(!isLet (byteAt s k)&&(decide ((k:Int)=0)||(!isDig (byteAt s k)&&!decide (byteAt s k=95)))):=fun k=>by
  obtain ⟨a,b,c⟩:=cls_eq s k
  rw [badC,a,b,c]
 rw [Bool.eq_iff_iff,rName,gName]
 simp only [Bool.and_eq_true,Bool.not_eq_true',decide_eq_true_eq,decide_eq_false_iff_not,List.any_eq_false,List.mem_range,sNil_iff,badW,hb]
 constructor
 ·rintro⟨h1,⟨h2,h3⟩,h4⟩
  refine⟨fun k hk=>?_,by omega,h3⟩
  have:=h1 k hk
  by_cases k0:k=0
  ·subst k0;simp [h4]
  have hw:isW (byteAt s k)=true:=by
   cases e:isW (byteAt s k)with
   | true=>rfl
   | false=>exact absurd e this
  simp only [isW,Bool.or_eq_true,decide_eq_true_eq] at hw
  rcases hw with(h|h)|h
  ·simp [h]
  ·simp [h,k0]
  simp [h,k0]
 rintro⟨h1,h2,h3⟩
 refine⟨fun k hk=>?_,⟨by omega,h3⟩,?_⟩
 ·have:=h1 k hk
  intro hw
  apply this
  simp only [isW,Bool.not_eq_true',Bool.or_eq_false_iff] at hw
  simp [hw.1.1,hw.1.2,hw.2]
 have:=h1 0 (by omega)
 cases hl:isLet (byteAt s 0)with
 | true=>rfl
 | false=>exact absurd (by simp [hl]) this
theorem rName0_c (s:ByteArray) (H:Heap) (hs:s.size < 4611686018427387904):ACalls Tryz.prog 95 [sv s] H (fun r H'=>r=bv (rName s)∧H'=H):=by
 refine ACalls.pure ?_ (by simp) H
 refine Bd Tryz.func95 rfl Tryz.ntmps95<|Sq<|Rg<|Dd as'<|Zz<|Sq<|Sq<|Rg<|Dd as'<|Zz<|awp_block ?_
 refine awp_loop (σ:=Nat) (fun k=>([(0,sv s),(3,iv (k:Int))],[])) (fun k=>k≤s.size∧∀ j,j < k→badW s j=false) (fun k=>s.size - k) 0 ⟨by omega,by omega⟩ ?_ ?_
 ·exact E0
 rintro k ⟨hk,hno⟩
 refine Sq<|Sq<|Rg<|Dd mv'<|Dd mv'<|Dd (ls' Tryz.underlying9)<|Dd lss'<|Zz ?_
 refine Cn (fun hc1=>?_) fun hc1=>?_
 ·have hlt:k < s.size:=by have:=of_decide_eq_true hc1;omega
  refine awp_skip<|Sq<|awp_block<|Sq<|Rg<|Dd mv'<|Dd mv'<|Dd (by exact opd_index_str rfl Tryz.underlying9 rfl rfl (by omega) (by exact Int.toNat_natCast _) (by omega) rfl)<|Dd (by exact opr_call rfl rfl Tryz.call150 rfl (rWord_c (byteAt s k) _))<|Dd no'<|Zz ?_
  refine Cn (fun hc2=>?_) fun hc2=>?_
  ·have hb:badW s k=true:=hc2
   refine Sq<|Rg<|Dd as'<|Zz<|awp_ret ?_
   refine Rt ?_
   exact⟨by rw [rName,range_some hlt hb];rfl,rfl⟩
  skip
  refine awp_skip<|Rg<|Dd mv'<|Dd ad'<|Dd as'<|Zz ?_
  refine⟨k+1,⟨by omega,fun j hj=>?_⟩,by omega,E0⟩
  by_cases e:j=k
  ·subst e;exact hc2
  exact hno j (by omega)
 have hge:k=s.size:=by have:=of_decide_eq_false hc1;omega
 have hr:rName s=(decide ((0:Int) < (s.size:Int))&&decide ((s.size:Int)≤24)&&isLet (byteAt s 0)):=by
  subst hge
  rw [rName,range_any hno];rfl
 rw [hr]
 clear hr
 by_cases h0:(0:Int) < (s.size:Int)
 ·have d0:=decide_eq_true h0
  have h00:0 < s.size:=by omega
  rw [d0,Bool.true_and]
  by_cases h24:(s.size:Int)≤24
  ·have d1:=decide_eq_true h24
   rw [d1,Bool.true_and]
   refine awp_exit<|Sq<|Rg<|Dd mv'<|Dd (ls' Tryz.underlying9)<|Dd gt'<|Dd mv' ?_
   refine al_ond rfl rfl rfl (by assumption) rfl rfl (by exact opd_move rfl rfl) ?_
   refine al_ond rfl rfl rfl (by assumption) rfl rfl (by exact opd_len_str rfl Tryz.underlying9 rfl) ?_
   refine al_ond rfl rfl rfl (by assumption) rfl rfl (by exact opd_leq rfl rfl rfl) ?_
   refine Dd pt'<|Dd mv' ?_
   refine al_ond rfl rfl rfl (by assumption) rfl rfl (by exact opd_move rfl rfl) ?_
   refine al_ond rfl rfl rfl (by assumption) rfl rfl (by exact opd_index_str rfl Tryz.underlying9 rfl rfl (by omega) (by exact Int.toNat_natCast _) (by omega) rfl) ?_
   refine al_ond rfl rfl rfl (by assumption) rfl rfl (by exact opr_call rfl rfl Tryz.call151 rfl (rLetter_c (byteAt s 0) _)) ?_
   refine Dd pt'<|Dd as'<|Zz<|awp_ret ?_
   refine Rt ?_
   exact⟨rfl,rfl⟩
  have d1:=decide_eq_false h24
  rw [d1]
  refine awp_exit<|Sq<|Rg<|Dd mv'<|Dd (ls' Tryz.underlying9)<|Dd gt'<|Dd mv' ?_
  refine al_ond rfl rfl rfl (by assumption) rfl rfl (by exact opd_move rfl rfl) ?_
  refine al_ond rfl rfl rfl (by assumption) rfl rfl (by exact opd_len_str rfl Tryz.underlying9 rfl) ?_
  refine al_ond rfl rfl rfl (by assumption) rfl rfl (by exact opd_leq rfl rfl rfl) ?_
  refine Dd pt'<|Dd mv' ?_
  refine al_off rfl rfl rfl (by assumption) rfl ?_
  refine al_off rfl rfl rfl (by assumption) rfl ?_
  refine al_off rfl rfl rfl (by assumption) rfl ?_
  refine Dd pf'<|Dd as'<|Zz<|awp_ret ?_
  refine Rt ?_
  exact⟨rfl,rfl⟩
 have d0:=decide_eq_false h0
 rw [d0]
 refine awp_exit<|Sq<|Rg<|Dd mv'<|Dd (ls' Tryz.underlying9)<|Dd gt'<|Dd mv' ?_
 refine al_off rfl rfl rfl (by assumption) rfl ?_
 refine al_off rfl rfl rfl (by assumption) rfl ?_
 refine al_off rfl rfl rfl (by assumption) rfl ?_
 refine Dd pf'<|Dd mv' ?_
 refine al_off rfl rfl rfl (by rfl) rfl ?_
 refine al_off rfl rfl rfl (by rfl) rfl ?_
 refine al_off rfl rfl rfl (by rfl) rfl ?_
 refine Dd pk'<|Dd as'<|Zz<|awp_ret ?_
 refine Rt ?_
 exact⟨rfl,rfl⟩
theorem rName_c (s:ByteArray) (H:Heap) (hs:s.size < 4611686018427387904):ACalls Tryz.prog 95 [sv s] H (fun r H'=>r=bv (gName s)∧H'=H):=by
 rw [← rName_eq]
 exact rName0_c s H hs
theorem rOn_c (x y:Int) (H:Heap):ACalls Tryz.prog 96 [.agg [iv x,iv y]] H (fun r H'=>r=bv (gOn x y)∧H'=H):=by
 refine ACalls.pure ?_ (by simp) H
 refine Bd Tryz.func96 rfl Tryz.ntmps96<|Sq<|Rg<|Dd (by exact opd_box (id:=1) rfl rfl rfl rfl rfl)<|Dd as'<|Zz<|Sq ?_
 refine awp_bool (t:=2) (n:=22) (X:=gOn x y) ?_ ?_
 ·all_goals refine Dd (fr' fo45_0) ?_
  all_goals refine Dd (l1' Tryz.isAgg3) ?_
  all_goals refine Dd ge' ?_
  all_goals refine Dd mv' ?_
  all_goals refine Sp 6 (fun h6=>?_) fun h6=>?_
  all_goals try contradiction
  all_goals first|refine Fo ?_|refine On (fr' fo45_0) ?_
  all_goals first|refine Fo ?_|refine On (l1' Tryz.isAgg3) ?_
  all_goals first|refine Fo ?_|refine On lss' ?_
  all_goals refine Dd pk' ?_
  all_goals refine Dd mv' ?_
  all_goals refine Sp 11 (fun h11=>?_) fun h11=>?_
  all_goals try contradiction
  all_goals first|refine Fo ?_|refine On (fr' fo45_1) ?_
  all_goals first|refine Fo ?_|refine On (l1' Tryz.isAgg3) ?_
  all_goals first|refine Fo ?_|refine On ge' ?_
  all_goals refine Dd pk' ?_
  all_goals refine Dd mv' ?_
  all_goals refine Sp 16 (fun h16=>?_) fun h16=>?_
  all_goals try contradiction
  all_goals first|refine Fo ?_|refine On (fr' fo45_1) ?_
  all_goals first|refine Fo ?_|refine On (l1' Tryz.isAgg3) ?_
  all_goals first|refine Fo ?_|refine On lss' ?_
  all_goals refine Dd pk' ?_
  all_goals refine Dd as' ?_
  all_goals refine al_nil ?_
  all_goals(exact⟨⟨_,rfl,by(simp only [gOn, *];rfl)⟩,rfl,rfl,rfl⟩)
 refine awp_ret ?_
 refine Rt ?_
 exact⟨rfl,rfl⟩
theorem rwords_at {n:Nat} (h0:1≤n) (h1:n≤5):[encStr sNil,encStr ⟨#[110,111,100,101]⟩,encStr ⟨#[119,97,121]⟩,encStr ⟨#[97,114,101,97]⟩,encStr ⟨#[114,111,117,116,101]⟩,encStr ⟨#[116,117,114,110]⟩][n]?=some (encStr (gWord (n:Int))):=by
 match n,h0,h1 with
 | 1,_,_=>rfl
 | 2,_,_=>rfl
 | 3,_,_=>rfl
 | 4,_,_=>rfl
 | 5,_,_=>rfl
 | n+6,_,h=>exact absurd h (by omega)
theorem rWordOf_c (k:Int) (H:Heap):ACalls Tryz.prog 129 [iv k] H (fun r H'=>r=sv (gWord k)∧H'=H):=by
 refine ACalls.pure ?_ (by simp) H
 refine Bd Tryz.func129 rfl Tryz.ntmps129<|Sq<|Rg<|Dd as'<|Zz<|Sq<|Rg<|Dd (by exact x_buildSlice [encStr sNil,encStr ⟨#[110,111,100,101]⟩,encStr ⟨#[119,97,121]⟩,encStr ⟨#[97,114,101,97]⟩,encStr ⟨#[114,111,117,116,101]⟩,encStr ⟨#[116,117,114,110]⟩] rfl so46 rfl rfl rfl rfl rfl (by simp [encStr]))<|Dd as'<|Zz<|Sq<|Sq ?_
 refine awp_bool (t:=10) (n:=7) (X:=decide (k < 1)||decide (5 < k)) ?_ ?_
 ·all_goals refine Dd mv' ?_
  all_goals refine Dd lss' ?_
  all_goals refine Dd mv' ?_
  all_goals refine Sp 7 (fun h7=>?_) fun h7=>?_
  all_goals try contradiction
  all_goals first|refine Fo ?_|refine On mv' ?_
  all_goals first|refine Fo ?_|refine On gt' ?_
  all_goals refine Dd pk' ?_
  all_goals refine al_nil ?_
  all_goals(exact⟨⟨_,rfl,by(simp only [*,Zo];done)⟩,rfl,rfl,rfl⟩)
 refine Cn (fun hc1=>?_) fun hc1=>?_
 ·have hn:¬ (k=1)∧¬ (k=2)∧¬ (k=3)∧¬ (k=4)∧¬ (k=5):=by
   simp only [Bool.or_eq_true,decide_eq_true_eq] at hc1
   omega
  refine Sq<|Rg<|Dd as'<|Zz<|awp_ret ?_
  refine Rt ?_
  exact⟨by simp only [gWord,hn.1,hn.2.1,hn.2.2.1,hn.2.2.2.1,hn.2.2.2.2,if_false],rfl⟩
 obtain ⟨n,rfl⟩:∃ n:Nat,k=(n:Int):=⟨k.toNat,by simp only [Bool.or_eq_false_iff,decide_eq_false_iff_not] at hc1;omega⟩
 have hb:1≤n∧n≤5:=by
  simp only [Bool.or_eq_false_iff,decide_eq_false_iff_not] at hc1
  omega
 have hi:=rwords_at hb.1 hb.2
 refine awp_skip<|Sq<|Rg<|Dd mv'<|Dd mv'<|Dd (xp' so46)<|Dd (lp' Tryz.isAgg9)<|Dd as'<|Zz<|awp_ret ?_
 refine Rt ?_
 exact⟨rfl,rfl⟩
theorem badTag_eq (l:List GTag) (k:Nat) (t pt:GTag) (hp:0 < k→l[k - 1]?=some pt):(((!gName t.key||decide ((t.val.size:Int) < 1))||decide (200 < (t.val.size:Int)))||(decide ((0:Int) < (k:Int))&&!slt pt.key t.key))=badTag (before GTag.key l k) t:=by
 have hv:decide ((t.val.size:Int) < 1)=decide (t.val=sNil):=decide_eq_decide.2 (by rw [sNil_iff];omega)
 rw [hv,badTag]
 cases hg:gName t.key with
 | false=>simp
 | true =>
  have hs:sle t.key (before GTag.key l k)=(decide ((0:Int) < (k:Int))&&!slt pt.key t.key):=by
   cases k with
   | zero =>
    have:slt sNil t.key=true:=by
     cases e:slt sNil t.key with
     | true=>rfl
     | false=>exact absurd (slt_tri (slt_nil _) e) (gName_ne hg)
    rw [before,sle_iff.2 this];rfl
   | succ k =>
    have h:=hp (by omega)
    rw [show k+1 - 1=k from rfl] at h
    rw [before_succ h,decide_eq_true (show (0:Int) < ((k+1:Nat):Int)by omega),Bool.true_and]
    cases e:slt pt.key t.key with
    | true=>rw [sle_iff.2 e];rfl
    | false =>
     cases e2:sle t.key pt.key with
     | true=>rfl
     | false=>rw [sle_iff] at e2;rw [e] at e2;cases e2
  rw [← hs]
  cases sle t.key (before GTag.key l k)<;>cases decide (t.val=sNil)<;>cases decide (200 < (t.val.size:Int))<;>rfl
theorem rTags_c (l:List GTag) (H:Heap) (hl:okTags l):ACalls Tryz.prog 148 [.pv (slTags l)] H (fun r H'=>r=bv (gTags l)∧H'=H):=by
 refine ACalls.pure ?_ (by simp) H
 obtain ⟨hl,hks⟩:=hl
 have hml:(l.map encTag).length=l.length:=List.length_map _
 refine Bd Tryz.func148 rfl Tryz.ntmps148<|Sq<|Rg<|Dd as'<|Zz<|Sq<|Sq<|Rg<|Dd mv'<|Dd (ll' Tryz.underlying47)<|Dd gt'<|Zz ?_
 refine Cn (fun hc1=>?_) fun hc1=>?_
 ·have h60:decide ((l.length:Int)≤60)=false:=by
   have:=of_decide_eq_true hc1
   exact decide_eq_false (by omega)
  refine Sq<|Rg<|Dd as'<|Zz<|awp_ret ?_
  refine Rt ?_
  exact⟨by rw [gTags,h60,Bool.and_false],rfl⟩
 have h60:decide ((l.length:Int)≤60)=true:=by
  have:=of_decide_eq_false hc1
  exact decide_eq_true (by omega)
 rw [gTags,h60,Bool.and_true]
 refine awp_skip<|Sq<|Sq<|Rg<|Dd as'<|Zz<|awp_block ?_
 refine awp_loop (σ:=Nat) (fun k=>([(0,.pv (slTags l)),(3,iv (k:Int))],[])) (fun k=>k≤l.length∧∀ j,j < k→badAt badTag GTag.key l j=false) (fun k=>l.length - k) 0 ⟨by omega,by omega⟩ ?_ ?_
 ·exact E0
 rintro k ⟨hk,hno⟩
 refine Sq<|Sq<|Rg<|Dd mv'<|Dd mv'<|Dd (ll' Tryz.underlying47)<|Dd lss'<|Zz ?_
 refine Cn (fun hc2=>?_) fun hc2=>?_
 ·have hlt:k < l.length:=by have:=of_decide_eq_true hc2;omega
  obtain ⟨t,ht⟩:=get_of_lt hlt
  have hi:=map_get (f:=encTag) ht
  have hkt:=hks t (List.mem_of_getElem? ht)
  obtain ⟨pt,hp⟩:∃ pt,0 < k→l[k - 1]?=some pt:=by
   by_cases k0:0 < k
   ·obtain ⟨pt,hp⟩:=get_of_lt (l:=l) (k:=k - 1) (by omega)
    exact⟨pt,fun _=>hp⟩
   exact⟨t,fun h=>absurd h k0⟩
  have hpv:0 < k→(l.map encTag)[k - 1]?=some (encTag pt):=fun h=>map_get (f:=encTag) (hp h)
  have hbe:=badTag_eq l k t pt hp
  refine awp_skip<|Sq<|awp_block<|Sq ?_
  refine awp_mergeR (t:=55) (n:=43) (X:=((!gName t.key||decide ((t.val.size:Int) < 1))||decide (200 < (t.val.size:Int)))||(decide ((0:Int) < (k:Int))&&!slt pt.key t.key)) ?_ ?_
  ·cases hg20:(!gName t.key:Bool)
   ·cases hg29:(decide ((t.val.size:Int) < 1):Bool)
    ·cases hg38:(decide (200 < (t.val.size:Int)):Bool)
     ·cases hg41:(decide ((0:Int) < (k:Int)):Bool)
      ·refine awp_drawc follows ?_
       refine Cq mv'<|Cq mv'<|Cq (xp' so47)<|Cq (fp' fo117_0)<|Cq (lp' Tryz.isAgg9)<|Cq (by exact opr_call rfl rfl Tryz.call95 rfl (rName_c t.key _ hkt.1))<|Cq no'<|Cq mv'<|Nf mv'<|Nf mv'<|Nf (xp' so47)<|Nf (fp' fo117_1)<|Nf (lp' Tryz.isAgg9)<|Nf (ls' Tryz.underlying9)<|Nf lss'<|Cq pf'<|Cq mv'<|Nf mv'<|Nf mv'<|Nf (xp' so47)<|Nf (fp' fo117_1)<|Nf (lp' Tryz.isAgg9)<|Nf (ls' Tryz.underlying9)<|Nf gt'<|Cq pf'<|Cq mv'<|Nf mv'<|Nf gt'<|Nf mv'<|Ot<|Ot<|Ot<|Ot<|Ot<|Ot<|Ot<|Ot<|Ot<|Ot<|Ot<|Ot<|Nf pf'<|Cq pf' ?_
       refine dc_nil ⟨by kernel_rfl,?_⟩
       exact⟨rfl,⟨_,rfl,by rfl⟩,rfl,rfl,rfl⟩
      refine awp_drawc follows ?_
      refine Cq mv'<|Cq mv'<|Cq (xp' so47)<|Cq (fp' fo117_0)<|Cq (lp' Tryz.isAgg9)<|Cq (by exact opr_call rfl rfl Tryz.call95 rfl (rName_c t.key _ hkt.1))<|Cq no'<|Cq mv'<|Nf mv'<|Nf mv'<|Nf (xp' so47)<|Nf (fp' fo117_1)<|Nf (lp' Tryz.isAgg9)<|Nf (ls' Tryz.underlying9)<|Nf lss'<|Cq pf'<|Cq mv'<|Nf mv'<|Nf mv'<|Nf (xp' so47)<|Nf (fp' fo117_1)<|Nf (lp' Tryz.isAgg9)<|Nf (ls' Tryz.underlying9)<|Nf gt'<|Cq pf'<|Cq mv'<|Nf mv'<|Nf gt'<|Nf mv'<|Nt mv'<|Nt mv'<|Nt (by exact opd_sub rfl rfl rfl (by exact w64 (by omega) (by omega)))<|Nt (by exact x_index_pad rfl so47 rfl rfl (by have:=of_decide_eq_true hg41;omega) (show ((k:Int) - 1).toNat=k - 1 by omega) (hpv (by have:=of_decide_eq_true hg41;omega)) rfl)<|Nt (fp' fo117_0)<|Nt (by exact opd_load1_pad rfl Tryz.isAgg9 rfl (hpv (by have:=of_decide_eq_true hg41;omega)) rfl)<|Nt mv'<|Nt mv'<|Nt (xp' so47)<|Nt (fp' fo117_0)<|Nt (lp' Tryz.isAgg9)<|Nt (by exact opd_sgeq rfl rfl rfl) ?_
      refine Nf pt'<|Cq pf' ?_
      refine dc_nil ⟨by kernel_rfl,?_⟩
      exact⟨rfl,⟨_,rfl,by rfl⟩,rfl,rfl,rfl⟩
     refine awp_drawc follows ?_
     refine Cq mv'<|Cq mv'<|Cq (xp' so47)<|Cq (fp' fo117_0)<|Cq (lp' Tryz.isAgg9)<|Cq (by exact opr_call rfl rfl Tryz.call95 rfl (rName_c t.key _ hkt.1))<|Cq no'<|Cq mv'<|Nf mv'<|Nf mv'<|Nf (xp' so47)<|Nf (fp' fo117_1)<|Nf (lp' Tryz.isAgg9)<|Nf (ls' Tryz.underlying9)<|Nf lss'<|Cq pf'<|Cq mv'<|Nf mv'<|Nf mv'<|Nf (xp' so47)<|Nf (fp' fo117_1)<|Nf (lp' Tryz.isAgg9)<|Nf (ls' Tryz.underlying9)<|Nf gt'<|Cq pf'<|Cq mv'<|Of<|Of<|Of<|Ou<|Ou<|Ou<|Ou<|Ou<|Ou<|Ou<|Ou<|Ou<|Ou<|Ou<|Ou<|Of<|Cq pt' ?_
     refine dc_nil ⟨by kernel_rfl,?_⟩
     exact⟨rfl,⟨_,rfl,by rfl⟩,rfl,rfl,rfl⟩
    refine awp_drawc follows ?_
    refine Cq mv'<|Cq mv'<|Cq (xp' so47)<|Cq (fp' fo117_0)<|Cq (lp' Tryz.isAgg9)<|Cq (by exact opr_call rfl rfl Tryz.call95 rfl (rName_c t.key _ hkt.1))<|Cq no'<|Cq mv'<|Nf mv'<|Nf mv'<|Nf (xp' so47)<|Nf (fp' fo117_1)<|Nf (lp' Tryz.isAgg9)<|Nf (ls' Tryz.underlying9)<|Nf lss'<|Cq pf'<|Cq mv'<|Of<|Of<|Of<|Of<|Of<|Of<|Of<|Cq pt'<|Cq mv'<|Of<|Of<|Of<|Ou<|Ou<|Ou<|Ou<|Ou<|Ou<|Ou<|Ou<|Ou<|Ou<|Ou<|Ou<|Of<|Cq pk' ?_
    refine dc_nil ⟨by kernel_rfl,?_⟩
    exact⟨rfl,⟨_,rfl,by rfl⟩,rfl,rfl,rfl⟩
   refine awp_drawc follows ?_
   refine Cq mv'<|Cq mv'<|Cq (xp' so47)<|Cq (fp' fo117_0)<|Cq (lp' Tryz.isAgg9)<|Cq (by exact opr_call rfl rfl Tryz.call95 rfl (rName_c t.key _ hkt.1))<|Cq no'<|Cq mv'<|Of<|Of<|Of<|Of<|Of<|Of<|Of<|Cq pt'<|Cq mv'<|Of<|Of<|Of<|Of<|Of<|Of<|Of<|Cq pk'<|Cq mv'<|Of<|Of<|Of<|Ou<|Ou<|Ou<|Ou<|Ou<|Ou<|Ou<|Ou<|Ou<|Ou<|Ou<|Ou<|Of<|Cq pk' ?_
   refine dc_nil ⟨by kernel_rfl,?_⟩
   exact⟨rfl,⟨_,rfl,by rfl⟩,rfl,rfl,rfl⟩
  refine Cn (fun hc3=>?_) fun hc3=>?_
  ·rw [hbe] at hc3
   refine Sq<|Rg<|Dd as'<|Zz<|awp_ret ?_
   refine Rt ?_
   exact⟨by rw [range_some hlt ((badAt_some ht).trans hc3)];rfl,rfl⟩
  rw [hbe] at hc3
  refine awp_skip<|Rg<|Dd mv'<|Dd ad'<|Dd as'<|Zz ?_
  refine⟨k+1,⟨by omega,fun j hj=>?_⟩,by omega,E0⟩
  by_cases e:j=k
  ·subst e;exact(badAt_some ht).trans hc3
  exact hno j (by omega)
 have hge:k=l.length:=by have:=of_decide_eq_false hc2;omega
 subst hge
 refine awp_exit<|Sq<|Rg<|Dd as'<|Zz<|awp_ret ?_
 refine Rt ?_
 exact⟨by rw [range_any hno];rfl,rfl⟩
end
end Go.Proofs.YtlnfjkdacimblaaGreatDoor
