/-
  CONTRACT: change.Units of a valid change set: an owned slice of its units. Conditions: the edits' sizes.
  CONTRACTS: change.Units: its result frozen, or owned. Conditions: the edits' sizes.
  CONTRACTS: the references' membership. Conditions: lengths below 2^62.
  CONTRACTS: lists of Ids compared. Conditions: lengths below 2^62.
  PLAIN LAWS of Go's order of strings. Conditions: none.
  CONTRACTS: planisphereref22.Writes, Same, All; planispherelaw22.few, writes, node. Conditions: lengths.
  CONTRACTS: the reference's layer and drops. Conditions: the arguments' sizes.
  CONTRACTS: the reference: tags found, points, distances, objects found by halving, evidence of a kind. Conditions: lengths below 2^62.
  CONTRACT: the reference's changes. Conditions: the arguments' sizes.
  CONTRACTS: the reference's In over an owned slice, Refers; PLAIN: the reference's search for what is renewed, and its lists. Conditions: the arguments' sizes.
  CONTRACTS: the reference: sound objects, closed maps. Conditions: lengths below 2^40.
-/
import Derived.Test.YtlnfjkdacimblaaGreatDoorKW5M9
set_option linter.unusedVariables false
set_option linter.unusedSimpArgs false
set_option maxRecDepth 100000
set_option maxHeartbeats 2000000
namespace Go.Proofs.YtlnfjkdacimblaaGreatDoor
open Go.Abs
section
theorem fO_clo (H:Heap) (F:List (ByteArray×Nat)):∀ r∈(fO F).rows,∀ a∈r,Clo H a:=by
 intro r hr a ha
 obtain ⟨i,hi⟩:=List.mem_iff_getElem?.1 hr
 obtain ⟨p,hp,rfl⟩:=mrows_get.1 hi
 simp only [fAV,List.getElem?_map] at hp
 obtain ⟨q,_,rfl⟩:=Option.map_eq_some_iff.1 hp
 simp only [List.mem_cons,List.not_mem_nil,or_false] at ha
 rcases ha with rfl|rfl|rfl<;>simp
theorem sO_clo {H:Heap} {u:List Nat} (h1:(H.get 910).isSome=true) (h2:(H.get 911).isSome=true):∀ r∈(sO u).rows,∀ a∈r,Clo H a:=by
 intro r hr a ha
 simp only [sO,bx,List.mem_singleton] at hr
 subst hr
 simp only [List.mem_cons,List.not_mem_nil,or_false] at ha
 rcases ha with rfl|rfl
 ·exact .osl h1
 exact .mp h2
theorem OpD.cv {P:Program} {N:Nat} {o:Oper} {E:Env} {H H':Heap} {v v':AV} (h:OpD P N o E H v H') (e:v=v'):OpD P N o E H v' H':=e▸h
theorem fAV_get:∀ {F:List (ByteArray×Nat)} {s:ByteArray},mget (fAV F) s=(fget F s).map fun k=>iv (k:Int)
 | [],_=>rfl
 | (k,v)::r,s=>by
  rw [fAV,List.map_cons,mget,fget]
  by_cases e:k=s
  ·rw [if_pos e,if_pos e];rfl
  rw [if_neg e,if_neg e];exact fAV_get
theorem fAV_put:∀ {F:List (ByteArray×Nat)} {s:ByteArray} {i:Nat},fget F s=none→mput (fAV F) s (iv (i:Int))=fAV (F++[(s,i)])
 | [],_,_,_=>rfl
 | (k,v)::r,s,i,h=>by
  rw [fget] at h
  by_cases e:k=s
  ·rw [if_pos e] at h;cases h
  rw [if_neg e] at h
  have:=fAV_put (i:=i) h
  rw [fAV,List.map_cons,mput,if_neg e]
  show _::mput (fAV r) s _=_
  rw [this]
  rfl
def OkU (st:List Nat×List (ByteArray×Nat)) (m:Nat):Prop:=st.1.length=m∧UpOk st.1∧∀ s j,fget st.2 s=some j→j < m
theorem okU_snoc {st:List Nat×List (ByteArray×Nat)} {m:Nat} (h:OkU st m):OkU (st.1++[m],st.2) (m+1):=by
 obtain ⟨h1,h2,h3⟩:=h
 refine⟨by rw [List.length_append,h1];rfl,?_,fun s j e=>by have:=h3 s j e;omega⟩
 rw [← h1]
 exact snoc_ok h2
theorem okU_wr1 {st:List Nat×List (ByteArray×Nat)} {m i:Nat} (h:OkU st m) (hi:i < m) (s:ByteArray):OkU (wr1 i st s) m:=by
 obtain ⟨h1,h2,h3⟩:=h
 unfold wr1
 cases e:fget st.2 s with
 | some k =>
  have:=h3 s k e
  exact⟨by rw [joinU_len];exact h1,joinU_ok h2 (by omega) (by omega),h3⟩
 | none =>
  refine⟨h1,h2,fun t j ht=>?_⟩
  have ht:fget (st.2++[(s,i)]) t=some j:=ht
  rw [fget_app] at ht
  cases e2:fget st.2 t with
  | some k=>rw [e2] at ht;cases ht;exact h3 t _ e2
  | none =>
   rw [e2] at ht
   dsimp only at ht
   split at ht
   ·cases ht;exact hi
   cases ht
theorem okU_fold {i m:Nat} (hi:i < m):∀ (ws:List ByteArray) {st:List Nat×List (ByteArray×Nat)},OkU st m→OkU (ws.foldl (wr1 i) st) m
 | [],_,h=>h
 | s::ws,_,h=>okU_fold hi ws (okU_wr1 h hi s)
theorem okU_us1 (W:Nat→List ByteArray):∀ k,OkU (us1K W k) k
 | 0=>⟨rfl,nil_ok,fun s j h=>by cases h⟩
 | k+1=>okU_fold (Nat.lt_succ_self k) _ (okU_snoc (okU_us1 W k))
def Ok2 (F:List (ByteArray×Nat)) (n:Nat) (u:List Nat):Prop:=OkU (u,F) n
theorem ok2_wr2 {F:List (ByteArray×Nat)} {n i:Nat} {u:List Nat} (h:Ok2 F n u) (hi:i < n) (s:ByteArray):Ok2 F n (wr2 F i u s):=by
 obtain ⟨h1,h2,h3⟩:=h
 unfold wr2
 cases e:fget F s with
 | some k =>
  have:=h3 s k e
  have h1:u.length=n:=h1
  exact⟨(joinU_len u i k).trans h1,joinU_ok h2 (by omega) (by omega),h3⟩
 | none=>exact⟨h1,h2,h3⟩
theorem ok2_fold {F:List (ByteArray×Nat)} {n i:Nat} (hi:i < n):∀ (ws:List ByteArray) {u:List Nat},Ok2 F n u→Ok2 F n (ws.foldl (wr2 F i) u)
 | [],_,h=>h
 | s::ws,_,h=>ok2_fold hi ws (ok2_wr2 h hi s)
theorem ok2_us2 {F:List (ByteArray×Nat)} {n:Nat} {u:List Nat} (N:Nat→List ByteArray) (h:Ok2 F n u):∀ k,k≤n→Ok2 F n (us2K F u N k)
 | 0,_=>h
 | k+1,hk=>ok2_fold hk _ (ok2_us2 N h k (Nat.le_of_succ_le hk))
/-! ### groups grow -/
theorem roots_succ (f:Nat→Nat) (n:Nat):roots f (n+1)=roots f n++(if f n=n then[n] else[]):=by
 rw [roots,List.range_succ,List.filter_append,roots]
 congr 1
 by_cases h:f n=n
 ·rw [if_pos h,List.filter_cons_of_pos (by simpa using h)];rfl
 rw [if_neg h,List.filter_cons_of_neg (by simpa using h)];rfl
theorem grp_succ (f:Nat→Nat) (n r:Nat):grp f (n+1) r=grp f n r++(if f n=r then[n] else[]):=by
 rw [grp,List.range_succ,List.filter_append,grp]
 congr 1
 by_cases h:f n=r
 ·rw [if_pos h,List.filter_cons_of_pos (by simpa using h)];rfl
 rw [if_neg h,List.filter_cons_of_neg (by simpa using h)];rfl
theorem groups_root {f:Nat→Nat} (hle:∀ x,f x≤x) {n:Nat} (h:f n=n):groups f (n+1)=groups f n++[[n]]∧roots f (n+1)=roots f n++[n]:=by
 have hr:=roots_succ f n
 rw [if_pos h] at hr
 refine⟨?_,hr⟩
 rw [groups,hr,List.map_append,groups]
 congr 1
 ·refine List.map_congr_left fun r hr=>?_
  have:=(mem_roots.1 hr).1
  rw [grp_succ,if_neg (by omega),List.append_nil]
 have h0:grp f n n=[]:=by
  refine List.eq_nil_iff_forall_not_mem.2 fun j hj=>?_
  obtain ⟨h1,h2⟩:=mem_grp.1 hj
  have:=hle j
  omega
 rw [List.map_cons,List.map_nil,grp_succ,if_pos h,h0]
 rfl
theorem groups_in {f:Nat→Nat} (hle:∀ x,f x≤x) (hid:∀ x,f (f x)=f x) {n:Nat} (h:f n≠n) :
  ∃ k g,(groups f n)[k]?=some g∧(roots f n)[k]?=some (f n)∧groups f (n+1)=(groups f n).set k (g++[n])∧roots f (n+1)=roots f n:=by
 have hr:=roots_succ f n
 rw [if_neg h,List.append_nil] at hr
 have hm:f n∈roots f n:=mem_roots.2 ⟨by have:=hle n;omega,hid n⟩
 obtain ⟨k,hk⟩:=List.mem_iff_getElem?.1 hm
 refine⟨k,grp f n (f n),by rw [groups,List.getElem?_map,hk];rfl,hk,?_,hr⟩
 refine List.ext_getElem? fun j=>?_
 rw [groups,hr,List.getElem?_map,List.getElem?_set,groups,List.length_map,List.getElem?_map]
 have hkl:=(List.getElem?_eq_some_iff.1 hk).1
 by_cases e:k=j
 ·subst e
  rw [if_pos rfl,if_pos hkl,hk,Option.map_some,grp_succ,if_pos rfl]
 rw [if_neg e]
 cases hj:(roots f n)[j]? with
 | none=>rfl
 | some r =>
  rw [Option.map_some,Option.map_some,grp_succ,if_neg,List.append_nil]
  rintro rfl
  exact e (sorted_inj (roots_sorted f n) hk hj)
/-! ### the loops' states -/
def uoH (m:Nat) (R:List Nat) (G:List (List Nat)) (u:List Nat) (F:List (ByteArray×Nat)):Heap:=(905,oObU m (oRows 0 G))::(912,mI (atL 0 R))::(910,uO u)::(911,fO F)::(1,sO u)::famU 0 G
theorem uoH_get (m:Nat) (R:List Nat) (G:List (List Nat)) (u:List Nat) (F:List (ByteArray×Nat)) (j:Nat) (hj:960≤j):Heap.get (uoH m R G u F) j=(G[j - 960]?).map gObU:=by
 rw [uoH,get_cons_other _ _ (by omega),get_cons_other _ _ (by omega),get_cons_other _ _ (by omega),get_cons_other _ _ (by omega),get_cons_other _ _ (by omega),famU_get,if_pos (by omega),Nat.zero_add]
theorem uoH_low (m:Nat) (R:List Nat) (G:List (List Nat)) (u:List Nat) (F:List (ByteArray×Nat)) (j:Nat) (hj:j < 960):Heap.get (uoH m R G u F) j=Heap.get ((905,oObU m (oRows 0 G))::(912,mI (atL 0 R))::(910,uO u)::(911,fO F)::[(1,sO u)]) j:=by
 rw [uoH]
 have h0:Heap.get (famU 0 G) j=none:=by rw [famU_get,if_neg (by omega)]
 by_cases e1:j=905
 ·subst e1;rfl
 by_cases e2:j=912
 ·subst e2;rfl
 by_cases e3:j=910
 ·subst e3;rfl
 by_cases e4:j=911
 ·subst e4;rfl
 by_cases e5:j=1
 ·subst e5;rfl
 rw [get_cons_other _ _ e1,get_cons_other _ _ e2,get_cons_other _ _ e3,get_cons_other _ _ e4,get_cons_other _ _ e5,h0,get_cons_other _ _ e1,get_cons_other _ _ e2,get_cons_other _ _ e3,get_cons_other _ _ e4,get_cons_other _ _ e5]
 rfl
/-- A new group. -/
theorem uoH_new {m m1:Nat} {R R':List Nat} {G:List (List Nat)} {u:List Nat} {F:List (ByteArray×Nat)} {i:Nat} {o1:Ob} (j:Nat) :
  Heap.get (uoH (m+1) R' (G++[[i]]) u F) j=Heap.get ((905,oObU (m+1) ((oRows 0 G++[[AV.pv .nils]]).set G.length [.osl (0+G.length+960) 1 0 1]))::(0+G.length+960,⟨1,1,3,[[iv (i:Int)]]⟩)::(0+G.length+960,⟨0,1,3,[]⟩)::(905,o1)::(912,mI (atL 0 R'))::uoH m1 R G u F) j:=by
 by_cases h:j < 960
 ·rw [uoH_low _ _ _ _ _ _ h]
  by_cases e:j=905
  ·subst e
   rw [get_cons_same,get_cons_same,oRows_app]
   rfl
  refine Eq.trans ?_ (Eq.symm ((get_cons_other _ _ e).trans ((get_cons_other _ _ (by omega)).trans ((get_cons_other _ _ (by omega)).trans (get_cons_other _ _ e)))))
  rw [get_cons_other _ _ e]
  by_cases e2:j=912
  ·subst e2;rw [get_cons_same,get_cons_same]
  rw [get_cons_other _ _ e2,get_cons_other _ _ e2,uoH_low _ _ _ _ _ _ h,get_cons_other _ _ e,get_cons_other _ _ e2]
 rw [uoH_get _ _ _ _ _ _ (by omega),get_cons_other _ _ (by omega)]
 by_cases e:j=0+G.length+960
 ·subst e
  rw [get_cons_same]
  have e3:0+G.length+960 - 960=G.length:=by omega
  rw [e3,List.getElem?_append_right (Nat.le_refl _),Nat.sub_self]
  rfl
 rw [get_cons_other _ _ e,get_cons_other _ _ e,get_cons_other _ _ (by omega),get_cons_other _ _ (by omega),uoH_get _ _ _ _ _ _ (by omega)]
 by_cases h4:j - 960 < G.length
 ·rw [List.getElem?_append_left h4]
 rw [List.getElem?_eq_none (by rw [List.length_append,List.length_singleton];omega),List.getElem?_eq_none (by omega)]
/-- A group grows. -/
theorem uoH_grow {m:Nat} {R:List Nat} {G:List (List Nat)} {u:List Nat} {F:List (ByteArray×Nat)} {i k:Nat} {g:List Nat} (hk:G[k]?=some g) (j:Nat) :
  Heap.get (uoH m R (G.set k (g++[i])) u F) j=Heap.get ((905,oObU m ((oRows 0 G).set k [.osl (0+k+960) (g.length+1) 0 (g.length+1)]))::(0+k+960,⟨g.length+1,1,3,iRows (g++[i])⟩)::uoH m R G u F) j:=by
 have hkl:=(List.getElem?_eq_some_iff.1 hk).1
 have hgl:(g++[i]).length=g.length+1:=by rw [List.length_append];rfl
 by_cases h:j < 960
 ·rw [uoH_low _ _ _ _ _ _ h]
  by_cases e:j=905
  ·subst e
   rw [get_cons_same,get_cons_same,oRows_set,hgl]
  refine Eq.trans ?_ (Eq.symm ((get_cons_other _ _ e).trans (get_cons_other _ _ (by omega))))
  rw [get_cons_other _ _ e,uoH_low _ _ _ _ _ _ h,get_cons_other _ _ e]
 rw [uoH_get _ _ _ _ _ _ (by omega),get_cons_other _ _ (by omega),List.getElem?_set]
 by_cases e:j=0+k+960
 ·subst e
  have e3:0+k+960 - 960=k:=by omega
  rw [get_cons_same,e3,if_pos rfl,if_pos hkl,Option.map_some,gObU,hgl]
 rw [get_cons_other _ _ e,if_neg (by omega),uoH_get _ _ _ _ _ _ (by omega)]
theorem famU_closed (G:List (List Nat)):Closed (famU 0 G):=Closed.of fun p hp r hr a ha=>by
 obtain ⟨j,g,_,rfl⟩:=famU_mem G 0 p hp
 exact iRows_clo _ g r hr a ha
theorem uoH_drop {t:Nat} {E:Env} (m:Nat) (R:List Nat) (G:List (List Nat)) (u:List Nat) (F:List (ByteArray×Nat)) (hE:E.get t=some (.osl 905 m 0 G.length)):Ent [] E (uoH m R G u F) [(t,.osl 905 m 0 G.length)] ((905,oObU m (oRows 0 G))::famU 0 G):=by
 refine Ent.front' [(905,oObU m (oRows 0 G)),(912,mI (atL 0 R)),(910,uO u),(911,fO F),(1,sO u)] [(905,oObU m (oRows 0 G))] ⟨⟨_,hE,rfl⟩,.osl rfl,trivial⟩ ?_ ?_ ?_ (famU_closed G) ?_
 ·intro q hq
  have hn:∀ id,id < 960→Heap.get (famU 0 G) id=none:=fun id h=>by rw [famU_get,if_neg (by omega)]
  simp only [List.mem_cons,List.not_mem_nil,or_false] at hq
  rcases hq with rfl|rfl|rfl|rfl|rfl
  ·exact .inl rfl
  ·exact .inr (hn 912 (by decide))
  ·exact .inr (hn 910 (by decide))
  ·exact .inr (hn 911 (by decide))
  exact .inr (hn 1 (by decide))
 ·intro q hq
  rw [List.mem_singleton] at hq
  subst hq
  rfl
 ·intro q hq
  rw [List.mem_singleton] at hq
  subst hq
  refine oRows_clo fun j hj=>?_
  show (Heap.get ((905,_)::famU 0 G) (0+j+960)).isSome=true
  rw [get_cons_other _ _ (by omega),famU_get,if_pos (by omega)]
  have e:0+j+960 - (0+960)=j:=by omega
  rw [e,List.getElem?_eq_getElem hj]
  rfl
 intro q _
 exact .inr rfl
theorem us1_step (W:Nat→List ByteArray) (i:Nat):us1K W (i+1)=(W i).foldl (wr1 i) ((us1K W i).1++[i],(us1K W i).2):=rfl
theorem us2_step (F:List (ByteArray×Nat)) (u:List Nat) (N:Nat→List ByteArray) (i:Nat):us2K F u N (i+1)=(N i).foldl (wr2 F i) (us2K F u N i):=rfl
theorem look_ok {F:List (ByteArray×Nat)} {s:ByteArray} {j:Nat} (h:fget F s=some j):AV.tup [(mget (fAV F) s).getD (iv 0),bv (mget (fAV F) s).isSome]=.tup [iv (j:Int),bv true]:=by rw [fAV_get,h];rfl
theorem look_no {F:List (ByteArray×Nat)} {s:ByteArray} (h:fget F s=none):AV.tup [(mget (fAV F) s).getD (iv 0),bv (mget (fAV F) s).isSome]=.tup [iv 0,bv false]:=by rw [fAV_get,h];rfl
theorem units0_c (l:List GEdit) (he:∀ e∈l,okE e∧e.refs.length+e.obj.refs.length < 1099511627776) (hv:gChange l=true) :
  ACalls Tryz.prog 19 [.pv (slEdits l)] [] (fun r H'=>r=.osl 905 (gUnits l).length 0 (gUnits l).length∧H'=[(905,oObU (gUnits l).length (zRows (gUnits l)))]):=by
 obtain ⟨h0,h200,hval⟩:=gChange_all hv
 have hml:(l.map encEdit).length=l.length:=List.length_map _
 refine Bd Tryz.func19 rfl Tryz.ntmps19<|Sq<|Rg<|Dd as'<|Zz<|Sq<|Sq<|Rg<|Dd mv'<|Dd (by exact opr_call rfl rfl Tryz.call15 rfl (changeValid_c l _ (by omega) (fun e h=>(he e h).1)))<|Dd no'<|Zz ?_
 refine Cn (fun hc1=>?_) fun hc1=>?_
 ·skip
  rw [hv] at hc1;cases hc1
 skip
 refine awp_skip<|Sq<|Rg<|Dd (by exact opd_makeMap (id:=911) strK rfl rfl)<|Dd (bu' boN82)<|Dd (by exact opd_box (id:=1) rfl rfl rfl rfl rfl)<|Dd as'<|Zz<|Sq<|Sq ?_
 refine AWp.ent (E':=[(0,.pv (slEdits l)),(3,.ref 1 0 0 0)]) (H':=[(910,⟨0,1,3,[]⟩),(911,fO []),(1,sO [])]) (Ent.nz 910 1 3 rfl rfl ⟨⟨_,rfl,(by exact Nz.same (by(simp;done)))⟩,⟨_,rfl,(by exact Nz.same (by(simp;rfl)))⟩,trivial⟩ ⟨⟨_,rfl,rfl,rfl,rfl,(by exact .inl ⟨rfl,(by(intro r hr;cases hr;done))⟩)⟩,⟨_,rfl,rfl,rfl,rfl,(by exact .inr ⟨_,_,rfl,rfl,(by repeat(first|exact trivial|refine⟨(by first|exact Nz.own|exact Nz.same (by(simp;rfl))),?_⟩))⟩)⟩,trivial⟩ trivial) ?_
 refine Rg<|Dd mv'<|Dd (ll' Tryz.underlying22)<|Dd mv'<|Zz<|awp_block ?_
 refine awp_loop (σ:=Nat) (fun i=>([(0,.pv (slEdits l)),(3,.ref 1 0 0 0),(26,.pv (slEdits l)),(27,iv ((l.map encEdit).length:Int)),(28,iv (i:Int))],sH (us1K (wrOf l) i).1 (us1K (wrOf l) i).2)) (fun i=>i≤l.length) (fun i=>l.length - i) 0 (Nat.zero_le _) ?_ ?_
 ·exact(Ent.wk (Eb<|Ea<|Eb<|Eb<|Eb<|trivial) (Hc (by(intro r hr;cases hr;done))<|Hc (by(intro r hr;cases hr;done))<|Hc (sO_clo rfl rfl)<|trivial) trivial)
 rintro i hi
 have hok:=okU_us1 (wrOf l) i
 have hst:=us1_step (wrOf l) i
 obtain ⟨u,hu⟩:∃ u,u=(us1K (wrOf l) i).1:=⟨_,rfl⟩
 obtain ⟨F,hF⟩:∃ F,F=(us1K (wrOf l) i).2:=⟨_,rfl⟩
 rw [← hu,← hF] at hst ⊢
 have hok':OkU (u,F) i:=by rw [hu,hF];exact hok
 have hul:u.length=i:=hok'.1
 refine Sq<|Rg<|Dd lss'<|Zz<|Sq ?_
 refine Cn (fun hc2=>?_) fun hc2=>?_
 ·skip
  have hlt:i < l.length:=by have:=of_decide_eq_true hc2;omega
  obtain ⟨e,hee⟩:=get_of_lt hlt
  have hie:=map_get (f:=encEdit) hee
  have hW:wrOf l i=gWrites e:=by rw [wrOf,hee];rfl
  rw [hW] at hst
  have hWl:(gWrites e).length≤2:=by
   rw [gWrites]
   split
   ·simp
   split<;>simp
  have hok2:=okU_snoc hok'
  refine awp_skip<|Sq<|awp_block<|Sq<|Rg<|Dd mv'<|Dd (xp' so22)<|Dd (by exact opd_loadn_pad rfl Tryz.isAgg51 Tryz.sizeOf51 rfl (by omega) (by simp only [Zl,encTag,encObj,encStr,encEdit,encInt];rfl) rfl)<|Dd (by exact x_alloc (id:=5) rfl zo51 rfl rfl)<|Dd as'<|Uu (sa' Tryz.sizeOf51)<|Zz<|Sq<|Rg<|Dd mv'<|Dd mv'<|Dd nc'<|Dd (fr' fo82_0)<|Dd (l1' Tryz.isAgg42)<|Dd mv'<|Dd (by exact x_buildSlice [encInt (i:Int)] rfl so42 rfl rfl rfl rfl rfl (by intro r hr;rw [List.mem_singleton] at hr;subst hr;rfl))<|Dd (by exact x_append (ps:=[encInt (i:Int)]) rfl so42 ei3 rfl rfl rfl rfl rfl (iRows_len u) rfl (by intro r hr;rw [List.mem_singleton] at hr;subst hr;rfl) (m:=1) rfl (by omega) rfl (iRows_app u i))<|Dd nc'<|Dd (fr' fo82_0)<|Uu (by exact x_store1 rfl Tryz.sizeOf42 rfl rfl rfl rfl rfl rfl (Nat.le_of_ble_eq_true rfl) rfl rfl)<|Zz<|Sq<|Rg<|Dd (by exact opd_loadn_ref rfl Tryz.isAgg51 Tryz.sizeOf51 rfl rfl rfl rfl (by simp only [Zl,encTag,encObj,encStr,encEdit,encInt];rfl) rfl) ?_
  refine Dd (by exact opr_call rfl rfl Tryz.call45 rfl (writes_c e _))<|Dd (ll' Tryz.underlying46)<|Dd mv'<|Zz<|awp_block ?_
  have esH:sH (u++[i]) F=[(910,⟨u.length+1,1,3,iRows (u++[i])⟩),(911,fO F),(1,bx 2 82 [.osl 910 (u.length+1) 0 (u.length+1),.mp 911 0])]:=by simp [sH,uO,sO]
  refine awp_loop (σ:=Nat) (fun k=>([(0,.pv (slEdits l)),(3,.ref 1 0 0 0),(26,.pv (slEdits l)),(27,iv ((l.map encEdit).length:Int)),(28,iv (i:Int)),(4,iv (i:Int)),(44,.pv (slStrs (gWrites e))),(45,iv (((gWrites e).map encStr).length:Int)),(46,iv (k:Int))],sH (((gWrites e).take k).foldl (wr1 i) (u++[i],F)).1 (((gWrites e).take k).foldl (wr1 i) (u++[i],F)).2)) (fun k=>k≤(gWrites e).length) (fun k=>(gWrites e).length - k) 0 (Nat.zero_le _) ?_ ?_
  ·show Ent _ _ _ _ (sH (u++[i]) F)
   rw [esH]
   exact(Ent.wk (Eb<|Ea<|Eb<|Eb<|Eb<|Eb<|Eb<|Eb<|Eb<|trivial) (Hc (iRows_clo _ _)<|Hc (fO_clo _ _)<|Hc (by(simp;exact⟨rfl,rfl⟩))<|trivial) trivial)
  rintro k hk
  have hmw:((gWrites e).map encStr).length=(gWrites e).length:=List.length_map _
  have hokk:=okU_fold (Nat.lt_succ_self i) ((gWrites e).take k) hok2
  obtain ⟨U,hU⟩:∃ U,U=(((gWrites e).take k).foldl (wr1 i) (u++[i],F)).1:=⟨_,rfl⟩
  obtain ⟨Fk,hFk⟩:∃ Fk,Fk=(((gWrites e).take k).foldl (wr1 i) (u++[i],F)).2:=⟨_,rfl⟩
  have hp:((gWrites e).take k).foldl (wr1 i) (u++[i],F)=(U,Fk):=by rw [hU,hFk]
  rw [hp] at hokk ⊢
  dsimp only
  obtain ⟨hUl,hUo,hFo⟩:=hokk
  dsimp only at hUl hUo hFo
  refine Sq<|Rg<|Dd lss'<|Zz<|Sq ?_
  refine Cn (fun hc3=>?_) fun hc3=>?_
  ·skip
   have hkl:k < (gWrites e).length:=by have:=of_decide_eq_true hc3;omega
   obtain ⟨s,hs⟩:=get_of_lt hkl
   have his:=map_get (f:=encStr) hs
   have hnx:((gWrites e).take (k+1)).foldl (wr1 i) (u++[i],F)=wr1 i (U,Fk) s:=by rw [List.take_add_one,hs,List.foldl_append,hp];rfl
   cases hfs:fget Fk s with
   | some j =>
    have hj:=hFo s j hfs
    have hw:wr1 i (U,Fk) s=(joinU U i j,Fk):=by rw [wr1];simp only [hfs]
    refine awp_skip<|Sq<|awp_block<|Sq<|Rg<|Dd (xp' so46)<|Dd (lp' Tryz.isAgg9)<|Dd as'<|Zz<|Sq<|Rg<|Dd mv'<|Dd nc'<|Dd (fr' fo82_1)<|Dd (l1' Tryz.isAgg80)<|Dd mv'<|Dd (by exact OpD.cv (opd_lookup_ok (κ:=strK) (k:=s) (l:=fAV Fk) rfl Tryz.underlying80 Tryz.underlying9 rfl rfl rfl rfl rfl Tryz.zeroValue3 (.inl rfl)) (look_ok hfs))<|Dd mv'<|Dd ex'<|Dd ex'<|Dd as'<|Dd as'<|Zz<|Sq<|Rg<|Dd mv'<|Zz ?_
    refine Cn (fun hc4=>?_) fun hc4=>?_
    ·skip
     refine Rg<|Dd mv'<|Dd mv'<|Dd mv'<|Dd (by exact opr_call rfl rfl Tryz.call46 rfl (joinS_c U Fk i j hUo (by omega) (by omega) (by omega)))<|Zz<|Rg<|Dd ad'<|Dd mv'<|Zz ?_
     refine⟨k+1,by omega,by omega,?_⟩
     rw [hnx,hw]
     exact E0
    skip
    cases hc4
   | none =>
    have hw:wr1 i (U,Fk) s=(U,Fk++[(s,i)]):=by rw [wr1];simp only [hfs]
    refine awp_skip<|Sq<|awp_block<|Sq<|Rg<|Dd (xp' so46)<|Dd (lp' Tryz.isAgg9)<|Dd as'<|Zz<|Sq<|Rg<|Dd mv'<|Dd nc'<|Dd (fr' fo82_1)<|Dd (l1' Tryz.isAgg80)<|Dd mv'<|Dd (by exact OpD.cv (opd_lookup_ok (κ:=strK) (k:=s) (l:=fAV Fk) rfl Tryz.underlying80 Tryz.underlying9 rfl rfl rfl rfl rfl Tryz.zeroValue3 (.inl rfl)) (look_no hfs))<|Dd mv'<|Dd ex'<|Dd ex'<|Dd as'<|Dd as'<|Zz<|Sq<|Rg<|Dd mv'<|Zz ?_
    refine Cn (fun hc5=>?_) fun hc5=>?_
    ·skip
     cases hc5
    skip
    refine Rg<|Dd mv'<|Dd nc'<|Dd (fr' fo82_1)<|Dd (l1' Tryz.isAgg80)<|Dd mv'<|Dd mv'<|Uu (by exact x_mapUpdate (κ:=strK) (k:=s) (l:=fAV Fk) (.inl rfl) Tryz.underlying80 Tryz.underlying9 rfl rfl rfl rfl rfl rfl rfl (fAV_put hfs))<|Zz<|Rg<|Dd ad'<|Dd mv'<|Zz ?_
    refine⟨k+1,by omega,by omega,?_⟩
    rw [hnx,hw]
    exact(Ent.wk (Eb<|Ea<|Eb<|Eb<|Eb<|Eb<|Eb<|Eb<|Eb<|trivial) (Hc (iRows_clo _ _)<|Hc (fO_clo _ _)<|Hc (sO_clo rfl rfl)<|trivial) trivial)
  skip
  have hkl:k=(gWrites e).length:=by have:=of_decide_eq_false hc3;omega
  subst hkl
  rw [List.take_length,← hst] at hp
  refine awp_exit<|Rg<|Dd ad'<|Dd mv'<|Zz ?_
  refine⟨i+1,by omega,by omega,?_⟩
  rw [hp]
  exact(Ent.wk (Eb<|Ea<|Eb<|Eb<|Eb<|trivial) (Hc (iRows_clo _ _)<|Hc (fO_clo _ _)<|Hc (sO_clo rfl rfl)<|trivial) trivial)
 skip
 have hge:i=l.length:=by have:=of_decide_eq_false hc2;omega
 subst hge
 refine awp_exit<|Sq<|Sq<|Rg<|Dd mv'<|Dd (ll' Tryz.underlying22)<|Dd mv'<|Zz<|awp_block ?_
 refine awp_loop (σ:=Nat) (fun i=>([(0,.pv (slEdits l)),(3,.ref 1 0 0 0),(72,.pv (slEdits l)),(73,iv ((l.map encEdit).length:Int)),(74,iv (i:Int))],sH (us2K F u (nmOf l) i) F)) (fun i=>i≤l.length) (fun i=>l.length - i) 0 (Nat.zero_le _) ?_ ?_
 ·exact(Ent.wk (Eb<|Ea<|Eb<|Eb<|Eb<|trivial) (Hc (iRows_clo _ _)<|Hc (fO_clo _ _)<|Hc (sO_clo rfl rfl)<|trivial) trivial)
 rintro i hi
 have hok2:=ok2_us2 (nmOf l) hok' i hi
 have hst2:=us2_step F u (nmOf l) i
 obtain ⟨v,hv2⟩:∃ v,v=us2K F u (nmOf l) i:=⟨_,rfl⟩
 rw [← hv2] at hok2 hst2 ⊢
 refine Sq<|Rg<|Dd lss'<|Zz<|Sq ?_
 refine Cn (fun hc6=>?_) fun hc6=>?_
 ·skip
  have hlt:i < l.length:=by have:=of_decide_eq_true hc6;omega
  obtain ⟨e,hee⟩:=get_of_lt hlt
  have hie:=map_get (f:=encEdit) hee
  have hW:nmOf l i=gNames e:=by rw [nmOf,hee];rfl
  rw [hW] at hst2
  obtain ⟨hoe,hre⟩:=he e (List.mem_of_getElem? hee)
  obtain ⟨Nm,hNm⟩:∃ Nm,Nm=gNames e:=⟨_,rfl⟩
  have hNl:Nm.length < 1099511627999:=by
   rw [hNm,gNames]
   split
   ·rw [sortS_length]
    have h1:=List.length_filter_le nonE (idsOf e)
    have h2:=addAll_len e.obj.refs (addAll (addAll [] [e.id,e.other,e.node,e.obj.id]) e.refs)
    have h3:=addAll_len e.refs (addAll [] [e.id,e.other,e.node,e.obj.id])
    have h4:=addAll_len [e.id,e.other,e.node,e.obj.id] []
    simp only [List.length_cons,List.length_nil] at h4
    have h5:(idsOf e).length≤4+e.refs.length+e.obj.refs.length:=by
     show (addAll (addAll (addAll [] [e.id,e.other,e.node,e.obj.id]) e.refs) e.obj.refs).length≤_
     omega
    omega
   exact(by decide)
  have hcN:=fun H=>names_cE e H hoe hre
  rw [← hNm] at hst2 hcN
  refine awp_skip<|Sq<|awp_block<|Sq<|Rg<|Dd mv'<|Dd (xp' so22)<|Dd (by exact opd_loadn_pad rfl Tryz.isAgg51 Tryz.sizeOf51 rfl (by omega) (by simp only [Zl,encTag,encObj,encStr,encEdit,encInt];rfl) rfl)<|Dd (by exact x_alloc (id:=11) rfl zo51 rfl rfl)<|Dd as'<|Uu (sa' Tryz.sizeOf51)<|Zz<|Sq<|Rg<|Dd (by exact opd_loadn_ref rfl Tryz.isAgg51 Tryz.sizeOf51 rfl rfl rfl rfl (by simp only [Zl,encTag,encObj,encStr,encEdit,encInt];rfl) rfl)<|Dd (by exact opr_call rfl rfl Tryz.call47 rfl (hcN _))<|Dd (ll' Tryz.underlying46)<|Dd mv'<|Zz<|awp_block ?_
  refine awp_loop (σ:=Nat) (fun k=>([(0,.pv (slEdits l)),(3,.ref 1 0 0 0),(72,.pv (slEdits l)),(73,iv ((l.map encEdit).length:Int)),(74,iv (i:Int)),(10,iv (i:Int)),(80,.pv (slStrs Nm)),(81,iv ((Nm.map encStr).length:Int)),(82,iv (k:Int))],sH ((Nm.take k).foldl (wr2 F i) v) F)) (fun k=>k≤Nm.length) (fun k=>Nm.length - k) 0 (Nat.zero_le _) ?_ ?_
  ·exact(Ent.wk (Eb<|Ea<|Eb<|Eb<|Eb<|Eb<|Eb<|Eb<|Eb<|trivial) (Hc (iRows_clo _ _)<|Hc (fO_clo _ _)<|Hc (sO_clo rfl rfl)<|trivial) trivial)
  rintro k hk
  have hmw:(Nm.map encStr).length=Nm.length:=List.length_map _
  have hokk:=ok2_fold hlt (Nm.take k) hok2
  obtain ⟨U,hp⟩:∃ U,U=(Nm.take k).foldl (wr2 F i) v:=⟨_,rfl⟩
  rw [← hp] at hokk ⊢
  obtain ⟨hUl,hUo,hFo⟩:=hokk
  dsimp only at hUl hUo hFo
  refine Sq<|Rg<|Dd lss'<|Zz<|Sq ?_
  refine Cn (fun hc7=>?_) fun hc7=>?_
  ·skip
   have hkl:k < Nm.length:=by have:=of_decide_eq_true hc7;omega
   obtain ⟨s,hs⟩:=get_of_lt hkl
   have his:=map_get (f:=encStr) hs
   have hnx:(Nm.take (k+1)).foldl (wr2 F i) v=wr2 F i U s:=by rw [List.take_add_one,hs,List.foldl_append,← hp];rfl
   cases hfs:fget F s with
   | some j =>
    have hj:=hFo s j hfs
    have hw:wr2 F i U s=joinU U i j:=by rw [wr2];simp only [hfs]
    refine awp_skip<|Sq<|awp_block<|Sq<|Rg<|Dd (xp' so46)<|Dd (lp' Tryz.isAgg9)<|Dd as'<|Zz<|Sq<|Rg<|Dd mv'<|Dd nc'<|Dd (fr' fo82_1)<|Dd (l1' Tryz.isAgg80)<|Dd mv'<|Dd (by exact OpD.cv (opd_lookup_ok (κ:=strK) (k:=s) (l:=fAV F) rfl Tryz.underlying80 Tryz.underlying9 rfl rfl rfl rfl rfl Tryz.zeroValue3 (.inl rfl)) (look_ok hfs))<|Dd mv'<|Dd ex'<|Dd ex'<|Dd as'<|Dd as'<|Zz<|Sq<|Rg<|Dd mv'<|Zz ?_
    refine Cn (fun hc8=>?_) fun hc8=>?_
    ·skip
     refine Rg<|Dd mv'<|Dd mv'<|Dd mv'<|Dd (by exact opr_call rfl rfl Tryz.call46 rfl (joinS_c U F i j hUo (by omega) (by omega) (by omega)))<|Zz<|Rg<|Dd ad'<|Dd mv'<|Zz ?_
     refine⟨k+1,by omega,by omega,?_⟩
     rw [hnx,hw]
     exact E0
    skip
    cases hc8
   | none =>
    have hw:wr2 F i U s=U:=by rw [wr2];simp only [hfs]
    refine awp_skip<|Sq<|awp_block<|Sq<|Rg<|Dd (xp' so46)<|Dd (lp' Tryz.isAgg9)<|Dd as'<|Zz<|Sq<|Rg<|Dd mv'<|Dd nc'<|Dd (fr' fo82_1)<|Dd (l1' Tryz.isAgg80)<|Dd mv'<|Dd (by exact OpD.cv (opd_lookup_ok (κ:=strK) (k:=s) (l:=fAV F) rfl Tryz.underlying80 Tryz.underlying9 rfl rfl rfl rfl rfl Tryz.zeroValue3 (.inl rfl)) (look_no hfs))<|Dd mv'<|Dd ex'<|Dd ex'<|Dd as'<|Dd as'<|Zz<|Sq<|Rg<|Dd mv'<|Zz ?_
    refine Cn (fun hc9=>?_) fun hc9=>?_
    ·skip
     cases hc9
    skip
    refine awp_skip<|Rg<|Dd ad'<|Dd mv'<|Zz ?_
    refine⟨k+1,by omega,by omega,?_⟩
    rw [hnx,hw]
    exact E0
  skip
  have hkl:k=Nm.length:=by have:=of_decide_eq_false hc7;omega
  subst hkl
  rw [List.take_length,← hst2] at hp
  refine awp_exit<|Rg<|Dd ad'<|Dd mv'<|Zz ?_
  refine⟨i+1,by omega,by omega,?_⟩
  rw [← hp]
  exact(Ent.wk (Eb<|Ea<|Eb<|Eb<|Eb<|trivial) (Hc (iRows_clo _ _)<|Hc (fO_clo _ _)<|Hc (sO_clo rfl rfl)<|trivial) trivial)
 skip
 have hge:i=l.length:=by have:=of_decide_eq_false hc6;omega
 subst hge
 have htop:topsE l=v:=by rw [hv2,hu,hF];rfl
 obtain ⟨hcl,htl,hup⟩:=topsE_ok hv
 have hgU:gUnits l=groups (top (topsE l)) l.length:=by rw [gUnits,if_pos hv]
 rw [hgU]
 rw [htop] at hcl htl hup ⊢
 have hle:∀ x,top v x≤x:=hcl.le
 have hid:∀ x,top v (top v x)=top v x:=hcl.idem
 refine awp_exit<|Sq<|Rg<|Dd (by exact opd_assign_own (id:=905) (sz:=1) (ty:=42) rfl rfl rfl)<|Zz<|Sq<|Rg<|Dd (by exact opd_makeMap (id:=912) (intK .i64) rfl rfl)<|Dd as'<|Zz<|Sq<|Sq<|Rg<|Dd mv'<|Dd (ll' Tryz.underlying22)<|Dd mv'<|Zz<|awp_block ?_
 refine awp_loop (σ:=Nat) (fun i=>([(3,.ref 1 0 0 0),(16,.osl 905 (groups (top v) i).length 0 (groups (top v) i).length),(17,.mp 912 0),(103,.pv (slEdits l)),(104,iv ((l.map encEdit).length:Int)),(105,iv (i:Int))],uoH (groups (top v) i).length (roots (top v) i) (groups (top v) i) v F)) (fun i=>i≤l.length) (fun i=>l.length - i) 0 (Nat.zero_le _) ?_ ?_
 ·show Ent _ _ _ _ [(905,oObU 0 []),(912,mI []),(910,uO v),(911,fO F),(1,sO v)]
  exact(Ent.wk (Ea<|Ea<|Ea<|Eb<|Eb<|Eb<|trivial) (Hc (by(intro r hr;cases hr;done))<|Hc (by(intro r hr;cases hr;done))<|Hc (iRows_clo _ _)<|Hc (fO_clo _ _)<|Hc (sO_clo rfl rfl)<|trivial) trivial)
 rintro i hi
 obtain ⟨G,hG⟩:∃ G,G=groups (top v) i:=⟨_,rfl⟩
 obtain ⟨R,hR⟩:∃ R,R=roots (top v) i:=⟨_,rfl⟩
 have hGR:G.length=R.length:=by rw [hG,hR,groups,List.length_map]
 have hRl:R.length≤i:=by rw [hR,roots];exact Nat.le_trans (List.length_filter_le _ _) (by rw [List.length_range];exact Nat.le_refl _)
 have hRn:R.Nodup:=by rw [hR];exact nodup_sorted (roots_sorted _ _)
 have hRm:i∉R:=fun h=>by rw [hR] at h;have:=(mem_roots.1 h).1;omega
 rw [← hG,← hR]
 have hh1:Heap.get (uoH G.length R G v F) 1=some (sO v):=rfl
 have hh2:Heap.get (uoH G.length R G v F) 910=some (uO v):=rfl
 refine Sq<|Rg<|Dd lss'<|Zz<|Sq ?_
 refine Cn (fun hc10=>?_) fun hc10=>?_
 ·skip
  have hlt:i < l.length:=by have:=of_decide_eq_true hc10;omega
  refine awp_skip<|Sq<|awp_block<|Sq<|Rg<|Dd mv'<|Dd as'<|Zz<|Sq<|Rg<|Dd mv'<|Dd mv'<|Dd (by exact opr_call rfl rfl Tryz.call48 rfl (top_c v i _ hh1 hh2 hup (by omega) (by omega)))<|Dd as'<|Zz<|Sq<|Sq<|Rg<|Dd mv'<|Dd mv'<|Dd eql'<|Zz ?_
  refine Cn (fun hc11=>?_) fun hc11=>?_
  ·skip
   have hroot:top v i=i:=by have:=of_decide_eq_true hc11;omega
   obtain ⟨q1,q2⟩:=groups_root hle hroot
   rw [← hG] at q1
   rw [← hR] at q2
   have hput:mput (atL 0 R) (i:Int) (iv (G.length:Int))=atL 0 (R++[i]):=by
    have:=atL_put R 0 i hRm
    rw [Nat.zero_add,← hGR] at this
    exact this
   have hRn2:(R++[i]).Nodup:=List.nodup_append.2 ⟨hRn,by simp,fun a ha b hb e=>by
    rw [List.mem_singleton] at hb
    subst hb;subst e
    exact hRm ha⟩
   have hlk:(mget (atL 0 (R++[i])) (i:Int)).getD (iv 0)=iv (G.length:Int):=by
    rw [atL_get (R++[i]) 0 G.length i hRn2 (by rw [hGR,List.getElem?_append_right (Nat.le_refl _),Nat.sub_self];rfl),Nat.zero_add]
    rfl
   have hlen:(oRows 0 G++[[AV.pv .nils]]).length=G.length+1:=by rw [List.length_append,oRows_len];rfl
   have hnl:(oRows 0 G++[[AV.pv .nils]])[G.length]?=some [.pv .nils]:=by rw [List.getElem?_append_right (by rw [oRows_len];exact Nat.le_refl _),oRows_len,Nat.sub_self];rfl
   have hno:∀ (o1 o2:Ob),Heap.get ((905,o1)::(912,o2)::uoH G.length R G v F) (0+G.length+960)=none:=fun o1 o2=>by
    rw [get_cons_other _ _ (by omega),get_cons_other _ _ (by omega),uoH_get _ _ _ _ _ _ (by omega),List.getElem?_eq_none (by omega)]
    rfl
   rw [hroot]
   refine Sq<|Rg<|Dd mv'<|Dd mv'<|Dd mv'<|Dd (by exact opd_len_osl rfl Tryz.underlying33 rfl rfl rfl)<|Uu (by exact x_mapUpdate (κ:=intK .i64) (k:=(i:Int)) (l:=atL 0 R) (.inl rfl) Tryz.underlying85 Tryz.underlying3 rfl rfl rfl rfl rfl rfl rfl hput)<|Zz<|Rg<|Dd mv'<|Dd (by exact x_build_nils rfl so33)<|Dd (by exact x_append (ps:=[[.nils]]) rfl so33 ei42 rfl rfl rfl rfl rfl (oRows_len G 0) rfl (by intro r hr;rw [List.mem_singleton] at hr;subst hr;rfl) (m:=1) rfl (by omega) rfl rfl)<|Dd as'<|Zz ?_
   refine awp_drawc follows ?_
   refine Cr [905] (fun _ _=>mv')<|Cr [912] (fun _ _=>mv')<|Cr [] (fun _ _=>mv')<|Cr [912] (fun H1 hH=>by exact OpD.cv (opd_lookup (κ:=intK .i64) (k:=(i:Int)) (l:=atL 0 (R++[i])) rfl Tryz.underlying85 Tryz.underlying3 rfl ((hH _ rfl).trans rfl) rfl rfl rfl Tryz.zeroValue3 (.inl rfl)) hlk)<|Cr [905] (fun _ _=>mv')<|Cr [912] (fun _ _=>mv')<|Cr [] (fun _ _=>mv')<|Cr [912] (fun H1 hH=>by exact OpD.cv (opd_lookup (κ:=intK .i64) (k:=(i:Int)) (l:=atL 0 (R++[i])) rfl Tryz.underlying85 Tryz.underlying3 rfl ((hH _ rfl).trans rfl) rfl rfl rfl Tryz.zeroValue3 (.inl rfl)) hlk)<|Cr [905] (fun H1 hH=>by exact x_index_osl rfl so33 rfl ((hH _ rfl).trans rfl) rfl rfl rfl (by omega) (by exact Int.toNat_natCast _) (Nat.lt_succ_self _) (Nat.zero_add _))<|Cr [905] (fun H1 hH=>by exact opd_load1_ref rfl Tryz.isAgg42 rfl ((hH _ rfl).trans rfl) rfl hnl rfl)<|Cr [] (fun _ _=>mv')<|Cr [] (fun H1 hH=>by exact x_buildSlice [encInt (i:Int)] rfl so42 rfl rfl rfl rfl rfl (by intro r hr;rw [List.mem_singleton] at hr;subst hr;rfl)) ?_
   refine dc_cons (r:=⟨_,some [0+G.length+960],[_,_]⟩) (DStep.plain rfl (fun H1 hH=>by exact x_append_nils (t:=130) (id:=0+G.length+960) (ps:=[encInt (i:Int)]) rfl so42 ei3 rfl rfl (by intro r hr;rw [List.mem_singleton] at hr;subst hr;rfl) (m:=1) rfl (by decide) rfl ((hH _ (memB_iff.2 (List.mem_singleton.2 rfl))).trans (hno _ _)))) rfl ?_
   refine Cr [905] (fun H1 hH=>by exact x_index_osl rfl so33 rfl ((hH _ rfl).trans rfl) rfl rfl rfl (by omega) (by exact Int.toNat_natCast _) (Nat.lt_succ_self _) (Nat.zero_add _))<|Cp [905] (fun H1 hH=>by exact x_store1 rfl Tryz.sizeOf42 rfl rfl rfl ((hH _ rfl).trans (get_cons_other _ _ (by omega))) rfl hnl (by simp) rfl rfl) ?_
   refine dc_nil ⟨by kernel_rfl,?_⟩
   refine Rg<|Dd ad'<|Dd mv'<|Zz ?_
   refine⟨i+1,by omega,by omega,?_⟩
   dsimp only
   rw [q1,q2,List.length_append]
   exact Ent.get' ⟨⟨_,rfl,rfl⟩,⟨_,rfl,rfl⟩,⟨_,rfl,rfl⟩,⟨_,rfl,rfl⟩,⟨_,rfl,rfl⟩,⟨_,rfl,rfl⟩,trivial⟩ (fun j=>uoH_new j)
  skip
  have hroot:top v i≠i:=by have:=of_decide_eq_false hc11;omega
  obtain ⟨k,g,hk1,hk2,q1,q2⟩:=groups_in hle hid hroot
  rw [← hG] at hk1 q1
  rw [← hR] at hk2 q2
  have hkl:=(List.getElem?_eq_some_iff.1 hk1).1
  have hgl:g.length≤i:=by
   have h1:g∈groups (top v) i:=by rw [← hG];exact List.mem_of_getElem? hk1
   obtain ⟨r,_,rfl⟩:=List.mem_map.1 h1
   exact Nat.le_trans (List.length_filter_le _ _) (by rw [List.length_range];exact Nat.le_refl _)
  have hlk:(mget (atL 0 R) ((top v i:Nat):Int)).getD (iv 0)=iv (k:Int):=by
   rw [atL_get R 0 k _ hRn hk2,Nat.zero_add]
   rfl
  have hol:(oRows 0 G).length=G.length:=oRows_len G 0
  have hor:(oRows 0 G)[k]?=some [.osl (0+k+960) g.length 0 g.length]:=by rw [oRows_get,hk1];rfl
  have hfam:Heap.get (uoH G.length R G v F) (0+k+960)=some (gObU g):=by
   rw [uoH_get _ _ _ _ _ _ (by omega)]
   have e3:0+k+960 - 960=k:=by omega
   rw [e3,hk1]
   rfl
  refine awp_skip ?_
  refine awp_drawc follows ?_
  refine Cr [905] (fun _ _=>mv')<|Cr [912] (fun _ _=>mv')<|Cr [] (fun _ _=>mv')<|Cr [912] (fun H1 hH=>by exact OpD.cv (opd_lookup (κ:=intK .i64) (k:=((top v i:Nat):Int)) (l:=atL 0 R) rfl Tryz.underlying85 Tryz.underlying3 rfl ((hH _ rfl).trans rfl) rfl rfl rfl Tryz.zeroValue3 (.inl rfl)) hlk)<|Cr [905] (fun _ _=>mv')<|Cr [912] (fun _ _=>mv')<|Cr [] (fun _ _=>mv')<|Cr [912] (fun H1 hH=>by exact OpD.cv (opd_lookup (κ:=intK .i64) (k:=((top v i:Nat):Int)) (l:=atL 0 R) rfl Tryz.underlying85 Tryz.underlying3 rfl ((hH _ rfl).trans rfl) rfl rfl rfl Tryz.zeroValue3 (.inl rfl)) hlk)<|Cr [905] (fun H1 hH=>by exact x_index_osl rfl so33 rfl ((hH _ rfl).trans rfl) rfl rfl rfl (by omega) (by exact Int.toNat_natCast _) hkl (Nat.zero_add _))<|Cr [905] (fun H1 hH=>by exact opd_load1_ref rfl Tryz.isAgg42 rfl ((hH _ rfl).trans rfl) rfl hor rfl)<|Cr [] (fun _ _=>mv')<|Cr [] (fun H1 hH=>by exact x_buildSlice [encInt (i:Int)] rfl so42 rfl rfl rfl rfl rfl (by intro r hr;rw [List.mem_singleton] at hr;subst hr;rfl)) ?_
  refine Cp [0+k+960] (fun H1 hH=>by exact x_append (id:=0+k+960) (ps:=[encInt (i:Int)]) rfl so42 ei3 rfl ((hH _ (memB_iff.2 (List.mem_singleton.2 rfl))).trans hfam) rfl rfl rfl (iRows_len g) rfl (by intro r hr;rw [List.mem_singleton] at hr;subst hr;rfl) (m:=1) rfl (by omega) rfl (iRows_app g i))<|Cr [905] (fun H1 hH=>by exact x_index_osl rfl so33 rfl ((hH _ rfl).trans rfl) rfl rfl rfl (by omega) (by exact Int.toNat_natCast _) hkl (Nat.zero_add _))<|Cp [905] (fun H1 hH=>by exact x_store1 rfl Tryz.sizeOf42 rfl rfl rfl ((hH _ rfl).trans (get_cons_other _ _ (by omega))) rfl hor (by simp) rfl rfl) ?_
  refine dc_nil ⟨by kernel_rfl,?_⟩
  refine Rg<|Dd ad'<|Dd mv'<|Zz ?_
  refine⟨i+1,by omega,by omega,?_⟩
  dsimp only
  rw [q1,q2,List.length_set]
  exact Ent.get' ⟨⟨_,rfl,rfl⟩,⟨_,rfl,rfl⟩,⟨_,rfl,rfl⟩,⟨_,rfl,rfl⟩,⟨_,rfl,rfl⟩,⟨_,rfl,rfl⟩,trivial⟩ (fun j=>uoH_grow hk1 j)
 skip
 have hge:i=l.length:=by have:=of_decide_eq_false hc10;omega
 subst hge
 rw [← hG]
 refine awp_exit<|Sq ?_
 refine AWp.ent (uoH_drop (t:=16) _ _ _ _ _ rfl) ?_
 refine AWp.ent (fam_all G) ?_
 refine Rg<|Dd mv'<|Dd as'<|Zz<|awp_ret ?_
 refine aret1 (H':=[(905,oObU G.length (zRows G))]) (.inr rfl) rfl (rval_tmp rfl) Fin.refl ?_
 exact⟨rfl,rfl⟩
end
section
def okU (l:List GEdit):Prop:=∀ e∈l,okE e∧e.refs.length+e.obj.refs.length < 1099511627776
theorem zRows_pv (G:List (List Nat)):zRows G=(G.map encG).map (·.map .pv):=by rw [zRows,List.map_map];rfl
theorem unitsF_c (l:List GEdit) (he:okU l) (hl:l.length < 4611686018427387904) (hv:gChange l=false) (H:Heap):ACalls Tryz.prog 19 [.pv (slEdits l)] H (fun r H'=>r=.pv (slGroups (gUnits l))∧H'=H):=by
 refine ACalls.pure ?_ (by simp) H
 have hg:gUnits l=[]:=by rw [gUnits,if_neg (by rw [hv];decide)]
 rw [hg]
 refine Bd Tryz.func19 rfl Tryz.ntmps19<|Sq<|Rg<|Dd as'<|Zz<|Sq<|Sq<|Rg<|Dd mv'<|Dd (by exact opr_call rfl rfl Tryz.call15 rfl (changeValid_c l _ hl (fun e h=>(he e h).1)))<|Dd no'<|Zz ?_
 refine Cn (fun hc1=>?_) fun hc1=>?_
 ·skip
  refine Sq<|Rg<|Dd as'<|Zz<|awp_ret ?_
  refine Rt ?_
  exact⟨rfl,rfl⟩
 skip
 rw [hv] at hc1;cases hc1
theorem unitsT_c (l:List GEdit) (he:okU l) (hv:gChange l=true) (H:Heap):ACalls Tryz.prog 19 [.pv (slEdits l)] H (fun r H'=>r=.pv (slGroups (gUnits l))∧H'=H):=by
 refine ACalls.pure ?_ (by simp) H
 refine(units0_c l he hv).fin ?_
 rintro r H1 ⟨rfl,rfl⟩
 exact⟨_,_,Fin.slice0 ((gUnits l).map encG) rfl rfl (zRows_pv _) (List.length_map _),rfl,rfl⟩
theorem units_c (l:List GEdit) (he:okU l) (hl:l.length < 4611686018427387904) (H:Heap):ACalls Tryz.prog 19 [.pv (slEdits l)] H (fun r H'=>r=.pv (slGroups (gUnits l))∧H'=H):=by
 cases hv:gChange l with
 | true=>exact unitsT_c l he hv H
 | false=>exact unitsF_c l he hl hv H
end
section
theorem in12_c (l:List ByteArray) (s:ByteArray) (H:Heap) (hl:l.length < 4611686018427387904):ACalls Tryz.prog 59 [.pv (slStrs l),sv s] H (fun r H'=>r=bv (inB l s)∧H'=H):=by
 refine ACalls.pure ?_ (by simp) H
 have hml:(l.map encStr).length=l.length:=List.length_map _
 refine Bd Tryz.func59 rfl Tryz.ntmps59<|Sq<|Rg<|Dd as'<|Zz<|Sq<|Sq<|Rg<|Dd as'<|Zz<|awp_block ?_
 refine awp_loop (σ:=Nat) (fun k=>([(0,.pv (slStrs l)),(1,sv s),(5,iv (k:Int))],[])) (fun k=>k≤l.length∧∀ j,j < k→∀ b,l[j]?=some b→decide (b=s)=false) (fun k=>l.length - k) 0 ⟨by omega,by omega⟩ ?_ ?_
 ·exact Wk
 rintro k ⟨hk,hno⟩
 refine Sq<|Sq<|Rg<|Dd mv'<|Dd mv'<|Dd (ll' Tryz.underlying46)<|Dd lss'<|Zz ?_
 refine Cn (fun hc1=>?_) fun hc1=>?_
 ·have hlt:k < l.length:=by have:=of_decide_eq_true hc1;omega
  obtain ⟨o,ho⟩:=get_of_lt hlt
  have hi:=map_get (f:=encStr) ho
  refine awp_skip<|Sq<|awp_block<|Sq<|Rg<|Dd mv'<|Dd mv'<|Dd (xp' so46)<|Dd (lp' Tryz.isAgg9)<|Dd mv'<|Dd se'<|Zz ?_
  refine Cn (fun hc2=>?_) fun hc2=>?_
  ·skip
   refine Sq<|Rg<|Dd as'<|Zz<|awp_ret ?_
   refine Rt ?_
   exact⟨by rw [inB,any_some ho hc2],rfl⟩
  skip
  refine awp_skip<|Rg<|Dd mv'<|Dd ad'<|Dd as'<|Zz ?_
  exact⟨k+1,⟨by omega,pre_succ hno ho hc2⟩,by omega,Wk⟩
 have hge:k=l.length:=by have:=of_decide_eq_false hc1;omega
 subst hge
 refine awp_exit<|Sq<|Rg<|Dd as'<|Zz<|awp_ret ?_
 refine Rt ?_
 exact⟨by rw [inB,any_none hno],rfl⟩
end
section
def gBefore:List ByteArray→List ByteArray→Bool
 | [],b=>decide ((0:Int) < (b.length:Int))
 | _::_,[]=>false
 | x::a,y::b=>if x=y then gBefore a b else slt x y
theorem before_drop {a b:List ByteArray} {k:Nat} {x y:ByteArray} (hx:a[k]?=some x) (hy:b[k]?=some y):gBefore (a.drop k) (b.drop k)=if x=y then gBefore (a.drop (k+1)) (b.drop (k+1))else slt x y:=by
 obtain ⟨h1,e1⟩:=List.getElem?_eq_some_iff.1 hx
 obtain ⟨h2,e2⟩:=List.getElem?_eq_some_iff.1 hy
 rw [List.drop_eq_getElem_cons h1,List.drop_eq_getElem_cons h2,e1,e2,gBefore]
theorem before_end {a b:List ByteArray} {k:Nat} (ha:k≤a.length) (hb:k≤b.length) (h:¬ (k < a.length∧k < b.length)):gBefore (a.drop k) (b.drop k)=decide ((a.length:Int) < (b.length:Int)):=by
 by_cases e:k=a.length
 ·rw [List.drop_eq_nil_of_le (by omega),gBefore,List.length_drop]
  congr 1
  exact propext ⟨fun h=>by omega,fun h=>by omega⟩
 have hb':k=b.length:=by omega
 have h1:k < a.length:=by omega
 rw [List.drop_eq_getElem_cons h1,show b.drop k=[] from List.drop_eq_nil_of_le (by omega),gBefore]
 exact(decide_eq_false (by omega)).symm
theorem before_c (a b:List ByteArray) (H:Heap) (ha:a.length < 4611686018427387904) (hb:b.length < 4611686018427387904):ACalls Tryz.prog 114 [.pv (slStrs a),.pv (slStrs b)] H (fun r H'=>r=bv (gBefore a b)∧H'=H):=by
 refine ACalls.pure ?_ (by simp) H
 have hma:(a.map encStr).length=a.length:=List.length_map _
 have hmb:(b.map encStr).length=b.length:=List.length_map _
 refine Bd Tryz.func114 rfl Tryz.ntmps114<|Sq<|Rg<|Dd as'<|Zz<|Sq<|Sq<|Rg<|Dd as'<|Zz<|awp_block ?_
 refine awp_loop (σ:=Nat) (fun k=>([(0,.pv (slStrs a)),(1,.pv (slStrs b)),(5,iv (k:Int))],[])) (fun k=>k≤a.length∧k≤b.length∧gBefore (a.drop k) (b.drop k)=gBefore a b) (fun k=>a.length - k) 0 ⟨by omega,by omega,rfl⟩ ?_ ?_
 ·exact Wk
 rintro k ⟨hka,hkb,hno⟩
 refine Sq<|Sq ?_
 refine awp_bool (t:=15) (n:=11) (X:=decide ((k:Int) < ((a.map encStr).length:Int))&&decide ((k:Int) < ((b.map encStr).length:Int))) ?_ ?_
 ·all_goals refine Dd mv' ?_
  all_goals refine Dd mv' ?_
  all_goals refine Dd (ll' Tryz.underlying46) ?_
  all_goals refine Dd lss' ?_
  all_goals refine Dd mv' ?_
  all_goals refine Sp 10 (fun h10=>?_) fun h10=>?_
  all_goals try contradiction
  all_goals first|refine Fo ?_|refine On mv' ?_
  all_goals first|refine Fo ?_|refine On mv' ?_
  all_goals first|refine Fo ?_|refine On (ll' Tryz.underlying46) ?_
  all_goals first|refine Fo ?_|refine On lss' ?_
  all_goals refine Dd pk' ?_
  all_goals refine al_nil ?_
  all_goals(exact⟨⟨_,rfl,by first|(simp_all;done)|(simp_all;omega)⟩,rfl,rfl,rfl⟩)
 refine Cn (fun hc1=>?_) fun hc1=>?_
 ·have hlt:k < a.length∧k < b.length:=by
   simp only [Bool.and_eq_true,decide_eq_true_eq] at hc1
   omega
  obtain ⟨x,hx⟩:=get_of_lt hlt.1
  obtain ⟨y,hy⟩:=get_of_lt hlt.2
  have hi:=map_get (f:=encStr) hx
  have hj:=map_get (f:=encStr) hy
  rw [before_drop hx hy] at hno
  refine awp_skip<|Sq<|awp_block<|Sq ?_
  refine awp_drawc follows ?_
  refine Cq mv'<|Cq mv'<|Cq (xp' so46)<|Cq (lp' Tryz.isAgg9)<|Cq mv'<|Cq mv'<|Cq (xp' so46)<|Cq (lp' Tryz.isAgg9)<|Cq sn' ?_
  refine dc_nil ⟨by kernel_rfl,?_⟩
  refine Cn (fun hc2=>?_) fun hc2=>?_
  ·have hne:¬ (x=y):=by simpa using hc2
   rw [if_neg hne] at hno
   refine Sq ?_
   refine awp_drawc follows ?_
   refine Cq mv'<|Cq mv'<|Cq (xp' so46)<|Cq (lp' Tryz.isAgg9)<|Cq mv'<|Cq mv'<|Cq (xp' so46)<|Cq (lp' Tryz.isAgg9)<|Cq (by exact opd_slss rfl rfl rfl)<|Cq as' ?_
   refine dc_nil ⟨by kernel_rfl,?_⟩
   refine awp_ret ?_
   refine Rt ?_
   exact⟨by rw [← hno],rfl⟩
  have he:x=y:=by simpa using hc2
  rw [if_pos he] at hno
  refine awp_skip<|Rg<|Dd mv'<|Dd ad'<|Dd as'<|Zz ?_
  exact⟨k+1,⟨by omega,by omega,hno⟩,by omega,Wk⟩
 have hge:¬ (k < a.length∧k < b.length):=by
  intro h
  simp only [Bool.and_eq_false_iff,decide_eq_false_iff_not] at hc1
  omega
 rw [before_end hka hkb hge] at hno
 refine awp_exit<|Sq<|Rg<|Dd mv'<|Dd (ll' Tryz.underlying46)<|Dd mv'<|Dd (ll' Tryz.underlying46)<|Dd lss'<|Dd as'<|Zz<|awp_ret ?_
 refine Rt ?_
 exact⟨by rw [← hno,hma,hmb],rfl⟩
def gIds (a b:List ByteArray):Bool:=!gBefore a b&&!gBefore b a
theorem ids_c (a b:List ByteArray) (H:Heap) (ha:a.length < 4611686018427387904) (hb:b.length < 4611686018427387904):ACalls Tryz.prog 57 [.pv (slStrs a),.pv (slStrs b)] H (fun r H'=>r=bv (gIds a b)∧H'=H):=by
 refine ACalls.pure ?_ (by simp) H
 refine Bd Tryz.func57 rfl Tryz.ntmps57<|Sq<|Rg<|Dd as'<|Zz<|Sq ?_
 refine awp_bool (t:=4) (n:=12) (X:=gIds a b) ?_ ?_
 ·all_goals refine Dd mv' ?_
  all_goals refine Dd mv' ?_
  all_goals refine Dd (by exact opr_call rfl rfl Tryz.call114 rfl (before_c a b _ ha hb)) ?_
  all_goals refine Dd no' ?_
  all_goals refine Dd mv' ?_
  all_goals refine Sp 9 (fun h9=>?_) fun h9=>?_
  all_goals try contradiction
  all_goals first|refine Fo ?_|refine On mv' ?_
  all_goals first|refine Fo ?_|refine On mv' ?_
  all_goals first|refine Fo ?_|refine On (by exact opr_call rfl rfl Tryz.call114 rfl (before_c b a _ hb ha)) ?_
  all_goals first|refine Fo ?_|refine On no' ?_
  all_goals refine Dd pk' ?_
  all_goals refine Dd as' ?_
  all_goals refine al_nil ?_
  all_goals(exact⟨⟨_,rfl,by(simp only [gIds, *];rfl)⟩,rfl,rfl,rfl⟩)
 refine awp_ret ?_
 refine Rt ?_
 exact⟨rfl,rfl⟩
end
section
theorem gBefore_self (a:List ByteArray):gBefore a a=false:=by
 induction a with
 | nil=>rfl
 | cons x a ih=>rw [gBefore,if_pos rfl];exact ih
theorem gBefore_tri:∀ {a b:List ByteArray},gBefore a b=false→gBefore b a=false→a=b
 | [],[],_,_=>rfl
 | [],y::b,h,_=>by simp [gBefore] at h
 | x::a,[],_,h=>by simp [gBefore] at h
 | x::a,y::b,h1,h2=>by
  rw [gBefore] at h1 h2
  by_cases e:x=y
  ·subst e
   rw [if_pos rfl] at h1 h2
   rw [gBefore_tri h1 h2]
  rw [if_neg e] at h1
  rw [if_neg (fun h=>e h.symm)] at h2
  exact absurd (slt_tri h1 h2) e
theorem gIds_eq (a b:List ByteArray):gIds a b=true↔a=b:=by
 constructor
 ·intro h
  simp only [gIds,Bool.and_eq_true,Bool.not_eq_true'] at h
  exact gBefore_tri h.1 h.2
 rintro rfl
 simp [gIds,gBefore_self]
end
section
def sameE22 (a b:GEdit):Bool:=((((((((decide (a.op=b.op)&&decide (a.id=b.id))&&decide (a.other=b.other))&&decide (a.node=b.node))&&(decide (a.x=b.x)&&decide (a.y=b.y)))&&decide (a.key=b.key))&&decide (a.val=b.val))&&gIds a.refs b.refs)&&gSameO a.obj b.obj)
theorem sameE22_iff {a b:GEdit}:sameE22 a b=true↔a=b:=by
 obtain ⟨a1,a2,a3,a4,a5,a6,a7,a8,a9,a10⟩:=a
 obtain ⟨b1,b2,b3,b4,b5,b6,b7,b8,b9,b10⟩:=b
 simp only [sameE22,Bool.and_eq_true,decide_eq_true_eq,gIds_eq,gSameO_iff,GEdit.mk.injEq,and_assoc]
instance decE22:DecidableEq GEdit:=fun a b=>decidable_of_iff (sameE22 a b=true) sameE22_iff
theorem sameE22_eq (a b:GEdit):sameE22 a b=decide (a=b):=by rw [Bool.eq_iff_iff,sameE22_iff,decide_eq_true_eq]
theorem same22_c (a b:GEdit) (H:Heap) (ha:okE a) (hb:okE b):ACalls Tryz.prog 29 [av (encEdit a),av (encEdit b)] H (fun r H'=>r=bv (decide (a=b))∧H'=H):=by
 refine ACalls.pure ?_ (by simp) H
 rw [← sameE22_eq]
 refine Bd Tryz.func29 rfl Tryz.ntmps29<|Sq<|Rg<|Dd (by exact opd_box (id:=2) rfl rfl rfl rfl rfl)<|Dd (by exact opd_box (id:=3) rfl rfl rfl rfl rfl)<|Dd as'<|Zz<|Sq ?_
 refine awp_bool (t:=4) (n:=70) (X:=sameE22 a b) ?_ ?_
 ·all_goals refine Dd (fr' fo51_0) ?_
  all_goals refine Dd (l1' Tryz.isAgg3) ?_
  all_goals refine Dd (fr' fo51_0) ?_
  all_goals refine Dd (l1' Tryz.isAgg3) ?_
  all_goals refine Dd eql' ?_
  all_goals refine Dd mv' ?_
  all_goals refine Sp 10 (fun h10=>?_) fun h10=>?_
  all_goals try contradiction
  all_goals first|refine Fo ?_|refine On (fr' fo51_1) ?_
  all_goals first|refine Fo ?_|refine On (l1' Tryz.isAgg9) ?_
  all_goals first|refine Fo ?_|refine On (fr' fo51_1) ?_
  all_goals first|refine Fo ?_|refine On (l1' Tryz.isAgg9) ?_
  all_goals first|refine Fo ?_|refine On se' ?_
  all_goals refine Dd pk' ?_
  all_goals refine Dd mv' ?_
  all_goals refine Sp 17 (fun h17=>?_) fun h17=>?_
  all_goals try contradiction
  all_goals first|refine Fo ?_|refine On (fr' fo51_2) ?_
  all_goals first|refine Fo ?_|refine On (l1' Tryz.isAgg9) ?_
  all_goals first|refine Fo ?_|refine On (fr' fo51_2) ?_
  all_goals first|refine Fo ?_|refine On (l1' Tryz.isAgg9) ?_
  all_goals first|refine Fo ?_|refine On se' ?_
  all_goals refine Dd pk' ?_
  all_goals refine Dd mv' ?_
  all_goals refine Sp 24 (fun h24=>?_) fun h24=>?_
  all_goals try contradiction
  all_goals first|refine Fo ?_|refine On (fr' fo51_3) ?_
  all_goals first|refine Fo ?_|refine On (l1' Tryz.isAgg9) ?_
  all_goals first|refine Fo ?_|refine On (fr' fo51_3) ?_
  all_goals first|refine Fo ?_|refine On (l1' Tryz.isAgg9) ?_
  all_goals first|refine Fo ?_|refine On se' ?_
  all_goals refine Dd pk' ?_
  all_goals refine Dd mv' ?_
  all_goals refine Sp 31 (fun h31=>?_) fun h31=>?_
  all_goals try contradiction
  all_goals first|refine Fo ?_|refine On (fr' fo51_4) ?_
  all_goals first|refine Fo ?_|refine On (by exact opd_loadn_ref rfl Tryz.isAgg45 Tryz.sizeOf45 rfl rfl rfl rfl (by simp only [Zl,encTag,encObj,encStr,encEdit,encInt];rfl) rfl) ?_
  all_goals first|refine Fo ?_|refine On (fr' fo51_4) ?_
  all_goals first|refine Fo ?_|refine On (by exact opd_loadn_ref rfl Tryz.isAgg45 Tryz.sizeOf45 rfl rfl rfl rfl (by simp only [Zl,encTag,encObj,encStr,encEdit,encInt];rfl) rfl) ?_
  all_goals first|refine Fo ?_|refine On (by exact opd_aeql rfl rfl rfl rfl rfl Tryz.eqGuardType45 (se45 _ _ _ _)) ?_
  all_goals refine Dd pk' ?_
  all_goals refine Dd mv' ?_
  all_goals refine Sp 38 (fun h38=>?_) fun h38=>?_
  all_goals try contradiction
  all_goals first|refine Fo ?_|refine On (fr' fo51_5) ?_
  all_goals first|refine Fo ?_|refine On (l1' Tryz.isAgg9) ?_
  all_goals first|refine Fo ?_|refine On (fr' fo51_5) ?_
  all_goals first|refine Fo ?_|refine On (l1' Tryz.isAgg9) ?_
  all_goals first|refine Fo ?_|refine On se' ?_
  all_goals refine Dd pk' ?_
  all_goals refine Dd mv' ?_
  all_goals refine Sp 45 (fun h45=>?_) fun h45=>?_
  all_goals try contradiction
  all_goals first|refine Fo ?_|refine On (fr' fo51_6) ?_
  all_goals first|refine Fo ?_|refine On (l1' Tryz.isAgg9) ?_
  all_goals first|refine Fo ?_|refine On (fr' fo51_6) ?_
  all_goals first|refine Fo ?_|refine On (l1' Tryz.isAgg9) ?_
  all_goals first|refine Fo ?_|refine On se' ?_
  all_goals refine Dd pk' ?_
  all_goals refine Dd mv' ?_
  all_goals refine Sp 52 (fun h52=>?_) fun h52=>?_
  all_goals try contradiction
  all_goals first|refine Fo ?_|refine On (fr' fo51_7) ?_
  all_goals first|refine Fo ?_|refine On (l1' Tryz.isAgg46) ?_
  all_goals first|refine Fo ?_|refine On (fr' fo51_7) ?_
  all_goals first|refine Fo ?_|refine On (l1' Tryz.isAgg46) ?_
  all_goals first|refine Fo ?_|refine On (by exact opr_call rfl rfl Tryz.call57 rfl (ids_c a.refs b.refs _ ha.2.1.1 hb.2.1.1)) ?_
  all_goals refine Dd pk' ?_
  all_goals refine Dd mv' ?_
  all_goals refine Sp 59 (fun h59=>?_) fun h59=>?_
  all_goals try contradiction
  all_goals first|refine Fo ?_|refine On (fr' fo51_8) ?_
  all_goals first|refine Fo ?_|refine On (by exact opd_loadn_ref rfl Tryz.isAgg49 Tryz.sizeOf49 rfl rfl rfl rfl (by simp only [Zl,encTag,encObj,encStr,encEdit,encInt];rfl) rfl) ?_
  all_goals first|refine Fo ?_|refine On (fr' fo51_8) ?_
  all_goals first|refine Fo ?_|refine On (by exact opd_loadn_ref rfl Tryz.isAgg49 Tryz.sizeOf49 rfl rfl rfl rfl (by simp only [Zl,encTag,encObj,encStr,encEdit,encInt];rfl) rfl) ?_
  all_goals first|refine Fo ?_|refine On (by exact opr_call rfl rfl Tryz.call66 rfl (rSame_c a.obj b.obj _ ha.2.2.2.2.1 ha.2.2.2.1.1)) ?_
  all_goals refine Dd pk' ?_
  all_goals refine Dd as' ?_
  all_goals refine al_nil ?_
  all_goals(exact⟨⟨_,rfl,by(simp only [sameE22, *];rfl)⟩,rfl,rfl,rfl⟩)
 refine awp_ret ?_
 refine Rt ?_
 exact⟨rfl,rfl⟩
theorem okE_put {op:Int} {a:GObj} (ha:okO a):okE ⟨op,sNil,sNil,sNil,0,0,sNil,sNil,[],a⟩:=⟨⟨(by decide:sNil.size < 4611686018427387904),(by decide:sNil.size < 4611686018427387904),(by decide:sNil.size < 4611686018427387904),(by decide:sNil.size < 4611686018427387904)⟩,⟨Nat.zero_lt_succ _,fun s h=>by cases h⟩,ha⟩
theorem all22_c (l m:List GEdit) (H:Heap) (hl:l.length < 4611686018427387904) (ho:∀ e∈l,okE e) (hm:∀ e∈m,okE e):ACalls Tryz.prog 17 [.pv (slEdits l),.pv (slEdits m)] H (fun r H'=>r=bv (decide (l=m))∧H'=H):=by
 refine ACalls.pure ?_ (by simp) H
 have hml:(l.map encEdit).length=l.length:=List.length_map _
 have hmm:(m.map encEdit).length=m.length:=List.length_map _
 refine Bd Tryz.func17 rfl Tryz.ntmps17<|Sq<|Rg<|Dd as'<|Zz<|Sq<|Sq<|Rg<|Dd mv'<|Dd (ll' Tryz.underlying22)<|Dd mv'<|Dd (ll' Tryz.underlying22)<|Dd ne'<|Zz ?_
 refine Cn (fun hc1=>?_) fun hc1=>?_
 ·skip
  have hne:¬ l=m:=fun e=>by have h:=hc1;rw [hml,hmm,e] at h;simp at h
  rw [decide_eq_false hne]
  refine Sq<|Rg<|Dd as'<|Zz<|awp_ret ?_
  refine Rt ?_
  exact⟨rfl,rfl⟩
 skip
 have hle:l.length=m.length:=by have h:=hc1;rw [hml,hmm] at h;simp at h;omega
 refine awp_skip<|Sq<|Sq<|Rg<|Dd as'<|Zz<|awp_block ?_
 refine awp_loop (σ:=Nat) (fun k=>([(0,.pv (slEdits l)),(1,.pv (slEdits m)),(5,iv (k:Int))],[])) (fun k=>k≤l.length∧∀ j,j < k→l[j]?=m[j]?) (fun k=>l.length - k) 0 ⟨Nat.zero_le _,fun j h=>by omega⟩ ?_ ?_
 ·exact E0
 rintro k ⟨hk,hall⟩
 refine Sq<|Sq<|Rg<|Dd mv'<|Dd mv'<|Dd (ll' Tryz.underlying22)<|Dd lss'<|Zz ?_
 refine Cn (fun hc2=>?_) fun hc2=>?_
 ·skip
  have hlt:k < l.length:=by have:=of_decide_eq_true hc2;omega
  obtain ⟨x,hx⟩:=get_of_lt hlt
  obtain ⟨y,hy⟩:=get_of_lt (show k < m.length by omega)
  have hix:=map_get (f:=encEdit) hx
  have hiy:=map_get (f:=encEdit) hy
  refine awp_skip<|Sq<|awp_block<|Sq ?_
  refine awp_drawc follows ?_
  refine Cq mv'<|Cq mv'<|Cq (xp' so22)<|Cq (by exact opd_loadn_pad rfl Tryz.isAgg51 Tryz.sizeOf51 rfl (by omega) (by simp only [Zl,encTag,encObj,encStr,encEdit,encInt];rfl) rfl)<|Cq mv'<|Cq mv'<|Cq (xp' so22)<|Cq (by exact opd_loadn_pad rfl Tryz.isAgg51 Tryz.sizeOf51 rfl (by omega) (by simp only [Zl,encTag,encObj,encStr,encEdit,encInt];rfl) rfl)<|Cq (by exact opr_call rfl rfl Tryz.call29 rfl (same22_c x y _ (ho x (List.mem_of_getElem? hx)) (hm y (List.mem_of_getElem? hy))))<|Cq no' ?_
  refine dc_nil ⟨by kernel_rfl,?_⟩
  refine Cn (fun hc3=>?_) fun hc3=>?_
  ·skip
   have hxy:¬ x=y:=by have h:=hc3;simpa using h
   have hne:¬ l=m:=fun e=>by rw [e,hy] at hx;exact hxy (Option.some.inj hx).symm
   rw [decide_eq_false hne]
   refine Sq<|Rg<|Dd as'<|Zz<|awp_ret ?_
   refine Rt ?_
   exact⟨rfl,rfl⟩
  skip
  have hxy:x=y:=by have h:=hc3;simpa using h
  refine awp_skip<|Rg<|Dd mv'<|Dd ad'<|Dd as'<|Zz ?_
  refine⟨k+1,⟨by omega,fun j hj=>?_⟩,by omega,E0⟩
  by_cases e:j=k
  ·subst e;rw [hx,hy,hxy]
  exact hall j (by omega)
 skip
 have hge:k=l.length:=by have:=of_decide_eq_false hc2;omega
 subst hge
 have heq:l=m:=List.ext_getElem? fun j=>by
  by_cases h:j < l.length
  ·exact hall j h
  rw [List.getElem?_eq_none (by omega),List.getElem?_eq_none (by omega)]
 rw [decide_eq_true heq]
 refine awp_exit<|Sq<|Rg<|Dd as'<|Zz<|awp_ret ?_
 refine Rt ?_
 exact⟨rfl,rfl⟩
theorem okObj_O {o:GObj} (h:okO o):okObj o:=⟨h.2.2.1,h.2.1.1⟩
def gFewC (a b:List GObj):Bool:=few13 a 24&&few13 b 24
theorem fewC_c (a b:List GObj) (H:Heap) (ha:okM a) (hb:okM b):ACalls Tryz.prog 21 [.agg [.pv (slObjs a)],.agg [.pv (slObjs b)]] H (fun r H'=>r=bv (gFewC a b)∧H'=H):=by
 refine ACalls.pure ?_ (by simp) H
 refine Bd Tryz.func21 rfl Tryz.ntmps21<|Sq<|Rg<|Dd (by exact opd_box (id:=2) rfl rfl rfl rfl rfl)<|Dd (by exact opd_box (id:=3) rfl rfl rfl rfl rfl)<|Dd as'<|Zz<|Sq ?_
 refine awp_bool (t:=4) (n:=8) (X:=gFewC a b) ?_ ?_
 ·all_goals refine Dd (by exact opd_loadn_ref rfl Tryz.isAgg38 Tryz.sizeOf38 rfl rfl rfl rfl (by simp only [Zl,encTag,encObj,encStr,encEdit,encInt];rfl) rfl) ?_
  all_goals refine Dd (by exact opr_call rfl rfl Tryz.call50 rfl (few13_c a 24 _ ha.1 (fun o h=>okObj_O (ha.2 o h)))) ?_
  all_goals refine Dd mv' ?_
  all_goals refine Sp 7 (fun h7=>?_) fun h7=>?_
  all_goals try contradiction
  all_goals first|refine Fo ?_|refine On (by exact opd_loadn_ref rfl Tryz.isAgg38 Tryz.sizeOf38 rfl rfl rfl rfl (by simp only [Zl,encTag,encObj,encStr,encEdit,encInt];rfl) rfl) ?_
  all_goals first|refine Fo ?_|refine On (by exact opr_call rfl rfl Tryz.call50 rfl (few13_c b 24 _ hb.1 (fun o h=>okObj_O (hb.2 o h)))) ?_
  all_goals refine Dd pk' ?_
  all_goals refine Dd as' ?_
  all_goals refine al_nil ?_
  all_goals(exact⟨⟨_,rfl,by(simp only [gFewC, *];rfl)⟩,rfl,rfl,rfl⟩)
 refine awp_ret ?_
 refine Rt ?_
 exact⟨rfl,rfl⟩
def ndO (s:ByteArray) (x:Int):GObj:=⟨s,1,x,0,[],[]⟩
theorem node_c (s:ByteArray) (x:Int) (H:Heap):ACalls Tryz.prog 30 [sv s,iv x] H (fun r H'=>r=av (encObj (ndO s x))∧H'=H):=by
 refine ACalls.pure ?_ (by simp) H
 refine Bd Tryz.func30 rfl Tryz.ntmps30<|Sq<|Rg<|Dd (by exact x_alloc (id:=4) rfl zo49 rfl rfl)<|Zz<|Sq<|Rg<|Dd mv'<|Dd mv'<|Dd (bu' bo45)<|Dd (bu' bo49)<|Uu (sa' Tryz.sizeOf49)<|Zz<|awp_ret ?_
 refine aret1 (H':=[]) (.inr rfl) rfl (rl' Tryz.isAgg49 Tryz.sizeOf49) (Fin.wk (r:=av (encObj (ndO s x))) (by simp) trivial trivial) ?_
 exact⟨rfl,rfl⟩
end
section
theorem rLayer_c (o:GObj) (H:Heap) (hk:1≤o.kind∧o.kind≤5):ACalls Tryz.prog 61 [av (encObj o)] H (fun r H'=>r=iv (o.kind.tdiv 2)∧H'=H):=by
 refine ACalls.pure ?_ (by simp) H
 have h3:o.kind=1∨o.kind=2∨o.kind=3∨o.kind=4∨o.kind=5:=by omega
 have hw:IntKind.i64.wrap (o.kind.tdiv 2)=o.kind.tdiv 2:=by rcases h3 with e|e|e|e|e<;>rw [e]<;>decide
 refine Bd Tryz.func61 rfl Tryz.ntmps61<|Sq<|Rg<|Dd (by exact opd_box (id:=1) rfl rfl rfl rfl rfl)<|Dd as'<|Zz<|Sq<|Rg<|Dd (fr' fo49_1)<|Dd (l1' Tryz.isAgg3)<|Dd (by exact opd_quo rfl rfl rfl (by decide) hw)<|Dd as'<|Zz<|awp_ret ?_
 refine Rt ?_
 exact⟨rfl,rfl⟩
def dpQ (b:List GObj) (X:List ByteArray) (c:Bool) (z:Int) (o:GObj):Bool:=decide (o.kind.tdiv 2=z)&&(c&&inB X o.id||!c&&(!inB X o.id&&(look b o.id).isNone))
def dpA (a b:List GObj) (X:List ByteArray) (c:Bool) (t i:Nat):List GEdit:=(((zs true).take t).flatMap fun z=>(a.filter (dpQ b X c z)).map fun o=>dropE o.id)++(((a.take i).filter (dpQ b X c (2 - (t:Int)))).map fun o=>dropE o.id)
def dropR (a b:List GObj) (X:List ByteArray) (c:Bool):List GEdit:=(zs true).flatMap fun z=>(a.filter (dpQ b X c z)).map fun o=>dropE o.id
theorem dpA_next {a b:List GObj} {X:List ByteArray} {c:Bool} {t i:Nat} {o:GObj} (h:a[i]?=some o):dpA a b X c t (i+1)=dpA a b X c t i++(if dpQ b X c (2 - (t:Int)) o then[dropE o.id] else[]):=by
 rw [dpA,dpA,List.take_add_one,h,Option.toList_some,List.filter_append,List.map_append,List.append_assoc]
 congr 2
 cases e:dpQ b X c (2 - (t:Int)) o<;>simp [e]
theorem dpA_row {a b:List GObj} {X:List ByteArray} {c:Bool} {t:Nat} (h:t < 3):dpA a b X c t a.length=dpA a b X c (t+1) 0:=by
 have hz:(zs true)[t]?=some (2 - (t:Int)):=by
  have h3:t=0∨t=1∨t=2:=by omega
  rcases h3 with rfl|rfl|rfl<;>rfl
 rw [dpA,dpA,List.take_length,List.take_add_one,hz,Option.toList_some,List.flatMap_append,List.take_zero]
 simp
theorem dpA_all (a b:List GObj) (X:List ByteArray) (c:Bool):dpA a b X c 3 0=dropR a b X c:=by
 rw [dpA,dropR,List.take_zero]
 show _++[]=_
 rw [List.append_nil]
 rfl
theorem dpA_len (a b:List GObj) (X:List ByteArray) (c:Bool) {t i:Nat} (ht:t≤3) (hi:i≤a.length):(dpA a b X c t i).length≤4*a.length:=by
 have hf:∀ (L:List GObj) (z:Int),((L.filter (dpQ b X c z)).map fun o=>dropE o.id).length≤L.length:=fun L z=>by rw [List.length_map];exact List.length_filter_le _ _
 have h1:∀ Z:List Int,(Z.flatMap fun z=>(a.filter (dpQ b X c z)).map fun o=>dropE o.id).length≤Z.length*a.length:=by
  intro Z
  induction Z with
  | nil=>exact Nat.zero_le _
  | cons z Z ih =>
   rw [List.flatMap_cons,List.length_append,List.length_cons,Nat.add_mul]
   have:=hf a z
   omega
 have h2:=h1 ((zs true).take t)
 have h3:((zs true).take t).length*a.length≤3*a.length:=Nat.mul_le_mul_right _ (by rw [List.length_take];exact Nat.le_trans (Nat.min_le_right _ _) (Nat.le_refl 3))
 have h4:=hf (a.take i) (2 - (t:Int))
 rw [dpA,List.length_append]
 rw [List.length_take] at h4
 omega
theorem rLook {b:List GObj} {s:ByteArray}:decide (gidx (idIs s) b < 0)=(look b s).isNone:=by
 rcases gidx_cases (idIs s) b with⟨e1,e2⟩|⟨k,o,e1,e2,e3⟩
 ·rw [e1,show look b s=none from e2];rfl
 rw [e1,show look b s=some o from e3]
 exact decide_eq_false (by omega)
theorem drops_c (a b:List GObj) (X:List ByteArray) (c:Bool) (H:Heap) (ha:a.length < 1000000000) (hb:b.length < 1000000000) (hX:X.length < 1000000000) (hk:∀ o∈a,1≤o.kind∧o.kind≤5) :
  ACalls Tryz.prog 60 [.agg [.pv (slObjs a)],.agg [.pv (slObjs b)],.pv (slStrs X),bv c] H (fun r H'=>r=.pv (slEdits (dropR a b X c))∧H'=H):=by
 refine ACalls.pure ?_ (by simp) H
 have hma:(a.map encObj).length=a.length:=List.length_map _
 refine Bd Tryz.func60 rfl Tryz.ntmps60<|Sq<|Rg<|Dd (by exact opd_box (id:=4) rfl rfl rfl rfl rfl)<|Dd (by exact opd_box (id:=5) rfl rfl rfl rfl rfl)<|Dd as'<|Zz<|Sq<|Rg<|Dd (by exact opd_assign_own (id:=905) (sz:=15) (ty:=51) rfl rfl rfl)<|Zz<|Sq<|Sq<|Rg<|Dd as'<|Zz<|awp_block ?_
 refine awp_loop (σ:=Nat) (fun t=>([(2,.pv (slStrs X)),(3,bv c),(4,.ref 4 0 0 0),(5,.ref 5 0 0 0),(9,.osl 905 (dpA a b X c t 0).length 0 (dpA a b X c t 0).length),(10,iv (2 - (t:Int)))],[(905,⟨(dpA a b X c t 0).length,15,51,eRows (dpA a b X c t 0)⟩),(5,mB b),(4,mB a)])) (fun t=>t≤3) (fun t=>3 - t) 0 (Nat.zero_le _) ?_ ?_
 ·exact(Ent.wk (Eb<|Eb<|Ea<|Ea<|Ea<|Eb<|trivial) (Hc (eRows_clo _ _)<|Hc (mB_clo _ _)<|Hc (mB_clo _ _)<|trivial) trivial)
 rintro t ht
 refine Sq<|Sq<|Rg<|Dd mv'<|Dd ge'<|Zz ?_
 refine Cn (fun hc1=>?_) fun hc1=>?_
 ·skip
  have htl:t < 3:=by have:=of_decide_eq_true hc1;omega
  have hrow:=dpA_row (a:=a) (b:=b) (X:=X) (c:=c) htl
  refine awp_skip<|Sq<|awp_block<|Sq<|Rg<|Dd as'<|Zz<|awp_block ?_
  refine awp_loop (σ:=Nat) (fun i=>([(2,.pv (slStrs X)),(3,bv c),(4,.ref 4 0 0 0),(5,.ref 5 0 0 0),(9,.osl 905 (dpA a b X c t i).length 0 (dpA a b X c t i).length),(10,iv (2 - (t:Int))),(11,iv (i:Int))],[(905,⟨(dpA a b X c t i).length,15,51,eRows (dpA a b X c t i)⟩),(5,mB b),(4,mB a)])) (fun i=>i≤a.length) (fun i=>a.length - i) 0 (Nat.zero_le _) ?_ ?_
  ·exact(Ent.wk (Eb<|Eb<|Ea<|Ea<|Ea<|Eb<|Eb<|trivial) (Hc (eRows_clo _ _)<|Hc (mB_clo _ _)<|Hc (mB_clo _ _)<|trivial) trivial)
  rintro i hi
  have hTs:=dpA_len a b X c (t:=t) (i:=i) ht hi
  refine Sq<|Sq<|Rg<|Dd mv'<|Dd (fr' fo38_0)<|Dd (l1' Tryz.isAgg36)<|Dd (ll' Tryz.underlying36)<|Dd lss'<|Zz ?_
  refine Cn (fun hc2=>?_) fun hc2=>?_
  ·skip
   have hil:i < a.length:=by have:=of_decide_eq_true hc2;omega
   obtain ⟨o,ho⟩:=get_of_lt hil
   have hio:=map_get (f:=encObj) ho
   have hkk:=hk o (List.mem_of_getElem? ho)
   have hnx:=dpA_next (b:=b) (X:=X) (c:=c) (t:=t) ho
   have hlk:=rLook (b:=b) (s:=o.id)
   refine awp_skip<|Sq<|awp_block<|Sq<|Rg<|Dd (fr' fo38_0)<|Dd (l1' Tryz.isAgg36)<|Dd mv'<|Dd (xp' so36)<|Dd (by exact opd_loadn_pad rfl Tryz.isAgg49 Tryz.sizeOf49 rfl (by omega) (by simp only [Zl,encTag,encObj,encStr,encEdit,encInt];rfl) rfl)<|Dd (by exact x_alloc (id:=12) rfl zo49 rfl rfl)<|Uu (sa' Tryz.sizeOf49)<|Zz<|Sq<|Rg<|Dd mv'<|Dd (fr' fo49_0)<|Dd (l1' Tryz.isAgg9)<|Dd (by exact opr_call rfl rfl Tryz.call59 rfl (in12_c X o.id _ (by omega)))<|Dd as'<|Zz<|Sq ?_
   refine awp_bool (t:=58) (n:=30) (X:=dpQ b X c (2 - (t:Int)) o) ?_ ?_
   ·all_goals refine Dd (by exact opd_loadn_ref rfl Tryz.isAgg49 Tryz.sizeOf49 rfl rfl rfl rfl (by simp only [Zl,encTag,encObj,encStr,encEdit,encInt];rfl) rfl) ?_
    all_goals refine Dd (by exact opr_call rfl rfl Tryz.call61 rfl (rLayer_c o _ hkk)) ?_
    all_goals refine Dd mv' ?_
    all_goals refine Dd eql' ?_
    all_goals refine Dd mv' ?_
    all_goals refine Sp 38 (fun h38=>?_) fun h38=>?_
    all_goals try contradiction
    all_goals first|refine Fo ?_|refine On mv' ?_
    all_goals first|refine Fo ?_|refine On mv' ?_
    all_goals(first|refine Sp 40 (fun h40=>?_) fun h40=>?_|refine al_dup (t:=40) rfl ?_)
    all_goals try contradiction
    all_goals first|refine Fo ?_|refine Fu ?_|refine On mv' ?_
    all_goals first|refine Fo ?_|refine On pk' ?_
    all_goals first|refine Fo ?_|refine On mv' ?_
    all_goals(first|refine Sp 43 (fun h43=>?_) fun h43=>?_|refine al_dup (t:=43) rfl ?_)
    all_goals try contradiction
    all_goals first|refine Fo ?_|refine Fu ?_|refine On mv' ?_
    all_goals first|refine Fo ?_|refine Fu ?_|refine On no' ?_
    all_goals first|refine Fo ?_|refine Fu ?_|refine On mv' ?_
    all_goals(first|refine Sp 46 (fun h46=>?_) fun h46=>?_|refine al_dup (t:=46) rfl ?_)
    all_goals try contradiction
    all_goals first|refine Fo ?_|refine Fu ?_|refine On mv' ?_
    all_goals first|refine Fo ?_|refine Fu ?_|refine On no' ?_
    all_goals first|refine Fo ?_|refine Fu ?_|refine On pk' ?_
    all_goals first|refine Fo ?_|refine Fu ?_|refine On mv' ?_
    all_goals(first|refine Sp 50 (fun h50=>?_) fun h50=>?_|refine al_dup (t:=50) rfl ?_)
    all_goals try contradiction
    all_goals first|refine Fo ?_|refine Fu ?_|refine On (by exact opd_loadn_ref rfl Tryz.isAgg38 Tryz.sizeOf38 rfl rfl rfl rfl (by simp only [Zl,encTag,encObj,encStr,encEdit,encInt];rfl) rfl) ?_
    all_goals first|refine Fo ?_|refine Fu ?_|refine On (fr' fo49_0) ?_
    all_goals first|refine Fo ?_|refine Fu ?_|refine On (l1' Tryz.isAgg9) ?_
    all_goals first|refine Fo ?_|refine Fu ?_|refine On (by exact opr_call rfl rfl Tryz.call27 rfl (rFind_c b o.id _ (by omega))) ?_
    all_goals first|refine Fo ?_|refine Fu ?_|refine On lss' ?_
    all_goals first|refine Fo ?_|refine Fu ?_|refine On pk' ?_
    all_goals first|refine Fo ?_|refine On pk' ?_
    all_goals refine Dd pk' ?_
    all_goals refine al_nil ?_
    all_goals(exact⟨⟨_,rfl,by(rw [dpQ];simp_all;done)⟩,rfl,rfl,rfl⟩)
   refine Cn (fun hc3=>?_) fun hc3=>?_
   ·skip
    have hq:dpQ b X c (2 - (t:Int)) o=true:=hc3
    rw [hq,if_pos rfl] at hnx
    have hnl:(dpA a b X c t i++[dropE o.id]).length=(dpA a b X c t i).length+1:=by rw [List.length_append];rfl
    refine Rg<|Dd mv'<|Dd (fr' fo49_0)<|Dd (l1' Tryz.isAgg9)<|Dd (bu' bo51)<|Dd (by exact x_buildSlice [encEdit (dropE o.id)] rfl so22 rfl rfl rfl rfl rfl (by intro r hr;rw [List.mem_singleton] at hr;subst hr;rfl))<|Dd (by exact x_append (ps:=[encEdit (dropE o.id)]) rfl so22 ei51 rfl rfl rfl rfl rfl (eRows_len _) rfl (by intro r hr;rw [List.mem_singleton] at hr;subst hr;rfl) (m:=1) rfl (by omega) rfl (eRows_app _ (dropE o.id)))<|Dd as'<|Zz<|Rg<|Dd mv'<|Dd ad'<|Dd as'<|Zz ?_
    refine⟨i+1,by omega,by omega,?_⟩
    rw [hnx,hnl]
    exact(Ent.wk (Eb<|Eb<|Ea<|Ea<|Ea<|Eb<|Eb<|trivial) (Hc (eRows_clo _ _)<|Hc (mB_clo _ _)<|Hc (mB_clo _ _)<|trivial) trivial)
   skip
   have hq:dpQ b X c (2 - (t:Int)) o=false:=hc3
   rw [hq,if_neg (by simp),List.append_nil] at hnx
   refine awp_skip<|Rg<|Dd mv'<|Dd ad'<|Dd as'<|Zz ?_
   refine⟨i+1,by omega,by omega,?_⟩
   rw [hnx]
   exact(Ent.wk (Eb<|Eb<|Ea<|Ea<|Ea<|Eb<|Eb<|trivial) (Hc (eRows_clo _ _)<|Hc (mB_clo _ _)<|Hc (mB_clo _ _)<|trivial) trivial)
  skip
  have hil:i=a.length:=by have:=of_decide_eq_false hc2;omega
  subst hil
  rw [hrow]
  refine awp_exit<|Rg<|Dd mv'<|Dd (by exact opd_sub rfl rfl rfl (show IntKind.i64.wrap ((2 - (t:Int)) - 1)=2 - ((t+1:Nat):Int)by rw [w64 (by omega) (by omega)];omega))<|Dd as'<|Zz ?_
  exact⟨t+1,by omega,by omega,(Ent.wk (Eb<|Eb<|Ea<|Ea<|Ea<|Eb<|trivial) (Hc (eRows_clo _ _)<|Hc (mB_clo _ _)<|Hc (mB_clo _ _)<|trivial) trivial)⟩
 skip
 have htl:t=3:=by have:=of_decide_eq_false hc1;omega
 subst htl
 rw [dpA_all]
 refine awp_exit<|Sq<|Rg<|Dd mv'<|Dd as'<|Zz<|awp_ret ?_
 refine aret1 (H':=[]) (.inr rfl) rfl (rval_tmp rfl) (Fin.fz (id:=905) ((dropR a b X c).map encEdit) rfl (rows_ofY encEdit _) (.osl (take_rows encEdit _)) rfl trivial trivial) ?_
 exact⟨rfl,rfl⟩
end
section
theorem rGet_c (l:List GTag) (key:ByteArray) (H:Heap) (hl:l.length < 4611686018427387904):ACalls Tryz.prog 115 [.pv (slTags l),sv key] H (fun r H'=>r=.tup [sv ((gGet l key).getD sNil),bv (gGet l key).isSome]∧H'=H):=by
 refine ACalls.pure ?_ (by simp) H
 have hml:(l.map encTag).length=l.length:=List.length_map _
 refine Bd Tryz.func115 rfl Tryz.ntmps115<|Sq<|Rg<|Dd as'<|Dd as'<|Zz<|Sq<|Sq<|Rg<|Dd as'<|Zz<|awp_block ?_
 refine awp_loop (σ:=Nat) (fun k=>([(0,.pv (slTags l)),(1,sv key),(6,iv (k:Int))],[])) (fun k=>k≤l.length∧∀ j,j < k→∀ b,l[j]?=some b→decide (b.key=key)=false) (fun k=>l.length - k) 0 ⟨by omega,by omega⟩ ?_ ?_
 ·exact E0
 rintro k ⟨hk,hno⟩
 refine Sq<|Sq<|Rg<|Dd mv'<|Dd mv'<|Dd (ll' Tryz.underlying47)<|Dd lss'<|Zz ?_
 refine Cn (fun hc1=>?_) fun hc1=>?_
 ·have hlt:k < l.length:=by have:=of_decide_eq_true hc1;omega
  obtain ⟨o,ho⟩:=get_of_lt hlt
  have hi:=map_get (f:=encTag) ho
  refine awp_skip<|Sq<|awp_block<|Sq<|Rg<|Dd mv'<|Dd mv'<|Dd (xp' so47)<|Dd (fp' fo117_0)<|Dd (lp' Tryz.isAgg9)<|Dd mv'<|Dd se'<|Zz ?_
  refine Cn (fun hc2=>?_) fun hc2=>?_
  ·skip
   refine Sq<|Rg<|Dd mv'<|Dd mv'<|Dd (xp' so47)<|Dd (fp' fo117_1)<|Dd (lp' Tryz.isAgg9)<|Dd as'<|Dd as'<|Zz<|awp_ret ?_
   refine Ru ?_
   exact⟨by rw [gGet,find_some hno ho hc2];rfl,rfl⟩
  skip
  refine awp_skip<|Rg<|Dd mv'<|Dd ad'<|Dd as'<|Zz ?_
  exact⟨k+1,⟨by omega,pre_succ hno ho hc2⟩,by omega,E0⟩
 have hge:k=l.length:=by have:=of_decide_eq_false hc1;omega
 subst hge
 refine awp_exit<|Sq<|Rg<|Dd as'<|Dd as'<|Zz<|awp_ret ?_
 refine Ru ?_
 exact⟨by rw [gGet,find_none hno];rfl,rfl⟩
theorem rFind13_c (m:List GObj) (id:ByteArray) (H:Heap) (hm:m.length < 1099511627776) (hu:ups m):ACalls Tryz.prog 157 [.agg [.pv (slObjs m)],sv id] H (fun r H'=>r=iv (gidx (idIs id) m)∧H'=H):=by
 refine ACalls.pure ?_ (by simp) H
 have hml:(m.map encObj).length=m.length:=List.length_map _
 have hlt':∀ (i j:Nat) (a b:GObj),i < j→m[i]?=some a→m[j]?=some b→slt a.id b.id=true:=fun i j a b hij ha hb=>by
  obtain ⟨h1,e1⟩:=List.getElem?_eq_some_iff.1 ha
  obtain ⟨h2,e2⟩:=List.getElem?_eq_some_iff.1 hb
  rw [ups,List.pairwise_iff_getElem] at hu
  rw [← e1,← e2]
  exact hu i j h1 h2 hij
 refine Bd Tryz.func157 rfl Tryz.ntmps157<|Sq<|Rg<|Dd (by exact opd_box (id:=2) rfl rfl rfl rfl rfl)<|Dd as'<|Zz<|Sq<|Rg<|Dd as'<|Zz<|Sq<|Rg<|Dd (fr' fo38_0)<|Dd (l1' Tryz.isAgg36)<|Dd (ll' Tryz.underlying36)<|Dd as'<|Zz<|Sq<|awp_block ?_
 refine awp_loop2 (fun(f t:Nat)=>([(1,sv id),(2,.ref 2 0 0 0),(5,iv (f:Int)),(6,iv (t:Int))],[(2,bx 1 38 [.pv (slObjs m)])])) (fun f t=>(f≤t∧t≤m.length)∧(∀ j a,j < f→m[j]?=some a→slt a.id id=true)∧(∀ j a,t≤j→m[j]?=some a→slt a.id id=false)) (fun f t=>t - f) 0 m.length ⟨⟨by omega,by omega⟩,fun j a h=>absurd h (by omega),fun j a h ha=>by have:=(List.getElem?_eq_some_iff.1 ha).1;omega⟩ ?_ ?_
 ·rw [← hml]
  exact Wk
 rintro f t ⟨⟨hft,htl⟩,hlo,hhi⟩
 refine Sq<|Sq<|Rg<|Dd mv'<|Dd mv'<|Dd lss'<|Zz ?_
 refine Cn (fun hc1=>?_) fun hc1=>?_
 ·have hlt:f < t:=by have:=of_decide_eq_true hc1;omega
  obtain ⟨i,hi0⟩:∃ i,i=(f+t) / 2:=⟨_,rfl⟩
  have hib:f≤i∧i < t:=by omega
  obtain ⟨o,ho⟩:=get_of_lt (l:=m) (k:=i) (by omega)
  have hi:=map_get (f:=encObj) ho
  have hq:IntKind.i64.wrap (((f:Int)+(t:Int)).tdiv 2)=(i:Int):=by
   rw [Int.tdiv_eq_ediv_of_nonneg (by omega)]
   exact w64 (by omega) (by omega) |>.trans (by omega)
  refine awp_skip<|awp_block<|Sq<|Rg<|Dd mv'<|Dd mv'<|Dd ad'<|Dd (by exact opd_quo rfl rfl rfl (by decide) hq)<|Dd as'<|Zz<|Sq<|Rg<|Dd (fr' fo38_0)<|Dd (l1' Tryz.isAgg36)<|Dd mv'<|Dd (xp' so36)<|Dd (fp' fo49_0)<|Dd (lp' Tryz.isAgg9)<|Dd mv'<|Dd (by exact opd_slss rfl rfl rfl)<|Zz ?_
  refine Cn (fun hc2=>?_) fun hc2=>?_
  ·have hs:slt o.id id=true:=hc2
   refine Rg<|Dd mv'<|Dd ad'<|Dd as'<|Zz ?_
   refine⟨i+1,t,⟨⟨by omega,htl⟩,fun j a hj ha=>?_,hhi⟩,by omega,Wk⟩
   by_cases e:j=i
   ·subst e;rw [ho] at ha;cases ha;exact hs
   exact slt_trans (hlt' j i a o (by omega) ha ho) hs
  have hs:slt o.id id=false:=hc2
  refine Rg<|Dd mv'<|Dd as'<|Zz ?_
  refine⟨f,i,⟨⟨by omega,by omega⟩,hlo,fun j a hj ha=>?_⟩,by omega,Wk⟩
  by_cases e:j=i
  ·subst e;rw [ho] at ha;cases ha;exact hs
  cases e2:slt a.id id with
  | false=>rfl
  | true=>rw [slt_trans (hlt' i j o a (by omega) ho ha) e2] at hs;cases hs
 have hge:f=t:=by have:=of_decide_eq_false hc1;omega
 subst hge
 by_cases hfl:f < m.length
 ·obtain ⟨o,ho⟩:=get_of_lt hfl
  have hi:=map_get (f:=encObj) ho
  have d0:decide ((f:Int) < ((m.map encObj).length:Int))=true:=decide_eq_true (by omega)
  refine awp_exit<|Sq<|Sq<|Rg<|Dd mv'<|Dd (fr' fo38_0)<|Dd (l1' Tryz.isAgg36)<|Dd (ll' Tryz.underlying36)<|Dd lss'<|Dd mv' ?_
  refine al_ond rfl rfl rfl (by assumption) rfl rfl (by exact opd_field_ref rfl fo38_0 rfl rfl rfl rfl) ?_
  refine al_ond rfl rfl rfl (by assumption) rfl rfl (by exact opd_load1_ref rfl Tryz.isAgg36 rfl rfl rfl rfl rfl) ?_
  refine al_ond rfl rfl rfl (by assumption) rfl rfl (by exact opd_move rfl rfl) ?_
  refine al_ond rfl rfl rfl (by assumption) rfl rfl (by exact x_index_pad rfl so36 rfl rfl (by omega) (by exact Int.toNat_natCast _) (by assumption) rfl) ?_
  refine al_ond rfl rfl rfl (by assumption) rfl rfl (by exact opd_field_pad rfl fo49_0 rfl rfl) ?_
  refine al_ond rfl rfl rfl (by assumption) rfl rfl (by exact opd_load1_pad rfl Tryz.isAgg9 rfl (by omega) rfl) ?_
  refine al_ond rfl rfl rfl (by assumption) rfl rfl (by exact opd_move rfl rfl) ?_
  refine al_ond rfl rfl rfl (by assumption) rfl rfl (by exact opd_seql rfl rfl rfl) ?_
  refine Dd pt'<|Zz ?_
  refine Cn (fun hc3=>?_) fun hc3=>?_
  ·have he:o.id=id:=of_decide_eq_true hc3
   have hno:∀ j,j < f→∀ b,m[j]?=some b→idIs id b=false:=fun j hj b hb=>by
    refine decide_eq_false (fun e=>?_)
    have:=hlo j b hj hb
    rw [e,slt_irr] at this
    cases this
   refine Sq<|Rg<|Dd mv'<|Dd as'<|Zz<|awp_ret ?_
   refine Rt ?_
   exact⟨by rw [gidx,fidx_some hno ho (decide_eq_true he)],rfl⟩
  have he:¬ o.id=id:=of_decide_eq_false hc3
  have hno:∀ j,j < m.length→∀ b,m[j]?=some b→idIs id b=false:=fun j hj b hb=>by
   refine decide_eq_false (fun e=>?_)
   rcases Nat.lt_trichotomy j f with h|h|h
   ·have:=hlo j b h hb
    rw [e,slt_irr] at this
    cases this
   ·subst h;rw [ho] at hb;cases hb;exact he e
   have h1:=hlt' f j o b h ho hb
   rw [e] at h1
   rw [hhi f o (by omega) ho] at h1
   cases h1
  refine awp_skip<|Sq<|Rg<|Dd as'<|Zz<|awp_ret ?_
  refine Rt ?_
  exact⟨by rw [gidx,fidx_none hno],rfl⟩
 have d0:decide ((f:Int) < ((m.map encObj).length:Int))=false:=decide_eq_false (by omega)
 have hno:∀ j,j < m.length→∀ b,m[j]?=some b→idIs id b=false:=fun j hj b hb=>by
  refine decide_eq_false (fun e=>?_)
  have:=hlo j b (by omega) hb
  rw [e,slt_irr] at this
  cases this
 refine awp_exit<|Sq<|Sq<|Rg<|Dd mv'<|Dd (fr' fo38_0)<|Dd (l1' Tryz.isAgg36)<|Dd (ll' Tryz.underlying36)<|Dd lss'<|Dd mv' ?_
 refine al_off rfl rfl rfl (by assumption) rfl ?_
 refine al_off rfl rfl rfl (by assumption) rfl ?_
 refine al_off rfl rfl rfl (by assumption) rfl ?_
 refine al_off rfl rfl rfl (by assumption) rfl ?_
 refine al_off rfl rfl rfl (by assumption) rfl ?_
 refine al_off rfl rfl rfl (by assumption) rfl ?_
 refine al_off rfl rfl rfl (by assumption) rfl ?_
 refine al_off rfl rfl rfl (by assumption) rfl ?_
 refine Dd pf'<|Zz ?_
 refine Cn (fun hc4=>?_) fun hc4=>?_
 ·cases hc4
 skip
 refine awp_skip<|Sq<|Rg<|Dd as'<|Zz<|awp_ret ?_
 refine Rt ?_
 exact⟨by rw [gidx,fidx_none hno],rfl⟩
theorem rKind_c (o:GObj) (i:Int) (H:Heap):ACalls Tryz.prog 158 [av (encObj o),iv i] H (fun r H'=>r=iv (gWanted o.kind i)∧H'=H):=by
 refine ACalls.pure ?_ (by simp) H
 refine Bd Tryz.func158 rfl Tryz.ntmps158<|Sq<|Rg<|Dd (by exact opd_box (id:=2) rfl rfl rfl rfl rfl)<|Dd as'<|Zz<|Sq<|Sq ?_
 refine awp_bool (t:=16) (n:=14) (X:=decide (o.kind=4)||(decide (o.kind=5)&&!decide (i=1))) ?_ ?_
 ·all_goals refine Dd (fr' fo49_1) ?_
  all_goals refine Dd (l1' Tryz.isAgg3) ?_
  all_goals refine Dd eql' ?_
  all_goals refine Dd mv' ?_
  all_goals refine Sp 8 (fun h8=>?_) fun h8=>?_
  all_goals try contradiction
  all_goals first|refine Fo ?_|refine On (fr' fo49_1) ?_
  all_goals first|refine Fo ?_|refine On (l1' Tryz.isAgg3) ?_
  all_goals first|refine Fo ?_|refine On eql' ?_
  all_goals first|refine Fo ?_|refine On mv' ?_
  all_goals(first|refine Sp 12 (fun h12=>?_) fun h12=>?_|refine al_dup (t:=12) rfl ?_)
  all_goals try contradiction
  all_goals first|refine Fo ?_|refine Fu ?_|refine On mv' ?_
  all_goals first|refine Fo ?_|refine Fu ?_|refine On ne' ?_
  all_goals first|refine Fo ?_|refine On pk' ?_
  all_goals refine Dd pk' ?_
  all_goals refine al_nil ?_
  all_goals(exact⟨⟨_,rfl,by(simp only [*,Zo];done)⟩,rfl,rfl,rfl⟩)
 refine Cn (fun hc1=>?_) fun hc1=>?_
 ·skip
  refine Sq<|Rg<|Dd as'<|Zz<|awp_ret ?_
  refine Rt ?_
  exact⟨by rw [gWanted,if_pos hc1],rfl⟩
 skip
 refine awp_skip<|Sq<|Rg<|Dd as'<|Zz<|awp_ret ?_
 refine Rt ?_
 exact⟨by rw [gWanted,hc1];rfl,rfl⟩
end
section
abbrev oBx (o:GObj):Ob:=bx 6 49 ((encObj o).map .pv)
def chgN (p o:GObj) (w:Int):List GEdit:=if w=0∧¬ (p.x=o.x∧p.y=o.y)then[moveE p.id o.x o.y] else if w=1∧¬ p.refs=o.refs then[refsE p.id o.refs] else[]
theorem idsE_c (a b:List ByteArray) (H:Heap) (ha:a.length < 4611686018427387904) (hb:b.length < 4611686018427387904):ACalls Tryz.prog 57 [.pv (slStrs a),.pv (slStrs b)] H (fun r H'=>r=bv (decide (a=b))∧H'=H):=by
 have:=ids_c a b H ha hb
 rwa [show gIds a b=decide (a=b)by rw [Bool.eq_iff_iff,gIds_eq,decide_eq_true_eq]] at this
theorem chgN_c (p o:GObj) (w:Int) (H:Heap) (hw:decide (w=2)=false) (hp:p.refs.length < 4611686018427387904) (ho:o.refs.length < 4611686018427387904) :
  ACalls Tryz.prog 62 [av (encObj p),av (encObj o),iv w] H (fun r H'=>r=.pv (slEdits (chgN p o w))∧H'=H):=by
 refine ACalls.pure ?_ (by simp) H
 refine Bd Tryz.func62 rfl Tryz.ntmps62<|Sq<|Rg<|Dd (by exact opd_box (id:=3) rfl rfl rfl rfl rfl)<|Dd (by exact opd_box (id:=4) rfl rfl rfl rfl rfl)<|Dd as'<|Zz<|Sq<|Sq ?_
 refine awp_bool (t:=22) (n:=10) (X:=decide (w=0)&&!(decide (p.x=o.x)&&decide (p.y=o.y))) ?_ ?_
 ·all_goals refine Dd mv' ?_
  all_goals refine Dd eql' ?_
  all_goals refine Dd mv' ?_
  all_goals refine Sp 16 (fun h16=>?_) fun h16=>?_
  all_goals try contradiction
  all_goals first|refine Fo ?_|refine On (fr' fo49_2) ?_
  all_goals first|refine Fo ?_|refine On (by exact opd_loadn_ref rfl Tryz.isAgg45 Tryz.sizeOf45 rfl rfl rfl rfl (by simp only [Zl,encTag,encObj,encStr,encEdit,encInt];rfl) rfl) ?_
  all_goals first|refine Fo ?_|refine On (fr' fo49_2) ?_
  all_goals first|refine Fo ?_|refine On (by exact opd_loadn_ref rfl Tryz.isAgg45 Tryz.sizeOf45 rfl rfl rfl rfl (by simp only [Zl,encTag,encObj,encStr,encEdit,encInt];rfl) rfl) ?_
  all_goals first|refine Fo ?_|refine On (by exact opd_aneq rfl rfl rfl rfl rfl Tryz.eqGuardType45 (se45 _ _ _ _)) ?_
  all_goals refine Dd pk' ?_
  all_goals refine al_nil ?_
  all_goals(exact⟨⟨_,rfl,by(simp_all;done)⟩,rfl,rfl,rfl⟩)
 refine Cn (fun hc1=>?_) fun hc1=>?_
 ·skip
  have h0:w=0∧¬ (p.x=o.x∧p.y=o.y):=by have h:=hc1;simp only [Bool.and_eq_true,decide_eq_true_eq,Bool.not_eq_true',Bool.and_eq_false_iff,decide_eq_false_iff_not] at h;exact⟨h.1,fun e=>h.2.elim (fun a=>a e.1) (fun a=>a e.2)⟩
  refine Sq<|Rg<|Dd (fr' fo49_0)<|Dd (l1' Tryz.isAgg9)<|Dd (fr' fo49_2)<|Dd (by exact opd_loadn_ref rfl Tryz.isAgg45 Tryz.sizeOf45 rfl rfl rfl rfl (by simp only [Zl,encTag,encObj,encStr,encEdit,encInt];rfl) rfl)<|Dd (bu' bo51)<|Dd (by exact x_buildSlice [encEdit (moveE p.id o.x o.y)] rfl so22 rfl rfl rfl rfl rfl (by intro r hr;rw [List.mem_singleton] at hr;subst hr;rfl))<|Dd as'<|Zz<|awp_ret ?_
  refine Rt ?_
  exact⟨by rw [chgN,if_pos h0];rfl,rfl⟩
 skip
 have h0:¬ (w=0∧¬ (p.x=o.x∧p.y=o.y)):=by have h:=hc1;simpa using h
 refine awp_skip<|Sq<|Sq ?_
 refine awp_bool (t:=38) (n:=11) (X:=decide (w=1)&&!decide (p.refs=o.refs)) ?_ ?_
 ·all_goals refine Dd mv' ?_
  all_goals refine Dd eql' ?_
  all_goals refine Dd mv' ?_
  all_goals refine Sp 31 (fun h31=>?_) fun h31=>?_
  all_goals try contradiction
  all_goals first|refine Fo ?_|refine On (fr' fo49_3) ?_
  all_goals first|refine Fo ?_|refine On (l1' Tryz.isAgg46) ?_
  all_goals first|refine Fo ?_|refine On (fr' fo49_3) ?_
  all_goals first|refine Fo ?_|refine On (l1' Tryz.isAgg46) ?_
  all_goals first|refine Fo ?_|refine On (by exact opr_call rfl rfl Tryz.call57 rfl (idsE_c p.refs o.refs _ hp ho)) ?_
  all_goals first|refine Fo ?_|refine On no' ?_
  all_goals refine Dd pk' ?_
  all_goals refine al_nil ?_
  all_goals(exact⟨⟨_,rfl,by(simp_all;done)⟩,rfl,rfl,rfl⟩)
 refine Cn (fun hc2=>?_) fun hc2=>?_
 ·skip
  have h1:w=1∧¬ p.refs=o.refs:=by have h:=hc2;simpa using h
  refine Sq<|Rg<|Dd (fr' fo49_0)<|Dd (l1' Tryz.isAgg9)<|Dd (fr' fo49_3)<|Dd (l1' Tryz.isAgg46)<|Dd (bu' bo51)<|Dd (by exact x_buildSlice [encEdit (refsE p.id o.refs)] rfl so22 rfl rfl rfl rfl rfl (by intro r hr;rw [List.mem_singleton] at hr;subst hr;rfl))<|Dd as'<|Zz<|awp_ret ?_
  refine Rt ?_
  exact⟨by rw [chgN,if_neg h0,if_pos h1];rfl,rfl⟩
 skip
 have h1:¬ (w=1∧¬ p.refs=o.refs):=by have h:=hc2;simpa using h
 refine awp_skip<|Sq<|Rg<|Dd as'<|Zz<|Sq<|Sq<|Rg<|Dd as'<|Zz<|awp_block ?_
 refine awp_loop (σ:=Unit) (fun _=>([(2,iv w),(3,.ref 3 0 0 0),(4,.ref 4 0 0 0),(7,.pv (slEdits [])),(8,iv 0)],[(4,oBx o),(3,oBx p)])) (fun _=>True) (fun _=>0) () trivial ?_ ?_
 ·exact Wk
 rintro _ _
 refine Sq<|Sq ?_
 refine awp_bool (t:=53) (n:=10) (X:=false) ?_ ?_
 ·all_goals refine Dd mv' ?_
  all_goals refine Dd eql' ?_
  all_goals refine Dd mv' ?_
  all_goals refine Sp 47 (fun h47=>?_) fun h47=>?_
  all_goals try contradiction
  all_goals first|refine Fo ?_|refine On mv' ?_
  all_goals first|refine Fo ?_|refine On (fr' fo49_4) ?_
  all_goals first|refine Fo ?_|refine On (l1' Tryz.isAgg47) ?_
  all_goals first|refine Fo ?_|refine On (ll' Tryz.underlying47) ?_
  all_goals first|refine Fo ?_|refine On lss' ?_
  all_goals refine Dd pk' ?_
  all_goals refine al_nil ?_
  all_goals(exact⟨⟨_,rfl,by first|rfl|(simp_all;done)⟩,rfl,rfl,rfl⟩)
 refine Cn (fun hc3=>?_) fun hc3=>?_
 ·skip
  cases hc3
 skip
 refine awp_exit<|Sq<|Sq<|Rg<|Dd as'<|Zz<|awp_block ?_
 refine awp_loop (σ:=Unit) (fun _=>([(2,iv w),(3,.ref 3 0 0 0),(4,.ref 4 0 0 0),(7,.pv (slEdits [])),(11,iv 0)],[(4,oBx o),(3,oBx p)])) (fun _=>True) (fun _=>0) () trivial ?_ ?_
 ·exact Wk
 rintro _ _
 refine Sq<|Sq ?_
 refine awp_bool (t:=90) (n:=10) (X:=false) ?_ ?_
 ·all_goals refine Dd mv' ?_
  all_goals refine Dd eql' ?_
  all_goals refine Dd mv' ?_
  all_goals refine Sp 84 (fun h84=>?_) fun h84=>?_
  all_goals try contradiction
  all_goals first|refine Fo ?_|refine On mv' ?_
  all_goals first|refine Fo ?_|refine On (fr' fo49_4) ?_
  all_goals first|refine Fo ?_|refine On (l1' Tryz.isAgg47) ?_
  all_goals first|refine Fo ?_|refine On (ll' Tryz.underlying47) ?_
  all_goals first|refine Fo ?_|refine On lss' ?_
  all_goals refine Dd pk' ?_
  all_goals refine al_nil ?_
  all_goals(exact⟨⟨_,rfl,by first|rfl|(simp_all;done)⟩,rfl,rfl,rfl⟩)
 refine Cn (fun hc4=>?_) fun hc4=>?_
 ·skip
  cases hc4
 skip
 refine awp_exit<|Sq<|Rg<|Dd mv'<|Dd as'<|Zz<|awp_ret ?_
 refine Rt ?_
 exact⟨by rw [chgN,if_neg h0,if_neg h1],rfl⟩
def tgD (p o:GObj) (t:GTag):Bool:=!(gGet o.tags t.key).isSome
def tgN (p o:GObj) (t:GTag):Bool:=!(gGet p.tags t.key).isSome||!decide ((gGet p.tags t.key).getD sNil=t.val)
def tgA (p o:GObj) (i:Nat):List GEdit:=((p.tags.take i).filter (tgD p o)).map fun t=>tagE p.id t.key sNil
def tgB (p o:GObj) (i:Nat):List GEdit:=tgA p o p.tags.length++((o.tags.take i).filter (tgN p o)).map fun t=>tagE p.id t.key t.val
theorem fmT_next {l:List GTag} {q:GTag→Bool} {f:GTag→GEdit} {i:Nat} {t:GTag} (h:l[i]?=some t):((l.take (i+1)).filter q).map f=((l.take i).filter q).map f++(if q t then[f t] else[]):=by
 rw [List.take_add_one,h,Option.toList_some,List.filter_append,List.map_append]
 congr 1
 cases e:q t<;>simp [e]
theorem tgA_next {p o:GObj} {i:Nat} {t:GTag} (h:p.tags[i]?=some t):tgA p o (i+1)=tgA p o i++(if tgD p o t then[tagE p.id t.key sNil] else[]):=fmT_next h
theorem tgB_next {p o:GObj} {i:Nat} {t:GTag} (h:o.tags[i]?=some t):tgB p o (i+1)=tgB p o i++(if tgN p o t then[tagE p.id t.key t.val] else[]):=by
 rw [tgB,tgB,fmT_next h,List.append_assoc]
theorem tgB_zero (p o:GObj):tgB p o 0=tgA p o p.tags.length:=by rw [tgB,List.take_zero];exact List.append_nil _
theorem tgA_len (p o:GObj) (i:Nat):(tgA p o i).length≤p.tags.length:=by
 rw [tgA,List.length_map]
 exact Nat.le_trans (List.length_filter_le _ _) (by rw [List.length_take];exact Nat.min_le_right _ _)
theorem tgB_len (p o:GObj) (i:Nat):(tgB p o i).length≤p.tags.length+o.tags.length:=by
 have h1:=tgA_len p o p.tags.length
 have h2:(((o.tags.take i).filter (tgN p o)).map fun t=>tagE p.id t.key t.val).length≤o.tags.length:=by
  rw [List.length_map]
  exact Nat.le_trans (List.length_filter_le _ _) (by rw [List.length_take];exact Nat.min_le_right _ _)
 rw [tgB,List.length_append]
 omega
theorem chgT_c (p o:GObj) (H:Heap) (hp:p.tags.length < 1000000000) (ho:o.tags.length < 1000000000) (hp2:p.refs.length < 4611686018427387904) (ho2:o.refs.length < 4611686018427387904) :
  ACalls Tryz.prog 62 [av (encObj p),av (encObj o),iv 2] H (fun r H'=>r=.pv (slEdits (tgB p o o.tags.length))∧H'=H):=by
 refine ACalls.pure ?_ (by simp) H
 have hmp:(p.tags.map encTag).length=p.tags.length:=List.length_map _
 have hmo:(o.tags.map encTag).length=o.tags.length:=List.length_map _
 refine Bd Tryz.func62 rfl Tryz.ntmps62<|Sq<|Rg<|Dd (by exact opd_box (id:=3) rfl rfl rfl rfl rfl)<|Dd (by exact opd_box (id:=4) rfl rfl rfl rfl rfl)<|Dd as'<|Zz<|Sq<|Sq ?_
 refine awp_bool (t:=22) (n:=10) (X:=false) ?_ ?_
 ·all_goals refine Dd mv' ?_
  all_goals refine Dd eql' ?_
  all_goals refine Dd mv' ?_
  all_goals refine Sp 16 (fun h16=>?_) fun h16=>?_
  all_goals try contradiction
  all_goals(refine al_off rfl rfl rfl rfl rfl ?_)
  all_goals(refine al_off rfl rfl rfl rfl rfl ?_)
  all_goals(refine al_off rfl rfl rfl rfl rfl ?_)
  all_goals(refine al_off rfl rfl rfl rfl rfl ?_)
  all_goals(refine al_off rfl rfl rfl rfl rfl ?_)
  all_goals refine Dd pk' ?_
  all_goals refine al_nil ?_
  all_goals(exact⟨⟨_,rfl,by rfl⟩,rfl,rfl,rfl⟩)
 refine Cn (fun hc1=>?_) fun hc1=>?_
 ·skip
  cases hc1
 skip
 refine awp_skip<|Sq<|Sq ?_
 refine awp_bool (t:=38) (n:=11) (X:=false) ?_ ?_
 ·all_goals refine Dd mv' ?_
  all_goals refine Dd eql' ?_
  all_goals refine Dd mv' ?_
  all_goals refine Sp 31 (fun h31=>?_) fun h31=>?_
  all_goals try contradiction
  all_goals(refine al_off rfl rfl rfl rfl rfl ?_)
  all_goals(refine al_off rfl rfl rfl rfl rfl ?_)
  all_goals(refine al_off rfl rfl rfl rfl rfl ?_)
  all_goals(refine al_off rfl rfl rfl rfl rfl ?_)
  all_goals(refine al_off rfl rfl rfl rfl rfl ?_)
  all_goals(refine al_off rfl rfl rfl rfl rfl ?_)
  all_goals refine Dd pk' ?_
  all_goals refine al_nil ?_
  all_goals(exact⟨⟨_,rfl,by rfl⟩,rfl,rfl,rfl⟩)
 refine Cn (fun hc2=>?_) fun hc2=>?_
 ·skip
  cases hc2
 skip
 refine awp_skip<|Sq<|Rg<|Dd (by exact opd_assign_own (id:=905) (sz:=15) (ty:=51) rfl rfl rfl)<|Zz<|Sq<|Sq<|Rg<|Dd as'<|Zz<|awp_block ?_
 refine awp_loop (σ:=Nat) (fun i=>([(2,iv 2),(3,.ref 3 0 0 0),(4,.ref 4 0 0 0),(7,.osl 905 (tgA p o i).length 0 (tgA p o i).length),(8,iv (i:Int))],[(905,⟨(tgA p o i).length,15,51,eRows (tgA p o i)⟩),(4,oBx o),(3,oBx p)])) (fun i=>i≤p.tags.length) (fun i=>p.tags.length - i) 0 (Nat.zero_le _) ?_ ?_
 ·exact(Ent.wk (Eb<|Ea<|Ea<|Ea<|Eb<|trivial) (Hc (eRows_clo _ _)<|Hb<|Hb<|trivial) trivial)
 rintro i hi
 have hTs:=tgA_len p o i
 refine Sq<|Sq ?_
 refine awp_bool (t:=53) (n:=10) (X:=decide ((i:Int) < ((p.tags.map encTag).length:Int))) ?_ ?_
 ·all_goals refine Dd mv' ?_
  all_goals refine Dd eql' ?_
  all_goals refine Dd mv' ?_
  all_goals refine Sp 47 (fun h47=>?_) fun h47=>?_
  all_goals try contradiction
  all_goals(refine al_ond rfl rfl rfl rfl rfl rfl (by exact opd_move rfl rfl) ?_)
  all_goals(refine al_ond rfl rfl rfl rfl rfl rfl (by exact opd_field_ref rfl fo49_4 rfl rfl rfl rfl) ?_)
  all_goals(refine al_ond rfl rfl rfl rfl rfl rfl (by exact opd_load1_ref rfl Tryz.isAgg47 rfl rfl rfl rfl rfl) ?_)
  all_goals(refine al_ond rfl rfl rfl rfl rfl rfl (by exact opd_len_sl rfl Tryz.underlying47 rfl) ?_)
  all_goals(refine al_ond rfl rfl rfl rfl rfl rfl (by exact opd_lss rfl rfl rfl) ?_)
  all_goals refine Dd pk' ?_
  all_goals refine al_nil ?_
  all_goals(exact⟨⟨_,rfl,by rfl⟩,rfl,rfl,rfl⟩)
 refine Cn (fun hc3=>?_) fun hc3=>?_
 ·skip
  have hil:i < p.tags.length:=by have:=of_decide_eq_true hc3;omega
  obtain ⟨t,ht⟩:=get_of_lt hil
  have hit:=map_get (f:=encTag) ht
  have hnx:=tgA_next (o:=o) ht
  refine awp_skip<|Sq<|awp_block<|Sq ?_
  refine awp_drawc follows ?_
  refine Cq (fr' fo49_4)<|Cq (l1' Tryz.isAgg47)<|Cq (fr' fo49_4)<|Cq (l1' Tryz.isAgg47)<|Cq mv'<|Cq (xp' so47)<|Cq (fp' fo117_0)<|Cq (lp' Tryz.isAgg9)<|Cq (by exact opr_call rfl rfl Tryz.call115 rfl (rGet_c o.tags t.key _ (by omega)))<|Cq mv'<|Cq ex'<|Cq ex'<|Cq as'<|Cq as' ?_
  refine dc_nil ⟨by kernel_rfl,?_⟩
  refine Sq<|Rg<|Dd mv'<|Dd no'<|Zz ?_
  refine Cn (fun hc4=>?_) fun hc4=>?_
  ·skip
   have hq:tgD p o t=true:=hc4
   rw [hq,if_pos rfl] at hnx
   have hnl:(tgA p o i++[tagE p.id t.key sNil]).length=(tgA p o i).length+1:=by rw [List.length_append];rfl
   refine awp_drawc follows ?_
   refine dc_cons (r:=⟨_,none,[]⟩) (DStep.plain rfl (fun H1 hH=>by exact opd_move rfl rfl)) rfl ?_
   refine dc_cons (r:=⟨_,none,[]⟩) (DStep.plain rfl (fun H1 hH=>by exact(by exact opd_field_ref rfl fo49_0 rfl ((hH _ rfl).trans rfl) rfl rfl))) rfl ?_
   refine dc_cons (r:=⟨_,none,[]⟩) (DStep.plain rfl (fun H1 hH=>by exact(by exact opd_load1_ref rfl Tryz.isAgg9 rfl ((hH _ rfl).trans rfl) rfl rfl rfl))) rfl ?_
   refine dc_cons (r:=⟨_,none,[]⟩) (DStep.plain rfl (fun H1 hH=>by exact(by exact opd_field_ref rfl fo49_4 rfl ((hH _ rfl).trans rfl) rfl rfl))) rfl ?_
   refine dc_cons (r:=⟨_,none,[]⟩) (DStep.plain rfl (fun H1 hH=>by exact(by exact opd_load1_ref rfl Tryz.isAgg47 rfl ((hH _ rfl).trans rfl) rfl rfl rfl))) rfl ?_
   refine dc_cons (r:=⟨_,none,[]⟩) (DStep.plain rfl (fun H1 hH=>by exact opd_move rfl rfl)) rfl ?_
   refine dc_cons (r:=⟨_,none,[]⟩) (DStep.plain rfl (fun H1 hH=>by exact(by exact x_index_pad rfl so47 rfl rfl (by omega) (by exact Int.toNat_natCast _) (by assumption) rfl))) rfl ?_
   refine dc_cons (r:=⟨_,none,[]⟩) (DStep.plain rfl (fun H1 hH=>by exact(by exact opd_field_pad rfl fo117_0 rfl rfl))) rfl ?_
   refine dc_cons (r:=⟨_,none,[]⟩) (DStep.plain rfl (fun H1 hH=>by exact(by exact opd_load1_pad rfl Tryz.isAgg9 rfl (by omega) rfl))) rfl ?_
   refine dc_cons (r:=⟨_,none,[]⟩) (DStep.plain rfl (fun H1 hH=>by exact x_build rfl bo51 rfl rfl)) rfl ?_
   refine dc_cons (r:=⟨_,none,[]⟩) (DStep.plain rfl (fun H1 hH=>by exact(by exact x_buildSlice [encEdit (tagE p.id t.key sNil)] rfl so22 rfl rfl rfl rfl rfl (by intro r hr;rw [List.mem_singleton] at hr;subst hr;rfl)))) rfl ?_
   refine dc_cons (r:=⟨_,none,[_]⟩) (DStep.plain rfl (fun H1 hH=>by exact x_append (ps:=[encEdit (tagE p.id t.key sNil)]) rfl so22 ei51 rfl ((hH _ rfl).trans rfl) rfl rfl rfl (eRows_len _) rfl (by intro r hr;rw [List.mem_singleton] at hr;subst hr;rfl) (m:=1) rfl (by omega) rfl (eRows_app _ (tagE p.id t.key sNil)))) rfl ?_
   refine dc_cons (r:=⟨_,none,[]⟩) (DStep.plain rfl (fun H1 hH=>by exact opd_assign rfl rfl)) rfl ?_
   refine dc_nil ⟨by kernel_rfl,?_⟩
   refine Rg<|Dd mv'<|Dd ad'<|Dd as'<|Zz ?_
   refine⟨i+1,by omega,by omega,?_⟩
   rw [hnx,hnl]
   exact(Ent.wk (Eb<|Ea<|Ea<|Ea<|Eb<|trivial) (Hc (eRows_clo _ _)<|Hb<|Hb<|trivial) trivial)
  skip
  have hq:tgD p o t=false:=hc4
  rw [hq,if_neg (by simp),List.append_nil] at hnx
  refine awp_skip<|Rg<|Dd mv'<|Dd ad'<|Dd as'<|Zz ?_
  refine⟨i+1,by omega,by omega,?_⟩
  rw [hnx]
  exact(Ent.wk (Eb<|Ea<|Ea<|Ea<|Eb<|trivial) (Hc (eRows_clo _ _)<|Hb<|Hb<|trivial) trivial)
 skip
 have hil:i=p.tags.length:=by have:=of_decide_eq_false hc3;omega
 subst hil
 rw [← tgB_zero]
 refine awp_exit<|Sq<|Sq<|Rg<|Dd as'<|Zz<|awp_block ?_
 refine awp_loop (σ:=Nat) (fun i=>([(2,iv 2),(3,.ref 3 0 0 0),(4,.ref 4 0 0 0),(7,.osl 905 (tgB p o i).length 0 (tgB p o i).length),(11,iv (i:Int))],[(905,⟨(tgB p o i).length,15,51,eRows (tgB p o i)⟩),(4,oBx o),(3,oBx p)])) (fun i=>i≤o.tags.length) (fun i=>o.tags.length - i) 0 (Nat.zero_le _) ?_ ?_
 ·exact(Ent.wk (Eb<|Ea<|Ea<|Ea<|Eb<|trivial) (Hc (eRows_clo _ _)<|Hb<|Hb<|trivial) trivial)
 rintro i hi
 have hTs:=tgB_len p o i
 refine Sq<|Sq ?_
 refine awp_bool (t:=90) (n:=10) (X:=decide ((i:Int) < ((o.tags.map encTag).length:Int))) ?_ ?_
 ·all_goals refine Dd mv' ?_
  all_goals refine Dd eql' ?_
  all_goals refine Dd mv' ?_
  all_goals refine Sp 84 (fun h84=>?_) fun h84=>?_
  all_goals try contradiction
  all_goals(refine al_ond rfl rfl rfl rfl rfl rfl (by exact opd_move rfl rfl) ?_)
  all_goals(refine al_ond rfl rfl rfl rfl rfl rfl (by exact opd_field_ref rfl fo49_4 rfl rfl rfl rfl) ?_)
  all_goals(refine al_ond rfl rfl rfl rfl rfl rfl (by exact opd_load1_ref rfl Tryz.isAgg47 rfl rfl rfl rfl rfl) ?_)
  all_goals(refine al_ond rfl rfl rfl rfl rfl rfl (by exact opd_len_sl rfl Tryz.underlying47 rfl) ?_)
  all_goals(refine al_ond rfl rfl rfl rfl rfl rfl (by exact opd_lss rfl rfl rfl) ?_)
  all_goals refine Dd pk' ?_
  all_goals refine al_nil ?_
  all_goals(exact⟨⟨_,rfl,by rfl⟩,rfl,rfl,rfl⟩)
 refine Cn (fun hc5=>?_) fun hc5=>?_
 ·skip
  have hil:i < o.tags.length:=by have:=of_decide_eq_true hc5;omega
  obtain ⟨t,ht⟩:=get_of_lt hil
  have hit:=map_get (f:=encTag) ht
  have hnx:=tgB_next (p:=p) ht
  refine awp_skip<|Sq<|awp_block<|Sq ?_
  refine awp_drawc follows ?_
  refine Cq (fr' fo49_4)<|Cq (l1' Tryz.isAgg47)<|Cq (fr' fo49_4)<|Cq (l1' Tryz.isAgg47)<|Cq mv'<|Cq (xp' so47)<|Cq (fp' fo117_0)<|Cq (lp' Tryz.isAgg9)<|Cq (by exact opr_call rfl rfl Tryz.call115 rfl (rGet_c p.tags t.key _ (by omega)))<|Cq mv'<|Cq ex'<|Cq ex'<|Cq as'<|Cq as' ?_
  refine dc_nil ⟨by kernel_rfl,?_⟩
  refine Sq ?_
  refine awp_bool (t:=116) (n:=13) (X:=tgN p o t) ?_ ?_
  ·all_goals refine Dd mv' ?_
   all_goals refine Dd no' ?_
   all_goals refine Dd mv' ?_
   all_goals refine Sp 107 (fun h107=>?_) fun h107=>?_
   all_goals try contradiction
   all_goals first|refine Fo ?_|refine On mv' ?_
   all_goals first|refine Fo ?_|refine On (fr' fo49_4) ?_
   all_goals first|refine Fo ?_|refine On (l1' Tryz.isAgg47) ?_
   all_goals first|refine Fo ?_|refine On mv' ?_
   all_goals first|refine Fo ?_|refine On (xp' so47) ?_
   all_goals first|refine Fo ?_|refine On (fp' fo117_1) ?_
   all_goals first|refine Fo ?_|refine On (lp' Tryz.isAgg9) ?_
   all_goals first|refine Fo ?_|refine On sn' ?_
   all_goals refine Dd pk' ?_
   all_goals refine al_nil ?_
   all_goals(exact⟨⟨_,rfl,by(rw [tgN];simp_all;done)⟩,rfl,rfl,rfl⟩)
  refine Cn (fun hc6=>?_) fun hc6=>?_
  ·skip
   have hq:tgN p o t=true:=hc6
   rw [hq,if_pos rfl] at hnx
   have hnl:(tgB p o i++[tagE p.id t.key t.val]).length=(tgB p o i).length+1:=by rw [List.length_append];rfl
   refine awp_drawc follows ?_
   refine dc_cons (r:=⟨_,none,[]⟩) (DStep.plain rfl (fun H1 hH=>by exact opd_move rfl rfl)) rfl ?_
   refine dc_cons (r:=⟨_,none,[]⟩) (DStep.plain rfl (fun H1 hH=>by exact(by exact opd_field_ref rfl fo49_0 rfl ((hH _ rfl).trans rfl) rfl rfl))) rfl ?_
   refine dc_cons (r:=⟨_,none,[]⟩) (DStep.plain rfl (fun H1 hH=>by exact(by exact opd_load1_ref rfl Tryz.isAgg9 rfl ((hH _ rfl).trans rfl) rfl rfl rfl))) rfl ?_
   refine dc_cons (r:=⟨_,none,[]⟩) (DStep.plain rfl (fun H1 hH=>by exact(by exact opd_field_ref rfl fo49_4 rfl ((hH _ rfl).trans rfl) rfl rfl))) rfl ?_
   refine dc_cons (r:=⟨_,none,[]⟩) (DStep.plain rfl (fun H1 hH=>by exact(by exact opd_load1_ref rfl Tryz.isAgg47 rfl ((hH _ rfl).trans rfl) rfl rfl rfl))) rfl ?_
   refine dc_cons (r:=⟨_,none,[]⟩) (DStep.plain rfl (fun H1 hH=>by exact opd_move rfl rfl)) rfl ?_
   refine dc_cons (r:=⟨_,none,[]⟩) (DStep.plain rfl (fun H1 hH=>by exact(by exact x_index_pad rfl so47 rfl rfl (by omega) (by exact Int.toNat_natCast _) (by assumption) rfl))) rfl ?_
   refine dc_cons (r:=⟨_,none,[]⟩) (DStep.plain rfl (fun H1 hH=>by exact(by exact opd_field_pad rfl fo117_0 rfl rfl))) rfl ?_
   refine dc_cons (r:=⟨_,none,[]⟩) (DStep.plain rfl (fun H1 hH=>by exact(by exact opd_load1_pad rfl Tryz.isAgg9 rfl (by omega) rfl))) rfl ?_
   refine dc_cons (r:=⟨_,none,[]⟩) (DStep.plain rfl (fun H1 hH=>by exact(by exact opd_field_ref rfl fo49_4 rfl ((hH _ rfl).trans rfl) rfl rfl))) rfl ?_
   refine dc_cons (r:=⟨_,none,[]⟩) (DStep.plain rfl (fun H1 hH=>by exact(by exact opd_load1_ref rfl Tryz.isAgg47 rfl ((hH _ rfl).trans rfl) rfl rfl rfl))) rfl ?_
   refine dc_cons (r:=⟨_,none,[]⟩) (DStep.plain rfl (fun H1 hH=>by exact opd_move rfl rfl)) rfl ?_
   refine dc_cons (r:=⟨_,none,[]⟩) (DStep.plain rfl (fun H1 hH=>by exact(by exact x_index_pad rfl so47 rfl rfl (by omega) (by exact Int.toNat_natCast _) (by assumption) rfl))) rfl ?_
   refine dc_cons (r:=⟨_,none,[]⟩) (DStep.plain rfl (fun H1 hH=>by exact(by exact opd_field_pad rfl fo117_1 rfl rfl))) rfl ?_
   refine dc_cons (r:=⟨_,none,[]⟩) (DStep.plain rfl (fun H1 hH=>by exact(by exact opd_load1_pad rfl Tryz.isAgg9 rfl (by omega) rfl))) rfl ?_
   refine dc_cons (r:=⟨_,none,[]⟩) (DStep.plain rfl (fun H1 hH=>by exact x_build rfl bo51 rfl rfl)) rfl ?_
   refine dc_cons (r:=⟨_,none,[]⟩) (DStep.plain rfl (fun H1 hH=>by exact(by exact x_buildSlice [encEdit (tagE p.id t.key t.val)] rfl so22 rfl rfl rfl rfl rfl (by intro r hr;rw [List.mem_singleton] at hr;subst hr;rfl)))) rfl ?_
   refine dc_cons (r:=⟨_,none,[_]⟩) (DStep.plain rfl (fun H1 hH=>by exact x_append (ps:=[encEdit (tagE p.id t.key t.val)]) rfl so22 ei51 rfl ((hH _ rfl).trans rfl) rfl rfl rfl (eRows_len _) rfl (by intro r hr;rw [List.mem_singleton] at hr;subst hr;rfl) (m:=1) rfl (by omega) rfl (eRows_app _ (tagE p.id t.key t.val)))) rfl ?_
   refine dc_cons (r:=⟨_,none,[]⟩) (DStep.plain rfl (fun H1 hH=>by exact opd_assign rfl rfl)) rfl ?_
   refine dc_nil ⟨by kernel_rfl,?_⟩
   refine Rg<|Dd mv'<|Dd ad'<|Dd as'<|Zz ?_
   refine⟨i+1,by omega,by omega,?_⟩
   rw [hnx,hnl]
   exact(Ent.wk (Eb<|Ea<|Ea<|Ea<|Eb<|trivial) (Hc (eRows_clo _ _)<|Hb<|Hb<|trivial) trivial)
  skip
  have hq:tgN p o t=false:=hc6
  rw [hq,if_neg (by simp),List.append_nil] at hnx
  refine awp_skip<|Rg<|Dd mv'<|Dd ad'<|Dd as'<|Zz ?_
  refine⟨i+1,by omega,by omega,?_⟩
  rw [hnx]
  exact(Ent.wk (Eb<|Ea<|Ea<|Ea<|Eb<|trivial) (Hc (eRows_clo _ _)<|Hb<|Hb<|trivial) trivial)
 skip
 have hil:i=o.tags.length:=by have:=of_decide_eq_false hc5;omega
 subst hil
 refine awp_exit<|Sq<|Rg<|Dd mv'<|Dd as'<|Zz<|awp_ret ?_
 refine aret1 (H':=[]) (.inr rfl) rfl (rval_tmp rfl) (Fin.fz (id:=905) ((tgB p o o.tags.length).map encEdit) rfl (rows_ofY encEdit _) (.osl (take_rows encEdit _)) rfl trivial trivial) ?_
 exact⟨rfl,rfl⟩
end
section
def sRw (l:List ByteArray):List (List AV):=l.map fun s=>[sv s]
theorem sRw_len (l:List ByteArray):(sRw l).length=l.length:=List.length_map _
theorem sRw_clo (H:Heap) (l:List ByteArray):∀ r∈sRw l,∀ a∈r,Clo H a:=by
 intro r hr a ha
 obtain ⟨x,_,rfl⟩:=List.mem_map.1 hr
 rw [List.mem_singleton] at ha
 subst ha
 simp
theorem sRw_get {l:List ByteArray} {k:Nat} {s:ByteArray} (h:l[k]?=some s):(sRw l)[k]?=some [sv s]:=by rw [sRw,List.getElem?_map,h];rfl
theorem sRw_app (l:List ByteArray) (s:ByteArray):sRw l++[(encStr s).map AV.pv]=sRw (l++[s]):=by rw [sRw,sRw,List.map_append];rfl
theorem sRw_pv (l:List ByteArray):sRw l=(l.map encStr).map (·.map .pv):=by rw [sRw,List.map_map];rfl
theorem inS_c (l:List ByteArray) (s:ByteArray) (H:Heap) (id g:Nat) (hH:H.get id=some ⟨g,1,9,sRw l⟩) (hl:l.length < 4611686018427387904):ACalls Tryz.prog 59 [.osl id g 0 l.length,sv s] H (fun r H'=>r=bv (inB l s)∧H'=H):=by
 refine Bd Tryz.func59 rfl Tryz.ntmps59<|Sq<|Rg<|Dd as'<|Zz<|Sq<|Sq<|Rg<|Dd as'<|Zz<|awp_block ?_
 refine awp_loop (σ:=Nat) (fun k=>([(0,.osl id g 0 l.length),(1,sv s),(5,iv (k:Int))],H)) (fun k=>k≤l.length∧∀ j,j < k→∀ b,l[j]?=some b→decide (b=s)=false) (fun k=>l.length - k) 0 ⟨by omega,by omega⟩ ?_ ?_
 ·exact E0
 rintro k ⟨hk,hno⟩
 refine Sq<|Sq<|Rg<|Dd mv'<|Dd mv'<|Dd (by exact opd_len_osl rfl Tryz.underlying46 rfl hH rfl)<|Dd lss'<|Zz ?_
 refine Cn (fun hc1=>?_) fun hc1=>?_
 ·skip
  have hlt:k < l.length:=by have:=of_decide_eq_true hc1;omega
  obtain ⟨o,ho⟩:=get_of_lt hlt
  have hi:=sRw_get ho
  refine awp_skip<|Sq<|awp_block<|Sq<|Rg<|Dd mv'<|Dd mv'<|Dd (by exact x_index_osl rfl so46 rfl hH rfl rfl rfl (by omega) (by exact Int.toNat_natCast _) hlt (Nat.zero_add _))<|Dd (by exact opd_load1_ref rfl Tryz.isAgg9 rfl hH rfl hi rfl)<|Dd mv'<|Dd se'<|Zz ?_
  refine Cn (fun hc2=>?_) fun hc2=>?_
  ·skip
   have hy:decide (o=s)=true:=hc2
   refine Sq<|Rg<|Dd as'<|Zz<|awp_ret ?_
   refine aret1 (H':=H) (.inr rfl) rfl (rval_tmp rfl) Fin.refl ?_
   exact⟨by rw [inB,any_some ho hy],rfl⟩
  skip
  have hy:decide (o=s)=false:=hc2
  refine awp_skip<|Rg<|Dd mv'<|Dd ad'<|Dd as'<|Zz ?_
  exact⟨k+1,⟨by omega,pre_succ hno ho hy⟩,by omega,E0⟩
 skip
 have hge:k=l.length:=by have:=of_decide_eq_false hc1;omega
 subst hge
 refine awp_exit<|Sq<|Rg<|Dd as'<|Zz<|awp_ret ?_
 refine aret1 (H':=H) (.inr rfl) rfl (rval_tmp rfl) Fin.refl ?_
 exact⟨by rw [inB,any_none hno],rfl⟩
def rfTo (a:List GObj) (s:ByteArray):List ByteArray:=(a.filter fun o=>inB o.refs s).map GObj.id
theorem rfTo_next {a:List GObj} {s:ByteArray} {i:Nat} {o:GObj} (h:a[i]?=some o):rfTo (a.take (i+1)) s=rfTo (a.take i) s++(if inB o.refs s then[o.id] else[]):=by
 rw [rfTo,rfTo,List.take_add_one,h,Option.toList_some,List.filter_append,List.map_append]
 congr 1
 cases e:inB o.refs s<;>simp [e]
theorem rfTo_len (a:List GObj) (s:ByteArray):(rfTo a s).length≤a.length:=by rw [rfTo,List.length_map];exact List.length_filter_le _ _
theorem refers_c (a:List GObj) (s:ByteArray) (H:Heap) (ha:okM a) (hg:gMap a=true) (hl:a.length < 1000000000) :
  ACalls Tryz.prog 58 [.agg [.pv (slObjs a)],sv s] H (fun r H'=>r=.pv (slStrs (rfTo a s))∧H'=H):=by
 refine ACalls.pure ?_ (by simp) H
 have hma:(a.map encObj).length=a.length:=List.length_map _
 have hv:∀ H,ACalls Tryz.prog 112 [.agg [.pv (slObjs a)]] H (fun r H'=>r=bv true∧H'=H):=fun H=>by
  have:=rMap_c a H ha
  rwa [hg] at this
 refine Bd Tryz.func58 rfl Tryz.ntmps58<|Sq<|Rg<|Dd (by exact opd_box (id:=2) rfl rfl rfl rfl rfl)<|Dd as'<|Zz<|Sq<|Rg<|Dd (by exact opd_assign_own (id:=906) (sz:=1) (ty:=9) rfl rfl rfl)<|Zz<|Sq<|Sq<|Rg<|Dd (by exact opd_loadn_ref rfl Tryz.isAgg38 Tryz.sizeOf38 rfl rfl rfl rfl (by simp only [Zl,encTag,encObj,encStr,encEdit,encInt];rfl) rfl)<|Dd (by exact opr_call rfl rfl Tryz.call112 rfl (hv _))<|Dd no'<|Zz ?_
 refine Cn (fun hc1=>?_) fun hc1=>?_
 ·skip
  cases hc1
 skip
 refine awp_skip<|Sq<|Sq<|Rg<|Dd as'<|Zz<|awp_block ?_
 refine awp_loop (σ:=Nat) (fun i=>([(1,sv s),(2,.ref 2 0 0 0),(5,.osl 906 (rfTo (a.take i) s).length 0 (rfTo (a.take i) s).length),(6,iv (i:Int))],[(906,⟨(rfTo (a.take i) s).length,1,9,sRw (rfTo (a.take i) s)⟩),(2,mB a)])) (fun i=>i≤a.length) (fun i=>a.length - i) 0 (Nat.zero_le _) ?_ ?_
 ·exact(Ent.wk (Eb<|Ea<|Ea<|Eb<|trivial) (Hc (sRw_clo _ _)<|Hc (mB_clo _ _)<|trivial) trivial)
 rintro i hi
 have hTs:=rfTo_len (a.take i) s
 rw [List.length_take] at hTs
 refine Sq<|Sq<|Rg<|Dd mv'<|Dd (fr' fo38_0)<|Dd (l1' Tryz.isAgg36)<|Dd (ll' Tryz.underlying36)<|Dd lss'<|Zz ?_
 refine Cn (fun hc2=>?_) fun hc2=>?_
 ·skip
  have hil:i < a.length:=by have:=of_decide_eq_true hc2;omega
  obtain ⟨o,ho⟩:=get_of_lt hil
  have hio:=map_get (f:=encObj) ho
  have hol:=(ha.2 o (List.mem_of_getElem? ho)).2.2.1
  have hnx:=rfTo_next (s:=s) ho
  refine awp_skip<|Sq<|awp_block<|Sq<|Rg<|Dd (fr' fo38_0)<|Dd (l1' Tryz.isAgg36)<|Dd mv'<|Dd (xp' so36)<|Dd (fp' fo49_3)<|Dd (lp' Tryz.isAgg46)<|Dd mv'<|Dd (by exact opr_call rfl rfl Tryz.call59 rfl (in12_c o.refs s _ hol))<|Zz ?_
  refine Cn (fun hc3=>?_) fun hc3=>?_
  ·skip
   have hq:inB o.refs s=true:=hc3
   rw [hq,if_pos rfl] at hnx
   have hnl:(rfTo (a.take i) s++[o.id]).length=(rfTo (a.take i) s).length+1:=by rw [List.length_append];rfl
   refine Rg<|Dd mv'<|Dd (fr' fo38_0)<|Dd (l1' Tryz.isAgg36)<|Dd mv'<|Dd (xp' so36)<|Dd (fp' fo49_0)<|Dd (lp' Tryz.isAgg9)<|Dd (by exact x_buildSlice [encStr o.id] rfl so46 rfl rfl rfl rfl rfl (by intro r hr;rw [List.mem_singleton] at hr;subst hr;rfl))<|Dd (by exact x_append (ps:=[encStr o.id]) rfl so46 ei9 rfl rfl rfl rfl rfl (sRw_len _) rfl (by intro r hr;rw [List.mem_singleton] at hr;subst hr;rfl) (m:=1) rfl (by omega) rfl (sRw_app _ o.id))<|Dd as'<|Zz<|Rg<|Dd mv'<|Dd ad'<|Dd as'<|Zz ?_
   refine⟨i+1,by omega,by omega,?_⟩
   rw [hnx,hnl]
   exact(Ent.wk (Eb<|Ea<|Ea<|Eb<|trivial) (Hc (sRw_clo _ _)<|Hc (mB_clo _ _)<|trivial) trivial)
  skip
  have hq:inB o.refs s=false:=hc3
  rw [hq,if_neg (by simp),List.append_nil] at hnx
  refine awp_skip<|Rg<|Dd mv'<|Dd ad'<|Dd as'<|Zz ?_
  refine⟨i+1,by omega,by omega,?_⟩
  rw [hnx]
  exact(Ent.wk (Eb<|Ea<|Ea<|Eb<|trivial) (Hc (sRw_clo _ _)<|Hc (mB_clo _ _)<|trivial) trivial)
 skip
 have hil:i=a.length:=by have:=of_decide_eq_false hc2;omega
 subst hil
 rw [List.take_length]
 refine awp_exit<|Sq<|Rg<|Dd mv'<|Dd as'<|Zz<|awp_ret ?_
 refine aret1 (H':=[]) (.inr rfl) rfl (rval_tmp rfl) (Fin.fz (id:=906) ((rfTo a s).map encStr) rfl (sRw_pv _) (.osl (take_rows encStr _)) rfl trivial trivial) ?_
 exact⟨rfl,rfl⟩
/-! ### plain: what is renewed -/
theorem mem_rfTo {a:List GObj} {s t:ByteArray}:t∈rfTo a s↔∃ o∈a,s∈o.refs∧o.id=t:=by
 rw [rfTo,List.mem_map]
 constructor
 ·rintro⟨o,ho,e⟩
  obtain ⟨h1,h2⟩:=List.mem_filter.1 ho
  exact⟨o,h1,inB_iff.1 h2,e⟩
 rintro⟨o,h1,h2,e⟩
 exact⟨o,List.mem_filter.2 ⟨h1,inB_iff.2 h2⟩,e⟩
theorem ren_up {a b:List GObj} (hc:closedB a=true) {s t:ByteArray} (hs:s∈renewed a b) (ht:t∈rfTo a s):t∈renewed a b:=by
 obtain ⟨o,h1,h2,rfl⟩:=mem_rfTo.1 ht
 exact(renewed_iff hc h1).2 (.inr ⟨s,h2,hs⟩)
theorem ren_all {a b:List GObj} {X:List ByteArray} (hc:closedB a=true) (hd:∀ o∈a,direct b o=true→o.id∈X) (hcl:∀ s∈X,∀ t∈rfTo a s,t∈X) (hs:∀ s∈X,s∈renewed a b) (s:ByteArray):s∈X↔s∈renewed a b:=by
 refine⟨hs s,fun h=>?_⟩
 have hk:∀ o∈a,1≤o.kind∧o.kind≤5:=fun o ho=>gObj_kind ((gMap_iff.1 (closed_gMap hc)).1 o ho)
 have key:∀ n:Nat,∀ o∈a,o.kind.tdiv 2 < (n:Int)→o.id∈renewed a b→o.id∈X:=by
  intro n
  induction n with
  | zero =>
   intro o ho hn
   obtain ⟨h1,h2⟩:=hk o ho
   have h3:o.kind=1∨o.kind=2∨o.kind=3∨o.kind=4∨o.kind=5:=by omega
   rcases h3 with e|e|e|e|e<;>rw [e] at hn<;>exact absurd hn (by decide)
  | succ n ih =>
   intro o ho hn hr
   rcases(renewed_iff hc ho).1 hr with h1|⟨t,ht,h2⟩
   ·exact hd o ho h1
   obtain ⟨p,hp,rfl⟩:=renewed_sub hk h2
   have hlow:=ref_low hc ho hp ht
   exact hcl p.id (ih p hp (by omega) h2) o.id (mem_rfTo.2 ⟨o,ho,ht,rfl⟩)
 obtain ⟨o,ho,rfl⟩:=renewed_sub hk h
 obtain ⟨h1,h2⟩:=hk o ho
 have h3:o.kind=1∨o.kind=2∨o.kind=3∨o.kind=4∨o.kind=5:=by omega
 exact key 3 o ho (by rcases h3 with e|e|e|e|e<;>rw [e]<;>decide) h
theorem nodup_lenX {X Y:List ByteArray} (h:X.Nodup) (hs:∀ s∈X,s∈Y):X.length≤Y.length:=nodup_len h hs
theorem ids_nodup {a:List GObj} (hu:ups a):(a.map GObj.id).Nodup:=by
 rw [List.Nodup,List.pairwise_map]
 exact List.Pairwise.imp (fun {x y} h e=>by rw [e,slt_irr] at h;cases h) hu
def dirL (a b:List GObj):List ByteArray:=(a.filter (direct b)).map GObj.id
theorem dir_nodup {a b:List GObj} (hu:ups a):(dirL a b).Nodup:=List.Nodup.sublist (List.Sublist.map _ List.filter_sublist) (ids_nodup hu)
theorem dirL_next {a b:List GObj} {i:Nat} {o:GObj} (h:a[i]?=some o):dirL (a.take (i+1)) b=dirL (a.take i) b++(if direct b o then[o.id] else[]):=by
 rw [dirL,dirL,List.take_add_one,h,Option.toList_some,List.filter_append,List.map_append]
 congr 1
 cases e:direct b o<;>simp [e]
/-! ### plain: the lists -/
theorem flt_lay {m:List GObj} {d:Bool} {q:GObj→Bool} {f:GObj→GEdit}:((layL m d).filter q).map f=(zs d).flatMap fun z=>(m.filter fun o=>decide (o.kind.tdiv 2=z)&&q o).map f:=by
 rw [layL]
 induction zs d with
 | nil=>rfl
 | cons z Z ih =>
  rw [List.flatMap_cons,List.flatMap_cons,List.filter_append,List.map_append,ih,List.filter_filter]
  congr 2
  exact List.filter_congr fun o _=>Bool.and_comm _ _
theorem drop_first {a b:List GObj} {X:List ByteArray} (hX:∀ s,inB X s=inB (renewed a b) s):dropR a b X true=(bFirst a b).map fun o=>dropE o.id:=by
 rw [bFirst,flt_lay,dropR]
 congr 1
 funext z
 congr 1
 refine List.filter_congr fun o _=>?_
 rw [dpQ,hX]
 simp
theorem drop_last {a b:List GObj} {X:List ByteArray} (hX:∀ s,inB X s=inB (renewed a b) s):dropR a b X false=(bLast a b).map fun o=>dropE o.id:=by
 rw [bLast,flt_lay,dropR]
 congr 1
 funext z
 congr 1
 refine List.filter_congr fun o _=>?_
 rw [dpQ,hX]
 simp
def putQ (a:List GObj) (X:List ByteArray) (z:Int) (o:GObj):Bool:=decide (o.kind.tdiv 2=z)&&((look a o.id).isNone||inB X o.id)
def putR (a b:List GObj) (X:List ByteArray):List GEdit:=(zs false).flatMap fun z=>(b.filter (putQ a X z)).map putE
theorem put_all {a b:List GObj} {X:List ByteArray} (hX:∀ s,inB X s=inB (renewed a b) s):putR a b X=(bPuts a b).map putE:=by
 rw [bPuts,flt_lay,putR]
 congr 1
 funext z
 congr 1
 refine List.filter_congr fun o _=>?_
 rw [putQ,hX,Bool.or_comm (inB _ _)]
def chgR (p o:GObj) (w:Int):List GEdit:=if w=2 then tgB p o o.tags.length else chgN p o w
def chF (a:List GObj) (X:List ByteArray) (w:Int) (o:GObj):List GEdit:=match look a o.id with
 | some p=>if inB X o.id then[] else chgR p o w
 | none=>[]
theorem fmC {α β:Type} {f g:α→List β}:∀ {l:List α},(∀ x∈l,f x=g x)→l.flatMap f=l.flatMap g
 | [],_=>rfl
 | x::l,h=>by rw [List.flatMap_cons,List.flatMap_cons,h x List.mem_cons_self,fmC fun y hy=>h y (List.mem_cons_of_mem _ hy)]
theorem fm_flat {α β γ:Type} (f:α→Option β) (g:β→List γ):∀ l:List α,(l.filterMap f).flatMap g=l.flatMap fun o=>match f o with|some x=>g x|none=>[]
 | []=>rfl
 | o::l=>by
  rw [List.flatMap_cons,← fm_flat f g l]
  cases e:f o with
  | none=>rw [List.filterMap_cons_none e];rfl
  | some x=>rw [List.filterMap_cons_some e,List.flatMap_cons]
theorem ch_both {a b:List GObj} {X:List ByteArray} {w:Int} {g:GObj×GObj→List GEdit} (hX:∀ s,inB X s=inB (renewed a b) s) (h:∀ o∈b,∀ p,look a o.id=some p→chgR p o w=g (p,o)):b.flatMap (chF a X w)=(bBoth a b).flatMap g:=by
 rw [bBoth,fm_flat]
 refine fmC fun o ho=>?_
 rw [chF]
 cases e:look a o.id with
 | none=>rfl
 | some p =>
  rw [hX]
  cases e2:inB (renewed a b) o.id with
  | true=>rfl
  | false=>exact h o ho p e
theorem tags_same {p o:GObj} (hp:gTags p.tags=true) (ho:gTags o.tags=true):tgB p o o.tags.length=stTags (p,o):=by
 obtain ⟨p1,p2,p3⟩:=gTags_iff.1 hp
 rw [tgB,tgA,List.take_length,List.take_length,stTags,tagL,tagDel,tagNew,List.map_append,List.map_map,List.map_map]
 congr 2
 ·refine List.filter_congr fun t _=>?_
  rw [tgD]
  cases gGet o.tags t.key<;>simp
 refine List.filter_congr fun t _=>?_
 rw [tgN]
 cases e:gGet p.tags t.key with
 | none =>
  have:inT p.tags t=false:=by
   cases h:inT p.tags t with
   | false=>rfl
   | true =>
    have h2:=gGet_of p2 (k:=t.key) (v:=t.val) (inT_iff.1 h)
    rw [e] at h2
    cases h2
  rw [this];rfl
 | some v =>
  by_cases hv:v=t.val
  ·subst hv
   have:inT p.tags t=true:=inT_iff.2 (gGet_mem e)
   rw [this];simp
  have:inT p.tags t=false:=by
   cases h:inT p.tags t with
   | false=>rfl
   | true =>
    have h2:=gGet_of p2 (k:=t.key) (v:=t.val) (inT_iff.1 h)
    rw [e] at h2
    exact absurd (Option.some.inj h2) hv
  rw [this];simp [hv]
def refBet (a b:List GObj) (X:List ByteArray):List GEdit:=dropR a b X true++(putR a b X++((b.flatMap (chF a X 0)++(b.flatMap (chF a X 1)++b.flatMap (chF a X 2)))++dropR a b X false))
theorem refBet_eq {a b:List GObj} {X:List ByteArray} (hca:closedB a=true) (hcb:closedB b=true) (hX:∀ s,inB X s=inB (renewed a b) s):refBet a b X=betL a b:=by
 have ga:=(gMap_iff.1 (closed_gMap hca)).1
 have gb:=(gMap_iff.1 (closed_gMap hcb)).1
 have h0:b.flatMap (chF a X 0)=(bBoth a b).flatMap stMove:=ch_both hX fun o ho p hp=>by
  rw [chgR,if_neg (by decide),chgN,stMove]
  by_cases h:p.x=o.x∧p.y=o.y
  ·rw [if_neg (fun hh=>hh.2 h),if_neg (fun hh=>absurd hh.1 (by decide)),if_pos h]
  rw [if_pos ⟨rfl,h⟩,if_neg h]
 have h1:b.flatMap (chF a X 1)=(bBoth a b).flatMap stRefs:=ch_both hX fun o ho p hp=>by
  rw [chgR,if_neg (by decide),chgN,stRefs,if_neg (fun hh=>absurd hh.1 (by decide))]
  by_cases h:p.refs=o.refs
  ·rw [if_neg (fun hh=>hh.2 h),if_pos h]
  rw [if_pos ⟨rfl,h⟩,if_neg h]
 have h2:b.flatMap (chF a X 2)=(bBoth a b).flatMap stTags:=ch_both hX fun o ho p hp=>by
  rw [chgR,if_pos rfl]
  exact tags_same (gObj_len (ga p (look_mem hp))).2.2.1 (gObj_len (gb o ho)).2.2.1
 rw [refBet,drop_first hX,drop_last hX,put_all hX,h0,h1,h2,betL]
 simp only [List.append_assoc]
end
section
def sndBad (m:List GObj) (snd:GObj→Bool) (kind:Int) (i:Nat) (s:ByteArray):Bool:=match m.find? (idIs s)with
 | none=>true
 | some ob=>!decide (ob.kind=gWanted kind (i:Int))||!snd ob
def sndL (m:List GObj) (snd:GObj→Bool) (kind:Int):Nat→List ByteArray→Bool
 | _,[]=>true
 | i,s::r=>!sndBad m snd kind i s&&sndL m snd kind (i+1) r
def gSnd (m:List GObj):Nat→GObj→Bool
 | 0,_=>true
 | n+1,o=>sndL m (gSnd m n) o.kind 0 o.refs
theorem soundStep_c (m:List GObj) (o:GObj) (snd:GObj→Bool) (H:Heap) (hm:m.length < 1099511627776) (hu:ups m) (hl:o.refs.length < 4611686018427387904)
  (hrec:∀ (i:Nat) (ob:GObj),i < o.refs.length→ob∈m→ob.kind=gWanted o.kind (i:Int)→∀ H,ACalls Tryz.prog 113 [.agg [.pv (slObjs m)],av (encObj ob)] H (fun r H'=>r=bv (snd ob)∧H'=H)) :
  ACalls Tryz.prog 113 [.agg [.pv (slObjs m)],av (encObj o)] H (fun r H'=>r=bv (sndL m snd o.kind 0 o.refs)∧H'=H):=by
 refine ACalls.pure ?_ (by simp) H
 have hml:(m.map encObj).length=m.length:=List.length_map _
 have hrl:(o.refs.map encStr).length=o.refs.length:=List.length_map _
 refine Bd Tryz.func113 rfl Tryz.ntmps113<|Sq<|Rg<|Dd (by exact opd_box (id:=2) rfl rfl rfl rfl rfl)<|Dd (by exact opd_box (id:=3) rfl rfl rfl rfl rfl)<|Dd as'<|Zz<|Sq<|Sq<|Rg<|Dd as'<|Zz<|awp_block ?_
 refine awp_loop (σ:=Nat) (fun k=>([(2,.ref 2 0 0 0),(3,.ref 3 0 0 0),(5,iv (k:Int))],[(3,bx 6 49 ((encObj o).map .pv)),(2,bx 1 38 [.pv (slObjs m)])])) (fun k=>k≤o.refs.length∧sndL m snd o.kind 0 o.refs=sndL m snd o.kind k (o.refs.drop k)) (fun k=>o.refs.length - k) 0 ⟨by omega,rfl⟩ ?_ ?_
 ·exact Wk
 rintro k ⟨hk,hinv⟩
 refine Sq<|Sq<|Rg<|Dd mv'<|Dd (fr' fo49_3)<|Dd (l1' Tryz.isAgg46)<|Dd (ll' Tryz.underlying46)<|Dd lss'<|Zz ?_
 refine Cn (fun hc1=>?_) fun hc1=>?_
 ·have hlt:k < o.refs.length:=by have:=of_decide_eq_true hc1;omega
  obtain ⟨s,hs⟩:=get_of_lt hlt
  have hi:=map_get (f:=encStr) hs
  have hdr:o.refs.drop k=s::o.refs.drop (k+1):=by
   obtain ⟨hl1,he1⟩:=List.getElem?_eq_some_iff.1 hs
   rw [List.drop_eq_getElem_cons hl1,he1]
  rw [hdr,sndL] at hinv
  have hF:=fun H=>rFind13_c m s H hm hu
  rcases gidx_cases (idIs s) m with⟨hg,hf⟩|⟨j,ob,hg,hob,hf⟩
  ·have hb:sndBad m snd o.kind k s=true:=by rw [sndBad,hf]
   rw [hb] at hinv
   rw [hg] at hF
   refine awp_skip<|Sq<|awp_block<|Sq ?_
   refine awp_drawc follows ?_
   refine Cq (by exact opd_loadn_ref rfl Tryz.isAgg38 Tryz.sizeOf38 rfl rfl rfl rfl (by simp only [Zl,encTag,encObj,encStr,encInt];rfl) rfl)<|Cq (fr' fo49_3)<|Cq (l1' Tryz.isAgg46)<|Cq mv'<|Cq (xp' so46)<|Cq (lp' Tryz.isAgg9)<|Cq (by exact opr_call rfl rfl Tryz.call157 rfl (hF _))<|Cq as' ?_
   refine dc_nil ⟨by kernel_rfl,?_⟩
   refine Sq ?_
   refine awp_drawc follows ?_
   refine Cq mv'<|Cq lss'<|Cq mv'<|Of<|Of<|Of<|Of<|Of<|Of<|Of<|Of<|Of<|Of<|Cq pk'<|Cq mv'<|Of<|Of<|Of<|Of<|Of<|Of<|Of<|Of<|Cq pk' ?_
   refine dc_nil ⟨by kernel_rfl,?_⟩
   refine Cn (fun hc2=>?_) fun hc2=>?_
   ·skip
    refine Sq<|Rg<|Dd as'<|Zz<|awp_ret ?_
    refine Rt ?_
    exact⟨by rw [hinv];rfl,rfl⟩
   cases hc2
  rw [hg] at hF
  have hio:=map_get (f:=encObj) hob
  have hj0:decide ((j:Int) < 0)=false:=decide_eq_false (by omega)
  have hb:sndBad m snd o.kind k s=(!decide (ob.kind=gWanted o.kind (k:Int))||!snd ob):=by rw [sndBad,hf]
  by_cases hk2:ob.kind=gWanted o.kind (k:Int)
  ·have d1:(!decide (ob.kind=gWanted o.kind (k:Int)))=false:=by rw [decide_eq_true hk2];rfl
   rw [d1,Bool.false_or] at hb
   have hR:=hrec k ob hlt (List.mem_of_getElem? hob) hk2
   refine awp_skip<|Sq<|awp_block<|Sq ?_
   refine awp_drawc follows ?_
   refine Cq (by exact opd_loadn_ref rfl Tryz.isAgg38 Tryz.sizeOf38 rfl rfl rfl rfl (by simp only [Zl,encTag,encObj,encStr,encInt];rfl) rfl)<|Cq (fr' fo49_3)<|Cq (l1' Tryz.isAgg46)<|Cq mv'<|Cq (xp' so46)<|Cq (lp' Tryz.isAgg9)<|Cq (by exact opr_call rfl rfl Tryz.call157 rfl (hF _))<|Cq as' ?_
   refine dc_nil ⟨by kernel_rfl,?_⟩
   refine Sq ?_
   refine awp_drawc follows ?_
   refine Cq mv'<|Cq lss'<|Cq mv'<|Nf (fr' fo38_0)<|Nf (l1' Tryz.isAgg36)<|Nf mv'<|Nf (xp' so36)<|Nf (fp' fo49_1)<|Nf (lp' Tryz.isAgg3)<|Nf (by exact opd_loadn_ref rfl Tryz.isAgg49 Tryz.sizeOf49 rfl rfl rfl rfl (by simp only [Zl,encTag,encObj,encStr,encInt];rfl) rfl)<|Nf mv'<|Nf (by exact opr_call rfl rfl Tryz.call158 rfl (rKind_c o (k:Int) _))<|Nf ne'<|Cq pk'<|Cq mv'<|Nf (by exact opd_loadn_ref rfl Tryz.isAgg38 Tryz.sizeOf38 rfl rfl rfl rfl (by simp only [Zl,encTag,encObj,encStr,encInt];rfl) rfl)<|Nf (fr' fo38_0)<|Nf (l1' Tryz.isAgg36)<|Nf mv'<|Nf (xp' so36)<|Nf (by exact opd_loadn_pad rfl Tryz.isAgg49 Tryz.sizeOf49 rfl (by omega) (by simp only [Zl,encTag,encObj,encStr,encInt];rfl) rfl)<|Nf (by exact opr_call rfl rfl Tryz.call113 rfl (hR _))<|Nf no'<|Cq pf' ?_
   refine dc_nil ⟨by kernel_rfl,?_⟩
   refine Cn (fun hc3=>?_) fun hc3=>?_
   ·have h:(!snd ob)=true:=hc3
    rw [← hb] at h
    rw [h] at hinv
    refine Sq<|Rg<|Dd as'<|Zz<|awp_ret ?_
    refine Rt ?_
    exact⟨by rw [hinv];rfl,rfl⟩
   have h:(!snd ob)=false:=hc3
   rw [← hb] at h
   rw [h,Bool.not_false,Bool.true_and] at hinv
   refine awp_skip<|Rg<|Dd mv'<|Dd ad'<|Dd as'<|Zz ?_
   exact⟨k+1,⟨by omega,hinv⟩,by omega,Wk⟩
  have d1:(!decide (ob.kind=gWanted o.kind (k:Int)))=true:=by rw [decide_eq_false hk2];rfl
  rw [d1,Bool.true_or] at hb
  rw [hb] at hinv
  refine awp_skip<|Sq<|awp_block<|Sq ?_
  refine awp_drawc follows ?_
  refine Cq (by exact opd_loadn_ref rfl Tryz.isAgg38 Tryz.sizeOf38 rfl rfl rfl rfl (by simp only [Zl,encTag,encObj,encStr,encInt];rfl) rfl)<|Cq (fr' fo49_3)<|Cq (l1' Tryz.isAgg46)<|Cq mv'<|Cq (xp' so46)<|Cq (lp' Tryz.isAgg9)<|Cq (by exact opr_call rfl rfl Tryz.call157 rfl (hF _))<|Cq as' ?_
  refine dc_nil ⟨by kernel_rfl,?_⟩
  refine Sq ?_
  refine awp_drawc follows ?_
  refine Cq mv'<|Cq lss'<|Cq mv'<|Nf (fr' fo38_0)<|Nf (l1' Tryz.isAgg36)<|Nf mv'<|Nf (xp' so36)<|Nf (fp' fo49_1)<|Nf (lp' Tryz.isAgg3)<|Nf (by exact opd_loadn_ref rfl Tryz.isAgg49 Tryz.sizeOf49 rfl rfl rfl rfl (by simp only [Zl,encTag,encObj,encStr,encInt];rfl) rfl)<|Nf mv'<|Nf (by exact opr_call rfl rfl Tryz.call158 rfl (rKind_c o (k:Int) _))<|Nf ne'<|Cq pk'<|Cq mv'<|Of<|Of<|Of<|Of<|Of<|Of<|Of<|Of<|Cq pt' ?_
  refine dc_nil ⟨by kernel_rfl,?_⟩
  refine Cn (fun hc4=>?_) fun hc4=>?_
  ·skip
   refine Sq<|Rg<|Dd as'<|Zz<|awp_ret ?_
   refine Rt ?_
   exact⟨by rw [hinv];rfl,rfl⟩
  skip
  (cases hc4)
 have hge:k=o.refs.length:=by have:=of_decide_eq_false hc1;omega
 subst hge
 rw [List.drop_length,sndL] at hinv
 refine awp_exit<|Sq<|Rg<|Dd as'<|Zz<|awp_ret ?_
 refine Rt ?_
 exact⟨by rw [hinv],rfl⟩
/-- Nodes, ways and areas, routes and turns. -/
def lev (k:Int):Nat:=if k=1 then 0 else if k=4∨k=5 then 2 else 1
theorem obj_kind {o:GObj} (h:gObj o=true):1≤o.kind∧o.kind≤5∧(o.kind=1→o.refs=[]):=by
 simp only [gObj,Bool.and_eq_true,Bool.not_eq_true'] at h
 obtain ⟨h1,_,h3⟩:=h
 have hw:decide (gWord o.kind=sNil)=false:=by
  simp only [gHead,gHeadN,Bool.or_eq_false_iff] at h1
  exact h1.1.1.1.1
 have hk:=word_kind hw
 have hk0:¬ o.kind=0:=fun e=>by rw [e] at hw;simp [gWord] at hw
 refine⟨by omega,by omega,fun e=>?_⟩
 rw [gKind,if_pos e,Bool.and_eq_true] at h3
 have:=of_decide_eq_true h3.1
 exact List.eq_nil_of_length_eq_zero (by omega)
theorem lev_down {k i:Int} (h1:1≤k) (h5:k≤5) (h:¬ k=1):lev (gWanted k i) < lev k:=by
 rcases(by omega:k=2∨k=3∨k=4∨k=5)with rfl|rfl|rfl|rfl
 ·exact Nat.lt_of_lt_of_le (by decide:lev 1 < 1) (by decide)
 ·exact Nat.lt_of_lt_of_le (by decide:lev 1 < 1) (by decide)
 ·exact Nat.lt_of_lt_of_le (by decide:lev 2 < 2) (by decide)
 have:gWanted 5 i=1∨gWanted 5 i=2:=by
  unfold gWanted
  split
  ·exact .inr rfl
  exact .inl rfl
 rcases this with e|e<;>rw [e]<;>decide
theorem sound_c (m:List GObj) (hm:okM m) (hml:m.length < 1099511627776) (hg:gMap m=true):∀ (n:Nat) (o:GObj),o∈m→lev o.kind≤n→∀ H,ACalls Tryz.prog 113 [.agg [.pv (slObjs m)],av (encObj o)] H (fun r H'=>r=bv (gSnd m n o)∧H'=H)
 | 0,o,ho,hn,H=>by
  have hk:=obj_kind ((gMap_iff.1 hg).1 o ho)
  have h1:o.kind=1:=by
   have h0:lev o.kind=0:=by omega
   unfold lev at h0
   split at h0
   ·assumption
   split at h0<;>cases h0
  have hr:=hk.2.2 h1
  have h:=soundStep_c m o (fun _=>true) H hml (gMap_iff.1 hg).2.1 (hm.2 o ho).2.2.1 (fun i ob hi _ _=>by rw [hr] at hi;cases hi)
  rw [hr] at h
  exact h
 | n+1,o,ho,hn,H=>by
  have hk:=obj_kind ((gMap_iff.1 hg).1 o ho)
  refine soundStep_c m o (gSnd m n) H hml (gMap_iff.1 hg).2.1 (hm.2 o ho).2.2.1 (fun i ob hi hob he=>?_)
  have hk1:¬ o.kind=1:=fun e=>by rw [hk.2.2 e] at hi;cases hi
  have:=lev_down (i:=(i:Int)) hk.1 hk.2.1 hk1
  exact sound_c m hm hml hg n ob hob (by rw [he];omega)
theorem lev_le (k:Int):lev k≤2:=by
 unfold lev
 split
 ·omega
 split<;>omega
theorem sndL_err {m:List GObj} {snd:GObj→Bool} {kind:Int}:∀ (l:List ByteArray) (i:Nat),sndL m snd kind i l=true→refErr m kind i l=0
 | [],i,_=>rfl
 | s::r,i,h=>by
  rw [sndL,Bool.and_eq_true,Bool.not_eq_true'] at h
  have hb:refBad m kind i s=0:=by
   have h1:=h.1
   rw [sndBad] at h1
   rw [refBad,kindOf]
   cases hf:m.find? (idIs s)with
   | none=>rw [hf] at h1;cases h1
   | some ob =>
    rw [hf] at h1
    simp only [Bool.or_eq_false_iff,Bool.not_eq_false',decide_eq_true_eq] at h1
    exact if_pos h1.1
  rw [refErr,if_pos hb]
  exact sndL_err r (i+1) h.2
theorem err_sndL {m:List GObj} {snd:GObj→Bool} {kind:Int} (hs:∀ ob∈m,snd ob=true):∀ (l:List ByteArray) (i:Nat),refErr m kind i l=0→sndL m snd kind i l=true
 | [],i,_=>rfl
 | s::r,i,h=>by
  rw [refErr] at h
  split at h
  ·next hb =>
   rw [sndL,err_sndL hs r (i+1) h,Bool.and_true,sndBad]
   rw [refBad,kindOf] at hb
   cases hf:m.find? (idIs s)with
   | none=>rw [hf] at hb;cases hb
   | some ob =>
    rw [hf] at hb
    simp only [Option.map_some] at hb
    split at hb
    ·next he=>simp only [decide_eq_true he,hs ob (List.mem_of_find?_eq_some hf)];rfl
    cases hb
  next hb=>exact absurd h hb
theorem gSnd_all {m:List GObj} (h:∀ o∈m,refErr m o.kind 0 o.refs=0):∀ (n:Nat) (o:GObj),o∈m→gSnd m n o=true
 | 0,_,_=>rfl
 | n+1,o,ho=>err_sndL (gSnd_all h n) o.refs 0 (h o ho)
theorem closed22_eq (m:List GObj):m.all (gSnd m 2)=m.all (fun o=>decide (refErr m o.kind 0 o.refs=0)):=by
 rw [Bool.eq_iff_iff,List.all_eq_true,List.all_eq_true]
 constructor
 ·intro h o ho
  exact decide_eq_true (sndL_err o.refs 0 (h o ho))
 intro h o ho
 exact gSnd_all (fun o ho=>of_decide_eq_true (h o ho)) 2 o ho
theorem rClosed22_c (m:List GObj) (H:Heap) (hm:okM m) (hmm:m.length < 1099511627776):ACalls Tryz.prog 56 [.agg [.pv (slObjs m)]] H (fun r H'=>r=bv (closedB m)∧H'=H):=by
 refine ACalls.pure ?_ (by simp) H
 have hml:(m.map encObj).length=m.length:=List.length_map _
 have hl:=hm.1
 refine Bd Tryz.func56 rfl Tryz.ntmps56<|Sq<|Rg<|Dd (by exact opd_box (id:=1) rfl rfl rfl rfl rfl)<|Dd as'<|Zz<|Sq<|Sq<|Rg<|Dd (by exact opd_loadn_ref rfl Tryz.isAgg38 Tryz.sizeOf38 rfl rfl rfl rfl (by simp only [Zl,encTag,encObj,encStr,encInt];rfl) rfl)<|Dd (by exact opr_call rfl rfl Tryz.call112 rfl (rMap_c m _ hm))<|Dd no'<|Zz ?_
 refine Cn (fun hc1=>?_) fun hc1=>?_
 ·have hg:gMap m=false:=by
   have h:(!gMap m)=true:=hc1
   simpa using h
  refine Sq<|Rg<|Dd as'<|Zz<|awp_ret ?_
  refine Rt ?_
  exact⟨by rw [closedB,hg,Bool.false_and],rfl⟩
 have hg:gMap m=true:=by
  have h:(!gMap m)=false:=hc1
  simpa using h
 rw [closedB,hg,Bool.true_and,← closed22_eq]
 refine awp_skip<|Sq<|Sq<|Rg<|Dd as'<|Zz<|awp_block ?_
 refine awp_loop (σ:=Nat) (fun k=>([(1,.ref 1 0 0 0),(3,iv (k:Int))],[(1,bx 1 38 [.pv (slObjs m)])])) (fun k=>k≤m.length∧∀ j,j < k→∀ b,m[j]?=some b→(!gSnd m 2 b)=false) (fun k=>m.length - k) 0 ⟨by omega,by omega⟩ ?_ ?_
 ·exact Wk
 rintro k ⟨hk,hno⟩
 refine Sq<|Sq<|Rg<|Dd mv'<|Dd (fr' fo38_0)<|Dd (l1' Tryz.isAgg36)<|Dd (ll' Tryz.underlying36)<|Dd lss'<|Zz ?_
 refine Cn (fun hc2=>?_) fun hc2=>?_
 ·have hlt:k < m.length:=by have:=of_decide_eq_true hc2;omega
  obtain ⟨o,ho⟩:=get_of_lt hlt
  have hi:=map_get (f:=encObj) ho
  refine awp_skip<|Sq<|awp_block<|Sq ?_
  refine awp_drawc follows ?_
  refine Cq (by exact opd_loadn_ref rfl Tryz.isAgg38 Tryz.sizeOf38 rfl rfl rfl rfl (by simp only [Zl,encTag,encObj,encStr,encInt];rfl) rfl)<|Cq (fr' fo38_0)<|Cq (l1' Tryz.isAgg36)<|Cq mv'<|Cq (xp' so36)<|Cq (by exact opd_loadn_pad rfl Tryz.isAgg49 Tryz.sizeOf49 rfl (by omega) (by simp only [Zl,encTag,encObj,encStr,encInt];rfl) rfl)<|Cq (by exact opr_call rfl rfl Tryz.call113 rfl (sound_c m hm hmm hg 2 o (List.mem_of_getElem? ho) (lev_le _) _))<|Cq no' ?_
  refine dc_nil ⟨by kernel_rfl,?_⟩
  refine Cn (fun hc3=>?_) fun hc3=>?_
  ·have hf:m.all (gSnd m 2)=false:=by
    rw [List.all_eq_false]
    exact⟨o,List.mem_of_getElem? ho,by simpa using hc3⟩
   refine Sq<|Rg<|Dd as'<|Zz<|awp_ret ?_
   refine Rt ?_
   exact⟨by rw [hf],rfl⟩
  skip
  refine awp_skip<|Rg<|Dd mv'<|Dd ad'<|Dd as'<|Zz ?_
  exact⟨k+1,⟨by omega,pre_succ hno ho hc3⟩,by omega,Wk⟩
 have hge:k=m.length:=by have:=of_decide_eq_false hc2;omega
 subst hge
 have hf:m.all (gSnd m 2)=true:=by
  rw [List.all_eq_true]
  intro o ho
  obtain ⟨j,hj⟩:=List.mem_iff_getElem?.1 ho
  have:=hno j (List.getElem?_eq_some_iff.1 hj).1 o hj
  simpa using this
 refine awp_exit<|Sq<|Rg<|Dd as'<|Zz<|awp_ret ?_
 refine Rt ?_
 exact⟨by rw [hf],rfl⟩
end
end Go.Proofs.YtlnfjkdacimblaaGreatDoor
