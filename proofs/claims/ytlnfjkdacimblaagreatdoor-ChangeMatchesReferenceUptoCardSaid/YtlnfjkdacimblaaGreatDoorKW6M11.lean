/-
  Parts of the proof: rules of an abstract program logic, contracts of functions, plain laws. Conditions: each theorem's own.
-/
import Derived.Test.YtlnfjkdacimblaaGreatDoorKW6M10
set_option linter.unusedVariables false
set_option linter.unusedSimpArgs false
set_option maxRecDepth 100000
set_option maxHeartbeats 8000000
namespace Go.Proofs
theorem aIf:type_of% Tryz.call19:=Tryz.call19
theorem aCX:type_of% Tryz.call30:=Tryz.call30
theorem t7:type_of% Tryz.underlying85:=Tryz.underlying85
end Go.Proofs
namespace Go.Proofs.YtlnfjkdacimblaaGreatDoor
open Go.Proofs.Tryz
open Go.Abs
theorem AW (H:aE) (F:List (ByteArray×Nat)):∀ r∈(fO F).rows,∀ a∈r,Clo H a:=by intro r hr a ha;obtain ⟨i,hi⟩:=aJM.1 hr;obtain ⟨p,hp,rfl⟩:=rK.1 hi;simp only [OF,aJL] at hp;obtain ⟨q,_,rfl⟩:=Option.map_eq_some_iff.1 hp;simp only [aJD,aJH,or_false] at ha;rcases ha with rfl|rfl|rfl<;>simp
theorem AD {H:aE} {u:List Nat} (h1:(H.get 910).isSome=true) (h2:(H.get 911).isSome=true):∀ r∈(sO u).rows,∀ a∈r,Clo H a:=by
 intro r hr a ha;simp only [sO,bx,aIu] at hr;subst hr;simp only [aJD,aJH,or_false] at ha;rcases ha with rfl|rfl
 ·exact .osl h1
 exact .mp h2
theorem dQ.cv {P:Program} {N:Nat} {o:Oper} {E:dG} {H H':aE} {v v':AV} (h:dQ P N o E H v H') (e:v=v'):dQ P N o E H v' H':=e▸h
theorem NT:∀ {F:List (ByteArray×Nat)} {s:ByteArray},nO (OF F) s=(lZ F s).map fun k=>iv (k:Int)
 | [],_=>rfl
 | (k,v)::r,s=>by
  rw [OF,List.map_cons,nO,lZ];by_cases e:k=s
  ·rw [aIq e,aIq e];rfl
  rw [aIp e,aIp e];exact NT
theorem U5:∀ {F:List (ByteArray×Nat)} {s:ByteArray} {i:Nat},lZ F s=none→oH (OF F) s (iv (i:Int))=OF (F++[(s,i)])
 | [],_,_,_=>rfl
 | (k,v)::r,s,i,h=>by
  rw [lZ] at h;by_cases e:k=s
  ·rw [aIq e] at h;cases h
  rw [aIp e] at h;have:=U5 (i:=i) h;rw [OF,List.map_cons,oH,aIp e];show _::oH (OF r) s _=_;rw [this];rfl
def OkU (st:List Nat×List (ByteArray×Nat)) (m:Nat):Prop:=st.1.length=m∧tZ st.1∧∀ s j,lZ st.2 s=some j→j < m
theorem PP {st:List Nat×List (ByteArray×Nat)} {m:Nat} (h:OkU st m):OkU (st.1++[m],st.2) (m+1):=by obtain ⟨h1,h2,h3⟩:=h;refine⟨by rw [aIs,h1];rfl,?_,fun s j e=>by have:=h3 s j e;omega⟩;rw [← h1];exact T1 h2
theorem aDL {st:List Nat×List (ByteArray×Nat)} {m i:Nat} (h:OkU st m) (hi:i < m) (s:ByteArray):OkU (JH i st s) m:=by
 obtain ⟨h1,h2,h3⟩:=h;unfold JH;cases e:lZ st.2 s with
 | some k =>
  have:=h3 s k e;exact⟨by rw [uW];exact h1,B9 h2 (by omega) (by omega),h3⟩
 | none =>
  refine⟨h1,h2,fun t j ht=>?_⟩;have ht:lZ (st.2++[(s,i)]) t=some j:=ht;rw [CH] at ht;cases e2:lZ st.2 t with
  | some k=>rw [e2] at ht;cases ht;exact h3 t _ e2
  | none =>
   rw [e2] at ht;dsimp only at ht
   split at ht
   ·cases ht;exact hi
   cases ht
theorem HP {i m:Nat} (hi:i < m):∀ (ws:List ByteArray) {st:List Nat×List (ByteArray×Nat)},OkU st m→OkU (ws.foldl (JH i) st) m
 | [],_,h=>h
 | s::ws,_,h=>HP hi ws (aDL h hi s)
theorem UH (W:Nat→List ByteArray):∀ k,OkU (tL W k) k
 | 0=>⟨rfl,SL,fun s j h=>by cases h⟩
 | k+1=>HP (Nat.lt_succ_self k) _ (PP (UH W k))
def Ok2 (F:List (ByteArray×Nat)) (n:Nat) (u:List Nat):Prop:=OkU (u,F) n
theorem aDN {F:List (ByteArray×Nat)} {n i:Nat} {u:List Nat} (h:Ok2 F n u) (hi:i < n) (s:ByteArray):Ok2 F n (N9 F i u s):=by
 obtain ⟨h1,h2,h3⟩:=h;unfold N9;cases e:lZ F s with
 | some k =>
  have:=h3 s k e;have h1:u.length=n:=h1;exact⟨(uW u i k).trans h1,B9 h2 (by omega) (by omega),h3⟩
 | none=>exact⟨h1,h2,h3⟩
theorem HQ {F:List (ByteArray×Nat)} {n i:Nat} (hi:i < n):∀ (ws:List ByteArray) {u:List Nat},Ok2 F n u→Ok2 F n (ws.foldl (N9 F i) u)
 | [],_,h=>h
 | s::ws,_,h=>HQ hi ws (aDN h hi s)
theorem UK {F:List (ByteArray×Nat)} {n:Nat} {u:List Nat} (N:Nat→List ByteArray) (h:Ok2 F n u):∀ k,k≤n→Ok2 F n (wS F u N k)
 | 0,_=>h
 | k+1,hk=>HQ hk _ (UK N h k (Nat.le_of_succ_le hk))
theorem HC (f:Nat→Nat) (n:Nat):lR f (n+1)=lR f n++(if f n=n then[n] else[]):=by
 rw [lR,List.range_succ,List.filter_append,lR];congr 1;by_cases h:f n=n
 ·rw [aIq h,List.filter_cons_of_pos (by simpa using h)];rfl
 rw [aIp h,List.filter_cons_of_neg (by simpa using h)];rfl
theorem CB (f:Nat→Nat) (n r:Nat):FF f (n+1) r=FF f n r++(if f n=r then[n] else[]):=by
 rw [FF,List.range_succ,List.filter_append,FF];congr 1;by_cases h:f n=r
 ·rw [aIq h,List.filter_cons_of_pos (by simpa using h)];rfl
 rw [aIp h,List.filter_cons_of_neg (by simpa using h)];rfl
theorem QC {f:Nat→Nat} (hle:∀ x,f x≤x) {n:Nat} (h:f n=n):i7 f (n+1)=i7 f n++[[n]]∧lR f (n+1)=lR f n++[n]:=by
 have hr:=HC f n;rw [aIq h] at hr;refine⟨?_,hr⟩;rw [i7,hr,List.map_append,i7];congr 1
 ·refine List.map_congr_left fun r hr=>?_;have:=(DS.1 hr).1;rw [CB,aIp (by omega),List.append_nil]
 have h0:FF f n n=[]:=by
  refine List.eq_nil_iff_forall_not_mem.2 fun j hj=>?_;obtain ⟨h1,h2⟩:=NI.1 hj;have:=hle j;omega
 rw [List.map_cons,List.map_nil,CB,aIq h,h0];rfl
theorem XC {f:Nat→Nat} (hle:∀ x,f x≤x) (hid:∀ x,f (f x)=f x) {n:Nat} (h:f n≠n) :
  ∃ k g,(i7 f n)[k]?=some g∧(lR f n)[k]?=some (f n)∧i7 f (n+1)=(i7 f n).set k (g++[n])∧lR f (n+1)=lR f n:=by
 have hr:=HC f n;rw [aIp h,List.append_nil] at hr;have hm:f n∈lR f n:=DS.2 ⟨by have:=hle n;omega,hid n⟩;obtain ⟨k,hk⟩:=aJM.1 hm;refine⟨k,FF f n (f n),by rw [i7,aJL,hk];rfl,hk,?_,hr⟩;refine List.ext_getElem? fun j=>?_;rw [i7,hr,aJL,List.getElem?_set,i7,aIr,aJL];have hkl:=(aIv.1 hk).1;by_cases e:k=j
 ·subst e;rw [aIq rfl,aIq hkl,hk,Option.map_some,CB,aIq rfl]
 rw [aIp e];cases hj:(lR f n)[j]? with
 | none=>rfl
 | some r =>
  rw [Option.map_some,Option.map_some,CB,aIp,List.append_nil];rintro rfl;exact e (RZ (BM f n) hk hj)
def TV (m:Nat) (R:List Nat) (G:List (List Nat)) (u:List Nat) (F:List (ByteArray×Nat)):aE:=(905,AK m (kA 0 G))::(912,mI (L6 0 R))::(910,uO u)::(911,fO F)::(1,sO u)::zC 0 G
theorem yC (m:Nat) (R:List Nat) (G:List (List Nat)) (u:List Nat) (F:List (ByteArray×Nat)) (j:Nat) (hj:960≤j):aE.get (TV m R G u F) j=(G[j - 960]?).map gObU:=by rw [TV,get_cons_other _ _ (by omega),get_cons_other _ _ (by omega),get_cons_other _ _ (by omega),get_cons_other _ _ (by omega),get_cons_other _ _ (by omega),oM,aIq (by omega),aJJ]
theorem FR (m:Nat) (R:List Nat) (G:List (List Nat)) (u:List Nat) (F:List (ByteArray×Nat)) (j:Nat) (hj:j < 960):aE.get (TV m R G u F) j=aE.get ((905,AK m (kA 0 G))::(912,mI (L6 0 R))::(910,uO u)::(911,fO F)::[(1,sO u)]) j:=by
 rw [TV];have h0:aE.get (zC 0 G) j=none:=by rw [oM,aIp (by omega)]
 by_cases e1:j=905
 ·subst e1;rfl
 by_cases e2:j=912
 ·subst e2;rfl
 by_cases e3:j=910
 ·subst e3;rfl
 by_cases e4:j=911
 ·subst e4;rfl
 by_cases e5:j=1
 ·subst e5;rfl
 rw [get_cons_other _ _ e1,get_cons_other _ _ e2,get_cons_other _ _ e3,get_cons_other _ _ e4,get_cons_other _ _ e5,h0,get_cons_other _ _ e1,get_cons_other _ _ e2,get_cons_other _ _ e3,get_cons_other _ _ e4,get_cons_other _ _ e5];rfl
theorem aC5 {m m1:Nat} {R R':List Nat} {G:List (List Nat)} {u:List Nat} {F:List (ByteArray×Nat)} {i:Nat} {o1:Ob} (j:Nat) :
  aE.get (TV (m+1) R' (G++[[i]]) u F) j=aE.get ((905,AK (m+1) ((kA 0 G++[[AV.pv .nils]]).set G.length [.osl (0+G.length+960) 1 0 1]))::(0+G.length+960,⟨1,1,3,[[iv (i:Int)]]⟩)::(0+G.length+960,⟨0,1,3,[]⟩)::(905,o1)::(912,mI (L6 0 R'))::TV m1 R G u F) j:=by
 by_cases h:j < 960
 ·rw [FR _ _ _ _ _ _ h];by_cases e:j=905
  ·subst e;rw [get_cons_same,get_cons_same,WY];rfl
  refine Eq.trans ?_ (Eq.symm ((get_cons_other _ _ e).trans ((get_cons_other _ _ (by omega)).trans ((get_cons_other _ _ (by omega)).trans (get_cons_other _ _ e)))));rw [get_cons_other _ _ e];by_cases e2:j=912
  ·subst e2;rw [get_cons_same,get_cons_same]
  rw [get_cons_other _ _ e2,get_cons_other _ _ e2,FR _ _ _ _ _ _ h,get_cons_other _ _ e,get_cons_other _ _ e2]
 rw [yC _ _ _ _ _ _ (by omega),get_cons_other _ _ (by omega)];by_cases e:j=0+G.length+960
 ·subst e;rw [get_cons_same];have e3:0+G.length+960 - 960=G.length:=by omega
  rw [e3,List.getElem?_append_right (aIx _),Nat.sub_self];rfl
 rw [get_cons_other _ _ e,get_cons_other _ _ e,get_cons_other _ _ (by omega),get_cons_other _ _ (by omega),yC _ _ _ _ _ _ (by omega)];by_cases h4:j - 960 < G.length
 ·rw [List.getElem?_append_left h4]
 rw [List.getElem?_eq_none (by rw [aIs,List.length_singleton];omega),List.getElem?_eq_none (by omega)]
theorem Y3 {m:Nat} {R:List Nat} {G:List (List Nat)} {u:List Nat} {F:List (ByteArray×Nat)} {i k:Nat} {g:List Nat} (hk:G[k]?=some g) (j:Nat) :
  aE.get (TV m R (G.set k (g++[i])) u F) j=aE.get ((905,AK m ((kA 0 G).set k [.osl (0+k+960) (g.length+1) 0 (g.length+1)]))::(0+k+960,⟨g.length+1,1,3,gX (g++[i])⟩)::TV m R G u F) j:=by
 have hkl:=(aIv.1 hk).1;have hgl:(g++[i]).length=g.length+1:=by rw [aIs];rfl
 by_cases h:j < 960
 ·rw [FR _ _ _ _ _ _ h];by_cases e:j=905
  ·subst e;rw [get_cons_same,get_cons_same,WW,hgl]
  refine Eq.trans ?_ (Eq.symm ((get_cons_other _ _ e).trans (get_cons_other _ _ (by omega))));rw [get_cons_other _ _ e,FR _ _ _ _ _ _ h,get_cons_other _ _ e]
 rw [yC _ _ _ _ _ _ (by omega),get_cons_other _ _ (by omega),List.getElem?_set];by_cases e:j=0+k+960
 ·subst e;have e3:0+k+960 - 960=k:=by omega
  rw [get_cons_same,e3,aIq rfl,aIq hkl,Option.map_some,gObU,hgl]
 rw [get_cons_other _ _ e,aIp (by omega),yC _ _ _ _ _ _ (by omega)]
theorem QK (G:List (List Nat)):dF (zC 0 G):=dF.of fun p hp r hr a ha=>by
 obtain ⟨j,g,_,rfl⟩:=IN G 0 p hp;exact mA _ g r hr a ha
theorem Y4 {t:Nat} {E:dG} (m:Nat) (R:List Nat) (G:List (List Nat)) (u:List Nat) (F:List (ByteArray×Nat)) (hE:E.get t=some (.osl 905 m 0 G.length)):cY [] E (TV m R G u F) [(t,.osl 905 m 0 G.length)] ((905,AK m (kA 0 G))::zC 0 G):=by
 refine cY.front' [(905,AK m (kA 0 G)),(912,mI (L6 0 R)),(910,uO u),(911,fO F),(1,sO u)] [(905,AK m (kA 0 G))] ⟨⟨_,hE,rfl⟩,.osl rfl,trivial⟩ ?_ ?_ ?_ (QK G) ?_
 ·intro q hq;have hn:∀ id,id < 960→aE.get (zC 0 G) id=none:=fun id h=>by rw [oM,aIp (by omega)]
  simp only [aJD,aJH,or_false] at hq;rcases hq with rfl|rfl|rfl|rfl|rfl
  ·exact .inl rfl
  ·exact .inr (hn 912 (by decide))
  ·exact .inr (hn 910 (by decide))
  ·exact .inr (hn 911 (by decide))
  exact .inr (hn 1 (by decide))
 ·intro q hq;rw [aIu] at hq;subst hq;rfl
 ·intro q hq;rw [aIu] at hq;subst hq;refine WX fun j hj=>?_;show (aE.get ((905,_)::zC 0 G) (0+j+960)).isSome=true;rw [get_cons_other _ _ (by omega),oM,aIq (by omega)];have e:0+j+960 - (0+960)=j:=by omega
  rw [e,aIw hj];rfl
 intro q _;exact .inr rfl
theorem Y0 (W:Nat→List ByteArray) (i:Nat):tL W (i+1)=(W i).foldl (JH i) ((tL W i).1++[i],(tL W i).2):=rfl
theorem YY (F:List (ByteArray×Nat)) (u:List Nat) (N:Nat→List ByteArray) (i:Nat):wS F u N (i+1)=(N i).foldl (N9 F i) (wS F u N i):=rfl
theorem UP {F:List (ByteArray×Nat)} {s:ByteArray} {j:Nat} (h:lZ F s=some j):AV.tup [(nO (OF F) s).getD (iv 0),bv (nO (OF F) s).isSome]=.tup [iv (j:Int),bv true]:=by rw [NT,h];rfl
theorem UQ {F:List (ByteArray×Nat)} {s:ByteArray} (h:lZ F s=none):AV.tup [(nO (OF F) s).getD (iv 0),bv (nO (OF F) s).isSome]=.tup [iv 0,bv false]:=by rw [NT,h];rfl
theorem Y7 (l:List GEdit) (he:∀ e∈l,tQ e∧e.refs.length+e.obj.refs.length < 1099511627776) (hv:eW l=true) :
  aH Tryz.prog 19 [.pv (cD l)] [] (fun r H'=>r=.osl 905 (gS l).length 0 (gS l).length∧H'=[(905,AK (gS l).length (oT (gS l)))]):=by
 obtain ⟨h0,h200,hval⟩:=qC hv;have hml:(l.map aJ).length=l.length:=aIr _;refine Bd func19 rfl ntmps19<|Sr<|Dd aO<|Zz<|Sq<|Sr<|Dd aD<|Dd (by exact aA rfl rfl aCY rfl (pT l _ (by omega) (fun e h=>(he e h).1)))<|Dd jU<|Zz ?_;refine Cn ?_ ?_<;>intro hc1
 ·rw [hv] at hc1;cases hc1
 refine aB<|Sr<|Dd (by exact iT (id:=911) oW rfl rfl)<|Dd (jG aHB)<|Dd (by exact cE (id:=1) rfl rfl rfl rfl rfl)<|Dd aO<|Zz<|Sq<|Sq ?_;refine iB.ent (E':=[(0,.pv (cD l)),(3,.ref 1 0 0 0)]) (H':=[(910,⟨0,1,3,[]⟩),(911,fO []),(1,sO [])]) (cY.nz 910 1 3 rfl rfl ⟨⟨_,rfl,(by exact Nz.same (by(simp;done)))⟩,⟨_,rfl,(by exact Nz.same (by(simp;rfl)))⟩,trivial⟩ ⟨⟨_,rfl,rfl,rfl,rfl,(by exact .inl ⟨rfl,(by(intro r hr;cases hr;done))⟩)⟩,⟨_,rfl,rfl,rfl,rfl,(by exact .inr ⟨_,_,rfl,rfl,(by repeat(first|exact trivial|refine⟨(by first|exact Nz.own|exact Nz.same (by(simp;rfl))),?_⟩))⟩)⟩,trivial⟩ trivial) ?_;refine Rg<|Dd aD<|Dd (fK cB)<|Dd aD<|Zz<|aF ?_;refine bG (σ:=Nat) (fun i=>([(0,.pv (cD l)),(3,.ref 1 0 0 0),(26,.pv (cD l)),(27,iv ((l.map aJ).length:Int)),(28,iv (i:Int))],sH (tL (sN l) i).1 (tL (sN l) i).2)) (fun i=>i≤l.length) (fun i=>l.length - i) 0 (aJI _) ?_ ?_
 ·exact(cY.wk (Eb<|Ea<|Eb<|Eb<|Eb<|trivial) (Hc (by(intro r hr;cases hr;done))<|Hc (by(intro r hr;cases hr;done))<|Hc (AD rfl rfl)<|trivial) trivial)
 rintro i hi;have hok:=UH (sN l) i;have hst:=Y0 (sN l) i;obtain ⟨u,hu⟩:∃ u,u=(tL (sN l) i).1:=⟨_,rfl⟩;obtain ⟨F,hF⟩:∃ F,F=(tL (sN l) i).2:=⟨_,rfl⟩;rw [← hu,← hF] at hst ⊢;have hok':OkU (u,F) i:=by rw [hu,hF];exact hok
 have hul:u.length=i:=hok'.1;refine Sr<|Dd dD<|Zz<|Sq ?_;refine Cn ?_ ?_<;>intro hc2
 ·have hlt:i < l.length:=by have:=aIn hc2;omega
  obtain ⟨e,hee⟩:=aX hlt;have hie:=bZ (f:=aJ) hee;have hW:sN l i=cM e:=by rw [sN,hee];rfl
  rw [hW] at hst;have hWl:(cM e).length≤2:=by
   rw [cM]
   split
   ·simp
   split<;>simp
  have hok2:=PP hok';refine aB<|Sq<|aF<|Sr<|Dd aD<|Dd (e8 lK)<|Dd (by exact bQ rfl bA aL rfl (by omega) (by simp only [Zl,aQ,aG,encStr,aJ,encInt];rfl) rfl)<|Dd (by exact bJ (id:=5) rfl BA rfl rfl)<|Dd aO<|Uu (fP aL)<|Zz<|Sr<|Dd aD<|Dd aD<|Dd pY<|Dd (bH IK)<|Dd (cA kJ)<|Dd aD<|Dd (by exact aT [encInt (i:Int)] rfl lP rfl rfl rfl rfl rfl (by intro r hr;rw [aIu] at hr;subst hr;rfl))<|Dd (by exact c6 (ps:=[encInt (i:Int)]) rfl lP ei3 rfl rfl rfl rfl rfl (uY u) rfl (by intro r hr;rw [aIu] at hr;subst hr;rfl) (m:=1) rfl (by omega) rfl (D4 u i))<|Dd pY<|Dd (bH IK)<|Uu (by exact bW rfl sizeOf42 rfl rfl rfl rfl rfl rfl (aJE rfl) rfl rfl)<|Zz<|Sr<|Dd (by exact aI rfl bA aL rfl rfl rfl rfl (by simp only [Zl,aQ,aG,encStr,aJ,encInt];rfl) rfl) ?_;refine Dd (by exact aA rfl rfl call45 rfl (YU e _))<|Dd (fK aK)<|Dd aD<|Zz<|aF ?_;have esH:sH (u++[i]) F=[(910,⟨u.length+1,1,3,gX (u++[i])⟩),(911,fO F),(1,bx 2 82 [.osl 910 (u.length+1) 0 (u.length+1),.mp 911 0])]:=by simp [sH,uO,sO]
  refine bG (σ:=Nat) (fun k=>([(0,.pv (cD l)),(3,.ref 1 0 0 0),(26,.pv (cD l)),(27,iv ((l.map aJ).length:Int)),(28,iv (i:Int)),(4,iv (i:Int)),(44,.pv (cS (cM e))),(45,iv (((cM e).map encStr).length:Int)),(46,iv (k:Int))],sH (((cM e).take k).foldl (JH i) (u++[i],F)).1 (((cM e).take k).foldl (JH i) (u++[i],F)).2)) (fun k=>k≤(cM e).length) (fun k=>(cM e).length - k) 0 (aJI _) ?_ ?_
  ·show cY _ _ _ _ (sH (u++[i]) F);rw [esH];exact(cY.wk (Eb<|Ea<|Eb<|Eb<|Eb<|Eb<|Eb<|Eb<|Eb<|trivial) (Hc (mA _ _)<|Hc (AW _ _)<|Hc (by(simp;exact⟨rfl,rfl⟩))<|trivial) trivial)
  rintro k hk;have hmw:((cM e).map encStr).length=(cM e).length:=aIr _;have hokk:=HP (Nat.lt_succ_self i) ((cM e).take k) hok2;obtain ⟨U,hU⟩:∃ U,U=(((cM e).take k).foldl (JH i) (u++[i],F)).1:=⟨_,rfl⟩;obtain ⟨Fk,hFk⟩:∃ Fk,Fk=(((cM e).take k).foldl (JH i) (u++[i],F)).2:=⟨_,rfl⟩;have hp:((cM e).take k).foldl (JH i) (u++[i],F)=(U,Fk):=by rw [hU,hFk]
  rw [hp] at hokk ⊢;dsimp only;obtain ⟨hUl,hUo,hFo⟩:=hokk;dsimp only at hUl hUo hFo;refine Sr<|Dd dD<|Zz<|Sq ?_;refine Cn ?_ ?_<;>intro hc3
  ·have hkl:k < (cM e).length:=by have:=aIn hc3;omega
   obtain ⟨s,hs⟩:=aX hkl;have his:=bZ (f:=encStr) hs;have hnx:((cM e).take (k+1)).foldl (JH i) (u++[i],F)=JH i (U,Fk) s:=by rw [List.take_add_one,hs,List.foldl_append,hp];rfl
   cases hfs:lZ Fk s with
   | some j =>
    have hj:=hFo s j hfs;have hw:JH i (U,Fk) s=(oI U i j,Fk):=by rw [JH];simp only [hfs]
    refine aB<|Sq<|aF<|Sr<|Dd (e8 cC)<|Dd (fM isAgg9)<|Dd aO<|Zz<|Sr<|Dd aD<|Dd pY<|Dd (bH IJ)<|Dd (cA fE)<|Dd aD<|Dd (by exact dQ.cv (gW (κ:=oW) (k:=s) (l:=OF Fk) rfl gI underlying9 rfl rfl rfl rfl rfl eC (.inl rfl)) (UP hfs))<|Dd aD<|Dd eZ<|Dd eZ<|Dd aO<|Dd aO<|Zz<|Sr<|Dd aD<|Zz ?_;refine Cn ?_ ?_<;>intro hc4
    ·refine Rg<|Dd aD<|Dd aD<|Dd aD<|Dd (by exact aA rfl rfl call46 rfl (UX U Fk i j hUo (by omega) (by omega) (by omega)))<|Zz<|Rg<|Dd eL<|Dd aD<|Zz ?_;refine⟨k+1,by omega,by omega,?_⟩;rw [hnx,hw];exact E0
    cases hc4
   | none =>
    have hw:JH i (U,Fk) s=(U,Fk++[(s,i)]):=by rw [JH];simp only [hfs]
    refine aB<|Sq<|aF<|Sr<|Dd (e8 cC)<|Dd (fM isAgg9)<|Dd aO<|Zz<|Sr<|Dd aD<|Dd pY<|Dd (bH IJ)<|Dd (cA fE)<|Dd aD<|Dd (by exact dQ.cv (gW (κ:=oW) (k:=s) (l:=OF Fk) rfl gI underlying9 rfl rfl rfl rfl rfl eC (.inl rfl)) (UQ hfs))<|Dd aD<|Dd eZ<|Dd eZ<|Dd aO<|Dd aO<|Zz<|Sr<|Dd aD<|Zz ?_;refine Cn ?_ ?_<;>intro hc5
    ·cases hc5
    refine Rg<|Dd aD<|Dd pY<|Dd (bH IJ)<|Dd (cA fE)<|Dd aD<|Dd aD<|Uu (by exact fY (κ:=oW) (k:=s) (l:=OF Fk) (.inl rfl) gI underlying9 rfl rfl rfl rfl rfl rfl rfl (U5 hfs))<|Zz<|Rg<|Dd eL<|Dd aD<|Zz ?_;refine⟨k+1,by omega,by omega,?_⟩;rw [hnx,hw];exact(cY.wk (Eb<|Ea<|Eb<|Eb<|Eb<|Eb<|Eb<|Eb<|Eb<|trivial) (Hc (mA _ _)<|Hc (AW _ _)<|Hc (AD rfl rfl)<|trivial) trivial)
  have hkl:k=(cM e).length:=by have:=aIo hc3;omega
  subst hkl;rw [List.take_length,← hst] at hp;refine aZ<|Rg<|Dd eL<|Dd aD<|Zz ?_;refine⟨i+1,by omega,by omega,?_⟩;rw [hp];exact(cY.wk (Eb<|Ea<|Eb<|Eb<|Eb<|trivial) (Hc (mA _ _)<|Hc (AW _ _)<|Hc (AD rfl rfl)<|trivial) trivial)
 have hge:i=l.length:=by have:=aIo hc2;omega
 subst hge;refine aZ<|Sq<|Sr<|Dd aD<|Dd (fK cB)<|Dd aD<|Zz<|aF ?_;refine bG (σ:=Nat) (fun i=>([(0,.pv (cD l)),(3,.ref 1 0 0 0),(72,.pv (cD l)),(73,iv ((l.map aJ).length:Int)),(74,iv (i:Int))],sH (wS F u (tT l) i) F)) (fun i=>i≤l.length) (fun i=>l.length - i) 0 (aJI _) ?_ ?_
 ·exact(cY.wk (Eb<|Ea<|Eb<|Eb<|Eb<|trivial) (Hc (mA _ _)<|Hc (AW _ _)<|Hc (AD rfl rfl)<|trivial) trivial)
 rintro i hi;have hok2:=UK (tT l) hok' i hi;have hst2:=YY F u (tT l) i;obtain ⟨v,hv2⟩:∃ v,v=wS F u (tT l) i:=⟨_,rfl⟩;rw [← hv2] at hok2 hst2 ⊢;refine Sr<|Dd dD<|Zz<|Sq ?_;refine Cn ?_ ?_<;>intro hc6
 ·have hlt:i < l.length:=by have:=aIn hc6;omega
  obtain ⟨e,hee⟩:=aX hlt;have hie:=bZ (f:=aJ) hee;have hW:tT l i=eO e:=by rw [tT,hee];rfl
  rw [hW] at hst2;obtain ⟨hoe,hre⟩:=he e (aJB hee);obtain ⟨Nm,hNm⟩:∃ Nm,Nm=eO e:=⟨_,rfl⟩;have hNl:Nm.length < 1099511627999:=by
   rw [hNm,eO]
   split
   ·rw [l7];have h1:=List.length_filter_le nonE (s9 e);have h2:=jT e.obj.refs (fJ (fJ [] [e.id,e.other,e.node,e.obj.id]) e.refs);have h3:=jT e.refs (fJ [] [e.id,e.other,e.node,e.obj.id]);have h4:=jT [e.id,e.other,e.node,e.obj.id] [];simp only [aIt,List.length_nil] at h4;have h5:(s9 e).length≤4+e.refs.length+e.obj.refs.length:=by
     show (fJ (fJ (fJ [] [e.id,e.other,e.node,e.obj.id]) e.refs) e.obj.refs).length≤_;omega
    omega
   exact(by decide)
  have hcN:=fun H=>aAh e H hoe hre;rw [← hNm] at hst2 hcN;refine aB<|Sq<|aF<|Sr<|Dd aD<|Dd (e8 lK)<|Dd (by exact bQ rfl bA aL rfl (by omega) (by simp only [Zl,aQ,aG,encStr,aJ,encInt];rfl) rfl)<|Dd (by exact bJ (id:=11) rfl BA rfl rfl)<|Dd aO<|Uu (fP aL)<|Zz<|Sr<|Dd (by exact aI rfl bA aL rfl rfl rfl rfl (by simp only [Zl,aQ,aG,encStr,aJ,encInt];rfl) rfl)<|Dd (by exact aA rfl rfl call47 rfl (hcN _))<|Dd (fK aK)<|Dd aD<|Zz<|aF ?_;refine bG (σ:=Nat) (fun k=>([(0,.pv (cD l)),(3,.ref 1 0 0 0),(72,.pv (cD l)),(73,iv ((l.map aJ).length:Int)),(74,iv (i:Int)),(10,iv (i:Int)),(80,.pv (cS Nm)),(81,iv ((Nm.map encStr).length:Int)),(82,iv (k:Int))],sH ((Nm.take k).foldl (N9 F i) v) F)) (fun k=>k≤Nm.length) (fun k=>Nm.length - k) 0 (aJI _) ?_ ?_
  ·exact(cY.wk (Eb<|Ea<|Eb<|Eb<|Eb<|Eb<|Eb<|Eb<|Eb<|trivial) (Hc (mA _ _)<|Hc (AW _ _)<|Hc (AD rfl rfl)<|trivial) trivial)
  rintro k hk;have hmw:(Nm.map encStr).length=Nm.length:=aIr _;have hokk:=HQ hlt (Nm.take k) hok2;obtain ⟨U,hp⟩:∃ U,U=(Nm.take k).foldl (N9 F i) v:=⟨_,rfl⟩;rw [← hp] at hokk ⊢;obtain ⟨hUl,hUo,hFo⟩:=hokk;dsimp only at hUl hUo hFo;refine Sr<|Dd dD<|Zz<|Sq ?_;refine Cn ?_ ?_<;>intro hc7
  ·have hkl:k < Nm.length:=by have:=aIn hc7;omega
   obtain ⟨s,hs⟩:=aX hkl;have his:=bZ (f:=encStr) hs;have hnx:(Nm.take (k+1)).foldl (N9 F i) v=N9 F i U s:=by rw [List.take_add_one,hs,List.foldl_append,← hp];rfl
   cases hfs:lZ F s with
   | some j =>
    have hj:=hFo s j hfs;have hw:N9 F i U s=oI U i j:=by rw [N9];simp only [hfs]
    refine aB<|Sq<|aF<|Sr<|Dd (e8 cC)<|Dd (fM isAgg9)<|Dd aO<|Zz<|Sr<|Dd aD<|Dd pY<|Dd (bH IJ)<|Dd (cA fE)<|Dd aD<|Dd (by exact dQ.cv (gW (κ:=oW) (k:=s) (l:=OF F) rfl gI underlying9 rfl rfl rfl rfl rfl eC (.inl rfl)) (UP hfs))<|Dd aD<|Dd eZ<|Dd eZ<|Dd aO<|Dd aO<|Zz<|Sr<|Dd aD<|Zz ?_;refine Cn ?_ ?_<;>intro hc8
    ·refine Rg<|Dd aD<|Dd aD<|Dd aD<|Dd (by exact aA rfl rfl call46 rfl (UX U F i j hUo (by omega) (by omega) (by omega)))<|Zz<|Rg<|Dd eL<|Dd aD<|Zz ?_;refine⟨k+1,by omega,by omega,?_⟩;rw [hnx,hw];exact E0
    cases hc8
   | none =>
    have hw:N9 F i U s=U:=by rw [N9];simp only [hfs]
    refine aB<|Sq<|aF<|Sr<|Dd (e8 cC)<|Dd (fM isAgg9)<|Dd aO<|Zz<|Sr<|Dd aD<|Dd pY<|Dd (bH IJ)<|Dd (cA fE)<|Dd aD<|Dd (by exact dQ.cv (gW (κ:=oW) (k:=s) (l:=OF F) rfl gI underlying9 rfl rfl rfl rfl rfl eC (.inl rfl)) (UQ hfs))<|Dd aD<|Dd eZ<|Dd eZ<|Dd aO<|Dd aO<|Zz<|Sr<|Dd aD<|Zz ?_;refine Cn ?_ ?_<;>intro hc9
    ·cases hc9
    refine aB<|Rg<|Dd eL<|Dd aD<|Zz ?_;refine⟨k+1,by omega,by omega,?_⟩;rw [hnx,hw];exact E0
  have hkl:k=Nm.length:=by have:=aIo hc7;omega
  subst hkl;rw [List.take_length,← hst2] at hp;refine aZ<|Rg<|Dd eL<|Dd aD<|Zz ?_;refine⟨i+1,by omega,by omega,?_⟩;rw [← hp];exact(cY.wk (Eb<|Ea<|Eb<|Eb<|Eb<|trivial) (Hc (mA _ _)<|Hc (AW _ _)<|Hc (AD rfl rfl)<|trivial) trivial)
 have hge:i=l.length:=by have:=aIo hc6;omega
 subst hge;have htop:uI l=v:=by rw [hv2,hu,hF];rfl
 obtain ⟨hcl,htl,hup⟩:=GN hv;have hgU:gS l=i7 (top (uI l)) l.length:=by rw [gS,aIq hv]
 rw [hgU];rw [htop] at hcl htl hup ⊢;have hle:∀ x,top v x≤x:=hcl.le;have hid:∀ x,top v (top v x)=top v x:=hcl.idem;refine aZ<|Sr<|Dd (by exact fI (id:=905) (sz:=1) (ty:=42) rfl rfl rfl)<|Zz<|Sr<|Dd (by exact iT (id:=912) (vY .i64) rfl rfl)<|Dd aO<|Zz<|Sq<|Sr<|Dd aD<|Dd (fK cB)<|Dd aD<|Zz<|aF ?_;refine bG (σ:=Nat) (fun i=>([(3,.ref 1 0 0 0),(16,.osl 905 (i7 (top v) i).length 0 (i7 (top v) i).length),(17,.mp 912 0),(103,.pv (cD l)),(104,iv ((l.map aJ).length:Int)),(105,iv (i:Int))],TV (i7 (top v) i).length (lR (top v) i) (i7 (top v) i) v F)) (fun i=>i≤l.length) (fun i=>l.length - i) 0 (aJI _) ?_ ?_
 ·show cY _ _ _ _ [(905,AK 0 []),(912,mI []),(910,uO v),(911,fO F),(1,sO v)];exact(cY.wk (Ea<|Ea<|Ea<|Eb<|Eb<|Eb<|trivial) (Hc (by(intro r hr;cases hr;done))<|Hc (by(intro r hr;cases hr;done))<|Hc (mA _ _)<|Hc (AW _ _)<|Hc (AD rfl rfl)<|trivial) trivial)
 rintro i hi;obtain ⟨G,hG⟩:∃ G,G=i7 (top v) i:=⟨_,rfl⟩;obtain ⟨R,hR⟩:∃ R,R=lR (top v) i:=⟨_,rfl⟩;have hGR:G.length=R.length:=by rw [hG,hR,i7,aIr]
 have hRl:R.length≤i:=by rw [hR,lR];exact Nat.le_trans (List.length_filter_le _ _) (by rw [List.length_range];exact aIx _)
 have hRn:R.Nodup:=by rw [hR];exact ND (BM _ _)
 have hRm:i∉R:=fun h=>by rw [hR] at h;have:=(DS.1 h).1;omega
 rw [← hG,← hR];have hh1:aE.get (TV G.length R G v F) 1=some (sO v):=rfl;have hh2:aE.get (TV G.length R G v F) 910=some (uO v):=rfl;refine Sr<|Dd dD<|Zz<|Sq ?_;refine Cn ?_ ?_<;>intro hc10
 ·have hlt:i < l.length:=by have:=aIn hc10;omega
  refine aB<|Sq<|aF<|Sr<|Dd aD<|Dd aO<|Zz<|Sr<|Dd aD<|Dd aD<|Dd (by exact aA rfl rfl aId rfl (ZF v i _ hh1 hh2 hup (by omega) (by omega)))<|Dd aO<|Zz<|Sq<|Sr<|Dd aD<|Dd aD<|Dd cI<|Zz ?_;refine Cn ?_ ?_<;>intro hc11
  ·have hroot:top v i=i:=by have:=aIn hc11;omega
   obtain ⟨q1,q2⟩:=QC hle hroot;rw [← hG] at q1;rw [← hR] at q2;have hput:oH (L6 0 R) (i:Int) (iv (G.length:Int))=L6 0 (R++[i]):=by
    have:=VD R 0 i hRm;rw [aJJ,← hGR] at this;exact this
   have hRn2:(R++[i]).Nodup:=List.nodup_append.2 ⟨hRn,by simp,fun a ha b hb e=>by
    rw [aIu] at hb;subst hb;subst e;exact hRm ha⟩
   have hlk:(nO (L6 0 (R++[i])) (i:Int)).getD (iv 0)=iv (G.length:Int):=by
    rw [N3 (R++[i]) 0 G.length i hRn2 (by rw [hGR,List.getElem?_append_right (aIx _),Nat.sub_self];rfl),aJJ];rfl
   have hlen:(kA 0 G++[[AV.pv .nils]]).length=G.length+1:=by rw [aIs,j9];rfl
   have hnl:(kA 0 G++[[AV.pv .nils]])[G.length]?=some [.pv .nils]:=by rw [List.getElem?_append_right (by rw [j9];exact aIx _),j9,Nat.sub_self];rfl
   have hno:∀ (o1 o2:Ob),aE.get ((905,o1)::(912,o2)::TV G.length R G v F) (0+G.length+960)=none:=fun o1 o2=>by
    rw [get_cons_other _ _ (by omega),get_cons_other _ _ (by omega),yC _ _ _ _ _ _ (by omega),List.getElem?_eq_none (by omega)];rfl
   rw [hroot];refine Sr<|Dd aD<|Dd aD<|Dd aD<|Dd (by exact dV rfl lL rfl rfl rfl)<|Uu (by exact fY (κ:=vY .i64) (k:=(i:Int)) (l:=L6 0 R) (.inl rfl) t7 underlying3 rfl rfl rfl rfl rfl rfl rfl hput)<|Zz<|Rg<|Dd aD<|Dd (by exact MD rfl DD)<|Dd (by exact c6 (ps:=[[.nils]]) rfl DD aGp rfl rfl rfl rfl rfl (j9 G 0) rfl (by intro r hr;rw [aIu] at hr;subst hr;rfl) (m:=1) rfl (by omega) rfl rfl)<|Dd aO<|Zz<|aU follows<|Cr [905] (fun _ _=>aD)<|Cr [912] (fun _ _=>aD)<|Cr [] (fun _ _=>aD)<|Cr [912] (fun H1 hH=>by exact dQ.cv (rV (κ:=vY .i64) (k:=(i:Int)) (l:=L6 0 (R++[i])) rfl t7 underlying3 rfl ((hH _ rfl).trans rfl) rfl rfl rfl eC (.inl rfl)) hlk)<|Cr [905] (fun _ _=>aD)<|Cr [912] (fun _ _=>aD)<|Cr [] (fun _ _=>aD)<|Cr [912] (fun H1 hH=>by exact dQ.cv (rV (κ:=vY .i64) (k:=(i:Int)) (l:=L6 0 (R++[i])) rfl t7 underlying3 rfl ((hH _ rfl).trans rfl) rfl rfl rfl eC (.inl rfl)) hlk) ?_;refine Cr [905] (fun H1 hH=>by exact cG rfl DD rfl ((hH _ rfl).trans rfl) rfl rfl rfl (by omega) (by exact aJC _) (Nat.lt_succ_self _) (aJJ _))<|Cr [905] (fun H1 hH=>by exact aR rfl kJ rfl ((hH _ rfl).trans rfl) rfl hnl rfl)<|Cr [] (fun _ _=>aD)<|Cr [] (fun H1 hH=>by exact aT [encInt (i:Int)] rfl lP rfl rfl rfl rfl rfl (by intro r hr;rw [aIu] at hr;subst hr;rfl)) ?_;refine bT (r:=⟨_,some [0+G.length+960],[_,_]⟩) (DStep.plain rfl (fun H1 hH=>by exact JO (t:=130) (id:=0+G.length+960) (ps:=[encInt (i:Int)]) rfl lP ei3 rfl rfl (by intro r hr;rw [aIu] at hr;subst hr;rfl) (m:=1) rfl (by decide) rfl ((hH _ (xO.2 (aIu.2 rfl))).trans (hno _ _)))) rfl ?_;refine Cr [905] (fun H1 hH=>by exact cG rfl DD rfl ((hH _ rfl).trans rfl) rfl rfl rfl (by omega) (by exact aJC _) (Nat.lt_succ_self _) (aJJ _))<|Cp [905] (fun H1 hH=>by exact bW rfl sizeOf42 rfl rfl rfl ((hH _ rfl).trans (get_cons_other _ _ (by omega))) rfl hnl (by simp) rfl rfl)<|bM<|Kr<|Rg<|Dd eL<|Dd aD<|Zz ?_;refine⟨i+1,by omega,by omega,?_⟩;dsimp only;rw [q1,q2,aIs];exact cY.get' ⟨⟨_,rfl,rfl⟩,⟨_,rfl,rfl⟩,⟨_,rfl,rfl⟩,⟨_,rfl,rfl⟩,⟨_,rfl,rfl⟩,⟨_,rfl,rfl⟩,trivial⟩ (fun j=>aC5 j)
  have hroot:top v i≠i:=by have:=aIo hc11;omega
  obtain ⟨k,g,hk1,hk2,q1,q2⟩:=XC hle hid hroot;rw [← hG] at hk1 q1;rw [← hR] at hk2 q2;have hkl:=(aIv.1 hk1).1;have hgl:g.length≤i:=by
   have h1:g∈i7 (top v) i:=by rw [← hG];exact aJB hk1
   obtain ⟨r,_,rfl⟩:=List.mem_map.1 h1;exact Nat.le_trans (List.length_filter_le _ _) (by rw [List.length_range];exact aIx _)
  have hlk:(nO (L6 0 R) ((top v i:Nat):Int)).getD (iv 0)=iv (k:Int):=by
   rw [N3 R 0 k _ hRn hk2,aJJ];rfl
  have hol:(kA 0 G).length=G.length:=j9 G 0;have hor:(kA 0 G)[k]?=some [.osl (0+k+960) g.length 0 g.length]:=by rw [nJ,hk1];rfl
  have hfam:aE.get (TV G.length R G v F) (0+k+960)=some (gObU g):=by
   rw [yC _ _ _ _ _ _ (by omega)];have e3:0+k+960 - 960=k:=by omega
   rw [e3,hk1];rfl
  refine aB<|aU follows<|Cr [905] (fun _ _=>aD)<|Cr [912] (fun _ _=>aD)<|Cr [] (fun _ _=>aD)<|Cr [912] (fun H1 hH=>by exact dQ.cv (rV (κ:=vY .i64) (k:=((top v i:Nat):Int)) (l:=L6 0 R) rfl t7 underlying3 rfl ((hH _ rfl).trans rfl) rfl rfl rfl eC (.inl rfl)) hlk)<|Cr [905] (fun _ _=>aD)<|Cr [912] (fun _ _=>aD)<|Cr [] (fun _ _=>aD)<|Cr [912] (fun H1 hH=>by exact dQ.cv (rV (κ:=vY .i64) (k:=((top v i:Nat):Int)) (l:=L6 0 R) rfl t7 underlying3 rfl ((hH _ rfl).trans rfl) rfl rfl rfl eC (.inl rfl)) hlk)<|Cr [905] (fun H1 hH=>by exact cG rfl DD rfl ((hH _ rfl).trans rfl) rfl rfl rfl (by omega) (by exact aJC _) hkl (aJJ _))<|Cr [905] (fun H1 hH=>by exact aR rfl kJ rfl ((hH _ rfl).trans rfl) rfl hor rfl)<|Cr [] (fun _ _=>aD) ?_;refine Cr [] (fun H1 hH=>by exact aT [encInt (i:Int)] rfl lP rfl rfl rfl rfl rfl (by intro r hr;rw [aIu] at hr;subst hr;rfl))<|Cp [0+k+960] (fun H1 hH=>by exact c6 (id:=0+k+960) (ps:=[encInt (i:Int)]) rfl lP ei3 rfl ((hH _ (xO.2 (aIu.2 rfl))).trans hfam) rfl rfl rfl (uY g) rfl (by intro r hr;rw [aIu] at hr;subst hr;rfl) (m:=1) rfl (by omega) rfl (D4 g i))<|Cr [905] (fun H1 hH=>by exact cG rfl DD rfl ((hH _ rfl).trans rfl) rfl rfl rfl (by omega) (by exact aJC _) hkl (aJJ _))<|Cp [905] (fun H1 hH=>by exact bW rfl sizeOf42 rfl rfl rfl ((hH _ rfl).trans (get_cons_other _ _ (by omega))) rfl hor (by simp) rfl rfl)<|bM<|Kr<|Rg<|Dd eL<|Dd aD<|Zz ?_;refine⟨i+1,by omega,by omega,?_⟩;dsimp only;rw [q1,q2,List.length_set];exact cY.get' ⟨⟨_,rfl,rfl⟩,⟨_,rfl,rfl⟩,⟨_,rfl,rfl⟩,⟨_,rfl,rfl⟩,⟨_,rfl,rfl⟩,⟨_,rfl,rfl⟩,trivial⟩ (fun j=>Y3 hk1 j)
 have hge:i=l.length:=by have:=aIo hc10;omega
 subst hge;rw [← hG];refine aZ<|Sq ?_;refine iB.ent (Y4 (t:=16) _ _ _ _ _ rfl) ?_;refine iB.ent (aDs G) ?_;refine Rg<|Dd aD<|Dd aO<|Zz<|aC ?_;refine cZ (H':=[(905,AK G.length (oT G))]) (.inr rfl) rfl (aN rfl) Fin.refl ?_;exact Qq
def okU (l:List GEdit):Prop:=∀ e∈l,tQ e∧e.refs.length+e.obj.refs.length < 1099511627776
theorem OI (G:List (List Nat)):oT G=(G.map FH).map (·.map .pv):=by rw [oT,List.map_map];rfl
theorem Y6 (l:List GEdit) (he:okU l) (hl:l.length < 4611686018427387904) (hv:eW l=false) (H:aE):aH Tryz.prog 19 [.pv (cD l)] H (fun r H'=>r=.pv (j5 (gS l))∧H'=H):=by
 refine Pu ?_;have hg:gS l=[]:=by rw [gS,aIp (by rw [hv];decide)]
 rw [hg];refine Bd func19 rfl ntmps19<|Sr<|Dd aO<|Zz<|Sq<|Sr<|Dd aD<|Dd (by exact aA rfl rfl aCY rfl (pT l _ hl (fun e h=>(he e h).1)))<|Dd jU<|Zz ?_;refine Cn ?_ ?_<;>intro hc1
 ·exact Sr<|Dd aO<|Zz<|aC<|Rt<|Qq
 rw [hv] at hc1;cases hc1
theorem Y5 (l:List GEdit) (he:okU l) (hv:eW l=true) (H:aE):aH Tryz.prog 19 [.pv (cD l)] H (fun r H'=>r=.pv (j5 (gS l))∧H'=H):=by refine Pu ?_;refine(Y7 l he hv).fin ?_;rintro r H1 ⟨rfl,rfl⟩;exact⟨_,_,Fin.slice0 ((gS l).map FH) rfl rfl (OI _) (aIr _),rfl,rfl⟩
theorem MH (l:List GEdit) (he:okU l) (hl:l.length < 4611686018427387904) (H:aE):aH Tryz.prog 19 [.pv (cD l)] H (fun r H'=>r=.pv (j5 (gS l))∧H'=H):=by
 cases hv:eW l with
 | true=>exact Y5 l he hv H
 | false=>exact Y6 l he hl hv H
theorem aBN (l:List ByteArray) (s:ByteArray) (H:aE) (hl:l.length < 4611686018427387904):aH Tryz.prog 59 [.pv (cS l),sv s] H (fun r H'=>r=bv (mH l s)∧H'=H):=by
 refine Pu ?_;have hml:(l.map encStr).length=l.length:=aIr _;refine Bd func59 rfl ntmps59<|Sr<|Dd aO<|Zz<|Sq<|Sr<|Dd aO<|Zz<|aF ?_;refine bG (σ:=Nat) (fun k=>([(0,.pv (cS l)),(1,sv s),(5,iv (k:Int))],[])) (fun k=>k≤l.length∧∀ j,j < k→∀ b,l[j]?=some b→decide (b=s)=false) (fun k=>l.length - k) 0 ⟨by omega,by omega⟩ ?_ ?_
 ·exact Wk
 rintro k ⟨hk,hno⟩;refine Sq<|Sr<|Dd aD<|Dd aD<|Dd (fK aK)<|Dd dD<|Zz ?_;refine Cn ?_ ?_<;>intro hc1
 ·have hlt:k < l.length:=by have:=aIn hc1;omega
  obtain ⟨o,ho⟩:=aX hlt;have hi:=bZ (f:=encStr) ho;refine aB<|Sq<|aF<|Sr<|Dd aD<|Dd aD<|Dd (e8 cC)<|Dd (fM isAgg9)<|Dd aD<|Dd sQ<|Zz ?_;refine Cn ?_ ?_<;>intro hc2
  ·refine Sr<|Dd aO<|Zz<|aC<|Rt ?_;exact⟨by rw [mH,sI ho hc2],rfl⟩
  refine aB<|Rg<|Dd aD<|Dd eL<|Da ?_;exact⟨k+1,⟨by omega,j7 hno ho hc2⟩,by omega,Wk⟩
 have hge:k=l.length:=by have:=aIo hc1;omega
 subst hge;refine aZ<|Sr<|Dd aO<|Zz<|aC<|Rt ?_;exact⟨by rw [mH,u9 hno],rfl⟩
def iP:List ByteArray→List ByteArray→Bool
 | [],b=>decide ((0:Int) < (b.length:Int))
 | _::_,[]=>false
 | x::a,y::b=>if x=y then iP a b else kR x y
theorem Q3 {a b:List ByteArray} {k:Nat} {x y:ByteArray} (hx:a[k]?=some x) (hy:b[k]?=some y):iP (a.drop k) (b.drop k)=if x=y then iP (a.drop (k+1)) (b.drop (k+1))else kR x y:=by obtain ⟨h1,e1⟩:=aIv.1 hx;obtain ⟨h2,e2⟩:=aIv.1 hy;rw [List.drop_eq_getElem_cons h1,List.drop_eq_getElem_cons h2,e1,e2,iP]
theorem TA {a b:List ByteArray} {k:Nat} (ha:k≤a.length) (hb:k≤b.length) (h:¬ (k < a.length∧k < b.length)):iP (a.drop k) (b.drop k)=decide ((a.length:Int) < (b.length:Int)):=by
 by_cases e:k=a.length
 ·rw [List.drop_eq_nil_of_le (by omega),iP,aJG];congr 1;exact propext ⟨fun h=>by omega,fun h=>by omega⟩
 have hb':k=b.length:=by omega
 have h1:k < a.length:=by omega
 rw [List.drop_eq_getElem_cons h1,show b.drop k=[] from List.drop_eq_nil_of_le (by omega),iP];exact(decide_eq_false (by omega)).symm
theorem Q4 (a b:List ByteArray) (H:aE) (ha:a.length < 4611686018427387904) (hb:b.length < 4611686018427387904):aH Tryz.prog 114 [.pv (cS a),.pv (cS b)] H (fun r H'=>r=bv (iP a b)∧H'=H):=by
 refine Pu ?_;have hma:(a.map encStr).length=a.length:=aIr _;have hmb:(b.map encStr).length=b.length:=aIr _;refine Bd func114 rfl ntmps114<|Sr<|Dd aO<|Zz<|Sq<|Sr<|Dd aO<|Zz<|aF ?_;refine bG (σ:=Nat) (fun k=>([(0,.pv (cS a)),(1,.pv (cS b)),(5,iv (k:Int))],[])) (fun k=>k≤a.length∧k≤b.length∧iP (a.drop k) (b.drop k)=iP a b) (fun k=>a.length - k) 0 ⟨by omega,by omega,rfl⟩ ?_ ?_
 ·exact Wk
 rintro k ⟨hka,hkb,hno⟩;refine Sq<|Sq ?_;refine bD (t:=15) (n:=11) (X:=decide ((k:Int) < ((a.map encStr).length:Int))&&decide ((k:Int) < ((b.map encStr).length:Int))) ?_ ?_
 ·all_goals refine Dd aD ?_
  all_goals refine Dd aD<|Dd (fK aK)<|Dd dD<|Dm ?_
  all_goals refine Sp 10 (fun h10=>?_) fun h10=>?_
  all_goals try contradiction
  all_goals first|refine Fo<|Fo<|Fo<|Fo ?_|refine On aD<|On aD<|On (fK aK)<|On dD ?_
  all_goals refine Dd dI<|Zz ?_
  all_goals(exact⟨⟨_,rfl,by first|(simp_all;done)|(simp_all;omega)⟩,rfl,rfl,rfl⟩)
 refine Cn ?_ ?_<;>intro hc1
 ·have hlt:k < a.length∧k < b.length:=by
   simp only [aJA,aIy] at hc1;omega
  obtain ⟨x,hx⟩:=aX hlt.1;obtain ⟨y,hy⟩:=aX hlt.2;have hi:=bZ (f:=encStr) hx;have hj:=bZ (f:=encStr) hy;rw [Q3 hx hy] at hno;refine aB<|Sq<|aF<|Sq<|aU follows<|Cq aD<|Cq aD<|Cq (e8 cC)<|Cq (fM isAgg9)<|Cq aD<|Cq aD<|Cq (e8 cC)<|Cq (fM isAgg9)<|Cq JQ<|bM<|Kr ?_;refine Cn ?_ ?_<;>intro hc2
  ·have hne:¬ (x=y):=by simpa using hc2
   rw [aIp hne] at hno;refine Sq<|aU follows<|Cq aD<|Cq aD<|Cq (e8 cC)<|Cq (fM isAgg9)<|Cq aD<|Cq aD<|Cq (e8 cC)<|Cq (fM isAgg9)<|Cq (by exact PM rfl rfl rfl)<|Cq aO<|bM<|Kr<|aC<|Rt ?_;exact⟨by rw [← hno],rfl⟩
  have he:x=y:=by simpa using hc2
  rw [aIq he] at hno;refine aB<|Rg<|Dd aD<|Dd eL<|Da ?_;exact⟨k+1,⟨by omega,by omega,hno⟩,by omega,Wk⟩
 have hge:¬ (k < a.length∧k < b.length):=by
  intro h;simp only [Bool.and_eq_false_iff,aIz] at hc1;omega
 rw [TA hka hkb hge] at hno;refine aZ<|Sr<|Dd aD<|Dd (fK aK)<|Dd aD<|Dd (fK aK)<|Dd dD<|Dd aO<|Zz<|aC<|Rt ?_;exact⟨by rw [← hno,hma,hmb],rfl⟩
def S2 (a b:List ByteArray):Bool:=!iP a b&&!iP b a
theorem aGl (a b:List ByteArray) (H:aE) (ha:a.length < 4611686018427387904) (hb:b.length < 4611686018427387904):aH Tryz.prog 57 [.pv (cS a),.pv (cS b)] H (fun r H'=>r=bv (S2 a b)∧H'=H):=by
 refine Pu ?_;refine Bd func57 rfl ntmps57<|Sr<|Dd aO<|Zz<|Sq ?_;refine bD (t:=4) (n:=12) (X:=S2 a b) ?_ ?_
 ·all_goals refine Dd aD ?_
  all_goals refine Dd aD<|Dd (by exact aA rfl rfl call114 rfl (Q4 a b _ ha hb))<|Dd jU<|Dm ?_
  all_goals refine Sp 9 (fun h9=>?_) fun h9=>?_
  all_goals try contradiction
  all_goals first|refine Fo<|Fo<|Fo<|Fo ?_|refine On aD<|On aD<|On (by exact aA rfl rfl call114 rfl (Q4 b a _ hb ha))<|On jU ?_
  all_goals refine Dd dI<|Da ?_
  all_goals(exact⟨⟨_,rfl,by(simp only [S2, *];rfl)⟩,rfl,rfl,rfl⟩)
 exact aC<|Rt<|Qq
theorem NR (a:List ByteArray):iP a a=false:=by
 induction a with
 | nil=>rfl
 | cons x a ih=>rw [iP,aIq rfl];exact ih
theorem EZ:∀ {a b:List ByteArray},iP a b=false→iP b a=false→a=b
 | [],[],_,_=>rfl
 | [],y::b,h,_=>by simp [iP] at h
 | x::a,[],_,h=>by simp [iP] at h
 | x::a,y::b,h1,h2=>by
  rw [iP] at h1 h2;by_cases e:x=y
  ·subst e;rw [aIq rfl] at h1 h2;rw [EZ h1 h2]
  rw [aIp e] at h1;rw [aIp (fun h=>e h.symm)] at h2;exact absurd (sU h1 h2) e
theorem aDk (a b:List ByteArray):S2 a b=true↔a=b:=by
 constructor
 ·intro h;simp only [S2,aJA,aJK] at h;exact EZ h.1 h.2
 rintro rfl;simp [S2,NR]
theorem KX (e:GEdit) (H:aE):aH Tryz.prog 28 [av (aJ e)] H (fun r H'=>r=.pv (cS (cM e))∧H'=H):=by
 refine Pu ?_;refine Bd func28 rfl ntmps28<|Sr<|Dd (by exact cE (id:=1) rfl rfl rfl rfl rfl)<|Dd aO<|Zz<|Sq<|Sr<|Dd (bH fG)<|Dd (cA isAgg3)<|Zz<|aF<|Sr<|Dd cI<|Da ?_;refine Cn ?_ ?_<;>intro hc1
 ·have h1:e.op=1:=aIn hc1;have hW:cM e=[e.obj.id]:=by rw [cM,aIq h1]
  rw [hW];exact Sr<|Dd (bH iR)<|Dd (bH eK)<|Dd (cA isAgg9)<|Dd (by exact aT [encStr e.obj.id] rfl cC rfl rfl rfl rfl rfl (by intro r hr;rw [aIu] at hr;subst hr;rfl))<|Dd aO<|Zz<|aC<|Rt<|Qq
 have h1:¬ e.op=1:=aIo hc1;refine Sq<|Sr<|Dd cI<|Da ?_;refine Cn ?_ ?_<;>intro hc2
 ·have h6:e.op=6:=aIn hc2;have hW:cM e=[e.id,e.other]:=by rw [cM,aIp h1,aIq (.inl h6)]
  rw [hW];refine aB ?_;refine Cn ?_ ?_<;>intro hc3
  ·exact Sr<|Dd (bH eX)<|Dd (cA isAgg9)<|Dd (bH fR)<|Dd (cA isAgg9)<|Dd (by exact aT [encStr e.id,encStr e.other] rfl cC rfl rfl rfl rfl rfl (by intro r hr;simp only [aJD,aJH,or_false] at hr;rcases hr with rfl|rfl<;>rfl))<|Dd aO<|Zz<|aC<|Rt<|Qq
  ((revert hc3;simp_all;done))
 have h6:¬ e.op=6:=aIo hc2;refine Rg<|Dd cI<|Da ?_;refine Cn ?_ ?_<;>intro hc4
 ·have h7:e.op=7:=aIn hc4;have hW:cM e=[e.id,e.other]:=by rw [cM,aIp h1,aIq (.inr h7)]
  rw [hW];exact Sr<|Dd (bH eX)<|Dd (cA isAgg9)<|Dd (bH fR)<|Dd (cA isAgg9)<|Dd (by exact aT [encStr e.id,encStr e.other] rfl cC rfl rfl rfl rfl rfl (by intro r hr;simp only [aJD,aJH,or_false] at hr;rcases hr with rfl|rfl<;>rfl))<|Dd aO<|Zz<|aC<|Rt<|Qq
 have h7:¬ e.op=7:=aIo hc4;have hW:cM e=[e.id]:=by rw [cM,aIp h1,aIp (by rintro(h|h);exact h6 h;exact h7 h)]
 rw [hW];exact aB<|Sr<|Dd (bH eX)<|Dd (cA isAgg9)<|Dd (by exact aT [encStr e.id] rfl cC rfl rfl rfl rfl rfl (by intro r hr;rw [aIu] at hr;subst hr;rfl))<|Dd aO<|Zz<|aC<|Rt<|Qq
def yK (a b:GEdit):Bool:=((((((((decide (a.op=b.op)&&decide (a.id=b.id))&&decide (a.other=b.other))&&decide (a.node=b.node))&&(decide (a.x=b.x)&&decide (a.y=b.y)))&&decide (a.key=b.key))&&decide (a.val=b.val))&&S2 a.refs b.refs)&&pC a.obj b.obj)
theorem EQ {a b:GEdit}:yK a b=true↔a=b:=by obtain ⟨a1,a2,a3,a4,a5,a6,a7,a8,a9,a10⟩:=a;obtain ⟨b1,b2,b3,b4,b5,b6,b7,b8,b9,b10⟩:=b;simp only [yK,aJA,aIy,aDk,pB,GEdit.mk.injEq,and_assoc]
instance decE22:DecidableEq GEdit:=fun a b=>decidable_of_iff (yK a b=true) EQ
theorem R1 (a b:GEdit):yK a b=decide (a=b):=by rw [Bool.eq_iff_iff,EQ,aIy]
theorem Z5 (a b:GEdit) (H:aE) (ha:tQ a) (hb:tQ b):aH Tryz.prog 29 [av (aJ a),av (aJ b)] H (fun r H'=>r=bv (decide (a=b))∧H'=H):=by
 refine Pu ?_;rw [← R1];refine Bd func29 rfl ntmps29<|Sr<|Dd (by exact cE (id:=2) rfl rfl rfl rfl rfl)<|Dd (by exact cE (id:=3) rfl rfl rfl rfl rfl)<|Dd aO<|Zz<|Sq ?_;refine bD (t:=4) (n:=70) (X:=yK a b) ?_ ?_
 ·all_goals refine Dd (bH fG) ?_
  all_goals refine Dd (cA isAgg3)<|Dd (bH fG)<|Dd (cA isAgg3)<|Dd cI<|Dm ?_
  all_goals refine Sp 10 (fun h10=>?_) fun h10=>?_
  all_goals try contradiction
  all_goals first|refine Fo<|Fo<|Fo<|Fo<|Fo ?_|refine On (bH eX)<|On (cA isAgg9)<|On (bH eX)<|On (cA isAgg9)<|On sQ ?_
  all_goals refine Dd dI<|Dm ?_
  all_goals refine Sp 17 (fun h17=>?_) fun h17=>?_
  all_goals try contradiction
  all_goals first|refine Fo<|Fo<|Fo<|Fo<|Fo ?_|refine On (bH fR)<|On (cA isAgg9)<|On (bH fR)<|On (cA isAgg9)<|On sQ ?_
  all_goals refine Dd dI<|Dm ?_
  all_goals refine Sp 24 (fun h24=>?_) fun h24=>?_
  all_goals try contradiction
  all_goals first|refine Fo<|Fo<|Fo<|Fo<|Fo ?_|refine On (bH lY)<|On (cA isAgg9)<|On (bH lY)<|On (cA isAgg9)<|On sQ ?_
  all_goals refine Dd dI<|Dm ?_
  all_goals refine Sp 31 (fun h31=>?_) fun h31=>?_
  all_goals try contradiction
  all_goals first|refine Fo<|Fo<|Fo<|Fo<|Fo ?_|refine On (bH iS)<|On (by exact aI rfl dZ sizeOf45 rfl rfl rfl rfl (by simp only [Zl,aQ,aG,encStr,aJ,encInt];rfl) rfl)<|On (bH iS)<|On (by exact aI rfl dZ sizeOf45 rfl rfl rfl rfl (by simp only [Zl,aQ,aG,encStr,aJ,encInt];rfl) rfl)<|On (by exact oC rfl rfl rfl rfl rfl gV (MO _ _ _ _)) ?_
  all_goals refine Dd dI<|Dm ?_
  all_goals refine Sp 38 (fun h38=>?_) fun h38=>?_
  all_goals try contradiction
  all_goals first|refine Fo<|Fo<|Fo<|Fo<|Fo ?_|refine On (bH lA)<|On (cA isAgg9)<|On (bH lA)<|On (cA isAgg9)<|On sQ ?_
  all_goals refine Dd dI<|Dm ?_
  all_goals refine Sp 45 (fun h45=>?_) fun h45=>?_
  all_goals try contradiction
  all_goals first|refine Fo<|Fo<|Fo<|Fo<|Fo ?_|refine On (bH lX)<|On (cA isAgg9)<|On (bH lX)<|On (cA isAgg9)<|On sQ ?_
  all_goals refine Dd dI<|Dm ?_
  all_goals refine Sp 52 (fun h52=>?_) fun h52=>?_
  all_goals try contradiction
  all_goals first|refine Fo<|Fo<|Fo<|Fo<|Fo ?_|refine On (bH gA)<|On (cA aV)<|On (bH gA)<|On (cA aV)<|On (by exact aA rfl rfl call57 rfl (aGl a.refs b.refs _ ha.2.1.1 hb.2.1.1)) ?_
  all_goals refine Dd dI<|Dm ?_
  all_goals refine Sp 59 (fun h59=>?_) fun h59=>?_
  all_goals try contradiction
  all_goals first|refine Fo<|Fo<|Fo<|Fo<|Fo ?_|refine On (bH iR)<|On (by exact aI rfl aY sizeOf49 rfl rfl rfl rfl (by simp only [Zl,aQ,aG,encStr,aJ,encInt];rfl) rfl)<|On (bH iR)<|On (by exact aI rfl aY sizeOf49 rfl rfl rfl rfl (by simp only [Zl,aQ,aG,encStr,aJ,encInt];rfl) rfl)<|On (by exact aA rfl rfl aIb rfl (T8 a.obj b.obj _ ha.2.2.2.2.1 ha.2.2.2.1.1)) ?_
  all_goals refine Dd dI<|Da ?_
  all_goals(exact⟨⟨_,rfl,by(simp only [yK, *];rfl)⟩,rfl,rfl,rfl⟩)
 exact aC<|Rt<|Qq
theorem UJ {op:Int} {a:GObj} (ha:DO a):tQ ⟨op,aP,aP,aP,0,0,aP,aP,[],a⟩:=⟨⟨(by decide:aP.size < 4611686018427387904),(by decide:aP.size < 4611686018427387904),(by decide:aP.size < 4611686018427387904),(by decide:aP.size < 4611686018427387904)⟩,⟨Nat.zero_lt_succ _,fun s h=>by cases h⟩,ha⟩
theorem VG (l m:List GEdit) (H:aE) (hl:l.length < 4611686018427387904) (ho:∀ e∈l,tQ e) (hm:∀ e∈m,tQ e):aH Tryz.prog 17 [.pv (cD l),.pv (cD m)] H (fun r H'=>r=bv (decide (l=m))∧H'=H):=by
 refine Pu ?_;have hml:(l.map aJ).length=l.length:=aIr _;have hmm:(m.map aJ).length=m.length:=aIr _;refine Bd func17 rfl ntmps17<|Sr<|Dd aO<|Zz<|Sq<|Sr<|Dd aD<|Dd (fK cB)<|Dd aD<|Dd (fK cB)<|Dd tU<|Zz ?_;refine Cn ?_ ?_<;>intro hc1
 ·have hne:¬ l=m:=fun e=>by have h:=hc1;rw [hml,hmm,e] at h;simp at h
  rw [decide_eq_false hne];exact Sr<|Dd aO<|Zz<|aC<|Rt<|Qq
 have hle:l.length=m.length:=by have h:=hc1;rw [hml,hmm] at h;simp at h;omega
 refine aB<|Sq<|Sr<|Dd aO<|Zz<|aF ?_;refine bG (σ:=Nat) (fun k=>([(0,.pv (cD l)),(1,.pv (cD m)),(5,iv (k:Int))],[])) (fun k=>k≤l.length∧∀ j,j < k→l[j]?=m[j]?) (fun k=>l.length - k) 0 ⟨aJI _,fun j h=>by omega⟩ ?_ ?_
 ·exact E0
 rintro k ⟨hk,hall⟩;refine Sq<|Sr<|Dd aD<|Dd aD<|Dd (fK cB)<|Dd dD<|Zz ?_;refine Cn ?_ ?_<;>intro hc2
 ·have hlt:k < l.length:=by have:=aIn hc2;omega
  obtain ⟨x,hx⟩:=aX hlt;obtain ⟨y,hy⟩:=aX (show k < m.length by omega);have hix:=bZ (f:=aJ) hx;have hiy:=bZ (f:=aJ) hy;refine aB<|Sq<|aF<|Sq<|aU follows<|Cq aD<|Cq aD<|Cq (e8 lK)<|Cq (by exact bQ rfl bA aL rfl (by omega) (by simp only [Zl,aQ,aG,encStr,aJ,encInt];rfl) rfl)<|Cq aD<|Cq aD<|Cq (e8 lK)<|Cq (by exact bQ rfl bA aL rfl (by omega) (by simp only [Zl,aQ,aG,encStr,aJ,encInt];rfl) rfl)<|Cq (by exact aA rfl rfl call29 rfl (Z5 x y _ (ho x (aJB hx)) (hm y (aJB hy))))<|Cq jU<|bM<|Kr ?_;refine Cn ?_ ?_<;>intro hc3
  ·have hxy:¬ x=y:=by have h:=hc3;simpa using h
   have hne:¬ l=m:=fun e=>by rw [e,hy] at hx;exact hxy (Option.some.inj hx).symm
   rw [decide_eq_false hne];exact Sr<|Dd aO<|Zz<|aC<|Rt<|Qq
  have hxy:x=y:=by have h:=hc3;simpa using h
  refine aB<|Rg<|Dd aD<|Dd eL<|Da ?_;refine⟨k+1,⟨by omega,fun j hj=>?_⟩,by omega,E0⟩;by_cases e:j=k
  ·subst e;rw [hx,hy,hxy]
  exact hall j (by omega)
 have hge:k=l.length:=by have:=aIo hc2;omega
 subst hge;have heq:l=m:=List.ext_getElem? fun j=>by
  by_cases h:j < l.length
  ·exact hall j h
  rw [List.getElem?_eq_none (by omega),List.getElem?_eq_none (by omega)]
 rw [decide_eq_true heq];exact aZ<|Sr<|Dd aO<|Zz<|aC<|Rt<|Qq
theorem aA8 {e:GEdit} (h:tQ e):aA9 e:=⟨h.2.1.1,h.2.2.2.2.1,h.2.2.2.1.1⟩
def ndO (s:ByteArray) (x:Int):GObj:=⟨s,1,x,0,[],[]⟩
theorem NE (s:ByteArray) (x:Int) (H:aE):aH Tryz.prog 30 [sv s,iv x] H (fun r H'=>r=av (aG (ndO s x))∧H'=H):=by refine Pu ?_;refine Bd func30 rfl ntmps30<|Sr<|Dd (by exact bJ (id:=4) rfl qU rfl rfl)<|Zz<|Sr<|Dd aD<|Dd aD<|Dd (jG J9)<|Dd (jG CO)<|Uu (fP sizeOf49)<|Zz<|aC ?_;refine cZ (H':=[]) (.inr rfl) rfl (nZ aY sizeOf49) (Fin.wk (r:=av (aG (ndO s x))) (by simp) trivial trivial) ?_;exact Qq
theorem aEL (st:Nat→List GObj) (l:List GEdit) (H:aE) (hl:l.length < 549755813888) (hcl:∀ k,k≤l.length→eY (st k)=true) (hok:∀ k,k≤l.length→uQ (st k))
  (ha:∀ k e,l[k]?=some e→aH Tryz.prog 65 [.ref 14 0 0 0,av (aJ e)] (cH (st k)) (fun r H'=>r=.tup [.agg [.pv (cO (st (k+1)))],iv 0]∧H'=cH (st k))) :
  aH Tryz.prog 25 [.agg [.pv (cO (st 0))],.pv (cD l)] H (fun r H'=>r=.tup [.agg [.pv (cO (st l.length))],iv (-1),iv 0]∧H'=H):=by
 refine Pu ?_;have hml:(l.map aJ).length=l.length:=aIr _;refine Bd aI6 rfl aIA<|Sr<|Dd (by exact cE (id:=2) rfl rfl rfl rfl rfl)<|Dd (by exact bJ (id:=4) rfl GI rfl rfl)<|Dd aO<|Dd aO<|Zz<|Sr<|Dd (qZ bF sizeOf38)<|Dd (by exact aA rfl rfl aCV rfl (aAe (st 0) _ (hok 0 (aJI _)) (hcl 0 (aJI _)) rfl rfl))<|Dd aO<|Zz<|Sq<|Sr<|Dd aD<|Dd (by exact sY rfl TL rfl rfl rfl rfl)<|Zz ?_;refine Cn ?_ ?_<;>intro hc1
 ·cases hc1
 refine aB<|Sq<|Sr<|Dd aD<|Dd (fK cB)<|Dd aD<|Zz<|aF ?_;refine bG (σ:=Nat) (fun k=>([(4,.ref 4 0 0 0),(7,.ref 14 0 0 0),(17,.pv (cD l)),(18,iv ((l.map aJ).length:Int)),(19,iv (k:Int))],[(14,x7 (st k)),(12,J2 (st k)),(4,bx 1 38 [lv []])])) (fun k=>k≤l.length) (fun k=>l.length - k) 0 (aJI _) ?_ ?_
 ·exact(cY.wk (Ea<|Ea<|Eb<|Eb<|Eb<|trivial) (Ha<|Hc (gE _ _)<|Hb<|trivial) trivial)
 rintro k hk;refine Sr<|Dd dD<|Zz<|Sq ?_;refine Cn ?_ ?_<;>intro hc2
 ·have hlt:k < l.length:=by have:=aIn hc2;omega
  obtain ⟨e,hel⟩:=aX hlt;have hi:=bZ (f:=aJ) hel;refine aB<|Sq<|aF<|Sr<|Dd aD<|Dd (e8 lK)<|Dd (by exact bQ rfl bA aL rfl (by omega) (by simp only [Zl,aQ,aG,encStr,aJ,encInt];rfl) rfl)<|Dd (by exact bJ (id:=9) rfl BA rfl rfl)<|Dd aO<|Uu (fP aL)<|Zz<|Sr<|Dd aD<|Dd (qZ bA aL)<|Dd (by exact aA rfl rfl call65 rfl (aB8 (ha k e hel) rfl rfl (by simp;rfl)))<|Dd aD<|Dd eZ<|Dd eZ<|Dd (by exact bJ (id:=10) rfl GI rfl rfl)<|Uu (fP sizeOf38)<|Dd aO<|Zz<|Sq<|Sr<|Dd aD<|Dd tU<|Zz ?_;refine Cn ?_ ?_<;>intro hc3
  ·cases hc3
  refine aB ?_;refine iB.ent (E':=[(4,.ref 4 0 0 0),(10,.ref 10 0 0 0),(17,.pv (cD l)),(18,iv ((l.map aJ).length:Int)),(19,iv (k:Int))]) (H':=[(10,bx 1 38 [.pv (cO (st (k+1)))]),(4,bx 1 38 [lv []])]) Wk ?_;refine Rg<|Dd (qZ bF sizeOf38)<|Dd (by exact aA rfl rfl aCV rfl (aAe (st (k+1)) _ (hok _ hlt) (hcl _ hlt) rfl rfl))<|Dd aO<|Zz<|Rg<|Dd eL<|Dd aD<|Zz ?_;exact⟨k+1,by omega,by omega,(cY.wk (Ea<|Ea<|Eb<|Eb<|Eb<|trivial) (Ha<|Hc (gE _ _)<|Hb<|trivial) trivial)⟩
 have hge:k=l.length:=by have:=aIo hc2;omega
 subst hge;refine aZ<|Sr<|Dd aD<|Dd pY<|Dd (bH y0)<|Dd (qZ bF sizeOf38)<|Uu (fP sizeOf38)<|Dd aO<|Dd aO<|Zz<|aC ?_;refine jX (H':=[]) (.inr rfl) rfl (nZ bF sizeOf38) (aN rfl) (aN rfl) (Fin.wk (r:=.tup [.agg [.pv (cO (st l.length))],iv (-1),iv 0]) (by simp) trivial trivial) ?_;exact Qq
def jW (l:List UInt8):ByteArray:=⟨l.toArray⟩
def eMv:GEdit:=⟨2,jW [110,49],aP,aP,3,4,aP,aP,[],zObj⟩
def eTg:GEdit:=⟨3,jW [119,49],aP,aP,0,0,jW [110,97,109,101],jW [97,32,34,98,34],[],zObj⟩
def eRf:GEdit:=⟨4,jW [119,49],aP,aP,0,0,aP,aP,[jW [110,49],jW [110,50]],zObj⟩
def t1Y:ByteArray:=jW [109,111,118,101,32,110,49,32,51,32,52,10]
def t2Y:ByteArray:=jW [116,97,103,32,119,49,32,110,97,109,101,32,34,97,32,92,34,98,92,34,34,10]
theorem aHk:eJ [eMv]=(t1Y,0):=by kernel_rfl
theorem aHj:eJ [eTg]=(t2Y,0):=by kernel_rfl
theorem aHl:jC (t1Y++t2Y)=([eMv,eTg],0):=by kernel_rfl
def OE (id:UInt8) (x:Int):GObj:=⟨jW [id],1,x,0,[],[]⟩
def mAY:List GObj:=[OE 97 1,OE 98 2,⟨jW [99],2,0,0,[jW [97],jW [98]],[]⟩]
def mBY:List GObj:=[⟨jW [97],2,0,0,[jW [98],jW [99]],[]⟩,OE 98 5,OE 99 3]
def xsY:List GEdit:=[mF (jW [99]),mF (jW [97]),putE (OE 99 3),putE ⟨jW [97],2,0,0,[jW [98],jW [99]],[]⟩,UN (jW [98]) 5 0]
theorem aHm:mT mAY mBY=(xsY,0):=by kernel_rfl
theorem aAb:tQ eMv:=⟨⟨by decide,by decide,by decide,by decide⟩,⟨by decide,fun s hs=>by cases hs⟩,nR⟩
theorem aAa:tQ eTg:=⟨⟨by decide,by decide,by decide,by decide⟩,⟨by decide,fun s hs=>by cases hs⟩,nR⟩
theorem aF2:tQ eRf:=⟨⟨by decide,by decide,by decide,by decide⟩,⟨by decide,fun s hs=>by
 have hs:s∈[jW [110,49],jW [110,50]]:=hs;simp only [aJD,aJH,or_false] at hs;rcases hs with rfl|rfl<;>decide⟩,nR⟩
theorem NC:∀ e∈[eMv,eTg],tQ e:=fun e he=>by
 simp only [aJD,aJH,or_false] at he;rcases he with rfl|rfl
 ·exact aAb
 exact aAa
theorem aA4:okU [eMv,eTg,eRf]:=fun e he=>by
 simp only [aJD,aJH,or_false] at he;rcases he with rfl|rfl|rfl
 ·exact⟨aAb,by decide⟩
 ·exact⟨aAa,by decide⟩
 exact⟨aF2,by decide⟩
theorem aFW:okU [eMv,eTg]:=fun e he=>aA4 e (by
 simp only [aJD,aJH,or_false] at he ⊢;rcases he with rfl|rfl
 ·exact .inl rfl
 exact .inr (.inl rfl))
theorem DP:uQ mAY:=⟨by decide,fun o ho=>by
 have ho:o∈[OE 97 1,OE 98 2,⟨jW [99],2,0,0,[jW [97],jW [98]],[]⟩]:=ho;simp only [aJD,aJH,or_false] at ho;rcases ho with rfl|rfl|rfl
 ·exact⟨by decide,⟨by decide,fun t ht=>by cases ht⟩,by decide,fun s hs=>by cases hs⟩
 ·exact⟨by decide,⟨by decide,fun t ht=>by cases ht⟩,by decide,fun s hs=>by cases hs⟩
 exact⟨by decide,⟨by decide,fun t ht=>by cases ht⟩,by decide,fun s hs=>by
  have hs:s∈[jW [97],jW [98]]:=hs;simp only [aJD,aJH,or_false] at hs;rcases hs with rfl|rfl<;>decide⟩⟩
theorem vT:uQ mBY:=⟨by decide,fun o ho=>by
 have ho:o∈[⟨jW [97],2,0,0,[jW [98],jW [99]],[]⟩,OE 98 5,OE 99 3]:=ho;simp only [aJD,aJH,or_false] at ho;rcases ho with rfl|rfl|rfl
 ·exact⟨by decide,⟨by decide,fun t ht=>by cases ht⟩,by decide,fun s hs=>by
   have hs:s∈[jW [98],jW [99]]:=hs;simp only [aJD,aJH,or_false] at hs;rcases hs with rfl|rfl<;>decide⟩
 ·exact⟨by decide,⟨by decide,fun t ht=>by cases ht⟩,by decide,fun s hs=>by cases hs⟩
 exact⟨by decide,⟨by decide,fun t ht=>by cases ht⟩,by decide,fun s hs=>by cases hs⟩⟩
theorem R0 (l:List ByteArray) (h:(l.map OT).Pairwise (fun x y=>decide (x≤y)=true)):j4 l=l:=by rw [j4,List.mergeSort_of_pairwise h,UO]
theorem aE3:eO eMv=[jW [110,49]]:=by rw [eO,aIq (show dA eMv=true by kernel_rfl),show (s9 eMv).filter nonE=[jW [110,49]] by kernel_rfl];exact R0 _ (by decide)
theorem aE2:eO eTg=[jW [119,49]]:=by rw [eO,aIq (show dA eTg=true by kernel_rfl),show (s9 eTg).filter nonE=[jW [119,49]] by kernel_rfl];exact R0 _ (by decide)
theorem aGb:eO eRf=[jW [110,49],jW [110,50],jW [119,49]]:=by rw [eO,aIq (show dA eRf=true by kernel_rfl),show (s9 eRf).filter nonE=[jW [119,49],jW [110,49],jW [110,50]] by kernel_rfl];have hp:[jW [119,49],jW [110,49],jW [110,50]].Perm [jW [110,49],jW [110,50],jW [119,49]]:=List.perm_append_comm (l₁:=[jW [119,49]]) (l₂:=[jW [110,49],jW [110,50]]);rw [OY hp];exact R0 _ (by decide)
theorem gu3:gS [eMv,eTg,eRf]=[[0,1,2]]:=by
 have h0:tT [eMv,eTg,eRf] 0=[jW [110,49]]:=aE3;have h1:tT [eMv,eTg,eRf] 1=[jW [119,49]]:=aE2;have h2:tT [eMv,eTg,eRf] 2=[jW [110,49],jW [110,50],jW [119,49]]:=aGb;have h3:tL (sN [eMv,eTg,eRf]) 3=([0,1,1],[(jW [110,49],0),(jW [119,49],1)]):=by kernel_rfl
 have h4:uI [eMv,eTg,eRf]=[0,0,1]:=by
  show wS (tL (sN [eMv,eTg,eRf]) 3).2 (tL (sN [eMv,eTg,eRf]) 3).1 (tT [eMv,eTg,eRf]) 3=[0,0,1];rw [h3,wS,wS,wS,wS,h0,h1,h2]
  kernel_rfl
 rw [gS,aIq (show eW [eMv,eTg,eRf]=true by kernel_rfl),h4];exact(show i7 (top [0,0,1]) 3=[[0,1,2]] by kernel_rfl)
theorem gu2:gS [eMv,eTg]=[[0],[1]]:=by
 have h0:tT [eMv,eTg] 0=[jW [110,49]]:=aE3;have h1:tT [eMv,eTg] 1=[jW [119,49]]:=aE2;have h3:tL (sN [eMv,eTg]) 2=([0,1],[(jW [110,49],0),(jW [119,49],1)]):=by kernel_rfl
 have h4:uI [eMv,eTg]=[0,1]:=by
  show wS (tL (sN [eMv,eTg]) 2).2 (tL (sN [eMv,eTg]) 2).1 (tT [eMv,eTg]) 2=[0,1];rw [h3,wS,wS,wS,h0,h1]
  kernel_rfl
 rw [gS,aIq (show eW [eMv,eTg]=true by kernel_rfl),h4];exact(show i7 (top [0,1]) 2=[[0],[1]] by kernel_rfl)
theorem NB {op x y:Int} {s k v:ByteArray} (h1:s.size < 4611686018427387904) (h2:k.size < 4611686018427387904):tQ ⟨op,s,aP,aP,x,y,k,v,[],zObj⟩:=⟨⟨h1,(by decide:aP.size < 4611686018427387904),(by decide:aP.size < 4611686018427387904),h2⟩,⟨Nat.zero_lt_succ _,fun s h=>by cases h⟩,nR⟩
theorem aF0:∀ e∈xsY,tQ e:=fun e he=>by
 have he:e∈[mF (jW [99]),mF (jW [97]),putE (OE 99 3),putE ⟨jW [97],2,0,0,[jW [98],jW [99]],[]⟩,UN (jW [98]) 5 0]:=he;simp only [aJD,aJH,or_false] at he;rcases he with rfl|rfl|rfl|rfl|rfl
 ·exact NB (by decide) (by decide)
 ·exact NB (by decide) (by decide)
 ·exact UJ (vT.2 _ (by show _∈[_,_,_];simp))
 ·exact UJ (vT.2 _ (by show _∈[_,_,_];simp))
 exact NB (by decide) (by decide)
theorem aDM {m:List GObj} (h:uQ m):okL m:=⟨h.1,fun o ho=>⟨(h.2 o ho).2.2.1,(h.2 o ho).2.1.1⟩⟩
theorem V9 (a b:List GObj) (H:aE) (ha:uQ a):aH Tryz.prog 26 [.agg [.pv (cO a)],.agg [.pv (cO b)]] H (fun r H'=>r=bv (decide (a=b))∧H'=H):=by
 have:=Z6 a b H (aDM ha)
 rwa [show NQ a b=decide (a=b)by rw [Bool.eq_iff_iff,SZ,aIy]] at this
theorem IR (l:List GObj):∀ r∈l.map aG,r.length=6:=fun r hr=>by
 obtain ⟨t,_,rfl⟩:=List.mem_map.1 hr;rfl
theorem PQ {m l:List GObj} (h:uQ m) (hl:l.length < 4611686018427387904) (hs:∀ o∈l,o∈m):uQ l:=⟨hl,fun o ho=>h.2 o (hs o ho)⟩
def wAY:GObj:=⟨jW [97],2,0,0,[jW [98],jW [99]],[]⟩
def stY:Nat→List GObj
 | 0=>mAY
 | 1=>[OE 97 1,OE 98 2]
 | 2=>[OE 98 2]
 | 3=>[OE 98 2,OE 99 3]
 | 4=>[wAY,OE 98 2,OE 99 3]
 | _=>mBY
theorem oE:∀ k,uQ (stY k)
 | 0=>DP
 | 1=>PQ DP (by show 2 < _;omega) (fun o ho=>by have ho:o∈[_,_]:=ho;show o∈[_,_,_];simp only [aJD,aJH,or_false] at ho ⊢;rcases ho with h|h<;>simp [h])
 | 2=>PQ DP (by show 1 < _;omega) (fun o ho=>by have ho:o∈[_]:=ho;show o∈[_,_,_];simp only [aJD,aJH,or_false] at ho ⊢;simp [ho])
 | 3=>⟨by show 2 < _;omega,fun o ho=>by
   have ho:o∈[_,_]:=ho;simp only [aJD,aJH,or_false] at ho;rcases ho with rfl|rfl
   ·exact DP.2 _ (by show _∈[_,_,_];simp)
   exact vT.2 _ (by show _∈[_,_,_];simp)⟩
 | 4=>⟨by show 3 < _;omega,fun o ho=>by
   have ho:o∈[_,_,_]:=ho;simp only [aJD,aJH,or_false] at ho;rcases ho with rfl|rfl|rfl
   ·exact vT.2 _ (by show _∈[_,_,_];exact List.mem_cons_self ..)
   ·exact DP.2 _ (by show _∈[_,_,_];simp)
   exact vT.2 _ (by show _∈[_,_,_];simp)⟩
 | 5=>vT
 | _+6=>vT
theorem wE:∀ k,eY (stY k)=true
 | 0=>by kernel_rfl
 | 1=>by kernel_rfl
 | 2=>by kernel_rfl
 | 3=>by kernel_rfl
 | 4=>by kernel_rfl
 | 5=>by kernel_rfl
 | _+6=>(show eY mBY=true by kernel_rfl)
theorem SO {m:List GObj} (h:eY m=true):∀ o,o∈m→o.refs.length < 549755813888∧o.tags.length < 1099511627776:=fun o ho=>by
 have:=k7 ((mS.1 (nN h)).1 o ho);omega
theorem aBy {m m':List GObj} {e:GEdit} (hm:uQ m) (hc:eY m=true) (he:tQ e) (hg:AT m e=(m',0)) (hpf:aH Tryz.prog 118 [.ref 14 0 0 0,av (aJ e)] (cH m) (fun r H'=>r=av (oN (dX m e))∧H'=cH m)) :
  aH Tryz.prog 65 [.ref 14 0 0 0,av (aJ e)] (cH m) (fun r H'=>r=.tup [.agg [.pv (cO m')],iv 0]∧H'=cH m):=by
 have hl:=(mS.1 (nN hc)).2.2;have:=X7 m e hm he (by omega) (fun hv=>aDF hm (nN hc) he hv) WJ (fun _=>hpf);rw [hg] at this;exact this
theorem aGB (H:aE):aH Tryz.prog 25 [.agg [.pv (cO mAY)],.pv (cD xsY)] H (fun r H'=>r=.tup [.agg [.pv (cO mBY)],iv (-1),iv 0]∧H'=H):=by
 refine aEL stY xsY H (by decide) (fun k _=>wE k) (fun k _=>oE k) (fun k e he=>?_);have hk:k < 5:=(aIv.1 he).1;have h:k=0∨k=1∨k=2∨k=3∨k=4:=by omega
 have hee:=aF0 e (aJB he);rcases h with rfl|rfl|rfl|rfl|rfl
 ·cases he;exact aBy (oE 0) (wE 0) hee (by kernel_rfl) (UD (stY 0) (jW [99]) aP aP 0 0 aP aP [] zObj (oE 0) (SO (wE 0)))
 ·cases he;exact aBy (oE 1) (wE 1) hee (by kernel_rfl) (UD (stY 1) (jW [97]) aP aP 0 0 aP aP [] zObj (oE 1) (SO (wE 1)))
 ·cases he;exact aBy (oE 2) (wE 2) hee (by kernel_rfl) (UE (stY 2) (putE (OE 99 3)) (oE 2) rfl (by decide))
 ·cases he;exact aBy (oE 3) (wE 3) hee (by kernel_rfl) (UE (stY 3) (putE wAY) (oE 3) rfl (by decide))
 cases he;exact aBy (oE 4) (wE 4) hee (by kernel_rfl) (aDG (stY 4) (jW [98]) aP aP 5 0 aP aP [] zObj (oE 4) (SO (wE 4)))
theorem XA (hT1:∀ H,aH Tryz.prog 11 [.pv (cD [eMv])] H (fun r H'=>r=.tup [sv t1Y,iv 0]∧H'=H)) (hT2:∀ H,aH Tryz.prog 11 [.pv (cD [eTg])] H (fun r H'=>r=.tup [sv t2Y,iv 0]∧H'=H))
  (hP:∀ H,aH Tryz.prog 13 [sv (t1Y++t2Y)] H (fun r H'=>r=.tup [.pv (cD [eMv,eTg]),iv 0]∧H'=H)) (hA:∀ H,aH Tryz.prog 25 [.agg [.pv (cO mAY)],.pv (cD xsY)] H (fun r H'=>r=.tup [.agg [.pv (cO mBY)],iv (-1),iv 0]∧H'=H)) (H:aE) :
  aH Tryz.prog 9 [] H (fun r H'=>r=bv true∧H'=H):=by
 refine Pu ?_;have hU3:∀ H,aH Tryz.prog 19 [.pv (cD [eMv,eTg,eRf])] H (fun r H'=>r=.pv (j5 [[0,1,2]])∧H'=H):=fun H=>by
  have:=MH [eMv,eTg,eRf] aA4 (by decide) H;rw [gu3] at this;exact this
 have hU2:∀ H,aH Tryz.prog 19 [.pv (cD [eMv,eTg])] H (fun r H'=>r=.pv (j5 [[0],[1]])∧H'=H):=fun H=>by
  have:=MH [eMv,eTg] aFW (by decide) H;rw [gu2] at this;exact this
 have hB:∀ H,aH Tryz.prog 22 [.agg [.pv (cO mAY)],.agg [.pv (cO mBY)]] H (fun r H'=>r=.tup [.pv (cD xsY),iv 0]∧H'=H):=fun H=>by
  have:=XX mAY mBY DP vT H;rw [aHm] at this;exact this
 have hE:∀ H,aH Tryz.prog 17 [.pv (cD [eMv,eTg]),.pv (cD [eMv,eTg])] H (fun r H'=>r=bv true∧H'=H):=fun H=>by
  have:=VG [eMv,eTg] [eMv,eTg] H (by decide) NC NC;rw [decide_eq_true rfl] at this;exact this
 have hS:∀ H,aH Tryz.prog 26 [.agg [.pv (cO mBY)],.agg [.pv (cO mBY)]] H (fun r H'=>r=bv true∧H'=H):=fun H=>by
  have:=V9 mBY mBY H vT;rw [decide_eq_true rfl] at this;exact this
 refine Bd func9 rfl ntmps9<|Sr<|Dd aO<|Zz<|Sr<|Dd (jG J9)<|Dd (jG pI)<|Dd (by exact bJ (id:=1) rfl BA rfl rfl)<|Uu (fP aL)<|Zz<|Sr<|Dd (jG pI)<|Dd (by exact bJ (id:=2) rfl BA rfl rfl)<|Uu (fP aL)<|Zz<|Sr<|Dd (by exact aT [encStr (jW [110,49]),encStr (jW [110,50])] rfl cC rfl rfl rfl rfl rfl (by intro r hr;simp only [aJD,aJH,or_false] at hr;rcases hr with rfl|rfl<;>rfl))<|Dd (jG pI)<|Dd (by exact bJ (id:=3) rfl BA rfl rfl)<|Uu (fP aL)<|Zz<|Sr<|Dd (qZ bA aL)<|Dd (by exact aT ([eMv].map aJ) rfl lK rfl rfl rfl rfl rfl (rlE [eMv]))<|Dd (by exact aA rfl rfl aCZ rfl (hT1 _))<|Dd aD<|Dd eZ<|Dd eZ<|Dd aO<|Dd aO<|Zz<|Sr<|Dd (qZ bA aL)<|Dd (by exact aT ([eTg].map aJ) rfl lK rfl rfl rfl rfl rfl (rlE [eTg])) ?_;refine Dd (by exact aA rfl rfl aCZ rfl (hT2 _))<|Dd aD<|Dd eZ<|Dd eZ<|Dd aO<|Dd aO<|Zz<|Sr<|Dd aD<|Dd aD<|Dd (by exact cP rfl rfl rfl (by decide) rfl)<|Dd (by exact aA rfl rfl call13 rfl (hP _))<|Dd aD<|Dd eZ<|Dd eZ<|Dd aO<|Dd aO<|Zz<|Sr<|Dd (qZ bA aL)<|Dd (qZ bA aL)<|Dd (qZ bA aL)<|Dd (by exact aT ([eMv,eTg,eRf].map aJ) rfl lK rfl rfl rfl rfl rfl (rlE [eMv,eTg,eRf]))<|Dd (by exact aA rfl rfl aIf rfl (hU3 _))<|Dd aO<|Zz<|Sr<|Dd (qZ bA aL)<|Dd (qZ bA aL)<|Dd (by exact aT ([eMv,eTg].map aJ) rfl lK rfl rfl rfl rfl rfl (rlE [eMv,eTg]))<|Dd (by exact aA rfl rfl aIf rfl (hU2 _))<|Dd aO<|Zz<|Sr<|Dd (by exact aA rfl rfl aCX rfl (NE (jW [97]) 1 _))<|Dd (by exact aA rfl rfl aCX rfl (NE (jW [98]) 2 _)) ?_;refine Dd (by exact aT [encStr (jW [97]),encStr (jW [98])] rfl cC rfl rfl rfl rfl rfl (by intro r hr;simp only [aJD,aJH,or_false] at hr;rcases hr with rfl|rfl<;>rfl))<|Dd (jG CO)<|Dd (by exact aT (mAY.map aG) rfl iK rfl rfl rfl rfl rfl (IR mAY))<|Dd (jG FL)<|Dd (by exact bJ (id:=12) rfl GI rfl rfl)<|Uu (fP sizeOf38)<|Zz<|Sr<|Dd (by exact aT [encStr (jW [98]),encStr (jW [99])] rfl cC rfl rfl rfl rfl rfl (by intro r hr;simp only [aJD,aJH,or_false] at hr;rcases hr with rfl|rfl<;>rfl))<|Dd (jG CO)<|Dd (by exact aA rfl rfl aCX rfl (NE (jW [98]) 5 _))<|Dd (by exact aA rfl rfl aCX rfl (NE (jW [99]) 3 _))<|Dd (by exact aT (mBY.map aG) rfl iK rfl rfl rfl rfl rfl (IR mBY))<|Dd (jG FL)<|Dd (by exact bJ (id:=13) rfl GI rfl rfl) ?_;refine Uu (fP sizeOf38)<|Zz<|Sr<|Dd (qZ bF sizeOf38)<|Dd (qZ bF sizeOf38)<|Dd (by exact aA rfl rfl call22 rfl (hB _))<|Dd aD<|Dd eZ<|Dd eZ<|Dd aO<|Dd aO<|Zz<|Sr<|Dd (qZ bF sizeOf38)<|Dd aD<|Dd (by exact aA rfl rfl call25 rfl (hA _))<|Dd aD<|Dd eZ<|Dd eZ<|Dd eZ<|Dd (by exact bJ (id:=16) rfl GI rfl rfl)<|Uu (fP sizeOf38)<|Dd aO<|Dd aO<|Zz<|Sr<|Dd aD<|Dd cI<|Dd aD<|On aD<|On (by exact dQ.val (by exact HJ rfl rfl rfl) ((decide_eq_true rfl)))<|Dd dI<|Dd aD<|On aD<|On cI<|Dd dI<|Dd aD<|On aD<|On (by exact dQ.val (by exact HJ rfl rfl rfl) ((decide_eq_true rfl)))<|Dd dI<|Dd aD<|On aD<|On cI<|Dd dI<|Dd aD<|On aD<|On (qZ bA aL)<|On (qZ bA aL)<|On (by exact aT ([eMv,eTg].map aJ) rfl lK rfl rfl rfl rfl rfl (rlE [eMv,eTg])) ?_
 exact On (by exact aA rfl rfl call17 rfl (hE _))<|Dd dI<|Dd aD<|On aD<|On (fK lL)<|On cI<|Dd dI<|Dd aD<|On aD<|On (fK lL)<|On cI<|Dd dI<|Dd aO<|Zz<|Sr<|Dd aD<|Dd aD<|On aD<|On cI<|Dd dI<|Dd aD<|On aD<|On cI<|Dd dI<|Dd aD<|On (qZ bF sizeOf38)<|On (qZ bF sizeOf38)<|On (by exact aA rfl rfl call26 rfl (hS _))<|Dd dI<|Dd aD<|On aD<|On (fK cB)<|On cI<|Dd dI<|Dd aO<|Zz<|aC<|Rt<|Qq
theorem aBQ (H:aE):aH Tryz.prog 9 [] H (fun r H'=>r=bv true∧H'=H):=by
 have hT1:∀ H,aH Tryz.prog 11 [.pv (cD [eMv])] H (fun r H'=>r=.tup [sv t1Y,iv 0]∧H'=H):=fun H=>by
  have:=FT [eMv] H (by decide) (fun e he=>NC e (aJD.2 (.inl (aIu.1 he))));rw [aHk] at this;exact this
 have hT2:∀ H,aH Tryz.prog 11 [.pv (cD [eTg])] H (fun r H'=>r=.tup [sv t2Y,iv 0]∧H'=H):=fun H=>by
  have:=FT [eTg] H (by decide) (fun e he=>NC e (List.mem_cons_of_mem _ he));rw [aHj] at this;exact this
 have hP:∀ H,aH Tryz.prog 13 [sv (t1Y++t2Y)] H (fun r H'=>r=.tup [.pv (cD [eMv,eTg]),iv 0]∧H'=H):=fun H=>by
  have:=PG (t1Y++t2Y) H (by decide);rw [aHl] at this;exact this
 exact XA hT1 hT2 hP aGB H
theorem eV (H:aE) (u:List Nat):∀ r∈gX u,∀ a∈r,Clo H a:=by intro r hr a ha;obtain ⟨x,_,rfl⟩:=List.mem_map.1 hr;rw [aIu] at ha;subst ha;simp
theorem HT {e:GEdit} (h:e.refs.length+e.obj.refs.length < 1099511627776):(eO e).length < 4611686018427387904:=by
 unfold eO
 split
 ·rw [l7];have h1:=List.length_filter_le nonE (s9 e);have h2:=jT e.obj.refs (fJ (fJ [] [e.id,e.other,e.node,e.obj.id]) e.refs);have h3:=jT e.refs (fJ [] [e.id,e.other,e.node,e.obj.id]);have h4:=jT [e.id,e.other,e.node,e.obj.id] [];have h5:([e.id,e.other,e.node,e.obj.id]:List ByteArray).length=4:=rfl;have h6:([]:List ByteArray).length=0:=rfl;have h7:(s9 e).length=(fJ (fJ (fJ [] [e.id,e.other,e.node,e.obj.id]) e.refs) e.obj.refs).length:=rfl;omega
 exact Nat.zero_lt_succ _
def SM (a b:GEdit):Bool:=(eO a).any (mH (cM b))||(eO b).any (mH (cM a))
theorem qA {l:List ByteArray} {s:ByteArray}:mH l s=true↔s∈l:=by
 rw [← aBM,List.any_eq_true];constructor
 ·rintro⟨x,hx,h⟩;rw [aIn h];exact hx
 intro h;exact⟨s,h,decide_eq_true rfl⟩
theorem RD {l:List ByteArray} {p:ByteArray→Bool} {k:Nat} {s:ByteArray} (h:l[k]?=some s):(l.take (k+1)).any p=((l.take k).any p||p s):=by rw [List.take_add_one,h,Option.toList_some,List.any_append];simp
theorem aBt {l:List ByteArray} {p:ByteArray→Bool} {k:Nat} {s:ByteArray} (h:l[k]?=some s) (hp:p s=true):l.any p=true:=List.any_eq_true.2 ⟨s,aJB h,hp⟩
theorem aD1 {l:List GEdit} {i k:Nat} {a b:GEdit} (ha:l[i]?=some a) (hb:l[k]?=some b):SM a b=true↔FQ l i k:=by
 have hi:=(aIv.1 ha).1;have hk:=(aIv.1 hb).1;have na:tT l i=eO a:=by rw [tT,ha];rfl
 have nb:tT l k=eO b:=by rw [tT,hb];rfl
 have wa:sN l i=cM a:=by rw [sN,ha];rfl
 have wb:sN l k=cM b:=by rw [sN,hb];rfl
 rw [SM,Bool.or_eq_true,List.any_eq_true,List.any_eq_true];constructor
 ·rintro(⟨s,h1,h2⟩|⟨s,h1,h2⟩)
  ·exact .inl ⟨hi,hk,s,by rw [na];exact h1,by rw [wb];exact qA.1 h2⟩
  exact .inr ⟨hk,hi,s,by rw [nb];exact h1,by rw [wa];exact qA.1 h2⟩
 rintro(⟨_,_,s,h1,h2⟩|⟨_,_,s,h1,h2⟩)
 ·exact .inl ⟨s,by rw [← na];exact h1,qA.2 (by rw [← wb];exact h2)⟩
 exact .inr ⟨s,by rw [← nb];exact h1,qA.2 (by rw [← wa];exact h2)⟩
theorem aAp {l:List GEdit} {i k:Nat} (h:FQ l i k):FQ l k i:=h.elim .inr .inl
theorem W9 (n:Nat):gX (List.replicate n 0)=List.replicate n [iv 0]:=by rw [gX,List.map_replicate];rfl
def zI (g:List Nat):List Int:=g.map fun(x:Nat)=>(x:Int)
theorem aEq {g:List Nat} {j x:Nat} (h:g[j]?=some x):((zI g).map encInt)[j]?=some [.int .i64 (x:Int)]:=by rw [aJL,zI,aJL,h];rfl
theorem aEp (g:List Nat):((zI g).map encInt).length=g.length:=by rw [aIr,zI,aIr]
theorem SV (f:Nat→Nat) (n r:Nat):(FF f n r).length≤n:=Nat.le_trans (List.length_filter_le _ _) (by rw [List.length_range];exact aIx _)
theorem ZA {α:Type} {p:α→Bool}:∀ {l:List α} {i:Nat},i≤l.length→(∀ j x,j < i→l[j]?=some x→p x=true)→(i=l.length∨∃ x,l[i]?=some x∧p x=false)→(l.takeWhile p).length=i
 | [],i,hi,_,_=>by
  have hi:i≤0:=hi;have:i=0:=by omega
  subst this;rfl
 | x::l,0,hi,_,h=>by
  rcases h with h|⟨y,hy,h⟩
  ·simp at h
  cases hy;rw [List.takeWhile_cons,h];rfl
 | x::l,i+1,hi,h0,h=>by
  rw [List.takeWhile_cons,h0 0 x (by omega) rfl];show (l.takeWhile p).length+1=i+1;rw [ZA (l:=l) (i:=i) (by simpa using hi) (fun j y hj hy=>h0 (j+1) y (by omega) hy) (by
   rcases h with h|⟨y,hy,h⟩
   ·left;simpa using h
   exact .inr ⟨y,hy,h⟩)]
def rb (b:GEdit):Bool:=((((((!decide (b.id=aP)||!decide (b.other=aP))||!decide (b.node=aP))||!(decide (b.x=0)&&decide (b.y=0)))||!decide (b.key=aP))||!decide (b.val=aP))||decide ((0:Int) < ((b.refs.map encStr).length:Int)))||!pC b.obj zObj
theorem AE (b:GEdit):rb b=false↔(b.id=aP∧b.other=aP∧b.node=aP∧(b.x=0∧b.y=0)∧b.key=aP∧b.val=aP∧b.refs=[]∧b.obj=zObj):=by
 have hr:decide ((0:Int) < ((b.refs.map encStr).length:Int))=false↔b.refs=[]:=by
  rw [aIz,aIr];constructor
  ·intro h;exact List.eq_nil_of_length_eq_zero (by omega)
  intro h;rw [h];simp
 simp only [rb,aJN,Bool.not_eq_false',aJA,aIy,hr,pB];constructor
 ·rintro⟨⟨⟨⟨⟨⟨⟨a,b⟩,c⟩,d⟩,e⟩,f⟩,g⟩,i⟩;exact⟨a,b,c,d,e,f,g,i⟩
 rintro⟨a,b,c,d,e,f,g,i⟩;exact⟨⟨⟨⟨⟨⟨⟨a,b⟩,c⟩,d⟩,e⟩,f⟩,g⟩,i⟩
theorem oD (x y:Int):onP x y=QI x y:=by rw [Bool.eq_iff_iff];simp only [onP,QI,aJA,aIy];omega
theorem rY:(aP.size:Int)≤200:=by decide
def aBn (e:GEdit):GEdit:=⟨e.op,e.id,e.other,e.node,e.x,e.y,e.key,e.val,e.refs,zObj⟩
theorem ed1 (e:GEdit) (ho:e.op=1):dA e=(!rb (aBn e)&&iC e.obj):=by
 obtain ⟨op,id,other,node,x,y,key,val,refs,obj⟩:=e;simp only at ho;subst ho;have hb:=AE (aBn ⟨1,id,other,node,x,y,key,val,refs,obj⟩);rw [Bool.eq_iff_iff];simp only [aBn] at hb ⊢;simp only [dA,aJA,aJK,hb,lV,oD,lU,vB];simp only [Int.reduceEq,if_true,if_false,reduceIte,Int.reduceLE,decide_true,GEdit.mk.injEq,true_and,and_true,List.all_cons,List.all_nil,Bool.and_true,aJA,oD,aIy,aJK,aJN,aIz,aIr,eq_comm (a:=aP),eq_comm (a:=(0:Int)),eq_comm (a:=zObj),eq_comm (a:=([]:List ByteArray))];constructor
 ·intro h;have hs:=rY
  simp_all
  try omega
 intro h
 simp_all
 try omega
def aBm (e:GEdit):GEdit:=⟨e.op,aP,e.other,e.node,0,0,e.key,e.val,e.refs,e.obj⟩
theorem ed2 (e:GEdit) (ho:e.op=2):dA e=(!rb (aBm e)&&([e.id].all bU&&(decide ((e.val.size:Int)≤200)&&QI e.x e.y))):=by
 obtain ⟨op,id,other,node,x,y,key,val,refs,obj⟩:=e;simp only at ho;subst ho;have hb:=AE (aBm ⟨2,id,other,node,x,y,key,val,refs,obj⟩);rw [Bool.eq_iff_iff];simp only [aBm] at hb ⊢;simp only [dA,aJA,aJK,hb,lV,oD,lU,vB];simp only [Int.reduceEq,if_true,if_false,reduceIte,Int.reduceLE,decide_true,GEdit.mk.injEq,true_and,and_true,List.all_cons,List.all_nil,Bool.and_true,aJA,oD,aIy,aJK,aJN,aIz,aIr,eq_comm (a:=aP),eq_comm (a:=(0:Int)),eq_comm (a:=zObj),eq_comm (a:=([]:List ByteArray))];constructor
 ·intro h;have hs:=rY
  simp_all
  try omega
 intro h
 simp_all
 try omega
def aBl (e:GEdit):GEdit:=⟨e.op,aP,e.other,e.node,e.x,e.y,aP,aP,e.refs,e.obj⟩
theorem ed3 (e:GEdit) (ho:e.op=3):dA e=(!rb (aBl e)&&([e.id,e.key].all bU&&decide ((e.val.size:Int)≤200))):=by
 obtain ⟨op,id,other,node,x,y,key,val,refs,obj⟩:=e;simp only at ho;subst ho;have hb:=AE (aBl ⟨3,id,other,node,x,y,key,val,refs,obj⟩);rw [Bool.eq_iff_iff];simp only [aBl] at hb ⊢;simp only [dA,aJA,aJK,hb,lV,oD,lU,vB];simp only [Int.reduceEq,if_true,if_false,reduceIte,Int.reduceLE,decide_true,GEdit.mk.injEq,true_and,and_true,List.all_cons,List.all_nil,Bool.and_true,aJA,oD,aIy,aJK,aJN,aIz,aIr,eq_comm (a:=aP),eq_comm (a:=(0:Int)),eq_comm (a:=zObj),eq_comm (a:=([]:List ByteArray))];constructor
 ·intro h;have hs:=rY
  simp_all
  try omega
 intro h
 simp_all
 try omega
def aBk (e:GEdit):GEdit:=⟨e.op,aP,e.other,e.node,e.x,e.y,e.key,e.val,[],e.obj⟩
theorem ed4 (e:GEdit) (ho:e.op=4):dA e=(!rb (aBk e)&&((e.id::e.refs).all bU&&(!(decide (((e.refs.map encStr).length:Int) < 1)||decide (2000 < ((e.refs.map encStr).length:Int)))&&decide ((e.val.size:Int)≤200)))):=by
 obtain ⟨op,id,other,node,x,y,key,val,refs,obj⟩:=e;simp only at ho;subst ho;have hb:=AE (aBk ⟨4,id,other,node,x,y,key,val,refs,obj⟩);rw [Bool.eq_iff_iff];simp only [aBk] at hb ⊢;simp only [dA,aJA,aJK,hb,lV,oD,lU,vB];simp only [Int.reduceEq,if_true,if_false,reduceIte,Int.reduceLE,decide_true,GEdit.mk.injEq,true_and,and_true,List.all_cons,List.all_nil,Bool.and_true,aJA,oD,aIy,aJK,aJN,aIz,aIr,eq_comm (a:=aP),eq_comm (a:=(0:Int)),eq_comm (a:=zObj),eq_comm (a:=([]:List ByteArray))];constructor
 ·intro h;have hs:=rY
  simp_all
  try omega
 intro h
 simp_all
 try omega
def aBj (e:GEdit):GEdit:=⟨e.op,aP,e.other,e.node,e.x,e.y,e.key,e.val,e.refs,e.obj⟩
theorem ed5 (e:GEdit) (ho:e.op=5):dA e=(!rb (aBj e)&&([e.id].all bU&&decide ((e.val.size:Int)≤200))):=by
 obtain ⟨op,id,other,node,x,y,key,val,refs,obj⟩:=e;simp only at ho;subst ho;have hb:=AE (aBj ⟨5,id,other,node,x,y,key,val,refs,obj⟩);rw [Bool.eq_iff_iff];simp only [aBj] at hb ⊢;simp only [dA,aJA,aJK,hb,lV,oD,lU,vB];simp only [Int.reduceEq,if_true,if_false,reduceIte,Int.reduceLE,decide_true,GEdit.mk.injEq,true_and,and_true,List.all_cons,List.all_nil,Bool.and_true,aJA,oD,aIy,aJK,aJN,aIz,aIr,eq_comm (a:=aP),eq_comm (a:=(0:Int)),eq_comm (a:=zObj),eq_comm (a:=([]:List ByteArray))];constructor
 ·intro h;have hs:=rY
  simp_all
  try omega
 intro h
 simp_all
 try omega
def aBi (e:GEdit):GEdit:=⟨e.op,aP,aP,aP,e.x,e.y,e.key,e.val,e.refs,e.obj⟩
theorem ed6 (e:GEdit) (ho:e.op=6):dA e=(!rb (aBi e)&&([e.id,e.node,e.other].all bU&&decide ((e.val.size:Int)≤200))):=by
 obtain ⟨op,id,other,node,x,y,key,val,refs,obj⟩:=e;simp only at ho;subst ho;have hb:=AE (aBi ⟨6,id,other,node,x,y,key,val,refs,obj⟩);rw [Bool.eq_iff_iff];simp only [aBi] at hb ⊢;simp only [dA,aJA,aJK,hb,lV,oD,lU,vB];simp only [Int.reduceEq,if_true,if_false,reduceIte,Int.reduceLE,decide_true,GEdit.mk.injEq,true_and,and_true,List.all_cons,List.all_nil,Bool.and_true,aJA,oD,aIy,aJK,aJN,aIz,aIr,eq_comm (a:=aP),eq_comm (a:=(0:Int)),eq_comm (a:=zObj),eq_comm (a:=([]:List ByteArray))];constructor
 ·intro h;have hs:=rY
  simp_all
  try omega
 intro h
 simp_all
 try omega
def aBh (e:GEdit):GEdit:=⟨e.op,aP,aP,e.node,e.x,e.y,e.key,e.val,e.refs,e.obj⟩
theorem ed7 (e:GEdit) (ho:e.op=7):dA e=(!rb (aBh e)&&([e.id,e.other].all bU&&decide ((e.val.size:Int)≤200))):=by
 obtain ⟨op,id,other,node,x,y,key,val,refs,obj⟩:=e;simp only at ho;subst ho;have hb:=AE (aBh ⟨7,id,other,node,x,y,key,val,refs,obj⟩);rw [Bool.eq_iff_iff];simp only [aBh] at hb ⊢;simp only [dA,aJA,aJK,hb,lV,oD,lU,vB];simp only [Int.reduceEq,if_true,if_false,reduceIte,Int.reduceLE,decide_true,GEdit.mk.injEq,true_and,and_true,List.all_cons,List.all_nil,Bool.and_true,aJA,oD,aIy,aJK,aJN,aIz,aIr,eq_comm (a:=aP),eq_comm (a:=(0:Int)),eq_comm (a:=zObj),eq_comm (a:=([]:List ByteArray))];constructor
 ·intro h;have hs:=rY
  simp_all
  try omega
 intro h
 simp_all
 try omega
abbrev eU (l:List ByteArray):List (List AV):=l.map (fun s=>(encStr s).map .pv)
theorem sT (l m:List ByteArray):eU l++(m.map encStr).map (·.map .pv)=eU (l++m):=by rw [← qY encStr m,eU,eU,List.map_append]
theorem qW (H:aE) (l:List ByteArray):∀ r∈eU l,∀ a∈r,Clo H a:=GF _ _ _
theorem BH (l:List ByteArray):∀ r∈l.map encStr,r.length=1:=fun r hr=>by
 obtain ⟨o,_,rfl⟩:=List.mem_map.1 hr;rfl
def bI (e:GEdit):ByteArray:=if e.op=1 then e.id else aP
def bB (e:GEdit):GObj:=if e.op=1 then zObj else e.obj
def bX (e:GEdit):Int:=if e.op=2 then 0 else e.x
def bY (e:GEdit):Int:=if e.op=2 then 0 else e.y
def bK (e:GEdit):ByteArray:=if e.op=3 then aP else e.key
def bV (e:GEdit):ByteArray:=if e.op=3 then aP else e.val
def bR (e:GEdit):List ByteArray:=if e.op=4 then[] else e.refs
def bN (e:GEdit):ByteArray:=if e.op=6 then aP else e.node
def bO (e:GEdit):ByteArray:=if(decide (e.op=6)||decide (e.op=7))=true then aP else e.other
def qR (e:GEdit):GEdit:=⟨e.op,bI e,bO e,bN e,bX e,bY e,bK e,bV e,bR e,bB e⟩
abbrev bE (e:GEdit):Ob:=bx 15 51 ((aJ e).map .pv)
def eNo:GEdit:=⟨0,aP,aP,aP,0,0,aP,aP,[],zObj⟩
theorem aFz (e:GEdit) (H:aE):aH Tryz.prog 93 [av (aJ e)] H (fun r H'=>r=av (aJ (qR e))∧H'=H):=by
 refine Pu ?_;rw [qR];obtain ⟨i,hi⟩:∃ x,x=bI e:=⟨_,rfl⟩;obtain ⟨b,hb⟩:∃ x,x=bB e:=⟨_,rfl⟩;obtain ⟨x,hx⟩:∃ x,x=bX e:=⟨_,rfl⟩;obtain ⟨y,hy⟩:∃ x,x=bY e:=⟨_,rfl⟩;obtain ⟨k,hk⟩:∃ x,x=bK e:=⟨_,rfl⟩;obtain ⟨v,hv⟩:∃ x,x=bV e:=⟨_,rfl⟩;obtain ⟨r,hr⟩:∃ x,x=bR e:=⟨_,rfl⟩;obtain ⟨n,hn⟩:∃ x,x=bN e:=⟨_,rfl⟩;obtain ⟨o,ho⟩:∃ x,x=bO e:=⟨_,rfl⟩;rw [← hi,← hb,← hx,← hy,← hk,← hv,← hr,← hn,← ho];refine Bd func93 rfl ntmps93<|Sr<|Dd (by exact cE (id:=1) rfl rfl rfl rfl rfl)<|Dd (by exact bJ (id:=2) rfl BA rfl rfl)<|Zz ?_;refine gT (fun(_:Unit)=>([(1,.ref 1 0 0 0),(2,.ref 2 0 0 0)],[(1,bE ⟨e.op,i,e.other,e.node,e.x,e.y,e.key,e.val,e.refs,b⟩),(2,bE eNo)])) (fun _=>True) ?_ ?_
 ·refine Sr<|Dd (bH fG)<|Dd (cA isAgg3)<|Dd cI<|Zz ?_;refine Cn ?_ ?_<;>intro hc1
  ·have h:=aIn hc1
   (rw [hi,hb,bI,bB,aIq h,aIq h])
   refine Rg<|Dd (jG CO)<|Dd (bH iR)<|Uu (by exact qV rfl sizeOf49 rfl rfl rfl rfl rfl rfl rfl (aJE rfl) rfl rfl)<|Zz ?_;exact⟨(),trivial,Wk⟩
  have h:=aIo hc1
  (rw [hi,hb,bI,bB,aIp h,aIp h])
  refine Rg<|Dd (bH eX)<|Uu (by exact bW rfl sizeOf9 rfl rfl rfl rfl rfl rfl (aJE rfl) rfl rfl)<|Zz ?_;exact⟨(),trivial,Wk⟩
 rintro _ -;refine gT (fun(_:Unit)=>([(1,.ref 1 0 0 0),(2,.ref 2 0 0 0)],[(1,bE ⟨e.op,i,e.other,e.node,x,y,e.key,e.val,e.refs,b⟩),(2,bE eNo)])) (fun _=>True) ?_ ?_
 ·refine Sr<|Dd (bH fG)<|Dd (cA isAgg3)<|Dd cI<|Zz ?_;refine Cn ?_ ?_<;>intro hc2
  ·have h:=aIn hc2
   (rw [hx,hy,bX,bY,aIq h,aIq h])
   refine Rg<|Dd (jG J9)<|Dd (bH iS)<|Uu (by exact qV rfl sizeOf45 rfl rfl rfl rfl rfl rfl rfl (aJE rfl) rfl rfl)<|Zz ?_;exact⟨(),trivial,Wk⟩
  have h:=aIo hc2
  (rw [hx,hy,bX,bY,aIp h,aIp h])
  refine aB ?_;exact⟨(),trivial,Wk⟩
 rintro _ -;refine gT (fun(_:Unit)=>([(1,.ref 1 0 0 0),(2,.ref 2 0 0 0)],[(1,bE ⟨e.op,i,e.other,e.node,x,y,k,v,e.refs,b⟩),(2,bE eNo)])) (fun _=>True) ?_ ?_
 ·refine Sr<|Dd (bH fG)<|Dd (cA isAgg3)<|Dd cI<|Zz ?_;refine Cn ?_ ?_<;>intro hc3
  ·have h:=aIn hc3
   (rw [hk,hv,bK,bV,aIq h,aIq h])
   refine Sr<|Dd (bH lA)<|Uu (by exact bW rfl sizeOf9 rfl rfl rfl rfl rfl rfl (aJE rfl) rfl rfl)<|Zz<|Rg<|Dd (bH lX)<|Uu (by exact bW rfl sizeOf9 rfl rfl rfl rfl rfl rfl (aJE rfl) rfl rfl)<|Zz ?_;exact⟨(),trivial,Wk⟩
  have h:=aIo hc3
  (rw [hk,hv,bK,bV,aIp h,aIp h])
  refine aB ?_;exact⟨(),trivial,Wk⟩
 rintro _ -;refine gT (fun(_:Unit)=>([(1,.ref 1 0 0 0),(2,.ref 2 0 0 0)],[(1,bE ⟨e.op,i,e.other,e.node,x,y,k,v,r,b⟩),(2,bE eNo)])) (fun _=>True) ?_ ?_
 ·refine Sr<|Dd (bH fG)<|Dd (cA isAgg3)<|Dd cI<|Zz ?_;refine Cn ?_ ?_<;>intro hc4
  ·have h:=aIn hc4
   (rw [hr,bR,aIq h])
   refine Rg<|Dd (bH gA)<|Uu (by exact bW rfl sizeOf46 rfl rfl rfl rfl rfl rfl (aJE rfl) rfl rfl)<|Zz ?_;exact⟨(),trivial,Wk⟩
  have h:=aIo hc4
  (rw [hr,bR,aIp h])
  refine aB ?_;exact⟨(),trivial,Wk⟩
 rintro _ -;refine gT (fun(_:Unit)=>([(1,.ref 1 0 0 0),(2,.ref 2 0 0 0)],[(1,bE ⟨e.op,i,e.other,n,x,y,k,v,r,b⟩),(2,bE eNo)])) (fun _=>True) ?_ ?_
 ·refine Sr<|Dd (bH fG)<|Dd (cA isAgg3)<|Dd cI<|Zz ?_;refine Cn ?_ ?_<;>intro hc5
  ·have h:=aIn hc5
   (rw [hn,bN,aIq h])
   refine Rg<|Dd (bH lY)<|Uu (by exact bW rfl sizeOf9 rfl rfl rfl rfl rfl rfl (aJE rfl) rfl rfl)<|Zz ?_;exact⟨(),trivial,Wk⟩
  have h:=aIo hc5
  (rw [hn,bN,aIp h])
  refine aB ?_;exact⟨(),trivial,Wk⟩
 rintro _ -;refine gT (fun(_:Unit)=>([(1,.ref 1 0 0 0),(2,.ref 2 0 0 0)],[(1,bE ⟨e.op,i,o,n,x,y,k,v,r,b⟩),(2,bE eNo)])) (fun _=>True) ?_ ?_
 ·refine Sq ?_;refine bD (t:=34) (n:=9) (X:=decide (e.op=6)||decide (e.op=7)) ?_ ?_
  ·all_goals refine Dd (bH fG) ?_
   all_goals refine Dd (cA isAgg3)<|Dd cI<|Dm ?_
   all_goals refine Sp 30 (fun h30=>?_) fun h30=>?_
   all_goals try contradiction
   all_goals first|refine Fo<|Fo<|Fo ?_|refine On (bH fG)<|On (cA isAgg3)<|On cI ?_
   all_goals refine Dd dI<|Zz ?_
   all_goals(exact⟨⟨_,rfl,by(simp only [*,Zo];done)⟩,rfl,rfl,rfl⟩)
  refine Cn ?_ ?_<;>intro hc6
  ·have h:=hc6;rw [ho,bO,aIq h];refine Rg<|Dd (bH fR)<|Uu (by exact bW rfl sizeOf9 rfl rfl rfl rfl rfl rfl (aJE rfl) rfl rfl)<|Zz ?_;exact⟨(),trivial,Wk⟩
  have h:=hc6;rw [ho,bO,aIp (by rw [h];decide)];refine aB ?_;exact⟨(),trivial,Wk⟩
 rintro _ -;refine Sr<|Dd (qZ bA aL)<|Uu (fP aL)<|Zz<|aC ?_;refine cZ (H':=[]) (.inr rfl) rfl (nZ bA aL) (Fin.wk (r:=av (aJ ⟨e.op,i,o,n,x,y,k,v,r,b⟩)) (by simp) trivial trivial) ?_;exact Qq
def LG (e:GEdit):List ByteArray:=if e.op=3 then[e.id]++[e.key] else[e.id]
def NF (e:GEdit):List ByteArray:=if e.op=4 then LG e++e.refs else LG e
def OD (e:GEdit):List ByteArray:=if e.op=6 then NF e++[e.node] else NF e
def nm4 (e:GEdit):List ByteArray:=if(decide (e.op=6)||decide (e.op=7))=true then OD e++[e.other] else OD e
def aHD (e:GEdit):Bool:=decide (((e.refs.map encStr).length:Int) < 1)||decide (2000 < ((e.refs.map encStr).length:Int))
def vG (e:GEdit):Bool:=!rb (qR e)&&(if e.op=1 then iC e.obj else(nm4 e).all bU&&(!(decide (e.op=4)&&aHD e)&&(decide ((e.val.size:Int)≤200)&&(!decide (e.op=2)||QI e.x e.y))))
theorem aGY (e:GEdit) (h:1≤e.op∧e.op≤7):dA e=vG e:=by
 obtain ⟨op,id,other,node,x,y,key,val,refs,obj⟩:=e;simp only at h;rcases(by omega:op=1∨op=2∨op=3∨op=4∨op=5∨op=6∨op=7)with rfl|rfl|rfl|rfl|rfl|rfl|rfl
 ·rw [ed1 _ rfl];rfl
 ·rw [ed2 _ rfl];rfl
 ·rw [ed3 _ rfl,vG];show _=(_&&(_&&(true&&(_&&true))));rw [Bool.and_true,Bool.true_and];rfl
 ·rw [ed4 _ rfl,vG];show _=(_&&(_&&(!(true&&_)&&(_&&true))));rw [Bool.and_true,Bool.true_and];rfl
 ·rw [ed5 _ rfl,vG];show _=(_&&(_&&(true&&(_&&true))));rw [Bool.and_true,Bool.true_and];rfl
 ·rw [ed6 _ rfl,vG];show _=(_&&(_&&(true&&(_&&true))));rw [Bool.and_true,Bool.true_and];rfl
 rw [ed7 _ rfl,vG];show _=(_&&(_&&(true&&(_&&true))));rw [Bool.and_true,Bool.true_and];rfl
theorem UM (e:GEdit):(nm4 e).length≤e.refs.length+5:=by
 rw [nm4,OD,NF,LG]
 repeat' split
 all_goals simp only [aIs,aIt,List.length_nil];omega
theorem aDV (e:GEdit):(LG e).length≤e.refs.length+5:=by
 rw [LG]
 split<;>(simp only [aIs,aIt,List.length_nil];omega)
theorem aDU (e:GEdit):(NF e).length≤e.refs.length+5:=by
 rw [NF,LG]
 repeat' split
 all_goals simp only [aIs,aIt,List.length_nil];omega
theorem aDT (e:GEdit):(OD e).length≤e.refs.length+5:=by
 rw [OD,NF,LG]
 repeat' split
 all_goals simp only [aIs,aIt,List.length_nil];omega
theorem B6 {α:Type} {P:α→Prop} {p:Prop} [Decidable p] {a b:List α} (ha:∀ s∈a,P s) (hb:∀ s∈b,P s):∀ s∈(if p then a else b),P s:=by
 split
 ·exact ha
 exact hb
theorem B7 {α:Type} {P:α→Prop} {a b:List α} (ha:∀ s∈a,P s) (hb:∀ s∈b,P s):∀ s∈a++b,P s:=fun s hs=>(List.mem_append.1 hs).elim (ha s) (hb s)
theorem xN {α:Type} {P:α→Prop} {a:α} (h:P a):∀ s∈[a],P s:=fun s hs=>by
 rw [aIu.1 hs];exact h
theorem aDR {e:GEdit} (he:tQ e):∀ s∈nm4 e,s.size < 4611686018427387904:=by obtain ⟨⟨h1,h2,h3,h4⟩,⟨h5,h6⟩,h7⟩:=he;have m1:∀ s∈LG e,s.size < 4611686018427387904:=B6 (B7 (xN h1) (xN h4)) (xN h1);have m2:∀ s∈NF e,s.size < 4611686018427387904:=B6 (B7 m1 h6) m1;have m3:∀ s∈OD e,s.size < 4611686018427387904:=B6 (B7 m2 (xN h3)) m2;exact B6 (B7 m3 (xN h2)) m3
def nm0 (e:GEdit):List ByteArray:=[e.id]
theorem KY (e:GEdit) (H:aE) (he:tQ e) (hr:e.refs.length < 1099511627776):aH Tryz.prog 44 [av (aJ e)] H (fun r H'=>r=bv (dA e)∧H'=H):=by
 refine Pu ?_;have hnm:=aDR he;have hnl:=UM e;have hrl:(e.refs.map encStr).length=e.refs.length:=aIr _;have hbo:(qR e).obj.refs.length < 4611686018427387904∧(qR e).obj.tags.length < 4611686018427387904:=by
  show (bB e).refs.length < _∧(bB e).tags.length < _;rw [bB]
  split
  ·exact⟨by decide,by decide⟩
  exact⟨he.2.2.2.2.1,he.2.2.2.1.1⟩
 refine Bd func44 rfl ntmps44<|Sr<|Dd (by exact cE (id:=1) rfl rfl rfl rfl rfl)<|Dd aO<|Zz<|Sq<|Sq ?_;refine bD (t:=13) (n:=9) (X:=decide (e.op < 1)||decide (7 < e.op)) ?_ ?_
 ·all_goals refine Dd (bH fG) ?_
  all_goals refine Dd (cA isAgg3)<|Dd dD<|Dm ?_
  all_goals refine Sp 9 (fun h9=>?_) fun h9=>?_
  all_goals try contradiction
  all_goals first|refine Fo<|Fo<|Fo ?_|refine On (bH fG)<|On (cA isAgg3)<|On kC ?_
  all_goals refine Dd dI<|Zz ?_
  all_goals(exact⟨⟨_,rfl,by(rw [h9];rfl)⟩,rfl,rfl,rfl⟩)
 refine Cn ?_ ?_<;>intro hc1
 ·have h:=hc1;have hs:dA e=false:=by
   simp only [Bool.or_eq_true,aIy] at h;rw [dA,Bool.and_eq_false_iff,Bool.and_eq_false_iff,aIz,aIz];omega
  rw [hs];exact Sr<|Dd aO<|Zz<|aC<|Rt<|Qq
 have h:=hc1;simp only [aJN,aIz] at h;rw [aGY e (by omega),vG];have hrb:rb (qR e)=(((((((!decide ((qR e).id=aP)||!decide ((qR e).other=aP))||!decide ((qR e).node=aP))||!(decide ((qR e).x=0)&&decide ((qR e).y=0)))||!decide ((qR e).key=aP))||!decide ((qR e).val=aP))||decide ((0:Int) < (((qR e).refs.map encStr).length:Int)))||!pC (qR e).obj zObj):=rfl;have hbc:=fun H=>aFz e H;obtain ⟨G,hG⟩:∃ G,G=qR e:=⟨_,rfl⟩;simp only [← hG] at hrb hbo hbc;rw [← hG];clear hG;obtain ⟨g0,g1,g2,g3,g4,g5,g6,g7,g8,g9⟩:=G;simp only at hrb hbo;refine aB<|Sr<|Dd (by exact aI rfl bA aL rfl rfl rfl rfl (by simp only [Zl,aQ,aG,encStr,aJ,zObj];rfl) rfl)<|Dd (by exact aA rfl rfl call93 rfl (hbc _))<|Dd (by exact bJ (id:=3) rfl BA rfl rfl)<|Uu (fP aL)<|Zz<|Sq<|Sq ?_;refine bD (t:=57) (n:=49) (X:=rb ⟨g0,g1,g2,g3,g4,g5,g6,g7,g8,g9⟩) ?_ ?_
 ·all_goals refine Dd (bH eX) ?_
  all_goals refine Dd (cA isAgg9)<|Dd JQ<|Dm ?_
  all_goals refine Sp 19 (fun h19=>?_) fun h19=>?_
  all_goals(try(with_reducible contradiction))
  all_goals first|refine Fo<|Fo<|Fo ?_|refine On (bH fR)<|On (cA isAgg9)<|On JQ ?_
  all_goals refine Dd dI<|Dm ?_
  all_goals refine Sp 24 (fun h24=>?_) fun h24=>?_
  all_goals(try(with_reducible contradiction))
  all_goals first|refine Fo<|Fo<|Fo ?_|refine On (bH lY)<|On (cA isAgg9)<|On JQ ?_
  all_goals refine Dd dI<|Dm ?_
  all_goals refine Sp 29 (fun h29=>?_) fun h29=>?_
  all_goals(try(with_reducible contradiction))
  all_goals first|refine Fo<|Fo<|Fo<|Fo ?_|refine On (bH iS)<|On (by exact aI rfl dZ sizeOf45 rfl rfl rfl rfl (by simp only [Zl,aQ,aG,encStr,aJ,zObj];rfl) rfl)<|On (jG J9)<|On (by exact B0 rfl rfl rfl rfl rfl gV (MO _ _ _ _)) ?_
  all_goals refine Dd dI<|Dm ?_
  all_goals refine Sp 35 (fun h35=>?_) fun h35=>?_
  all_goals(try(with_reducible contradiction))
  all_goals first|refine Fo<|Fo<|Fo ?_|refine On (bH lA)<|On (cA isAgg9)<|On JQ ?_
  all_goals refine Dd dI<|Dm ?_
  all_goals refine Sp 40 (fun h40=>?_) fun h40=>?_
  all_goals(try(with_reducible contradiction))
  all_goals first|refine Fo<|Fo<|Fo ?_|refine On (bH lX)<|On (cA isAgg9)<|On JQ ?_
  all_goals refine Dd dI<|Dm ?_
  all_goals refine Sp 45 (fun h45=>?_) fun h45=>?_
  all_goals(try(with_reducible contradiction))
  all_goals first|refine Fo<|Fo<|Fo<|Fo ?_|refine On (bH gA)<|On (cA aV)<|On (fK aK)<|On kC ?_
  all_goals refine Dd dI<|Dm ?_
  all_goals refine Sp 51 (fun h51=>?_) fun h51=>?_
  all_goals(try(with_reducible contradiction))
  all_goals first|refine Fo<|Fo<|Fo<|Fo<|Fo ?_|refine On (bH iR)<|On (by exact aI rfl aY sizeOf49 rfl rfl rfl rfl (by simp only [Zl,aQ,aG,encStr,aJ,zObj];rfl) rfl)<|On (jG CO)<|On (by exact aA rfl rfl aIb rfl (T8 g9 zObj _ hbo.1 hbo.2))<|On jU ?_
  all_goals refine Dd dI<|Zz ?_
  all_goals(exact⟨⟨_,rfl,by rw [hrb];first|(rw [h19];rfl)|(rw [h19,h24];rfl)|(rw [h19,h24,h29];rfl)|(rw [h19,h24,h29,h35];rfl)|(rw [h19,h24,h29,h35,h40];rfl)|(rw [h19,h24,h29,h35,h40,h45];rfl)|(rw [h19,h24,h29,h35,h40,h45,h51];rfl)⟩,rfl,rfl,rfl⟩)
 refine Cn ?_ ?_<;>intro hc2
 ·have h2:=hc2;rw [h2,Bool.not_true,Bool.false_and];exact Sr<|Dd aO<|Zz<|aC<|Rt<|Qq
 have h2:=hc2;rw [h2,Bool.not_false,Bool.true_and];clear hrb hbo h2;refine aB<|Sq<|Sr<|Dd (bH fG)<|Dd (cA isAgg3)<|Dd cI<|Zz ?_;refine Cn ?_ ?_<;>intro hc3
 ·have h3:e.op=1:=aIn hc3;rw [aIq h3];exact Sr<|Dd (bH iR)<|Dd (by exact aI rfl aY sizeOf49 rfl rfl rfl rfl (by simp only [Zl,aQ,aG,encStr,aJ,zObj];rfl) rfl)<|Dd (by exact aA rfl rfl call94 rfl (aAK e.obj _ he.2.2))<|Dd aO<|Zz<|aC<|Rt<|Qq
 have h3:¬ e.op=1:=aIo hc3;rw [aIp h3];refine aB<|Sr<|Dd (bH eX)<|Dd (cA isAgg9)<|Dd (by exact eN (id:=66) rfl cC rfl rfl rfl rfl (by simp) rfl)<|Da ?_;refine gT (fun(g:Nat)=>([(1,.ref 1 0 0 0),(4,.osl 66 g 0 (LG e).length)],[(1,bE e),(66,⟨g,1,9,eU (LG e)⟩)])) (fun _=>True) ?_ ?_
 ·refine Sr<|Dd (bH fG)<|Dd (cA isAgg3)<|Dd cI<|Zz ?_;refine Cn ?_ ?_<;>intro hc4
  ·have h:=aIn hc4;have hm:LG e=nm0 e++[e.key]:=aIq h;have hl:(nm0 e).length+([e.key]).length=(nm0 e++[e.key]).length:=aIs.symm;have hb:(nm0 e++[e.key]).length < 8796093022208:=by rw [← hm];have:=aDV e;omega
   rw [hm];refine Rg<|Dd aD<|Dd (bH lA)<|Dd (cA isAgg9)<|Dd (by exact aT [encStr e.key] rfl cC rfl rfl rfl rfl rfl (by simp [encStr]))<|Dd (by exact c6 (ps:=([e.key]).map encStr) rfl cC E4 rfl rfl rfl rfl rfl (show (eU (nm0 e)).length=(nm0 e).length from aIr _) rfl (BH _) (m:=([e.key]).length) (aIr _) (by omega) hl (sT (nm0 e) [e.key]))<|Da ?_;exact⟨0+1,trivial,(cY.wk (Ea<|Ea<|trivial) (Hb<|Hc (qW _ _)<|trivial) trivial)⟩
  have h:=hc4;have hm:LG e=nm0 e:=aIp (by exact aIo h);rw [hm];refine aB ?_;exact⟨0,trivial,Wk⟩
 rintro g -;refine gT (fun(g:Nat)=>([(1,.ref 1 0 0 0),(4,.osl 66 g 0 (NF e).length)],[(1,bE e),(66,⟨g,1,9,eU (NF e)⟩)])) (fun _=>True) ?_ ?_
 ·refine Sr<|Dd (bH fG)<|Dd (cA isAgg3)<|Dd cI<|Zz ?_;refine Cn ?_ ?_<;>intro hc5
  ·have h:=aIn hc5;have hm:NF e=LG e++e.refs:=aIq h;have hl:(LG e).length+(e.refs).length=(LG e++e.refs).length:=aIs.symm;have hb:(LG e++e.refs).length < 8796093022208:=by rw [← hm];have:=aDU e;omega
   rw [hm];refine Rg<|Dd aD<|Dd (bH gA)<|Dd (cA aV)<|Dd (by exact c6 (ps:=(e.refs).map encStr) rfl cC E4 rfl rfl rfl rfl rfl (show (eU (LG e)).length=(LG e).length from aIr _) rfl (BH _) (m:=(e.refs).length) (aIr _) (by omega) hl (sT (LG e) e.refs))<|Da ?_;exact⟨g+1,trivial,(cY.wk (Ea<|Ea<|trivial) (Hb<|Hc (qW _ _)<|trivial) trivial)⟩
  have h:=hc5;have hm:NF e=LG e:=aIp (by exact aIo h);rw [hm];refine aB ?_;exact⟨g,trivial,Wk⟩
 rintro g -;refine gT (fun(g:Nat)=>([(1,.ref 1 0 0 0),(4,.osl 66 g 0 (OD e).length)],[(1,bE e),(66,⟨g,1,9,eU (OD e)⟩)])) (fun _=>True) ?_ ?_
 ·refine Sr<|Dd (bH fG)<|Dd (cA isAgg3)<|Dd cI<|Zz ?_;refine Cn ?_ ?_<;>intro hc6
  ·have h:=aIn hc6;have hm:OD e=NF e++[e.node]:=aIq h;have hl:(NF e).length+([e.node]).length=(NF e++[e.node]).length:=aIs.symm;have hb:(NF e++[e.node]).length < 8796093022208:=by rw [← hm];have:=aDT e;omega
   rw [hm];refine Rg<|Dd aD<|Dd (bH lY)<|Dd (cA isAgg9)<|Dd (by exact aT [encStr e.node] rfl cC rfl rfl rfl rfl rfl (by simp [encStr]))<|Dd (by exact c6 (ps:=([e.node]).map encStr) rfl cC E4 rfl rfl rfl rfl rfl (show (eU (NF e)).length=(NF e).length from aIr _) rfl (BH _) (m:=([e.node]).length) (aIr _) (by omega) hl (sT (NF e) [e.node]))<|Da ?_;exact⟨g+1,trivial,(cY.wk (Ea<|Ea<|trivial) (Hb<|Hc (qW _ _)<|trivial) trivial)⟩
  have h:=hc6;have hm:OD e=NF e:=aIp (by exact aIo h);rw [hm];refine aB ?_;exact⟨g,trivial,Wk⟩
 rintro g -;refine gT (fun(g:Nat)=>([(1,.ref 1 0 0 0),(4,.osl 66 g 0 (nm4 e).length)],[(1,bE e),(66,⟨g,1,9,eU (nm4 e)⟩)])) (fun _=>True) ?_ ?_
 ·refine Sq ?_;refine bD (t:=97) (n:=9) (X:=decide (e.op=6)||decide (e.op=7)) ?_ ?_
  ·all_goals refine Dd (bH fG) ?_
   all_goals refine Dd (cA isAgg3)<|Dd cI<|Dm ?_
   all_goals refine Sp 93 (fun h93=>?_) fun h93=>?_
   all_goals(try(with_reducible contradiction))
   all_goals first|refine Fo<|Fo<|Fo ?_|refine On (bH fG)<|On (cA isAgg3)<|On cI ?_
   all_goals refine Dd dI<|Zz ?_
   all_goals(exact⟨⟨_,rfl,by(rw [h93];rfl)⟩,rfl,rfl,rfl⟩)
  refine Cn ?_ ?_<;>intro hc7
  ·have h:=id hc7;have hm:nm4 e=OD e++[e.other]:=aIq h;have hl:(OD e).length+([e.other]).length=(OD e++[e.other]).length:=aIs.symm;have hb:(OD e++[e.other]).length < 8796093022208:=by rw [← hm];have:=UM e;omega
   rw [hm];refine Rg<|Dd aD<|Dd (bH fR)<|Dd (cA isAgg9)<|Dd (by exact aT [encStr e.other] rfl cC rfl rfl rfl rfl rfl (by simp [encStr]))<|Dd (by exact c6 (ps:=([e.other]).map encStr) rfl cC E4 rfl rfl rfl rfl rfl (show (eU (OD e)).length=(OD e).length from aIr _) rfl (BH _) (m:=([e.other]).length) (aIr _) (by omega) hl (sT (OD e) [e.other]))<|Da ?_;exact⟨g+1,trivial,(cY.wk (Ea<|Ea<|trivial) (Hb<|Hc (qW _ _)<|trivial) trivial)⟩
  have h:=hc7;have hm:nm4 e=OD e:=aIp (by(rw [h];decide));rw [hm];refine aB ?_;exact⟨g,trivial,Wk⟩
 rintro g -;obtain ⟨N,hN⟩:∃ N,N=nm4 e:=⟨_,rfl⟩;rw [← hN] at hnm hnl;rw [← hN];clear hN;have hNl:(N.map encStr).length=N.length:=aIr _;refine Sq<|Sq ?_;refine iB.ent (cY.fz (id:=66) (E':=[(1,.ref 1 0 0 0),(4,.pv (cS N))]) (H':=[(1,bE e)]) (N.map encStr) rfl (qY encStr N)
  (by intro p hp;simp only [aJD,aJH,or_false] at hp;rcases hp with rfl|rfl;exact⟨_,rfl,.same (.ref rfl)⟩;exact⟨_,rfl,.osl (by rw [aJJ,List.drop_zero,← List.length_map (f:=encStr),List.take_length])⟩) rfl ⟨⟨_,rfl,rfl⟩,(by(simp;done)),trivial⟩ trivial) ?_
 refine Rg<|Dd aO<|Zz<|aF ?_;refine bG (σ:=Nat) (fun q=>([(1,.ref 1 0 0 0),(4,.pv (cS N)),(5,iv (q:Int))],[(1,bE e)])) (fun q=>q≤N.length∧∀ j,j < q→∀ b,N[j]?=some b→(!bU b)=false) (fun q=>N.length - q) 0 ⟨by omega,by omega⟩ ?_ ?_
 ·exact Wk
 rintro q ⟨hq,hno⟩;refine Sq<|Sr<|Dd aD<|Dd aD<|Dd (fK aK)<|Dd dD<|Zz ?_;refine Cn ?_ ?_<;>intro hc8
 ·have hlt:q < N.length:=by have:=aIn hc8;omega
  obtain ⟨s,hs⟩:=aX hlt;have hi:=bZ (f:=encStr) hs;refine aB<|Sq<|aF<|Sr<|Dd aD<|Dd aD<|Dd (e8 cC)<|Dd (fM isAgg9)<|Dd (by exact aA rfl rfl gK rfl (jZ s _ (hnm s (aJB hs))))<|Dd jU<|Zz ?_;refine Cn ?_ ?_<;>intro hc9
  ·have hb:(!bU s)=true:=hc9;have hall:N.all bU=false:=by
    rw [List.all_eq_false];exact⟨s,aJB hs,by simpa using hb⟩
   rw [hall];exact Sr<|Dd aO<|Zz<|aC<|Rt<|Qq
  have hb:(!bU s)=false:=hc9;refine aB<|Rg<|Dd aD<|Dd eL<|Da ?_;exact⟨q+1,⟨by omega,j7 hno hs hb⟩,by omega,Wk⟩
 have hge:q=N.length:=by have:=aIo hc8;omega
 subst hge;have hall:N.all bU=true:=by
  rw [List.all_eq_true];intro s hs;obtain ⟨j,hj⟩:=aJM.1 hs;have:=hno j (aIv.1 hj).1 s hj
  simpa using this
 rw [hall,Bool.true_and,aHD];clear hnm hnl hno hall he;refine aZ<|Sq<|Sq ?_;refine bD (t:=129) (n:=17) (X:=decide (e.op=4)&&(decide (((e.refs.map encStr).length:Int) < 1)||decide (2000 < ((e.refs.map encStr).length:Int)))) ?_ ?_
 ·all_goals refine Dd (bH fG) ?_
  all_goals refine Dd (cA isAgg3)<|Dd cI<|Dm ?_
  all_goals refine Sp 118 (fun h118=>?_) fun h118=>?_
  all_goals(try(with_reducible contradiction))
  all_goals first|refine Fo<|Fo<|Fo<|Fo<|Fo ?_|refine On (bH gA)<|On (cA aV)<|On (fK aK)<|On dD<|On aD ?_
  all_goals(first|refine Sp 123 (fun h123=>?_) fun h123=>?_|refine x8 (t:=123) rfl ?_)
  all_goals(try(with_reducible contradiction))
  all_goals first|refine Fo ?_|refine Fu ?_|refine On (bH gA) ?_
  all_goals first|refine Fo ?_|refine Fu ?_|refine On (cA aV) ?_
  all_goals first|refine Fo ?_|refine Fu ?_|refine On (fK aK) ?_
  all_goals first|refine Fo ?_|refine Fu ?_|refine On kC ?_
  all_goals first|refine Fo ?_|refine On dI ?_
  all_goals refine Dd dI<|Zz ?_
  all_goals(exact⟨⟨_,rfl,by first|(rw [h118];rfl)|(rw [h118,h123];rfl)⟩,rfl,rfl,rfl⟩)
 refine Cn ?_ ?_<;>intro hc10
 ·have h5:=hc10;rw [h5];exact Sr<|Dd aO<|Zz<|aC<|Rt<|Qq
 have h5:=hc10;rw [h5,Bool.not_false,Bool.true_and];refine aB<|Sq ?_;refine bD (t:=2) (n:=17) (X:=decide ((e.val.size:Int)≤200)&&(!decide (e.op=2)||QI e.x e.y)) ?_ ?_
 ·all_goals refine Dd (bH lX) ?_
  all_goals refine Dd (cA isAgg9)<|Dd (jJ underlying9)<|Dd JK<|Dm ?_
  all_goals refine Sp 134 (fun h134=>?_) fun h134=>?_
  all_goals(try(with_reducible contradiction))
  all_goals first|refine Fo<|Fo<|Fo<|Fo ?_|refine On (bH fG)<|On (cA isAgg3)<|On tU<|On aD ?_
  all_goals(first|refine Sp 138 (fun h138=>?_) fun h138=>?_|refine x8 (t:=138) rfl ?_)
  all_goals(try(with_reducible contradiction))
  all_goals first|refine Fo ?_|refine Fu ?_|refine On (bH iS) ?_
  all_goals first|refine Fo ?_|refine Fu ?_|refine On (by exact aI rfl dZ sizeOf45 rfl rfl rfl rfl (by simp only [Zl,aQ,aG,encStr,aJ,zObj];rfl) rfl) ?_
  all_goals first|refine Fo ?_|refine Fu ?_|refine On (by exact aA rfl rfl call96 rfl (aEY e.x e.y _)) ?_
  all_goals first|refine Fo ?_|refine On dI ?_
  all_goals refine Dd dI<|Da ?_
  all_goals(exact⟨⟨_,rfl,by first|(rw [h134];rfl)|(rw [h134,h138];rfl)⟩,rfl,rfl,rfl⟩)
 exact aC<|Rt<|Qq
theorem DL (l:List GEdit) (H:aE) (hl:l.length < 1099511627776) (he:∀ e∈l,tQ e) (hr:∀ e∈l,e.refs.length < 1099511627776):aH Tryz.prog 16 [.pv (cD l)] H (fun r H'=>r=bv (eW l)∧H'=H):=by
 refine Pu ?_;have hml:(l.map aJ).length=l.length:=aIr _;refine Bd func16 rfl ntmps16<|Sr<|Dd aO<|Zz<|Sq<|Sq ?_;refine bD (t:=11) (n:=9) (X:=decide (((l.map aJ).length:Int) < 1)||decide (200 < ((l.map aJ).length:Int))) ?_ ?_
 ·all_goals refine Dd aD ?_
  all_goals refine Dd (fK cB)<|Dd dD<|Dm ?_
  all_goals refine Sp 7 (fun h7=>?_) fun h7=>?_
  all_goals try contradiction
  all_goals first|refine Fo<|Fo<|Fo ?_|refine On aD<|On (fK cB)<|On kC ?_
  all_goals refine Dd dI<|Zz ?_
  all_goals(exact⟨⟨_,rfl,by first|(simp_all;done)|(simp_all;omega)⟩,rfl,rfl,rfl⟩)
 refine Cn ?_ ?_<;>intro hc1
 ·have hs:eW l=false:=by
   simp only [Bool.or_eq_true,aIy] at hc1;rw [eW,Bool.and_eq_false_iff,Bool.and_eq_false_iff,aIz,aIz];left;omega
  refine Sr<|Dd aO<|Zz<|aC<|Rt ?_;exact⟨by rw [hs],rfl⟩
 have hs:eW l=!(l.any (fun e=>!dA e)):=by
  simp only [aJN,aIz] at hc1;rw [eW,decide_eq_true (by omega:(0:Int) < (l.length:Int)),decide_eq_true (by omega:(l.length:Int)≤200)];rfl
 rw [hs];refine aB<|Sq<|Sr<|Dd aO<|Zz<|aF ?_;refine bG (σ:=Nat) (fun k=>([(0,.pv (cD l)),(3,iv (k:Int))],[])) (fun k=>k≤l.length∧∀ j,j < k→∀ b,l[j]?=some b→(!dA b)=false) (fun k=>l.length - k) 0 ⟨by omega,by omega⟩ ?_ ?_
 ·exact E0
 rintro k ⟨hk,hno⟩;refine Sq<|Sr<|Dd aD<|Dd aD<|Dd (fK cB)<|Dd dD<|Zz ?_;refine Cn ?_ ?_<;>intro hc2
 ·have hlt:k < l.length:=by have:=aIn hc2;omega
  obtain ⟨e,hx⟩:=aX hlt;have hi:=bZ (f:=aJ) hx;refine aB<|Sq<|aF<|Sr<|Dd aD<|Dd aD<|Dd (e8 lK)<|Dd (by exact bQ rfl bA aL rfl (by omega) (by simp only [Zl,aQ,aG,encStr,aJ,zObj];rfl) rfl)<|Dd (by exact aA rfl rfl call44 rfl (KY e _ (he e (aJB hx)) (hr e (aJB hx))))<|Dd jU<|Zz ?_;refine Cn ?_ ?_<;>intro hc3
  ·refine Sr<|Dd aO<|Zz<|aC<|Rt ?_;exact⟨by rw [sI hx hc3];rfl,rfl⟩
  refine aB<|Rg<|Dd aD<|Dd eL<|Da ?_;exact⟨k+1,⟨by omega,j7 hno hx hc3⟩,by omega,E0⟩
 have hge:k=l.length:=by have:=aIo hc2;omega
 subst hge;refine aZ<|Sr<|Dd aO<|Zz<|aC<|Rt ?_;exact⟨by rw [u9 hno];rfl,rfl⟩
theorem pN (l:List ByteArray):∀ r∈l.map encStr,r.length=1:=fun r hr=>by
 obtain ⟨t,_,rfl⟩:=List.mem_map.1 hr;rfl
theorem aCc (l:List ByteArray) {n:Nat} (hn:n=l.length):((l.map encStr).take (0+n)).drop 0=l.map encStr:=by rw [hn,aJJ,List.drop_zero,← List.length_map (f:=encStr),List.take_length]
theorem Fin.strsO {H1:aE} {id g n:Nat} {ob:Ob} (l:List ByteArray) (hH:H1.get id=some ob) (hg:ob.g=g) (hps:ob.rows=z6 l) (hn:n=l.length) :
  Fin [] H1 (.osl id g 0 n) [] (.pv (cS l)):=by
 subst hg;exact Fin.fz (id:=id) (ob:=ob) (l.map encStr) hH (hps.trans (qY encStr l)) (.osl (aCc l hn)) rfl trivial trivial
theorem TY (l:List ByteArray):∀ r∈z6 l,r.length=1:=fun r hr=>by
 obtain ⟨o,_,rfl⟩:=List.mem_map.1 hr;rfl
theorem aEU {l:List ByteArray} {n:Nat} (hn:n=l.length):((z6 l).drop 0).take n=z6 l:=by rw [hn,List.drop_zero,← List.length_map (f:=fun e=>(encStr e).map AV.pv),List.take_length]
def rTw (l:List ByteArray) (s:ByteArray):Nat:=(l.takeWhile (fun x=>kR x s)).length
def n0 (l:List ByteArray) (s:ByteArray):List ByteArray:=if l[rTw l s]?=some s then l else l.take (rTw l s)++s::l.drop (rTw l s)
theorem aC6 {p:ByteArray→Bool} {l:List ByteArray} {i:Nat} (h1:i≤l.length) (h2:∀ j x,j < i→l[j]?=some x→p x=true) (h3:i=l.length∨∃ x,l[i]?=some x∧p x=false):(l.takeWhile p).length=i:=ZA h1 h2 h3
theorem SS (l:List ByteArray) (s:ByteArray) (H:aE) (hm:l.length < 274877906944):aH Tryz.prog 154 [.pv (cS l),sv s] H (fun r H'=>r=.pv (cS (n0 l s))∧H'=H):=by
 refine Pu ?_;have hml:(l.map encStr).length=l.length:=aIr _;refine Bd func154 rfl ntmps154<|Sr<|Dd aO<|Zz<|Sr<|Dd aO<|Zz<|Sq<|aF ?_;refine bG (σ:=Nat) (fun i=>([(0,.pv (cS l)),(1,sv s),(5,iv (i:Int))],[])) (fun i=>i≤l.length∧∀ j x,j < i→l[j]?=some x→kR x s=true) (fun i=>l.length - i) 0 ⟨by omega,fun j x hj=>by omega⟩ ?_ ?_
 ·exact Wk
 rintro i ⟨hi,hno⟩;have hstop:(i=l.length∨∃ x,l[i]?=some x∧kR x s=false)→rTw l s=i:=fun h=>aC6 hi hno h;rcases Nat.lt_or_ge i l.length with hil|hil
 ·obtain ⟨x,hx⟩:=aX hil;have hi1:=bZ (f:=encStr) hx;have hk:decide ((i:Int) < ((l.map encStr).length:Int))=true:=decide_eq_true (by omega);refine Sq<|Sr<|Dd aD<|Dd aD<|Dd (fK aK)<|Dd dD<|Dd aD<|Oa aD<|Oa aD<|Oa (by exact dU rfl cC rfl rfl (by omega) (by exact aJC _) hi1 rfl)<|Oa (fM isAgg9 (hi:=hi1))<|Oa aD<|Oa (by exact PM rfl rfl rfl)<|Dd xI<|Zz ?_;refine Cn ?_ ?_<;>intro hc1
  ·refine aB<|aF<|Rg<|Dd aD<|Dd eL<|Da ?_;refine⟨i+1,⟨by omega,fun j y hj hy=>?_⟩,by omega,Wk⟩;rcases Nat.lt_or_ge j i with h|h
   ·exact hno j y h hy
   have hji:j=i:=by omega
   subst hji;rw [hx] at hy;cases hy;exact hc1
  have hst:=hstop (.inr ⟨x,hx,hc1⟩);refine aZ<|Sq<|Sr<|Dd aD<|Dd aD<|Dd (fK aK)<|Dd dD<|Dd aD<|Oa aD<|Oa aD<|Oa (by exact dU rfl cC rfl rfl (by omega) (by exact aJC _) hi1 rfl)<|Oa (fM isAgg9 (hi:=hi1))<|Oa aD<|Oa sQ<|Dd xI<|Zz ?_;refine Cn ?_ ?_<;>intro hc2
  ·have hxs:=aIn hc2;have hgw:n0 l s=l:=by rw [n0,hst,hx,hxs,aIq rfl]
   rw [hgw];exact Sr<|Dd aD<|Dd aO<|Zz<|aC<|Rt<|Qq
  have hxs:=aIo hc2;have hgw:n0 l s=l.take i++s::l.drop i:=by rw [n0,hst,hx,aIp (fun e=>hxs (Option.some.inj e))]
  rw [hgw];have hll:(l.drop i).length≤l.length:=by rw [aJG];omega
  have hlt:(l.take i).length≤l.length:=by rw [aJF];omega
  have hlc:(s::l.drop i).length=(l.drop i).length+1:=rfl;refine aB<|Sr<|Dd aD<|Dd (by exact eN (id:=901) rfl cC rfl rfl rfl rfl (by simp [encStr]) rfl)<|Dd aD<|Dd aD<|Dd (by exact iY (l:=i) (h:=(l.map encStr).length) (rows':=(l.drop i).map encStr) rfl cC rfl (pN l) rfl rfl (by omega) (aIx _) (by rw [List.take_length];exact List.map_drop.symm))<|Dd (by exact c6 rfl cC E4 rfl rfl rfl rfl rfl rfl rfl (pN (l.drop i)) (aIr _) (by omega) (Nat.add_comm 1 _:1+(l.drop i).length=(s::l.drop i).length) (by rw [← qY];rfl:_=z6 (s::l.drop i)))<|Dd aO<|Zz<|Sr<|Dd (by exact eN (id:=902) rfl cC rfl rfl rfl rfl (by simp) rfl)<|Dd aD<|Dd aD<|Dd (by exact iY (l:=0) (h:=i) (rows':=(l.take i).map encStr) rfl cC rfl (pN l) rfl rfl (by omega) (by omega) (by rw [List.drop_zero];exact List.map_take.symm))<|Dd (by exact c6 rfl cC E4 rfl rfl rfl rfl rfl rfl rfl (pN (l.take i)) (aIr _) (by omega) (aJJ _) (by rw [← qY];rfl:_=z6 (l.take i))) ?_;refine Dd aD<|Dd (by exact nS rfl cC E4 rfl rfl rfl rfl rfl (aIr _) rfl rfl rfl rfl (TY _) (by rw [aIr,aJJ];exact aIx _) (by omega) (by rw [aIs,aIt]:(l.take i).length+((l.drop i).length+1)=(l.take i++s::l.drop i).length) (by rw [aEU hlc.symm];exact List.map_append.symm:_=z6 (l.take i++s::l.drop i)))<|Dd aO<|Zz<|aC ?_;refine cZ (H':=[]) (.inr rfl) rfl (aN rfl) (Fin.strsO (id:=902) (l.take i++s::l.drop i) rfl rfl rfl rfl) ?_;exact Qq
 have hge:i=l.length:=by omega
 have hst:=hstop (.inl hge);have hk:decide ((i:Int) < ((l.map encStr).length:Int))=false:=decide_eq_false (by omega);have hgw:n0 l s=l.take i++s::l.drop i:=by rw [n0,hst,List.getElem?_eq_none (by omega),aIp (by simp)]
 rw [hgw];refine Sq<|Sr<|Dd aD<|Dd aD<|Dd (fK aK)<|Dd dD<|Dd aD<|Fa<|Fa<|Fa<|Fa<|Fa<|Fa<|Dd rJ<|Zz ?_;refine Cn ?_ ?_<;>intro hc3
 ·cases hc3
 refine aZ<|Sq<|Sr<|Dd aD<|Dd aD<|Dd (fK aK)<|Dd dD<|Dd aD<|Fa<|Fa<|Fa<|Fa<|Fa<|Fa<|Dd rJ<|Zz ?_;refine Cn ?_ ?_<;>intro hc4
 ·cases hc4
 have hll:(l.drop i).length≤l.length:=by rw [aJG];omega
 have hlt:(l.take i).length≤l.length:=by rw [aJF];omega
 have hlc:(s::l.drop i).length=(l.drop i).length+1:=rfl;refine aB<|Sr<|Dd aD<|Dd (by exact eN (id:=901) rfl cC rfl rfl rfl rfl (by simp [encStr]) rfl)<|Dd aD<|Dd aD<|Dd (by exact iY (l:=i) (h:=(l.map encStr).length) (rows':=(l.drop i).map encStr) rfl cC rfl (pN l) rfl rfl (by omega) (aIx _) (by rw [List.take_length];exact List.map_drop.symm))<|Dd (by exact c6 rfl cC E4 rfl rfl rfl rfl rfl rfl rfl (pN (l.drop i)) (aIr _) (by omega) (Nat.add_comm 1 _:1+(l.drop i).length=(s::l.drop i).length) (by rw [← qY];rfl:_=z6 (s::l.drop i)))<|Dd aO<|Zz<|Sr<|Dd (by exact eN (id:=902) rfl cC rfl rfl rfl rfl (by simp) rfl)<|Dd aD<|Dd aD<|Dd (by exact iY (l:=0) (h:=i) (rows':=(l.take i).map encStr) rfl cC rfl (pN l) rfl rfl (by omega) (by omega) (by rw [List.drop_zero];exact List.map_take.symm))<|Dd (by exact c6 rfl cC E4 rfl rfl rfl rfl rfl rfl rfl (pN (l.take i)) (aIr _) (by omega) (aJJ _) (by rw [← qY];rfl:_=z6 (l.take i))) ?_;refine Dd aD<|Dd (by exact nS rfl cC E4 rfl rfl rfl rfl rfl (aIr _) rfl rfl rfl rfl (TY _) (by rw [aIr,aJJ];exact aIx _) (by omega) (by rw [aIs,aIt]:(l.take i).length+((l.drop i).length+1)=(l.take i++s::l.drop i).length) (by rw [aEU hlc.symm];exact List.map_append.symm:_=z6 (l.take i++s::l.drop i)))<|Dd aO<|Zz<|aC ?_;refine cZ (H':=[]) (.inr rfl) rfl (aN rfl) (Fin.strsO (id:=902) (l.take i++s::l.drop i) rfl rfl rfl rfl) ?_;exact Qq
def P7 (l:List ByteArray):Prop:=l.Pairwise (fun a b=>kR a b=true)
theorem IT {p:ByteArray→Bool}:∀ {l:List ByteArray} {z:ByteArray},P7 l→(∀ x,x∈l→p x=kR x z)→∀ y,y∈l.drop (l.takeWhile p).length→y=z∨kR z y=true
 | [],z,_,_,y,hy=>by simp at hy
 | x::l,z,hu,hp,y,hy=>by
  cases hx:p x with
  | true =>
   rw [List.takeWhile_cons,hx] at hy;exact IT (List.pairwise_cons.1 hu).2 (fun w hw=>hp w (List.mem_cons_of_mem _ hw)) y hy
  | false =>
   rw [List.takeWhile_cons,hx] at hy;have h0:kR x z=false:=by rw [← hp x List.mem_cons_self,hx]
   have hz:x=z∨kR z x=true:=by
    cases hc:kR z x with
    | true=>exact .inr rfl
    | false=>exact .inl (sU h0 hc)
   rcases aJD.1 hy with rfl|hy
   ·exact hz
   have h2:=(List.pairwise_cons.1 hu).1 y hy;rcases hz with rfl|hz
   ·exact .inr h2
   exact .inr (l8 hz h2)
theorem OU {p:ByteArray→Bool}:∀ {l:List ByteArray} {y:ByteArray},y∈l.take (l.takeWhile p).length→p y=true
 | [],y,hy=>by simp at hy
 | x::l,y,hy=>by
  cases hx:p x with
  | true =>
   rw [List.takeWhile_cons,hx] at hy;rcases aJD.1 hy with rfl|hy
   ·exact hx
   exact OU (l:=l) hy
  | false =>
   rw [List.takeWhile_cons,hx] at hy;simp at hy
theorem aBH {l:List ByteArray} {s:ByteArray} (h:P7 l):P7 (n0 l s)∧∀ x,x∈n0 l s↔x∈l∨x=s:=by
 unfold n0
 split
 ·next e =>
  refine⟨h,fun x=>⟨.inl,?_⟩⟩;rintro(h|rfl)
  ·exact h
  exact aJB e
 next e =>
 have hd:∀ y,y∈l.drop (rTw l s)→kR s y=true:=fun y hy=>by
  rcases IT (p:=fun x=>kR x s) h (fun _ _=>rfl) y hy with rfl|h2
  ·exfalso;obtain ⟨j,hj⟩:=aJM.1 hy;rw [List.getElem?_drop] at hj;cases j with
   | zero=>exact e hj
   | succ j =>
    obtain ⟨z,hz⟩:=aX (l:=l) (k:=rTw l y) (by have:=(aIv.1 hj).1;omega);have hzm:z∈l.drop (rTw l y):=List.mem_of_getElem? (i:=0) (by rw [List.getElem?_drop];exact hz);have h1:=tH (f:=fun x:ByteArray=>x) h (by omega:rTw l y < rTw l y+(j+1)) hz hj;rcases IT (p:=fun x=>kR x y) h (fun _ _=>rfl) z hzm with rfl|h2
    ·exact e hz
    have:=l8 h1 h2;rw [kQ] at this;cases this
  exact h2
 refine⟨?_,fun x=>?_⟩
 ·unfold P7;rw [List.pairwise_append];refine⟨List.Pairwise.sublist (List.take_sublist _ _) h,List.pairwise_cons.2 ⟨hd,List.Pairwise.sublist (List.drop_sublist _ _) h⟩,fun x hx y hy=>?_⟩;have hx2:kR x s=true:=OU (p:=fun x=>kR x s) hx;rcases aJD.1 hy with rfl|hy
  ·exact hx2
  exact l8 hx2 (hd y hy)
 conv=>rhs;rw [← List.take_append_drop (rTw l s) l]
 rw [List.mem_append,List.mem_append,aJD];constructor
 ·rintro(h|h|h)
  ·exact .inl (.inl h)
  ·exact .inr h
  exact .inl (.inr h)
 rintro((h|h)|h)
 ·exact .inl h
 ·exact .inr (.inr h)
 exact .inr (.inl h)
theorem EX:∀ {k l:List ByteArray},P7 l→P7 (k.foldl n0 l)∧∀ x,x∈k.foldl n0 l↔x∈l∨x∈k
 | [],l,h=>⟨h,fun x=>by simp⟩
 | s::k,l,h=>by
  obtain ⟨h1,h2⟩:=aBH (s:=s) h;obtain ⟨h3,h4⟩:=EX (k:=k) h1;refine⟨h3,fun x=>?_⟩;show x∈k.foldl n0 (n0 l s)↔_;rw [h4,h2,aJD,or_assoc]
theorem aDb {a b:List ByteArray} (ha:P7 a) (hb:P7 b) (h:∀ x,x∈a↔x∈b):a=b:=aBs (f:=fun x:ByteArray=>x) ha hb h
def R9 (e:GEdit):List ByteArray:=(([e.id,e.other,e.node,e.obj.id]++e.refs++e.obj.refs).filter nonE).foldl n0 []
theorem WH {e:GEdit} (hv:dA e=true):R9 e=eO e:=by obtain ⟨h1,h2⟩:=EX (k:=([e.id,e.other,e.node,e.obj.id]++e.refs++e.obj.refs).filter nonE) (l:=[]) .nil;refine aDb h1 (WZ e) fun x=>?_;rw [R9,h2,LH hv,List.mem_filter,nonE,aJK,aIz];simp only [aJH,false_or,List.mem_append,aJD,or_false,raw,or_assoc]
theorem H7:∀ (k l:List ByteArray),(k.foldl n0 l).length≤l.length+k.length
 | [],l=>by simp
 | s::k,l=>by
  have h1:=H7 k (n0 l s);have h2:(n0 l s).length≤l.length+1:=by
   unfold n0
   split
   ·omega
   rw [aIs,aIt,aJF,aJG];omega
  show (k.foldl n0 (n0 l s)).length≤l.length+(k.length+1);omega
theorem S3 {l:List ByteArray} {i:Nat} {s:ByteArray} (h:l[i]?=some s):((l.take (i+1)).filter nonE).foldl n0 []=if nonE s then n0 (((l.take i).filter nonE).foldl n0 []) s else((l.take i).filter nonE).foldl n0 []:=by rw [List.take_add_one,h,List.filter_append,List.foldl_append];show List.foldl n0 _ (List.filter nonE [s])=_;rw [List.filter_cons,List.filter_nil];cases nonE s<;>rfl
theorem LI (e:GEdit) (H:aE) (he:tQ e) (hsz:e.refs.length+e.obj.refs.length < 1000000000):aH Tryz.prog 99 [av (aJ e)] H (fun r H'=>r=.pv (cS (eO e))∧H'=H):=by
 refine Pu ?_;refine Bd func99 rfl ntmps99<|Sr<|Dd (by exact cE (id:=1) rfl rfl rfl rfl rfl)<|Dd aO<|Zz<|Sr<|Dd aO<|Zz<|Sq<|Sr<|Dd (by exact aI rfl bA aL rfl rfl rfl rfl (by simp only [Zl,aQ,aG,encStr,aJ,encInt];rfl) rfl)<|Dd (by exact aA rfl rfl call44 rfl (KY e _ he (by omega)))<|Dd jU<|Zz ?_;refine Cn ?_ ?_<;>intro hc1
 ·have hv:dA e=false:=by
   have h:=hc1
   simpa using h
  have hx:eO e=[]:=by rw [eO,hv,aIp (by decide)]
  rw [hx];exact Sr<|Dd aD<|Dd aO<|Zz<|aC<|Rt<|Qq
 have hv:dA e=true:=by
  have h:=hc1
  simpa using h
 rw [← WH hv,R9];obtain ⟨a,ha⟩:∃ a,a=[e.id,e.other,e.node,e.obj.id]++e.refs++e.obj.refs:=⟨_,rfl⟩;have h4:([e.id,e.other,e.node,e.obj.id]++e.refs).length=4+e.refs.length:=by rw [aIs];rfl
 have hal:a.length=4+e.refs.length+e.obj.refs.length:=by rw [ha,aIs,h4]
 refine aB<|Sr<|Dd (bH eX)<|Dd (cA isAgg9)<|Dd (bH fR)<|Dd (cA isAgg9)<|Dd (bH lY)<|Dd (cA isAgg9)<|Dd (bH iR)<|Dd (bH eK)<|Dd (cA isAgg9)<|Dd (by exact eN (id:=19) rfl cC rfl rfl rfl rfl (by simp [encStr]) rfl)<|Dd (bH gA)<|Dd (cA aV)<|Dd (by exact c6 rfl cC E4 rfl rfl rfl rfl rfl rfl rfl (pN _) (aIr _) (by omega) h4.symm (by rw [← qY];rfl:_=z6 ([e.id,e.other,e.node,e.obj.id]++e.refs)))<|Dd aO<|Zz<|Sr<|Dd aD<|Dd (bH iR)<|Dd (bH dP)<|Dd (cA aV)<|Dd (by exact c6 rfl cC E4 rfl rfl rfl rfl rfl (aIr _) rfl (pN _) (aIr _) (by omega) (by rw [hal,h4]:([e.id,e.other,e.node,e.obj.id]++e.refs).length+e.obj.refs.length=a.length) (by rw [← qY,ha];exact List.map_append.symm:_=z6 a))<|Dd aO ?_;refine Zz<|Sq<|Sr<|Dd aO<|Zz<|aF ?_;rw [← ha];refine bG (σ:=Nat) (fun i=>([(3,.pv (cS (((a.take i).filter nonE).foldl n0 []))),(4,.osl 19 2 0 a.length),(5,iv (i:Int))],[(19,⟨2,1,9,z6 a⟩)])) (fun i=>i≤a.length) (fun i=>a.length - i) 0 (by omega) ?_ ?_
 ·exact Wk
 intro i hi;have hfl:(((a.take i).filter nonE).foldl n0 []).length≤a.length:=by
  have h1:=H7 ((a.take i).filter nonE) [];have h2:=List.length_filter_le nonE (a.take i);have h3:(a.take i).length≤a.length:=by rw [aJF];omega
  have h5:([]:List ByteArray).length=0:=rfl;omega
 refine Sq<|Sr<|Dd aD<|Dd aD<|Dd (by exact dV rfl aK rfl rfl rfl)<|Dd dD<|Zz ?_;refine Cn ?_ ?_<;>intro hc2
 ·have hil:i < a.length:=by have:=aIn hc2;omega
  obtain ⟨s,hs⟩:=aX hil;have hi1:(z6 a)[i]?=some ((encStr s).map .pv):=by rw [aJL,hs];rfl
  have hsn:=S3 hs;refine aB<|Sq<|aF<|Sr<|Dd aD<|Dd aD<|Dd (by exact cG rfl cC rfl rfl rfl rfl rfl (by omega) (by exact aJC _) hil (aJJ _))<|Dd (by exact aR rfl isAgg9 rfl rfl rfl hi1 rfl)<|Dd JQ<|Zz ?_;refine Cn ?_ ?_<;>intro hc3
  ·have hne:nonE s=true:=hc3;rw [hne,aIq rfl] at hsn;refine Rg<|Dd aD<|Dd aD<|Dd aD<|Dd (by exact cG rfl cC rfl rfl rfl rfl rfl (by omega) (by exact aJC _) hil (aJJ _))<|Dd (by exact aR rfl isAgg9 rfl rfl rfl hi1 rfl)<|Dd (by exact aA rfl rfl call154 rfl (SS (((a.take i).filter nonE).foldl n0 []) s _ (by omega)))<|Dd aO<|Zz<|Rg<|Dd aD<|Dd eL<|Da ?_;refine⟨i+1,by omega,by omega,?_⟩;rw [hsn];exact Wk
  have hne:nonE s=false:=hc3;rw [hne,aIp (by decide)] at hsn;refine aB<|Rg<|Dd aD<|Dd eL<|Da ?_;refine⟨i+1,by omega,by omega,?_⟩;rw [hsn];exact Wk
 have hge:i=a.length:=by have:=aIo hc2;omega
 subst hge;rw [List.take_length];exact aZ<|Sr<|Dd aD<|Dd aO<|Zz<|aC<|Rt<|Qq
end Go.Proofs.YtlnfjkdacimblaaGreatDoor
