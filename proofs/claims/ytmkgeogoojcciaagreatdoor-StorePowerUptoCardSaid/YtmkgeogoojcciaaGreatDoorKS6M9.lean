/-
  Parts of the proof: rules of an abstract program logic, contracts of functions, plain laws. Conditions: each theorem's own.
-/
import Derived.Test.YtmkgeogoojcciaaGreatDoorKS6M8
set_option linter.unusedVariables false
set_option linter.unusedSimpArgs false
set_option maxRecDepth 100000
set_option maxHeartbeats 8000000
namespace Go.Proofs
theorem GH:type_of% Tryz.call12:=Tryz.call12
theorem aAr:type_of% Tryz.call13:=Tryz.call13
theorem wN:type_of% Tryz.call14:=Tryz.call14
theorem aAq:type_of% Tryz.call17:=Tryz.call17
theorem aAp:type_of% Tryz.call21:=Tryz.call21
theorem aAo:type_of% Tryz.call23:=Tryz.call23
end Go.Proofs
namespace Go.Proofs.YtmkgeogoojcciaaGreatDoor
open Go.Proofs.Tryz
open Go.Abs Go.Lib
abbrev aop (x:GOp):AV:=.agg [iv x.kind,.pv (NQ x.put),.pv (aW x.drop),iv x.a,iv x.b,iv x.c]
def QK (K:List ByteArray) (s:ByteArray):Nat:=(K.takeWhile fun x=>mQ x s).length
def KO (K:List ByteArray) (s:ByteArray):List ByteArray:=K.take (QK K s)++s::K.drop (QK K s)
theorem QI {α:Type} {p:α→Bool}:∀ {l:List α} {k:Nat},k≤l.length→(∀ j x,j < k→l[j]?=some x→p x=true)→(k=l.length∨∃ x,l[k]?=some x∧p x=false)→(l.takeWhile p).length=k
 | [],k,hk,_,_=>by
  have:k=0:=by simpa using hk
  subst this;rfl
 | a::l,0,_,_,h=>by
  rcases h with h|⟨x,hx,hp⟩
  ·cases h
  cases hx;rw [List.takeWhile_cons,hp];rfl
 | a::l,k+1,hk,h1,h2=>by
  have ha:=h1 0 a (by omega) rfl;rw [List.takeWhile_cons,ha];show (List.takeWhile p l).length+1=k+1;rw [QI (k:=k) (by simpa using hk) (fun j x hj hx=>h1 (j+1) x (by omega) hx) (by
   rcases h2 with h2|⟨x,hx,hp⟩
   ·exact .inl (by simpa using h2)
   exact .inr ⟨x,hx,hp⟩)]
theorem JN {l:List ByteArray} (h:l.Pairwise (fun a b=>mQ b a=false)):cH l=l:=by
 have hp:(l.map GK).Pairwise (fun x y=>decide (x≤y)=true):=by
  rw [List.pairwise_map];refine h.imp fun {a b} h2=>decide_eq_true ?_;rw [zY] at h2;exact List.not_lt.1 (aBD h2)
 rw [cH,List.mergeSort_of_pairwise hp,FJ]
theorem uW {a b c:ByteArray} (h1:mQ b a=false) (h2:mQ c b=false):mQ c a=false:=by
 cases e:mQ c a with
 | false=>rfl
 | true =>
  cases e2:mQ a b with
  | true=>rw [wT e e2] at h2;cases h2
  | false =>
   have:=yY e2 h1;subst this;rw [e] at h2;cases h2
theorem OP (K:List ByteArray) (s:ByteArray):(KO K s).Perm (K++[s]):=by rw [KO];refine List.perm_middle.trans ?_;rw [List.take_append_drop];exact(List.perm_append_comm (l₁:=[s]) (l₂:=K))
theorem QJ {α:Type} {p:α→Bool}:∀ (l:List α),(∀ x∈l.take (l.takeWhile p).length,p x=true)∧∀ x,(l.drop (l.takeWhile p).length)[0]?=some x→p x=false
 | []=>⟨fun x hx=>by simp at hx,fun x hx=>by simp at hx⟩
 | a::l=>by
  cases ha:p a with
  | false =>
   rw [List.takeWhile_cons,ha];exact⟨fun x hx=>by simp at hx,fun x hx=>by simp at hx;subst hx;exact ha⟩
  | true =>
   rw [List.takeWhile_cons,ha];obtain ⟨h1,h2⟩:=QJ l (p:=p);refine⟨fun x hx=>?_,h2⟩;have hx:x∈a::l.take (l.takeWhile p).length:=hx;rcases aBS.1 hx with rfl|hx
   ·exact ha
   exact h1 x hx
theorem HX {K:List ByteArray} (h:K.Pairwise (fun a b=>mQ b a=false)) (s:ByteArray):(KO K s).Pairwise (fun a b=>mQ b a=false):=by
 obtain ⟨h1,h2⟩:=QJ K (p:=fun x=>mQ x s);have hd:∀ x∈K.drop (QK K s),mQ x s=false:=by
  intro x hx;have hp:=h.sublist (List.drop_sublist (QK K s) K);cases e:K.drop (QK K s)with
  | nil=>rw [e] at hx;cases hx
  | cons y r =>
   have hy:mQ y s=false:=h2 y (by show (K.drop (QK K s))[0]?=_;rw [e];rfl);rw [e] at hx hp;rcases aBS.1 hx with rfl|hx
   ·exact hy
   exact uW hy ((List.pairwise_cons.1 hp).1 x hx)
 rw [KO,List.pairwise_append];refine⟨h.sublist (List.take_sublist _ _),List.pairwise_cons.2 ⟨hd,h.sublist (List.drop_sublist _ _)⟩,fun a ha b hb=>?_⟩;have ha2:mQ a s=true:=h1 a ha;rcases aBS.1 hb with rfl|hb
 ·exact yZ ha2
 exact uW (yZ ha2) (hd b hb)
theorem OO (M:List ByteArray) (s:ByteArray):KO (cH M) s=cH (M++[s]):=by rw [← JN (HX (wS M) s)];exact qP ((OP _ _).trans ((pA M).append_right _))
abbrev YV (x:GOp):Ob:=bx 6 37 [iv x.kind,.pv (NQ x.put),.pv (aW x.drop),iv x.a,iv x.b,iv x.c]
theorem N8 {l:bU} {s:List Nat} (hd:s.Nodup) (hb:∀ i,i∈s→i < l.length) (ha:∀ i,i < l.length→i∈s):(jY l s).Perm (l.map Prod.fst):=HG hd (by rw [aBG];exact hb) (by rw [aBG];exact ha)
theorem VE (was:List ByteArray) (x:GOp) (H:aA) (hw:was.length < 1000000000) (hp:x.put.length < 1000000000) (hdl:x.drop.length < 1000000000) :
  aL Tryz.prog 16 [.pv (aW was),aop x] H (fun r H'=>r=.pv (aW (tY was x.put x.drop))∧H'=H):=by
 refine Pu ?_;have hmw:(was.map encStr).length=was.length:=aBG _;have hmp:(x.put.map pX).length=x.put.length:=aBG _;have hmd:(x.drop.map encStr).length=x.drop.length:=aBG _;refine Bd func16 rfl ntmps16<|Sr<|Dd (by exact gO (id:=3) rfl rfl rfl rfl rfl)<|Dd aS<|Zz<|Sr<|Dd (by exact jN (id:=950) fA rfl rfl)<|Dd aS<|Zz<|Sq<|Sr<|Dd aS<|Zz<|aN ?_;refine bJ (σ:=Nat) (fun j=>([(0,.pv (aW was)),(3,.ref 3 0 0 0),(5,.mp 950 0),(6,iv ((2*j:Nat):Int))],[(950,bK (nC was j).1 (nC was j).2),(3,YV x)])) (fun j=>2*j≤was.length+1∧(∀ i,i < j→2*i+1 < was.length)) (fun j=>was.length - j) 0 ⟨by omega,fun i hi=>absurd hi (Nat.not_lt_zero _)⟩ ?_ ?_
 ·exact(cA.wk (Eb<|Ea<|Ea<|Eb<|trivial) (Hc (aQ _ _ _)<|Hb<|trivial) trivial)
 rintro j ⟨hj,hjj⟩;have h2j:((2*j:Nat):Int)=2*(j:Int):=by omega
 refine Sq<|Sr<|Dd aF<|Dd (by exact cV rfl rfl rfl (show IntKind.i64.wrap (((2*j:Nat):Int)+1)=((2*j+1:Nat):Int)by rw [jS (by omega) (by omega)];omega))<|Dd aF<|Dd (mH aO)<|Dd dZ<|Zz ?_;refine Cn ?_ ?_<;>intro hc1
 ·have hlt:2*j+1 < was.length:=by have:=aBC hc1;omega
  obtain ⟨s,hs⟩:=aZ (l:=was) (k:=2*j) (by omega);obtain ⟨t,ht⟩:=aZ hlt;have his:=dI (f:=encStr) hs;have hit:=dI (f:=encStr) ht;have hg1:was.getD (2*j) sNil=s:=by rw [List.getD_eq_getElem?_getD,hs];rfl
  have hg2:was.getD (2*j+1) sNil=t:=by rw [List.getD_eq_getElem?_getD,ht];rfl
  have hnx:nC was (j+1)=(gZ (nC was j).1 s t (nC was j).2,nU (nC was j).1 s (nC was j).2):=by rw [nC,hg1,hg2]
  refine aG<|Sq<|aN<|bR follows<|Cs (fun _ _=>aF)<|Cs (fun _ _=>aF)<|Cs (fun _ _=>aF)<|Cs (fun H1 hH=>by exact bN rfl bZ rfl rfl (by omega) (by exact aBR _) his rfl)<|Cs (fun _ _=>(nT aV))<|Cs (fun _ _=>aF)<|Cs (fun _ _=>aF)<|Cs (fun H1 hH=>by exact cV rfl rfl rfl (show IntKind.i64.wrap (((2*j:Nat):Int)+1)=((2*j+1:Nat):Int)by rw [jS (by omega) (by omega)];omega))<|Cs (fun H1 hH=>by exact bN rfl bZ rfl rfl (by omega) (by exact aBR _) hit rfl)<|Cs (fun _ _=>(nT aV)) ?_;refine cB (r:=⟨_,none,[_]⟩) (DStep.plain rfl (fun H1 hH=>by exact hU (κ:=fA) (l:=bS (nC was j).1) (.inl rfl) aT aI rfl ((hH _ rfl).trans rfl) rfl rfl rfl rfl rfl (nM _ _ _ _) (pK _ _ _))) rfl ?_;refine dG<|Kr<|Rg<|Dd aF<|Dd (by exact cV rfl rfl rfl (show IntKind.i64.wrap (((2*j:Nat):Int)+2)=((2*(j+1):Nat):Int)by rw [jS (by omega) (by omega)];omega))<|Da ?_;refine⟨j+1,⟨by omega,fun i hi=>?_⟩,by omega,?_⟩
  ·rcases Nat.lt_succ_iff_lt_or_eq.1 hi with h|rfl
   ·exact hjj i h
   exact hlt
  rw [hnx];exact(cA.wk (Eb<|Ea<|Ea<|Eb<|trivial) (Hc (aQ _ _ _)<|Hb<|trivial) trivial)
 have hge:was.length≤2*j+1:=by have:=aBD hc1;omega
 have hjn:j=was.length / 2:=by
  rcases Nat.eq_zero_or_pos j with h0|h0
  ·omega
  have:=hjj (j - 1) (by omega);omega
 subst hjn;obtain ⟨m0,hm0⟩:∃ m,m=nC was (was.length / 2):=⟨_,rfl⟩;have hok0:=rD was (was.length / 2);have hml0:=vM was (was.length / 2);have hG:tY was x.put x.drop=bT (jH (eZ m0 x.put).1 x.drop):=by rw [hm0];rfl
 rw [← hm0] at hok0 hml0;rw [← hm0,hG];clear hG hm0;refine bE<|Sq<|Sr<|Dd aS<|Zz<|aN ?_;refine bJ (σ:=Nat) (fun j=>([(3,.ref 3 0 0 0),(5,.mp 950 0),(7,iv (j:Int))],[(950,bK (eZ m0 (x.put.take j)).1 (eZ m0 (x.put.take j)).2),(3,YV x)])) (fun j=>j≤x.put.length) (fun j=>x.put.length - j) 0 (aBX _) ?_ ?_
 ·exact(cA.wk (Ea<|Ea<|Eb<|trivial) (Hc (aQ _ _ _)<|Hb<|trivial) trivial)
 intro j hj;refine Sq<|Sr<|Dd aF<|Dd (dV rJ)<|Dd (eG lQ)<|Dd (mH kO)<|Dd dZ<|Zz ?_;refine Cn ?_ ?_<;>intro hc2
 ·have hlt:j < x.put.length:=by have:=aBC hc2;omega
  obtain ⟨p,hpp⟩:=aZ hlt;have hip:=dI (f:=pX) hpp;have hnx:eZ m0 (x.put.take (j+1))=(gZ (eZ m0 (x.put.take j)).1 p.1 p.2 (eZ m0 (x.put.take j)).2,nU (eZ m0 (x.put.take j)).1 p.1 (eZ m0 (x.put.take j)).2):=by rw [dK hpp];exact AJ _ _ _
  refine aG<|Sq<|aN<|bR follows<|Cs (fun _ _=>aF)<|Cs (fun _ h=>fh rJ h)<|Cs (fun _ h=>lh lQ h)<|Cs (fun _ _=>aF)<|Cs (fun H1 hH=>by exact bN rfl NP rfl rfl (by omega) (by exact aBR _) hip rfl)<|Cs (fun H1 hH=>by exact fV rfl gT sizeOf9 rfl rfl (by omega) (by exact aBR _) (by decide) rfl)<|Cs (fun _ _=>(nT aV))<|Cs (fun _ h=>fh rJ h)<|Cs (fun _ h=>lh lQ h)<|Cs (fun _ _=>aF)<|Cs (fun H1 hH=>by exact bN rfl NP rfl rfl (by omega) (by exact aBR _) hip rfl)<|Cs (fun H1 hH=>by exact fV rfl gT sizeOf9 rfl rfl (by omega) (by exact aBR _) (by decide) rfl)<|Cs (fun _ _=>(nT aV)) ?_;refine cB (r:=⟨_,none,[_]⟩) (DStep.plain rfl (fun H1 hH=>by exact hU (κ:=fA) (l:=bS (eZ m0 (x.put.take j)).1) (.inl rfl) aT aI rfl ((hH _ rfl).trans rfl) rfl rfl rfl rfl rfl (nM _ _ _ _) (pK _ _ _))) rfl ?_;refine dG<|Kr<|Rg<|Dd aF<|Dd oE<|Da ?_;refine⟨j+1,by omega,by omega,?_⟩;rw [hnx];exact(cA.wk (Ea<|Ea<|Eb<|trivial) (Hc (aQ _ _ _)<|Hb<|trivial) trivial)
 have hge2:j=x.put.length:=by have:=aBD hc2;omega
 subst hge2;rw [List.take_length];have hok1:=qV x.put m0 hok0.1 hok0.2;have hml1:=sB x.put m0;obtain ⟨m1,hm1⟩:∃ m,m=eZ m0 x.put:=⟨_,rfl⟩;rw [← hm1] at hok1 hml1 ⊢;clear hm1;refine bE<|Sq<|Sr<|Dd aS<|Zz<|aN ?_;refine bJ (σ:=Nat) (fun j=>([(3,.ref 3 0 0 0),(5,.mp 950 0),(8,iv (j:Int))],[(950,bK (jH m1.1 (x.drop.take j)) m1.2),(3,YV x)])) (fun j=>j≤x.drop.length) (fun j=>x.drop.length - j) 0 (aBX _) ?_ ?_
 ·exact(cA.wk (Ea<|Ea<|Eb<|trivial) (Hc (aQ _ _ _)<|Hb<|trivial) trivial)
 intro j hj2;refine Sq<|Sr<|Dd aF<|Dd (dV xH)<|Dd (eG cM)<|Dd (mH aO)<|Dd dZ<|Zz ?_;refine Cn ?_ ?_<;>intro hc3
 ·have hlt:j < x.drop.length:=by have:=aBC hc3;omega
  obtain ⟨s,hs⟩:=aZ hlt;have hi:=dI (f:=encStr) hs;refine aG<|Sq<|aN<|Rg<|Dd aF<|Dd (dV xH)<|Dd (eG cM)<|Dd aF<|Dd (by exact bN rfl bZ rfl rfl (by omega) (by exact aBR _) hi rfl)<|Dd (nT aV)<|Uu (by exact BD (κ:=fA) (l:=bS (jH m1.1 (x.drop.take j))) rfl aT aI rfl rfl rfl rfl rfl rfl (zH s _))<|Zz<|Rg<|Dd aF<|Dd oE<|Da ?_;refine⟨j+1,by omega,by omega,?_⟩;rw [xL hs];exact(cA.wk (Ea<|Ea<|Eb<|trivial) (Hc (aQ _ _ _)<|Hb<|trivial) trivial)
 have hge3:j=x.drop.length:=by have:=aBD hc3;omega
 subst hge3;rw [List.take_length];have hok2:=zM x.drop _ _ hok1.1 hok1.2;have hml2:=BL x.drop m1.1;obtain ⟨m,hm⟩:∃ m,m=jH m1.1 x.drop:=⟨_,rfl⟩;obtain ⟨c,hc⟩:∃ c,c=m1.2:=⟨_,rfl⟩;rw [← hm,← hc] at hok2;rw [← hm] at hml2 ⊢;rw [← hc];have hst:=hok2.1;have hmlen:m.length < 4000000000:=by omega
 clear hm hc;refine bE<|Sr<|Dd aS<|Zz<|Sq<|Sr<|Dd aF<|Dd (by exact zI (q:=946) (κ:=fA) (l:=bS m) rfl aT rfl rfl rfl rfl rfl rfl)<|Zz<|aN ?_;refine bJ (σ:=List Nat) (fun s=>([(5,.mp 950 0),(9,.pv (aW (cH (jY m s)))),(67,.it 946 0)],[(946,zG 950 m c s),(950,bK m c)])) (fun s=>s.Nodup∧∀ i,i∈s→i < m.length) (fun s=>m.length - s.length) [] ⟨List.nodup_nil,by simp⟩ ?_ ?_
 ·rw [show cH (jY m [])=[] from List.length_eq_zero_iff.1 (by rw [dY];rfl)];exact(cA.wk (Ea<|Eb<|Ea<|trivial) (Hc (nL rfl _ _ _)<|Hc (aQ _ _ _)<|trivial) trivial)
 rintro s ⟨hd,hb⟩;have hsl:s.length≤m.length:=iU _ _ hd hb;refine Sq<|Rg ?_;refine jA rfl rfl (FV (κ:=fA) (l:=bS m) rfl rfl rfl rfl rfl rfl rfl rfl rfl (aBM _) (aBM _)) ?_;rintro _ _ (⟨rfl,rfl,hn0⟩|⟨hni,hnp,hn1,hn2,rfl,rfl⟩)
 ·refine Dd eP<|Zz<|Sq ?_;refine Cn ?_ ?_<;>intro hc4
  ·cases hc4
  have hall:∀ i,i < m.length→i∈s:=fun i hi=>by
   have hq:(bS m)[i]?=some ((m[i]).1,sv (m[i]).2.1,(m[i]).2.2):=by rw [bS,aB0,aBL hi];rfl
   have:=hn0 _ (aBQ hq);obtain ⟨j,hj,e⟩:=List.mem_map.1 this;have e2:iL m j=iL m i:=by
    rw [e,iL,aBL hi];rfl
   have:=EN hst (hb j hj) hi e2
   rwa [this] at hj
  have hK:cH (jY m s)=cF m:=qP (N8 hd hb hall);rw [hK];have hsl2:=iA m;have hmt:((cF m).map encStr).length=(cF m).length:=aBG _;have hT:∀ i,i≤(cF m).length→(((cF m).take i).flatMap fun x=>[x,cW m x]).length=2*i:=fun i hi=>by rw [gH,aBU];omega
  refine bE<|Sr<|Dd (by exact kD (id:=905) (sz:=1) (ty:=9) rfl rfl rfl)<|Zz<|Sq<|Sr<|Dd aS<|Zz<|aN ?_;refine bJ (σ:=Nat) (fun i=>([(5,.mp 950 0),(9,.pv (aW (cF m))),(13,.osl 905 i 0 (2*i)),(14,iv (i:Int))],[(905,⟨i,1,9,dE (((cF m).take i).flatMap fun x=>[x,cW m x])⟩),(950,bK m c)])) (fun i=>i≤(cF m).length) (fun i=>(cF m).length - i) 0 (aBX _) ?_ ?_
  ·exact(cA.wk (Ea<|Eb<|Ea<|Eb<|trivial) (Hc (fT _ _)<|Hc (aQ _ _ _)<|trivial) trivial)
  intro i hi;have hTi:=hT i hi;refine Sq<|Sr<|Dd aF<|Dd aF<|Dd (mH aO)<|Dd dZ<|Zz ?_;refine Cn ?_ ?_<;>intro hc5
  ·have hlt:i < (cF m).length:=by have:=aBC hc5;omega
   obtain ⟨s,hs⟩:=aZ hlt;have his:=dI (f:=encStr) hs;have hnx:((cF m).take (i+1)).flatMap (fun x=>[x,cW m x])=(((cF m).take i).flatMap fun x=>[x,cW m x])++[s,cW m s]:=by rw [dK hs,List.flatMap_append];rfl
   refine aG<|Sq<|aN<|bR follows<|Cs (fun _ _=>aF)<|Cs (fun _ _=>aF)<|Cs (fun _ _=>aF)<|Cs (fun H1 hH=>by exact bN rfl bZ rfl rfl (by omega) (by exact aBR _) his rfl)<|Cs (fun _ _=>(nT aV))<|Cs (fun _ _=>aF)<|Cs (fun _ _=>aF)<|Cs (fun _ _=>aF)<|Cs (fun H1 hH=>by exact bN rfl bZ rfl rfl (by omega) (by exact aBR _) his rfl)<|Cs (fun _ _=>(nT aV))<|Cs (fun H1 hH=>by exact RN (l:=m) (k:=s) rfl aT aI rfl ((hH _ rfl).trans rfl) rfl rfl rfl eE (.inl rfl))<|Cs (fun H1 hH=>by exact bL [[.str s],[.str (cW m s)]] rfl bZ rfl rfl rfl rfl rfl (oG s (cW m s))) ?_;refine cB (r:=⟨_,none,[_]⟩) (DStep.plain rfl (fun H1 hH=>by exact eD (k:=2*(i+1)) (ps:=[[.str s],[.str (cW m s)]]) rfl bZ I6 rfl ((hH _ rfl).trans rfl) rfl rfl rfl ((fE _).trans hTi) rfl (oG _ _) (m:=2) rfl (by omega) (by omega) (tH _ [s,cW m s]))) rfl ?_;refine Cs (fun _ _=>aS)<|dG<|Kr<|Rg<|Dd aF<|Dd oE<|Da ?_;refine⟨i+1,by omega,by omega,?_⟩;rw [hnx];exact(cA.wk (Ea<|Eb<|Ea<|Eb<|trivial) (Hc (fT _ _)<|Hc (aQ _ _ _)<|trivial) trivial)
  have hge:i=(cF m).length:=by have:=aBD hc5;omega
  subst hge;rw [List.take_length];refine bE<|Sr<|Dd aF<|Dd aS<|Zz<|aM ?_;refine bF (H':=[]) (.inr rfl) rfl (aH rfl) (Fin.st1 (bT m) rfl rfl rfl (yF m)) ?_;exact Qq
 obtain ⟨p,hp,rfl⟩:=sI hn1;have hlt:hni < m.length:=(aBK.1 hp).1;have hst2:iL m hni=p.2.2:=by rw [iL,hp];rfl
 have hn3:hni∉s:=fun hm=>hn2 (List.mem_map.2 ⟨hni,hm,hst2⟩);have hb2:∀ i,i∈s++[hni]→i < m.length:=fun i hi=>by
  rcases List.mem_append.1 hi with h|h
  ·exact hb i h
  rw [aBJ] at h;omega
 have hd2:(s++[hni]).Nodup:=List.nodup_append.2 ⟨hd,by simp,fun a ha b hb e=>by rw [aBJ] at hb;subst hb;subst e;exact hn3 ha⟩;have hlen:=iU _ _ hd2 hb2;rw [aBH,List.length_singleton] at hlen;have hit:zG 950 m c (s++[hni])=⟨0,0,0,eM (.mp 950 0) c c (s.map (iL m)++[p.2.2])⟩:=by rw [zG,List.map_append,List.map_cons,List.map_nil,hst2]
 have hins:KO (cH (jY m s)) p.1=cH (jY m (s++[hni])):=by rw [AM hp,OO]
 have hKl:(cH (jY m s)).length=s.length:=by rw [dY,DF]
 obtain ⟨K,hK⟩:∃ K,K=cH (jY m s):=⟨_,rfl⟩;rw [← hK] at hins hKl;rw [← hK];have hmK:(K.map encStr).length=K.length:=aBG _;have htw:QK K p.1≤K.length:=(List.takeWhile_sublist _).length_le;refine Dd eP<|Zz<|Sq ?_;refine Cn ?_ ?_<;>intro hc6
 ·refine aG<|aN<|Sr<|Dd (by exact zJ (κ:=fA) (seen:=s.map (iL m)) (p:=(p.1,sv p.2.1,p.2.2)) (since:=c) rfl rfl rfl rfl rfl rfl rfl rfl rfl hn1)<|Dd eP<|Dd aS<|Zz<|Sr<|Da ?_;refine lF (fun(_:Unit)=>([(5,.mp 950 0),(9,.pv (aW K)),(10,sv p.1),(11,iv (QK K p.1:Int)),(67,.it 946 0)],[(946,zG 950 m c (s++[hni])),(950,bK m c)])) (fun _=>True) ?_ ?_
  ·refine aN ?_;refine bJ (σ:=Nat) (fun k=>([(5,.mp 950 0),(9,.pv (aW K)),(10,sv p.1),(11,iv (k:Int)),(67,.it 946 0)],[(946,zG 950 m c (s++[hni])),(950,bK m c)])) (fun k=>k≤K.length∧∀ j y,j < k→K[j]?=some y→mQ y p.1=true) (fun k=>K.length - k) 0 ⟨aBX _,fun j y hj=>absurd hj (Nat.not_lt_zero _)⟩ ?_ ?_
   ·exact cA.get' ⟨⟨_,rfl,rfl⟩,⟨_,rfl,rfl⟩,⟨_,rfl,rfl⟩,⟨_,rfl,rfl⟩,⟨_,rfl,rfl⟩,trivial⟩ (fun j=>by rw [hit];exact iH 946 _ (zG 950 m c s) [(950,bK m c)] j)
   rintro k ⟨hk,hkk⟩;by_cases hkl:k < K.length
   ·have g76:decide ((k:Int) < ((K.map encStr).length:Int))=true:=decide_eq_true (by omega);obtain ⟨y,hy⟩:=aZ hkl;have hiy:=dI (f:=encStr) hy;refine Sq<|Sr<|Dd aF<|Dd aF<|Dd (mH aO)<|Dd dZ<|Dd aF<|Oa aF<|Oa aF<|Oa (by exact bN rfl bZ rfl rfl (by omega) (by exact aBR _) hiy rfl)<|Oa (nT aV)<|Oa aF<|Oa (by exact HL rfl rfl rfl)<|Dd U2<|Zz ?_;refine Cn ?_ ?_<;>intro hc7
    ·have hs:mQ y p.1=true:=hc7;refine aG<|aN<|Rg<|Dd aF<|Dd oE<|Da ?_;refine⟨k+1,⟨by omega,fun j z hj hz=>?_⟩,by omega,(cA.wk (Ea<|Eb<|Eb<|Eb<|Ea<|trivial) (Hc (nL rfl _ _ _)<|Hc (aQ _ _ _)<|trivial) trivial)⟩;rcases Nat.lt_succ_iff_lt_or_eq.1 hj with h1|rfl
     ·exact hkk j z h1 hz
     rw [hy] at hz;cases hz;exact hs
    have hs:mQ y p.1=false:=hc7;have e:QK K p.1=k:=QI hk hkk (.inr ⟨y,hy,hs⟩);refine bE ?_;rw [e];exact⟨(),trivial,(cA.wk (Ea<|Eb<|Eb<|Eb<|Ea<|trivial) (Hc (nL rfl _ _ _)<|Hc (aQ _ _ _)<|trivial) trivial)⟩
   have g76:decide ((k:Int) < ((K.map encStr).length:Int))=false:=decide_eq_false (by omega);have e:QK K p.1=k:=QI hk hkk (.inl (by omega));refine Sq<|Sr<|Dd aF<|Dd aF<|Dd (mH aO)<|Dd dZ<|Dd aF<|Fa<|Fa<|Fa<|Fa<|Fa<|Fa<|Dd L4<|Zz ?_;refine Cn ?_ ?_<;>intro hc8
   ·((cases hc8;done))
   refine bE ?_;rw [e];exact⟨(),trivial,(cA.wk (Ea<|Eb<|Eb<|Eb<|Ea<|trivial) (Hc (nL rfl _ _ _)<|Hc (aQ _ _ _)<|trivial) trivial)⟩
  rintro _ -;obtain ⟨k,hkd⟩:∃ k,k=QK K p.1:=⟨_,rfl⟩;have hins2:K.take k++p.1::K.drop k=cH (jY m (s++[hni])):=by rw [← hins,KO,hkd]
  rw [← hkd] at htw ⊢;clear hkd;refine Sr<|Dd aF<|Dd (by exact fS (id:=930) rfl bZ rfl rfl rfl rfl (show ∀ r∈dE [p.1],r.length=1 from by intro r hr;rw [aBJ.1 hr];rfl) rfl)<|Dd aF<|Dd aF<|Dd (by exact gA (l:=k) (h:=(K.map encStr).length) (rows':=(K.drop k).map encStr) rfl bZ rfl (eO K) rfl rfl (by omega) (aBM _) (by rw [List.take_length,List.map_drop]))<|Dd (by exact eD (ps:=(K.drop k).map encStr) rfl bZ I6 rfl rfl rfl rfl rfl rfl rfl (eO _) (m:=(K.drop k).length) (aBG _) (by rw [aBV];omega) rfl (mO [p.1] _))<|Da ?_;refine gM.ent (cA.fzG (id:=930) (E':=[(5,.mp 950 0),(9,.pv (aW K)),(11,iv (k:Int)),(12,.pv (aW (p.1::K.drop k))),(67,.it 946 0)]) (H':=[(946,zG 950 m c (s++[hni])),(950,bK m c)]) ((p.1::K.drop k).map encStr) rfl (kS _) ?_ rfl ?_ ?_) ?_
  ·intro q hq;simp only [aBS,aBW,or_false] at hq;rcases hq with rfl|rfl|rfl|rfl|rfl
   ·exact⟨_,rfl,.same (by simp;rfl)⟩
   ·exact⟨_,rfl,.same (by simp)⟩
   ·exact⟨_,rfl,.same (by simp)⟩
   ·exact⟨_,rfl,.osl (by rw [aBY,List.drop_zero,List.take_of_length_le (by rw [aBG,aBI];omega)])⟩
   exact⟨_,rfl,.same (by simp;rfl)⟩
  ·exact⟨⟨_,rfl,rfl,rfl,rfl,cT (nL rfl _ _ _)⟩,⟨_,rfl,rfl,rfl,rfl,cT (aQ _ _ _)⟩,trivial⟩
  ·exact trivial
  refine Rg<|Dd (by exact fS (id:=931) rfl bZ rfl rfl rfl rfl (show ∀ r∈dE [],r.length=1 from by intro r hr;cases hr) rfl)<|Dd aF<|Dd aF<|Dd (by exact gA (l:=0) (h:=k) (rows':=(K.take k).map encStr) rfl bZ rfl (eO K) rfl rfl (aBX _) (by omega) (by rw [List.drop_zero,List.map_take]))<|Dd (by exact eD (ps:=(K.take k).map encStr) rfl bZ I6 rfl rfl rfl rfl rfl rfl rfl (eO _) (m:=(K.take k).length) (aBG _) (by rw [aBU];omega) rfl (mO [] _))<|Dd aF<|Dd (by exact eD (ps:=(p.1::K.drop k).map encStr) rfl bZ I6 rfl rfl rfl rfl rfl (by rw [fE];show (K.take k).length=0+(K.take k).length;omega) rfl (eO _) (m:=(p.1::K.drop k).length) (aBG _) (by rw [aBI,aBV,aBU];omega) rfl (mO _ _))<|Da ?_;refine⟨s++[hni],⟨hd2,hb2⟩,by rw [aBH,List.length_singleton];omega,?_⟩;dsimp only;rw [← hins2];refine cA.fzG (id:=931) ((K.take k++p.1::K.drop k).map encStr) rfl (kS _) ?_ rfl ?_ ?_
  ·intro q hq;simp only [aBS,aBW,or_false] at hq;rcases hq with rfl|rfl|rfl
   ·exact⟨_,rfl,.same (by simp;rfl)⟩
   ·exact⟨_,rfl,.osl (by rw [aBY,List.drop_zero,List.take_of_length_le (by rw [aBG,aBH];omega)])⟩
   exact⟨_,rfl,.same (by simp;rfl)⟩
  ·exact⟨⟨_,rfl,rfl,rfl,rfl,cT (nL rfl _ _ _)⟩,⟨_,rfl,rfl,rfl,rfl,cT (aQ _ _ _)⟩,trivial⟩
  exact trivial
 cases hc6
end Go.Proofs.YtmkgeogoojcciaaGreatDoor
namespace Go.Abs
theorem kL {P:Program} {G0:aA} {N:Nat} {ops:Array Oper} {K:bH→aA→Prop} {l:List Oper} {E E':bH} {H H':aA} (he:cA G0 E H E' H') (h:AL P G0 N ops K l E' H'):AL P G0 N ops K l E H :=fun G hG a w hs ro hro Q hq=>h G hG a w (he G hG N a w hs) ro hro Q hq
def FD (T:Nat) (ops:List Oper) (rs:List Rec):Bool :=(vJ 0 ops&&vH ops (PG ops []) 0 [] (List.zipWith Ent2.mk (ops.take T) rs))&&(List.range ops.length).all fun j=>Nat.blt j T||(List.range j).all fun i=>((PG ops []).getD j 0).testBit i
theorem TS {F:Fence} {nn:Nat} {P:Program} {ops:Array Oper} {Q:Exit→Act→World→Prop} {T:Nat} (hedge:∀ j o,ops.toList[j]?=some o→∀ e∈o.after.toList,Region.binds .any e=true→e.on < j) (htail:∀ (j:Nat),T≤j→j < ops.size→∀ i,i < j→YS ops.toList i j) :
  ∀ (fuel j:Nat) (listed:Array Bool) (a:Act) (w:World),T≤j→listed.size=ops.size→(∀ i,i < ops.size→listed.getD i false=decide (i < j))→ops.size - j≤fuel→wpListIn F nn P ops Q (ops.toList.drop j) a w→wpAnyIn F nn P .any ops Q fuel listed a w:=by
 intro fuel;have rdy:∀ (j:Nat) (listed:Array Bool),T≤j→listed.size=ops.size→(∀ i,i < ops.size→listed.getD i false=decide (i < j))→(∀ i∈Region.ready .any ops listed,i=j∧i < ops.size)∧(j < ops.size→j∈Region.ready .any ops listed):=by
  intro j listed hj hsz hli;constructor
  ·intro i hi;have hi1:=List.mem_filter.1 hi;have hilt:i < ops.size:=List.mem_range.1 hi1.1;have hi':i < listed.size:=by omega
   have ho:ops[i]?=some ops[i]:=Array.getElem?_eq_getElem hilt;have hi2:=hi1.2;simp only [ho,Option.map_some,Option.getD_some,aBP] at hi2;obtain ⟨hnl,hpreds⟩:=hi2;have hnl':listed.getD i false=false:=by
    simp [Array.getD,hi'] at hnl ⊢;exact hnl
   rw [hli i hilt] at hnl';have hge:j≤i:=by have:=aBD hnl';omega
   refine⟨Classical.byContradiction fun hne=>?_,hilt⟩;have h1:=htail i (by omega) hilt j (by omega) (fun q=>decide (q < j)&&decide (q < ops.size)) (fun q o hq hS e he hb=>by
    have h2:=hedge q o hq e he hb;simp only [aBP,aBN] at hS ⊢;omega) ops[i] (by simp [ho]) (fun e he hb=>by
    have h2:=(Array.all_eq_true'.1 hpreds) e (by simpa using he);have h3:listed.getD e.on false=true:=by simpa [hb] using h2
    have h4:=hedge i ops[i] (by simp [ho]) e he hb;rw [hli e.on (by omega)] at h3;simp only [aBP,aBN];exact⟨aBC h3,by omega⟩)
   simp at h1
  intro hjs;have ho:ops[j]?=some ops[j]:=Array.getElem?_eq_getElem hjs;have hj':j < listed.size:=by omega
  refine List.mem_filter.2 ⟨List.mem_range.2 hjs,?_⟩;have hn:listed.getD j false=false:=by rw [hli j hjs];exact decide_eq_false (Nat.lt_irrefl _)
  have hn':listed.getD j true=false:=by
   simp [Array.getD,hj'] at hn ⊢;exact hn
  simp only [hn',Bool.not_false,Bool.true_and,ho,Option.map_some,Option.getD_some];rw [Array.all_eq_true'];intro e he;cases hb:Region.binds .any e with
  | false=>simp
  | true =>
   have hon:=hedge j ops[j] (by simp [ho]) e (by simpa using he) hb;simp only [Bool.not_true,Bool.false_or];rw [hli e.on (by omega)];exact decide_eq_true hon
 induction fuel with
 | zero =>
  intro j listed a w hj hsz hli hf h;obtain ⟨r1,r2⟩:=rdy j listed hj hsz hli;have hd:ops.toList.drop j=[]:=List.drop_eq_nil_of_le (by rw [Array.length_toList];omega);rw [hd] at h;refine⟨?_,h⟩;cases hr:Region.ready .any ops listed with
  | nil=>rfl
  | cons i r =>
   have:=r1 i (by rw [hr];exact List.mem_cons_self);omega
 | succ fuel ih =>
  intro j listed a w hj hsz hli hf h;obtain ⟨r1,r2⟩:=rdy j listed hj hsz hli;refine⟨fun hnil=>?_,fun i hi=>?_⟩
  ·have hd:ops.toList.drop j=[]:=List.drop_eq_nil_of_le (by
    rw [Array.length_toList];refine Classical.byContradiction fun hno=>?_;have:=r2 (by omega);rw [hnil] at this;cases this)
   rw [hd] at h;exact h
  obtain ⟨rfl,hilt⟩:=r1 i hi;have ho:ops[i]?=some ops[i]:=Array.getElem?_eq_getElem hilt;have hdr:ops.toList.drop i=ops[i]::ops.toList.drop (i+1):=by
   rw [List.drop_eq_getElem_cons (by simpa using hilt)];simp
  rw [hdr] at h;have hi':i < listed.size:=by omega
  have hlist:∀ q,(listed.setIfInBounds i true).getD q false=if q=i then true else listed.getD q false:=by
   intro q;by_cases e:q=i
   ·subst e;simp [Array.getD,hi']
   simp only [Array.getD_eq_getD_getElem?,Array.getElem?_setIfInBounds_ne (Ne.symm e),e,if_false]
  have next:∀ a w,wpListIn F nn P ops Q (ops.toList.drop (i+1)) a w→wpAnyIn F nn P .any ops Q fuel (listed.setIfInBounds i true) a w:=fun a w hh =>
   ih (i+1) _ a w (by omega) (by simp [hsz]) (fun q hq=>by
    rw [hlist];by_cases e:q=i
    ·subst e;rw [aBF rfl];exact(decide_eq_true (by omega)).symm
    rw [aBE e,hli q hq];exact decide_eq_decide.2 (by omega)) (by omega) hh
  unfold wpOpIn;simp only [ho];unfold wpListIn at h
  split
  ·next hw =>
   rw [aBF hw] at h;exact Oper.wpIn_mono next h
  next hw =>
  rw [aBE hw] at h;exact⟨h.1,next _ _ h.2⟩
theorem PN {P:Program} {G0:aA} {N id:Nat} {Q:Exit→bH→aA→Prop} {ops:Array Oper} {E E':bH} {H H':aA} {rs:List Rec} (T:Nat) (hm:P.follows .mixedOrders=true) (hT:T≤ops.size) (hc:DChain P N ops.toList (ops.toList.take T) E H rs E' H') (hok:FD T ops.toList rs=true)
  (hB:AL P G0 N ops (fun E H=>Q .normal E H) (ops.toList.drop T) E' H'):gM P G0 N (.region id ops true) Q E H:=by
 intro G hG a w hs ro hro;have hnd0:ro=none∨ops.toList.all Oper.noDefer=true:=hro;refine wpIn_region_any hm ?_;obtain ⟨hlen,hst,hE',hH'⟩:=hc.spec;obtain ⟨l,hl⟩:∃ l,l=List.zipWith Ent2.mk (ops.toList.take T) rs:=⟨_,rfl⟩;rw [← hl] at hst hE' hH';simp only [FD,aBP,← hl] at hok;obtain ⟨⟨hok1,hok2⟩,hok3⟩:=hok;have hTl:(ops.toList.take T).length=T:=by rw [aBU,Array.length_toList];omega
 rw [hTl] at hE' hH';have hndB:ro=none∨(ops.toList.drop T).all Oper.noDefer=true:=hnd0.imp (fun h=>h) fun h=>List.all_eq_true.2 fun x hx=>List.all_eq_true.1 h x (List.mem_of_mem_drop hx);have hll:l.length=T:=by rw [hl,List.length_zipWith,hlen,hTl];omega
 have hlo:∀ (i:Nat) (x:Ent2),l[i]?=some x→ops.toList[i]?=some x.o:=by
  intro i x hx;have hiT:i < T:=by have:=(aBK.1 hx).1;omega
  rw [hl,List.getElem?_zipWith,List.getElem?_take_of_lt hiT] at hx;cases e1:ops.toList[i]? with
  | none=>simp [e1] at hx
  | some o =>
   cases e2:rs[i]? with
   | none=>simp [e1,e2] at hx
   | some r=>simp [e1,e2] at hx;rw [← hx]
 have hedge:=vI ops.toList 0 hok1;have hbef:∀ (i j:Nat) (x y:Ent2),i < j→l[i]?=some x→l[j]?=some y→fQ ops.toList x y=true→YS ops.toList i j:=fun i j x y hij hx hy hcl =>
  xP ops.toList [] [] rfl rfl (by simp) j i (vG l [] hok2 i j hij (aBX _) x y hx hy hcl)
 have htail:∀ (j:Nat),T≤j→j < ops.size→∀ i,i < j→YS ops.toList i j:=by
  intro j hj hjs i hi;have h1:=List.all_eq_true.1 hok3 j (List.mem_range.2 (by rw [Array.length_toList];exact hjs));rw [Bool.or_eq_true] at h1;rcases h1 with h1|h1
  ·rw [Nat.blt_eq] at h1;omega
  exact xP ops.toList [] [] rfl rfl (by simp) j i (List.all_eq_true.1 h1 i (List.mem_range.2 hi))
 have hedge0:∀ j o,ops.toList[j]?=some o→∀ e∈o.after.toList,Region.binds .any e=true→e.on < j:=fun j o h e he hb=>by have:=hedge j o h e he hb;omega
 have fin:∀ (fuel:Nat) (listed:Array Bool) (a:Act) (w:World) (E1:bH) (H1:aA),listed.size=ops.size→ops.size≤T+fuel→(∀ j,T≤j→listed.getD j false=false)→(∀ i,i < T→listed.getD i false=true)→St G N E1 H1 a w→(∀ t,E1.get t=tL E l (fun i=>listed.getD i false) T t)→(∀ j,H1.get j=tJ H l (fun i=>listed.getD i false) T j) →
   wpAnyIn (RF ro) 0 P .any ops (fun e a w=>∃ E H,Q e E H∧St G N E H a w) fuel listed a w:=by
  intro fuel listed a w E1 H1 hsz hfu hnoB hall hst1 hE1 hH1;refine TS hedge0 htail fuel T listed a w (aBM _) hsz (fun i hi=>?_) (by omega) ?_
  ·by_cases h:i < T
   ·rw [hall i h,decide_eq_true h]
   rw [hnoB i (by omega),decide_eq_false h]
  refine hB G hG a w (cA.get (G0:=G0) (fun t=>?_) (fun j=>?_) G hG N a w hst1) ro hndB _ (fun E H a w hK hst=>⟨E,H,hK,hst⟩)
  ·rw [hE' t,hE1 t];exact(kV (E:=E) T T (aBM _) (fun j x hj _=>⟨fun hlt=>hall j hlt,fun h1 h2=>by omega⟩)).symm
  rw [hH' j,hH1 j];exact(kU (H:=H) T T (aBM _) (fun i x hi _=>⟨fun hlt=>hall i hlt,fun h1 h2=>by omega⟩)).symm
 have cnt:∀ (fuel:Nat) (listed:Array Bool),listed.size=ops.size→(∀ j,T≤j→listed.getD j false=false)→((List.range ops.size).filter fun i=>!listed.getD i true).length≤fuel→ops.size≤T+fuel:=by
  intro fuel listed hsz hnoB hcnt;have h1:(List.range' T (ops.size - T)).length≤((List.range ops.size).filter fun i=>!listed.getD i true).length:=by
   refine List.Nodup.length_le_of_subset List.nodup_range' fun j hj=>?_;rw [List.mem_range'_1] at hj;have hjl:j < listed.size:=by omega
   have h2:=hnoB j (by omega);refine List.mem_filter.2 ⟨List.mem_range.2 (by omega),?_⟩;simp [Array.getD,hjl] at h2 ⊢;exact h2
  rw [List.length_range'] at h1;omega
 have main:∀ (fuel:Nat) (listed:Array Bool) (a:Act) (w:World) (E1:bH) (H1:aA),listed.size=ops.size→((List.range ops.size).filter fun i=>!listed.getD i true).length≤fuel →
   qK ops.toList (fun i=>listed.getD i false)→(∀ j,T≤j→listed.getD j false=false)→St G N E1 H1 a w→(∀ t,E1.get t=tL E l (fun i=>listed.getD i false) T t)→(∀ j,H1.get j=tJ H l (fun i=>listed.getD i false) T j) →
   wpAnyIn (RF ro) 0 P .any ops (fun e a w=>∃ E H,Q e E H∧St G N E H a w) fuel listed a w:=by
  intro fuel
  induction fuel with
  | zero =>
   intro listed a w E1 H1 hsz hcnt hdown hnoB hst1 hE1 hH1;have hall:∀ i,i < T→listed.getD i false=true:=by
    intro i hi;have hnil:=List.eq_nil_of_length_eq_zero (Nat.le_zero.1 hcnt);have:=List.filter_eq_nil_iff.1 hnil i (List.mem_range.2 (by omega));have hi':i < listed.size:=by omega
    simp [Array.getD,hi'] at this ⊢;exact this
   exact fin 0 listed a w E1 H1 hsz (cnt 0 listed hsz hnoB hcnt) hnoB hall hst1 hE1 hH1
  | succ fuel ih =>
   intro listed a w E1 H1 hsz hcnt hdown hnoB hst1 hE1 hH1;by_cases hallT:∀ i,i < T→listed.getD i false=true
   ·exact fin _ listed a w E1 H1 hsz (cnt _ listed hsz hnoB hcnt) hnoB hallT hst1 hE1 hH1
   refine⟨fun hnil=>?_,fun i hi=>?_⟩
   ·-- nothing is left
    exfalso;have hall:∀ i,i < ops.size→listed.getD i false=true:=by
     intro i
     induction i using Nat.strongRecOn with
     | _ i ihi =>
      intro hi;refine Classical.byContradiction fun hno=>?_;have hi':i < listed.size:=by omega
      have hno':listed.getD i true=false:=by
       simp [Array.getD,hi'] at hno ⊢;exact hno
      have hlt:i < ops.toList.length:=by simpa using hi
      have hr:i∈Region.ready .any ops listed:=by
       unfold Region.ready;refine List.mem_filter.2 ⟨List.mem_range.2 hi,?_⟩;have ho:ops[i]?=some ops[i]:=Array.getElem?_eq_getElem hi;simp only [hno',Bool.not_false,Bool.true_and,ho,Option.map_some,Option.getD_some];rw [Array.all_eq_true'];intro e he;cases hb:Region.binds .any e with
       | false=>simp
       | true =>
        have hon:=hedge i ops[i] (by simp [ho]) e (by simpa using he) hb;simp only [Bool.not_true,Bool.false_or];exact ihi e.on (by omega) (by omega)
      rw [hnil] at hr;cases hr
    exact hallT fun i hi=>hall i (by omega)
   have hi1:=List.mem_filter.1 hi;have hilt:i < ops.size:=List.mem_range.1 hi1.1;have hi':i < listed.size:=by omega
   have ho:ops[i]?=some ops[i]:=Array.getElem?_eq_getElem hilt;have hi2:=hi1.2;simp only [ho,Option.map_some,Option.getD_some,aBP] at hi2;obtain ⟨hnl,hpreds⟩:=hi2;have hnl':listed.getD i false=false:=by
    simp [Array.getD,hi'] at hnl ⊢;exact hnl
   have hpre:∀ e∈(ops[i]).after.toList,Region.binds .any e=true→listed.getD e.on false=true:=by
    intro e he hb;have:=(Array.all_eq_true'.1 hpreds) e (by simpa using he)
    simpa [hb] using this
   have hiT:i < T:=by
    refine Classical.byContradiction fun hno=>hallT fun q hq=>?_;exact htail i (by omega) hilt q (by omega) _ hdown ops[i] (by simp [ho]) hpre
   have hil:i < l.length:=by omega
   obtain ⟨x,hx⟩:∃ x,l[i]?=some x:=⟨_,aBL hil⟩;have hxo:x.o=ops[i]:=by
    have:=hlo i x hx;simp [ho] at this;exact this.symm
   obtain ⟨hdok,Ek,Hk,hEk,hHk,hdst⟩:=hst i x hx;have hbefore:∀ (j:Nat) (y:Ent2),j < i→l[j]?=some y→fQ ops.toList y x=true→listed.getD j false=true:=by
    intro j y hj hy hcl;exact hbef j i y x hj hy hx hcl _ hdown ops[i] (by simp [ho]) hpre
   have hbehind:∀ (j:Nat) (y:Ent2),i < j→l[j]?=some y→fQ ops.toList x y=true→listed.getD j false=false:=by
    intro j y hj hy hcl;cases hjl:listed.getD j false with
    | false=>rfl
    | true =>
     have hjlt:j < l.length:=(aBK.1 hy).1;have hjo:ops.toList[j]?=some y.o:=hlo j y hy;have:=hbef i j x y hj hx hy hcl _ hdown y.o hjo (fun e he hb=>hdown j y.o hjo hjl e he hb);rw [hnl'] at this;cases this
   have agreeE:∀ t,(∀ (j:Nat) (y:Ent2),l[j]?=some y→y.o.dst=some t→(j < i→fQ ops.toList y x=true)∧(i < j→fQ ops.toList x y=true))→E1.get t=Ek.get t:=by
    intro t ht;rw [hE1 t,hEk t];refine kV (E:=E) T i (by omega) (fun j y hj hd=>⟨fun hlt=>hbefore j y hlt hj ((ht j y hj hd).1 hlt),fun h1 h2=>?_⟩);by_cases e:j=i
    ·subst e;exact hnl'
    exact hbehind j y (by omega) hj ((ht j y hj hd).2 (by omega))
   have agreeH:∀ k,(∀ (j:Nat) (y:Ent2),l[j]?=some y→(y.r.W.get k).isSome=true→(j < i→fQ ops.toList y x=true)∧(i < j→fQ ops.toList x y=true))→H1.get k=Hk.get k:=by
    intro k hk;rw [hH1 k,hHk k];refine kU (H:=H) T i (by omega) (fun j y hj hd=>⟨fun hlt=>hbefore j y hlt hj ((hk j y hj hd).1 hlt),fun h1 h2=>?_⟩);by_cases e:j=i
    ·subst e;exact hnl'
    exact hbehind j y (by omega) hj ((hk j y hj hd).2 (by omega))
   have hlooks:∀ t,t∈fB ops.toList x.o→E1.get t=Ek.get t:=fun t ht =>
    agreeE t fun j y hj hd=>⟨fun _=>pZ hd ht,fun _=>pY hd ht⟩
   have hreads:∀ k,pF x.r.R k=true→H1.get k=Hk.get k:=fun k hk =>
    agreeH k fun j y hj hd=>⟨fun _=>EC hd hk,fun _=>ED hd hk⟩
   have hlist:∀ j,(listed.setIfInBounds i true).getD j false=if j=i then true else listed.getD j false:=by
    intro j;by_cases e:j=i
    ·subst e;simp [Array.getD,hi']
    simp only [Array.getD_eq_getD_getElem?,Array.getElem?_setIfInBounds_ne (Ne.symm e),e,if_false]
   have hdown':qK ops.toList (fun j=>(listed.setIfInBounds i true).getD j false):=by
    intro j o hj hjl e he hb;simp only [hlist] at hjl ⊢;by_cases ej:j=i
    ·subst ej;have:o=ops[j]:=by simp [ho] at hj;exact hj.symm
     subst this;have:=hpre e he hb;simp [this]
    simp only [ej,if_false] at hjl;have:=hdown j o hj hjl e he hb;simp only at this;simp [this]
   have hcnt':((List.range ops.size).filter fun j=>!(listed.setIfInBounds i true).getD j true).length≤fuel:=by
    have hlist':∀ j,(listed.setIfInBounds i true).getD j true=if j=i then true else listed.getD j true:=by
     intro j;by_cases e:j=i
     ·subst e;simp [Array.getD,hi']
     simp only [Array.getD_eq_getD_getElem?,Array.getElem?_setIfInBounds_ne (Ne.symm e),e,if_false]
    have h1:((List.range ops.size).filter fun j=>!(listed.setIfInBounds i true).getD j true)=((List.range ops.size).filter fun j=>!listed.getD j true).filter fun j=>j != i:=by
     rw [List.filter_filter];refine List.filter_congr fun j _=>?_;rw [hlist'];by_cases e:j=i<;>simp [e]
    rw [h1];have h2:=List.length_filter_lt_length_iff_exists (p:=fun j=>j != i) (l:=(List.range ops.size).filter fun j=>!listed.getD j true) |>.2 ⟨i,List.mem_filter.2 ⟨hi1.1,by simpa using hnl⟩,by simp⟩;omega
   have next:∀ (r:AV) (a':Act) (w':World),r=x.r.v→St G N (jW E1 x.o.dst x.r.v) (x.r.W++H1) a' w'→wpAnyIn (RF ro) 0 P .any ops (fun e a w=>∃ E H,Q e E H∧St G N E H a w) fuel (listed.setIfInBounds i true) a' w':=by
    intro r a' w' _ hst';refine ih _ a' w' _ _ (by simp [hsz]) hcnt' hdown' (fun j hj=>by rw [hlist,aBE (by omega)];exact hnoB j hj) hst' (fun t=>?_) (fun k=>?_)
    ·-- slots
     by_cases hd:x.o.dst=some t
     ·have e1:bH.get (jW E1 x.o.dst x.r.v) t=some x.r.v:=by rw [hd];simp [jW,bH.get_cons_same]
      rw [e1];have e2:=kV (E:=E) (l:=l) (S:=fun j=>(listed.setIfInBounds i true).getD j false) (t:=t) T (i+1) (by omega) (fun j y hj hyd=>⟨fun hlt=>?_,fun h1 h2=>?_⟩)
      ·rw [e2,tL,hx];simp [hd]
      ·simp only [hlist];by_cases ej:j=i
       ·simp [ej]
       simp only [ej,if_false];exact hbefore j y (by omega) hj (lH hyd hd)
      simp only [hlist];rw [aBE (by omega)];exact hbehind j y (by omega) hj (lH hd hyd)
     have e1:bH.get (jW E1 x.o.dst x.r.v) t=E1.get t:=by
      cases hdd:x.o.dst with
      | none=>rfl
      | some d=>exact bH.get_cons_other _ _ (fun e=>hd (by rw [hdd,e]))
     rw [e1,hE1 t];have:∀ n,tL E l (fun i=>listed.getD i false) n t=tL E l (fun j=>(listed.setIfInBounds i true).getD j false) n t:=by
      intro n
      induction n with
      | zero=>rfl
      | succ n ihn =>
       rw [tL,tL];cases hn:l[n]? with
       | none=>exact ihn
       | some y =>
        simp only;by_cases en:n=i
        ·subst en;rw [hx] at hn;cases hn;rw [aBE (fun h=>hd h.2),aBE (fun h=>hd h.2)];exact ihn
        have hS:(listed.setIfInBounds i true).getD n false=listed.getD n false:=by rw [hlist,aBE en]
        rw [hS,ihn]
     exact this _
    rw [vW];by_cases hd:(x.r.W.get k).isSome=true
    ·obtain ⟨ob,hob⟩:=Option.isSome_iff_exists.1 hd;rw [hob];have e2:=kU (H:=H) (l:=l) (S:=fun j=>(listed.setIfInBounds i true).getD j false) (id:=k) T (i+1) (by omega) (fun j y hj hyd=>⟨fun hlt=>?_,fun h1 h2=>?_⟩)
     ·rw [e2,tJ,hx];simp [hob]
     ·simp only [hlist];by_cases ej:j=i
      ·simp [ej]
      simp only [ej,if_false];exact hbefore j y (by omega) hj (sP hyd hd)
     simp only [hlist];rw [aBE (by omega)];exact hbehind j y (by omega) hj (sP hd hyd)
    have hnone:x.r.W.get k=none:=by simpa using hd
    rw [hnone];simp only;rw [hH1 k];have:∀ n,tJ H l (fun i=>listed.getD i false) n k=tJ H l (fun j=>(listed.setIfInBounds i true).getD j false) n k:=by
     intro n
     induction n with
     | zero=>rfl
     | succ n ihn =>
      rw [tJ,tJ];cases hn:l[n]? with
      | none=>exact ihn
      | some y =>
       simp only;by_cases en:n=i
       ·subst en;rw [hx] at hn;cases hn;rw [aBE (fun h=>hd h.2),aBE (fun h=>hd h.2)];exact ihn
       have hS:(listed.setIfInBounds i true).getD n false=listed.getD n false:=by rw [hlist,aBE en]
       rw [hS,ihn]
    exact this _
   unfold wpOpIn;simp only [ho];rw [hxo] at hdst hlooks hdok;rw [hxo] at next;have hgE:∀ (j:Nat) (want:Bool) (t:Tmp) (b:Bool),(ops[i]).guard=some (j,want)→gP ops.toList j=some t→Ek.get t=some (.pv (.bool b))→yielded ops a.tmps j=some b:=by
    intro j want t b hg hj hb;have hmem:t∈fB ops.toList ops[i]:=by simp [fB,hg,hj]
    exact mA (E:=E1) hj ((hlooks t hmem).trans hb) hst1.rel.choose_spec.choose_spec.2.2
   have hnd:ro=none∨(ops[i]).noDefer=true:=hnd0.imp (fun h=>h) fun h=>List.all_eq_true.1 h _ (by simp);cases hdst with
   | plain hg h =>
    have hw:Region.wanted ops[i] (yielded ops a.tmps)=true:=by simp [Region.wanted,hg]
    simp only [hw,if_true];refine hst1.op hdok ((h H1 hreads).restr hlooks) ?_ hnd;rintro r H2 a' w' ⟨rfl,rfl⟩ hs';exact next _ a' w' rfl hs'
   | on j want t b hg hj hb hw h =>
    have hy:=hgE j want t b hg hj hb;have hw:Region.wanted ops[i] (yielded ops a.tmps)=true:=by simp [Region.wanted,hg,hy,hw]
    simp only [hw,if_true];refine hst1.op hdok ((h H1 hreads).restr hlooks) ?_ hnd;rintro r H2 a' w' ⟨rfl,rfl⟩ hs';exact next _ a' w' rfl hs'
   | off j want t x' hg hj hb hw hv hW =>
    have hmem:t∈fB ops.toList ops[i]:=by simp [fB,hg,hj]
    have hw:Region.wanted ops[i] (yielded ops a.tmps)=false :=
     xG (E:=E1) hg hj ((hlooks t hmem).trans hb) hw hst1.rel.choose_spec.choose_spec.2.2
    simp only [hw,Bool.false_eq_true,if_false];refine⟨fun _ _=>trivial,?_⟩;refine next (.tup []) _ w hv.symm ?_;obtain ⟨I,ι,hr,hst2,he⟩:=hst1.rel;rw [hv,hW];refine⟨?_,?_,I,ι,hr,hst2,gF.put hr (Step.refl _ _ _ _) he gF.skip (by rw [hst1.size];exact hdok)⟩
    ·rw [gX];exact hst1.defers
    have:=hst1.size;cases (ops[i]).dst<;>simpa [Act.put] using this
 have hs':St G N E H a {w with drawn:=w.drawn+1}:=by
  obtain ⟨I,ι,hr,hst2,he⟩:=hs.rel;obtain ⟨k2,k3⟩:=hr.drawn (w':={w with drawn:=w.drawn+1}) rfl rfl rfl rfl;exact⟨hs.defers,hs.size,I,ι,k2,hst2.trans k3,fun t v ht=>let ⟨c,h1,h2⟩:=he t v ht;⟨c,h1,h2.mono hr k3⟩⟩
 refine main ops.size (Array.replicate ops.size false) a _ E H (by simp) (by
  have:=List.length_filter_le (fun i=>!(Array.replicate ops.size false).getD i true) (List.range ops.size)
  simpa using this) (fun j o hj hjl=>by simp [Array.getD] at hjl) (fun j _=>by simp [Array.getD]) hs' (fun t=>?_) (fun k=>?_)
 ·have:∀ n,tL E l (fun i=>(Array.replicate ops.size false).getD i false) n t=E.get t:=by
   intro n
   induction n with
   | zero=>rfl
   | succ n ihn =>
    rw [tL];cases l[n]? with
    | none=>exact ihn
    | some y =>
     have hf:(Array.replicate ops.size false).getD n false=false:=by simp [Array.getD]
     simp only [hf,Bool.false_eq_true,false_and,if_false];exact ihn
  exact(this _).symm
 have:∀ n,tJ H l (fun i=>(Array.replicate ops.size false).getD i false) n k=H.get k:=by
  intro n
  induction n with
  | zero=>rfl
  | succ n ihn =>
   rw [tJ];cases l[n]? with
   | none=>exact ihn
   | some y =>
    have hf:(Array.replicate ops.size false).getD n false=false:=by simp [Array.getD]
    simp only [hf,Bool.false_eq_true,false_and,if_false];exact ihn
 exact(this _).symm
theorem LA {P:Program} {G0:aA} {N id:Nat} {Q:Exit→bH→aA→Prop} {ops:Array Oper} {E:bH} {H:aA} (T:Nat) (hm:P.follows .mixedOrders=true) (hT:T≤ops.size)
  (h:DC P N ops.toList (ops.toList.take T) E H (fun rs E' H'=>FD T ops.toList rs=true∧AL P G0 N ops (fun E H=>Q .normal E H) (ops.toList.drop T) E' H')):gM P G0 N (.region id ops true) Q E H:=by
 obtain ⟨rs,E',H',h1,h2,h3⟩:=h;exact PN T hm hT h1 h2 h3
end Go.Abs
namespace Go.Proofs.YtmkgeogoojcciaaGreatDoor
open Go.Proofs.Tryz
open Go.Abs Go.Lib
def ZC (x:GOp):Prop:=x.put.length < 1000000000∧x.drop.length < 1000000000∧∀ p∈x.put,p.1.size < 1099511627776∧p.2.size < 1099511627776
theorem OU {l:List GOp} (h:yI l=true):l.length≤12∧∀ x∈l,x.put.length≤6∧x.drop.length≤6∧(∀ p∈x.put,p.1.size+p.2.size≤600)∧∀ s∈x.drop,s.size≤600:=by rw [yI,aBP,aBN] at h;refine⟨h.2,fun x hx=>?_⟩;have h1:=List.all_eq_true.1 h.1 x hx;rw [F1] at h1;simp only [aBP,aBN] at h1;exact⟨h1.1.1,h1.1.2,fun p hp=>aBC (List.all_eq_true.1 h1.2.1 p hp),fun s hs=>aBC (List.all_eq_true.1 h1.2.2 s hs)⟩
end Go.Proofs.YtmkgeogoojcciaaGreatDoor
namespace Go.Proofs.YtmkgeogoojcciaaGreatDoor
open Go.Proofs.Tryz
open Go.Abs Go.ChangeShapes Go.WideShapes Go.ChangeAt Go.RowKit
theorem own:ownKnob Tryz.prog.godebug=none:=by kernel_rfl
theorem MD:laidOutB Tryz.prog=true:=by kernel_rfl
theorem JF {H:Type} {l:List (DataW H)} (hk:Rows.uptoSmall H l=true):Rows.uptoBulkAll l≤1048576:=aBC hk
theorem PB {H:Type} {l r:List (DataW H)} {n:Nat} (h:Rows.uptoBulkAll (l++r)≤n):Rows.uptoBulkAll l≤n:=by
 induction l generalizing n with
 | nil=>simp [Rows.uptoBulkAll]
 | cons x l ih =>
  simp only [List.cons_append,Rows.uptoBulkAll] at h ⊢;have:=ih (n:=n - Rows.uptoBulk x) (by omega);omega
def XB (n:Int):Prop:=(Lit.int .i64 n).wf=true
theorem XB.bd {n:Int} (h:XB n) : -9223372036854775808≤n∧n≤9223372036854775807:=by simpa [XB,Lit.wf,IntKind.min,IntKind.max,IntKind.signed,IntKind.bits] using h
theorem aAR {B n:Nat} {ps:List PV} (h:Sh Tryz.prog B (n+1) 5 ps):∃ i,ps=[.int .u8 i]∧0≤i∧i≤255:=by obtain ⟨i,rfl,hi⟩:=AA bX h;exact⟨i,rfl,by simpa [Lit.wf,IntKind.min,IntKind.max,IntKind.signed,IntKind.bits] using hi⟩
theorem X9 {B n:Nat} {ps:List PV} (h:Sh Tryz.prog B (n+2) 31 ps):∃ l,ps=[aW l]∧l.length≤B∧∀ s,s∈l→s.size≤B:=by obtain ⟨l,rfl,h1,h2⟩:=EQ (f:=encStr) (good:=fun s=>s.size≤B) aO h (fun r hr=>JR aI hr);exact⟨l,rfl,h1,h2⟩
theorem Q1 {P:Program} {B n k:Nat} {t e:TypeId} {ps:List PV} (ht:P.underlying t=some (.array k e)) (h:Sh P B (n+1) t ps):Y0 (fun t ps=>Sh P B n t ps) P.cellsOf (wE P e 0 k) ps:=by unfold Sh at h;rw [ht] at h;exact h
def QO (B:Nat) (p:ByteArray×ByteArray):Prop:=p.1.size≤B∧p.2.size≤B
theorem aAT {B n:Nat} {ps:List PV} (h:Sh Tryz.prog B (n+2) 66 ps):∃ p,ps=pX p∧QO B p:=by obtain ⟨_,_,rfl,_,h1,_,_,rfl,_,h2,rfl⟩:=Q1 gT h;obtain ⟨s,rfl,q1⟩:=JR aI h1;obtain ⟨t,rfl,q2⟩:=JR aI h2;exact⟨(s,t),rfl,q1,q2⟩
theorem ZQ {B n:Nat} {ps:List PV} (h:Sh Tryz.prog B (n+3) 35 ps):∃ l,ps=[NQ l]∧l.length≤B∧∀ p,p∈l→QO B p:=by obtain ⟨l,rfl,h1,h2⟩:=EQ (f:=pX) (good:=QO B) kO h (fun r hr=>aAT hr);exact⟨l,rfl,h1,h2⟩
def XE (B:Nat) (o:GOp):Prop:=XB o.kind∧(o.put.length≤B∧∀ p,p∈o.put→QO B p)∧(o.drop.length≤B∧∀ s,s∈o.drop→s.size≤B)∧XB o.a∧XB o.b∧XB o.c
def zT (B:Nat) (l:List GOp):Prop:=l.length≤B∧∀ o,o∈l→XE B o
theorem aAS {B n:Nat} {ps:List PV} (h:Sh Tryz.prog B (n+4) 37 ps):∃ o,ps=tD o∧XE B o:=by obtain ⟨_,_,rfl,_,h1,_,_,rfl,_,h2,_,_,rfl,_,h3,_,_,rfl,_,h4,_,_,rfl,_,h5,_,_,rfl,_,h6,rfl⟩:=NS gU h;obtain ⟨k,rfl,q1⟩:=AA cC h1;obtain ⟨l,rfl,q2⟩:=ZQ h2;obtain ⟨d,rfl,q3⟩:=X9 h3;obtain ⟨a,rfl,q4⟩:=AA cC h4;obtain ⟨b,rfl,q5⟩:=AA cC h5;obtain ⟨c,rfl,q6⟩:=AA cC h6;exact⟨⟨k,l,d,a,b,c⟩,rfl,q1,q2,q3,q4,q5,q6⟩
theorem ZP {B n:Nat} {ps:List PV} (h:Sh Tryz.prog B (n+5) 22 ps):∃ l,ps=[mR l]∧zT B l:=by obtain ⟨l,rfl,h1,h2⟩:=EQ (f:=tD) (good:=XE B) oA h (fun r hr=>aAS hr);exact⟨l,rfl,h1,h2⟩
theorem zT.len {l:List GOp} (h:zT 1048576 l):l.length < 1000000000:=Nat.lt_of_le_of_lt h.1 (by decide)
theorem zT.ok {l:List GOp} (h:zT 1048576 l):∀ x∈l,ZC x:=fun x hx=>by
 obtain ⟨_,⟨h1,h2⟩,⟨h3,_⟩,_⟩:=h.2 x hx;exact⟨by omega,by omega,fun p hp=>by have:=h2 p hp;unfold QO at this;omega⟩
theorem zT.ka {l:List GOp} (h:zT 1048576 l):∀ x∈l,x.a≤9223372036854775807:=fun x hx=>(h.2 x hx).2.2.2.1.bd.2
end Go.Proofs.YtmkgeogoojcciaaGreatDoor
namespace Go.Proofs.YtmkgeogoojcciaaGreatDoor
open Go.Proofs.Tryz
open Go.Abs Go.Lib
theorem ML {a n:Nat} (ha:a < 10) (hn:n < 10000000):(dg a 1++dg n 7).length=8:=by rw [aBH,jG (mX a (by omega) (by omega)),jG (mX n (by omega) (by omega))]
theorem DJ {c:List UInt8} (h:c.length=8):(nD c).drop 8=zB 40:=by rw [nD,List.drop_left' h,h]
theorem J3 (t c:ByteArray):(kY t c).data.toList=t.data.toList++c.data.toList.drop t.size:=rfl
theorem NF {k place a n j:Nat} (hk:k < 10000000) (hp:place < 100000000) (ha:a < 10) (hn:n < 10000000) {O:ByteArray} (hO:(∃ a' n',a' < 10∧n' < 10000000∧O=hS place a' n')∨O=zS) (hj:j≤64) (h:jX k place (kY ((hS place a n).extract 0 j) O)=true) :
  kY ((hS place a n).extract 0 j) O=hS place a n∨kY ((hS place a n).extract 0 j) O=O:=by
 obtain ⟨X,hX⟩:∃ X,X=kY ((hS place a n).extract 0 j) O:=⟨_,rfl⟩;rw [← hX] at h ⊢;obtain ⟨h1,h2,h3⟩:=qW h;obtain ⟨a2,ha2⟩:∃ x,x=qC X:=⟨_,rfl⟩;obtain ⟨n2,hn2⟩:∃ x,x=qB X:=⟨_,rfl⟩;rw [← ha2] at h1 h3;rw [← hn2] at h2 h3;have hz:(hS place a n).size=64:=sL place ha hn;have hl:X.data.toList=(iW place a n).take j++O.data.toList.drop j:=by
  rw [hX,J3,eJ,ByteArray.size_extract,hz,List.drop_zero,bC,show min j 64 - 0=j by omega,Nat.sub_zero]
 have hl2:X.data.toList=iW place a2 n2:=by rw [← h3,bC]
 have c8:=ML ha hn;have c82:=ML (a:=a2) (n:=n2) (by omega) (by omega);have p1:=qX (c:=dg a 1++dg n 7) (by omega);have p2:=qX (c:=dg a2 1++dg n2 7) (by omega);have hll:(iW place a n).length=64:=by rw [iW,wV (by omega)]
 rw [hl2] at hl;by_cases hj16:16≤j
 ·refine .inl ?_;have e1:(iW place a2 n2).take 16=(iW place a n).take 16:=by
   rw [hl,List.take_append_of_le_length (by rw [aBU,hll];omega),List.take_take,Nat.min_eq_left hj16]
  rw [iW,iW,gN,gN,List.take_left' (lL _),List.take_left' (lL _)] at e1;have e2:=JS (b:=0) (dg8 hp) p2 p1 (by decide) rfl (by show (nD _).drop 8=(nD _).drop 8;rw [DJ c8,DJ c82]) e1;have e3:iW place a2 n2=iW place a n:=by
   show gN place (dg a2 1++dg n2 7)=gN place (dg a 1++dg n 7);rw [gN,gN,e2]
  rw [← h3];exact congrArg ofL e3
 have e1:(iW place a2 n2).drop 16=O.data.toList.drop 16:=by
  rw [hl,List.drop_append,aBU,hll,List.drop_of_length_le (by rw [aBU,hll];omega),List.nil_append,List.drop_drop];congr 1;omega
 rw [iW,gN,List.drop_left' (lL _)] at e1;rcases hO with⟨a',n',b1,b2,rfl⟩|rfl
 ·refine .inr ?_;rw [bC,iW,gN,List.drop_left' (lL _)] at e1;have e3:iW place a2 n2=iW place a' n':=by
   show gN place (dg a2 1++dg n2 7)=gN place (dg a' 1++dg n' 7);rw [gN,gN,e1]
  rw [← h3];exact congrArg ofL e3
 exfalso;have hd:(dg a2 1++dg n2 7)[0]?=some 0:=by
  have this:(nD (dg a2 1++dg n2 7))[0]?=(zS.data.toList.drop 16)[0]?:=by rw [e1]
  rw [nD,List.getElem?_append_left (by omega)] at this;rw [this,bC,List.getElem?_drop,zB,List.getElem?_replicate,aBF (by omega)]
 have hm:=aBQ hd;rcases List.mem_append.1 hm with hm|hm
 ·exact absurd (BK hm).1 (by decide)
 exact absurd (BK hm).1 (by decide)
def uR (cells:List ByteArray) (k a n:Nat) (C:CT):Prop:=∃ (Q T:List (List UInt8)),Q.length=n∧LogAt cells (2+a*k) Q∧Q.flatten=aR (T.map ofL)∧(∀ t∈T,lM t=true)∧C=oV T
theorem uR.same {cells c':List ByteArray} {k a n:Nat} {C:CT} (h:uR cells k a n C) (hs:∀ i,2+a*k≤i→i < 2+a*k+n→c'[i]?=cells[i]?):uR c' k a n C:=by obtain ⟨Q,T,h1,h2,h3,h4,h5⟩:=h;refine⟨Q,T,h1,⟨h2.p,fun i q hq=>?_⟩,h3,h4,h5⟩;have hi:=(aBK.1 hq).1;rw [hs _ (by omega) (by omega)];exact h2.at' i q hq
theorem SInv.same {cells c':List ByteArray} {k a n:Nat} {C:CT} (h:SInv cells k a n C) (hl:c'.length=cells.length) (h0:c'[0]?=cells[0]?) (h1:c'[1]?=cells[1]?) (hs:∀ i,2+a*k≤i→i < 2+a*k+n→c'[i]?=cells[i]?):SInv c' k a n C :=⟨h.k1,by rw [hl];exact h.kn,h.a2,h.nk,by rw [h0,h1];exact h.hd,uR.same h.lg hs⟩
structure WInv (cells:List ByteArray) (k a n:Nat) (C:CT):Prop where
 k1:1≤k
 kn:2*k+2≤cells.length∧cells.length≤2*k+3
 a2:a < 2
 nk:n≤k
 hd:cells[1]?=some (hS 1 a n)∨∃ t,cells[1]?=some t∧jX k 1 t=false∧(cells[0]?=some (hS 0 a n)∨(cells[0]?=some zS∧a=0∧n=0))
 lg:uR cells k a n C
theorem SInv.w {cells:List ByteArray} {k a n:Nat} {C:CT} (h:SInv cells k a n C):WInv cells k a n C:=by
 refine⟨h.k1,h.kn,h.a2,h.nk,?_,h.lg⟩;rcases h.hd with⟨g1,g0⟩|⟨g1,g0,ea,en⟩
 ·exact .inl g1
 exact .inr ⟨_,g1,lI,.inr ⟨g0,ea,en⟩⟩
theorem Q2 {d:DSt} {N k a0 n0 a n:Nat} {C0 C:CT} (h:OnD d N) (h0:SInv d.cells k a0 n0 C0) (hk:k < 4000) (ha:a < 2) (hn:n≤k) (hl:uR d.cells k a n C) :
  ((lS d a n).1=0∧OnD (lS d a n).2 N∧(lS d a n).2.cells=(d.cells.set 1 (hS 1 a n)).set 0 (hS 0 a n))∨((lS d a n).1=22∧qK (lS d a n).2 N∧(WInv (lS d a n).2.cells k a0 n0 C0∨WInv (lS d a n).2.cells k a n C)):=by
 have hN:=h.inv.n;have hkn:=h0.kn;have s1:(hS 1 a n).size=64:=sL 1 (by omega) (by omega);have s0:(hS 0 a n).size=64:=sL 0 (by omega) (by omega);have hO:∃ O,d.cells[1]?=some O∧((∃ a' n',a' < 10∧n' < 10000000∧O=hS 1 a' n')∨O=zS):=by
  rcases h0.hd with⟨g1,g0⟩|⟨g1,g0,ea,en⟩
  ·exact⟨_,g1,.inl ⟨a0,n0,by have:=h0.a2;omega,by have:=h0.nk;omega,rfl⟩⟩
  exact⟨_,g1,.inr rfl⟩
 have hold:d.cells[0]?=some (hS 0 a0 n0)∨(d.cells[0]?=some zS∧a0=0∧n0=0):=by
  rcases h0.hd with⟨g1,g0⟩|⟨g1,g0,ea,en⟩
  ·exact .inl g0
  exact .inr ⟨g0,ea,en⟩
 have new:∀ c':List ByteArray,c'.length=d.cells.length→c'[1]?=some (hS 1 a n)→(∀ i,2≤i→c'[i]?=d.cells[i]?)→WInv c' k a n C:=fun c' e1 e2 e3 =>
  ⟨h0.k1,by rw [e1];exact hkn,ha,hn,.inl e2,hl.same fun i hi _=>e3 i (by omega)⟩
 rw [lS];rcases qM h (place:=1) (L:=[hS 1 a n]) (by rw [List.length_singleton];omega) (fun t ht=>by rw [aBJ.1 ht];exact s1) (by rw [List.length_singleton];omega)with⟨q1,q2,q3⟩|⟨q1,q2,q3⟩
 ·rw [aBF q1];have q3:(gI d 1 [hS 1 a n]).2.cells=d.cells.set 1 (hS 1 a n):=q3;rcases qM q2 (place:=0) (L:=[hS 0 a n]) (by rw [List.length_singleton];omega) (fun t ht=>by rw [aBJ.1 ht];exact s0) (by rw [List.length_singleton];omega)with⟨p1,p2,p3⟩|⟨p1,p2,p3⟩
  ·have p3:(gI (gI d 1 [hS 1 a n]).2 0 [hS 0 a n]).2.cells=(gI d 1 [hS 1 a n]).2.cells.set 0 (hS 0 a n):=p3;exact .inl ⟨p1,p2,by rw [p3,q3]⟩
  refine .inr ⟨p1,p2,.inr (new _ (by rw [p3.len,q3,List.length_set]) ?_ fun i hi=>?_)⟩
  ·rw [p3.out (.inr (by rw [List.length_singleton];omega)),q3,List.getElem?_set_self (by omega)]
  rw [p3.out (.inr (by rw [List.length_singleton];omega)),q3,List.getElem?_set_ne (by omega)]
 rw [aBE (by rw [q1];decide)];refine .inr ⟨q1,q2,?_⟩;obtain ⟨c',hc'⟩:∃ c,c=(gI d 1 [hS 1 a n]).2.cells:=⟨_,rfl⟩;rw [← hc'] at q3 ⊢;have hlen:=q3.len;have hge:∀ i,2≤i→c'[i]?=d.cells[i]?:=fun i hi=>q3.out (.inr (by rw [List.length_singleton];omega));have h00:c'[0]?=d.cells[0]?:=q3.out (.inl (by omega));obtain ⟨O,hO1,hO2⟩:=hO;rcases q3.one (by omega) s1 with rfl|rfl|⟨j,j1,j2,hce⟩
 ·exact .inl h0.w
 ·exact .inr (new _ hlen (List.getElem?_set_self (by omega)) hge)
 have hOD:(d.cells[1]?).getD ⟨#[]⟩=O:=by rw [hO1];rfl
 rw [hOD] at hce;clear hc' q3;subst hce;have h1:(d.cells.set 1 (kY ((hS 1 a n).extract 0 j) O))[1]?=some (kY ((hS 1 a n).extract 0 j) O):=List.getElem?_set_self (by omega);cases e:jX k 1 (kY ((hS 1 a n).extract 0 j) O)with
 | false =>
  refine .inl ⟨h0.k1,by rw [hlen];exact hkn,h0.a2,h0.nk,.inr ⟨_,h1,e,?_⟩,uR.same h0.lg fun i hi _=>hge i (by omega)⟩;rw [h00];exact hold
 | true =>
  rcases NF (k:=k) (by omega) (by omega) (by omega) (by omega) hO2 j2 e with e2|e2
  ·rw [e2] at h1 hlen hge ⊢;exact .inr (new _ hlen h1 hge)
  rw [e2] at h1 hlen hge h00 ⊢;exact .inl (h0.same hlen h00 (by rw [h1,hO1]) fun i hi _=>hge i (by omega)).w
theorem TX {d:DSt} {N k a n:Nat} {C:CT} (h:OnD d N) (h0:SInv d.cells k a n C) (hk:k < 4000) {l:bU} {D:List ByteArray} (hn:eY l) (hD:A8 D) (hp:0 < l.length+D.length) (hw:bO l D=0) (hc:n+cJ (bD l D)≤k) :
  ((gK d k a n (bD l D)).1=0∧OnD (gK d k a n (bD l D)).2 N∧SInv (gK d k a n (bD l D)).2.cells k a (n+cJ (bD l D)) (oU C l D))∨((gK d k a n (bD l D)).1=22∧qK (gK d k a n (bD l D)).2 N∧∃ n',WInv (gK d k a n (bD l D)).2.cells k a n' C∨WInv (gK d k a n (bD l D)).2.cells k a n' (oU C l D)):=by
 have hsi:=G7 h0 hn hD hp hw hc (by omega);have hN:=h.inv.n;have hkn:=h0.kn;have hak:a*k≤k:=by
  have:=h0.a2;rcases(show a=0∨a=1 by omega)with e|e<;>subst e<;>omega
 obtain ⟨t,ht⟩:∃ t,t=bD l D:=⟨_,rfl⟩;rw [← ht] at hc hsi ⊢;rw [gK];rcases qM h (place:=2+a*k+n) (L:=gR (2+a*k+n) t (cJ t)) (by rw [cQ];omega) (wU _ _ _) (by rw [cQ];omega)with⟨q1,q2,q3⟩|⟨q1,q2,q3⟩
 ·rw [aBF q1];obtain ⟨e,he⟩:∃ e,e=(gI d (2+a*k+n) (gR (2+a*k+n) t (cJ t))).2:=⟨_,rfl⟩;rw [← he] at q2 q3 ⊢;have hlen:e.cells.length=d.cells.length:=by rw [q3,fJ]
  have hout:∀ i,i < 2+a*k+n→e.cells[i]?=d.cells[i]?:=fun i hi=>by rw [q3,dN,aBE (by omega)]
  have h1:SInv e.cells k a n C:=h0.same hlen (hout 0 (by omega)) (hout 1 (by omega)) fun i _ hi=>hout i hi;rw [← q3] at hsi;have hl:uR e.cells k a (n+cJ t) (oU C l D):=uR.same hsi.lg fun i hi _=>by rw [List.getElem?_set_ne (by omega),List.getElem?_set_ne (by omega)]
  rcases Q2 q2 h1 hk h0.a2 hc hl with⟨p1,p2,p3⟩|⟨p1,p2,p3⟩
  ·exact .inl ⟨p1,p2,by rw [p3];exact hsi⟩
  rcases p3 with p3|p3
  ·exact .inr ⟨p1,p2,_,.inl p3⟩
  exact .inr ⟨p1,p2,_,.inr p3⟩
 rw [aBE (by rw [q1];decide)];refine .inr ⟨q1,q2,n,.inl (h0.same q3.len (q3.out (.inl (by omega))) (q3.out (.inl (by omega))) fun i _ hi=>q3.out (.inl hi)).w⟩
theorem PJ {P:Program} {G0:aA} {N:Nat} {Q:Exit→bH→aA→Prop} {E:bH} {H:aA} {cc:Code} {α β γ δ ε ζ:Type} (S:α→β→γ→δ→ε→ζ→bH×aA) (J:α→β→γ→δ→ε→ζ→Prop) (μ:α→β→γ→δ→ε→ζ→Nat) (a0:α) (b0:β) (c0:γ) (d0:δ) (e0:ε) (z0:ζ) (h0:J a0 b0 c0 d0 e0 z0) (hin:cA G0 E H (S a0 b0 c0 d0 e0 z0).1 (S a0 b0 c0 d0 e0 z0).2)
  (round:∀ a b c d e z,J a b c d e z→gM P G0 N cc (rV (fun E' H'=>∃ a' b' c' d' e' z',J a' b' c' d' e' z'∧μ a' b' c' d' e' z' < μ a b c d e z∧cA G0 E' H' (S a' b' c' d' e' z').1 (S a' b' c' d' e' z').2) Q) (S a b c d e z).1 (S a b c d e z).2):gM P G0 N (.loop cc) Q E H:=by
 refine PK (α:=α) (β:=β) (γ:=γ) (δ:=δ) (ε:=ε×ζ) (fun a b c d s=>S a b c d s.1 s.2) (fun a b c d s=>J a b c d s.1 s.2) (fun a b c d s=>μ a b c d s.1 s.2) a0 b0 c0 d0 (e0,z0) h0 hin ?_;intro a b c d s hs;have h:=round a b c d s.1 s.2 hs;have e:(fun(E':bH) (H':aA)=>∃ (a':α) (b':β) (c':γ) (d':δ) (s':ε×ζ),J a' b' c' d' s'.1 s'.2∧μ a' b' c' d' s'.1 s'.2 < μ a b c d s.1 s.2∧cA G0 E' H' (S a' b' c' d' s'.1 s'.2).1 (S a' b' c' d' s'.1 s'.2).2)=(fun E' H'=>∃ a' b' c' d' e' z',J a' b' c' d' e' z'∧μ a' b' c' d' e' z' < μ a b c d s.1 s.2∧cA G0 E' H' (S a' b' c' d' e' z').1 (S a' b' c' d' e' z').2):=by
  funext E' H';exact propext ⟨fun⟨a',b',c',d',s',h⟩=>⟨a',b',c',d',s'.1,s'.2,h⟩,fun⟨a',b',c',d',e',z',h⟩=>⟨a',b',c',d',(e',z'),h⟩⟩
 rw [e];exact h
theorem uY {d:DSt} {N place a n:Nat} {hd:Bool} (h:Calm d N) (hp:place < N) (ha:a < 10) (hn:n < 10000000):(oY d place a n hd).1=0∧Calm (oY d place a n hd).2 N:=by
 rw [oY];by_cases e:bP d place=jT place a n hd
 ·rw [aBF e];exact⟨rfl,h⟩
 rw [aBE e];obtain ⟨a1,a2,_⟩:=mB h (place:=place) (L:=[zS]) (by rw [List.length_singleton];omega) (fun t ht=>by rw [aBJ.1 ht];exact XA) (by rw [List.length_singleton];omega);by_cases e2:(gI d place [zS]).1=0∧hd=true
 ·rw [aBF e2];obtain ⟨b1,b2,_⟩:=mB a2 (place:=place) (L:=[jT place a n hd]) (by rw [List.length_singleton];omega) (fun t ht=>by rw [aBJ.1 ht];exact tG place hd ha hn) (by rw [List.length_singleton];omega);exact⟨b1,b2⟩
 rw [aBE e2];exact⟨a1,a2⟩
theorem HA {d:DSt} {N place a n:Nat} {hd:Bool} (h:Calm d N) (hp:place < N) (ha:a < 10) (hn:n < 10000000):bP (oY d place a n hd).2 place=jT place a n hd∧∀ q,q≠place→bP (oY d place a n hd).2 q=bP d q:=by
 have hcn:=h.inv.n;rw [oY];by_cases e:bP d place=jT place a n hd
 ·rw [aBF e];exact⟨e,fun q hq=>rfl⟩
 rw [aBE e];obtain ⟨a1,a2,a3⟩:=mB h (place:=place) (L:=[zS]) (by rw [List.length_singleton];omega) (fun t ht=>by rw [aBJ.1 ht];exact XA) (by rw [List.length_singleton];omega);have a3:(gI d place [zS]).2.cells=d.cells.set place zS:=a3;have hne:∀ q,q≠place→bP (gI d place [zS]).2 q=bP d q:=fun q hq=>by rw [cL a2,cL h,a3,List.getElem?_set_ne (fun e=>hq e.symm)]
 by_cases e2:(gI d place [zS]).1=0∧hd=true
 ·rw [aBF e2];obtain ⟨b1,b2,b3⟩:=mB a2 (place:=place) (L:=[jT place a n hd]) (by rw [List.length_singleton];omega) (fun t ht=>by rw [aBJ.1 ht];exact tG place hd ha hn) (by rw [List.length_singleton];omega);have b3:(gI (gI d place [zS]).2 place [jT place a n hd]).2.cells=(gI d place [zS]).2.cells.set place (jT place a n hd):=b3;refine⟨?_,fun q hq=>?_⟩
  ·rw [cL b2,b3,List.getElem?_set_self (by have:=a2.inv.n;omega)];rfl
  rw [cL b2,b3,List.getElem?_set_ne (fun e=>hq e.symm),← cL a2];exact hne q hq
 rw [aBE e2];have hf:hd=false:=by
  cases hd with
  | false=>rfl
  | true=>exact absurd ⟨a1,rfl⟩ e2
 refine⟨?_,hne⟩;rw [cL a2,a3,List.getElem?_set_self (by omega),hf];rfl
theorem ND {cells c':List ByteArray} {k a n:Nat} {C:CT} (h:SInv cells k a n C) {l:bU} (hn:eY l) (hl:∀ x,dD l x=C x) (hw:cJ (bQ l)≤k) (hk:k < 5000) {a':Nat} (hs:∀ i,i < cJ (bQ l)→c'[2+a'*k+i]?=some (ofL (eR (2+a'*k+i) (fR (bQ l) i)))):uR c' k a' (cJ (bQ l)) C:=by
 have hwr:=h.wrong hn hl;obtain ⟨w,hW⟩:∃ w,w=bQ l:=⟨_,rfl⟩;rw [← hW] at hw hs ⊢;have hat:LogAt c' (2+a'*k) ((List.range (cJ w)).map (fR w)):=by
  refine⟨fun q hq=>?_,fun i q hq=>?_⟩
  ·obtain ⟨i,hi,rfl⟩:=List.mem_map.1 hq;exact AN (List.mem_range.1 hi)
  rw [aB0] at hq;have hi:i < cJ w:=by
   by_cases e:i < cJ w
   ·exact e
   rw [List.getElem?_eq_none (by rw [List.length_range];omega)] at hq;cases hq
  rw [List.getElem?_range hi] at hq;cases hq;exact hs i hi
 have hfl:((List.range (cJ w)).map (fR w)).flatten=w:=EY w;by_cases h0:l.length=0
 ·have hw0:w=[]:=by rw [hW,bQ,aBF h0]
  refine⟨_,[],?_,hat,by rw [hfl,hw0];rfl,fun t ht=>(by cases ht),?_⟩
  ·rw [aBG,List.length_range]
  funext x;rw [← hl,List.length_eq_zero_iff.1 h0];rfl
 have hwt:w=bD l []:=by rw [hW,bQ,aBE h0]
 have hin:=qO (l:=l) (P:=[]) (N:=1000000) (by rw [← hwt];have:=hw;rw [cJ] at this;omega);obtain ⟨r1,r2,r3⟩:=ES hn (P:=[]) List.Pairwise.nil (by omega) hwr (by omega);refine⟨_,[aR (cP l [])],?_,hat,by rw [hfl,hwt];rfl,fun t ht=>by rw [aBJ.1 ht];exact r1,?_⟩
 ·rw [aBG,List.length_range]
 funext x;show C x=V7 (fun _=>none) (aR (cP l [])) x;rw [V7,r3,oU,aBE aBW,r2,hl];cases C x<;>rfl
def LJ (r:Int×DSt) (N k a n:Nat) (C:CT):Prop:=(r.1=0∧OnD r.2 N∧SInv r.2.cells k a n C)∨(r.1=22∧qK r.2 N∧∃ a' n',WInv r.2.cells k a' n' C)
theorem SInv.reHead {cells c':List ByteArray} {k a0 n0 a n:Nat} {C0 C:CT} (h:SInv cells k a0 n0 C0) (hl:c'.length=cells.length) (ha:a < 2) (hn:n≤k) (h1:c'[1]?=some (hS 1 a n)) (h0:c'[0]?=some (hS 0 a n)) (hg:uR c' k a n C):SInv c' k a n C:=⟨h.k1,by rw [hl];exact h.kn,ha,hn,.inl ⟨h1,h0⟩,hg⟩
theorem Q5 {d:DSt} {N k a n:Nat} {C:CT} (h:OnD d N) (h0:SInv d.cells k a n C) (hk:k < 4000) {l:bU} (hn:eY l) (hl:∀ x,dD l x=C x) (hw:cJ (bQ l)≤k) :
  LJ (C7 d k a (bQ l)) N k (1 - a) (cJ (bQ l)) C:=by
 have hN:=h.inv.n;have hkn:=h0.kn;have ha:=h0.a2;have hnk:=h0.nk;have hwl:=fun(c':List ByteArray) hs=>ND (c':=c') h0 hn hl hw (by omega) (a':=1 - a) hs;obtain ⟨w,hW⟩:∃ w,w=bQ l:=⟨_,rfl⟩;rw [← hW] at hw hwl ⊢;obtain ⟨fr,hfr⟩:∃ fr,fr=2+(1 - a)*k+0:=⟨_,rfl⟩;have hfr2:(a=0∧fr=2+k)∨(a=1∧fr=2):=by
  rcases(show a=0∨a=1 by omega)with e|e
  ·exact .inl ⟨e,by subst e;omega⟩
  exact .inr ⟨e,by subst e;omega⟩
 have hak:(a=0∧a*k=0)∨(a=1∧a*k=k):=by
  rcases(show a=0∨a=1 by omega)with e|e
  ·exact .inl ⟨e,by subst e;omega⟩
  exact .inr ⟨e,by subst e;omega⟩
 rw [C7,gK,← hfr];rcases qM h (place:=fr) (L:=gR fr w (cJ w)) (by rw [cQ];omega) (wU _ _ _) (by rw [cQ];omega)with⟨q1,q2,q3⟩|⟨q1,q2,q3⟩
 ·obtain ⟨e,he⟩:∃ e,e=(gI d fr (gR fr w (cJ w))).2:=⟨_,rfl⟩;rw [aBF q1,← he];rw [← he] at q2 q3;have hlen:e.cells.length=d.cells.length:=by rw [q3,fJ]
  have hout:∀ i,(i < fr∨fr+cJ w≤i)→e.cells[i]?=d.cells[i]?:=fun i hi=>by rw [q3,dN,cQ,aBE (by omega)]
  have h1:SInv e.cells k a n C:=h0.same hlen (hout 0 (by omega)) (hout 1 (by omega)) fun i hi1 hi2=>hout i (by omega);have hlg:uR e.cells k (1 - a) (cJ w) C:=hwl _ fun i hi=>by
   rw [q3,dN,cQ,aBF (by omega),show 2+(1 - a)*k+i - fr=i by omega,qS hi,show fr+i=2+(1 - a)*k+i by omega]
  rcases Q2 q2 h1 hk (by omega) hw hlg with⟨p1,p2,p3⟩|⟨p1,p2,p3⟩
  ·rw [aBY,aBF p1];obtain ⟨f,hf⟩:∃ f,f=(lS e (1 - a) (cJ w)).2:=⟨_,rfl⟩;rw [← hf] at p2 p3 ⊢;have hfl:f.cells.length=d.cells.length:=by rw [p3,List.length_set,List.length_set,hlen]
   have hf1:f.cells[1]?=some (hS 1 (1 - a) (cJ w)):=by rw [p3,List.getElem?_set_ne (by omega),List.getElem?_set_self (by omega)]
   have hf0:f.cells[0]?=some (hS 0 (1 - a) (cJ w)):=by rw [p3,List.getElem?_set_self (by rw [List.length_set];omega)]
   have hfg:uR f.cells k (1 - a) (cJ w) C:=hlg.same fun i hi _=>by rw [p3,List.getElem?_set_ne (by omega),List.getElem?_set_ne (by omega)]
   have hfi:SInv f.cells k (1 - a) (cJ w) C:=h0.reHead hfl (by omega) hw hf1 hf0 hfg;rcases qM p2 (place:=2+a*k+0) (L:=zR (k - 0)) (by rw [List.length_replicate];omega) (yW _) (by rw [List.length_replicate];omega)with⟨u1,u2,u3⟩|⟨u1,u2,u3⟩
   ·refine .inl ⟨u1,u2,hfi.same (by rw [u3,fJ]) ?_ ?_ fun i hi1 hi2=>?_⟩
    ·rw [u3,dN,aBE (by omega)]
    ·rw [u3,dN,aBE (by omega)]
    rw [u3,dN,List.length_replicate,aBE (by rcases hfr2 with⟨e1,e2⟩|⟨e1,e2⟩<;>omega)]
   refine .inr ⟨u1,u2,_,_,(hfi.same u3.len (u3.out (.inl (by omega))) (u3.out (.inl (by omega))) fun i hi1 hi2=>u3.out ?_).w⟩;rw [List.length_replicate];rcases hfr2 with⟨e1,e2⟩|⟨e1,e2⟩<;>omega
  rw [aBY,aBE (by rw [p1];decide)];rcases p3 with p3|p3
  ·exact .inr ⟨p1,p2,_,_,p3⟩
  exact .inr ⟨p1,p2,_,_,p3⟩
 have hin:(if(gI d fr (gR fr w (cJ w))).1=0 then lS (gI d fr (gR fr w (cJ w))).2 (1 - a) (0+cJ w)else gI d fr (gR fr w (cJ w)))=gI d fr (gR fr w (cJ w)):=aBE (by rw [q1];decide);rw [hin,aBE (by rw [q1];decide)];have hout:∀ i,(i < fr∨fr+cJ w≤i)→(gI d fr (gR fr w (cJ w))).2.cells[i]?=d.cells[i]?:=fun i hi=>q3.out (by rw [cQ];exact hi);exact .inr ⟨q1,q2,_,_,(h0.same q3.len (hout 0 (by omega)) (hout 1 (by omega)) fun i hi1 hi2=>hout i (by omega)).w⟩
theorem Q6 {d:DSt} {N k n:Nat} {C:CT} (h:OnD d N) (h0:SInv d.cells k 1 n C) (hk:k < 4000) {l:bU} (hn:eY l) (hl:∀ x,dD l x=C x) (hw:cJ (bQ l)≤k) :
  LJ (WU d k (bQ l)) N k 0 (cJ (bQ l)) C:=by
 have hkn:=h0.kn;rw [WU];rcases Q5 h h0 hk hn hl hw with⟨q1,q2,q3⟩|⟨q1,q2,q3⟩
 ·rw [aBF q1];have hN:=q2.inv.n;have hkn2:=q3.kn;rcases qM q2 (place:=2+0*k+cJ (bQ l)) (L:=zR (k - cJ (bQ l))) (by rw [List.length_replicate];omega) (yW _) (by rw [List.length_replicate];omega)with⟨u1,u2,u3⟩|⟨u1,u2,u3⟩
  ·refine .inl ⟨u1,u2,q3.same (by rw [u3,fJ]) ?_ ?_ fun i hi1 hi2=>?_⟩
   ·rw [u3,dN,aBE (by omega)]
   ·rw [u3,dN,aBE (by omega)]
   rw [u3,dN,List.length_replicate,aBE (by omega)]
  exact .inr ⟨u1,u2,_,_,(q3.same u3.len (u3.out (.inl (by omega))) (u3.out (.inl (by omega))) fun i hi1 hi2=>u3.out (.inl (by omega))).w⟩
 rw [aBE (by rw [q1];decide)];exact .inr ⟨q1,q2,q3⟩
theorem XO {d:DSt} {N k a n:Nat} {C:CT} (h:OnD d N) (h0:SInv d.cells k a n C) (hk:k < 4000) {l:bU} (hn:eY l) (hl:∀ x,dD l x=C x) (hw:cJ (bQ l)≤k) :
  LJ (I4 d k a (bQ l)) N k 0 (cJ (bQ l)) C:=by
 have ha:=h0.a2;rw [I4];by_cases e:a=1
 ·subst e;rw [aBF rfl];exact Q6 h h0 hk hn hl hw
 obtain rfl:a=0:=by omega
 rw [aBE e];rcases Q5 h h0 hk hn hl hw with⟨q1,q2,q3⟩|⟨q1,q2,q3⟩
 ·rw [aBF q1];exact Q6 q2 q3 hk hn hl hw
 rw [aBE (by rw [q1];decide)];exact .inr ⟨q1,q2,q3⟩
theorem KZ {d:DSt} {N:Nat} (h:OnD d N∨qK d N):Calm (uH (iI d 0 0)) N∧(uH (iI d 0 0)).cells=d.cells:=by
 rcases h with h|h
 ·refine⟨⟨DT (oO h.inv 0 0),rfl,fun a w b e=>mL e⟩,?_⟩;have hq:=h.q;rw [iI,aBE (by rw [h.off];decide)];show mW d 0 0=d.cells;rw [mW,hq];rfl
 refine⟨⟨DT (oO h.inv 0 0),rfl,fun a w b e=>mL e⟩,?_⟩;rw [iI,aBF h.off];rfl
theorem YF {d:DSt} {N k a n:Nat} {C:CT} (hc:Calm d N) (h:WInv d.cells k a n C) (hN:4≤N) (hk:k=(N - 2) / 2) (hk4:k < 4000) :
  mT d k=false∧yS d k=a∧yR d k=n∧KM d k a n=C∧∀ d2,d2=(oY (oY d 1 (yS d k) (yR d k) (xC d k)).2 0 (yS d k) (yR d k) (xC d k)).2→Calm d2 N∧SInv d2.cells k a n C:=by
 have hNn:=h.kn;have hcn:=hc.inv.n;have ha:=h.a2;have hnk:=h.nk;have hn2:=hc.inv.ok.n2;obtain ⟨b1,b2,b3⟩:=IL hc (a:=a) (cn:=n) (by omega) (by omega) (by omega);have hge:∀ i,2≤i→(lS d a n).2.cells[i]?=d.cells[i]?:=fun i hi=>by rw [b3,List.getElem?_set_ne (by omega),List.getElem?_set_ne (by omega)]
 have hS2:SInv (lS d a n).2.cells k a n C:=by
  refine⟨h.k1,by rw [b3,List.length_set,List.length_set];exact h.kn,h.a2,h.nk,.inl ⟨?_,?_⟩,uR.same h.lg fun i hi _=>hge i (by omega)⟩
  ·rw [b3,List.getElem?_set_ne (by omega),List.getElem?_set_self (by omega)]
  rw [b3,List.getElem?_set_self (by rw [List.length_set];omega)]
 obtain ⟨_,_,_,o4,o5,_,_⟩:=EE b2 hS2 (by omega);obtain ⟨g4,g5⟩:=OM (d:=(lS d a n).2) (d':=d) (k:=k) (a:=a) (n:=n) (fun i _=>by rw [cL hc,cL b2,hge _ (by omega)]);rw [o4] at g4;rw [o5] at g5;have fin:∀ H:Bool,yS d k=a→yR d k=n→xC d k=H→(H=true∨(bP d 0=zS∧a=0∧n=0))→mT d k=false∧yS d k=a∧yR d k=n∧KM d k a n=C∧∀ d2,d2=(oY (oY d 1 (yS d k) (yR d k) (xC d k)).2 0 (yS d k) (yR d k) (xC d k)).2→Calm d2 N∧SInv d2.cells k a n C:=by
  intro H e1 e2 e3 e4;refine⟨?_,e1,e2,g5,fun d2 hd2=>?_⟩
  ·rw [mT,e1,e2,e3,g4];rcases e4 with e4|⟨e4,_⟩
   ·rw [e4];rfl
   rw [e4,decide_eq_true rfl];simp
  rw [e1,e2,e3] at hd2;obtain ⟨r1,r2⟩:=uY (hd:=H) hc (place:=1) (a:=a) (n:=n) (by omega) (by omega) (by omega);obtain ⟨r3,r4⟩:=uY (hd:=H) r2 (place:=0) (a:=a) (n:=n) (by omega) (by omega) (by omega);obtain ⟨t1,t2⟩:=HA (hd:=H) hc (place:=1) (a:=a) (n:=n) (by omega) (by omega) (by omega);obtain ⟨t3,t4⟩:=HA (hd:=H) r2 (place:=0) (a:=a) (n:=n) (by omega) (by omega) (by omega);rw [← hd2] at r4 t3 t4;have hcn2:=r4.inv.n;have cell:∀ i,i < N→d2.cells[i]?=some (bP d2 i):=fun i hi=>by
   rw [cL r4,aBL (by omega)];rfl
  have cell1:∀ i,i < N→d.cells[i]?=some (bP d i):=fun i hi=>by
   rw [cL hc,aBL (by omega)];rfl
  have u1:bP d2 1=jT 1 a n H:=by rw [t4 1 (by decide),t1]
  refine⟨r4,h.k1,by rw [hcn2,← hcn];exact h.kn,h.a2,h.nk,?_,uR.same h.lg fun i hi1 hi2=>?_⟩
  ·rw [cell 1 (by omega),cell 0 (by omega),u1,t3];rcases e4 with e4|⟨_,e5,e6⟩
   ·rw [e4];exact .inl ⟨rfl,rfl⟩
   cases H with
   | true=>exact .inl ⟨rfl,rfl⟩
   | false=>exact .inr ⟨rfl,rfl,e5,e6⟩
  have hak:a*k≤k:=by
   rcases(show a=0∨a=1 by omega)with e|e<;>subst e<;>omega
  rw [cell i (by omega),cell1 i (by omega),t4 i (by omega),t2 i (by omega)]
 obtain ⟨p1,p2,p3⟩:=A9 (place:=1) h.a2 h.nk (show k < 10000000 by omega);obtain ⟨z1,z2,z3⟩:=A9 (place:=0) h.a2 h.nk (show k < 10000000 by omega);rcases h.hd with g1|⟨t,g1,gb,g0|⟨g0,ea,en⟩⟩
 ·have t1:bP d 1=hS 1 a n:=by rw [cL hc,g1];rfl
  have hh:qD d k=true:=by rw [qD,t1,p3]
  exact fin true (by rw [yS,hh,aBF rfl,t1,p1]) (by rw [yR,hh,aBF rfl,t1,p2]) (by rw [xC,hh];rfl) (.inl rfl)
 ·have t1:bP d 1=t:=by rw [cL hc,g1];rfl
  have t0:bP d 0=hS 0 a n:=by rw [cL hc,g0];rfl
  have hh:qD d k=false:=by rw [qD,t1,gb]
  exact fin true (by rw [yS,hh,aBE (by decide),t0,z3,aBF rfl,z1]) (by rw [yR,hh,aBE (by decide),t0,z3,aBF rfl,z2]) (by rw [xC,hh,t0,z3];rfl) (.inl rfl)
 have t1:bP d 1=t:=by rw [cL hc,g1];rfl
 have t0:bP d 0=zS:=by rw [cL hc,g0];rfl
 have hh:qD d k=false:=by rw [qD,t1,gb]
 exact fin false (by rw [yS,hh,aBE (by decide),t0,lI,aBE (by decide),ea]) (by rw [yR,hh,aBE (by decide),t0,lI,aBE (by decide),en]) (by rw [xC,hh,t0,lI];rfl) (.inr ⟨t0,ea,en⟩)
end Go.Proofs.YtmkgeogoojcciaaGreatDoor
namespace Go.Abs
theorem aL.frameQ {P:Program} {f:FuncId} {args:List AV} {H0 H:aA} {R:AV→aA→Prop} (h:aL P f args H0 R) (hs:Sub H0 H) (hc:bM H0) (ha:∀ a∈args,Clo H0 a)
  (hk0:∀ r H1,R r H1→∀ id,(H1.get id).isSome=true→(H0.get id).isSome=true∨H.get id=none):aL P f args H (fun r H'=>∃ K,R r K∧H'=K++H):=by
 intro I ι w vs hr hl hv;refine(h I ι w vs (hr.restrict hs hc) hl (fun i v a h1 h2=>(hv i v a h1 h2).restrict hs (ha a (aBQ h2)))).mono ?_;rintro e w' ⟨r,H',I',ι',v,rfl,hR,k1,k2,k3⟩;have hk:=hk0 r H' hR;obtain ⟨ι2,hι2⟩:∃ ι2:cN,ι2=(fun j=>if(H'.get j).isSome=true then ι' j else ι j):=⟨_,rfl⟩;have i1:∀ j o,H'.get j=some o→ι2 j=ι' j:=fun j o hj=>by rw [hι2];simp [hj]
 have i2:∀ j,H'.get j=none→ι2 j=ι j:=fun j hj=>by rw [hι2];simp [hj]
 have g1:∀ j o,H'.get j=some o→aA.get (H'++H) j=some o:=fun j o hj=>by rw [fM,hj]
 have g2:∀ j,H'.get j=none→aA.get (H'++H) j=H.get j:=fun j hj=>by rw [fM,hj]
 have hfr:∀ j o,H.get j=some o→H'.get j=none→H0.get j=none:=fun j o hj hn=>by
  cases e:H0.get j with
  | none=>rfl
  | some o0 =>
   obtain ⟨o',e1,_⟩:=k3.objs j o0 e;rw [hn] at e1;cases e1
 have hno:∀ j o b c,H.get j=some o→H'.get j=none→ι j=some (b,c)→¬ wO ι H0 b:=fun j o b c hj hn hb ⟨j',o',c',hj',hb'⟩=>by
  have:=hr.inj j j' o o' b c c' hj (hs _ _ hj') hb hb';subst this;rw [hfr j o hj hn] at hj';cases hj'
 have hst:Step I ι H w I' ι2 (H'++H) w':=by
  refine⟨k3.os,k3.tape,k3.output,k3.size,fun a ha hn=>k3.froz a ha (fun h=>hn (h.sub hs)),k3.imm,fun b hb=>?_,?_,?_,?_⟩
  ·rcases k3.immNew b hb with h1|h1|h1
   ·exact .inl h1
   ·exact .inr (.inl (h1.sub hs))
   exact .inr (.inr h1)
  ·rintro b ⟨j,o,c,hj,hc⟩;cases e:H'.get j with
   | some o' =>
    rw [i1 j o' e] at hc;rcases k3.own b ⟨j,o',c,e,hc⟩with h1|h1
    ·exact .inl (h1.sub hs)
    exact .inr h1
   | none =>
    rw [i2 j e] at hc;rw [g2 j e] at hj;exact .inl ⟨j,o,c,hj,hc⟩
  ·intro b hb hn;exact k3.keep b hb (fun h=>hn (h.sub hs))
  intro j o hj;cases e:H'.get j with
  | some o' =>
   rcases hk j (by rw [e];rfl)with h1|h1
   ·obtain ⟨o0,e0⟩:=Option.isSome_iff_exists.1 h1;have:=hs _ _ e0;rw [hj] at this;cases this;obtain ⟨o2,q1,q2,q3⟩:=k3.objs j o e0;exact⟨o2,g1 j o2 q1,q2,fun e=>by rw [i1 j o2 q1];exact q3 e⟩
   rw [hj] at h1;cases h1
  | none=>exact⟨o,(g2 j e).trans hj,aBM _,fun _=>⟨i2 j e,rfl,fun _=>aBM _⟩⟩
 have hv':∀ {v:Value} {a:AV},VRel w' I' ι' H' v a→VRel w' I' ι2 (H'++H) v a:=fun hva =>
  hva.mono' (fun _ _=>rfl) (fun _ h=>h) (fun id o ho=>⟨o,g1 id o ho,aBM _,fun _=>⟨i1 id o ho,rfl,fun _=>aBM _⟩⟩)
 refine⟨r,H'++H,I',ι2,v,rfl,⟨H',hR,rfl⟩,hv' k1,⟨k2.imm,fun j o hj=>?_,fun j j' o o' b c c' hj hj' hc hc'=>?_,k2.glob⟩,hst⟩
 ·cases e:H'.get j with
  | some o' =>
   rw [g1 j o' e] at hj;obtain rfl:o'=o:=Option.some.inj hj;exact(k2.obj j o' e).keep (i1 j o' e) (fun _ _ _ _=>⟨rfl,fun h=>h⟩) (fun r _ a _ v hv=>hv' hv)
  | none =>
   rw [g2 j e] at hj;refine(hr.obj j o hj).keep (i2 j e) (fun b' cap' e1 hlt=>⟨k3.keep b' hlt (hno j o b' cap' hj e e1),fun e3 hi=>?_⟩) (fun r _ a _ v hv=>hv.mono hr hst);rcases k3.immNew b' hi with h1|h1|h1
   ·exact e3 h1
   ·exact hno j o b' cap' hj e e1 h1
   omega
 cases e:H'.get j with
 | some q =>
  rw [i1 j q e] at hc;cases e':H'.get j' with
  | some q' =>
   rw [i1 j' q' e'] at hc';exact k2.inj j j' q q' b c c' e e' hc hc'
  | none =>
   rw [i2 j' e'] at hc';rw [g2 j' e'] at hj';have hlt:=hr.lt ⟨j',o',c',hj',hc'⟩;rcases k3.own b ⟨j,q,c,e,hc⟩with h1|h1
   ·exact absurd h1 (hno j' o' b c' hj' e' hc')
   omega
 | none =>
  rw [i2 j e] at hc;rw [g2 j e] at hj;cases e':H'.get j' with
  | some q' =>
   rw [i1 j' q' e'] at hc';have hlt:=hr.lt ⟨j,o,c,hj,hc⟩;rcases k3.own b ⟨j',q',c',e',hc'⟩with h1|h1
   ·exact absurd h1 (hno j o b c hj e hc)
   omega
  | none =>
   rw [i2 j' e'] at hc';rw [g2 j' e'] at hj';exact hr.inj j j' o o' b c c' hj hj' hc hc'
end Go.Abs
namespace Go.Proofs.YtmkgeogoojcciaaGreatDoor
open Go.Proofs.Tryz
open Go.Abs Go.Lib
def B7 (n:Nat):Nat:=if 1000≤n∧n < 1200 then n+2000 else if 3000≤n∧n < 3200 then n - 2000 else n
theorem LQ (n:Nat):B7 (B7 n)=n:=by
 unfold B7
 repeat' split
 all_goals omega
def TO (ga:Nat):Arm→AV
 | .never=>.pv .nilp
 | .off _ _ _=>.pv .nilp
 | .on _ _ _=>.ref 3003 ga 0 0
abbrev D5 (s:DSt):List AV:=[.osl 3001 0 0 (64*s.cells.length),.osl 3002 s.gq 0 s.q.length,bv s.off,TO s.ga s.arm]
abbrev lV (s:DSt):aA:=[(3000,⟨0,4,80,[D5 s]⟩),(3001,⟨0,1,5,bG (flat s.cells)⟩),(3002,⟨s.gq,3,103,pU s.q⟩),(3003,⟨s.ga,3,100,jQ s.arm⟩)]
abbrev yP (k a n:Nat) (b:Bool):Ob:=⟨0,6,72,[[.ref 3000 0 0 0,iv (k:Int),iv (a:Int),iv (n:Int),.mp 3101 0,bv b]]⟩
abbrev JU (s:DSt) (o m:Ob):aA:=[(3000,⟨0,4,80,[D5 s]⟩),(3001,⟨0,1,5,bG (flat s.cells)⟩),(3002,⟨s.gq,3,103,pU s.q⟩),(3003,⟨s.ga,3,100,jQ s.arm⟩),(3100,o),(3101,m)]
theorem DA (ρ:Nat→Nat) {α:Type} (f:α→List PV) (l:List α):(l.map fun e=>(f e).map AV.pv).map (jE ρ)=l.map fun e=>(f e).map AV.pv:=by rw [List.map_map];refine List.map_congr_left fun e _=>?_;show jE ρ ((f e).map AV.pv)=_;rw [fI,List.map_map];rfl
theorem AH (ρ:Nat→Nat) (l:List UInt8):(bG l).map (jE ρ)=bG l:=by rw [bG,List.map_map];exact List.map_congr_left fun e _=>rfl
theorem oJ (s:DSt):kP B7 (aY s)=lV s:=by
 have e1:(jQ s.arm).map (jE B7)=jQ s.arm:=by cases s.arm<;>rfl
 have e2:iC B7 (TP s.ga s.arm)=TO s.ga s.arm:=by cases s.arm<;>rfl
 simp only [aY,lV,kP,jV,List.map_cons,List.map_nil,AH,DA,e1,lB,D5,jE,e2];rfl
theorem sA (s:DSt) (k a n:Nat) (b:Bool) (l:bU) (c:Nat):kP B7 (sH s (cI k a n b) (bK l c))=JU s (yP k a n b) (bK l c):=by
 have e1:(jQ s.arm).map (jE B7)=jQ s.arm:=by cases s.arm<;>rfl
 have e2:iC B7 (TP s.ga s.arm)=TO s.ga s.arm:=by cases s.arm<;>rfl
 have e3:=EU B7 l c;simp only [sH,JU,kP,List.map_cons,List.map_nil,e3];simp only [jV,List.map_cons,List.map_nil,AH,DA,e1,lB,D5,jE,e2];rfl
theorem mK (s:DSt) (H:aA) (h1:(H.get 3001).isSome=true) (h2:(H.get 3002).isSome=true) (h3:(H.get 3003).isSome=true):∀ r∈[D5 s],∀ a∈r,Clo H a:=by
 intro r hr a ha;rw [aBJ.1 hr] at ha;simp only [D5,aBS,aBW,or_false] at ha;rcases ha with rfl|rfl|rfl|rfl
 ·exact .osl h1
 ·exact .osl h2
 ·exact .pv _
 cases s.arm<;>first|exact .pv _|exact .ref h3
theorem ER {H:aA} {k a n:Nat} {b:Bool} (h1:(H.get 3000).isSome=true) (h2:(H.get 3101).isSome=true):∀ r∈(yP k a n b).rows,∀ x∈r,Clo H x:=by
 intro r hr x hx;rw [aBJ.1 hr] at hx;simp only [aBS,aBW,or_false] at hx;rcases hx with rfl|rfl|rfl|rfl|rfl|rfl
 ·exact .ref h1
 ·exact .pv _
 ·exact .pv _
 ·exact .pv _
 ·exact .mp h2
 exact .pv _
theorem tF (s:DSt):bM (lV s):=(bM.ofL ⟨(by exact mK _ _ rfl rfl rfl),(by exact aC _ _),(by exact aK _ _ _),(by exact aJ _ _),trivial⟩)
theorem JT (s:DSt) (k a n:Nat) (b:Bool) (l:bU) (c:Nat):bM (JU s (yP k a n b) (bK l c)):=(bM.ofL ⟨(by exact mK _ _ rfl rfl rfl),(by exact aC _ _),(by exact aK _ _ _),(by exact aJ _ _),(by exact ER rfl rfl),(by exact aQ _ _ _),trivial⟩)
theorem MZ {f:FuncId} {args args':List AV} {H0 H3 H:aA} {R:AV→aA→Prop} (h:aL Tryz.prog f args H0 R) (ha:jE B7 args=args') (hH:kP B7 H0=H3) (hs:Sub H3 H) (hc:bM H3) (hac:∀ a∈args',Clo H3 a)
  (hk:∀ r K,R r K→∀ id,(aA.get (kP B7 K) id).isSome=true→(H3.get id).isSome=true∨H.get id=none):aL Tryz.prog f args' H (fun r H'=>∃ r0 K,R r0 K∧r=iC B7 r0∧H'=kP B7 K++H):=by
 refine(aL.frameQ (aL.renQ LQ h ha hH) hs hc hac ?_).mono ?_
 ·rintro r K ⟨r0,K0,hR,rfl,rfl⟩ id hid;exact hk r0 K0 hR id hid
 rintro r H' ⟨K,⟨r0,K0,hR,rfl,rfl⟩,rfl⟩;exact⟨r0,K0,hR,rfl,rfl⟩
theorem ZI {d:DSt} {id:Nat} (h:(aA.get (lV d) id).isSome=true):id=3000∨id=3001∨id=3002∨id=3003:=by
 simp only [lV,aA.get] at h;cases e0:Nat.beq 3000 id
 ·cases e1:Nat.beq 3001 id
  ·cases e2:Nat.beq 3002 id
   ·cases e3:Nat.beq 3003 id
    ·rw [e0,e1,e2,e3] at h;cases h
    exact .inr (.inr (.inr (Nat.eq_of_beq_eq_true e3).symm))
   exact .inr (.inr (.inl (Nat.eq_of_beq_eq_true e2).symm))
  exact .inr (.inl (Nat.eq_of_beq_eq_true e1).symm)
 exact .inl (Nat.eq_of_beq_eq_true e0).symm
theorem X0 {d:DSt} {o m:Ob} {id:Nat} (h:(aA.get (JU d o m) id).isSome=true):id=3000∨id=3001∨id=3002∨id=3003∨id=3100∨id=3101:=by
 simp only [JU,aA.get] at h;cases e0:Nat.beq 3000 id
 ·cases e1:Nat.beq 3001 id
  ·cases e2:Nat.beq 3002 id
   ·cases e3:Nat.beq 3003 id
    ·cases e4:Nat.beq 3100 id
     ·cases e5:Nat.beq 3101 id
      ·rw [e0,e1,e2,e3,e4,e5] at h;cases h
      exact .inr (.inr (.inr (.inr (.inr (Nat.eq_of_beq_eq_true e5).symm))))
     exact .inr (.inr (.inr (.inr (.inl (Nat.eq_of_beq_eq_true e4).symm))))
    exact .inr (.inr (.inr (.inl (Nat.eq_of_beq_eq_true e3).symm)))
   exact .inr (.inr (.inl (Nat.eq_of_beq_eq_true e2).symm))
  exact .inr (.inl (Nat.eq_of_beq_eq_true e1).symm)
 exact .inl (Nat.eq_of_beq_eq_true e0).symm
theorem sZ {M d:Nat} (hd0:0 < d) (hM:M < 10 ^ d):∀ (L:List ByteArray),(∀ s∈L,s.size≤M)→(aR L).length≤L.length*(M+d+1)
 | [],_=>aBX _
 | s::r,h=>by
  have ih:=sZ hd0 hM r (fun x hx=>h x (List.mem_cons_of_mem _ hx));have hs:=h s List.mem_cons_self;have hd:=eA (k:=d) (u:=s.size) (by omega) hd0;rw [eB,aBH,aBI,aBH,dR,aBI,Nat.add_mul];omega
theorem DR {n:Nat} (h:n < 10):(dS (n:Int)).size≤1:=by have e:dS (n:Int)=ofL (decDigits n):=lE (by rw [bC,mJ]);rw [e,bY];exact eA (k:=1) (by omega) (by decide)
theorem oH {l:bU} {P:List ByteArray} (hl:∀ p∈l,p.1.size≤1∧p.2.1.size≤1) (hP:∀ s∈P,s.size≤1) (hn:2*l.length+2+P.length≤10):cJ (bD l P)≤1:=by
 have h1:(aR (cP l P)).length≤(cP l P).length*(1+1+1):=by
  refine sZ (by decide) (by decide) _ fun s hs=>?_;rw [lK] at hs;rcases aBS.1 hs with rfl|hs
  ·exact DR (by omega)
  rcases List.mem_append.1 hs with hs|hs
  ·obtain ⟨x,hx,hs⟩:=List.mem_flatMap.1 hs;simp only [aBS,aBW,or_false] at hs;rcases hs with rfl|rfl
   ·obtain ⟨p,hp,rfl⟩:=List.mem_map.1 (mF.1 hx);exact(hl p hp).1
   exact tV x fun p hp=>(hl p hp).2
  rcases aBS.1 hs with rfl|hs
  ·exact DR (by omega)
  exact hP s hs
 rw [C4] at h1;have hd:=eA (k:=2) (u:=(aR (cP l P)).length) (by omega) (by decide);have h2:(bD l P).length≤46:=by
  rw [bD,eB,aBH,aBI,aBH,bC,bY];have h0:(aR []).length=0:=rfl;omega
 rw [cJ];omega
theorem QN {l:bU} {P:List ByteArray} {x:ByteArray} (hx:x∈l.map Prod.fst):(cW l x).size≤(bD l P).length:=by
 have h1:cW l x∈cP l P:=by
  rw [lK];refine List.mem_cons_of_mem _ (List.mem_append_left _ (List.mem_flatMap.2 ⟨x,mF.2 hx,?_⟩));simp
 have h2:=pI h1;rw [bD,eB,aBH,aBI,aBH,bC];omega
theorem BT {k n:Nat} {l2:bU} {P:List ByteArray} (h1:bO l2 P=0) (h2:n+cJ (bD l2 (gE P))≤k):CW k n l2 P=0:=by
 rw [CW];rcases mM k n l2 P with⟨e1,_⟩|⟨e1,_⟩|⟨e1,_,_,e2⟩|⟨e1,e2⟩
 ·rw [e1];rfl
 ·rw [e1];rfl
 ·omega
 exact absurd h1 e2
theorem S4 {k n:Nat} {l2:bU} {P:List ByteArray} (h1:bO l2 P=0) (h0:0 < l2.length) (h2:k < n+cJ (bD l2 (gE P))):CW k n l2 P=21:=by
 rw [CW];rcases mM k n l2 P with⟨e1,_,e2⟩|⟨e1,_,_,e2⟩|⟨e1,_⟩|⟨e1,e2⟩
 ·omega
 ·omega
 ·rw [e1];rfl
 exact absurd h1 e2
theorem O5 {k n:Nat} {l2:bU} {P:List ByteArray} (h1:¬ bO l2 P=0):CW k n l2 P=bO l2 P:=by
 rw [CW];rcases mM k n l2 P with⟨_,e2,_⟩|⟨_,e2,_⟩|⟨_,e2,_⟩|⟨e1,e2⟩
 ·exact absurd e2 h1
 ·exact absurd e2 h1
 ·exact absurd e2 h1
 have:=fF l2 P;rw [e1,aBE (by omega)]
theorem nQ:gE []=[]:=List.length_eq_zero_iff.1 (by have:=wB [];rw [List.length_nil] at this;omega)
theorem zQ {a b:bU} (ha:eY a) (hb:eY b) (h:∀ k,dD a k=dD b k):bQ a=bQ b:=by rw [bQ,bQ,FL ha hb h,C5 ha hb h]
theorem RL {d:DSt} {N k:Nat} (hc:Calm d N) (hN:4≤N) (hN1:N≤8000) (hk:k=(N - 2) / 2) :
  aL Tryz.prog 12 [.ref 1000 0 0 0] (aY d) (fun r H'=>(mT d k=true∧r=.tup [.pv .nilp,iv 23]∧H'=aY d) ∨
   (mT d k=false∧r=.tup [.ref 1100 0 0 0,iv 0]∧∃ l c,dW l c∧eY l∧l.length≤184000∧(∀ x,dD l x=KM d k (yS d k) (yR d k) x)∧H'=sH (oY (oY d 1 (yS d k) (yR d k) (xC d k)).2 0 (yS d k) (yR d k) (xC d k)).2 (cI k (yS d k) (yR d k) false) (bK l c))):=by
 have hn2:=hc.inv.ok.n2;have hcn:=hc.inv.n;have hb:=DL d k;refine(L5 hc.on hN k (yS d k) (yR d k) (xC d k) hk rfl rfl rfl).mono ?_;obtain ⟨r1,r2⟩:=uY (hd:=xC d k) hc (place:=1) (a:=yS d k) (n:=yR d k) (by omega) (by omega) (by omega);obtain ⟨r3,r4⟩:=uY (hd:=xC d k) r2 (place:=0) (a:=yS d k) (n:=yR d k) (by omega) (by omega) (by omega);rintro r H' (⟨h,rfl,rfl⟩|⟨_,h,_⟩|⟨_,_,h,_⟩|⟨h1,_,_,rfl,l,c,q1,q2,q3,q4,rfl⟩)
 ·exact .inl ⟨h,rfl,rfl⟩
 ·exact absurd r1 h
 ·exact absurd r3 h
 exact .inr ⟨h1,rfl,l,c,q1,q2,by omega,q4,rfl⟩
theorem K5 {d:DSt} {N k a n:Nat} {l:bU} {c:Nat} {C:CT} (h:OnD d N) (hI:SInv d.cells k a n C) (hk:k < 4000) (hst:dW l c) (hnd:eY l) (hkv:∀ x,dD l x=C x) (l2:bU) (c2:Nat) (P:List ByteArray) (hst2:dW l2 c2) (hnd2:eY l2) (hl2:l2.length≤1000) (hP:P.length≤1000) :
  aL Tryz.prog 14 [.ref 1100 0 0 0,.mp 950 0,.pv (aW P)] ((950,bK l2 c2)::sH d (cI k a n false) (bK l c)) (fun r H'=>∃ e d' o m,r=iv e∧(OnD d' N∨qK d' N)∧(∃ a' n' C',WInv d'.cells k a' n' C'∧((e=0∧C'=oU C l2 (gE P))∨(e=22∧(C'=C∨C'=oU C l2 (gE P)))∨(¬ e=0∧¬ e=22∧C'=C)))∧H'=(950,bK l2 c2)::sH d' o m):=by
 have hcm:=EB h.inv k a n false l c l2 c2 P hk hI.a2 hI.nk (by omega) hst hnd hst2 hnd2 (by omega) (by omega) (fun hw=>qL hw hl2 hP);refine hcm.mono ?_;have hcs:=mM k n l2 P;have hrg:=fF l2 P;rintro r H' (⟨h1,rfl,rfl⟩|⟨h1,h2,rfl,rfl⟩|⟨h1,h2,rfl,l',c',q1,q2,q3,q4,rfl⟩)
 ·refine⟨_,d,_,_,rfl,.inl h,⟨a,n,C,hI.w,?_⟩,rfl⟩;rcases hcs with⟨e1,e2,e3⟩|⟨e1,_⟩|⟨e1,_⟩|⟨e1,e2⟩
  ·exact .inl ⟨e1,(BQ e3).symm⟩
  ·exact absurd e1 h1
  ·exact .inr (.inr ⟨by rw [e1];decide,by rw [e1];decide,rfl⟩)
  exact .inr (.inr ⟨by rw [e1];exact e2,by rw [e1];omega,rfl⟩)
 ·rcases hcs with⟨e1,_⟩|⟨e1,e2,e3,e4⟩|⟨e1,_⟩|⟨e1,e2⟩
  ·rw [h1] at e1;cases e1
  ·rcases TX h hI hk hnd2 (rR P) e3 (by
    obtain ⟨k1,k2⟩:=kQ e2;exact pH (fun p hp=>⟨(k1 p hp).1,fun hm=>(k1 p hp).2.1 (kI.1 hm),(k1 p hp).2.2⟩) (fun s hs=>k2 s (kI.1 hs))) e4 with⟨w1,_⟩|⟨w1,w2,n',w3|w3⟩
   ·exact absurd w1 h2
   ·exact⟨_,_,_,_,rfl,.inr w2,⟨a,n',_,w3,.inr (.inl ⟨w1,.inl rfl⟩)⟩,rfl⟩
   exact⟨_,_,_,_,rfl,.inr w2,⟨a,n',_,w3,.inr (.inl ⟨w1,.inr rfl⟩)⟩,rfl⟩
  ·rw [h1] at e1;cases e1
  rw [h1] at e1;omega
 rcases hcs with⟨e1,_⟩|⟨e1,e2,e3,e4⟩|⟨e1,_⟩|⟨e1,e2⟩
 ·rw [h1] at e1;cases e1
 ·rcases TX h hI hk hnd2 (rR P) e3 (by
   obtain ⟨k1,k2⟩:=kQ e2;exact pH (fun p hp=>⟨(k1 p hp).1,fun hm=>(k1 p hp).2.1 (kI.1 hm),(k1 p hp).2.2⟩) (fun s hs=>k2 s (kI.1 hs))) e4 with⟨w1,w2,w3⟩|⟨w1,_⟩
  ·exact⟨_,_,_,_,rfl,.inl w2,⟨_,_,_,w3.w,.inl ⟨rfl,rfl⟩⟩,rfl⟩
  rw [h2] at w1;cases w1
 ·rw [h1] at e1;cases e1
 rw [h1] at e1;omega
theorem NV {d:DSt} {N k a n:Nat} {l:bU} {c:Nat} {C:CT} (h:OnD d N) (hI:SInv d.cells k a n C) (hk:k < 4000) (hst:dW l c) (hnd:eY l) (hkv:∀ x,dD l x=C x) :
  aL Tryz.prog 21 [.ref 1100 0 0 0] (sH d (cI k a n false) (bK l c)) (fun r H'=>∃ e d' o m,r=iv e∧(OnD d' N∨qK d' N)∧(∃ a' n',WInv d'.cells k a' n' C)∧H'=sH d' o m):=by
 have hkn:=hI.kn;have hcn:=h.inv.n;have hlen:=hI.len hnd hkv;have hnk:=hI.nk;refine(G9 h.inv k a n l c hk (by omega) hI.a2 hI.nk (by omega) hst (by omega) (zZ hI hk hnd hkv)).mono ?_;rintro r H' (⟨h1,rfl,rfl⟩|⟨h1,rfl,a',n',q1,q2,q3,rfl⟩)
 ·exact⟨_,d,_,_,rfl,.inl h,⟨a,n,hI.w⟩,rfl⟩
 rcases XO h hI hk hnd hkv h1 with⟨w1,w2,w3⟩|⟨w1,w2,w3⟩
 ·exact⟨_,_,_,_,rfl,.inl w2,⟨_,_,w3.w⟩,rfl⟩
 exact⟨_,_,_,_,rfl,.inr w2,w3,rfl⟩
theorem XR {d:DSt} {N k a n:Nat} {C:CT} (hc:Calm d N) (h:WInv d.cells k a n C) (hN:4≤N) (hN1:N≤8000) (hk:k=(N - 2) / 2) :
  aL Tryz.prog 12 [.ref 1000 0 0 0] (aY d) (fun r H'=>r=.tup [.ref 1100 0 0 0,iv 0]∧∃ d2 l c,Calm d2 N∧SInv d2.cells k a n C∧dW l c∧eY l∧l.length≤184000∧(∀ x,dD l x=C x)∧H'=sH d2 (cI k a n false) (bK l c)):=by
 obtain ⟨g1,g2,g3,g4,g5⟩:=YF hc h hN hk (by omega);refine(RL hc hN hN1 hk).mono ?_;rintro r H' (⟨e,_⟩|⟨_,rfl,l,c,q1,q2,q3,q4,rfl⟩)
 ·rw [g1] at e;cases e
 obtain ⟨w1,w2⟩:=g5 _ rfl;refine⟨rfl,_,l,c,w1,w2,q1,q2,q3,fun x=>?_,?_⟩
 ·rw [q4,g2,g3,g4]
 rw [g2,g3]
theorem YJ {d:DSt} {N:Nat} (h:Calm d N) (a w b:Int) (ha:a≤9223372036854775807):OnD (BO d a w b) N∧(BO d a w b).cells=d.cells:=by
 have hi:=VU h.inv a w b ha;refine⟨⟨hi,?_⟩,?_⟩
 ·rw [BO,aBE (by rw [h.off];decide)]
  split<;>exact h.off
 rw [BO,aBE (by rw [h.off];decide)]
 split<;>rfl
def YX (C:CT) (L:List ByteArray):Prop:=∀ l,eY l→(∀ x,dD l x=C x)→bT l=L
def WY (e:Int) (C:CT) (W X:List ByteArray):Prop:=(e=0∧YX C X)∨(e=22∧(YX C W∨YX C X))∨(¬ e=0∧¬ e=22∧YX C W)
theorem RH (hhd:∀ H,aL Tryz.prog 10 [] H (fun r H'=>r=bv true∧H'=H)) (raw:Int) (l:List GOp) (hr:0≤raw∧raw≤255) (hl:l.length < 1000000000) (hs:∀ x∈l,ZC x) (ha:∀ x∈l,x.a≤9223372036854775807) :
  aL Tryz.prog 7 [.pv (.int .u8 raw),.pv (mR l)] [] (fun r H'=>r=bv true∧H'=[]):=by
 have hml:(l.map tD).length=l.length:=aBG _;have hfw:=fun H=>ZK l H (by omega) (fun x hx=>by have:=hs x hx;exact⟨by have:=this.1;omega,by have:=this.2.1;omega,this.2.2⟩);obtain ⟨N,hN⟩:∃ N,N=4+(raw % 100).toNat:=⟨_,rfl⟩;have hN4:4≤N:=by omega
 have hN1:N≤103:=by omega
 have hrem:raw.tmod 100=((N - 4:Nat):Int):=by
  rw [Int.tmod_eq_emod_of_nonneg hr.1];omega
 refine Bd func7 rfl ntmps7<|Sr<|Dd aS<|Zz<|Sr<|Dd (by exact aB rfl rfl call10 rfl (hhd _))<|Dd aS<|Zz<|Sq<|Sr<|Dd aF<|Dd (by exact aB rfl rfl call11 rfl (hfw _))<|Dd yE<|Zz ?_;refine Cn ?_ ?_<;>intro hc1
 ·exact Sr<|Dd aF<|Dd aS<|Zz<|aM<|Rt<|Qq
 have hq:yI l=true:=by have h:=hc1;simpa using h
 obtain ⟨hl12,hfx⟩:=OU hq;obtain ⟨k,hk⟩:∃ k,k=(N - 2) / 2:=⟨_,rfl⟩;have hop:=sE (rS (n:=N) (by omega) (by omega)) (qR hN4) hN4 rfl;rw [← hk] at hop;refine aG<|Sr<|Dd aF<|Dd (by exact fL rfl bX cC rfl (jS (by omega) (by omega)))<|Dd (by exact zD rfl rfl rfl (by decide) hrem)<|Dd (by exact cV rfl rfl rfl (show IntKind.i64.wrap (4+((N - 4:Nat):Int))=(N:Int)by rw [jS (by omega) (by omega)];omega))<|Dd (by exact aB rfl rfl aAr rfl (RV N (by omega) (by omega)))<|Dd aS<|Zz<|Sr<|Dm ?_;refine jA rfl rfl (aB rfl rfl GH rfl hop) ?_;rintro _ _ ⟨rfl,lm,cm,q1,q2,q3,q4,rfl⟩;have hC0:=rS (n:=N) (by omega) (by omega);have hI0:SInv (nE N).cells k 0 0 (fun _=>none):=by rw [hk];exact qR hN4
 have hkv0:bT lm=[]:=List.length_eq_zero_iff.1 (by rw [gD];omega);refine Dd aF<|Dd eP<|Dd eP<|Dd aS<|Dd aS<|Zz<|Sq<|Sr<|Dd aF<|Dd uT<|Zz ?_;refine Cn ?_ ?_<;>intro hc2
 ·cases hc2
 obtain ⟨d0,hd0⟩:∃ d,d=nE N:=⟨_,rfl⟩;rw [← hd0] at hC0 hI0 ⊢;clear hd0;refine aG<|Sr<|Dd aS<|Zz<|Sq<|Sr<|Dd aS<|Zz<|aN ?_;refine PJ (fun(j:Nat) (d:DSt) (a n:Nat) (lm:bU) (cm:Nat)=>([(1,.pv (mR l)),(5,bv true),(6,.ref 1000 0 0 0),(7,.ref 1100 0 0 0),(9,.pv (aW (bT lm))),(10,iv (j:Int))],sH d (cI k a n false) (bK lm cm))) (fun j d a n lm cm=>j≤l.length∧Calm d N∧dW lm cm∧eY lm∧lm.length≤184000∧∃ C,SInv d.cells k a n C∧∀ x,dD lm x=C x) (fun j d a n lm cm=>l.length - j) 0 d0 0 0 lm cm ⟨aBX _,hC0,q1,q2,by omega,_,hI0,q4⟩ ?_ ?_
 ·rw [hkv0];exact(cA.wk (Eb<|Eb<|Ea<|Ea<|Eb<|Eb<|trivial) (Hc (aE _ _ rfl rfl rfl)<|Hc (aC _ _)<|Hc (aK _ _ _)<|Hc (aJ _ _)<|Hc (by(simp;exact⟨rfl,rfl⟩))<|Hc (aQ _ _ _)<|trivial) trivial)
 clear hC0 hI0 hkv0 q1 q2 q3 q4 lm cm;rintro j d a n lm cm ⟨hj,hC,hst,hnd,hlml,C,hI,hkv⟩;refine Sq<|Sr<|Dd aF<|Dd aF<|Dd (mH oA)<|Dd dZ<|Zz ?_;refine Cn ?_ ?_<;>intro hc3
 ·have hlt:j < l.length:=by have:=aBC hc3;omega
  obtain ⟨x,hx⟩:=aZ hlt;have hxm:=aBQ hx;have hix:=dI (f:=tD) hx;obtain ⟨f1,f2,f3,f4⟩:=hfx x hxm;have hmk:=iF x.put;have hmkl:(eN x.put).1.length≤6:=Nat.le_trans (sB x.put ([],0)) (by show 0+x.put.length≤6;omega);obtain ⟨hA,hAc⟩:=YJ hC x.a x.b x.c (ha x hxm);have harm:=ZY d x.a x.b x.c;obtain ⟨dA,hdA⟩:∃ dA,dA=BO d x.a x.b x.c:=⟨_,rfl⟩;rw [← hdA] at hA hAc harm;clear hdA;have hIA:SInv dA.cells k a n C:=by rw [hAc];exact hI
  have hcm:=K5 hA hIA (by omega) hst hnd hkv (eN x.put).1 (eN x.put).2 x.drop hmk.1 hmk.2 (by omega) (by omega);have hsc:=NV hA hIA (by omega) hst hnd hkv;have hisC:YX C (bT lm):=fun l' h1 h2=>A2 h1 hnd fun y=>by rw [h2,hkv]
  have hml2:(tY (bT lm) x.put x.drop).length < 1000000000:=by
   have a1:=BL x.drop (eZ (nC (bT lm) ((bT lm).length / 2)) x.put).1;have a2:=sB x.put (nC (bT lm) ((bT lm).length / 2));have a3:=vM (bT lm) ((bT lm).length / 2);show (bT (jH (eZ (nC (bT lm) ((bT lm).length / 2)) x.put).1 x.drop)).length < _;rw [gD];have:=gD lm;omega
  have hmd:=fun H=>VE (bT lm) x H (by rw [gD];omega) (by omega) (by omega);refine aG<|Sq<|aN<|Sr<|Dd aF<|Dd aF<|Dd (GJ G6)<|Dd (by exact CF rfl isAgg37 I8 rfl hix (by simp only [Zl,encStr,pX,tD];rfl) rfl)<|Dd (by exact cR (id:=11) rfl aAH rfl rfl)<|Uu (sS I8)<|Zz<|Sr<|Dd aF<|Dd (dV X5)<|Dd (eG aU)<|Dd (dV X4)<|Dd (eG aU)<|Dd (dV X3)<|Dd (eG aU) ?_;refine kL (E':=[(1,.pv (mR l)),(5,bv true),(6,.ref 1000 0 0 0),(7,.ref 1100 0 0 0),(9,.pv (aW (bT lm))),(10,iv (j:Int)),(11,.ref 11 0 0 0),(46,.ref 1000 0 0 0),(48,iv x.a),(50,iv x.b),(52,iv x.c)]) (H':=(11,YV x)::sH d (cI k a n false) (bK lm cm)) (cA.wk (Eb<|Eb<|Ea<|Ea<|Eb<|Eb<|Ea<|Ea<|Eb<|Eb<|Eb<|trivial) (Hb<|Hc (aE _ _ rfl rfl rfl)<|Hc (aC _ _)<|Hc (aK _ _ _)<|Hc (aJ _ _)<|Hc (by(simp;exact⟨rfl,rfl⟩))<|Hc (aQ _ _ _)<|trivial) trivial) ?_;refine jA rfl rfl (aB rfl rfl call28 rfl (cK harm ((11,YV x)::sH d (cI k a n false) (bK lm cm)) ⟨rfl,rfl,rfl,rfl,trivial⟩ (by simp;rfl))) ?_;rintro _ _ ⟨rfl,rfl⟩;refine kL (E':=[(1,.pv (mR l)),(5,bv true),(6,.ref 1000 0 0 0),(7,.ref 1100 0 0 0),(9,.pv (aW (bT lm))),(10,iv (j:Int)),(11,.ref 11 0 0 0)]) (H':=(11,YV x)::sH dA (cI k a n false) (bK lm cm)) (cA.wk (Eb<|Eb<|Ea<|Ea<|Eb<|Eb<|Ea<|trivial) (Hb<|Hc (aE _ _ rfl rfl rfl)<|Hc (aC _ _)<|Hc (aK _ _ _)<|Hc (aJ _ _)<|Hc (by(simp;exact⟨rfl,rfl⟩))<|Hc (aQ _ _ _)<|trivial) trivial) ?_;refine Zz<|Sr<|Dd aF<|Dd aS<|Zz<|Sr<|Da ?_;refine lF (fun(q:DSt×Int×List ByteArray)=>([(1,.pv (mR l)),(5,bv true),(6,.ref 1000 0 0 0),(9,.pv (aW (bT lm))),(10,iv (j:Int)),(12,.pv (aW q.2.2)),(13,iv q.2.1)],aY q.1)) (fun q=>q.2.2.length < 1000000000∧(OnD q.1 N∨qK q.1 N)∧∃ a' n' C',WInv q.1.cells k a' n' C'∧WY q.2.1 C' (bT lm) q.2.2) ?_ ?_
  ·refine Sr<|Dd (dV X6)<|Dd (eG aU)<|Dd iY<|Zz ?_;refine Cn ?_ ?_<;>intro hc4
   ·refine Rg<|Dm ?_;refine kL (E':=[(1,.pv (mR l)),(5,bv true),(6,.ref 1000 0 0 0),(9,.pv (aW (bT lm))),(10,iv (j:Int)),(12,.pv (aW (bT lm))),(58,.ref 1100 0 0 0)]) (H':=sH dA (cI k a n false) (bK lm cm)) (cA.wk (Eb<|Eb<|Ea<|Eb<|Eb<|Eb<|Ea<|trivial) (Hc (aE _ _ rfl rfl rfl)<|Hc (aC _ _)<|Hc (aK _ _ _)<|Hc (aJ _ _)<|Hc (by(simp;exact⟨rfl,rfl⟩))<|Hc (aQ _ _ _)<|trivial) trivial) ?_;refine jA rfl rfl (aB rfl rfl aAp rfl hsc) ?_;rintro _ _ ⟨e,d',o,m,rfl,hd',⟨a',n',hW⟩,rfl⟩;refine Da ?_;refine⟨(d',e,bT lm),⟨by rw [gD];omega,hd',a',n',C,hW,?_⟩,(cA.wk (Eb<|Eb<|Ea<|Eb<|Eb<|Eb<|Eb<|trivial) (Hc (aE _ _ rfl rfl rfl)<|Hc (aC _ _)<|Hc (aK _ _ _)<|Hc (aJ _ _)<|trivial) trivial)⟩;by_cases e0:e=0
    ·exact .inl ⟨e0,hisC⟩
    by_cases e2:e=22
    ·exact .inr (.inl ⟨e2,.inl hisC⟩)
    exact .inr (.inr ⟨e0,e2,hisC⟩)
   refine Sr<|Dd aF<|Dd (by exact dC rfl isAgg37 I8 rfl rfl rfl rfl (by simp only [Zl,encStr,pX,tD];rfl) rfl)<|Dd (by exact aB rfl rfl call16 rfl (hmd _))<|Da ?_;refine LA 6 follows (aBT rfl) ?_;refine Cr [1100] (fun _ _=>aF)<|Cr [11] (fun _ h=>fh rJ h)<|Cr [11] (fun _ h=>lh lQ h)<|Cp [950] (fun H1 hH=>by exact aB rfl rfl call15 rfl (RZ x.put _ ((hH 950 rfl).trans rfl) (by omega)))<|Cr [11] (fun _ h=>fh xH h)<|Cr [11] (fun _ h=>lh cM h)<|dG<|Kr ?_;refine kL (E':=[(1,.pv (mR l)),(5,bv true),(6,.ref 1000 0 0 0),(9,.pv (aW (bT lm))),(10,iv (j:Int)),(12,.pv (aW (tY (bT lm) x.put x.drop))),(63,.ref 1100 0 0 0),(66,.mp 950 0),(68,.pv (aW x.drop))]) (H':=(950,bK (eN x.put).1 (eN x.put).2)::sH dA (cI k a n false) (bK lm cm)) (cA.wk (Eb<|Eb<|Ea<|Eb<|Eb<|Eb<|Ea<|Ea<|Eb<|trivial) (Hc (aQ _ _ _)<|Hc (aE _ _ rfl rfl rfl)<|Hc (aC _ _)<|Hc (aK _ _ _)<|Hc (aJ _ _)<|Hc (by(simp;exact⟨rfl,rfl⟩))<|Hc (aQ _ _ _)<|trivial) trivial) ?_;refine jA rfl rfl (aB rfl rfl wN rfl hcm) ?_;rintro _ _ ⟨e,d',o,m,rfl,hd',⟨a',n',C',hW,hcase⟩,rfl⟩;have hisM:YX (oU C (eN x.put).1 (gE x.drop)) (tY (bT lm) x.put x.drop):=fun l' h1 h2=>(RX hnd h1 hkv h2 (fun y=>kI)).symm;refine Da ?_;refine⟨(d',e,tY (bT lm) x.put x.drop),⟨hml2,hd',a',n',C',hW,?_⟩,(cA.wk (Eb<|Eb<|Ea<|Eb<|Eb<|Eb<|Eb<|trivial) (Hc (aE _ _ rfl rfl rfl)<|Hc (aC _ _)<|Hc (aK _ _ _)<|Hc (aJ _ _)<|trivial) trivial)⟩;rcases hcase with⟨e0,rfl⟩|⟨e0,rfl|rfl⟩|⟨e0,e2,rfl⟩
   ·exact .inl ⟨e0,hisM⟩
   ·exact .inr (.inl ⟨e0,.inl hisC⟩)
   ·exact .inr (.inl ⟨e0,.inr hisM⟩)
   exact .inr (.inr ⟨e0,e2,hisC⟩)
  clear hcm hsc hmd harm;rintro⟨d2,e,X⟩ ⟨hXl,hd2,a',n',C',hW,hP⟩;have hXl:X.length < 1000000000:=hXl;have hP:WY e C' (bT lm) X:=hP;obtain ⟨hC1,hC1c⟩:=KZ hd2;have hfl:=SO d2 0 0 (hd2.elim (fun h=>h.inv.ok) (fun h=>h.inv.ok));have hstt:=UV (iI d2 0 0);obtain ⟨d1,hd1⟩:∃ d,d=uH (iI d2 0 0):=⟨_,rfl⟩;rw [← hd1] at hC1 hC1c hstt;have hW1:WInv d1.cells k a' n' C':=by rw [hC1c];exact hW
  clear hd1;refine Sr<|Dd aF<|Dd (by exact aB rfl rfl call29 rfl (hfl))<|Zz<|Sr<|Dd aF<|Dd (by exact aB rfl rfl call30 rfl (hstt))<|Zz<|Sr<|Dm ?_;refine jA rfl rfl (aB rfl rfl GH rfl (XR hC1 hW1 hN4 (by omega) hk)) ?_;rintro _ _ ⟨rfl,d3,l3,c3,hC3,hI3,q1,q2,q3,q4,rfl⟩;have hct:=K4 d3 k a' n' false l3 c3 q1 q2 (by omega);have hsB:=fun H=>AE (bT l3) (bT lm) H (by rw [gD];omega) (by rw [gD];omega);have hsA:=fun H=>AE (bT l3) X H (by rw [gD];omega) hXl;obtain ⟨bB,hbB⟩:∃ b,b=decide (bT l3=bT lm):=⟨_,rfl⟩;obtain ⟨bA,hbA⟩:∃ b,b=decide (bT l3=X):=⟨_,rfl⟩;have hcond:(e=0∧bA=true)∨(e=22∧(bB=true∨bA=true))∨(¬ e=0∧¬ e=22∧bB=true):=by
   rw [hbA,hbB];rcases hP with⟨e0,h⟩|⟨e0,h|h⟩|⟨e0,e2,h⟩
   ·exact .inl ⟨e0,decide_eq_true (h l3 q2 q4)⟩
   ·exact .inr (.inl ⟨e0,.inl (decide_eq_true (h l3 q2 q4))⟩)
   ·exact .inr (.inl ⟨e0,.inr (decide_eq_true (h l3 q2 q4))⟩)
   exact .inr (.inr ⟨e0,e2,decide_eq_true (h l3 q2 q4)⟩)
  rw [← hbB] at hsB;rw [← hbA] at hsA;clear hbA hbB hP;refine Dd aF<|Dd eP<|Dd eP<|Dd aS<|Dd aS<|Zz<|Sq<|Sr<|Dd aF<|Dd uT<|Zz ?_;refine Cn ?_ ?_<;>intro hc5
  ·cases hc5
  refine aG<|Sr<|Dd aF<|Dd (by exact aB rfl rfl call18 rfl (hct))<|Dd aS<|Zz<|Sr<|Dd aF<|Dd aF<|Dd (by exact aB rfl rfl aAq rfl (hsB _))<|Dd aF<|Dd aF<|Dd (by exact aB rfl rfl aAq rfl (hsA _))<|Dd aS<|Dd aS<|Zz<|Sq<|Sq ?_;refine dL (t:=118) (n:=37) (X:=false) ?_ ?_
  ·all_goals refine Dd aF ?_
   all_goals refine Dd iY<|Dm ?_
   all_goals refine Sp 91 (fun h91=>?_) fun h91=>?_
   all_goals try contradiction
   all_goals first|refine Fo<|Fo ?_|refine On aF<|On yE ?_
   all_goals refine Dd iM<|Dm ?_
   all_goals refine Sp 95 (fun h95=>?_) fun h95=>?_
   all_goals try contradiction
   all_goals first|refine Fo<|Fo<|Fo ?_|refine On aF<|On iY<|On aF ?_
   all_goals(first|refine Sp 98 (fun h98=>?_) fun h98=>?_|refine GD (t:=98) rfl ?_)
   all_goals try contradiction
   all_goals first|refine Fo ?_|refine Fu ?_|refine On aF ?_
   all_goals first|refine Fo ?_|refine Fu ?_|refine On yE ?_
   all_goals first|refine Fo<|Fo ?_|refine On iM<|On aF ?_
   all_goals(first|refine Sp 102 (fun h102=>?_) fun h102=>?_|refine GD (t:=102) rfl ?_)
   all_goals try contradiction
   all_goals first|refine Fo ?_|refine Fu ?_|refine On aF ?_
   all_goals first|refine Fo ?_|refine Fu ?_|refine On yE ?_
   all_goals first|refine Fo ?_|refine On iM ?_
   all_goals refine Dd iM<|Dm ?_
   all_goals refine Sp 107 (fun h107=>?_) fun h107=>?_
   all_goals try contradiction
   all_goals first|refine Fo<|Fo<|Fo ?_|refine On aF<|On uT<|On aF ?_
   all_goals(first|refine Sp 110 (fun h110=>?_) fun h110=>?_|refine GD (t:=110) rfl ?_)
   all_goals try contradiction
   all_goals first|refine Fo ?_|refine Fu ?_|refine On aF ?_
   all_goals first|refine Fo ?_|refine Fu ?_|refine On uT ?_
   all_goals first|refine Fo<|Fo ?_|refine On iM<|On aF ?_
   all_goals(first|refine Sp 114 (fun h114=>?_) fun h114=>?_|refine GD (t:=114) rfl ?_)
   all_goals try contradiction
   all_goals first|refine Fo ?_|refine Fu ?_|refine On aF ?_
   all_goals first|refine Fo ?_|refine Fu ?_|refine On yE ?_
   all_goals first|refine Fo ?_|refine On iM ?_
   all_goals refine Dd iM<|Zz ?_
   all_goals(exact⟨⟨_,rfl,by first|rfl|(rcases hcond with⟨k1,k2⟩|⟨k1,k2|k2⟩|⟨k1,k2,k3⟩<;>simp_all;done)⟩,rfl,rfl,rfl⟩)
  refine Cn ?_ ?_<;>intro hc6
  ·cases hc6
  refine aG<|Sr<|Dd aF<|Dd aS<|Zz<|Rg<|Dd aF<|Dd aS<|Zz<|Rg<|Dd aF<|Dd (by exact cV rfl rfl rfl (show IntKind.i64.wrap ((j:Int)+1)=((j+1:Nat):Int)by rw [jS (by omega) (by omega)];omega))<|Da ?_;exact⟨j+1,d3,a',n',l3,c3,⟨by omega,hC3,q1,q2,q3,_,hI3,q4⟩,by omega,(cA.wk (Eb<|Eb<|Ea<|Ea<|Eb<|Eb<|trivial) (Hc (aE _ _ rfl rfl rfl)<|Hc (aC _ _)<|Hc (aK _ _ _)<|Hc (aJ _ _)<|Hc (by(simp;exact⟨rfl,rfl⟩))<|Hc (aQ _ _ _)<|trivial) trivial)⟩
 exact bE<|Sr<|Dd aF<|Dd aS<|Zz<|aM<|Rt<|Qq
theorem rX (A B:aA):Sub A (A++B):=fun j o h=>by rw [fM,h]
theorem aAN (n:Nat) (h1:1≤n) (h2:n≤8000) (H:aA) (k0:H.get 3000=none) (k1:H.get 3001=none) (k2:H.get 3002=none) (k3:H.get 3003=none):aL Tryz.prog 13 [iv (n:Int)] H (fun r H'=>r=.ref 3000 0 0 0∧H'=lV (nE n)++H):=by
 refine(MZ (RV n h1 h2) (args':=[iv (n:Int)]) rfl (rfl:kP B7 []=[]) (fun _ _ h=>by cases h) (fun _ _ h=>by cases h) (by intro a ha;rw [aBJ] at ha;subst ha;exact .pv _) ?_).mono ?_
 ·rintro r K ⟨rfl,rfl⟩ id hid;rw [oJ] at hid;rcases ZI hid with rfl|rfl|rfl|rfl
  ·exact .inr k0
  ·exact .inr k1
  ·exact .inr k2
  exact .inr k3
 rintro r H' ⟨r0,K,⟨rfl,rfl⟩,rfl,rfl⟩;exact⟨rfl,by rw [oJ]⟩
theorem ZB {d:DSt} {N k a n:Nat} {C:CT} (hc:Calm d N) (hI:SInv d.cells k a n C) (hN:4≤N) (hk:k=(N - 2) / 2) (H:aA) (hs:Sub (lV d) H) (k4:H.get 3100=none) (k5:H.get 3101=none) :
  aL Tryz.prog 12 [.ref 3000 0 0 0] H (fun r H'=>r=.tup [.ref 3100 0 0 0,iv 0]∧∃ l c,dW l c∧eY l∧l.length≤46*n∧(∀ x,dD l x=C x)∧H'=JU d (yP k a n false) (bK l c)++H):=by
 refine(MZ (sE hc hI hN hk) (args':=[.ref 3000 0 0 0]) rfl (oJ d) hs (tF d) (by simp;rfl) ?_).mono ?_
 ·rintro r K ⟨rfl,l,c,q1,q2,q3,q4,rfl⟩ id hid;rw [sA] at hid;rcases X0 hid with rfl|rfl|rfl|rfl|rfl|rfl
  ·exact .inl rfl
  ·exact .inl rfl
  ·exact .inl rfl
  ·exact .inl rfl
  ·exact .inr k4
  exact .inr k5
 rintro r H' ⟨r0,K,⟨rfl,l,c,q1,q2,q3,q4,rfl⟩,rfl,rfl⟩;exact⟨rfl,l,c,q1,q2,q3,q4,by rw [sA]⟩
theorem JY (d:DSt) (k a n:Nat) (b:Bool) (l l2:bU) (c c2:Nat):kP B7 ((950,bK l2 c2)::sH d (cI k a n b) (bK l c))=(950,bK l2 c2)::JU d (yP k a n b) (bK l c):=by have h:=sA d k a n b l c;show (B7 950,jV B7 (bK l2 c2))::kP B7 (sH d (cI k a n b) (bK l c))=_;rw [h,EU];rfl
theorem PA (d:DSt) (k a n:Nat) (b:Bool) (l l2:bU) (c c2:Nat):bM ((950,bK l2 c2)::JU d (yP k a n b) (bK l c)):=(bM.ofL ⟨(by exact aQ _ _ _),(by exact mK _ _ rfl rfl rfl),(by exact aC _ _),(by exact aK _ _ _),(by exact aJ _ _),(by exact ER rfl rfl),(by exact aQ _ _ _),trivial⟩)
theorem aAO {d:DSt} {o m o2:Ob} {id:Nat} (h:(aA.get ((950,o2)::JU d o m) id).isSome=true):id=950∨id=3000∨id=3001∨id=3002∨id=3003∨id=3100∨id=3101:=by
 by_cases e:id=950
 ·exact .inl e
 rw [get_cons_other _ _ e] at h;exact .inr (X0 h)
theorem V9 {N k:Nat} {tl:List ByteArray} {d:DSt} {a n:Nat} {l:bU} {c:Nat} {C:CT} (h:St N k tl d a n l c C) (hk:k < 4000) (l2:bU) (c2:Nat) (P:List ByteArray) (hst2:dW l2 c2) (hnd2:eY l2) (hl2:l2.length≤1000) (hP:P.length≤1000) (H:aA) (hs:Sub ((950,bK l2 c2)::JU d (yP k a n false) (bK l c)) H) :
  aL Tryz.prog 14 [.ref 3100 0 0 0,.mp 950 0,.pv (aW P)] H (fun r H'=>r=iv (CW k n l2 P)∧∃ d' n' l' c',St N k tl d' a n' l' c' (if CW k n l2 P=0 then oU C l2 (gE P)else C)∧n'=(if zO k n false l2 P = -1 then n+cJ (bD l2 (gE P))else n)∧H'=(950,bK l2 c2)::JU d' (yP k a n' false) (bK l' c')++H):=by
 refine(MZ (nP h hk l2 c2 P hst2 hnd2 hl2 hP) (args':=[.ref 3100 0 0 0,.mp 950 0,.pv (aW P)]) rfl (JY d k a n false l l2 c c2) hs (PA _ _ _ _ _ _ _ _ _) (by simp;exact⟨rfl,rfl⟩) ?_).mono ?_
 ·rintro r K ⟨rfl,d',n',l',c',q1,q2,rfl⟩ id hid;rw [JY] at hid;rcases aAO hid with rfl|rfl|rfl|rfl|rfl|rfl|rfl<;>exact .inl rfl
 rintro r H' ⟨r0,K,⟨rfl,d',n',l',c',q1,q2,rfl⟩,rfl,rfl⟩;exact⟨rfl,d',n',l',c',q1,q2,by rw [JY]⟩
theorem XN {N k:Nat} {tl:List ByteArray} {d:DSt} {a n:Nat} {l:bU} {c:Nat} {C:CT} (h:St N k tl d a n l c C) (hk:k < 4000) (H:aA) (hs:Sub (JU d (yP k a n false) (bK l c)) H) :
  aL Tryz.prog 21 [.ref 3100 0 0 0] H (fun r H'=>r=iv (WV k l)∧∃ d' a' n',St N k tl d' a' n' l c C∧(WV k l=0→d'.cells=lD k (bQ l) tl)∧H'=JU d' (yP k a' n' false) (bK l c)++H):=by
 refine(MZ (AD h hk) (args':=[.ref 3100 0 0 0]) rfl (sA d k a n false l c) hs (JT _ _ _ _ _ _ _) (by simp;rfl) ?_).mono ?_
 ·rintro r K ⟨rfl,d',a',n',q1,q2,rfl⟩ id hid;rw [sA] at hid;rcases X0 hid with rfl|rfl|rfl|rfl|rfl|rfl<;>exact .inl rfl
 rintro r H' ⟨r0,K,⟨rfl,d',a',n',q1,q2,rfl⟩,rfl,rfl⟩;exact⟨rfl,d',a',n',q1,q2,by rw [sA]⟩
theorem aAM (d:DSt) (hd:DOk d) (H:aA) (hs:Sub (lV d) H):aL Tryz.prog 22 [.ref 3000 0 0 0] H (fun r H'=>r=sv (oT d)∧H'=H):=by have h:=aL.ren (ρ:=B7) LQ (WX d hd) (args':=[.ref 3000 0 0 0]) (r':=sv (oT d)) rfl (oJ d) rfl (oJ d);exact aL.frameS h hs (tF d) (by simp;rfl)
abbrev tA:ByteArray:=⟨#[97]⟩
abbrev tB:ByteArray:=⟨#[98]⟩
abbrev tC:ByteArray:=⟨#[99]⟩
abbrev t1:ByteArray:=⟨#[49]⟩
abbrev t2:ByteArray:=⟨#[50]⟩
abbrev kB:bU×Nat:=eN [(tB,t2)]
abbrev P2:bU×Nat:=eN [(tA,t1),(tB,t2)]
theorem VR (x:ByteArray):dD kB.1 x=if tB=x then some t2 else none:=by rw [FK];rfl
theorem ZJ (x:ByteArray):dD P2.1 x=if tB=x then some t2 else if tA=x then some t1 else none:=by
 rw [FK];show ((if tB=x then some t2 else none).orElse fun _=>if tA=x then some t1 else none)=_
 split<;>rfl
theorem ZT (x:ByteArray):oU (oU (fun _=>none) P2.1 (gE [])) [] (gE [tA]) x=dD kB.1 x:=by
 have hAB:¬ tB=tA:=by decide
 rw [oU,oU,nQ,aBE aBW,VR,ZJ];by_cases h:x∈gE [tA]
 ·rw [aBF h];have:=kI.1 h;rw [aBJ] at this;subst this;rw [aBE hAB]
 rw [aBE h];have hx:¬ tA=x:=fun e=>h (kI.2 (by rw [e];exact aBJ.2 rfl));rw [aBE hx];show ((none:Option ByteArray).orElse fun _=>(if tB=x then some t2 else none).orElse fun _=>none)=_;by_cases h2:tB=x
 ·rw [aBF h2];rfl
 rw [aBE h2];rfl
theorem aAV (x:ByteArray):oU (fun _=>none) kB.1 (gE []) x=dD kB.1 x:=by
 rw [oU,nQ,aBE aBW,VR];by_cases h2:tB=x
 ·rw [aBF h2];rfl
 rw [aBE h2];rfl
theorem VQ:cF kB.1=[tB]:=NN (List.pairwise_singleton _ _)
theorem HU:cJ (bQ kB.1)≤1:=by
 have h:bQ kB.1=bD kB.1 []:=aBE (by decide);rw [h];exact oH (fun p hp=>by
  have:=vN hp;simp only [aBJ,Prod.mk.injEq] at this;rw [this.1,this.2];exact⟨aBM 1,aBM 1⟩) (fun s hs=>by cases hs) (by decide)
theorem MU:CW 9 0 P2.1 []=0:=BT (by decide) (by
 have h:cJ (bD P2.1 (gE []))≤1:=oH (fun p hp=>by
  have:=vN hp;simp only [aBS,aBW,or_false,Prod.mk.injEq] at this;rcases this with⟨e1,e2⟩|⟨e1,e2⟩<;>rw [e1,e2]<;>exact⟨aBM 1,aBM 1⟩) (fun s hs=>by rw [nQ] at hs;cases hs) (by rw [nQ];decide)
 omega)
theorem ZG:(if zO 9 0 false P2.1 [] = -1 then 0+cJ (bD P2.1 (gE []))else 0)≤1:=by
 have h:cJ (bD P2.1 (gE []))≤1:=oH (fun p hp=>by
  have:=vN hp;simp only [aBS,aBW,or_false,Prod.mk.injEq] at this;rcases this with⟨e1,e2⟩|⟨e1,e2⟩<;>rw [e1,e2]<;>exact⟨aBM 1,aBM 1⟩) (fun s hs=>by rw [nQ] at hs;cases hs) (by rw [nQ];decide)
 split<;>omega
theorem W0:cJ (bD [] (gE [tA]))≤1:=oH (fun p hp=>by cases hp) (fun s hs=>by
  have:=kI.1 hs;rw [aBJ] at this;rw [this];exact aBM 1) (by have:=wB [tA];have e:([tA]:List ByteArray).length=1:=rfl;have e0:([]:bU).length=0:=rfl;omega)
theorem MT {n:Nat} (h:n≤1):CW 9 n [] [tA]=0:=BT (by decide) (by have:=W0;omega)
theorem ZF {n:Nat} (h:n≤1):(if zO 9 n false [] [tA] = -1 then n+cJ (bD [] (gE [tA]))else n)≤2:=by
 have:=W0
 split<;>omega
theorem MS:CW 9 0 kB.1 []=0:=BT (by decide) (by
 have h:cJ (bD kB.1 (gE []))≤1:=oH (fun p hp=>by
  have:=vN hp;simp only [aBJ,Prod.mk.injEq] at this;rw [this.1,this.2];exact⟨aBM 1,aBM 1⟩) (fun s hs=>by rw [nQ] at hs;cases hs) (by rw [nQ];decide)
 omega)
theorem LM (n:Nat):(ofL (zB n)).size=n:=by rw [bY,zB,List.length_replicate]
theorem tT (k v:ByteArray):(eN [(k,v)]).1=[(k,v,0)]:=rfl
theorem CZ {k v:ByteArray} (hk:fC k=true):bO (eN [(k,v)]).1 []=if(20000:Int) < (v.size:Int)then 2 else 0:=by
 rw [tT,bO];show (if(((!fC k||VX [] k)||false)||false)=true then(1:Int)else if(decide ((20000:Int) < (v.size:Int))||false)=true then 2 else 0)=_;rw [hk];show (if false=true then(1:Int)else if(decide ((20000:Int) < (v.size:Int))||false)=true then 2 else 0)=_;rw [aBE Bool.false_ne_true,Bool.or_false];by_cases h:(20000:Int) < (v.size:Int)
 ·rw [aBF (decide_eq_true h),aBF h]
 rw [aBE (by rw [decide_eq_false h];decide),aBE h]
theorem eH {n:Nat} {v:ByteArray} (hv:v.size=20001):CW 9 n (eN [(tC,v)]).1 []=2:=by
 have hw:bO (eN [(tC,v)]).1 []=2:=by rw [CZ (by decide),hv];rfl
 rw [O5 (by rw [hw];decide),hw]
theorem eI {n:Nat} {v:ByteArray} (hv:v.size=500):CW 9 n (eN [(tC,v)]).1 []=21:=by
 have hw:bO (eN [(tC,v)]).1 []=0:=by rw [CZ (by decide),hv];rfl
 refine S4 hw (by rw [tT];exact Nat.zero_lt_one) ?_;have h:=QN (l:=(eN [(tC,v)]).1) (P:=gE []) (x:=tC) (by rw [tT];exact aBJ.2 rfl);have hg:cW (eN [(tC,v)]).1 tC=v:=by
  rw [tT];show (if tC=tC then v else _)=v;rw [aBF rfl]
 rw [hg,hv] at h;rw [cJ];omega
theorem HZ (n:Nat):((List.replicate n [AV.pv (.int .u8 0)]).drop 0).take n=bG (zB n):=by rw [List.drop_zero,List.take_of_length_le (by rw [List.length_replicate];exact aBM _),bG,zB,List.map_replicate];rfl
theorem V4 {a b:DSt} (h:a.cells=b.cells):oT a=oT b:=by rw [oT,oT,h]
theorem O3 {d:DSt} {N:Nat} (h:Calm d N):(oT d).size=64*N:=by
 have:(oT d).size=(flat d.cells).length:=by rw [← dR,oT]
 rw [this,oR h.inv.ok.c,h.inv.n]
theorem SE (H:aA):aL Tryz.prog 10 [] H (fun r H'=>r=bv true∧H'=H):=by
 refine Pu ?_;have hop:=sE (k:=9) (rS (n:=20) (by omega) (by omega)) (qR (by omega)) (by omega) rfl;have hz1:=LM 20001;have hz2:=LM 500;have hb1:=HZ 20001;have hb2:=HZ 500;have hnew:=RV 20 (by omega) (by omega);obtain ⟨tl,htl⟩:∃ tl,tl=(nE 20).cells.drop (2*9+2):=⟨_,rfl⟩;have hst0:∀ {l:bU} {c:Nat},dW l c→eY l→(∀ x,dD l x=none)→St 20 9 tl (nE 20) 0 0 l c (fun _=>none):=fun q1 q2 q3=>by
  rw [htl];exact XH (N:=20) (by omega) (by omega) q1 q2 q3
 clear htl;have hd3:=fun H k0 k1 k2 k3=>aAN 20 (by omega) (by omega) H k0 k1 k2 k3;have hop3:=fun H hs k4 k5=>ZB (k:=9) (rS (n:=20) (by omega) (by omega)) (qR (by omega)) (by omega) rfl H hs k4 k5;obtain ⟨z1,hzz1⟩:∃ z,z=zB 20001:=⟨_,rfl⟩;obtain ⟨z2,hzz2⟩:∃ z,z=zB 500:=⟨_,rfl⟩;rw [← hzz1] at hz1 hb1;rw [← hzz2] at hz2 hb2;clear hzz1 hzz2;obtain ⟨e0,he0⟩:∃ e,e=nE 20:=⟨_,rfl⟩;rw [← he0] at hop hnew hst0 hd3 hop3;clear he0;refine Bd func10 rfl ntmps10<|Sr<|Dd aS<|Zz<|Sr<|Dd (by exact aB rfl rfl aAr rfl (hnew))<|Dd aS<|Zz<|Sr<|Dm ?_;refine jA rfl rfl (aB rfl rfl GH rfl hop) ?_;rintro _ _ ⟨rfl,l0,c0,q1,q2,q3,q4,rfl⟩;have hS0:=hst0 q1 q2 q4;clear q1 q2 q3 q4 hop hnew;refine Dd aF<|Dd eP<|Dd eP<|Dd aS<|Dd aS<|Zz<|Sr<|Dd aF<|Dd (by exact jN (id:=950) fA rfl rfl)<|Uu (by exact hU (κ:=fA) (l:=bS []) (k:=tA) (v:=sv t1) (.inr rfl) aT aI rfl (get_cons_same _ _ _) rfl rfl rfl rfl rfl (nM _ _ _ _) (pK _ _ _))<|Uu (by exact hU (κ:=fA) (l:=bS (eN [(tA,t1)]).1) (k:=tB) (v:=sv t2) (.inr rfl) aT aI rfl (get_cons_same _ _ _) rfl rfl rfl rfl rfl (nM _ _ _ _) (pK _ _ _))<|Dm ?_;refine kL (E':=[(1,.ref 1000 0 0 0),(2,.ref 1100 0 0 0),(3,iv 0),(28,.ref 1100 0 0 0),(30,.mp 950 0)]) (H':=(950,bK P2.1 P2.2)::sH e0 (cI 9 0 0 false) (bK l0 c0)) (cA.wk (Ea<|Ea<|Eb<|Ea<|Ea<|trivial) (Hc (aQ _ _ _)<|Hc (aE _ _ rfl rfl rfl)<|Hc (aC _ _)<|Hc (aK _ _ _)<|Hc (aJ _ _)<|Hc (bI rfl rfl)<|Hc (aQ _ _ _)<|trivial) trivial) ?_;refine jA rfl rfl (aB rfl rfl wN rfl (nP hS0 (by omega) P2.1 P2.2 [] (iF _).1 (iF _).2 (by decide) (by decide))) ?_;rintro _ _ ⟨rfl,d1,n1,l1,c1,hS1,hn1,rfl⟩;rw [MU,aBF rfl] at hS1;rw [MU];have hn1:n1≤1:=by rw [hn1];exact ZG
 clear hS0;refine Dd aS<|Zz<|Sr<|Dd aF<|Dd (by exact bL [[.str tA]] rfl bZ rfl rfl rfl rfl rfl (by simp)) ?_;refine kL (E':=[(1,.ref 1000 0 0 0),(2,.ref 1100 0 0 0),(3,iv 0),(4,iv 0),(32,.ref 1100 0 0 0),(33,.pv (aW [tA]))]) (H':=sH d1 (cI 9 0 n1 false) (bK l1 c1)) (cA.wk (Ea<|Ea<|Eb<|Eb<|Ea<|Eb<|trivial) (Hc (aE _ _ rfl rfl rfl)<|Hc (aC _ _)<|Hc (aK _ _ _)<|Hc (aJ _ _)<|Hc (bI rfl rfl)<|Hc (aQ _ _ _)<|trivial) trivial) ?_;refine jA rfl rfl (aB rfl rfl wN rfl (F6 hS1 (by omega) [tA] (by decide))) ?_;rintro _ _ ⟨rfl,d2,n2,l2,c2,hS2,hn2,rfl⟩;rw [MT hn1,aBF rfl] at hS2;rw [MT hn1];have hn2:n2≤2:=by rw [hn2];exact ZF hn1
 clear hS1 hn1;obtain ⟨C,hC⟩:∃ C,C=oU (oU (fun _=>none) P2.1 (gE [])) [] (gE [tA]):=⟨_,rfl⟩;have hCB:∀ x,C x=dD kB.1 x:=fun x=>by rw [hC];exact ZT x
 rw [← hC] at hS2;clear hC;have hgA:=KR d2 9 0 n2 false l2 c2 tA;have hgB:=KR d2 9 0 n2 false l2 c2 tB;have kA:dD l2 tA=none:=by rw [hS2.kv,hCB,VR,aBE (by decide)]
 have kBv:dD l2 tB=some t2:=by rw [hS2.kv,hCB,VR,aBF rfl]
 rw [nJ,kA] at hgA;rw [nJ,kBv] at hgB;refine Dd aS<|Zz<|Sr<|Dd aF<|Dd (by exact aB rfl rfl aAn rfl (hgA))<|Dd aF<|Dd eP<|Dd eP<|Dd aS<|Dd aS<|Zz<|Sr<|Dd aF<|Dd (by exact aB rfl rfl aAn rfl (hgB))<|Dd aF<|Dd eP<|Dd eP<|Dd aS<|Dd aS<|Zz<|Sr<|Dd aF<|Dd (by exact lJ (id:=960) rfl G5 ZM Z6 rfl rfl rfl (by decide) (by decide) rfl rfl (by decide) rfl)<|Dd (by exact iT rfl cE bX aI rfl rfl rfl rfl hb1 rfl)<|Dd (by exact aB rfl rfl aAo rfl (RQ tC (ofL z1) _ rfl)) ?_;refine kL (E':=[(1,.ref 1000 0 0 0),(2,.ref 1100 0 0 0),(3,iv 0),(4,iv 0),(5,iv 0),(7,bv false),(8,sv t2),(9,bv true),(45,.ref 1100 0 0 0),(48,.mp 950 0)]) (H':=(950,bK (eN [(tC,ofL z1)]).1 (eN [(tC,ofL z1)]).2)::sH d2 (cI 9 0 n2 false) (bK l2 c2)) (cA.wk (Ea<|Ea<|Eb<|Eb<|Eb<|Eb<|Eb<|Eb<|Ea<|Ea<|trivial) (Hc (aQ _ _ _)<|Hc (aE _ _ rfl rfl rfl)<|Hc (aC _ _)<|Hc (aK _ _ _)<|Hc (aJ _ _)<|Hc (bI rfl rfl)<|Hc (aQ _ _ _)<|trivial) trivial) ?_;refine jA rfl rfl (aB rfl rfl wN rfl (nP hS2 (by omega) (eN [(tC,ofL z1)]).1 (eN [(tC,ofL z1)]).2 [] (iF _).1 (iF _).2 (by rw [tT];exact aBT rfl) (by decide))) ?_;rintro _ _ ⟨rfl,d3,n3,l3,c3,hS3,hn3,rfl⟩;rw [eH hz1,aBE (by decide)] at hS3;rw [eH hz1];clear hS2 hgA hgB kA kBv;refine kL (E':=[(1,.ref 1000 0 0 0),(2,.ref 1100 0 0 0),(3,iv 0),(4,iv 0),(5,iv 0),(7,bv false),(8,sv t2),(9,bv true),(49,iv 2)]) (H':=sH d3 (cI 9 0 n3 false) (bK l3 c3)) (cA.wk (Ea<|Ea<|Eb<|Eb<|Eb<|Eb<|Eb<|Eb<|Eb<|trivial) (Hc (aE _ _ rfl rfl rfl)<|Hc (aC _ _)<|Hc (aK _ _ _)<|Hc (aJ _ _)<|Hc (bI rfl rfl)<|Hc (aQ _ _ _)<|trivial) trivial) ?_;refine Dd aS<|Zz<|Sr<|Dd aF<|Dd (by exact lJ (id:=960) rfl G5 ZM Z6 rfl rfl rfl (by decide) (by decide) rfl rfl (by decide) rfl)<|Dd (by exact iT rfl cE bX aI rfl rfl rfl rfl hb2 rfl)<|Dd (by exact aB rfl rfl aAo rfl (RQ tC (ofL z2) _ rfl)) ?_;refine kL (E':=[(1,.ref 1000 0 0 0),(2,.ref 1100 0 0 0),(3,iv 0),(4,iv 0),(5,iv 0),(7,bv false),(8,sv t2),(9,bv true),(10,iv 2),(50,.ref 1100 0 0 0),(53,.mp 950 0)]) (H':=(950,bK (eN [(tC,ofL z2)]).1 (eN [(tC,ofL z2)]).2)::sH d3 (cI 9 0 n3 false) (bK l3 c3)) (cA.wk (Ea<|Ea<|Eb<|Eb<|Eb<|Eb<|Eb<|Eb<|Eb<|Ea<|Ea<|trivial) (Hc (aQ _ _ _)<|Hc (aE _ _ rfl rfl rfl)<|Hc (aC _ _)<|Hc (aK _ _ _)<|Hc (aJ _ _)<|Hc (bI rfl rfl)<|Hc (aQ _ _ _)<|trivial) trivial) ?_;refine jA rfl rfl (aB rfl rfl wN rfl (nP hS3 (by omega) (eN [(tC,ofL z2)]).1 (eN [(tC,ofL z2)]).2 [] (iF _).1 (iF _).2 (by rw [tT];exact aBT rfl) (by decide))) ?_;rintro _ _ ⟨rfl,d4,n4,l4,c4,hS4,hn4,rfl⟩;rw [eI hz2,aBE (by decide)] at hS4;rw [eI hz2];clear hS3 hn3 hn4;have hw4:bQ l4=bQ kB.1:=zQ hS4.nd (iF _).2 fun x=>by rw [hS4.kv,hCB]
 have hsc4:WV 9 l4=0:=aBE (by rw [hw4];have:=HU;omega);refine Dd aS<|Zz<|Sr<|Dm ?_;refine kL (E':=[(1,.ref 1000 0 0 0),(3,iv 0),(4,iv 0),(5,iv 0),(7,bv false),(8,sv t2),(9,bv true),(10,iv 2),(11,iv 21),(55,.ref 1100 0 0 0)]) (H':=sH d4 (cI 9 0 n4 false) (bK l4 c4)) (cA.wk (Ea<|Eb<|Eb<|Eb<|Eb<|Eb<|Eb<|Eb<|Eb<|Ea<|trivial) (Hc (aE _ _ rfl rfl rfl)<|Hc (aC _ _)<|Hc (aK _ _ _)<|Hc (aJ _ _)<|Hc (bI rfl rfl)<|Hc (aQ _ _ _)<|trivial) trivial) ?_;refine jA rfl rfl (aB rfl rfl aAp rfl (AD hS4 (by omega))) ?_;rintro _ _ ⟨rfl,d5,a5,n5,hS5,hcan5,rfl⟩;have hcan5:=hcan5 hsc4;rw [hw4] at hcan5;rw [hsc4];clear hS4 hsc4 hw4;have hraw5:=V3 (o:=cI 9 a5 n5 false) (m:=bK l4 c4) (WX d5 hS5.calm.inv.ok) (by simp;rfl);refine Dd aS<|Zz<|Sr<|Dd aF<|Dd (by exact aB rfl rfl call22 rfl (hraw5))<|Dd aS<|Zz<|Sr<|Dm ?_;refine kL (E':=[(1,.ref 1000 0 0 0),(3,iv 0),(4,iv 0),(5,iv 0),(7,bv false),(8,sv t2),(9,bv true),(10,iv 2),(11,iv 21),(12,iv 0),(13,sv (oT d5)),(60,.ref 1000 0 0 0)]) (H':=aY d5) (cA.wk (Ea<|Eb<|Eb<|Eb<|Eb<|Eb<|Eb<|Eb<|Eb<|Eb<|Eb<|Ea<|trivial) (Hc (aE _ _ rfl rfl rfl)<|Hc (aC _ _)<|Hc (aK _ _ _)<|Hc (aJ _ _)<|trivial) trivial) ?_;refine jA rfl rfl (aB rfl rfl GH rfl (sE hS5.calm hS5.inv (by omega) rfl)) ?_;rintro _ _ ⟨rfl,l6,c6,q1,q2,q3,q4,rfl⟩;have hk6:cF l6=[tB]:=(wQ q2 (iF _).2 fun x=>by rw [q4,hCB]).trans VQ;have hl6:l6.length < 1099511627776:=by have:=hS5.inv.nk;omega
 have hd5:(oT d5).size=1280:=O3 hS5.calm;have hkey:=MH d5 9 a5 n5 false l6 c6 q1 hl6;rw [hk6] at hkey;clear hS5 hraw5 q2 q3 q4;refine Dd aF<|Dd eP<|Dd eP<|Dd aS<|Dd aS<|Zz<|Sr<|Dd (by exact aB rfl rfl aAr rfl (hd3 _ rfl rfl rfl rfl))<|Dd aS<|Zz<|Sr<|Dm ?_;refine jA rfl rfl (aB rfl rfl GH rfl (hop3 _ (rX _ _) rfl rfl)) ?_;rintro _ _ ⟨rfl,l7,c7,p1,p2,p3,p4,rfl⟩;have hS7:=hst0 p1 p2 p4;clear p1 p2 p3 p4 hd3 hop3 hst0;refine Dd aF<|Dd eP<|Dd eP<|Dd aS<|Dd aS<|Zz<|Sr<|Dd aF<|Dd (by exact aB rfl rfl aAo rfl (RQ tB t2 _ rfl)) ?_;refine kL (E':=[(3,iv 0),(4,iv 0),(5,iv 0),(7,bv false),(8,sv t2),(9,bv true),(10,iv 2),(11,iv 21),(12,iv 0),(13,sv (oT d5)),(14,.ref 1100 0 0 0),(15,iv 0),(16,.ref 3000 0 0 0),(17,.ref 3100 0 0 0),(18,iv 0),(70,.ref 3100 0 0 0),(71,.mp 950 0)]) (H':=((950,bK kB.1 kB.2)::JU e0 (yP 9 0 0 false) (bK l7 c7))++sH d5 (cI 9 a5 n5 false) (bK l6 c6)) (cA.wk (Eb<|Eb<|Eb<|Eb<|Eb<|Eb<|Eb<|Eb<|Eb<|Eb<|Ea<|Eb<|Ea<|Ea<|Eb<|Ea<|Ea<|trivial) (Hc (aQ _ _ _)<|Hc (mK _ _ rfl rfl rfl)<|Hc (aC _ _)<|Hc (aK _ _ _)<|Hc (aJ _ _)<|Hc (ER rfl rfl)<|Hc (aQ _ _ _)<|Hc (aE _ _ rfl rfl rfl)<|Hc (aC _ _)<|Hc (aK _ _ _)<|Hc (aJ _ _)<|Hc (bI rfl rfl)<|Hc (aQ _ _ _)<|trivial) trivial) ?_;refine jA rfl rfl (aB rfl rfl wN rfl (V9 hS7 (by omega) kB.1 kB.2 [] (iF _).1 (iF _).2 (by rw [tT];exact aBT rfl) (by decide) _ (rX _ _))) ?_;rintro _ _ ⟨rfl,d8,n8,l8,c8,hS8,hn8,rfl⟩;rw [MS,aBF rfl] at hS8;rw [MS];have hw8:bQ l8=bQ kB.1:=zQ hS8.nd (iF _).2 fun x=>by rw [hS8.kv,aAV]
 have hsc8:WV 9 l8=0:=aBE (by rw [hw8];have:=HU;omega);clear hS7 hn8;refine Dd aS<|Zz<|Sr<|Dm ?_;refine kL (E':=[(3,iv 0),(4,iv 0),(5,iv 0),(7,bv false),(8,sv t2),(9,bv true),(10,iv 2),(11,iv 21),(12,iv 0),(13,sv (oT d5)),(14,.ref 1100 0 0 0),(15,iv 0),(16,.ref 3000 0 0 0),(18,iv 0),(19,iv 0),(73,.ref 3100 0 0 0)]) (H':=JU d8 (yP 9 0 n8 false) (bK l8 c8)++sH d5 (cI 9 a5 n5 false) (bK l6 c6)) (cA.wk (Eb<|Eb<|Eb<|Eb<|Eb<|Eb<|Eb<|Eb<|Eb<|Eb<|Ea<|Eb<|Ea<|Eb<|Eb<|Ea<|trivial) (Hc (mK _ _ rfl rfl rfl)<|Hc (aC _ _)<|Hc (aK _ _ _)<|Hc (aJ _ _)<|Hc (ER rfl rfl)<|Hc (aQ _ _ _)<|Hc (aE _ _ rfl rfl rfl)<|Hc (aC _ _)<|Hc (aK _ _ _)<|Hc (aJ _ _)<|Hc (bI rfl rfl)<|Hc (aQ _ _ _)<|trivial) trivial) ?_;refine jA rfl rfl (aB rfl rfl aAp rfl (XN hS8 (by omega) _ (rX _ _))) ?_;rintro _ _ ⟨rfl,d9,a9,n9,hS9,hcan9,rfl⟩;have hcan9:=hcan9 hsc8;rw [hw8] at hcan9;rw [hsc8];clear hS8 hsc8 hw8;have hreq:oT d5=oT d9:=V4 (hcan5.trans hcan9.symm);refine kL (E':=[(3,iv 0),(4,iv 0),(5,iv 0),(7,bv false),(8,sv t2),(9,bv true),(10,iv 2),(11,iv 21),(12,iv 0),(13,sv (oT d5)),(14,.ref 1100 0 0 0),(15,iv 0),(16,.ref 3000 0 0 0),(18,iv 0),(19,iv 0),(74,iv 0)]) (H':=sH d5 (cI 9 a5 n5 false) (bK l6 c6)++lV d9) (cA.wk (Eb<|Eb<|Eb<|Eb<|Eb<|Eb<|Eb<|Eb<|Eb<|Eb<|Ea<|Eb<|Ea<|Eb<|Eb<|Eb<|trivial) (Hc (aE _ _ rfl rfl rfl)<|Hc (aC _ _)<|Hc (aK _ _ _)<|Hc (aJ _ _)<|Hc (bI rfl rfl)<|Hc (aQ _ _ _)<|Hc (mK _ _ rfl rfl rfl)<|Hc (aC _ _)<|Hc (aK _ _ _)<|Hc (aJ _ _)<|trivial) trivial) ?_;have hkey:=aL.frameS (H:=sH d5 (cI 9 a5 n5 false) (bK l6 c6)++lV d9) hkey (rX _ _) (rY _ _ _ _ _ _ _) (by simp;rfl);have hraw9:=aAM d9 hS9.calm.inv.ok (sH d5 (cI 9 a5 n5 false) (bK l6 c6)++lV d9) (fun j o h=>by rcases ZI (d:=d9) (id:=j) (by rw [h];rfl)with rfl|rfl|rfl|rfl<;>exact h);have hsame:=AE [tB] [tB] (sH d5 (cI 9 a5 n5 false) (bK l6 c6)++lV d9) (by decide) (by decide);rw [decide_eq_true rfl] at hsame;refine Dd aS<|Zz<|Sr<|Dd aF<|Dd iY<|Dd aF<|On aF<|On iY<|Dd iM<|Dd aF<|On aF<|On iY<|Dd iM<|Dd aF<|On aF<|On yE<|Dd iM<|Dd aF<|On aF<|Dd iM<|Dd aF<|On aF<|On XM<|Dd iM<|Dd aF<|On aF<|On iY<|Dd iM<|Dd aF<|On aF<|On iY<|Dd iM<|Dd aF<|On aF<|On iY<|Dd iM<|Dd aF<|On aF<|On iY<|Dd iM<|Dd aF<|On aF<|On (by exact aB rfl rfl call19 rfl (hkey))<|On (by exact bL [[.str tB]] rfl bZ rfl rfl rfl rfl rfl (by simp))<|On (by exact aB rfl rfl aAq rfl (hsame))<|Dd iM<|Dd aS<|Zz<|Sq ?_;have h135:AV.pv (.bool (decide (oT d5=oT d9)))=bv true:=by rw [decide_eq_true hreq]
 have h140:AV.pv (.bool (decide (((oT d5).size:Int)=1280)))=bv true:=by rw [hd5];rfl
 exact Rg<|Dd aF<|Dd aF<|On aF<|On iY<|Dd iM<|Dd aF<|On aF<|On iY<|Dd iM<|Dd aF<|On aF<|On iY<|Dd iM<|Dd aF<|On aF<|On aF<|On (by exact aB rfl rfl call22 rfl (hraw9))<|On (by exact cD.eqv (AP rfl rfl rfl) h135)<|Dd iM<|Dd aF<|On aF<|On (CO aI)<|On (by exact cD.eqv (L7 rfl rfl rfl) h140)<|Dd iM<|Dd aS<|Zz<|aM<|Rt<|Qq
end Go.Proofs.YtmkgeogoojcciaaGreatDoor
