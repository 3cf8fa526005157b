/-
  Parts of the proof: rules of an abstract program logic, contracts of functions, plain laws. Conditions: each theorem's own.
-/
import Derived.Test.YtmkgeogoojcciaaGreatDoorKS7M6
set_option linter.unusedVariables false
set_option linter.unusedSimpArgs false
set_option maxRecDepth 100000
set_option maxHeartbeats 8000000
namespace Go.Proofs
theorem CK:type_of% Tryz.call46:=Tryz.call46
theorem aH8:type_of% Tryz.call47:=Tryz.call47
theorem CJ:type_of% Tryz.call50:=Tryz.call50
theorem aH5:type_of% Tryz.call53:=Tryz.call53
end Go.Proofs
namespace Go.Proofs.YtmkgeogoojcciaaGreatDoor
open Go.Proofs.Tryz
open Go.Abs
def eN:cN→ByteArray→Option ByteArray
 | [],_=>none
 | (k',v,_)::r,k=>if k'=k then some v else eN r k
theorem uV (k:ByteArray):∀ l:cN,fO l k=(eN l k).getD ⟨#[]⟩
 | []=>rfl
 | (k',v,n)::r=>by
  rw [fO,eN]
  split
  ·rfl
  exact uV k r
def lK:cN→ByteArray→ByteArray→Nat→cN
 | [],k,v,c=>[(k,v,c)]
 | (k',a,n)::r,k,v,c=>if k'=k then(k,v,n)::r else(k',a,n)::lK r k v c
def zV:cN→ByteArray→cN
 | [],_=>[]
 | (k',a,n)::r,k=>if k'=k then r else(k',a,n)::zV r k
def uW (l:cN) (k:ByteArray) (c:Nat):Nat:=if(eN l k).isSome then c else c+1
theorem yC (k v:ByteArray) (c:Nat):∀ l:cN,BT (cU l) k (sv v) c=cU (lK l k v c)
 | []=>rfl
 | (k',a,n)::r=>by
  show (if k'=k then(k,sv v,n)::cU r else(k',sv a,n)::BT (cU r) k (sv v) c)=cU (lK ((k',a,n)::r) k v c);rw [lK]
  split
  ·rfl
  rw [yC k v c r];rfl
theorem M8 (k:ByteArray):∀ l:cN,BW (cU l) k=cU (zV l k)
 | []=>rfl
 | (k',a,n)::r=>by
  show (if k'=k then cU r else(k',sv a,n)::BW (cU r) k)=cU (zV ((k',a,n)::r) k);rw [zV]
  split
  ·rfl
  rw [M8 k r];rfl
theorem xV (k:ByteArray):∀ l:cN,(pH (M7 (cU l)) k).isSome=(eN l k).isSome
 | []=>rfl
 | (k',a,n)::r=>by
  show (if k'=k then some (sv a)else pH (M7 (cU r)) k).isSome=(if k'=k then some a else eN r k).isSome
  split
  ·rfl
  exact xV k r
theorem BX (k:ByteArray) (c:Nat) (l:cN):G7 (cU l) k c=uW l k c:=by rw [G7,uW,xV]
theorem EX (k v:ByteArray) (c:Nat) (k2:ByteArray):∀ l:cN,eN (lK l k v c) k2=if k=k2 then some v else eN l k2
 | []=>rfl
 | (k',a,n)::r=>by
  rw [lK];by_cases h:k'=k
  ·rw [aHq h,eN,eN];subst h;by_cases h2:k'=k2
   ·rw [aHq h2,aHq h2]
   rw [aHp h2,aHp h2,aHp h2]
  rw [aHp h,eN,eN,EX k v c k2 r];by_cases h2:k'=k2
  ·rw [aHq h2,aHq h2,aHp (fun e=>h (h2.trans e.symm))]
  rw [aHp h2,aHp h2]
def gX (l:cN):Prop:=(l.map Prod.fst).Nodup
theorem iX {k:ByteArray}:∀ {l:cN},eN l k=none↔k∉l.map Prod.fst
 | []=>by simp [eN]
 | (k',a,n)::r=>by
  rw [eN,List.map_cons,aID,not_or];by_cases h:k'=k
  ·rw [aHq h];exact⟨(fun h=>by cases h),fun h2=>absurd h.symm h2.1⟩
  rw [aHp h,iX];exact⟨fun h2=>⟨fun e=>h e.symm,h2⟩,fun h2=>h2.2⟩
theorem xZ (k v:ByteArray) (c:Nat):∀ l:cN,(lK l k v c).map Prod.fst=if(eN l k).isSome then l.map Prod.fst else l.map Prod.fst++[k]
 | []=>rfl
 | (k',a,n)::r=>by
  rw [lK,eN];by_cases h:k'=k
  ·rw [aHq h,aHq h];subst h;rfl
  rw [aHp h,aHp h,List.map_cons,xZ k v c r];cases (eN r k).isSome<;>rfl
theorem M1 {l:cN} (h:gX l) (k v:ByteArray) (c:Nat):gX (lK l k v c):=by
 rw [gX,xZ];cases e:eN l k with
 | some x=>exact h
 | none =>
  have hn:=iX.1 e;exact List.nodup_append.2 ⟨h,by simp,fun a ha b hb e2=>by rw [aHu] at hb;subst hb;subst e2;exact hn ha⟩
theorem PT (k v:ByteArray) (c:Nat):∀ l:cN,(lK l k v c).map (fun p=>p.2.2)=if(eN l k).isSome then l.map (fun p=>p.2.2)else l.map (fun p=>p.2.2)++[c]
 | []=>rfl
 | (k',a,n)::r=>by
  rw [lK,eN];by_cases h:k'=k
  ·rw [aHq h,aHq h];rfl
  rw [aHp h,aHp h,List.map_cons,PT k v c r];cases (eN r k).isSome<;>rfl
theorem Z5 {l:cN} {c:Nat}:fI l c↔(l.map fun p=>p.2.2).Pairwise (· < ·)∧∀ n∈l.map (fun p=>p.2.2),n < c:=by rw [fI];refine and_congr_right fun _=>⟨fun h n hn=>?_,fun h p hp=>h _ (List.mem_map.2 ⟨p,hp,rfl⟩)⟩;obtain ⟨p,hp,rfl⟩:=List.mem_map.1 hn;exact h p hp
theorem M0 {l:cN} {c:Nat} (h:fI l c) (k v:ByteArray):fI (lK l k v c) (uW l k c):=by
 rw [Z5,PT,uW];have h:=Z5.1 h;cases eN l k with
 | some x=>exact h
 | none =>
  refine⟨List.pairwise_append.2 ⟨h.1,by simp,fun a ha b hb=>by rw [aHu] at hb;subst hb;exact h.2 a ha⟩,fun n hn=>?_⟩;show n < c+1;rcases List.mem_append.1 hn with h1|h1
  ·have:=h.2 n h1;omega
  rw [aHu] at h1;omega
theorem wO (k:ByteArray):∀ l:cN,(zV l k).Sublist l
 | []=>.slnil
 | (k',a,n)::r=>by
  rw [zV]
  split
  ·exact List.sublist_cons_self _ _
  exact(wO k r).cons_cons _
theorem VD {l:cN} (h:gX l) (k:ByteArray):gX (zV l k):=h.sublist ((wO k l).map _)
theorem aDc {l:cN} {c:Nat} (h:fI l c) (k:ByteArray):fI (zV l k) c:=⟨h.1.sublist ((wO k l).map _),fun p hp=>h.2 p ((wO k l).subset hp)⟩
theorem U9 (k k2:ByteArray):∀ {l:cN},gX l→eN (zV l k) k2=if k=k2 then none else eN l k2
 | [],_=>by rw [zV,eN];split<;>rfl
 | (k',a,n)::r,hnd=>by
  have hn:k'∉r.map Prod.fst∧gX r:=List.nodup_cons.1 hnd;rw [zV];by_cases h:k'=k
  ·subst h;rw [aHq rfl,eN];by_cases h2:k'=k2
   ·subst h2;rw [aHq rfl];exact iX.2 hn.1
   rw [aHp h2,aHp h2]
  rw [aHp h,eN,eN,U9 k k2 hn.2];by_cases h2:k'=k2
  ·rw [aHq h2,aHq h2,aHp (fun e=>h (h2.trans e.symm))]
  rw [aHp h2,aHp h2]
def kH:cN→Nat→cN→cN×Nat
 | l,c,[]=>(l,c)
 | l,c,(k,v,_)::r=>kH (lK l k v c) (uW l k c) r
theorem J1 (k v:ByteArray) (n:Nat):∀ (ps l:cN) (c:Nat),kH l c (ps++[(k,v,n)])=(lK (kH l c ps).1 k v (kH l c ps).2,uW (kH l c ps).1 k (kH l c ps).2)
 | [],l,c=>rfl
 | (k',a,m)::r,l,c=>J1 k v n r _ _
theorem UP:∀ (ps l:cN) (c:Nat),fI l c→gX l→fI (kH l c ps).1 (kH l c ps).2∧gX (kH l c ps).1
 | [],l,c,h1,h2=>⟨h1,h2⟩
 | (k,v,n)::r,l,c,h1,h2=>UP r _ _ (M0 h1 k v) (M1 h2 k v c)
theorem aA6 (k2:ByteArray):∀ (ps l:cN) (c:Nat),gX ps→eN (kH l c ps).1 k2=(eN ps k2).orElse fun _=>eN l k2
 | [],l,c,_=>rfl
 | (k,v,n)::r,l,c,h=>by
  have hn:k∉r.map Prod.fst∧gX r:=List.nodup_cons.1 h;show eN (kH (lK l k v c) (uW l k c) r).1 k2=_;rw [aA6 k2 r _ _ hn.2,EX,eN];by_cases h2:k=k2
  ·subst h2;rw [aHq rfl,aHq rfl,iX.2 hn.1];rfl
  rw [aHp h2,aHp h2]
theorem aBB {a b:cN} (h:a.Perm b) (k:ByteArray):gX a→eN a k=eN b k:=by
 induction h with
 | nil=>exact fun _=>rfl
 | cons x h ih =>
  obtain ⟨k',v,n⟩:=x;intro hn;rw [eN,eN,ih (List.nodup_cons.1 hn).2]
 | swap x y l =>
  obtain ⟨k1,v1,n1⟩:=x;obtain ⟨k2,v2,n2⟩:=y;intro hn;rw [eN,eN,eN,eN];by_cases e1:k2=k
  ·by_cases e2:k1=k
   ·exact absurd (e1.trans e2.symm) (by have:=(List.nodup_cons.1 hn).1;intro e;subst e;exact this (aID.2 (.inl rfl)))
   rw [aHq e1,aHp e2,aHq e1]
  rw [aHp e1,aHp e1]
 | trans h1 h2 ih1 ih2=>exact fun hn=>(ih1 hn).trans (ih2 ((h1.map _).nodup_iff.1 hn))
def lJ (l:cN) (s:List Nat):cN:=s.filterMap fun i=>l[i]?
theorem D0 {l:cN} {s:List Nat} {i:Nat} {p:ByteArray×ByteArray×Nat} (h:l[i]?=some p):lJ l (s++[i])=lJ l s++[p]:=by rw [lJ,lJ,List.filterMap_append,List.filterMap_cons,h];rfl
theorem MG:∀ l:cN,lJ l (List.range l.length)=l:=fun l=>by
 refine List.ext_getElem? fun i=>?_;have h:∀ n,n≤l.length→lJ l (List.range n)=l.take n:=by
  intro n
  induction n with
  | zero=>intro _;rfl
  | succ n ih =>
   intro hn;rw [List.range_succ,D0 (aHw (show n < l.length by omega)),ih (by omega),List.take_add_one,aHw (show n < l.length by omega)];rfl
 rw [h _ (aHx _),List.take_length]
theorem SF {l:cN} {s:List Nat} (hd:s.Nodup) (hb:∀ i,i∈s→i < l.length) (ha:∀ i,i < l.length→i∈s):(lJ l s).Perm l:=by have hp:s.Perm (List.range l.length):=(List.perm_ext_iff_of_nodup hd List.nodup_range).2 fun i=>⟨fun h=>List.mem_range.2 (hb i h),fun h=>ha i (List.mem_range.1 h)⟩;have:=hp.filterMap (fun i=>l[i]?);rw [show (List.range l.length).filterMap (fun i=>l[i]?)=l from MG l] at this;exact this
theorem G6 {id:Nat} {o:Ob} {H:aE} (h:H.get id=some o) (j:Nat):aE.get ((id,o)::H) j=H.get j:=by
 by_cases e:j=id
 ·subst e;rw [h];exact get_cons_same _ _ _
 exact get_cons_other _ _ e
abbrev pO (l:cN) (c:Nat) (ps:cN):Ob:=cB (kH l c ps).1 (kH l c ps).2
theorem aGR (l l2:cN) (c c2:Nat) (H:aE) (hl2:l2.length < 1099511627776) (hst:fI l2 c2) (h0:H.get 1101=some (cB l c)) (h1:H.get 950=some (cB l2 c2)) (h6:H.get 946=none) (hcl:bT H) :
  aK Tryz.prog 104 [.mp 1101 0,.mp 950 0] H (fun r H'=>r=.tup []∧∃ ps,ps.Perm l2∧H'=(1101,pO l c ps)::H):=by
 have g1:∀ o o2,aE.get ((946,o)::(1101,o2)::H) 950=some (cB l2 c2):=fun o o2=>by rw [get_cons_other _ _ (by decide),get_cons_other _ _ (by decide)];exact h1
 have g2:∀ o o2,aE.get ((946,o)::(1101,o2)::H) 1101=some o2:=fun o o2=>by rw [get_cons_other _ _ (by decide)];exact get_cons_same _ _ _
 refine Bd func104 rfl ntmps104<|Sr<|Dd aB<|Dd (by exact E4 (q:=946) (κ:=iU) (l:=cU l2) rfl bL rfl h1 rfl rfl rfl h6)<|Zz<|aJ ?_;refine bG (σ:=List Nat) (fun s=>([(0,.mp 1101 0),(7,.it 946 0)],(946,IA 950 l2 c2 s)::(1101,pO l c (lJ l2 s))::H)) (fun s=>s.Nodup∧∀ i,i∈s→i < l2.length) (fun s=>l2.length - s.length) [] ⟨List.nodup_nil,by simp⟩ ?_ ?_
 ·exact cC.get' ⟨⟨_,rfl,rfl⟩,⟨_,rfl,rfl⟩,trivial⟩ (fun j=>by
   by_cases e:j=946
   ·subst e;rw [get_cons_same];exact(get_cons_same _ _ _).symm
   rw [get_cons_other _ _ e,get_cons_other _ _ e];exact G6 h0 j)
 rintro s ⟨hd,hb⟩;have hsl:s.length≤l2.length:=lW _ _ hd hb;refine Sq<|Rg ?_;refine gC rfl rfl (M9 (κ:=iU) (l:=cU l2) rfl rfl (get_cons_same _ _ _) rfl rfl (g1 _ _) rfl rfl rfl (aHx _) (aHx _)) ?_;rintro _ _ (⟨rfl,rfl,hn0⟩|⟨hni,hnp,hn1,hn2,rfl,rfl⟩)
 ·refine Dd eC<|Zz<|Sq ?_;refine Cn ?_ ?_<;>intro hc1
  ·cases hc1
  refine aV ?_;have hall:∀ i,i < l2.length→i∈s:=fun i hi=>by
   have hq:(cU l2)[i]?=some ((l2[i]).1,sv (l2[i]).2.1,(l2[i]).2.2):=by rw [cU,aIL,aHw hi];rfl
   have:=hn0 _ (aIB hq);obtain ⟨j,hj,e⟩:=List.mem_map.1 this;have e2:lH l2 j=lH l2 i:=by
    rw [e,lH,aHw hi];rfl
   have:=LQ hst (hb j hj) hi e2
   rwa [this] at hj
  exact eQ (H':=(1101,pO l c (lJ l2 s))::H) (.inl rfl) rfl (Fin.pops' [(946,IA 950 l2 c2 s)] (by simp) (bT.app (D:=[(1101,pO l c (lJ l2 s))]) (qD.spec ⟨aU _ _ _,trivial⟩) hcl) (by simp [get_cons_other,h6]) (by simp [get_cons_other,h6])) ⟨rfl,_,SF hd hb hall,rfl⟩
 obtain ⟨p,hp,rfl⟩:=xX hn1;have hlt:hni < l2.length:=(aHv.1 hp).1;have hst2:lH l2 hni=p.2.2:=by rw [lH,hp];rfl
 have hn3:hni∉s:=fun hm=>hn2 (List.mem_map.2 ⟨hni,hm,hst2⟩);have hb2:∀ i,i∈s++[hni]→i < l2.length:=fun i hi=>by
  rcases List.mem_append.1 hi with h|h
  ·exact hb i h
  rw [aHu] at h;omega
 have hd2:(s++[hni]).Nodup:=List.nodup_append.2 ⟨hd,by simp,fun a ha b hb e=>by rw [aHu] at hb;subst hb;subst e;exact hn3 ha⟩;have hlen:=lW _ _ hd2 hb2;rw [aHs,List.length_singleton] at hlen;have hit:IA 950 l2 c2 (s++[hni])=⟨0,0,0,gU (.mp 950 0) c2 c2 (s.map (lH l2)++[p.2.2])⟩:=by rw [IA,List.map_append,List.map_cons,List.map_nil,hst2]
 have hpk:pO l c (lJ l2 (s++[hni]))=⟨0,0,uW (kH l c (lJ l2 s)).1 p.1 (kH l c (lJ l2 s)).2,jI iU (cU (lK (kH l c (lJ l2 s)).1 p.1 p.2.1 (kH l c (lJ l2 s)).2))⟩:=by rw [pO,D0 hp,J1]
 refine Dd eC<|Zz<|Sq ?_;refine Cn ?_ ?_<;>intro hc2
 ·refine aF<|aJ<|Sr<|Dd (by exact E5 (κ:=iU) (seen:=s.map (lH l2)) (p:=(p.1,sv p.2.1,p.2.2)) (since:=c2) rfl rfl (get_cons_same _ _ _) rfl rfl ((get_cons_other _ _ (by decide)).trans (g1 _ _)) rfl rfl rfl hn1)<|Dd eC<|Dd eC<|Dd aR<|Dd aR<|Zz<|Rg<|Dd aB<|Dd aB<|Dd aB<|Uu (by exact oY (κ:=iU) (l:=cU (kH l c (lJ l2 s)).1) (.inl rfl) bL aC rfl ((get_cons_other _ _ (by decide)).trans (g2 _ _)) rfl rfl rfl rfl rfl (yC _ _ _ _) (BX _ _ _))<|Zz ?_;refine⟨s++[hni],⟨hd2,hb2⟩,by rw [aHs,List.length_singleton];omega,?_⟩;rw [hit,hpk];exact cC.get' ⟨⟨_,rfl,rfl⟩,⟨_,rfl,rfl⟩,trivial⟩ (fun j=>tS [_,_] [_,_,_,_] (by repeat(first|exact trivial|refine⟨rfl,?_⟩)) j)
 cases hc2
def qA (l:cN) (P:List ByteArray):cN:=P.foldl zV l
theorem KX {l:cN} {P:List ByteArray} {k:Nat} {s:ByteArray} (h:P[k]?=some s):qA l (P.take (k+1))=zV (qA l (P.take k)) s:=by rw [qA,qA,bW h,List.foldl_append];rfl
theorem VV:∀ (P:List ByteArray) (l:cN) (c:Nat),fI l c→gX l→fI (qA l P) c∧gX (qA l P)
 | [],l,c,h1,h2=>⟨h1,h2⟩
 | k::r,l,c,h1,h2=>VV r _ c (aDc h1 k) (VD h2 k)
theorem aB7 (k2:ByteArray):∀ (P:List ByteArray) (l:cN),gX l→eN (qA l P) k2=if inB P k2=true then none else eN l k2
 | [],l,_=>by rw [aHp (fun h=>by have:=lC.1 h;cases this)];rfl
 | k::r,l,h=>by
  show eN (qA (zV l k) r) k2=_;rw [aB7 k2 r _ (VD h k),U9 k k2 h];by_cases h1:inB r k2=true
  ·rw [aHq h1,aHq (lC.2 (aID.2 (.inr (lC.1 h1))))]
  rw [aHp h1];by_cases h2:k=k2
  ·rw [aHq h2,aHq (lC.2 (aID.2 (.inl h2.symm)))]
  rw [aHp h2,aHp (fun hm=>by rcases aID.1 (lC.1 hm)with e|e;exact h2 e.symm;exact h1 (lC.2 e))]
theorem aCK (l l2:cN) (c c2:Nat) (P:List ByteArray) (H:aE) (hl2:l2.length < 1099511627776) (hP:P.length < 1099511627776) (hst:fI l2 c2) (h0:H.get 1101=some (cB l c)) (h1:H.get 950=some (cB l2 c2)) (h6:H.get 946=none) (hcl:bT H) :
  aK Tryz.prog 53 [.mp 1101 0,.mp 950 0,.pv (aX P)] H (fun r H'=>r=.tup []∧∃ ps,ps.Perm l2∧H'=(1101,cB (qA (kH l c ps).1 P) (kH l c ps).2)::H):=by
 have hml:(P.map encStr).length=P.length:=aHr _;refine Bd func53 rfl ntmps53<|Sr<|Dd aB<|Dm ?_;refine gC rfl rfl (aA rfl rfl call104 rfl (aGR l l2 c c2 H hl2 hst h0 h1 h6 hcl)) ?_;rintro r H' ⟨rfl,ps,hps,rfl⟩;refine Zz<|Sr<|Dd aB<|Dd (jY aO)<|Dd aB<|Zz<|aJ ?_;refine bG (σ:=Nat) (fun k=>([(0,.mp 1101 0),(11,.pv (aX P)),(12,iv ((P.map encStr).length:Int)),(13,iv (k:Int))],(1101,cB (qA (kH l c ps).1 (P.take k)) (kH l c ps).2)::H)) (fun k=>k≤P.length) (fun k=>P.length - k) 0 (aII _) ?_ ?_
 ·exact E0
 intro k hk;refine Sr<|Dd cP<|Zz<|Sq ?_;refine Cn ?_ ?_<;>intro hc1
 ·have hlt:k < P.length:=by have:=aHn hc1;omega
  obtain ⟨s,hs⟩:=aY hlt;have hi:=cV (f:=encStr) hs;refine aF<|Sq<|aJ<|Sr<|Dd (sU cD)<|Dd (gW aQ)<|Dd aR<|Zz<|Rg<|Dd aB<|Dd aB<|Uu (by exact P7 (κ:=iU) (l:=cU (qA (kH l c ps).1 (P.take k))) rfl bL aC rfl (get_cons_same _ _ _) rfl rfl rfl rfl (M8 s _))<|Zz<|Rg<|Dd rL<|Dd aB<|Zz ?_;refine⟨k+1,by omega,by omega,?_⟩;rw [KX hs];exact cC.get' ⟨⟨_,rfl,rfl⟩,⟨_,rfl,rfl⟩,⟨_,rfl,rfl⟩,⟨_,rfl,by rfl⟩,trivial⟩ (fun j=>lD _ _ _ _ j)
 have hge:k=P.length:=by have:=aHo hc1;omega
 subst hge;rw [List.take_length];refine aV ?_;exact eQ (H':=(1101,cB (qA (kH l c ps).1 P) (kH l c ps).2)::H) (.inl rfl) rfl Fin.refl ⟨rfl,ps,hps,rfl⟩
end Go.Proofs.YtmkgeogoojcciaaGreatDoor
section
namespace Go.Abs
open Go.Lib
theorem wX:∀ (l:List UInt8) (a:Nat),decFrom a l=(decFrom 0 l).map fun n=>a*10 ^ l.length+n
 | [],a=>by simp [decFrom]
 | b::r,a=>by
  rw [decFrom,decFrom];cases h:digitVal b with
  | none=>rfl
  | some d =>
   show decFrom (a*10+d) r=(decFrom (0*10+d) r).map _;rw [wX r (a*10+d),wX r (0*10+d),Option.map_map];congr 1;funext n;show (a*10+d)*10 ^ r.length+n=a*10 ^ (r.length+1)+((0*10+d)*10 ^ r.length+n);rw [Nat.pow_succ];obtain ⟨p,hp⟩:∃ p,p=10 ^ r.length:=⟨_,rfl⟩;rw [← hp,Nat.add_mul,Nat.mul_assoc,Nat.mul_comm 10 p,Nat.zero_mul,aIJ];omega
theorem B2 (l:List UInt8):∀ z,decFrom 0 (List.replicate z 48++l)=decFrom 0 l
 | 0=>rfl
 | z+1=>by
  have h48:digitVal 48=some 0:=by decide
  rw [List.replicate_succ,List.cons_append,decFrom,h48];exact B2 l z
theorem sB (b:List UInt8):∀ (a:List UInt8) (n:Nat),decFrom n (a++b)=(decFrom n a).bind fun x=>decFrom x b
 | [],n=>rfl
 | c::a,n=>by
  rw [List.cons_append,decFrom,decFrom];cases h:digitVal c with
  | none=>rfl
  | some d=>exact sB b a _
theorem YX {l:List UInt8} {u:Nat} (hne:l≠[]) (hm:∀ b∈l,48≤b.toNat∧b.toNat≤57) (hd:decFrom 0 l=some u):atoi l=some (u:Int):=by
 cases l with
 | nil=>exact absurd rfl hne
 | cons b r =>
  have hb:=hm b List.mem_cons_self;have e2:decNat (b::r)=some u:=by rw [decNat,hd];rfl
  have h43:¬ (b == 43)=true:=fun h=>by rw [beq_iff_eq] at h;rw [h] at hb;exact absurd hb.1 (by decide)
  have h45:¬ (b == 45)=true:=fun h=>by rw [beq_iff_eq] at h;rw [h] at hb;exact absurd hb.1 (by decide)
  rw [atoi,aHp h45,aHp h43,e2];rfl
theorem NS {l:List UInt8} {u:Nat} (hl:l.length≤18) (hne:l≠[]) (hm:∀ b∈l,48≤b.toNat∧b.toNat≤57) (hd:decFrom 0 l=some u):atoiAll l=.ok (u:Int):=by rw [atoiAll_short _ hl,YX hne hm hd];rfl
end Go.Abs
namespace Go.Proofs.YtmkgeogoojcciaaGreatDoor
open Go.Proofs.Tryz
open Go.Abs Go.Lib
instance memDecZ (k:ByteArray) (l:List ByteArray):Decidable (k∈l):=decidable_of_iff _ lC
theorem xA {l:List UInt8} {u:Nat} (hl:l.length≤18) (hne:l≠[]) (hm:∀ b∈l,48≤b.toNat∧b.toNat≤57) (hd:decFrom 0 l=some u):lG (ofL l)=false∧fH (ofL l)=(u:Int):=by
 have h:=NS hl hne hm hd;constructor
 ·rw [lG,bB,h]
 rw [fH,xB,bB,h]
theorem S9 {n w:Nat} {b:UInt8} (h:b∈dg n w):48≤b.toNat∧b.toNat≤57:=by
 rw [dg] at h;rcases List.mem_append.1 h with h|h
 ·rw [List.eq_of_mem_replicate h];decide
 exact rA n h
theorem aE5 (n w:Nat):dg n w≠[]:=by rw [dg];intro h;exact qB n (List.append_eq_nil_iff.1 h).2
theorem NJ (n w:Nat):decFrom 0 (dg n w)=some n:=by rw [dg,B2,iY]
theorem aBN (place a n:Nat) (ha:a < 10) (hn:n < 10000000):(hS place a n).extract 16 24=ofL (dg a 1++dg n 7):=gE (by
 have h8:(dg a 1++dg n 7).length=8:=by rw [aHs,jT (nN a (by omega) (by omega)),jT (nN n (by omega) (by omega))]
 rw [dS,bB,bB,D6,pR,oU,List.drop_left' (nD _),List.take_left' h8])
theorem aBM (place a n:Nat) (ha:a < 10) (hn:n < 10000000):lG ((hS place a n).extract 16 24)=false∧fH ((hS place a n).extract 16 24)=((a*10000000+n:Nat):Int):=by
 have h7:(dg n 7).length=7:=jT (nN n (by omega) (by omega));have h8:(dg a 1++dg n 7).length=8:=by rw [aHs,jT (nN a (by omega) (by omega)),h7]
 rw [aBN place a n ha hn];refine xA (by omega) (fun h=>aE5 a 1 (List.append_eq_nil_iff.1 h).1) (fun b hb=>?_) ?_
 ·rcases List.mem_append.1 hb with h|h
  ·exact S9 h
  exact S9 h
 rw [sB,NJ,Option.bind_some,wX,NJ,h7];rfl
theorem P1 {k place a n:Nat} (ha:a < 2) (hn:n≤k) (hk:k < 10000000):pF (hS place a n)=a∧pE (hS place a n)=n∧kJ k place (hS place a n)=true:=by
 obtain ⟨h1,h2⟩:=aBM place a n (by omega) (by omega);have hb:qT (hS place a n)=false:=by
  rw [qT,h1,h2,Bool.false_or];exact decide_eq_false (by omega)
 have hu:W5 (hS place a n)=a*10000000+n:=by rw [W5,h2,aIC]
 have hA:pF (hS place a n)=a:=by rw [pF,hb,aHp (by decide),hu];omega
 have hN:pE (hS place a n)=n:=by rw [pE,hb,aHp (by decide),hu];omega
 refine⟨hA,hN,?_⟩;rw [kJ,hb,hA,hN,decide_eq_true ha,decide_eq_true hn,decide_eq_true rfl];rfl
theorem W8 (place:Nat) {p:List UInt8} (h2:p.length≤46):(ofL (fE place p)).extract 16 18=ofL (dg p.length 2)∧(ofL (fE place p)).extract 18 (18+p.length)=ofL p:=by
 have hd:(dg p.length 2).length=2:=jT (nN _ (by omega) (by omega));have e:(fE place p).drop 16=dg p.length 2++(p++zB (48 - (dg p.length 2++p).length)):=by rw [fE,pR,oU,List.drop_left' (nD _),List.append_assoc]
 have e2:(fE place p).drop 18=p++zB (48 - (dg p.length 2++p).length):=by
  rw [show 18=16+2 from rfl,← List.drop_drop,e,List.drop_left' hd]
 constructor
 ·refine gE ?_;rw [dS,bB,bB,e];exact List.take_left' hd
 refine gE ?_;rw [dS,bB,bB,e2,show 18+p.length - 18=p.length by omega,List.take_left]
theorem PB {place:Nat} {p:List UInt8} (h1:1≤p.length) (h2:p.length≤46):C3 place (ofL (fE place p))=ofL p:=by
 obtain ⟨c1,c2⟩:=W8 place h2;have hd:(dg p.length 2).length=2:=jT (nN _ (by omega) (by omega));obtain ⟨n1,n2⟩:=xA (l:=dg p.length 2) (u:=p.length) (by omega) (aE5 _ _) (fun b=>S9) (NJ _ _);have hb:GE (ofL (fE place p))=false:=by
  rw [GE,c1,n1,n2,Bool.false_or,decide_eq_false (by omega),decide_eq_false (by omega)];rfl
 have hp:XA (ofL (fE place p))=ofL p:=by rw [XA,c1,n2,aIC,c2]
 rw [C3,hb,aHp (by decide),hp,bB,aHq rfl]
theorem PC (t:List UInt8):∀ i,(List.range i).flatMap (gH t)=t.take (46*i)
 | 0=>by rw [List.range_zero,Nat.mul_zero,List.take_zero];rfl
 | i+1=>by
  rw [List.range_succ,List.flatMap_append,PC t i,List.flatMap_cons,List.flatMap_nil,List.append_nil,gH,Nat.mul_succ];exact(List.take_add ..).symm
theorem UU (t:List UInt8):((List.range (dD t)).map (gH t)).flatten=t:=by rw [← List.flatMap_def,PC,List.take_of_length_le (by rw [dD];omega)]
theorem PD {t:List UInt8} {i:Nat} (h:i < dD t):1≤(gH t i).length∧(gH t i).length≤46:=by rw [qU];rw [dD] at h;omega
theorem fB (x:ByteArray) (L:List ByteArray):aT (x::L)=decDigits x.size++58::(x.data.toList++aT L):=by
 have h1:aT (x::L)=(uM x).data.toList++aT L:=by rw [aT,List.flatMap_cons];rfl
 rw [h1,uM,ByteArray.data_append,Array.toList_append,ByteArray.data_append,Array.toList_append,lB];simp
theorem aB5 (n:Nat):(58:UInt8)∉decDigits n:=fun h=>by
 have:=rA n h;exact absurd this.2 (by decide)
theorem X6 {x:ByteArray} (L:List ByteArray) (hx:x.size < 1000000000000000000):nY (aT (x::L))=false∧Q9 (aT (x::L))=x.size∧tW (aT (x::L))=x.data.toList++aT L:=by
 obtain ⟨e1,e2⟩:=QN (r:=x.data.toList++aT L) (aB5 x.size);rw [← fB] at e1 e2;obtain ⟨n1,n2⟩:=xA (l:=decDigits x.size) (u:=x.size) (dT (k:=18) (by omega) (by decide)) (qB _) (fun b=>rA _) (iY _);have hm:(58:UInt8)∈aT (x::L):=by rw [fB];simp
 have hi:fL (x.size:Int)=ofL (decDigits x.size):=gE (by rw [bB,lB]);refine⟨?_,?_,e2⟩
 ·rw [nY,e1,e2,n1,n2,decide_eq_true hm,hi,decide_eq_true rfl,decide_eq_false (by omega),decide_eq_false (by rw [aHs,dP];omega)];rfl
 rw [Q9,e1,n2,aIC]
theorem yU:∀ (L acc:List ByteArray),(∀ x∈L,x.size < 1000000000000000000)→iJ (aT L).length (aT L) acc=(acc++L,true)
 | [],acc,_=>by rw [List.append_nil];rfl
 | x::L,acc,h=>by
  obtain ⟨h1,h2,h3⟩:=X6 L (h x List.mem_cons_self);have hne:aT (x::L)≠[]:=by rw [fB];simp
  rw [vY hne h1,h2,h3,List.drop_left' (dP x),List.take_left' (dP x),MP,yU L _ (fun y hy=>h y (List.mem_cons_of_mem _ hy)),List.append_assoc];rfl
theorem lT {L:List ByteArray} (h:∀ x∈L,x.size < 1000000000000000000):cS (aT L)=(L,true):=by rw [cS,yU L [] h,List.nil_append]
theorem D5 (A B:List ByteArray):aT (A++B)=aT A++aT B:=List.flatMap_append
end Go.Proofs.YtmkgeogoojcciaaGreatDoor
end
namespace Go.Proofs.YtmkgeogoojcciaaGreatDoor
open Go.Proofs.Tryz
open Go.Abs
theorem aBF (s:ByteArray) (H:aE):aK Tryz.prog 172 [sv s] H (fun r H'=>r=bv false∧H'=H):=by refine Pu ?_;refine Bd func172 rfl ntmps172<|Sr<|Dd aR<|Zz<|Sr<|Dd aB<|Dd aB<|Dd ZG<|Dd aR<|Zz<|aH<|Rt ?_;exact⟨by simp,rfl⟩
theorem aD8 (s t:ByteArray) (H:aE):aK Tryz.prog 146 [sv s,sv t] H (fun r H'=>r=bv (lI s t)∧H'=H):=by
 refine Pu ?_;refine Bd func146 rfl ntmps146<|Sr<|Dd aR<|Zz<|Sq ?_;refine cQ (t:=4) (n:=15) (X:=lI s t) ?_ ?_
 ·all_goals refine Dd aB ?_
  all_goals refine Dd (by exact aA rfl rfl call172 rfl (aBF _ _))<|Dm ?_
  all_goals refine Sp 7 (fun h7=>?_) fun h7=>?_
  all_goals try contradiction
  all_goals refine Fo<|Fo<|Fo<|Dd cX<|Dm ?_
  all_goals refine Sp 12 (fun h12=>?_) fun h12=>?_
  all_goals try contradiction
  all_goals refine On aB<|On aB<|On (by exact GG rfl rfl rfl)<|Dd cX<|Da ?_
  all_goals(exact⟨⟨_,rfl,by rfl⟩,rfl,rfl,rfl⟩)
 exact aH<|Rt<|Qq
def gI:List ByteArray→Bool
 | a::b::r=>!lI b a&&gI (b::r)
 | _=>true
theorem LV {a:ByteArray} {l:List ByteArray} (h:gI (a::l)=true):gI l=true:=by
 cases l with
 | nil=>rfl
 | cons b r=>exact(aIA _ _▸h:_∧_).2
theorem AX:∀ (i:Nat) {l:List ByteArray},gI l=true→gI (l.drop i)=true
 | 0,_,h=>h
 | i+1,[],_=>rfl
 | i+1,a::l,h=>AX i (LV h)
theorem RM {l:List ByteArray} {k:Nat} {a b:ByteArray} (ha:l[k]?=some a) (hb:l[k+1]?=some b):gI (l.drop k)=(!lI b a&&gI (l.drop (k+1))):=by obtain ⟨h1,e1⟩:=aHv.1 ha;obtain ⟨h2,e2⟩:=aHv.1 hb;rw [List.drop_eq_getElem_cons h1,List.drop_eq_getElem_cons h2,e1,e2];rfl
theorem PY (l:List ByteArray) (H:aE) (hl:l.length < 1099511627776):aK Tryz.prog 119 [.pv (aX l)] H (fun r H'=>r=bv (gI l)∧H'=H):=by
 refine Pu ?_;have hml:(l.map encStr).length=l.length:=aHr _;refine Bd func119 rfl ntmps119<|Sr<|Dd aR<|Zz<|Sq<|Sr<|Dd aB<|Dd (jY aO)<|Dd (by exact dG rfl rfl rfl (show IntKind.i64.wrap (((l.map encStr).length:Int) - 1)=((l.map encStr).length:Int) - 1 by rw [IntKind.wrap_i64];omega))<|Dd aR<|Zz<|aJ ?_;refine bG (σ:=Nat) (fun k=>([(0,.pv (aX l)),(3,iv ((k:Int) - 1))],[])) (fun k=>k≤l.length∧gI (l.drop (k - 1))=true) (fun k=>k) l.length ⟨aHx _,?_⟩ ?_ ?_
 ·have:(l.drop (l.length - 1)).length≤1:=by rw [aIG];omega
  match l.drop (l.length - 1),this with
  | [],_=>rfl
  | [a],_=>rfl
 ·rw [hml];exact Wk
 rintro k ⟨hk,hs⟩;refine Sq<|Sr<|Dd aB<|Dd yP<|Zz ?_;refine Cn ?_ ?_<;>intro hc1
 ·have hlt:2≤k:=by have:=aHn hc1;omega
  obtain ⟨m,rfl⟩:∃ m,k=m+2:=⟨k - 2,by omega⟩;obtain ⟨b,hb⟩:=aY (l:=l) (k:=m+1) (by omega);obtain ⟨a,ha⟩:=aY (l:=l) (k:=m) (by omega);have hib:=cV (f:=encStr) hb;have hia:=cV (f:=encStr) ha;have hat:=RM ha hb;rw [show m+2 - 1=m+1 by omega] at hs;rw [hs,Bool.and_true] at hat;refine aF<|Sq<|aJ<|Sq<|bF follows<|Cq aB<|Cq aB<|Cq (by exact aZ (m:=m+1) rfl cD rfl rfl (by omega) (show (((m+2:Nat):Int) - 1).toNat=m+1 by omega) hib rfl)<|Cq (gW aQ)<|Cq aB<|Cq aB<|Cq (by exact dG rfl rfl rfl (show IntKind.i64.wrap ((((m+2:Nat):Int) - 1) - 1)=((m:Nat):Int)by rw [IntKind.wrap_i64];omega))<|Cq (sU cD)<|Cq (gW aQ)<|Cq (by exact aA rfl rfl call146 rfl (aD8 b a _))<|cA<|Kr ?_;refine Cn ?_ ?_<;>intro hc2
  ·have hlt2:lI b a=true:=hc2;have h0:gI l=false:=by
    rw [Bool.eq_false_iff];intro h;rw [AX m h,hlt2] at hat;cases hat
   rw [h0];exact Sr<|Dd aR<|Zz<|aH<|Rt<|Qq
  have hlt2:lI b a=false:=hc2;refine aF<|Rg<|Dd aB<|Dd (by exact dG rfl rfl rfl (show IntKind.i64.wrap ((((m+2:Nat):Int) - 1) - 1)=((m+1:Nat):Int) - 1 by rw [IntKind.wrap_i64];omega))<|Da ?_;refine⟨m+1,⟨by omega,?_⟩,by omega,?_⟩
  ·rw [show m+1 - 1=m by omega,hat,hlt2];rfl
  exact Wk
 have hge:k≤1:=by have:=aHo hc1;omega
 have h0:gI l=true:=by rw [show k - 1=0 by omega] at hs;exact hs
 rw [h0];exact aV<|Sr<|Dd aR<|Zz<|aH<|Rt<|Qq
end Go.Proofs.YtmkgeogoojcciaaGreatDoor
section
namespace Go.Proofs.YtmkgeogoojcciaaGreatDoor
open Go.Proofs.Tryz
open Go.Abs
structure M3 where
 k:ByteArray
 b:ByteArray
 o:ByteArray
 t:ByteArray
end Go.Proofs.YtmkgeogoojcciaaGreatDoor
namespace Go.Abs
end Go.Abs
namespace Go.Proofs.YtmkgeogoojcciaaGreatDoor
open Go.Proofs.Tryz
open Go.Abs
end Go.Proofs.YtmkgeogoojcciaaGreatDoor
end
namespace Go.Proofs.YtmkgeogoojcciaaGreatDoor
open Go.Proofs.Tryz
open Go.Abs
theorem XU (l:List ByteArray) (s:ByteArray) (H:aE) (hl:l.length < 4611686018427387904):aK Tryz.prog 123 [.pv (aX l),sv s] H (fun r H'=>r=iv (aBR (fun x=>decide (s=x)) l)∧H'=H):=by
 refine Pu ?_;have hml:(l.map encStr).length=l.length:=aHr _;refine Bd func123 rfl ntmps123<|Sr<|Dd aR<|Zz<|Sq<|Sr<|Dd aB<|Dd (jY aO)<|Dd aB<|Zz<|aJ ?_;refine bG (σ:=Nat) (fun k=>([(0,.pv (aX l)),(1,sv s),(7,iv ((l.map encStr).length:Int)),(8,iv (k:Int))],[])) (fun k=>k≤l.length∧∀ j,j < k→∀ b,l[j]?=some b→decide (s=b)=false) (fun k=>l.length - k) 0 ⟨by omega,by omega⟩ ?_ ?_
 ·exact E0
 rintro k ⟨hk,hno⟩;refine Sr<|Dd cP<|Zz<|Sq ?_;refine Cn ?_ ?_<;>intro hc1
 ·have hlt:k < l.length:=by have:=aHn hc1;omega
  obtain ⟨o,ho⟩:=aY hlt;have hi:=cV (f:=encStr) ho;refine aF<|Sq<|aJ<|Sr<|Dd aB<|Dd aR<|Zz<|Sr<|Dd aB<|Dd aB<|Dd aB<|Dd (sU cD)<|Dd (gW aQ)<|Dd se'<|Zz ?_;refine Cn ?_ ?_<;>intro hc2
  ·refine Sr<|Dd aB<|Dd aR<|Zz<|aH<|Rt ?_;exact⟨by rw [aBR,X2 hno ho hc2],rfl⟩
  refine aF<|Rg<|Dd rL<|Dd aB<|Zz ?_;exact⟨k+1,⟨by omega,aA7 hno ho hc2⟩,by omega,E0⟩
 have hge:k=l.length:=by have:=aHo hc1;omega
 subst hge;refine aV<|Sr<|Dd aR<|Zz<|aH<|Rt ?_;exact⟨by rw [aBR,X3 hno],rfl⟩
theorem aDj (l:List ByteArray) (s:ByteArray):l.any (fun x=>decide (s=x))=inB l s:=by rw [inB];congr 1;funext x;rw [Bool.eq_iff_iff,aHy,aHy];exact eq_comm
theorem NN (l:List ByteArray) (s:ByteArray) (H:aE) (hl:l.length < 4611686018427387904):aK Tryz.prog 92 [.pv (aX l),sv s] H (fun r H'=>r=bv (inB l s)∧H'=H):=by refine Pu ?_;refine Bd func92 rfl ntmps92<|Sr<|Dd aR<|Zz<|Sr<|Dd aB<|Dd aB<|Dd (by exact aA rfl rfl call123 rfl (XU l s _ hl))<|Dd CD<|Dd aR<|Zz<|aH<|Rt ?_;exact⟨by rw [aBQ,aDj],rfl⟩
def m1 (p:M3):ByteArray×Bool:=if p.t=p.o then(p.o,false)else if p.t=p.b then(p.o,false)else if p.o=p.b then(p.t,false)else(p.b,true)
theorem TO (l:List ByteArray) (q:ByteArray→Bool):(List.range l.length).any (fun k=>((l[k]?).map q).getD false)=l.any q:=by
 rw [Bool.eq_iff_iff,List.any_eq_true,List.any_eq_true];constructor
 ·rintro⟨k,hk,h⟩;have hl:=List.mem_range.1 hk;rw [aHw hl] at h;exact⟨_,List.getElem_mem hl,h⟩
 rintro⟨s,hs,h⟩;obtain ⟨k,hk⟩:=aIM.1 hs;exact⟨k,List.mem_range.2 (aHv.1 hk).1,by rw [hk];exact h⟩
theorem K5 (fv:AV) (l:List ByteArray) (q:ByteArray→Bool) (H:aE) (hl:l.length < 4611686018427387904) (hf:∀ s,iL Tryz.prog fv [sv s] H (fun r H'=>r=bv (q s)∧H'=H)) :
  aK Tryz.prog 93 [.pv (aX l),fv] H (fun r H'=>r=bv (l.any q)∧H'=H):=by
 have h:=I9 fv l (fun k=>((l[k]?).map q).getD false) (fun _=>H) hl (fun k s hs=>by rw [hs];exact hf s);rw [TO] at h;exact h
def cR (s:ByteArray):Bool:=!decide (s=⟨#[]⟩)&&decide ((s.size:Int)≤200)
theorem U3 (s:ByteArray) (H:aE):aK Tryz.prog 91 [sv s] H (fun r H'=>r=bv (cR s)∧H'=H):=by
 refine Pu ?_;refine Bd func91 rfl ntmps91<|Sr<|Dd aR<|Zz<|Sq ?_;refine cQ (t:=2) (n:=9) (X:=cR s) ?_ ?_
 ·all_goals refine Dd aB ?_
  all_goals refine Dd ZG<|Dm ?_
  all_goals refine Sp 5 (fun h5=>?_) fun h5=>?_
  all_goals try contradiction
  all_goals first|refine Fo<|Fo<|Fo ?_|refine On aB<|On (mD aC)<|On le' ?_
  all_goals refine Dd cX<|Da ?_
  all_goals(exact⟨⟨_,rfl,by(simp only [cR, *];rfl)⟩,rfl,rfl,rfl⟩)
 exact aH<|Rt<|Qq
def AI (P:List ByteArray) (p:ByteArray×ByteArray×Nat):Bool:=!cR p.1||inB P p.1
def bigV (p:ByteArray×ByteArray×Nat):Bool:=decide ((20000:Int) < (p.2.1.size:Int))
def bX (l:cN) (P:List ByteArray):Int:=if l.any (AI P)||P.any (fun s=>!cR s)then 1 else if l.any bigV then 2 else 0
def NQ (l:cN) (s:List Nat):Bool:=s.any fun i=>((l[i]?).map bigV).getD false
theorem YP {l:cN} {s:List Nat} {i:Nat} {p:ByteArray×ByteArray×Nat} (h:l[i]?=some p):NQ l (s++[i])=(NQ l s||bigV p):=by rw [NQ,NQ,List.any_append,List.any_cons,List.any_nil,Bool.or_false,h];rfl
theorem aBr {l:cN} {s:List Nat} (hb:∀ i,i∈s→i < l.length) (ha:∀ i,i < l.length→i∈s):NQ l s=l.any bigV:=by
 rw [Bool.eq_iff_iff,NQ,List.any_eq_true,List.any_eq_true];constructor
 ·rintro⟨i,hi,h⟩;rw [aHw (hb i hi)] at h;exact⟨_,List.getElem_mem (hb i hi),h⟩
 rintro⟨p,hp,h⟩;obtain ⟨i,hi⟩:=aIM.1 hp;exact⟨i,ha i (aHv.1 hi).1,by rw [hi];exact h⟩
abbrev nmB:Ob:=bx 1 53 [.pv (.fn 91)]
abbrev wgK (l:cN) (c:Nat) (s:List Nat):aE:=[(946,IA 950 l c s),(5,nmB),(950,cB l c)]
theorem OD (s:ByteArray) (H:aE) (h5:H.get 5=some nmB):aK Tryz.prog 94 [sv s,.ref 5 0 0 0] H (fun r H'=>r=bv (!cR s)∧H'=H):=by refine Bd func94 rfl ntmps94<|Sr<|Dd aR<|Zz<|Sr<|Dd (by exact bH rfl isAgg53 rfl h5 rfl rfl rfl)<|Dd aB<|Dd (by exact kZ rfl rfl rfl ((iL.fn call91 (U3 s H))))<|Dd pY<|Dd aR<|Zz<|aH ?_;refine bI (H':=H) (.inr rfl) rfl (aI rfl) Fin.refl ?_;exact Qq
theorem aCn (l:cN) (c:Nat) (P:List ByteArray) (hst:fI l c) (hl:l.length < 1099511627776) (hP:P.length < 1099511627776) :
  aK Tryz.prog 46 [.mp 950 0,.pv (aX P)] [(950,cB l c)] (fun r H'=>r=iv (bX l P)∧H'=[(950,cB l c)]):=by
 refine Bd func46 rfl ntmps46<|Sr<|Dd aR<|Zz<|Sr<|Dd (by exact dW (id:=5) rfl aFm rfl rfl)<|Uu (vJ sizeOf53)<|Zz<|Sr<|Dd aR<|Zz<|Sq<|Sr<|Dd aB<|Dd (by exact E4 (q:=946) (κ:=iU) (l:=cU l) rfl bL rfl rfl rfl rfl rfl rfl)<|Zz<|aJ ?_;refine bG (σ:=List Nat) (fun s=>([(0,.mp 950 0),(1,.pv (aX P)),(5,.ref 5 0 0 0),(6,bv (NQ l s)),(10,.it 946 0)],wgK l c s)) (fun s=>(s.Nodup∧∀ i,i∈s→i < l.length)∧∀ i,i∈s→∀ p,l[i]?=some p→AI P p=false) (fun s=>l.length - s.length) [] ⟨⟨List.nodup_nil,by simp⟩,by simp⟩ ?_ ?_
 ·exact(cC.wk (Ea<|Eb<|Ea<|Eb<|Ea<|trivial) (Hc (EY rfl _ _ _)<|Hb<|Hc (aU _ _ _)<|trivial) ⟨rfl,trivial⟩)
 rintro s ⟨⟨hd,hb⟩,hok⟩;have hsl:s.length≤l.length:=lW _ _ hd hb;have hcf:=fun H (h5:H.get 5=some nmB)=>K5 (.clo 94 [.ref 5 0 0 0]) P (fun s=>!cR s) H (by omega) (fun s=>iL.clo call94 (OD s H h5));obtain ⟨ns,hns⟩:∃ b,b=P.any (fun s=>!cR s):=⟨_,rfl⟩;rw [← hns] at hcf;refine Sq<|Rg ?_;refine gC rfl rfl (M9 (κ:=iU) (l:=cU l) rfl rfl rfl rfl rfl rfl rfl rfl rfl (aHx _) (aHx _)) ?_;rintro _ _ (⟨rfl,rfl,hn0⟩|⟨hni,hnp,hn1,hn2,rfl,rfl⟩)
 ·refine Dd eC<|Zz<|Sq ?_;refine Cn ?_ ?_<;>intro hc1
  ·cases hc1
  have hall:∀ i,i < l.length→i∈s:=fun i hi=>by
   have hq:(cU l)[i]?=some ((l[i]).1,sv (l[i]).2.1,(l[i]).2.2):=by rw [cU,aIL,aHw hi];rfl
   have:=hn0 _ (aIB hq);obtain ⟨j,hj,e⟩:=List.mem_map.1 this;have e2:lH l j=lH l i:=by
    rw [e,lH,aHw hi];rfl
   have:=LQ hst (hb j hj) hi e2
   rwa [this] at hj
  have hbig:=aBr hb hall;have hnb:l.any (AI P)=false:=by
   rw [Bool.eq_false_iff];intro h;obtain ⟨p,hp,h⟩:=List.any_eq_true.1 h;obtain ⟨i,hi⟩:=aIM.1 hp;rw [hok i (hall i (aHv.1 hi).1) p hi] at h;cases h
  have hV:bX l P=if ns=true then 1 else if l.any bigV=true then 2 else 0:=by rw [bX,hnb,← hns,Bool.false_or]
  rw [hV,hbig];obtain ⟨bg,hbg⟩:∃ b,b=l.any bigV:=⟨_,rfl⟩;rw [← hbg];refine aV<|Sq<|aJ<|Sr<|Dd aB<|Dd (by exact iQ rfl rfl)<|Dd (by exact aA rfl rfl call93 rfl (hcf _ rfl))<|Da ?_;refine Cn ?_ ?_<;>intro hc2
  ·have hn:ns=true:=hc2;rw [aHq hn];refine Sr<|Dd aR<|Zz<|aH ?_;refine bI (H':=[(950,cB l c)]) (.inr rfl) rfl (aI rfl) (Fin.wk (by(simp;done)) (Hc (aU _ _ _)<|trivial) ⟨rfl,trivial⟩) ?_;exact Qq
  have hn:¬ ns=true:=by rw [show ns=false from hc2];decide
  rw [aHp hn];refine Sr<|Dd aB<|Da ?_;refine Cn ?_ ?_<;>intro hc3
  ·have hn2:bg=true:=hc3;rw [aHq hn2];refine Sr<|Dd aR<|Zz<|aH ?_;refine bI (H':=[(950,cB l c)]) (.inr rfl) rfl (aI rfl) (Fin.wk (by(simp;done)) (Hc (aU _ _ _)<|trivial) ⟨rfl,trivial⟩) ?_;exact Qq
  have hn2:¬ bg=true:=by rw [show bg=false from hc3];decide
  rw [aHp hn2];refine aF<|Sr<|Dd aR<|Zz<|aH ?_;refine bI (H':=[(950,cB l c)]) (.inr rfl) rfl (aI rfl) (Fin.wk (by(simp;done)) (Hc (aU _ _ _)<|trivial) ⟨rfl,trivial⟩) ?_;exact Qq
 obtain ⟨p,hp,rfl⟩:=xX hn1;have hlt:hni < l.length:=(aHv.1 hp).1;have hst2:lH l hni=p.2.2:=by rw [lH,hp];rfl
 have hn3:hni∉s:=fun hm=>hn2 (List.mem_map.2 ⟨hni,hm,hst2⟩);have hb2:∀ i,i∈s++[hni]→i < l.length:=fun i hi=>by
  rcases List.mem_append.1 hi with h|h
  ·exact hb i h
  rw [aHu] at h;omega
 have hd2:(s++[hni]).Nodup:=List.nodup_append.2 ⟨hd,by simp,fun a ha b hb e=>by rw [aHu] at hb;subst hb;subst e;exact hn3 ha⟩;have hlen:=lW _ _ hd2 hb2;rw [aHs,List.length_singleton] at hlen;have hit:IA 950 l c (s++[hni])=⟨0,0,0,gU (.mp 950 0) c c (s.map (lH l)++[p.2.2])⟩:=by rw [IA,List.map_append,List.map_cons,List.map_nil,hst2]
 have hin:=fun H=>NN P p.1 H (by omega);have hbg:=YP (s:=s) hp;refine Dd eC<|Zz<|Sq ?_;refine Cn ?_ ?_<;>intro hc4
 ·refine aF<|aJ<|Sr<|Dd (by exact E5 (κ:=iU) (seen:=s.map (lH l)) (p:=(p.1,sv p.2.1,p.2.2)) (since:=c) rfl rfl rfl rfl rfl rfl rfl rfl rfl hn1)<|Dd eC<|Dd eC<|Dd aR<|Dd aR<|Zz<|Sq<|Sq ?_;refine iF.ent (E':=[(0,.mp 950 0),(1,.pv (aX P)),(5,.ref 5 0 0 0),(6,bv (NQ l s)),(10,.it 946 0),(7,sv p.1),(8,sv p.2.1)]) (H':=wgK l c (s++[hni])) (cC.get' ⟨⟨_,rfl,rfl⟩,⟨_,rfl,rfl⟩,⟨_,rfl,rfl⟩,⟨_,rfl,rfl⟩,⟨_,rfl,rfl⟩,⟨_,rfl,rfl⟩,⟨_,rfl,rfl⟩,trivial⟩ (fun j=>by rw [wgK,hit];exact lD 946 _ (IA 950 l c s) [(5,nmB),(950,cB l c)] j)) ?_;refine cQ (t:=24) (n:=10) (X:=AI P p) ?_ ?_
  ·all_goals refine Dd (cW isAgg53) ?_
   all_goals refine Dd aB<|Dd (by exact kZ rfl rfl rfl ((iL.fn call91 (U3 p.1 _))))<|Dd pY<|Dm ?_
   all_goals refine Sp 20 (fun h20=>?_) fun h20=>?_
   all_goals try contradiction
   all_goals first|refine Fo<|Fo<|Fo ?_|refine On aB<|On aB<|On (by exact aA rfl rfl call92 rfl (hin _)) ?_
   all_goals refine Dd cX<|Zz ?_
   all_goals(exact⟨⟨_,rfl,by(simp only [AI, *];rfl)⟩,rfl,rfl,rfl⟩)
  refine Cn ?_ ?_<;>intro hc5
  ·have hk2:AI P p=true:=hc5;have hV:bX l P=1:=by rw [bX,List.any_eq_true.2 ⟨p,aIB hp,hk2⟩];rfl
   rw [hV];refine Sr<|Dd aR<|Zz<|aH ?_;refine bI (H':=[(950,cB l c)]) (.inr rfl) rfl (aI rfl) (Fin.wk (by(simp;done)) (Hc (aU _ _ _)<|trivial) ⟨rfl,trivial⟩) ?_;exact Qq
  have hk2:AI P p=false:=hc5;refine aF ?_;refine cQ (t:=6) (n:=8) (X:=NQ l s||bigV p) ?_ ?_
  ·all_goals refine Dd aB ?_
   all_goals refine Dm ?_
   all_goals refine Sp 26 (fun h26=>?_) fun h26=>?_
   all_goals try contradiction
   all_goals first|refine Fo<|Fo<|Fo ?_|refine On aB<|On (mD aC)<|On yP ?_
   all_goals refine Dd cX<|Da ?_
   all_goals(exact⟨⟨_,rfl,by rw [h26];rfl⟩,rfl,rfl,rfl⟩)
  refine⟨s++[hni],⟨⟨hd2,hb2⟩,fun i hi q hq=>?_⟩,by rw [aHs,List.length_singleton];omega,?_⟩
  ·rcases List.mem_append.1 hi with h|h
   ·exact hok i h q hq
   rw [aHu] at h;subst h;rw [hp] at hq;cases hq;exact hk2
  rw [hbg];exact(cC.wk (Ea<|Eb<|Ea<|Eb<|Ea<|trivial) (Hc (EY rfl _ _ _)<|Hb<|Hc (aU _ _ _)<|trivial) ⟨rfl,trivial⟩)
 cases hc4
abbrev mW (l:List ByteArray):List (List AV):=l.map (fun e=>(encStr e).map .pv)
def raw (e:GEdit) (s:ByteArray):Prop:=s=e.id∨s=e.other∨s=e.node∨s=e.obj.id∨s∈e.refs∨s∈e.obj.refs
abbrev fT (l:List ByteArray):List (List AV):=l.map (fun s=>(encStr s).map .pv)
def qW (l:List ByteArray):Prop:=l.Pairwise (fun a b=>lI a b=true)
theorem aDi {a b:List ByteArray} (ha:qW a) (hb:qW b) (h:∀ x,x∈a↔x∈b):a=b:=TL (f:=fun x:ByteArray=>x) ha hb h
end Go.Proofs.YtmkgeogoojcciaaGreatDoor
section
namespace Go.Abs
theorem IT {P:Program} {N:Nat} {o:Oper} {E:bZ} {H:aE} {T:TypeId} {t:Tmp} {e:TypeId} {id g off len sz:Nat} {ob:Ob} {row:List AV} {rows':List (List AV)} (ho:o.op=.call {callee:=.builtin .clear,args:=#[.tmp t],argTypes:=#[T]}) (hS:fP P T e sz) (hZ:jU P e row) (hrow:row.length=sz)
  (hx:E.get t=some (.osl id g off len)) (hH:H.get id=some ob) (hg:ob.g=g) (hosz:ob.sz=sz) (hoff:off≤ob.rows.length) (hrows:ob.rows.take off++(List.replicate len row++ob.rows.drop (off+len))=rows') :
  bS P N o E H .any ((id,⟨g,sz,ob.ty,rows'⟩)::H):=by
 intro a w I ι h1 h2 hr he K Q hkk;obtain ⟨v,hv,hvr⟩:=he t _ hx;obtain ⟨c,h3,h4,h5⟩:=MH hr hvr hH hg;refine XJ (x:=.tmp t) (E:=(t,.osc id g off len c)::E) ho hS hZ hrow (bZ.get_cons_same _ _ _) hH hg hosz hoff hrows a w I ι h1 h2 hr (fun u x hu=>?_) K Q hkk;by_cases e:t=u
 ·subst e;rw [bZ.get_cons_same] at hu;cases hu;exact⟨v,hv,h5⟩
 rw [bZ.get_cons_other _ _ e] at hu;exact he u x hu
end Go.Abs
namespace Go.Proofs.YtmkgeogoojcciaaGreatDoor
open Go.Proofs.Tryz
open Go.Abs
def dQ:List ByteArray→List ByteArray
 | []=>[]
 | [x]=>[x]
 | x::y::r=>if x=y then dQ (y::r)else x::dQ (y::r)
theorem DJ:∀ (l:List ByteArray) (x y:ByteArray),dQ (l++[x,y])=dQ (l++[x])++(if x=y then[] else[y])
 | [],x,y=>by
  show (if x=y then dQ [y] else x::dQ [y])=[x]++_;by_cases e:x=y
  ·rw [aHq e,aHq e,e];rfl
  rw [aHp e,aHp e];rfl
 | [a],x,y=>by
  show (if a=x then dQ [x,y] else a::dQ [x,y])=(if a=x then dQ [x] else a::dQ [x])++_;have:=DJ [] x y;rw [show dQ [x,y]=dQ ([]++[x,y])from rfl,this]
  split<;>rfl
 | a::b::l,x,y=>by
  have:=DJ (b::l) x y;show (if a=b then dQ ((b::l)++[x,y])else a::dQ ((b::l)++[x,y]))=(if a=b then dQ ((b::l)++[x])else a::dQ ((b::l)++[x]))++_;rw [this]
  split<;>rfl
theorem K7 {L:List ByteArray} {k:Nat} {x y:ByteArray} (hk:1≤k) (hx:L[k - 1]?=some x) (hy:L[k]?=some y):dQ (L.take (k+1))=dQ (L.take k)++(if x=y then[] else[y]):=by
 obtain ⟨j,rfl⟩:∃ j,k=j+1:=⟨k - 1,by omega⟩;rw [show j+1 - 1=j by omega] at hx;have h1:L.take (j+1)=L.take j++[x]:=by rw [List.take_add_one,hx];rfl
 have h2:L.take (j+1+1)=L.take j++[x,y]:=by rw [List.take_add_one,h1,hy,List.append_assoc];rfl
 rw [h2,h1,DJ]
theorem wY:∀ {l:List ByteArray} {x:ByteArray},x∈dQ l↔x∈l
 | [],x=>Iff.rfl
 | [a],x=>Iff.rfl
 | a::b::l,x=>by
  show x∈(if a=b then dQ (b::l)else a::dQ (b::l))↔_;have ih:=wY (l:=b::l) (x:=x)
  split
  ·next e =>
   rw [ih,e];simp
  rw [aID,ih,List.mem_cons (a:=x) (b:=a)]
theorem vE:∀ {l:List ByteArray},l.Pairwise (fun a b=>lI b a=false)→qW (dQ l)
 | [],_=>.nil
 | [a],_=>List.pairwise_singleton _ _
 | a::b::l,h=>by
  have h2:=(List.pairwise_cons.1 h).2;have ih:=vE h2;show qW (if a=b then dQ (b::l)else a::dQ (b::l))
  split
  ·exact ih
  next e =>
  refine List.pairwise_cons.2 ⟨fun y hy=>?_,ih⟩;have hy2:=wY.1 hy;have hba:lI b a=false:=(List.pairwise_cons.1 h).1 b List.mem_cons_self;have hab:lI a b=true:=by
   cases hc:lI a b with
   | true=>rfl
   | false=>exact absurd (xG hc hba) e
  rcases aID.1 hy2 with rfl|hy2
  ·exact hab
  have h3:=(List.pairwise_cons.1 h2).1 y hy2;cases hc:lI b y with
  | true=>exact mP hab hc
  | false=>rw [xG h3 hc];exact hab
theorem KI:∀ (l:List ByteArray),(dQ l).length≤l.length
 | []=>aHx _
 | [a]=>aHx _
 | a::b::l=>by
  have ih:=KI (b::l);show (if a=b then dQ (b::l)else a::dQ (b::l)).length≤(b::l).length+1
  split
  ·omega
  rw [aHt];omega
theorem AU {l:List ByteArray} {i:Nat} {s:ByteArray} (h:l[i]?=some s):(mW l)[i]?=some ((encStr s).map .pv):=by rw [aIL,h];rfl
theorem SV {P L:List ByteArray} {j:Nat} {s:ByteArray} (h:P.length≤j) (hs:L[j]?=some s):(P++L.drop P.length)[j]?=some s:=by rw [List.getElem?_append_right h,List.getElem?_drop,show P.length+(j - P.length)=j by omega];exact hs
theorem S7 {H:aE} {id:Nat} {o:Ob} (h:H.get id=some o) (j:Nat):aE.get ((id,o)::H) j=H.get j:=by
 by_cases e:j=id
 ·subst e;rw [get_cons_same,h]
 exact get_cons_other _ _ e
theorem K6 (L:List ByteArray) (g:Nat) (H:aE) (h1:H.get 901=some ⟨g,1,9,mW L⟩) (hl:L.length < 1099511627776) :
  aK Tryz.prog 47 [.osl 901 g 0 L.length] H (fun r H'=>r=.osl 901 g 0 (dQ L).length∧H'=(901,⟨g,1,9,mW (dQ L++List.replicate (L.length - (dQ L).length) sNil)⟩)::H):=by
 refine Bd func47 rfl ntmps47 ?_;refine iF.ent (E':=[(0,.osl 901 g 0 L.length)]) (H':=(901,⟨g,1,9,mW L⟩)::H) (cC.get' ⟨⟨_,rfl,rfl⟩,trivial⟩ (S7 h1)) ?_;refine Sr<|Dd aR<|Zz<|Sq<|Sr<|Dd aB<|Dd (by exact cM rfl aO rfl rfl rfl)<|Dd cP<|Zz ?_;refine Cn ?_ ?_<;>intro hc1
 ·have hlt:L.length < 2:=by have:=aHn hc1;omega
  have hc0:dQ L=L:=by
   match L,hlt with
   | [],_=>rfl
   | [a],_=>rfl
  refine Sr<|Dd aB<|Dd aR<|Zz<|aH ?_;refine bI (H':=(901,⟨g,1,9,mW L⟩)::H) (.inr rfl) rfl (aI rfl) Fin.refl ⟨by rw [hc0],by rw [hc0,Nat.sub_self,List.replicate_zero,List.append_nil]⟩
 have hge:2≤L.length:=by have:=aHo hc1;omega
 refine aF<|Sq<|Sr<|Dd aR<|Zz<|aJ ?_;refine bG (σ:=Nat) (fun i=>([(0,.osl 901 g 0 L.length),(3,iv (i:Int))],(901,⟨g,1,9,mW L⟩)::H)) (fun i=>1≤i∧i≤L.length∧dQ (L.take i)=L.take i) (fun i=>L.length - i) 1 ⟨by omega,by omega,by
  obtain ⟨x,hx⟩:=aY (l:=L) (k:=0) (by omega);rw [List.take_add_one,hx];rfl⟩ ?_ ?_
 ·exact cC.get' ⟨⟨_,rfl,rfl⟩,⟨_,rfl,rfl⟩,trivial⟩ (fun j=>rfl)
 rintro i ⟨hi1,hi2,hi3⟩;refine Sq<|Sr<|Dd aB<|Dd aB<|Dd (by exact cM rfl aO rfl rfl rfl)<|Dd cP<|Zz ?_;refine Cn ?_ ?_<;>intro hc2
 ·have hil:i < L.length:=by have:=aHn hc2;omega
  obtain ⟨y,hy⟩:=aY hil;obtain ⟨x,hx⟩:=aY (l:=L) (k:=i - 1) (by omega);have ht:=K7 hi1 hx hy;refine aF<|Sq<|aJ<|Sq<|bF follows<|Cq aB<|Cq aB<|Cq (by exact dE rfl cD rfl rfl rfl rfl rfl (by omega) (by exact aIC _) hil (aIJ _))<|Cq (by exact bH rfl aQ rfl rfl rfl (AU hy) rfl)<|Cq aB<|Cq aB<|Cq (by exact dG rfl rfl rfl (by exact eS (by omega) (by omega)))<|Cq (by exact dE (m:=i - 1) rfl cD rfl rfl rfl rfl rfl (by omega) (show ((i:Int) - 1).toNat=i - 1 by omega) (by omega) (aIJ _))<|Cq (by exact bH rfl aQ rfl rfl rfl (AU hx) rfl)<|Cq se'<|cA<|Kr ?_;refine Cn ?_ ?_<;>intro hc3
  ·have hyx:=aHn hc3;rw [aHq hyx.symm,List.append_nil,hi3] at ht;refine Sr<|Dd aB<|Dd aB<|Dd (by exact jF (l:=i) (h:=L.length) rfl cD rfl rfl rfl rfl rfl rfl (by omega) (aHx _) (aIJ _) rfl)<|Dd aR<|Zz<|Sq<|Sr<|Dd aR<|Zz<|aJ ?_;refine iM (fun(k:Nat) (R:List ByteArray)=>([(0,.osl 901 g 0 L.length),(3,iv (R.length:Int)),(4,.osl 901 g i (L.length - i)),(5,iv (k:Int))],(901,⟨g,1,9,mW (R++L.drop R.length)⟩)::H)) (fun k R=>1≤k∧i+k≤L.length∧R=dQ (L.take (i+k))∧R.length+1≤i+k) (fun k R=>L.length - (i+k)) 1 (L.take i) ⟨by omega,by omega,ht.symm,by rw [aIF];omega⟩ ?_ ?_
   ·have hti:(L.take i).length=i:=by rw [aIF];omega
    rw [hti,List.take_append_drop];exact cC.get' ⟨⟨_,rfl,rfl⟩,⟨_,rfl,rfl⟩,⟨_,rfl,rfl⟩,⟨_,rfl,rfl⟩,trivial⟩ (fun j=>rfl)
   rintro k R ⟨hk1,hk2,hk3,hk4⟩;refine Sq<|Sr<|Dd aB<|Dd aB<|Dd (by exact cM rfl aO rfl rfl rfl)<|Dd cP<|Zz ?_;refine Cn ?_ ?_<;>intro hc4
   ·have hkl:i+k < L.length:=by have:=aHn hc4;omega
    obtain ⟨v,hv⟩:=aY hkl;obtain ⟨u,hu⟩:=aY (l:=L) (k:=i+k - 1) (by omega);have ht2:=K7 (by omega) hu hv;have hv2:=AU (SV (P:=R) (by omega) hv);have hu2:=AU (SV (P:=R) (by omega) hu);refine aF<|Sq<|aJ<|Sq<|bF follows<|Cq aB<|Cq aB<|Cq (by exact dE (m:=k) rfl cD rfl rfl rfl rfl rfl (by omega) (aIC _) (by omega) rfl)<|Cq (by exact bH rfl aQ rfl rfl rfl hv2 rfl)<|Cq aB<|Cq aB<|Cq (by exact dG rfl rfl rfl (by exact eS (by omega) (by omega)))<|Cq (by exact dE (m:=k - 1) (m2:=i+k - 1) rfl cD rfl rfl rfl rfl rfl (by omega) (show ((k:Int) - 1).toNat=k - 1 by omega) (by omega) (by omega))<|Cq (by exact bH rfl aQ rfl rfl rfl hu2 rfl)<|Cq ZG<|cA<|Kr ?_;refine Cn ?_ ?_<;>intro hc5
    ·have hne:¬ u=v:=fun e=>by
      have h:=hc5;rw [e] at h;simp at h
     rw [aHp hne,← hk3] at ht2;have hR0:∃ z,L[R.length]?=some z:=aY (by omega);obtain ⟨z,hz⟩:=hR0;have hat:(mW (R++L.drop R.length))[R.length]?=some ((encStr z).map .pv):=AU (SV (P:=R) (aHx _) hz);have hset:(mW (R++L.drop R.length)).set R.length [sv v]=mW ((R++[v])++L.drop (R++[v]).length):=by
      have hd:L.drop R.length=z::L.drop (R.length+1):=by
       obtain ⟨p,q⟩:=aHv.1 hz;rw [List.drop_eq_getElem_cons p,q]
      rw [hd,aHs,List.length_singleton,mW,List.map_append,List.map_cons,List.set_append_right _ _ (by rw [aHr];exact aHx _),aHr,Nat.sub_self,List.set_cons_zero,List.append_assoc,mW,List.map_append,List.map_append];rfl
     refine Sr<|Dd aB<|Dd aB<|Dd aB<|Dd aB<|Dd (by exact dE (m:=k) rfl cD rfl rfl rfl rfl rfl (by omega) (aIC _) (by omega) rfl)<|Dd (by exact bH rfl aQ rfl rfl rfl hv2 rfl)<|Dd (by exact dE rfl cD rfl rfl rfl rfl rfl (by omega) (by exact aIC _) (by omega:R.length < L.length) (aIJ _))<|Uu (by exact bU rfl sizeOf9 rfl rfl rfl rfl rfl hat (by simp [encStr]) rfl hset)<|Zz<|Rg<|Dd aB<|Dd rL<|Dd aR<|Zz<|Rg<|Dd aB<|Dd rL<|Da ?_;refine⟨k+1,R++[v],⟨by omega,by omega,ht2.symm,by rw [aHs,List.length_singleton];omega⟩,by omega,?_⟩;rw [show (((R++[v]).length:Nat):Int)=(R.length:Int)+1 by rw [aHs,List.length_singleton];rfl];exact cC.dup ⟨⟨_,rfl,rfl⟩,⟨_,rfl,rfl⟩,⟨_,rfl,rfl⟩,⟨_,rfl,rfl⟩,trivial⟩
    have he:u=v:=by
     have h:=hc5;have h2:v=u:=by simpa using h
     exact h2.symm
    rw [aHq he,List.append_nil,← hk3] at ht2;refine aF<|Rg<|Dd aB<|Dd rL<|Da ?_;refine⟨k+1,R,⟨by omega,by omega,ht2.symm,by omega⟩,by omega,?_⟩;exact cC.get' ⟨⟨_,rfl,rfl⟩,⟨_,rfl,rfl⟩,⟨_,rfl,rfl⟩,⟨_,rfl,rfl⟩,trivial⟩ (fun j=>rfl)
   have hge2:i+k=L.length:=by have:=aHo hc4;omega
   rw [hge2,List.take_length] at hk3;have hRl:R.length≤L.length:=by omega
   have hmix:(mW (R++L.drop R.length)).length=L.length:=by
    rw [aHr,aHs,aIG];omega
   have hcl:(mW (R++L.drop R.length)).take R.length++(List.replicate (L.length - R.length) [sv sNil]++(mW (R++L.drop R.length)).drop (R.length+(L.length - R.length)))=mW (R++List.replicate (L.length - R.length) sNil):=by
    have hd0:(mW (R++L.drop R.length)).drop (R.length+(L.length - R.length))=[]:=List.drop_eq_nil_of_le (by rw [hmix];omega);rw [hd0,List.append_nil,mW,List.map_append,List.take_left' (aHr _),mW,List.map_append,List.map_replicate];rfl
   refine aV<|Sr<|Dd aB<|Dd aB<|Dd (by exact jF (l:=R.length) (h:=L.length) rfl cD rfl rfl rfl rfl rfl rfl hRl (aHx _) (aIJ _) rfl)<|Uu (by exact IT rfl cD zo9 rfl rfl rfl rfl rfl (by rw [hmix];exact hRl) hcl)<|Zz<|Sr<|Dd aB<|Dd aB<|Dd (by exact jF (l:=0) (h:=R.length) rfl cD rfl rfl rfl rfl rfl rfl (aII _) hRl (aIJ _) rfl)<|Dd aR<|Zz<|aH ?_;refine bI (H':=(901,⟨g,1,9,mW (R++List.replicate (L.length - R.length) sNil)⟩)::H) (.inr rfl) rfl (aI rfl) (Fin.get' (fun j=>lD _ _ _ _ j)) ⟨by rw [hk3];rfl,by rw [hk3]⟩
  have hyx:=aHo hc3;rw [aHp (fun e=>hyx e.symm),hi3] at ht;refine aF<|Rg<|Dd aB<|Dd rL<|Da ?_;refine⟨i+1,⟨by omega,by omega,?_⟩,by omega,cC.get' ⟨⟨_,rfl,rfl⟩,⟨_,rfl,rfl⟩,trivial⟩ (fun j=>rfl)⟩;rw [ht,List.take_add_one,hy];rfl
 have hge3:i=L.length:=by have:=aHo hc2;omega
 subst hge3;rw [List.take_length] at hi3;refine aV<|Sr<|Dd aB<|Dd aR<|Zz<|aH ?_;refine bI (H':=(901,⟨g,1,9,mW L⟩)::H) (.inr rfl) rfl (aI rfl) Fin.refl ⟨by rw [hi3],by rw [hi3,Nat.sub_self,List.replicate_zero,List.append_nil]⟩
end Go.Proofs.YtmkgeogoojcciaaGreatDoor
end
namespace Go.Proofs.YtmkgeogoojcciaaGreatDoor
open Go.Proofs.Tryz
open Go.Abs Go.Lib
theorem OT (a b:ByteArray):lI a b=decide (OJ a < OJ b):=by unfold lI;rw [nO,ByteArray.toList_eq,ByteArray.toList_eq];rfl
theorem OI (l:List UInt8):OJ (ofU l)=l:=by simp [OJ,ofU]
theorem JN (l:List ByteArray):(eZ l).Pairwise (fun a b=>lI b a=false):=by unfold eZ;rw [List.pairwise_map];refine List.Pairwise.imp (R:=fun(x y:List UInt8)=>decide (x≤y)=true) (fun {x y} h=>?_) (List.pairwise_mergeSort (le:=fun(x y:List UInt8)=>decide (x≤y)) (fun a b c h1 h2=>decide_eq_true (List.le_trans (aHn h1) (aHn h2))) DT _);rw [OT,OI,OI];exact decide_eq_false (List.not_lt.2 (aHn h))
theorem WF {l:List ByteArray} (hn:l.Nodup):qW (eZ l):=by
 have hp:(eZ l).Pairwise (fun a b=>a≠b):=(zH l).symm.pairwise hn (fun {a b} h=>h.symm);refine(hp.and (JN l)).imp fun {a b} h=>?_;obtain ⟨h1,h2⟩:=h;cases hc:lI a b with
 | true=>rfl
 | false=>exact absurd (xG hc h2) h1
theorem G4 {l:List ByteArray} (h:qW l):l.Nodup:=by refine List.Pairwise.imp (fun {a b} h e=>?_) h;subst e;rw [xH] at h;cases h
theorem UB {a b:ByteArray} (h:lI a b=true):lI b a=false:=by
 cases e:lI b a with
 | false=>rfl
 | true=>have:=mP h e;rw [xH] at this;cases this
theorem WG {l:List ByteArray} (h:qW l):eZ l=l:=by
 have hp:(l.map OJ).Pairwise (fun x y=>decide (x≤y)=true):=by
  rw [List.pairwise_map];refine h.imp fun {a b} h=>decide_eq_true ?_;have h2:=UB h;rw [OT] at h2;exact List.not_lt.1 (aHo h2)
 rw [eZ,List.mergeSort_of_pairwise hp,U5]
theorem FM:∀ {l:List ByteArray},l.Pairwise (fun a b=>lI b a=false)→gI l=true
 | [],_=>rfl
 | [a],_=>rfl
 | a::b::r,h=>by
  have h1:=(List.pairwise_cons.1 h).1 b List.mem_cons_self;rw [gI,h1,FM (List.pairwise_cons.1 h).2];rfl
theorem aDh {l:List ByteArray} (h:qW l):l.Pairwise (fun a b=>lI b a=false):=h.imp fun {a b} h=>UB h
theorem KK:∀ {l:List ByteArray},l.Nodup→dQ l=l
 | [],_=>rfl
 | [a],_=>rfl
 | a::b::r,h=>by
  have hn:=List.nodup_cons.1 h;have e:¬ a=b:=fun e=>hn.1 (by rw [e];exact List.mem_cons_self);show (if a=b then dQ (b::r)else a::dQ (b::r))=_;rw [aHp e,KK hn.2]
theorem wN {k v:ByteArray} {n:Nat}:∀ {l:cN},gX l→(k,v,n)∈l→eN l k=some v
 | [],_,h=>by cases h
 | (k',a,m)::r,hn,h=>by
  have h2:=List.nodup_cons.1 hn;rw [eN];rcases aID.1 h with e|h
  ·cases e;rw [aHq rfl]
  rw [aHp (fun e=>h2.1 (by subst e;exact List.mem_map.2 ⟨_,h,rfl⟩))];exact wN h2.2 h
theorem uT {k v:ByteArray}:∀ {l:cN},eN l k=some v→∃ n,(k,v,n)∈l
 | [],h=>by cases h
 | (k',a,m)::r,h=>by
  rw [eN] at h;by_cases e:k'=k
  ·rw [aHq e] at h;cases h;subst e;exact⟨m,List.mem_cons_self⟩
  rw [aHp e] at h;obtain ⟨n,hn⟩:=uT h;exact⟨n,List.mem_cons_of_mem _ hn⟩
theorem KB {a b:cN} (ha:gX a) (hb:gX b) (h:∀ k,eN a k=eN b k):(a.map Prod.fst).Perm (b.map Prod.fst):=(List.perm_ext_iff_of_nodup ha hb).2 fun k=>by
 have h1:=iX (k:=k) (l:=a);have h2:=iX (k:=k) (l:=b);rw [h k] at h1;exact Decidable.not_iff_not.1 (h1.symm.trans h2)
theorem JJ {a b:cN} (ha:gX a) (hb:gX b) (h:∀ k,eN a k=eN b k):eT a=eT b:=FO (KB ha hb h)
theorem MX {a b:cN} (ha:gX a) (hb:gX b) (h:∀ k,eN a k=eN b k):a.length=b.length:=by
 have:=(KB ha hb h).length_eq
 rwa [aHr,aHr] at this
theorem V9 {a b:cN} (ha:gX a) (hb:gX b) (h:∀ k,eN a k=eN b k) (P:List ByteArray):eD a P=eD b P:=by
 have hg:(fun x=>[x,fO a x])=fun x=>[x,fO b x]:=by
  funext x;rw [uV,uV,h]
 have hl:(cU a).length=(cU b).length:=by rw [cU,cU,aHr,aHr,MX ha hb h]
 rw [eD,eD,JJ ha hb h,wZ,wZ,hg,hl]
theorem JK {a b:cN} (ha:gX a) (hb:gX b) (h:∀ k,eN a k=eN b k) (P:List ByteArray):bM a P=bM b P:=by rw [bM,bM,V9 ha hb h]
theorem Q1 {a b:cN} (h:∀ k,eN a k=eN b k) (q:ByteArray×ByteArray×Nat→Bool) (hq:∀ k v n m,q (k,v,n)=q (k,v,m)) (ha:gX a):a.any q=true→b.any q=true:=by intro h1;obtain ⟨⟨k,v,n⟩,hp,h2⟩:=List.any_eq_true.1 h1;have e:=wN ha hp;rw [h] at e;obtain ⟨m,hm⟩:=uT e;exact List.any_eq_true.2 ⟨_,hm,by rw [hq k v m n];exact h2⟩
theorem VZ {a b:cN} (ha:gX a) (hb:gX b) (h:∀ k,eN a k=eN b k) (q:ByteArray×ByteArray×Nat→Bool) (hq:∀ k v n m,q (k,v,n)=q (k,v,m)):a.any q=b.any q :=Bool.eq_iff_iff.2 ⟨Q1 h q hq ha,Q1 (fun k=>(h k).symm) q hq hb⟩
theorem RH {a b:cN} (ha:gX a) (hb:gX b) (h:∀ k,eN a k=eN b k) (P:List ByteArray):bX a P=bX b P:=by rw [bX,bX,VZ ha hb h (AI P) (fun k v n m=>rfl),VZ ha hb h bigV (fun k v n m=>rfl)]
def BJ (W:List ByteArray):Nat→cN×Nat
 | 0=>([],0)
 | j+1=>(lK (BJ W j).1 (W.getD (2*j) sNil) (W.getD (2*j+1) sNil) (BJ W j).2,uW (BJ W j).1 (W.getD (2*j) sNil) (BJ W j).2)
theorem C9 (W:List ByteArray):∀ j,fI (BJ W j).1 (BJ W j).2∧gX (BJ W j).1
 | 0=>⟨⟨List.Pairwise.nil,fun p hp=>(by cases hp)⟩,List.nodup_nil⟩
 | j+1=>⟨M0 (C9 W j).1 _ _,M1 (C9 W j).2 _ _ _⟩
theorem GX (k v:ByteArray) (c:Nat) (l:cN):l.length≤(lK l k v c).length∧(lK l k v c).length≤l.length+1:=by
 have h:=congrArg List.length (xZ k v c l);rw [aHr] at h;rw [h]
 split
 ·rw [aHr];omega
 rw [aHs,aHr,List.length_singleton];omega
theorem MU (W:List ByteArray):∀ j,(BJ W j).1.length≤j
 | 0=>aHx _
 | j+1=>by
  have h1:=MU W j;have h2:=(GX (W.getD (2*j) sNil) (W.getD (2*j+1) sNil) (BJ W j).2 (BJ W j).1).2;show (lK (BJ W j).1 (W.getD (2*j) sNil) (W.getD (2*j+1) sNil) (BJ W j).2).length≤_;omega
theorem MV (F R:List ByteArray):∀ j,2*j≤F.length→BJ (F++R) j=BJ F j
 | 0,_=>rfl
 | j+1,h=>by
  have h1:(F++R).getD (2*j) sNil=F.getD (2*j) sNil:=by rw [List.getD_eq_getElem?_getD,List.getD_eq_getElem?_getD,List.getElem?_append_left (by omega)]
  have h2:(F++R).getD (2*j+1) sNil=F.getD (2*j+1) sNil:=by rw [List.getD_eq_getElem?_getD,List.getD_eq_getElem?_getD,List.getElem?_append_left (by omega)]
  rw [BJ,BJ,MV F R j (by omega),h1,h2]
theorem KN (g:ByteArray→ByteArray):∀ (S:List ByteArray) (j:Nat) (s:ByteArray),S[j]?=some s→(S.flatMap fun x=>[x,g x])[2*j]?=some s∧(S.flatMap fun x=>[x,g x])[2*j+1]?=some (g s)
 | [],j,s,h=>by cases h
 | x::r,0,s,h=>by cases h;exact⟨rfl,rfl⟩
 | x::r,j+1,s,h=>KN g r j s h
theorem PM (g:ByteArray→ByteArray) {S:List ByteArray} (hn:S.Nodup):∀ j,j≤S.length→(BJ (S.flatMap fun x=>[x,g x]) j).1.map Prod.fst=S.take j∧∀ k,eN (BJ (S.flatMap fun x=>[x,g x]) j).1 k=if k∈S.take j then some (g k)else none
 | 0,_=>⟨rfl,fun k=>by rw [List.take_zero,aHp aIH];rfl⟩
 | j+1,h=>by
  obtain ⟨h1,h2⟩:=PM g hn j (by omega);obtain ⟨s,hs⟩:=aY (l:=S) (k:=j) (by omega);obtain ⟨f1,f2⟩:=KN g S j s hs;have g1:(S.flatMap fun x=>[x,g x]).getD (2*j) sNil=s:=by rw [List.getD_eq_getElem?_getD,f1];rfl
  have g2:(S.flatMap fun x=>[x,g x]).getD (2*j+1) sNil=g s:=by rw [List.getD_eq_getElem?_getD,f2];rfl
  have ht:S.take (j+1)=S.take j++[s]:=bW hs;have hns:s∉S.take j:=fun hm=>by
   have hn2:(S.take (j+1)).Nodup:=hn.sublist (List.take_sublist _ _);rw [ht] at hn2;exact(List.nodup_append.1 hn2).2.2 s hm s (aHu.2 rfl) rfl
  rw [BJ,g1,g2,ht];constructor
  ·rw [xZ,h2 s,aHp hns,h1];rfl
  intro k;rw [EX,h2 k];by_cases e:s=k
  ·subst e;rw [aHq rfl,aHq (by simp)]
  rw [aHp e];by_cases hk:k∈S.take j
  ·rw [aHq hk,aHq (List.mem_append_left _ hk)]
  rw [aHp hk,aHp (fun hm=>by
   rcases List.mem_append.1 hm with h|h
   ·exact hk h
   rw [aHu] at h;exact e h.symm)]
theorem mO {l:cN} {k:ByteArray}:k∈eT l↔k∈l.map Prod.fst:=(zH _).mem_iff
theorem FE {l:cN} (h:gX l):qW (eT l):=WF h
theorem XP {l:cN} (h:gX l) (R:List ByteArray):∀ k,eN (BJ (((eT l).flatMap fun x=>[x,fO l x])++R) l.length).1 k=eN l k:=by
 intro k;have hl:=kW l;rw [MV _ _ _ (by rw [lE,hl];omega)];obtain ⟨_,h2⟩:=PM (fO l) (G4 (FE h)) l.length (by omega);rw [h2,List.take_of_length_le (by omega)];by_cases hk:k∈eT l
 ·rw [aHq hk,uV];cases e:eN l k with
  | some v=>rfl
  | none=>exact absurd (mO.1 hk) (iX.1 e)
 rw [aHp hk];exact(iX.2 (fun h=>hk (mO.2 h))).symm
abbrev F1 (t:List UInt8):List ByteArray:=(cS t).1
abbrev rpV (t:List UInt8):Int:=fH ((F1 t).getD 0 sNil)
abbrev UG (t:List UInt8):Nat:=(rpV t).toNat
abbrev fU (t:List UInt8):cN×Nat:=BJ ((F1 t).drop 1) (UG t)
abbrev eJ (t:List UInt8):List ByteArray:=(F1 t).drop (2*UG t+2)
def zK (t:List UInt8):Bool:=!(cS t).2||decide ((F1 t).length=0)
def pD (t:List UInt8):Bool:=((lG ((F1 t).getD 0 sNil)||decide (rpV t < 0))||decide ((((F1 t).length / 2:Nat):Int) < rpV t))||decide (((F1 t).length:Int) < 2*rpV t+2)
def uI (t:List UInt8):Bool:=((((decide ((fU t).1.length+(eJ t).length=0)||!decide (bX (fU t).1 (eJ t)=0))||!decide (bM (fU t).1 (eJ t)=aT [ofL t]))||!gI (eJ t))||decide ((dQ (eJ t)).length < (eJ t).length))
def iK (t:List UInt8):Bool:=!zK t&&(!pD t&&!uI t)
theorem mN (l:cN) (P:List ByteArray):eD l P=fL (l.length:Int)::(((eT l).flatMap fun x=>[x,fO l x])++(fL (P.length:Int)::P)):=by rw [eD,wZ,List.take_length,cU,aHr,aHr,List.cons_append,List.cons_append,List.append_assoc];rfl
theorem qV:∀ {L:List ByteArray} {x:ByteArray},x∈L→x.size≤(aT L).length
 | [],x,h=>by cases h
 | y::L,x,h=>by
  rw [fB,aHs,aHt,aHs,dP];rcases aID.1 h with rfl|h
  ·omega
  have:=qV h;omega
theorem L6 {l:cN} {P:List ByteArray} (hn:gX l) (hP:qW P) (h0:0 < l.length+P.length) (hw:bX l P=0) (hsz:(aT (eD l P)).length < 1000000000000) :
  iK (aT (eD l P))=true∧(∀ k,eN (fU (aT (eD l P))).1 k=eN l k)∧eJ (aT (eD l P))=P:=by
 have hsp:cS (aT (eD l P))=(eD l P,true):=lT fun x hx=>by have:=qV hx;omega
 have hlen:=wQ (eD l P);have hparts:=mN l P;have hll:(eD l P).length=2*l.length+2+P.length:=by
  rw [hparts,aHt,aHs,lE,kW,aHt];omega
 have hD:(eD l P).getD 0 sNil=fL (l.length:Int):=by rw [hparts];rfl
 have hi:fL (l.length:Int)=ofL (decDigits l.length):=gE (by rw [bB,lB]);obtain ⟨n1,n2⟩:=xA (l:=decDigits l.length) (u:=l.length) (dT (k:=18) (by omega) (by decide)) (qB _) (fun b=>rA _) (iY _);have hL:F1 (aT (eD l P))=eD l P:=by rw [F1,hsp]
 have hV:rpV (aT (eD l P))=(l.length:Int):=by rw [rpV,hL,hD,hi,n2]
 have hN:UG (aT (eD l P))=l.length:=by rw [UG,hV,aIC]
 have hput:∀ k,eN (fU (aT (eD l P))).1 k=eN l k:=by
  rw [fU,hL,hN,hparts,List.drop_succ_cons,List.drop_zero];exact XP hn _
 have hnd:gX (fU (aT (eD l P))).1:=(C9 _ _).2;have hdrop:eJ (aT (eD l P))=P:=by
  rw [eJ,hL,hN,show eD l P=(fL (l.length:Int)::(((eT l).flatMap fun x=>[x,fO l x])++[fL (P.length:Int)]))++P by rw [hparts];simp];exact List.drop_left' (by rw [aHt,aHs,lE,kW];rfl)
 refine⟨?_,hput,hdrop⟩;have b1:zK (aT (eD l P))=false:=by
  rw [zK,hL,hsp,hll,decide_eq_false (by omega)];rfl
 have b2:pD (aT (eD l P))=false:=by
  rw [pD,hV,hL,hD,hi,n1,hll,decide_eq_false (by omega),decide_eq_false (by omega),decide_eq_false (by omega)];rfl
 have b3:uI (aT (eD l P))=false:=by
  rw [uI,hdrop,RH hnd hn hput,hw,JK hnd hn hput,MX hnd hn hput,FM (aDh hP),KK (G4 hP),decide_eq_false (by omega),decide_eq_true rfl,show bM l P=aT [ofL (aT (eD l P))] from rfl,decide_eq_true rfl,decide_eq_false (by omega)];rfl
 rw [iK,b1,b2,b3];rfl
theorem wR (n:Nat) (h:n < 1000000000000000000):(fL (n:Int)).size≤21:=zW (by omega) (by omega)
theorem wP {M:Nat} (hM:M < 1000000000000000000):∀ (L:List ByteArray),(∀ s∈L,s.size≤M)→(aT L).length≤L.length*(M+22)
 | [],_=>aII _
 | s::r,h=>by
  have ih:=wP hM r (fun x hx=>h x (List.mem_cons_of_mem _ hx));have hs:=h s List.mem_cons_self;have hd:=dT (k:=18) (u:=s.size) (by omega) (by decide);rw [fB,aHs,aHt,aHs,dP,aHt,Nat.add_mul];omega
theorem FH:∀ (n:Nat) (t:List UInt8) (acc:List ByteArray) (x:ByteArray),x∈(iJ n t acc).1→x∈acc∨x.size≤t.length
 | 0,t,acc,x,h=>.inl h
 | n+1,t,acc,x,h=>by
  have hcl:=(TF t).2;rw [iJ] at h
  split at h
  ·exact .inl h
  split at h
  ·cases h
  rcases FH n _ _ x h with h|h
  ·rcases List.mem_append.1 h with h|h
   ·exact .inl h
   rw [aHu.1 h,bO,aIF];exact .inr (by omega)
  rw [aIG] at h;exact .inr (by omega)
theorem uH {t:List UInt8} {x:ByteArray} (h:x∈F1 t):x.size≤t.length:=by
 rcases FH _ _ _ _ h with h|h
 ·cases h
 exact h
theorem PU {k v:ByteArray} {c:Nat} {p:ByteArray×ByteArray×Nat}:∀ {l:cN},p∈lK l k v c→p∈l∨(p.1=k∧p.2.1=v)
 | [],h=>by
  rw [aHu.1 h];exact .inr ⟨rfl,rfl⟩
 | (k',a,n)::r,h=>by
  rw [lK] at h
  split at h
  ·rcases aID.1 h with h|h
   ·rw [h];exact .inr ⟨rfl,rfl⟩
   exact .inl (List.mem_cons_of_mem _ h)
  rcases aID.1 h with h|h
  ·rw [h];exact .inl List.mem_cons_self
  rcases PU h with h|h
  ·exact .inl (List.mem_cons_of_mem _ h)
  exact .inr h
theorem KH {W:List ByteArray} {M:Nat} (h:∀ x∈W,x.size≤M) (i:Nat):(W.getD i sNil).size≤M:=by
 rw [List.getD_eq_getElem?_getD];cases e:W[i]? with
 | none=>exact aII _
 | some x=>exact h x (aIB e)
theorem MT {W:List ByteArray} {M:Nat} (h:∀ x∈W,x.size≤M):∀ (j:Nat) (p:ByteArray×ByteArray×Nat),p∈(BJ W j).1→p.1.size≤M∧p.2.1.size≤M
 | 0,p,hp=>by cases hp
 | j+1,p,hp=>by
  rcases PU hp with h1|⟨h1,h2⟩
  ·exact MT h j p h1
  rw [h1,h2];exact⟨KH h _,KH h _⟩
theorem zT {M:Nat} (k:ByteArray):∀ {l:cN},(∀ p∈l,p.2.1.size≤M)→(fO l k).size≤M
 | [],_=>aII _
 | (k',a,n)::r,h=>by
  rw [fO]
  split
  ·exact h _ List.mem_cons_self
  exact zT k fun p hp=>h p (List.mem_cons_of_mem _ hp)
theorem JI (l:cN) (P:List ByteArray):(eD l P).length=2*l.length+2+P.length:=by rw [mN,aHt,aHs,lE,kW,aHt];omega
theorem rS {l:cN} {P:List ByteArray} {M:Nat} (h21:21≤M) (hM:M < 1000000000) (hl:∀ p∈l,p.1.size≤M∧p.2.1.size≤M) (hP:∀ s∈P,s.size≤M) (hn:2*l.length+2+P.length < 1000000000) :
  (bM l P).length≤(2*l.length+2+P.length)*(M+22)+22:=by
 have h1:(aT (eD l P)).length≤(eD l P).length*(M+22):=by
  refine wP (by omega) _ fun s hs=>?_;rw [mN] at hs;rcases aID.1 hs with rfl|hs
  ·have:=wR l.length (by omega);omega
  rcases List.mem_append.1 hs with hs|hs
  ·obtain ⟨x,hx,hs⟩:=List.mem_flatMap.1 hs;simp only [aID,aIH,or_false] at hs;rcases hs with rfl|rfl
   ·obtain ⟨p,hp,rfl⟩:=List.mem_map.1 (mO.1 hx);exact(hl p hp).1
   exact zT x fun p hp=>(hl p hp).2
  rcases aID.1 hs with rfl|hs
  ·have:=wR P.length (by omega);omega
  exact hP s hs
 rw [JI] at h1;have hb:(2*l.length+2+P.length)*(M+22)≤1000000000*1000000022:=Nat.mul_le_mul (by omega) (by omega);have hd:=dT (k:=19) (u:=(aT (eD l P)).length) (by omega) (by decide);rw [bM,fB,aHs,aHt,aHs,bB,bO];have h0:(aT []).length=0:=rfl;omega
theorem OY {t:List UInt8} (ht:t.length < 1000000) (hb:pD t=false):(bM (fU t).1 (eJ t)).length < 35184372088832∧(fU t).1.length≤t.length∧(eJ t).length≤t.length:=by
 have h1:=MU ((F1 t).drop 1) (UG t);have hlen:(F1 t).length≤t.length:=by
  have go:∀ (n:Nat) (u:List UInt8) (acc:List ByteArray),(iJ n u acc).1.length≤acc.length+n:=by
   intro n
   induction n with
   | zero=>intro u acc;exact Nat.le_add_right _ _
   | succ n ih =>
    intro u acc;rw [iJ]
    split
    ·exact Nat.le_add_right _ _
    split
    ·exact aII _
    have:=ih ((tW u).drop (Q9 u)) (acc++[ofL ((tW u).take (Q9 u))]);rw [aHs,List.length_singleton] at this;omega
  have:=go t.length t [];rw [List.length_nil,aIJ] at this;exact this
 rw [pD] at hb;simp only [aIN,aHz] at hb;have h2:UG t≤(F1 t).length / 2:=by
  have h3:=hb.1.2;have h4:=hb.1.1.2;rw [UG];omega
 have h5:(fU t).1.length≤t.length:=by
  show (BJ ((F1 t).drop 1) (UG t)).1.length≤_;omega
 have h6:(eJ t).length≤t.length:=by
  rw [eJ,aIG];omega
 refine⟨?_,h5,h6⟩;have h7:=rS (l:=(fU t).1) (P:=eJ t) (M:=1000000) (by decide) (by decide) (fun p hp=>by
  have:=MT (W:=(F1 t).drop 1) (M:=t.length) (fun x hx=>uH (List.mem_of_mem_drop hx)) _ p hp;omega) (fun s hs=>by have:=uH (List.mem_of_mem_drop hs);omega) (by omega)
 have h8:(2*(fU t).1.length+2+(eJ t).length)*(1000000+22)≤3000002*1000022:=Nat.mul_le_mul (by omega) (by omega);omega
structure Calm (d:DSt) (n:Nat):Prop where
 inv:DInv d n 0
 off:d.off=false
 na:∀ a w b,d.arm≠.on a w b
theorem Calm.q {d:DSt} {n:Nat} (h:Calm d n):d.q=[]:=List.length_eq_zero_iff.1 (Nat.le_zero.1 h.inv.q)
theorem B5 {n:Nat} (h1:1≤n) (h2:n≤8000):Calm (pK n) n:=⟨aDg h1 h2,rfl,fun a w b h=>by cases h⟩
theorem KZ {s:DSt} (h:∀ a w b,s.arm≠.on a w b):eK s=s∧eG s=0:=by
 unfold eK eG;cases e:s.arm with
 | on a w b=>exact absurd e (h a w b)
 | never=>exact⟨rfl,rfl⟩
 | off a w b=>exact⟨rfl,rfl⟩
def pW (cells:List ByteArray) (p:Nat):List ByteArray→List ByteArray
 | []=>cells
 | t::r=>pW (cells.set p t) (p+1) r
def AQ (p:Nat):List ByteArray→List (Nat×ByteArray)
 | []=>[]
 | t::r=>(p,t)::AQ (p+1) r
theorem MB:∀ (A B:List ByteArray) (p:Nat),AQ p (A++B)=AQ p A++AQ (p+A.length) B
 | [],B,p=>rfl
 | t::A,B,p=>by
  rw [List.cons_append,AQ,AQ,MB A B (p+1),List.cons_append,aHt,Nat.add_assoc p 1,Nat.add_comm 1 A.length]
theorem ER:∀ (L cells:List ByteArray) (p:Nat),dL cells (AQ p L)=pW cells p L
 | [],_,_=>rfl
 | t::r,cells,p=>ER r (cells.set p t) (p+1)
theorem oT:∀ (L cells:List ByteArray) (p:Nat),(pW cells p L).length=cells.length
 | [],_,_=>rfl
 | t::r,cells,p=>(oT r (cells.set p t) (p+1)).trans List.length_set
theorem nG:∀ (L cells:List ByteArray) (p j:Nat),(pW cells p L)[j]?=if p≤j∧j < p+L.length∧j < cells.length then L[j - p]? else cells[j]?
 | [],cells,p,j=>by rw [pW,aHp (by rw [List.length_nil];omega)]
 | t::r,cells,p,j=>by
  rw [pW,nG r (cells.set p t) (p+1) j,List.length_set,aHt];by_cases h:p≤j∧j < p+(r.length+1)∧j < cells.length
  ·rw [aHq h];by_cases e:p=j
   ·subst e;rw [aHp (by omega),List.getElem?_set_self h.2.2,Nat.sub_self];rfl
   rw [aHq (by omega),show j - p=(j - (p+1))+1 by omega,List.getElem?_cons_succ]
  rw [aHp h,aHp (by omega)];by_cases e:p=j
  ·subst e;have hl:cells.length≤p:=by omega
   rw [List.getElem?_eq_none (by rw [List.length_set];exact hl),List.getElem?_eq_none hl]
  rw [List.getElem?_set_ne e]
theorem OE {d:DSt} {n:Nat} (h:Calm d n) {place:Nat} {L:List ByteArray} (hp:place+L.length≤n) (hs:∀ t∈L,t.size=64):∀ i,i≤L.length→oN d place L i=(0,{d with q:=AQ place (L.take i),gq:=d.gq+i})
 | 0,_=>by
  rw [oN,List.take_zero,AQ,← h.q];rfl
 | i+1,hi=>by
  obtain ⟨t,ht⟩:=aY (l:=L) (k:=i) (by omega);have hz:=hs t (aIB ht);have hD:L.getD i sNil=t:=by rw [List.getD_eq_getElem?_getD,ht];rfl
  have hq:AQ place (L.take (i+1))=AQ place (L.take i)++[(place+i,t)]:=by
   rw [bW ht,MB,aIF,Nat.min_eq_left (by omega)];rfl
  obtain ⟨s,hS⟩:∃ s,s=({d with q:=AQ place (L.take i),gq:=d.gq+i}:DSt):=⟨_,rfl⟩;have so:s.off=false:=by rw [hS];exact h.off
  have sc:fK s ((place+i:Nat):Int)=true:=by
   rw [fY,hS];exact decide_eq_true (by have:=h.inv.n;show place+i < d.cells.length;omega)
  obtain ⟨c1,c2⟩:=KZ (s:=iS s (place+i) t) (by rw [hS];exact h.na);rw [oN,OE h hp hs i (by omega),aHq rfl,hD,hq,← hS];have w1:gK s ((place+i:Nat):Int) t=0:=by rw [gK,so,aHp (by decide),sc,decide_eq_true hz,aHq (show (true&&true)=true from rfl),aIC,c2]
  have w2:gR s ((place+i:Nat):Int) t=iS s (place+i) t:=by rw [gR,so,aHp (by decide),sc,decide_eq_true hz,aHq (show (true&&true)=true from rfl),aIC,c1]
  rw [w1,w2,hS];rfl
theorem ZR {d:DSt} {n:Nat} (h:Calm d n) {place:Nat} {L:List ByteArray} (hp:place+L.length≤n) (hs:∀ t∈L,t.size=64):gY d place L=(0,{d with cells:=pW d.cells place L,q:=[],gq:=d.gq+L.length+1}):=by
 have hk:=OE h hp hs L.length (aHx _);rw [List.take_length] at hk;obtain ⟨s,hS⟩:∃ s,s=({d with q:=AQ place L,gq:=d.gq+L.length}:DSt):=⟨_,rfl⟩;have so:s.off=false:=by rw [hS];exact h.off
 obtain ⟨c1,c2⟩:=KZ (s:=s) (by rw [hS];exact h.na);rw [← hS] at hk;have w1:mG s=0:=by rw [mG,so,aHp (by decide),c2]
 have w2:jJ s=AF s:=by rw [jJ,so,aHp (by decide),c2,aHq rfl,c1]
 rw [gY,hk,aHq rfl,w1,w2,AF,hS];show (0,({d with cells:=dL d.cells (AQ place L),q:=[],gq:=d.gq+L.length+1}:DSt))=_;rw [ER]
theorem B4 {d:DSt} {n:Nat} (h:Calm d n) {place:Nat} {L:List ByteArray} (hp:place+L.length≤n) (hs:∀ t∈L,t.size=64) (hm:L.length≤1048576):(gY d place L).1=0∧Calm (gY d place L).2 n∧(gY d place L).2.cells=pW d.cells place L:=by have hi:=kI h.inv place L (by omega);rw [ZR h hp hs] at hi ⊢;exact⟨rfl,⟨⟨hi.ok,hi.arm,hi.n,aII _⟩,h.off,h.na⟩,rfl⟩
theorem rB {d:DSt} {n:Nat} (h:Calm d n) (i:Nat):cH d i=(d.cells[i]?).getD ⟨#[]⟩:=by rw [cH,h.q];rfl
theorem BR (place:Nat) {a n:Nat} (ha:a < 10) (hn:n < 10000000):(hS place a n).size=64:=by rw [bO,D6,JQ];rw [aHs,jT (nN a (by omega) (by omega)),jT (nN n (by omega) (by omega))];omega
theorem SD (place:Nat) {p:List UInt8} (h:p.length≤46):(fE place p).length=64:=by rw [fE,JQ];rw [aHs,jT (nN _ (by omega) (by omega))];omega
theorem JO (fr:Nat) (t:List UInt8) (i:Nat):∀ x∈gG fr t i,x.size=64:=fun x hx=>by
 obtain ⟨j,hj,rfl⟩:=List.mem_map.1 hx;rw [bO,SD _ (by rw [qU];omega)]
theorem AY {fr:Nat} {t:List UInt8} {i j:Nat} (h:j < i):(gG fr t i)[j]?=some (ofL (fE (fr+j) (gH t j))):=by rw [gG,aIL,List.getElem?_range h];rfl
theorem aBl {d:DSt} {n:Nat} (h:Calm d n) (hn:2≤n) {a cn:Nat} (ha:a < 10) (hc:cn < 10000000):(pV d a cn).1=0∧Calm (pV d a cn).2 n∧(pV d a cn).2.cells=(d.cells.set 1 (hS 1 a cn)).set 0 (hS 0 a cn):=by obtain ⟨a1,a2,a3⟩:=B4 h (place:=1) (L:=[hS 1 a cn]) (by rw [List.length_singleton];omega) (fun t ht=>by rw [aHu.1 ht];exact BR _ ha hc) (by rw [List.length_singleton];omega);obtain ⟨b1,b2,b3⟩:=B4 a2 (place:=0) (L:=[hS 0 a cn]) (by rw [List.length_singleton];omega) (fun t ht=>by rw [aHu.1 ht];exact BR _ ha hc) (by rw [List.length_singleton];omega);rw [pV,aHq a1];exact⟨b1,b2,by rw [b3,a3];rfl⟩
theorem B6 {d:DSt} {n:Nat} (h:Calm d n) {k a cn:Nat} {t:List UInt8} (hk:2*k+2≤n) (hn:n≤8000) (ha:a < 2) (hc:cn+dD t≤k) :
  (fR d k a cn t).1=0∧Calm (fR d k a cn t).2 n∧(fR d k a cn t).2.cells=((pW d.cells (2+a*k+cn) (gG (2+a*k+cn) t (dD t))).set 1 (hS 1 a (cn+dD t))).set 0 (hS 0 a (cn+dD t)):=by
 have hak:a*k≤k:=by
  rcases(show a=0∨a=1 by omega)with e|e<;>subst e<;>omega
 obtain ⟨a1,a2,a3⟩:=B4 h (place:=2+a*k+cn) (L:=gG (2+a*k+cn) t (dD t)) (by rw [eB];omega) (JO _ _ _) (by rw [eB];omega);obtain ⟨b1,b2,b3⟩:=aBl a2 (a:=a) (cn:=cn+dD t) (by omega) (by omega) (by omega);rw [fR,aHq a1];exact⟨b1,b2,by rw [b3,a3]⟩
abbrev CT:=ByteArray→Option ByteArray
def vC (C:CT) (l:cN) (D:List ByteArray):CT:=fun x=>if x∈D then none else(eN l x).orElse fun _=>C x
def ctA (C:CT) (t:List UInt8):CT:=vC C (fU t).1 (eJ t)
def pT (T:List (List UInt8)):CT:=T.foldl ctA (fun _=>none)
theorem vD (T:List (List UInt8)) (t:List UInt8):pT (T++[t])=ctA (pT T) t:=by rw [pT,List.foldl_append];rfl
theorem QI {C:CT} {l:cN} {D:List ByteArray} {x v:ByteArray} (h:vC C l D x=some v):eN l x=some v∨C x=some v:=by
 rw [vC] at h
 split at h
 ·cases h
 cases e:eN l x with
 | none=>rw [e] at h;exact .inr h
 | some u=>rw [e] at h;exact .inl h
theorem NM (T:List (List UInt8)) {x v:ByteArray}:pT T x=some v→∃ t∈T,eN (fU t).1 x=some v:=by
 have go:∀ (n:Nat) (T:List (List UInt8)),T.length=n→pT T x=some v→∃ t∈T,eN (fU t).1 x=some v:=by
  intro n
  induction n with
  | zero =>
   intro T hT h;rw [List.length_eq_zero_iff.1 hT] at h;cases h
  | succ n ih =>
   intro T hT h;have hne:T≠[]:=fun e=>by rw [e] at hT;cases hT
   have e:T=T.dropLast++[T.getLast hne]:=(List.dropLast_concat_getLast hne).symm;rw [e,vD] at h;rcases QI h with h|h
   ·exact⟨_,List.getLast_mem hne,h⟩
   obtain ⟨t,ht,h2⟩:=ih T.dropLast (by rw [List.length_dropLast];omega) h;exact⟨t,List.dropLast_subset T ht,h2⟩
 exact go T.length T rfl
theorem uG {t:List UInt8} (h:iK t=true):(cS t).2=true∧pD t=false∧0 < (fU t).1.length+(eJ t).length∧bX (fU t).1 (eJ t)=0:=by rw [iK] at h;simp only [aIA,aIK] at h;obtain ⟨h1,h2,h3⟩:=h;rw [zK,aIN] at h1;rw [uI] at h3;simp only [aIN,aHz,Bool.not_eq_false',aHy] at h3;refine⟨by simpa using h1.1,h2,by have:=h3.1.1.1.1;omega,h3.1.1.1.2⟩
theorem qQ {l:cN} {D:List ByteArray} (h:bX l D=0):(∀ p∈l,cR p.1=true∧p.1∉D∧p.2.1.size≤20000)∧∀ s∈D,cR s=true:=by
 rw [bX] at h
 split at h
 ·cases h
 next h1 =>
 split at h
 ·cases h
 next h2 =>
 rw [Bool.not_eq_true,aIN] at h1;constructor
 ·intro p hp;have a1:=List.any_eq_false.1 h1.1 p hp;have a2:=List.any_eq_false.1 (Bool.not_eq_true _▸h2) p hp;rw [AI] at a1;rw [bigV] at a2;simp only [Bool.not_eq_true,aIN,Bool.not_eq_false',aHz] at a1 a2;refine⟨a1.1,fun hm=>?_,by omega⟩;rw [lC.2 hm] at a1;cases a1.2
 intro s hs;have a1:=List.any_eq_false.1 h1.2 s hs
 simpa using a1
theorem zU {l:cN} {D:List ByteArray} (h1:∀ p∈l,cR p.1=true∧p.1∉D∧p.2.1.size≤20000) (h2:∀ s∈D,cR s=true):bX l D=0:=by
 have a1:l.any (AI D)=false:=List.any_eq_false.2 fun p hp=>by
  have:=h1 p hp;rw [AI,this.1,Bool.not_true,Bool.false_or];exact fun e=>this.2.1 (lC.1 e)
 have a2:D.any (fun s=>!cR s)=false:=List.any_eq_false.2 fun s hs=>by rw [h2 s hs];decide
 have a3:l.any bigV=false:=List.any_eq_false.2 fun p hp=>by
  have:=(h1 p hp).2.2;rw [bigV];simp only [aHy];omega
 rw [bX,a1,a2,a3];rfl
theorem aGQ {T:List (List UInt8)} (hT:∀ t∈T,iK t=true) {x v:ByteArray} (h:pT T x=some v):cR x=true∧v.size≤20000:=by obtain ⟨t,ht,h2⟩:=NM T h;obtain ⟨n,hn⟩:=uT h2;have:=(qQ (uG (hT t ht)).2.2.2).1 _ hn;exact⟨this.1,this.2.2⟩
theorem aB9 {T:List (List UInt8)} (hT:∀ t∈T,iK t=true) {l:cN} (hn:gX l) (hl:∀ x,eN l x=pT T x):bX l []=0 :=zU (fun⟨x,v,n⟩ hp=>by
  have:=aGQ hT ((hl x).symm.trans (wN hn hp));exact⟨this.1,aIH,this.2⟩) (fun s hs=>by cases hs)
theorem aAt {α:Type} [DecidableEq α]:∀ {l m:List α},l.Nodup→(∀ x,x∈l→x∈m)→l.length≤m.length
 | [],m,_,_=>aII _
 | a::l,m,hn,h=>by
  have hn2:=List.nodup_cons.1 hn;have hm:a∈m:=h a List.mem_cons_self;have h2:=aAt (l:=l) (m:=m.erase a) hn2.2 (fun x hx=>(List.mem_erase_of_ne (fun e=>by subst e;exact hn2.1 hx)).2 (h x (List.mem_cons_of_mem _ hx)));rw [List.length_erase_of_mem hm] at h2;have:=List.length_pos_of_mem hm;rw [aHt];omega
theorem zG:∀ (n:Nat) (t:List UInt8) (acc:List ByteArray),(iJ n t acc).1.length≤acc.length+n
 | 0,t,acc=>Nat.le_add_right _ _
 | n+1,t,acc=>by
  rw [iJ]
  split
  ·exact Nat.le_add_right _ _
  split
  ·exact aII _
  have:=zG n ((tW t).drop (Q9 t)) (acc++[ofL ((tW t).take (Q9 t))]);rw [aHs,List.length_singleton] at this;omega
theorem AZ (t:List UInt8):(F1 t).length≤t.length:=by have:=zG t.length t [];rw [List.length_nil,aIJ] at this;exact this
theorem JT {t:List UInt8} (h:pD t=false):(fU t).1.length≤t.length:=by
 have h1:=MU ((F1 t).drop 1) (UG t);have h2:=AZ t;rw [pD] at h;simp only [aIN,aHz] at h;have h3:=h.1.2;have h4:=h.1.1.2;have:UG t≤(F1 t).length / 2:=by rw [UG];omega
 show (BJ ((F1 t).drop 1) (UG t)).1.length≤_;omega
theorem aFW {T:List (List UInt8)} (hT:∀ t∈T,iK t=true) {l:cN} (hn:gX l) (hl:∀ x,eN l x=pT T x):l.length≤(aT (T.map ofL)).length:=by
 have h1:(l.map Prod.fst).length≤(T.flatMap fun t=>(fU t).1.map Prod.fst).length:=aAt hn (fun x hx=>by
  cases e:eN l x with
  | none=>exact absurd hx (iX.1 e)
  | some v =>
   rw [hl] at e;obtain ⟨t,ht,h2⟩:=NM T e;obtain ⟨n,h3⟩:=uT h2;exact List.mem_flatMap.2 ⟨t,ht,List.mem_map.2 ⟨_,h3,rfl⟩⟩)
 rw [aHr] at h1;refine Nat.le_trans h1 ?_;clear h1 hl hn
 induction T with
 | nil=>exact aII _
 | cons t T ih =>
  have:=ih (fun t ht=>hT t (List.mem_cons_of_mem _ ht));have h2:=JT (uG (hT t List.mem_cons_self)).2.1;rw [List.flatMap_cons,aHs,aHr,List.map_cons,fB,aHs,aHt,aHs,bB];omega
structure LogAt (cells:List ByteArray) (fr:Nat) (Q:List (List UInt8)):Prop where
 p:∀ q∈Q,1≤q.length∧q.length≤46
 at':∀ i q,Q[i]?=some q→cells[fr+i]?=some (ofL (fE (fr+i) q))
structure SInv (cells:List ByteArray) (k a n:Nat) (C:CT):Prop where
 k1:1≤k
 kn:2*k+2≤cells.length∧cells.length≤2*k+3
 a2:a < 2
 nk:n≤k
 hd:(cells[1]?=some (hS 1 a n)∧cells[0]?=some (hS 0 a n))∨(cells[1]?=some zS∧cells[0]?=some zS∧a=0∧n=0)
 lg:∃ (Q T:List (List UInt8)),Q.length=n∧LogAt cells (2+a*k) Q∧Q.flatten=aT (T.map ofL)∧(∀ t∈T,iK t=true)∧C=pT T
theorem AC:∀ {Q:List (List UInt8)},(∀ q∈Q,1≤q.length∧q.length≤46)→Q.flatten.length≤46*Q.length
 | [],_=>aHx _
 | q::Q,h=>by
  have:=AC (Q:=Q) (fun q hq=>h q (List.mem_cons_of_mem _ hq));have:=(h q List.mem_cons_self).2;rw [List.flatten_cons,aHs,aHt];omega
theorem SInv.len {cells:List ByteArray} {k a n:Nat} {C:CT} (h:SInv cells k a n C) {l:cN} (hn:gX l) (hl:∀ x,eN l x=C x):l.length≤46*n:=by obtain ⟨Q,T,h1,h2,h3,h4,h5⟩:=h.lg;have:=aFW h4 hn (fun x=>by rw [hl,h5]);have:=AC h2.p;rw [h3] at this;omega
theorem SInv.wrong {cells:List ByteArray} {k a n:Nat} {C:CT} (h:SInv cells k a n C) {l:cN} (hn:gX l) (hl:∀ x,eN l x=C x):bX l []=0:=by obtain ⟨Q,T,h1,h2,h3,h4,h5⟩:=h.lg;exact aB9 h4 hn (fun x=>by rw [hl,h5])
theorem AS {k place:Nat}:kJ k place zS=false:=by
 have h:lG (zS.extract 16 24)=true:=by
  have e:(zS.extract 16 24).data.toList=[0,0,0,0,0,0,0,0]:=by
   rw [dS,bB];rfl
  rw [lG,e];rfl
 have hb:qT zS=true:=by rw [qT,h];rfl
 rw [kJ,hb];rfl
theorem FQ {n:Nat} (h1:4≤n):SInv (pK n).cells ((n - 2) / 2) 0 0 (fun _=>none):=by
 have hl:(pK n).cells.length=n:=by rw [pK,List.length_replicate]
 have hz:∀ i,i < n→(pK n).cells[i]?=some zS:=fun i hi=>by
  show (List.replicate n z64)[i]?=_;rw [List.getElem?_replicate,aHq hi];rfl
 refine⟨by omega,by omega,by omega,by omega,.inr ⟨hz 1 (by omega),hz 0 (by omega),rfl,rfl⟩,[],[],rfl,⟨fun q hq=>(by cases hq),fun i q hq=>(by cases hq)⟩,rfl,fun t ht=>(by cases ht),rfl⟩
theorem aAC {cells:List ByteArray} {k a n:Nat} {C:CT} (h:SInv cells k a n C) {l:cN} {D:List ByteArray} (hn:gX l) (hD:qW D) (h0:0 < l.length+D.length) (hw:bX l D=0) (hc:n+dD (bM l D)≤k) (hk:k < 5000) :
  SInv (((pW cells (2+a*k+n) (gG (2+a*k+n) (bM l D) (dD (bM l D)))).set 1 (hS 1 a (n+dD (bM l D)))).set 0 (hS 0 a (n+dD (bM l D)))) k a (n+dD (bM l D)) (vC C l D):=by
 obtain ⟨Q,T,h1,h2,h3,h4,h5⟩:=h.lg;have hin:=vX (l:=l) (P:=D) (N:=1000000) (by have:=hc;rw [dD] at this;omega);obtain ⟨r1,r2,r3⟩:=L6 hn hD h0 hw (by omega);obtain ⟨t,ht⟩:∃ t,t=bM l D:=⟨_,rfl⟩;have htj:t=aT [ofL (aT (eD l D))]:=ht;rw [← ht] at hc ⊢;have hak:a*k≤k:=by
  have:=h.a2;rcases(show a=0∨a=1 by omega)with e|e<;>subst e<;>omega
 have hlen:=h.kn;refine⟨h.k1,by rw [List.length_set,List.length_set,oT];exact h.kn,h.a2,hc,.inl ⟨?_,?_⟩,Q++(List.range (dD t)).map (gH t),T++[aT (eD l D)],?_,⟨?_,?_⟩,?_,?_,?_⟩
 ·rw [List.getElem?_set_ne (by omega),List.getElem?_set_self (by rw [oT];omega)]
 ·rw [List.getElem?_set_self (by rw [List.length_set,oT];omega)]
 ·rw [aHs,aHr,List.length_range,h1]
 ·intro q hq;rcases List.mem_append.1 hq with hq|hq
  ·exact h2.p q hq
  obtain ⟨i,hi,rfl⟩:=List.mem_map.1 hq;exact PD (List.mem_range.1 hi)
 ·intro i q hq;rw [List.getElem?_set_ne (by omega),List.getElem?_set_ne (by omega),nG,eB];by_cases hi:i < n
  ·rw [List.getElem?_append_left (by omega)] at hq;rw [aHp (by omega)];exact h2.at' i q hq
  rw [List.getElem?_append_right (by omega),h1,aIL] at hq;have hi2:i - n < dD t:=by
   by_cases e:i - n < dD t
   ·exact e
   rw [List.getElem?_eq_none (by rw [List.length_range];omega)] at hq;cases hq
  rw [List.getElem?_range hi2] at hq;cases hq;rw [aHq (by omega),show 2+a*k+i - (2+a*k+n)=i - n by omega,AY hi2,show 2+a*k+n+(i - n)=2+a*k+i by omega]
 ·rw [List.flatten_append,UU,h3,htj,List.map_append,D5];rfl
 ·intro u hu;rcases List.mem_append.1 hu with hu|hu
  ·exact h4 u hu
  rw [aHu.1 hu];exact r1
 rw [vD,← h5,ctA,r3];funext x;rw [vC,vC,r2]
def oE (l:cN):List ByteArray:=(eT l).flatMap fun k=>[k,fO l k]
theorem GW (l:cN):(oE l).length=2*l.length:=by rw [oE,lE,kW]
def qS (s:cN×Nat) (ps:List (ByteArray×ByteArray)):cN×Nat:=ps.foldl (fun s p=>(lK s.1 p.1 p.2 s.2,uW s.1 p.1 s.2)) s
theorem R9 (s:cN×Nat) (ps:List (ByteArray×ByteArray)) (p:ByteArray×ByteArray):qS s (ps++[p])=(lK (qS s ps).1 p.1 p.2 (qS s ps).2,uW (qS s ps).1 p.1 (qS s ps).2):=by rw [qS,qS,List.foldl_append];rfl
theorem O7:∀ (ps:List (ByteArray×ByteArray)) (s:cN×Nat),fI s.1 s.2→gX s.1→fI (qS s ps).1 (qS s ps).2∧gX (qS s ps).1
 | [],s,h1,h2=>⟨h1,h2⟩
 | p::r,s,h1,h2=>O7 r _ (M0 h1 p.1 p.2) (M1 h2 p.1 p.2 s.2)
theorem J0:∀ (ps:List (ByteArray×ByteArray)) (s:cN×Nat),(qS s ps).1.length≤s.1.length+ps.length
 | [],s=>aHx _
 | p::r,s=>by
  have h1:=J0 r (lK s.1 p.1 p.2 s.2,uW s.1 p.1 s.2);have h2:=(GX p.1 p.2 s.2 s.1).2;rw [aHt];show (qS (lK s.1 p.1 p.2 s.2,uW s.1 p.1 s.2) r).1.length≤_;have h3:(lK s.1 p.1 p.2 s.2,uW s.1 p.1 s.2).1.length=(lK s.1 p.1 p.2 s.2).length:=rfl;omega
def yX:List (ByteArray×ByteArray)→ByteArray→Option ByteArray
 | [],_=>none
 | p::r,k=>(yX r k).orElse fun _=>if p.1=k then some p.2 else none
theorem UO (k:ByteArray):∀ (ps:List (ByteArray×ByteArray)) (s:cN×Nat),eN (qS s ps).1 k=(yX ps k).orElse fun _=>eN s.1 k
 | [],s=>rfl
 | p::r,s=>by
  have h:=UO k r (lK s.1 p.1 p.2 s.2,uW s.1 p.1 s.2);show eN (qS (lK s.1 p.1 p.2 s.2,uW s.1 p.1 s.2) r).1 k=_;rw [h,EX,yX];cases yX r k with
  | some v=>rfl
  | none =>
   show (if p.1=k then some p.2 else eN s.1 k)=((if p.1=k then some p.2 else none).orElse fun _=>eN s.1 k)
   split<;>rfl
abbrev fJ (ps:List (ByteArray×ByteArray)):cN×Nat:=qS ([],0) ps
theorem SX (ps:List (ByteArray×ByteArray)) (k:ByteArray):eN (fJ ps).1 k=yX ps k:=by rw [fJ,UO];show ((yX ps k).orElse fun _=>none)=_;cases yX ps k<;>rfl
theorem SR:fI ([]:cN) 0:=⟨List.Pairwise.nil,fun p hp=>(by cases hp)⟩
theorem GO:gX ([]:cN):=List.nodup_nil
theorem lA (ps:List (ByteArray×ByteArray)):fI (fJ ps).1 (fJ ps).2∧gX (fJ ps).1:=O7 ps _ SR GO
theorem wL {ps:List (ByteArray×ByteArray)} {p:ByteArray×ByteArray×Nat} (h:p∈(fJ ps).1):(p.1,p.2.1)∈ps:=by
 obtain ⟨k,v,n⟩:=p;have e:=wN (lA ps).2 h;rw [SX] at e;have go:∀ ps:List (ByteArray×ByteArray),yX ps k=some v→(k,v)∈ps:=by
  intro ps
  induction ps with
  | nil=>intro h;cases h
  | cons q r ih =>
   intro h;rw [yX] at h;cases e:yX r k with
   | some u =>
    rw [e] at h;cases h;exact List.mem_cons_of_mem _ (ih e)
   | none =>
    rw [e] at h;by_cases e2:q.1=k
    ·have h:(if q.1=k then some q.2 else none)=some v:=h;rw [aHq e2] at h;cases h;rw [← e2];exact List.mem_cons_self
    have h:(if q.1=k then some q.2 else none)=some v:=h;rw [aHp e2] at h;cases h
 exact go ps e
end Go.Proofs.YtmkgeogoojcciaaGreatDoor
namespace Go.Proofs.YtmkgeogoojcciaaGreatDoor
open Go.Proofs.Tryz
open Go.Abs
theorem kF (l:List ByteArray):∀ r∈l.map encStr,r.length=1:=fun r hr=>by
 obtain ⟨t,_,rfl⟩:=List.mem_map.1 hr;rfl
def cSZ (l:List ByteArray):Ob:=bx 1 31 [.pv (aX l)]
def cNZ:Ob:=bx 1 3 [iv 2]
theorem aBk (l:List ByteArray) (H:aE) (h1:H.get 931=none) (h2:H.get 932=none) :
  aK Tryz.prog 118 [.pv (aX l),iv 2] H (fun r H'=>r=.clo 145 [.ref 931 0 0 0,.ref 932 0 0 0]∧H'=(932,cNZ)::(931,cSZ l)::H):=by
 have h2':aE.get ((931,cSZ l)::H) 932=none:=h2;refine Bd func118 rfl ntmps118<|Sr<|Dd (by exact jQ (id:=931) rfl rfl rfl rfl h1)<|Dd (by exact jQ (id:=932) rfl rfl rfl rfl h2')<|Dd aR<|Zz<|Sq<|Sr<|Dd (cW aL)<|Dd cP<|Zz ?_;refine Cn ?_ ?_<;>intro hc1
 ·cases hc1
 refine aF<|Sr<|Dd (by exact iQ rfl rfl)<|Dd aR<|Zz<|aH ?_;refine bI (H':=((932,cNZ)::(931,cSZ l)::H)) (.inr rfl) rfl (aI rfl) Fin.refl ?_;exact Qq
def D2 (l:List ByteArray) (k:Nat):List ByteArray:=(l.drop (2*k)).take 2
theorem XC (l:List ByteArray) (k:Nat):((l.map encStr).drop (2*k)).take 2=(D2 l k).map encStr:=by rw [D2,List.map_take,List.map_drop]
theorem aD3 {n:Nat} (h:2≤n):min (2:Int) (n:Int)=2:=Int.min_eq_left (by omega)
theorem YH (l:List ByteArray) (fv:AV) (Hs:Nat→aE) (m:Nat) (hl:l.length=2*m) (hm:m < 1099511627776) (h1:∀ k,(Hs k).get 931=some (cSZ l)) (h2:∀ k,(Hs k).get 932=some cNZ)
  (hy:∀ k,k < m→iL Tryz.prog fv [.pv (aX (D2 l k))] (Hs k) (fun r H'=>r=bv true∧H'=Hs (k+1))) :
  aK Tryz.prog 145 [fv,.ref 931 0 0 0,.ref 932 0 0 0] (Hs 0) (fun r H'=>r=.tup []∧H'=Hs m):=by
 have hml:(l.map encStr).length=l.length:=aHr _;refine Bd func145 rfl ntmps145<|Sr<|Dd aR<|Zz<|aJ ?_;refine bG (σ:=Nat) (fun k=>([(0,fv),(1,.ref 931 0 0 0),(2,.ref 932 0 0 0),(4,iv ((2*k:Nat):Int))],Hs k)) (fun k=>k≤m) (fun k=>m - k) 0 (aII _) ?_ ?_
 ·exact E0
 rintro k hkm;refine Sq<|Sr<|Dd aB<|Dd (by exact bH rfl bJ rfl (h1 k) rfl rfl rfl)<|Dd (jY aO)<|Dd cP<|Zz ?_;refine Cn ?_ ?_<;>intro hc1
 ·have hlt:2*k < l.length:=by have:=aHn hc1;omega
  have hkm2:k < m:=by omega
  have hyk:=hy k hkm2;have hdl:((l.map encStr).drop (2*k)).length=l.length - 2*k:=by rw [aIG,hml]
  refine aF<|Sq<|aJ<|Sq<|bF follows<|Cq (by exact bH rfl aL rfl (h2 k) rfl rfl rfl)<|Cq (by exact bH rfl bJ rfl (h1 k) rfl rfl rfl)<|Cq aB<|Cq (by exact fW (l:=2*k) (h:=(l.map encStr).length) (rows':=(l.map encStr).drop (2*k)) rfl cD rfl (kF l) rfl rfl (by omega) (aHx _) (by rw [List.take_length]))<|Cq (jY aO)<|Cq (by exact uN (r:=2) rfl rfl rfl (by rw [hdl];exact aD3 (by omega)))<|Cq aR<|cA<|Kr<|Sr<|Dd aB<|Dd (by exact bH rfl bJ rfl (h1 k) rfl rfl rfl)<|Dd aB<|Dd aB<|Dd aB<|Dd (by exact bA rfl rfl rfl (show IntKind.i64.wrap (((2*k:Nat):Int)+2)=((2*k+2:Nat):Int)by rw [IntKind.wrap_i64];omega))<|Dd aB<|Dd aB<|Dd (by exact bA rfl rfl rfl (show IntKind.i64.wrap (((2*k:Nat):Int)+2)=((2*k+2:Nat):Int)by rw [IntKind.wrap_i64];omega)) ?_;refine Dd (by exact ZN (l:=2*k) (h:=2*k+2) (rows':=(D2 l k).map encStr) rfl cD rfl (kF l) rfl rfl rfl (by omega) (by omega) (by intro h;rw [List.map_eq_nil_iff] at h;rw [h] at hlt;exact absurd hlt (Nat.not_lt_zero _)) (by rw [← XC,List.drop_take];congr 1;omega))<|Dd (by exact kZ rfl rfl rfl (hyk))<|Dd pY<|Zz ?_;refine Cn ?_ ?_<;>intro hc2
  ·cases hc2
  refine aF<|Rg<|Dd aB<|Dd (by exact bH rfl aL rfl (h2 (k+1)) rfl rfl rfl)<|Dd (by exact bA rfl rfl rfl (show IntKind.i64.wrap (((2*k:Nat):Int)+2)=((2*(k+1):Nat):Int)by rw [IntKind.wrap_i64];omega))<|Da ?_;exact⟨k+1,hkm2,by omega,E0⟩
 have hge:l.length≤2*k:=by have:=aHo hc1;omega
 have hkk:k=m:=by omega
 refine aV ?_;rw [← hkk];exact eQ (H':=Hs k) (.inl rfl) rfl Fin.refl ⟨rfl,rfl⟩
theorem aFt (l:List ByteArray):∀ r∈l.map encStr,r.length=1:=fun r hr=>by
 obtain ⟨t,_,rfl⟩:=List.mem_map.1 hr;rfl
theorem aBh (l:List ByteArray) (H:aE) (hc:bT H) (h1:H.get 901=none) (hl:l.length < 1099511627776) :
  aK Tryz.prog 120 [.pv (aX l)] H (fun r H'=>r=.osl 901 1 0 l.length∧H'=(901,⟨1,1,9,mW l⟩)::H):=by
 have hml:(l.map encStr).length=l.length:=aHr _;refine Bd func120 rfl ntmps120<|Sr<|Dd aR<|Zz<|Sq<|Sr<|Dm ?_;refine gC rfl rfl (SG rfl aO rfl) ?_;rintro _ H2 ⟨e2,b,rfl,hb⟩;rw [e2];clear e2 H2;refine Zz ?_;refine Cn ?_ ?_<;>intro hc1
 ·have h0:=hb hc1;have h00:l=[]:=List.map_eq_nil_iff.1 h0;subst h00;refine Sr<|Dd (by exact eU (id:=901) (sz:=1) (ty:=9) rfl h1 rfl)<|Zz<|aH ?_;refine bI (H':=((901,⟨1,1,9,[]⟩)::H)) (.inr rfl) rfl (aI rfl) ((Fin.bump (g:=0) (k:=1) rfl rfl (by decide) rfl rfl rfl).trans (Fin.get' (fun j=>lD _ _ _ _ j))) ?_;exact Qq
 refine aF<|Sr<|Dd (by exact fX (id:=901) rfl cD rfl rfl rfl rfl (by simp) h1)<|Dd aB<|Dd (by exact dV rfl cD IB rfl rfl rfl rfl rfl rfl rfl (aFt l) hml (by omega) (aIJ _) (show []++(l.map encStr).map (·.map AV.pv)=mW l by rw [List.nil_append,List.map_map];rfl))<|Dd aR<|Zz<|aH ?_;refine bI (H':=((901,⟨1,1,9,mW l⟩)::H)) (.inr rfl) rfl (aI rfl) (Fin.get' (fun j=>lD _ _ _ _ j)) ?_;exact Qq
end Go.Proofs.YtmkgeogoojcciaaGreatDoor
namespace Go.Proofs.YtmkgeogoojcciaaGreatDoor
open Go.Proofs.Tryz
open Go.Abs Go.Lib
theorem O8:∀ (ps l:cN) (c:Nat),(kH l c ps).1.length≤l.length+ps.length
 | [],l,c=>aHx _
 | (k,v,n)::r,l,c=>by
  have h1:=O8 r (lK l k v c) (uW l k c);have h2:=(GX k v c l).2;show (kH (lK l k v c) (uW l k c) r).1.length≤_;rw [aHt];omega
theorem aB6 (P:List ByteArray):∀ l:cN,(qA l P).length≤l.length:=by
 induction P with
 | nil=>exact fun l=>aHx _
 | cons k r ih=>exact fun l=>Nat.le_trans (ih (zV l k)) (wO k l).length_le
theorem B9 {l put ps:cN} {c:Nat} {D:List ByteArray} (hst:fI l c) (hnd:gX l) (hnp:gX put) (hp:ps.Perm put):fI (qA (kH l c ps).1 D) (kH l c ps).2∧gX (qA (kH l c ps).1 D)∧(qA (kH l c ps).1 D).length≤l.length+put.length∧∀ x,eN (qA (kH l c ps).1 D) x=vC (eN l) put D x:=by
 have h1:=UP ps l c hst hnd;have h2:=VV D _ _ h1.1 h1.2;have hnps:gX ps:=(hp.map Prod.fst).nodup_iff.2 hnp;refine⟨h2.1,h2.2,?_,fun x=>?_⟩
 ·have a1:=aB6 D (kH l c ps).1;have a2:=O8 ps l c;have a3:=hp.length_eq;omega
 rw [aB7 x D _ h1.2,aA6 x ps l c hnps,aBB hp x hnps,vC];by_cases hx:x∈D
 ·rw [aHq (lC.2 hx),aHq hx]
 rw [aHp (fun h=>hx (lC.1 h)),aHp hx]
abbrev rE (L:List ByteArray) (t:List UInt8) (u:Nat):bZ:=[(0,.mp 1101 0),(1,sv (ofL t)),(5,.pv (aX L)),(7,iv (u:Int)),(9,.ref 9 0 0 0)]
abbrev rK (W:List ByteArray) (j:Nat) (K:aE):aE:=(932,cNZ)::(931,cSZ W)::(9,mBx 950)::(950,cB (BJ W j).1 (BJ W j).2)::K
theorem XB {W:List ByteArray} {j:Nat} (h:2*j+1 < W.length):((D2 W j).map encStr)[0]?=some (encStr (W.getD (2*j) sNil))∧((D2 W j).map encStr)[1]?=some (encStr (W.getD (2*j+1) sNil)):=by have h0:W[2*j]?=some (W[2*j]'(by omega)):=aHw (by omega);have h1:W[2*j+1]?=some (W[2*j+1]'h):=aHw h;rw [aIL,aIL,D2,List.getElem?_take_of_lt (by omega),List.getElem?_take_of_lt (by omega),List.getElem?_drop,List.getElem?_drop,List.getD_eq_getElem?_getD,List.getD_eq_getElem?_getD,Nat.add_zero,h0,h1];exact Qq
theorem LN {H:aE} {id:Nat} {o:Ob} (h:H.get id=some o):Sub [(id,o)] H:=by
 intro j o2 ho;simp only [aE.get] at ho;cases e:Nat.beq id j with
 | true =>
  rw [e] at ho;cases ho;rw [← Nat.eq_of_beq_eq_true e];exact h
 | false=>rw [e] at ho;cases ho
theorem J8 (id:Nat) (l:cN) (c:Nat):bT [(id,cB l c)]:=bT.of (fun p hp=>by
 rw [aHu] at hp;subst hp;exact aU _ _ _)
theorem T1 (l:cN) (c:Nat) (P:List ByteArray) (hst:fI l c) (hl:l.length < 1099511627776) (hP:P.length < 1099511627776) (H:aE) (h:H.get 950=some (cB l c)):aK Tryz.prog 46 [.mp 950 0,.pv (aX P)] H (fun r H'=>r=iv (bX l P)∧H'=H) :=aK.frameS (aCn l c P hst hl hP) (LN h) (J8 _ _ _) (by simp;rfl)
theorem ZZ (l:cN) (c:Nat) (P:List ByteArray) (hst:fI l c) (hl:l.length < 1099511627776) (hP:P.length < 1099511627776) (hsz:(bM l P).length < 35184372088832) (H:aE) (h:H.get 950=some (cB l c)):aK Tryz.prog 50 [.mp 950 0,.pv (aX P)] H (fun r H'=>r=sv (ofL (bM l P))∧H'=H) :=aK.frameS (T4 l c P hst hl hP hsz) (LN h) (J8 _ _ _) (by simp;rfl)
theorem QT (H:aE) (l:List ByteArray):∀ r∈(cSZ l).rows,∀ a∈r,Clo H a:=by intro r hr a ha;simp only [cSZ,bx,aHu] at hr;subst hr;rw [aHu] at ha;subst ha;exact .pv _
theorem QU (H:aE):∀ r∈cNZ.rows,∀ a∈r,Clo H a:=by intro r hr a ha;simp only [cNZ,bx,aHu] at hr;subst hr;rw [aHu] at ha;subst ha;exact .pv _
theorem Z4 (H:aE) (l:List ByteArray):∀ r∈mW l,∀ a∈r,Clo H a:=by intro r hr a ha;obtain ⟨s,_,rfl⟩:=List.mem_map.1 hr;obtain ⟨p,_,rfl⟩:=List.mem_map.1 ha;exact .pv _
theorem WS (d:DSt) (k a n:Nat) (b:Bool) (l:cN) (c:Nat) (t:List UInt8) (hst:fI l c) (hnd:gX l) (ht:t.length < 1000000) :
  aK Tryz.prog 89 [.mp 1101 0,sv (ofL t)] (sH d (dU k a n b) (cB l c)) (fun r H'=>r=bv (iK t)∧∃ l' c',fI l' c'∧gX l'∧l'.length≤l.length+t.length∧(iK t=true→∀ x,eN l' x=vC (eN l) (fU t).1 (eJ t) x)∧H'=sH d (dU k a n b) (cB l' c')):=by
 have hspl:=fun H=>OQ t H (by omega);have hLl:=AZ t;have hb1:zK t=(!(cS t).2||decide ((F1 t).length=0)):=rfl;have hok:iK t=(!zK t&&(!pD t&&!uI t)):=rfl;have bad:iK t=false→∃ l' c',fI l' c'∧gX l'∧l'.length≤l.length+t.length∧(iK t=true→∀ x,eN l' x=vC (eN l) (fU t).1 (eJ t) x)∧sH d (dU k a n b) (cB l c)=sH d (dU k a n b) (cB l' c'):=fun h=>⟨l,c,hst,hnd,Nat.le_add_right _ _,fun h2=>(by rw [h] at h2;cases h2),rfl⟩;obtain ⟨ok,hokv⟩:∃ ok,ok=(cS t).2:=⟨_,rfl⟩;obtain ⟨L,hL⟩:∃ L,L=F1 t:=⟨_,rfl⟩;have hL2:(cS t).1=L:=hL.symm;rw [← hokv,hL2] at hspl;rw [← hokv,← hL] at hb1;rw [← hL] at hLl;have hml:(L.map encStr).length=L.length:=aHr _;refine Bd func89 rfl ntmps89<|Sr<|Dd aR<|Zz<|Sr<|Dd aB<|Dd (by exact aA rfl rfl call87 rfl (hspl _))<|Dd aB<|Dd eC<|Dd eC<|Dd aR<|Dd aR<|Zz<|Sq<|Sq ?_;refine cQ (t:=23) (n:=8) (X:=!ok||decide (((L.map encStr).length:Int)=0)) ?_ ?_
 ·all_goals refine Dd aB ?_
  all_goals refine Dd pY<|Dm ?_
  all_goals refine Sp 19 (fun h19=>?_) fun h19=>?_
  all_goals try contradiction
  all_goals first|refine Fo<|Fo<|Fo ?_|refine On aB<|On (jY aO)<|On eP ?_
  all_goals refine Dd cX<|Zz ?_
  all_goals(exact⟨⟨_,rfl,by(rw [h19];rfl)⟩,rfl,rfl,rfl⟩)
 refine Cn ?_ ?_<;>intro hc1
 ·have hq:=hc1;have hf:iK t=false:=by
   rw [hok,hb1];have h2:(!ok||decide (L.length=0))=true:=by
    rw [hml] at hq
    rwa [show decide ((L.length:Int)=0)=decide (L.length=0)from decide_eq_decide.2 (by omega)] at hq
   rw [h2];rfl
  refine Sr<|Dd aR<|Zz<|aH ?_;refine bI (H':=(sH d (dU k a n b) (cB l c))) (.inr rfl) rfl (aI rfl) (Fin.wk (by(simp;done)) (Hc (aM _ _ rfl rfl rfl)<|Hc (aG _ _)<|Hc (aD _ _ _)<|Hc (aP _ _)<|Hc (cF rfl rfl)<|Hc (aU _ _ _)<|trivial) ⟨rfl,rfl,rfl,rfl,rfl,rfl,trivial⟩) ?_;exact⟨by rw [hf],bad hf⟩
 have hq:=hc1;rw [aIN,Bool.not_eq_false',aHz] at hq;have hl0:0 < L.length:=by omega
 have hb1f:zK t=false:=by rw [hb1,hq.1,decide_eq_false (by omega)];rfl
 obtain ⟨x,hx⟩:=aY hl0;have hix:=cV (f:=encStr) hx;have hgD:L.getD 0 sNil=x:=by rw [List.getD_eq_getElem?_getD,hx];rfl
 have hxs:x.size < 1099511627776:=by have:=uH (t:=t) (x:=x) (by rw [← hL];exact aIB hx);omega
 have hat:=fun H=>FA x hxs H;have hb2:pD t=(((lG x||decide (fH x < 0))||decide (((L.length / 2:Nat):Int) < fH x))||decide ((L.length:Int) < 2*fH x+2)):=by rw [pD,rpV,← hL,hgD]
 have hN:UG t=(fH x).toNat:=by rw [UG,rpV,← hL,hgD]
 obtain ⟨v,hv⟩:∃ v,v=fH x:=⟨_,rfl⟩;obtain ⟨e,he⟩:∃ e,e=lG x:=⟨_,rfl⟩;simp only [← hv,← he] at hat hb2 hN;clear hv he;have hquo:IntKind.i64.wrap (((L.map encStr).length:Int).tdiv 2)=((L.length / 2:Nat):Int):=by
  rw [hml,Int.tdiv_eq_ediv_of_nonneg (by omega),eS (by omega) (by omega)];omega
 refine aF<|Sr<|Dd aB<|Dd (by exact aZ rfl cD rfl rfl (by omega) (by exact aIC _) hix rfl)<|Dd (gW aQ)<|Dd (by exact aA rfl rfl aCa rfl (hat _))<|Dd aB<|Dd eC<|Dd eC<|Dd aR<|Dd aR<|Zz<|Sq<|Sq ?_;refine cQ (t:=51) (n:=24) (X:=((e||decide (v < 0))||decide (((L.length / 2:Nat):Int) < v))||decide (((L.map encStr).length:Int) < 2*v+2)) ?_ ?_
 ·all_goals refine Dd aB ?_
  all_goals refine Dd (by exact BE rfl mK rfl)<|Dm ?_
  all_goals refine Sp 33 (fun h33=>?_) fun h33=>?_
  all_goals(try(with_reducible contradiction))
  all_goals first|refine Fo<|Fo ?_|refine On aB<|On cP ?_
  all_goals refine Dd cX<|Dm ?_
  all_goals refine Sp 37 (fun h37=>?_) fun h37=>?_
  all_goals(try(with_reducible contradiction))
  all_goals first|refine Fo<|Fo<|Fo<|Fo<|Fo ?_|refine On aB<|On aB<|On (jY aO)<|On (by exact nH rfl rfl rfl (by decide) hquo)<|On yP ?_
  all_goals refine Dd cX<|Dm ?_
  all_goals refine Sp 44 (fun h44=>?_) fun h44=>?_
  all_goals(try(with_reducible contradiction))
  all_goals first|refine Fo<|Fo<|Fo<|Fo<|Fo<|Fo ?_|refine On aB<|On (jY aO)<|On aB<|On (by exact fG rfl rfl rfl (by have q1:=aHo h37;have q2:=aHo h44;exact eS (by omega) (by omega)))<|On (by exact bA rfl rfl rfl (by have q1:=aHo h37;have q2:=aHo h44;exact eS (by omega) (by omega)))<|On cP ?_
  all_goals refine Dd cX<|Zz ?_
  all_goals(exact⟨⟨_,rfl,by first|(rw [h33];rfl)|(rw [h33,h37];rfl)|(rw [h33,h37,h44];rfl)⟩,rfl,rfl,rfl⟩)
 refine Cn ?_ ?_<;>intro hc2
 ·have hq2:=hc2;rw [hml] at hq2;have hf:iK t=false:=by rw [hok,hb2,hq2,hb1f];rfl
  refine Sr<|Dd aR<|Zz<|aH ?_;refine bI (H':=(sH d (dU k a n b) (cB l c))) (.inr rfl) rfl (aI rfl) (Fin.wk (by(simp;done)) (Hc (aM _ _ rfl rfl rfl)<|Hc (aG _ _)<|Hc (aD _ _ _)<|Hc (aP _ _)<|Hc (cF rfl rfl)<|Hc (aU _ _ _)<|trivial) ⟨rfl,rfl,rfl,rfl,rfl,rfl,trivial⟩) ?_;exact⟨by rw [hf],bad hf⟩
 have hq2:=hc2;rw [hml] at hq2;have hb2f:pD t=false:=hb2.trans hq2;rw [aIN,aIN,aIN,aHz,aHz,aHz] at hq2;obtain ⟨u,rfl⟩:∃ u:Nat,v=(u:Int):=⟨v.toNat,by omega⟩;rw [aIC] at hN;obtain ⟨W,hW⟩:∃ W,W=(L.drop 1).take (2*u):=⟨_,rfl⟩;have hWl:W.length=2*u:=by rw [hW,aIF,aIG];omega
 have hWe:((L.map encStr).take (2*u+1)).drop 1=W.map encStr:=by
  rw [hW,List.map_take,List.map_drop,List.drop_take];rfl
 have hput:fU t=BJ W u:=by
  rw [fU,← hL,hN,hW]
  conv=>lhs;rw [← List.take_append_drop (2*u) (L.drop 1)]
  exact MV _ _ u (by rw [aIF,aIG];omega)
 have hdrop:eJ t=L.drop (2*u+2):=by rw [eJ,← hL,hN]
 have hsm:=OY ht hb2f;have hb3:uI t=((((decide ((fU t).1.length+(eJ t).length=0)||!decide (bX (fU t).1 (eJ t)=0))||!decide (bM (fU t).1 (eJ t)=aT [ofL t]))||!gI (eJ t))||decide ((dQ (eJ t)).length < (eJ t).length)):=rfl;rw [hput] at hsm hb3 bad ⊢;have hpok:=C9 W u;obtain ⟨D,hD⟩:∃ D,D=eJ t:=⟨_,rfl⟩;rw [← hD] at hsm hb3 hdrop bad ⊢;have hDe:((L.map encStr).take (L.map encStr).length).drop (2*u+2)=D.map encStr:=by
  rw [List.take_length,hdrop,List.map_drop]
 clear hix hx hb1 hb2 hspl;refine aF<|Sr<|Dd (by exact oW (id:=950) iU rfl rfl)<|Dd (by exact dW (id:=9) rfl aGk rfl rfl)<|Uu (vJ sizeOf33)<|Zz<|Sq<|Sr<|Dd aB<|Dd aB<|Dd (by exact fG rfl rfl rfl (eS (by omega) (by omega)))<|Dd (by exact bA rfl rfl rfl (show IntKind.i64.wrap (2*(u:Int)+1)=((2*u+1:Nat):Int)by rw [eS (by omega) (by omega)];omega))<|Dd (by exact fW (l:=1) (h:=2*u+1) (rows':=W.map encStr) rfl cD rfl (kF L) rfl rfl (by omega) (by omega) hWe)<|Dd (by exact aA rfl rfl call118 rfl (aBk W _ rfl rfl))<|Zz<|aJ ?_;refine iF.ent (E':=(58,.clo 145 [.ref 931 0 0 0,.ref 932 0 0 0])::rE L t u) (H':=rK W 0 (sH d (dU k a n b) (cB l c))) (cC.wk (Ec (by(simp;exact⟨rfl,rfl⟩))<|Ea<|Eb<|Eb<|Eb<|Ea<|trivial) (Hc (QU _)<|Hc (QT _ _)<|Ha<|Hc (aU _ _ _)<|Hc (aM _ _ rfl rfl rfl)<|Hc (aG _ _)<|Hc (aD _ _ _)<|Hc (aP _ _)<|Hc (cF rfl rfl)<|Hc (aU _ _ _)<|trivial) ⟨rfl,rfl,rfl,rfl,rfl,rfl,trivial⟩) ?_;refine DN (id:=944) (p:=59) (rE L t u) rfl call145 rfl rfl (by simp [rE];exact⟨rfl,rfl,rfl,rfl,rfl⟩) ?_;intro x hx1 hx2 hx3 hx4 hx5 hx6;refine(YH W (.yld 944 0) (fun j=>(944,LR x (rE L t u))::rK W j (sH d (dU k a n b) (cB l c))) u hWl (by omega) (fun j=>rfl) (fun j=>rfl) ?_).mono ?_
 ·intro j hj;obtain ⟨p0,p1⟩:=XB (W:=W) (j:=j) (by omega);refine .inl ⟨944,0,rfl,?_⟩;refine LH ((10,.pv (aX (D2 W j)))::rE L t u) (rK W j (sH d (dU k a n b) (cB l c))) hx1 hx2 hx3 hx4 hx5 hx6 rfl rfl rfl ?_ ?_
  ·refine Rg<|Da ?_;exact E0
  refine aJ<|bF follows<|Cs (fun _ h=>lh dO h)<|Cs (fun _ _=>aB)<|Cs (fun H1 hH=>by exact aZ rfl cD rfl rfl (by omega) (by exact aIC _) p0 rfl)<|Cs (fun _ _=>(gW aQ))<|Cs (fun _ _=>aB)<|Cs (fun H1 hH=>by exact aZ rfl cD rfl rfl (by omega) (by exact aIC _) p1 rfl)<|Cs (fun _ _=>(gW aQ)) ?_;refine dI (r:=⟨_,none,[_]⟩) (DStep.plain rfl (fun H1 hH=>by exact oY (κ:=iU) (l:=cU (BJ W j).1) (.inl rfl) bL aC rfl ((hH _ rfl).trans rfl) rfl rfl rfl rfl rfl (yC _ _ _ _) (BX _ _ _))) rfl ?_;refine cA<|Kr ?_;exact⟨rK W (j+1) (sH d (dU k a n b) (cB l c)),(cC.wk trivial (Hc (aCX (by simp [rE];repeat(first|rfl|refine⟨rfl,?_⟩)))<|Hc (QU _)<|Hc (QT _ _)<|Ha<|Hc (aU _ _ _)<|Hc (aM _ _ rfl rfl rfl)<|Hc (aG _ _)<|Hc (aD _ _ _)<|Hc (aP _ _)<|Hc (cF rfl rfl)<|Hc (aU _ _ _)<|trivial) ⟨rfl,rfl,rfl,rfl,rfl,rfl,rfl,rfl,rfl,rfl,rfl,trivial⟩),rfl,rfl⟩
 rintro r H' ⟨rfl,rfl⟩;refine⟨x,_,rfl,by rw [hx1];decide,rfl,fun z=>?_⟩;rw [hx2];obtain ⟨put,cp,hpc⟩:∃ put cp,BJ W u=(put,cp):=⟨_,_,rfl⟩;simp only [hpc] at hpok hb3 hsm bad ⊢;refine iF.ent (E':=rE L t u) (H':=(9,mBx 950)::(950,cB put cp)::sH d (dU k a n b) (cB l c)) ?_ ?_
 ·simp only [rK,hpc];exact(cC.wk (Ea<|Eb<|Eb<|Eb<|Ea<|trivial) (Ha<|Hc (aU _ _ _)<|Hc (aM _ _ rfl rfl rfl)<|Hc (aG _ _)<|Hc (aD _ _ _)<|Hc (aP _ _)<|Hc (cF rfl rfl)<|Hc (aU _ _ _)<|trivial) ⟨rfl,rfl,rfl,rfl,rfl,rfl,trivial⟩)
 have hmp:(cU put).length=put.length:=aHr _;have hmd:(D.map encStr).length=D.length:=aHr _;have hwr:=fun H hH=>T1 put cp D hpok.1 (by omega) (by omega) H hH;have htx:=fun H hH=>ZZ put cp D hpok.1 (by omega) (by omega) hsm.1 H hH;have hso:=fun H=>PY D H (by omega);have hb3:uI t=((((decide (((cU put).length:Int)+((D.map encStr).length:Int)=0)||!decide (bX put D=0))||!decide (ofL (bM put D)=ofL (aT [ofL t])))||!gI D)||decide (((dQ D).length:Int) < ((D.map encStr).length:Int))):=by
  rw [hb3,show decide (((cU put).length:Int)+((D.map encStr).length:Int)=0)=decide (put.length+D.length=0)from decide_eq_decide.2 (by omega),show decide (((dQ D).length:Int) < ((D.map encStr).length:Int))=decide ((dQ D).length < D.length)from decide_eq_decide.2 (by omega),show decide (ofL (bM put D)=ofL (aT [ofL t]))=decide (bM put D=aT [ofL t])from decide_eq_decide.2 ⟨fun h=>by rw [← bB (bM put D),h,bB],fun h=>by rw [h]⟩]
 rw [hb1f,hb2f,hb3] at hok;have hjs:(aT [ofL t]).length < 35184372088832:=by
  have hd:=dT (k:=18) (u:=t.length) (by omega) (by decide);rw [fB,aHs,aHt,aHs,bB,bO];have h0:(aT []).length=0:=rfl;omega
 have hdropL:D.length≤L.length:=by rw [hdrop,aIG];omega
 cases g78:decide (((cU put).length:Int)+((D.map encStr).length:Int)=0)with
 | true =>
  refine Sr<|Dd aB<|Dd aB<|Dd (by exact fG rfl rfl rfl (eS (by omega) (by omega)))<|Dd (by exact bA rfl rfl rfl (show IntKind.i64.wrap (2*(u:Int)+2)=((2*u+2:Nat):Int)by rw [eS (by omega) (by omega)];omega))<|Dd (by exact fW (l:=2*u+2) (h:=(L.map encStr).length) (rows':=D.map encStr) rfl cD rfl (kF L) rfl rfl (by omega) (aHx _) hDe)<|Dd aR<|Zz<|Sq<|Sr<|Dd (cW dO)<|Dd (by exact D8 (κ:=iU) (l:=cU put) rfl bL rfl rfl rfl rfl)<|Dd aB<|Dd (jY aO)<|Dd (by exact bA rfl rfl rfl (eS (by omega) (by omega)))<|Dd eP<|Dd aB<|Fa<|Fa<|Fa<|Fa<|Dd SA<|Dd aB<|Fo<|Fo<|Fo<|Fo<|Fo<|Fo<|Fo<|Dd cX<|Dd aB<|Fo<|Fo<|Fo<|Dd cX<|Dd aB<|Fo<|Fo<|Fo<|Fo<|Fo<|Fo<|Fo<|Dd cX<|Zz ?_;refine Cn ?_ ?_<;>intro hc3
  ·have hf:iK t=false:=by rw [hok,g78];simp
   refine Sr<|Dd aR<|Zz<|aH ?_;refine bI (H':=(sH d (dU k a n b) (cB l c))) (.inr rfl) rfl (aI rfl) (Fin.wk (by(simp;done)) (Hc (aM _ _ rfl rfl rfl)<|Hc (aG _ _)<|Hc (aD _ _ _)<|Hc (aP _ _)<|Hc (cF rfl rfl)<|Hc (aU _ _ _)<|trivial) ⟨rfl,rfl,rfl,rfl,rfl,rfl,trivial⟩) ?_;exact⟨by rw [hf],bad hf⟩
  ((cases hc3;done))
 | false =>
  cases g84:(!decide (bX put D=0))with
  | true =>
   refine Sr<|Dd aB<|Dd aB<|Dd (by exact fG rfl rfl rfl (eS (by omega) (by omega)))<|Dd (by exact bA rfl rfl rfl (show IntKind.i64.wrap (2*(u:Int)+2)=((2*u+2:Nat):Int)by rw [eS (by omega) (by omega)];omega))<|Dd (by exact fW (l:=2*u+2) (h:=(L.map encStr).length) (rows':=D.map encStr) rfl cD rfl (kF L) rfl rfl (by omega) (aHx _) hDe)<|Dd aR<|Zz<|Sq<|Sr<|Dd (cW dO)<|Dd (by exact D8 (κ:=iU) (l:=cU put) rfl bL rfl rfl rfl rfl)<|Dd aB<|Dd (jY aO)<|Dd (by exact bA rfl rfl rfl (eS (by omega) (by omega)))<|Dd eP<|Dd aB<|Oa (cW dO)<|Oa aB<|Oa (by exact aA rfl rfl CK rfl (hwr _ rfl))<|Oa tM<|Dd D1<|Dd aB<|Fa<|Fa<|Fa<|Fa<|Fa<|Fa<|Fa<|Dd SA<|Dd aB<|Fo<|Fo<|Fo<|Dd cX<|Dd aB<|Fo<|Fo<|Fo<|Fo<|Fo<|Fo<|Fo<|Dd cX<|Zz ?_;refine Cn ?_ ?_<;>intro hc4
   ·have hf:iK t=false:=by rw [hok,g78,g84];simp
    refine Sr<|Dd aR<|Zz<|aH ?_;refine bI (H':=(sH d (dU k a n b) (cB l c))) (.inr rfl) rfl (aI rfl) (Fin.wk (by(simp;done)) (Hc (aM _ _ rfl rfl rfl)<|Hc (aG _ _)<|Hc (aD _ _ _)<|Hc (aP _ _)<|Hc (cF rfl rfl)<|Hc (aU _ _ _)<|trivial) ⟨rfl,rfl,rfl,rfl,rfl,rfl,trivial⟩) ?_;exact⟨by rw [hf],bad hf⟩
   ((cases hc4;done))
  | false =>
   cases g93:(!decide (ofL (bM put D)=ofL (aT [ofL t])))with
   | true =>
    refine Sr<|Dd aB<|Dd aB<|Dd (by exact fG rfl rfl rfl (eS (by omega) (by omega)))<|Dd (by exact bA rfl rfl rfl (show IntKind.i64.wrap (2*(u:Int)+2)=((2*u+2:Nat):Int)by rw [eS (by omega) (by omega)];omega))<|Dd (by exact fW (l:=2*u+2) (h:=(L.map encStr).length) (rows':=D.map encStr) rfl cD rfl (kF L) rfl rfl (by omega) (aHx _) hDe)<|Dd aR<|Zz<|Sq<|Sr<|Dd (cW dO)<|Dd (by exact D8 (κ:=iU) (l:=cU put) rfl bL rfl rfl rfl rfl)<|Dd aB<|Dd (jY aO)<|Dd (by exact bA rfl rfl rfl (eS (by omega) (by omega)))<|Dd eP<|Dd aB<|Oa (cW dO)<|Oa aB<|Oa (by exact aA rfl rfl CK rfl (hwr _ rfl))<|Oa tM<|Dd D1<|Dd aB<|Oa (cW dO)<|Oa aB<|Oa (by exact aA rfl rfl CJ rfl (htx _ rfl))<|Oa aB<|Oa (by exact bD [[.str (ofL t)]] rfl cD rfl rfl rfl rfl rfl (by simp)) ?_;refine Oa (by exact aA rfl rfl vO rfl (qJ [ofL t] _ hjs))<|Oa ZG<|Dd D1<|Dd aB<|Fa<|Fa<|Fa<|Dd SA<|Dd aB<|Fo<|Fo<|Fo<|Fo<|Fo<|Fo<|Fo<|Dd cX<|Zz ?_;refine Cn ?_ ?_<;>intro hc5
    ·have hf:iK t=false:=by rw [hok,g78,g84,g93];simp
     refine Sr<|Dd aR<|Zz<|aH ?_;refine bI (H':=(sH d (dU k a n b) (cB l c))) (.inr rfl) rfl (aI rfl) (Fin.wk (by(simp;done)) (Hc (aM _ _ rfl rfl rfl)<|Hc (aG _ _)<|Hc (aD _ _ _)<|Hc (aP _ _)<|Hc (cF rfl rfl)<|Hc (aU _ _ _)<|trivial) ⟨rfl,rfl,rfl,rfl,rfl,rfl,trivial⟩) ?_;exact⟨by rw [hf],bad hf⟩
    ((cases hc5;done))
   | false =>
    cases g98:(!gI D)with
    | true =>
     refine Sr<|Dd aB<|Dd aB<|Dd (by exact fG rfl rfl rfl (eS (by omega) (by omega)))<|Dd (by exact bA rfl rfl rfl (show IntKind.i64.wrap (2*(u:Int)+2)=((2*u+2:Nat):Int)by rw [eS (by omega) (by omega)];omega))<|Dd (by exact fW (l:=2*u+2) (h:=(L.map encStr).length) (rows':=D.map encStr) rfl cD rfl (kF L) rfl rfl (by omega) (aHx _) hDe)<|Dd aR<|Zz<|Sq<|Sr<|Dd (cW dO)<|Dd (by exact D8 (κ:=iU) (l:=cU put) rfl bL rfl rfl rfl rfl)<|Dd aB<|Dd (jY aO)<|Dd (by exact bA rfl rfl rfl (eS (by omega) (by omega)))<|Dd eP<|Dd aB<|Oa (cW dO)<|Oa aB<|Oa (by exact aA rfl rfl CK rfl (hwr _ rfl))<|Oa tM<|Dd D1<|Dd aB<|Oa (cW dO)<|Oa aB<|Oa (by exact aA rfl rfl CJ rfl (htx _ rfl))<|Oa aB<|Oa (by exact bD [[.str (ofL t)]] rfl cD rfl rfl rfl rfl rfl (by simp)) ?_;refine Oa (by exact aA rfl rfl vO rfl (qJ [ofL t] _ hjs))<|Oa ZG<|Dd D1<|Dd aB<|Oa aB<|Oa (by exact aA rfl rfl call119 rfl (hso _))<|Oa pY<|Dd D1<|Dd aB<|Fa<|Fa<|Fa<|Fa<|Fa<|Fa<|Fa<|Dd SA<|Zz ?_;refine Cn ?_ ?_<;>intro hc6
     ·have hf:iK t=false:=by rw [hok,g78,g84,g93,g98];simp
      refine Sr<|Dd aR<|Zz<|aH ?_;refine bI (H':=(sH d (dU k a n b) (cB l c))) (.inr rfl) rfl (aI rfl) (Fin.wk (by(simp;done)) (Hc (aM _ _ rfl rfl rfl)<|Hc (aG _ _)<|Hc (aD _ _ _)<|Hc (aP _ _)<|Hc (cF rfl rfl)<|Hc (aU _ _ _)<|trivial) ⟨rfl,rfl,rfl,rfl,rfl,rfl,trivial⟩) ?_;exact⟨by rw [hf],bad hf⟩
     ((cases hc6;done))
    | false =>
     refine Sr<|Dd aB<|Dd aB<|Dd (by exact fG rfl rfl rfl (eS (by omega) (by omega)))<|Dd (by exact bA rfl rfl rfl (show IntKind.i64.wrap (2*(u:Int)+2)=((2*u+2:Nat):Int)by rw [eS (by omega) (by omega)];omega))<|Dd (by exact fW (l:=2*u+2) (h:=(L.map encStr).length) (rows':=D.map encStr) rfl cD rfl (kF L) rfl rfl (by omega) (aHx _) hDe)<|Dd aR<|Zz<|Sq<|Sr<|Dd (cW dO)<|Dd (by exact D8 (κ:=iU) (l:=cU put) rfl bL rfl rfl rfl rfl)<|Dd aB<|Dd (jY aO)<|Dd (by exact bA rfl rfl rfl (eS (by omega) (by omega)))<|Dd eP<|Dd aB<|Oa (cW dO)<|Oa aB<|Oa (by exact aA rfl rfl CK rfl (hwr _ rfl))<|Oa tM<|Dd D1<|Dd aB<|Oa (cW dO)<|Oa aB<|Oa (by exact aA rfl rfl CJ rfl (htx _ rfl))<|Oa aB<|Oa (by exact bD [[.str (ofL t)]] rfl cD rfl rfl rfl rfl rfl (by simp)) ?_;refine Oa (by exact aA rfl rfl vO rfl (qJ [ofL t] _ hjs))<|Oa ZG<|Dd D1<|Dd aB<|Oa aB<|Oa (by exact aA rfl rfl call119 rfl (hso _))<|Oa pY<|Dd D1<|Dd aB<|Oa aB<|Oa (by exact aA rfl rfl call120 rfl (aBh D _ (bT.ofL ⟨(by(simp;rfl)),(by exact aU _ _ _),(by exact aM _ _ rfl rfl rfl),(by exact aG _ _),(by exact aD _ _ _),(by exact aP _ _),(by exact cF rfl rfl),(by exact aU _ _ _),trivial⟩) rfl (by omega)))<|Oa (by exact aA rfl rfl aH8 rfl (K6 D 1 _ rfl (by omega)))<|Oa (by exact cM rfl aO rfl rfl rfl)<|Oa aB<|Oa (jY aO)<|Oa cP<|Dd D1<|Zz ?_;refine Cn ?_ ?_<;>intro hc7
     ·have g106:=hc7;have hf:iK t=false:=by rw [hok,g78,g84,g93,g98,g106];rfl
      refine Sr<|Dd aR<|Zz<|aH ?_;refine bI (H':=(sH d (dU k a n b) (cB l c))) (.inr rfl) rfl (aI rfl) (Fin.wk (by(simp;done)) (Hc (aM _ _ rfl rfl rfl)<|Hc (aG _ _)<|Hc (aD _ _ _)<|Hc (aP _ _)<|Hc (cF rfl rfl)<|Hc (aU _ _ _)<|trivial) ⟨rfl,rfl,rfl,rfl,rfl,rfl,trivial⟩) ?_;exact⟨by rw [hf],bad hf⟩
     have g106:=hc7;have hf:iK t=true:=by rw [hok,g78,g84,g93,g98,g106];rfl
     rw [hf];refine aF<|Sr<|Dd aB<|Dd (cW dO)<|Dm ?_;refine gC rfl rfl (aA rfl rfl aH5 rfl (aCK l put c cp D _ (by omega) (by omega) hpok.1 rfl rfl rfl (bT.ofL ⟨(by exact aD _ _ _),(by(simp;done)),(by(simp;rfl)),(by exact aU _ _ _),(by exact aM _ _ rfl rfl rfl),(by exact aG _ _),(by exact aD _ _ _),(by exact aP _ _),(by exact cF rfl rfl),(by exact aU _ _ _),trivial⟩))) ?_;rintro r H' ⟨rfl,ps,hps,rfl⟩;obtain ⟨q1,q2,q3,q4⟩:=B9 (D:=D) hst hnd hpok.2 hps;refine Zz<|Sr<|Dd aR<|Zz<|aH ?_;refine bI (H':=(sH d (dU k a n b) (cB (qA (kH l c ps).1 D) (kH l c ps).2))) (.inr rfl) rfl (aI rfl) (Fin.wk (by(simp;done)) (Hc (aM _ _ rfl rfl rfl)<|Hc (aG _ _)<|Hc (aD _ _ _)<|Hc (aP _ _)<|Hc (cF rfl rfl)<|Hc (aU _ _ _)<|trivial) ⟨rfl,rfl,rfl,rfl,rfl,rfl,trivial⟩) ?_;exact⟨rfl,_,_,q1,q2,by omega,fun _=>q4,rfl⟩
end Go.Proofs.YtmkgeogoojcciaaGreatDoor
