/-
  Parts of the proof: rules of an abstract program logic, contracts of functions, plain laws. Conditions: each theorem's own.
-/
import Derived.Test.YtmkgeogoojcciaaGreatDoorKS1M7
set_option linter.unusedVariables false
set_option linter.unusedSimpArgs false
set_option maxRecDepth 100000
set_option maxHeartbeats 8000000
namespace Go.Proofs
theorem WW:type_of% Tryz.call19:=Tryz.call19
theorem WU:type_of% Tryz.call24:=Tryz.call24
theorem PQ:type_of% Tryz.func14:=Tryz.func14
theorem jJ:type_of% Tryz.isAgg35:=Tryz.isAgg35
theorem LB:type_of% Tryz.ntmps14:=Tryz.ntmps14
theorem fS:type_of% Tryz.underlying66:=Tryz.underlying66
end Go.Proofs
namespace Go.Proofs.YtmkgeogoojcciaaGreatDoor
open Go.Proofs.Tryz
open Go.Abs Go.Lib
structure OnD (d:DSt) (n:Nat):Prop where
 inv:DInv d n 0
 off:d.off=false
structure xB (d:DSt) (n:Nat):Prop where
 inv:DInv d n 0
 off:d.off=true
 na:∀ a w b,d.arm≠.on a w b
theorem OnD.q {d:DSt} {n:Nat} (h:OnD d n):d.q=[]:=List.length_eq_zero_iff.1 (Nat.le_zero.1 h.inv.q)
theorem Calm.on {d:DSt} {n:Nat} (h:Calm d n):OnD d n:=⟨h.inv,h.off⟩
def R9 (cells:List ByteArray) (p:Nat) (L c':List ByteArray):Prop:=∃ m,m≤L.length∧(c'=jV cells p (L.take m)∨∃ t j,L[m]?=some t∧1≤j∧j≤64∧c'=(jV cells p (L.take m)).set (p+m) (m8 (t.extract 0 j) ((cells[p+m]?).getD ⟨#[]⟩)))
theorem G4:∀ (L:List ByteArray) (p:Nat),(qI p L).length=L.length
 | [],_=>rfl
 | t::r,p=>by rw [qI,XF,G4 r,XF]
theorem CI:∀ (L:List ByteArray) (p m:Nat),(qI p L).take m=qI p (L.take m)
 | [],p,m=>by rw [qI,List.take_nil,List.take_nil];rfl
 | t::r,p,0=>rfl
 | t::r,p,m+1=>by rw [qI,List.take_succ_cons,CI r,List.take_succ_cons,qI]
theorem G5:∀ (L:List ByteArray) (p m:Nat),(qI p L)[m]?=(L[m]?).map fun t=>(p+m,t)
 | [],p,m=>rfl
 | t::r,p,0=>rfl
 | t::r,p,m+1=>by
  rw [qI,List.getElem?_cons_succ,List.getElem?_cons_succ,G5 r];congr 1;funext x;rw [Nat.add_assoc,Nat.add_comm 1 m]
theorem zD {cells:List ByteArray} {s:DSt} {place:Nat} {L:List ByteArray} {i:Nat} (hi:i≤L.length) (hq:s.q=qI place (L.take i)) (hc:s.cells=cells) (w b:Int):R9 cells place L (lX s w b):=by
 have hqm:∀ m,m≤i→s.q.take m=qI place (L.take m):=fun m hm=>by rw [hq,CI,List.take_take,Nat.min_eq_left hm]
 have hql:s.q.length=i:=by rw [hq,G4,XR];omega
 obtain ⟨m,hM⟩:∃ m,m=wN s w:=⟨_,rfl⟩;have hmi:m≤i:=by rw [hM,wN];omega
 rw [lX,← hM,hqm m hmi,uM,hc];refine⟨m,by omega,?_⟩;cases e:s.q[m]? with
 | none=>exact .inl rfl
 | some p =>
  rw [hq,G5] at e;rw [B3];by_cases hb:0 < b
  ·rw [XC hb];by_cases hmi2:m < i
   ·rw [List.getElem?_take_of_lt hmi2] at e;cases e2:L[m]? with
    | none=>rw [e2] at e;cases e
    | some t =>
     rw [e2] at e;cases e;refine .inr ⟨t,(min b 64).toNat,rfl,by omega,by omega,?_⟩;show (jV cells place (List.take m L)).set (place+m) (m8 (t.extract 0 (min b 64).toNat) (((jV cells place (List.take m L))[place+m]?).getD ⟨#[]⟩))=_;rw [hX,XR,XB (by omega)]
   rw [List.getElem?_eq_none (by rw [XR];omega)] at e;cases e
  rw [XB hb];exact .inl rfl
theorem zE {s:DSt} {n m:Nat} (h:DInv s n m) (ho:s.off=false) (w b:Int):xB (jS s w b) n:=by have hi:=rD h w b;rw [jS,XB (by rw [ho];decide)] at hi ⊢;exact⟨⟨hi.ok,hi.arm,hi.n,XU _⟩,rfl,fun a w b e=>(zF e).elim⟩
theorem DO {s:DSt} {n m:Nat} (h:DInv s n m) (ho:s.off=false):(eC s=0∧(dI s).off=false∧(dI s).q=s.q∧(dI s).cells=s.cells)∨(eC s=22∧∃ w b,dI s=jS s w b):=by
 unfold eC dI;cases e:s.arm with
 | never=>exact .inl ⟨rfl,ho,rfl,rfl⟩
 | off a w b=>exact .inl ⟨rfl,ho,rfl,rfl⟩
 | on a w b =>
  by_cases ha:0 < a
  ·refine .inl ?_;simp only [XC ha];exact⟨trivial,ho,trivial,trivial⟩
  refine .inr ?_;simp only [XB ha];exact⟨trivial,w,b,rfl⟩
theorem LP {d:DSt} {n:Nat} (h:OnD d n) {place:Nat} {L:List ByteArray} (hp:place+L.length≤n) (hs:∀ t∈L,t.size=64) (hm:L.length≤1048575):∀ i,i≤L.length →
  ((l9 d place L i).1=0∧(l9 d place L i).2.off=false∧(l9 d place L i).2.q=qI place (L.take i)∧(l9 d place L i).2.cells=d.cells)∨((l9 d place L i).1=22∧xB (l9 d place L i).2 n∧R9 d.cells place L (l9 d place L i).2.cells)
 | 0,_=>.inl ⟨rfl,h.off,by rw [List.take_zero,qI];exact h.q,rfl⟩
 | i+1,hi=>by
  have hinv:=oK h.inv place L i (by omega);rcases LP h hp hs hm i (by omega)with⟨h1,h2,h3,h4⟩|⟨h1,h2,h3⟩
  ·obtain ⟨t,ht⟩:=aY (l:=L) (k:=i) (by omega);have hz:=hs t (XN ht);have hD:L.getD i sNil=t:=by rw [List.getD_eq_getElem?_getD,ht];rfl
   have hq:qI place (L.take (i+1))=qI place (L.take i)++[(place+i,t)]:=by
    rw [cR ht,AA,XR,Nat.min_eq_left (by omega)];rfl
   obtain ⟨s,hS⟩:∃ s,s=(l9 d place L i).2:=⟨_,rfl⟩;rw [← hS] at h2 h3 h4 hinv;have sc:eY s ((place+i:Nat):Int)=true:=by
    rw [iW];exact decide_eq_true (by have:=hinv.n;omega)
   have wi:=yX hinv (by omega) ((place+i:Nat):Int) t;have w1:gS s ((place+i:Nat):Int) t=eC (iR s (place+i) t):=by rw [gS,h2,XB (by decide),sc,decide_eq_true hz,XC (show (true&&true)=true from rfl),XO]
   have w2:iE s ((place+i:Nat):Int) t=dI (iR s (place+i) t):=by rw [iE,h2,XB (by decide),sc,decide_eq_true hz,XC (show (true&&true)=true from rfl),XO]
   rw [l9,XC h1,hD,hq,← hS,w1,w2];have hqS:(iR s (place+i) t).q=qI place (L.take (i+1)):=by
    rw [hq,← h3];rfl
   have hok:DInv (iR s (place+i) t) n (0+i+1):=⟨sC hinv.ok (by have:=hinv.n;omega) hz (by have:=hinv.q;omega),hinv.arm,hinv.n,by show (s.q++[(place+i,t)]).length≤_;rw [XE,List.length_singleton];have:=hinv.q;omega⟩;rcases DO hok h2 with⟨c1,c2,c3,c4⟩|⟨c1,w,b,c2⟩
   ·exact .inl ⟨c1,c2,by rw [c3,hqS,hq],by rw [c4];exact h4⟩
   refine .inr ⟨c1,?_,?_⟩
   ·rw [c2];exact zE hok h2 w b
   rw [c2,jS,XB (by show ¬ s.off=true;rw [h2];decide)];exact zD hi hqS h4 w b
  rw [l9,XB (by rw [h1];decide)];exact .inr ⟨h1,h2,h3⟩
theorem LQ {d:DSt} {n:Nat} (h:OnD d n) {place:Nat} {L:List ByteArray} (hp:place+L.length≤n) (hs:∀ t∈L,t.size=64) (hm:L.length≤1048575) :
  ((iP d place L).1=0∧OnD (iP d place L).2 n∧(iP d place L).2.cells=jV d.cells place L)∨((iP d place L).1=22∧xB (iP d place L).2 n∧R9 d.cells place L (iP d place L).2.cells):=by
 have hi:=jT h.inv place L (by omega);have hk:=oK h.inv place L L.length (by omega);rcases LP h hp hs hm L.length (XJ _)with⟨h1,h2,h3,h4⟩|⟨h1,h2,h3⟩
 ·rw [List.take_length] at h3;rw [iP,XC h1] at hi ⊢;obtain ⟨s,hS⟩:∃ s,s=(l9 d place L L.length).2:=⟨_,rfl⟩;rw [← hS] at h2 h3 h4 hk hi ⊢;have e1:lE s=eC s:=by rw [lE,h2,XB (by decide)]
  rcases DO hk h2 with⟨c1,c2,c3,c4⟩|⟨c1,w,b,c2⟩
  ·have e2:iF s=sW (dI s):=by rw [iF,h2,XB (by decide),XC c1]
   rw [e2] at hi;refine .inl ⟨by rw [e1];exact c1,?_,?_⟩
   ·show OnD (iF s) n;rw [e2];exact⟨⟨hi.ok,hi.arm,hi.n,XU _⟩,c2⟩
   show (iF s).cells=_;rw [e2];show cK (dI s).cells (dI s).q=_;rw [c3,c4,h3,h4,uM]
  have e2:iF s=jS s w b:=by rw [iF,h2,XB (by decide),XB (by rw [c1];decide),c2]
  refine .inr ⟨by rw [e1];exact c1,?_,?_⟩
  ·show xB (iF s) n;rw [e2];exact zE hk h2 w b
  show R9 _ _ _ (iF s).cells;rw [e2,jS,XB (by rw [h2];decide)];exact zD (XJ _) (by rw [List.take_length];exact h3) h4 w b
 rw [iP,XB (by rw [h1];decide)];exact .inr ⟨h1,h2,h3⟩
abbrev T5 (P:List ByteArray):Ob:=bx 1 31 [.pv (aW P)]
theorem x9 (P:List ByteArray) (H:aA) (h1:H.get 951=none) :
  aK Tryz.prog 49 [.pv (aW P)] H (fun r H'=>r=.clo 97 [.ref 951 0 0 0]∧H'=(951,T5 P)::H):=by
 refine Bd func49 rfl ntmps49<|Sr<|Dd (by exact fP (id:=951) rfl rfl rfl rfl h1)<|Dd aS<|Zz<|Sr<|Dd (by exact eP rfl rfl)<|Dd aS<|Zz<|aN ?_;refine a8 (H':=((951,T5 P)::H)) (.inr rfl) rfl (aH rfl) Fin.refl ?_;exact Qq
def LD (i:Nat):Nat:=if i=901 then 945 else if i=945 then 901 else i
theorem P8 (i:Nat):LD (LD i)=i:=by
 unfold LD
 repeat' split
 all_goals omega
theorem ML (ρ:Nat→Nat) (l:List ByteArray):(g5 l).map (kD ρ)=g5 l:=by
 have:∀ r∈g5 l,kD ρ r=r:=by
  intro r hr;obtain ⟨s,_,rfl⟩:=List.mem_map.1 hr;rfl
 rw [List.map_congr_left this,List.map_id']
abbrev cO (g:Nat) (l:List ByteArray):Ob:=⟨g,1,9,g5 l⟩
theorem EY (ρ:Nat→Nat) (g:Nat) (l:List ByteArray):sI ρ (cO g l)=cO g l:=by show (⟨g,1,9,(g5 l).map (kD ρ)⟩:Ob)=_;rw [ML]
theorem KJ (id g:Nat) (l:List ByteArray):bF [(id,cO g l)]:=bF.of (fun p hp=>by
 rw [XG] at hp;subst hp;exact L3 _ _)
theorem wT (L:List ByteArray) (g:Nat) (H:aA) (h1:H.get 945=some (cO g L)) (hl:L.length < 1099511627776) :
  aK Tryz.prog 47 [.osl 945 g 0 L.length] H (fun r H'=>r=.osl 945 g 0 (bZ L).length∧H'=[(945,cO g (bZ L++List.replicate (L.length - (bZ L).length) sNil)),(945,cO g L)]++H):=by
 have h0:=zK L g [(901,cO g L)] rfl hl;have e1:m7 LD [(901,cO g L)]=[(945,cO g L)]:=by
  show [(LD 901,sI LD (cO g L))]=_;rw [EY];rfl
 have e2:m7 LD [(901,cO g (bZ L++List.replicate (L.length - (bZ L).length) sNil)),(901,cO g L)]=[(945,cO g (bZ L++List.replicate (L.length - (bZ L).length) sNil)),(945,cO g L)]:=by
  show [(LD 901,sI LD (cO g (bZ L++List.replicate (L.length - (bZ L).length) sNil))),(LD 901,sI LD (cO g L))]=_;rw [EY,EY];rfl
 have h2:=aK.ren (ρ:=LD) P8 h0 (args':=[.osl 945 g 0 L.length]) (r':=.osl 945 g 0 (bZ L).length) rfl e1 rfl e2;refine h2.frame (zU h1) (KJ _ _ _) (by simp;rfl) (fun id h=>.inl ?_);simp only [aA.get] at h ⊢;cases e:Nat.beq 945 id with
 | true=>rfl
 | false=>rw [e] at h;cases h
def fO (P:List ByteArray):List ByteArray:=bZ (b4 P)
def u3 (k n:Nat) (b:Bool) (l2:bN) (P:List ByteArray):Int:=if b then 12 else if ¬ bH l2 P=0 then bH l2 P else if l2.length+(fO P).length=0 then 0 else if k < n+cT (bC l2 (fO P))then 21 else -1
theorem eM (l2:bN) (P:List ByteArray):bH l2 P=0∨bH l2 P=1∨bH l2 P=2:=by
 rw [bH]
 split
 ·exact .inr (.inl rfl)
 split
 ·exact .inr (.inr rfl)
 exact .inl rfl
theorem rS (P:List ByteArray):(fO P).length≤P.length:=by have h1:=y6 (b4 P);rw [dJ] at h1;exact h1
theorem mQ {P:List ByteArray} {x:ByteArray}:x∈fO P↔x∈P:=oG.trans (mC P).mem_iff
theorem wV (P:List ByteArray):xY (fO P):=rR (sE P)
theorem OF (P R:List ByteArray):(((bZ (b4 P)++R).map encStr).take (0+(bZ (b4 P)).length)).drop 0=(fO P).map encStr:=by rw [List.drop_zero,XV,List.map_append];exact List.take_left' (XD _)
theorem KB {d:DSt} {N m:Nat} (h:DInv d N m) (k a n:Nat) (b:Bool) (l:bN) (c:Nat) (l2:bN) (c2:Nat) (P:List ByteArray) (hk:k < 4000) (ha:a < 2) (hn:n≤k) (hm:m≤10) (hst:dR l c) (hnd:e9 l) (hst2:dR l2 c2) (hnd2:e9 l2) (hl2:l2.length < 1000000) (hP:P.length < 1000000) (hsz:bH l2 P=0→(bC l2 (fO P)).length < 100000000) :
  aK Tryz.prog 14 [.ref 1100 0 0 0,.mp 950 0,.pv (aW P)] ((950,bJ l2 c2)::sH d (b6 k a n b) (bJ l c)) (fun r H'=>(¬ u3 k n b l2 P = -1∧r=iv (u3 k n b l2 P)∧H'=(950,bJ l2 c2)::sH d (b6 k a n b) (bJ l c)) ∨
   (u3 k n b l2 P = -1∧¬ (iO d k a n (bC l2 (fO P))).1=0∧r=iv (iO d k a n (bC l2 (fO P))).1∧H'=(950,bJ l2 c2)::sH (iO d k a n (bC l2 (fO P))).2 (b6 k a n true) (bJ l c)) ∨
   (u3 k n b l2 P = -1∧(iO d k a n (bC l2 (fO P))).1=0∧r=iv 0∧∃ l' c',dR l' c'∧e9 l'∧l'.length≤l.length+l2.length∧(∀ x,cS l' x=oV (cS l) l2 (fO P) x)∧H'=(950,bJ l2 c2)::sH (iO d k a n (bC l2 (fO P))).2 (b6 k a (n+cT (bC l2 (fO P))) false) (bJ l' c'))):=by
 have hR:u3 k n b l2 P=if b then 12 else if ¬ bH l2 P=0 then bH l2 P else if l2.length+(fO P).length=0 then 0 else if k < n+cT (bC l2 (fO P))then 21 else -1:=rfl
 have hwr:=fun H hH=>GO l2 c2 P hst2 (by omega) (by omega) H hH;have hrange:=eM l2 P;have hDl:=rS P;cases b with
 | true =>
  rw [XC rfl] at hR;rw [hR];refine Bd PQ rfl LB<|Sr<|Dd aS<|Zz<|Sq<|aM<|Sr<|Dd aE<|Dd (by exact cP rfl fT rfl rfl rfl rfl)<|Da ?_;refine Cn ?_ ?_<;>intro hc1
  ·cases hc1
  refine Sr<|Dd aE<|Dd e8<|Dd (dP iZ)<|Dd (eA dC)<|Da ?_;refine Cn ?_ ?_<;>intro hc2
  ·refine Sr<|Dd aS<|Zz<|aN ?_;refine a8 (H':=((950,bJ l2 c2)::sH d (b6 k a n true) (bJ l c))) (.inr rfl) rfl (aH rfl) (Fin.wk (by(simp;done)) (Hc (aQ _ _ _)<|Hc (aF _ _ rfl rfl rfl)<|Hc (aC _ _)<|Hc (aL _ _ _)<|Hc (aJ _ _)<|Hc (by(simp;exact⟨rfl,rfl⟩))<|Hc (aQ _ _ _)<|trivial) ⟨rfl,rfl,rfl,rfl,rfl,rfl,rfl,trivial⟩) ?_;exact .inl ⟨by decide,rfl,rfl⟩
  cases hc2
 | false =>
  rw [XB (by decide)] at hR;refine Bd PQ rfl LB<|Sr<|Dd aS<|Zz<|Sq<|aM<|Sr<|Dd aE<|Dd (by exact cP rfl fT rfl rfl rfl rfl)<|Da ?_;refine Cn ?_ ?_<;>intro hc1
  ·cases hc1
  refine Sr<|Dd aE<|Dd e8<|Dd (dP iZ)<|Dd (eA dC)<|Da ?_;refine Cn ?_ ?_<;>intro hc2
  ·cases hc2
  refine aG<|Sq<|Sr<|Dd aE<|Dd aE<|Dd (by exact aB rfl rfl r9 rfl (hwr _ rfl))<|Dd aS<|Zz<|Sr<|Dd aE<|Dd oZ<|Zz ?_;refine Cn ?_ ?_<;>intro hc3
  ·have hq:¬ bH l2 P=0:=by have h:=hc3;simpa using h
   rw [XC hq] at hR;rw [hR];refine Sr<|Dd aE<|Dd aS<|Zz<|aN ?_;refine a8 (H':=((950,bJ l2 c2)::sH d (b6 k a n false) (bJ l c))) (.inr rfl) rfl (aH rfl) (Fin.wk (by(simp;done)) (Hc (aQ _ _ _)<|Hc (aF _ _ rfl rfl rfl)<|Hc (aC _ _)<|Hc (aL _ _ _)<|Hc (aJ _ _)<|Hc (by(simp;exact⟨rfl,rfl⟩))<|Hc (aQ _ _ _)<|trivial) ⟨rfl,rfl,rfl,rfl,rfl,rfl,rfl,trivial⟩) ?_;exact .inl ⟨by omega,rfl,rfl⟩
  have hq:bH l2 P=0:=by have h:=hc3;simpa using h
  rw [XB (fun h=>h hq)] at hR;have hsz:=hsz hq;have hso:=GS (L:=P) (by omega) call97 ((951,T5 P)::(950,bJ l2 c2)::sH d (b6 k a n false) (bJ l c)) (yA P _ (by omega) rfl) rfl rfl rfl rfl (bF.ofL ⟨(by(simp;done)),(by exact aQ _ _ _),(by exact aF _ _ rfl rfl rfl),(by exact aC _ _),(by exact aL _ _ _),(by exact aJ _ _),(by(simp;exact⟨rfl,rfl⟩)),(by exact aQ _ _ _),trivial⟩) (by simp;rfl);refine aG<|Sr<|Dd aE<|Dd (by exact aB rfl rfl call49 rfl (x9 P _ rfl))<|Dd (by exact aB rfl rfl BT rfl (hso))<|Dd (by exact aB rfl rfl WT rfl ((by have h:=wT (b4 P) P.length ((945,cO P.length (b4 P))::(951,T5 P)::(950,bJ l2 c2)::sH d (b6 k a n false) (bJ l c)) rfl (by rw [dJ];omega);rw [dJ] at h;exact h)))<|Dd aS<|Zz<|Sq<|Sq ?_;refine fU.ent (bY.fzG (id:=945) (E':=[(0,.ref 1100 0 0 0),(1,.mp 950 0),(2,.pv (aW (fO P)))]) (H':=(950,bJ l2 c2)::sH d (b6 k a n false) (bJ l c)) ((bZ (b4 P)++List.replicate (P.length - (bZ (b4 P)).length) sNil).map encStr) rfl (by rw [List.map_map];rfl) ?_ rfl ?_ ?_) ?_
  ·intro p hp;simp only [XP,XT,or_false] at hp;rcases hp with rfl|rfl|rfl
   ·exact⟨_,rfl,.same (by simp;rfl)⟩
   ·exact⟨_,rfl,.same (by simp;rfl)⟩
   exact⟨_,rfl,.osl (OF P _)⟩
  ·exact⟨⟨_,rfl,rfl,rfl,rfl,cB (aQ _ _ _)⟩,⟨_,rfl,rfl,rfl,rfl,cB (aF _ _ rfl rfl rfl)⟩,⟨_,rfl,rfl,rfl,rfl,cB (aC _ _)⟩,⟨_,rfl,rfl,rfl,rfl,cB (aL _ _ _)⟩,⟨_,rfl,rfl,rfl,rfl,cB (aJ _ _)⟩,⟨_,rfl,rfl,rfl,rfl,cB (bD rfl rfl)⟩,⟨_,rfl,rfl,rfl,rfl,cB (aQ _ _ _)⟩,trivial⟩
  ·exact⟨rfl,rfl,rfl,rfl,rfl,rfl,rfl,trivial⟩
  have hinc:=wV P;obtain ⟨D,hD⟩:∃ D,D=fO P:=⟨_,rfl⟩;rw [← hD] at hR hsz hDl ⊢;have hmp:(bL l2).length=l2.length:=XD _;have hmd:(D.map encStr).length=D.length:=XD _;have htx:=fun H hH=>LZ l2 c2 D hst2 (by omega) (by omega) (by omega) H hH;obtain ⟨t,ht⟩:∃ t,t=bC l2 D:=⟨_,rfl⟩;rw [← ht] at hR hsz htx ⊢;have hcn:=fun H=>wS t (by omega) H;refine Rg<|Dd aE<|Dd (by exact tU (κ:=eE) (l:=bL l2) rfl aT rfl rfl rfl rfl)<|Dd aE<|Dd (jW aO)<|Dd (by exact cF rfl rfl rfl (g9 (by omega) (by omega)))<|Dd g6<|Zz ?_;refine Cn ?_ ?_<;>intro hc4
  ·have hq2:l2.length+D.length=0:=by have:=W9 hc4;omega
   rw [XC hq2] at hR;rw [hR];refine Sr<|Dd aS<|Zz<|aN ?_;refine a8 (H':=((950,bJ l2 c2)::sH d (b6 k a n false) (bJ l c))) (.inr rfl) rfl (aH rfl) (Fin.wk (by(simp;done)) (Hc (aQ _ _ _)<|Hc (aF _ _ rfl rfl rfl)<|Hc (aC _ _)<|Hc (aL _ _ _)<|Hc (aJ _ _)<|Hc (by(simp;exact⟨rfl,rfl⟩))<|Hc (aQ _ _ _)<|trivial) ⟨rfl,rfl,rfl,rfl,rfl,rfl,rfl,trivial⟩) ?_;exact .inl ⟨by decide,rfl,rfl⟩
  have hq2:¬ l2.length+D.length=0:=by have:=XA hc4;omega
  rw [XB hq2] at hR;refine aG<|Sr<|Dd aE<|Dd aE<|Dd (by exact aB rfl rfl r8 rfl (htx _ rfl))<|Dd aS<|Zz<|Sq<|Sq<|bK follows<|Cq aE<|Cq (by exact aB rfl rfl WS rfl (hcn _))<|Cq aE<|Cq e8<|Cq (dP p6)<|Cq (eA aV)<|Cq aE<|Cq e8<|Cq (dP kI)<|Cq (dP lD)<|Cq (eA aV)<|Cq (by exact dO rfl rfl rfl (g9 (by omega) (by omega)))<|Cq yZ<|cM<|Kr ?_;refine Cn ?_ ?_<;>intro hc5
  ·have hq3:k < n+cT t:=by have:=W9 hc5;omega
   rw [XC hq3] at hR;rw [hR];refine Sr<|Dd aS<|Zz<|aN ?_;refine a8 (H':=((950,bJ l2 c2)::sH d (b6 k a n false) (bJ l c))) (.inr rfl) rfl (aH rfl) (Fin.wk (by(simp;done)) (Hc (aQ _ _ _)<|Hc (aF _ _ rfl rfl rfl)<|Hc (aC _ _)<|Hc (aL _ _ _)<|Hc (aJ _ _)<|Hc (by(simp;exact⟨rfl,rfl⟩))<|Hc (aQ _ _ _)<|trivial) ⟨rfl,rfl,rfl,rfl,rfl,rfl,rfl,trivial⟩) ?_;exact .inl ⟨by decide,rfl,rfl⟩
  have hq3:¬ k < n+cT t:=by have:=XA hc5;omega
  rw [XB hq3] at hR;rw [hR];have hadd:=O8 h k a n a n false l c t hsz (by omega) ha hk (by omega);obtain ⟨x,hx⟩:∃ x,x=iO d k a n t:=⟨_,rfl⟩;rw [← hx] at hadd ⊢;clear hx;refine aG<|Sq<|Sr<|Dd aE<|Dd aE<|Dd e8<|Dd (dP kI)<|Dd (Q0 cQ sizeOf70)<|Dd aE<|Dd (by exact aB rfl rfl WR rfl (fV hadd _ ⟨rfl,rfl,rfl,rfl,rfl,rfl,trivial⟩ (by simp;rfl)))<|Dd aS<|Zz<|Sr<|Dd aE<|Dd oZ<|Zz ?_;refine Cn ?_ ?_<;>intro hc6
  ·have e0:¬ x.1=0:=by have h:=hc6;simpa using h
   rw [XB e0];refine Sr<|Dd aE<|Dd aS<|Zz<|aN ?_;refine a8 (H':=((950,bJ l2 c2)::sH x.2 (b6 k a n true) (bJ l c))) (.inr rfl) rfl (aH rfl) (Fin.wk (by(simp;done)) (Hc (aQ _ _ _)<|Hc (aF _ _ rfl rfl rfl)<|Hc (aC _ _)<|Hc (aL _ _ _)<|Hc (aJ _ _)<|Hc (by(simp;exact⟨rfl,rfl⟩))<|Hc (aQ _ _ _)<|trivial) ⟨rfl,rfl,rfl,rfl,rfl,rfl,rfl,trivial⟩) ?_;exact .inr (.inl ⟨rfl,e0,rfl,rfl⟩)
  have e0:x.1=0:=by have h:=hc6;simpa using h
  rw [XC e0];refine aG<|Sr<|Dd aE<|Dd e8<|Dd (dP p5)<|Dd (eA bO)<|Dd aE<|Dm ?_;refine iJ rfl rfl (aB rfl rfl WQ rfl (O2 l l2 c c2 D _ (by omega) (by omega) hst2 rfl rfl rfl (bF.ofL ⟨(by exact aF _ _ rfl rfl rfl),(by exact aC _ _),(by exact aL _ _ _),(by exact aJ _ _),(by(simp;exact⟨rfl,rfl⟩)),(by exact aQ _ _ _),(by exact aQ _ _ _),(by exact aF _ _ rfl rfl rfl),(by exact aC _ _),(by exact aL _ _ _),(by exact aJ _ _),(by(simp;exact⟨rfl,rfl⟩)),(by exact aQ _ _ _),trivial⟩))) ?_;rintro r H' ⟨rfl,ps,hps,rfl⟩;obtain ⟨q1,q2,q3,q4⟩:=w5 (D:=D) hst hnd hnd2 hps;refine Zz<|Sr<|Dd aS<|Zz<|aN ?_;refine a8 (H':=((950,bJ l2 c2)::sH x.2 (b6 k a (n+cT t) false) (bJ (g7 (fN l c ps).1 D) (fN l c ps).2))) (.inr rfl) rfl (aH rfl) (Fin.wk (by(simp;done)) (Hc (aQ _ _ _)<|Hc (aF _ _ rfl rfl rfl)<|Hc (aC _ _)<|Hc (aL _ _ _)<|Hc (aJ _ _)<|Hc (by(simp;exact⟨rfl,rfl⟩))<|Hc (aQ _ _ _)<|trivial) ⟨rfl,rfl,rfl,rfl,rfl,rfl,rfl,trivial⟩) ?_;exact .inr (.inr ⟨rfl,e0,rfl,_,_,q1,q2,q3,q4,rfl⟩)
theorem KC {d:DSt} {N m:Nat} (h:DInv d N m) (k a n:Nat) (b:Bool) (l:bN) (c:Nat) (P:List ByteArray) (hk:k < 4000) (ha:a < 2) (hn:n≤k) (hm:m≤10) (hst:dR l c) (hnd:e9 l) (hP:P.length < 1000000) (hsz:bH ([]:bN) P=0→(bC ([]:bN) (fO P)).length < 100000000) :
  aK Tryz.prog 14 [.ref 1100 0 0 0,.pv .nilm,.pv (aW P)] (sH d (b6 k a n b) (bJ l c)) (fun r H'=>(¬ u3 k n b ([]:bN) P = -1∧r=iv (u3 k n b ([]:bN) P)∧H'=sH d (b6 k a n b) (bJ l c)) ∨
   (u3 k n b ([]:bN) P = -1∧¬ (iO d k a n (bC ([]:bN) (fO P))).1=0∧r=iv (iO d k a n (bC ([]:bN) (fO P))).1∧H'=sH (iO d k a n (bC ([]:bN) (fO P))).2 (b6 k a n true) (bJ l c)) ∨
   (u3 k n b ([]:bN) P = -1∧(iO d k a n (bC ([]:bN) (fO P))).1=0∧r=iv 0∧∃ l' c',dR l' c'∧e9 l'∧l'.length≤l.length+([]:bN).length∧(∀ x,cS l' x=oV (cS l) ([]:bN) (fO P) x)∧H'=sH (iO d k a n (bC ([]:bN) (fO P))).2 (b6 k a (n+cT (bC ([]:bN) (fO P))) false) (bJ l' c'))):=by
 have hR:u3 k n b ([]:bN) P=if b then 12 else if ¬ bH ([]:bN) P=0 then bH ([]:bN) P else if([]:bN).length+(fO P).length=0 then 0 else if k < n+cT (bC ([]:bN) (fO P))then 21 else -1:=rfl
 have hwr:=fun H=>LO P (by omega) H;have hrange:=eM ([]:bN) P;have hDl:=rS P;cases b with
 | true =>
  rw [XC rfl] at hR;rw [hR];refine Bd PQ rfl LB<|Sr<|Dd aS<|Zz<|Sq<|aM<|Sr<|Dd aE<|Dd (by exact cP rfl fT rfl rfl rfl rfl)<|Da ?_;refine Cn ?_ ?_<;>intro hc1
  ·cases hc1
  refine Sr<|Dd aE<|Dd e8<|Dd (dP iZ)<|Dd (eA dC)<|Da ?_;refine Cn ?_ ?_<;>intro hc2
  ·refine Sr<|Dd aS<|Zz<|aN ?_;refine a8 (H':=(sH d (b6 k a n true) (bJ l c))) (.inr rfl) rfl (aH rfl) (Fin.wk (by(simp;done)) (Hc (aF _ _ rfl rfl rfl)<|Hc (aC _ _)<|Hc (aL _ _ _)<|Hc (aJ _ _)<|Hc (by(simp;exact⟨rfl,rfl⟩))<|Hc (aQ _ _ _)<|trivial) ⟨rfl,rfl,rfl,rfl,rfl,rfl,trivial⟩) ?_;exact .inl ⟨by decide,rfl,rfl⟩
  cases hc2
 | false =>
  rw [XB (by decide)] at hR;refine Bd PQ rfl LB<|Sr<|Dd aS<|Zz<|Sq<|aM<|Sr<|Dd aE<|Dd (by exact cP rfl fT rfl rfl rfl rfl)<|Da ?_;refine Cn ?_ ?_<;>intro hc1
  ·cases hc1
  refine Sr<|Dd aE<|Dd e8<|Dd (dP iZ)<|Dd (eA dC)<|Da ?_;refine Cn ?_ ?_<;>intro hc2
  ·cases hc2
  refine aG<|Sq<|Sr<|Dd aE<|Dd aE<|Dd (by exact aB rfl rfl r9 rfl (hwr _))<|Dd aS<|Zz<|Sr<|Dd aE<|Dd oZ<|Zz ?_;refine Cn ?_ ?_<;>intro hc3
  ·have hq:¬ bH ([]:bN) P=0:=by have h:=hc3;simpa using h
   rw [XC hq] at hR;rw [hR];refine Sr<|Dd aE<|Dd aS<|Zz<|aN ?_;refine a8 (H':=(sH d (b6 k a n false) (bJ l c))) (.inr rfl) rfl (aH rfl) (Fin.wk (by(simp;done)) (Hc (aF _ _ rfl rfl rfl)<|Hc (aC _ _)<|Hc (aL _ _ _)<|Hc (aJ _ _)<|Hc (by(simp;exact⟨rfl,rfl⟩))<|Hc (aQ _ _ _)<|trivial) ⟨rfl,rfl,rfl,rfl,rfl,rfl,trivial⟩) ?_;exact .inl ⟨by omega,rfl,rfl⟩
  have hq:bH ([]:bN) P=0:=by have h:=hc3;simpa using h
  rw [XB (fun h=>h hq)] at hR;have hsz:=hsz hq;have hso:=GS (L:=P) (by omega) call97 ((951,T5 P)::sH d (b6 k a n false) (bJ l c)) (yA P _ (by omega) rfl) rfl rfl rfl rfl (bF.ofL ⟨(by(simp;done)),(by exact aF _ _ rfl rfl rfl),(by exact aC _ _),(by exact aL _ _ _),(by exact aJ _ _),(by(simp;exact⟨rfl,rfl⟩)),(by exact aQ _ _ _),trivial⟩) (by simp;rfl);refine aG<|Sr<|Dd aE<|Dd (by exact aB rfl rfl call49 rfl (x9 P _ rfl))<|Dd (by exact aB rfl rfl BT rfl (hso))<|Dd (by exact aB rfl rfl WT rfl ((by have h:=wT (b4 P) P.length ((945,cO P.length (b4 P))::(951,T5 P)::sH d (b6 k a n false) (bJ l c)) rfl (by rw [dJ];omega);rw [dJ] at h;exact h)))<|Dd aS<|Zz<|Sq<|Sq ?_;refine fU.ent (bY.fzG (id:=945) (E':=[(0,.ref 1100 0 0 0),(1,.pv .nilm),(2,.pv (aW (fO P)))]) (H':=sH d (b6 k a n false) (bJ l c)) ((bZ (b4 P)++List.replicate (P.length - (bZ (b4 P)).length) sNil).map encStr) rfl (by rw [List.map_map];rfl) ?_ rfl ?_ ?_) ?_
  ·intro p hp;simp only [XP,XT,or_false] at hp;rcases hp with rfl|rfl|rfl
   ·exact⟨_,rfl,.same (by simp;rfl)⟩
   ·exact⟨_,rfl,.same (by simp)⟩
   exact⟨_,rfl,.osl (OF P _)⟩
  ·exact⟨⟨_,rfl,rfl,rfl,rfl,cB (aF _ _ rfl rfl rfl)⟩,⟨_,rfl,rfl,rfl,rfl,cB (aC _ _)⟩,⟨_,rfl,rfl,rfl,rfl,cB (aL _ _ _)⟩,⟨_,rfl,rfl,rfl,rfl,cB (aJ _ _)⟩,⟨_,rfl,rfl,rfl,rfl,cB (bD rfl rfl)⟩,⟨_,rfl,rfl,rfl,rfl,cB (aQ _ _ _)⟩,trivial⟩
  ·exact⟨rfl,rfl,rfl,rfl,rfl,rfl,trivial⟩
  have hinc:=wV P;obtain ⟨D,hD⟩:∃ D,D=fO P:=⟨_,rfl⟩;rw [← hD] at hR hsz hDl ⊢;have hmp:([]:bN).length=0:=rfl;have hmd:(D.map encStr).length=D.length:=XD _;have htx:=fun H=>P6 D (by omega) (by omega) H;obtain ⟨t,ht⟩:∃ t,t=bC ([]:bN) D:=⟨_,rfl⟩;rw [← ht] at hR hsz htx ⊢;have hcn:=fun H=>wS t (by omega) H;refine Rg<|Dd aE<|Dd (by exact SL rfl aT rfl)<|Dd aE<|Dd (jW aO)<|Dd (by exact cF rfl rfl rfl (g9 (by omega) (by omega)))<|Dd g6<|Zz ?_;refine Cn ?_ ?_<;>intro hc4
  ·have hq2:([]:bN).length+D.length=0:=by have:=W9 hc4;omega
   rw [XC hq2] at hR;rw [hR];refine Sr<|Dd aS<|Zz<|aN ?_;refine a8 (H':=(sH d (b6 k a n false) (bJ l c))) (.inr rfl) rfl (aH rfl) (Fin.wk (by(simp;done)) (Hc (aF _ _ rfl rfl rfl)<|Hc (aC _ _)<|Hc (aL _ _ _)<|Hc (aJ _ _)<|Hc (by(simp;exact⟨rfl,rfl⟩))<|Hc (aQ _ _ _)<|trivial) ⟨rfl,rfl,rfl,rfl,rfl,rfl,trivial⟩) ?_;exact .inl ⟨by decide,rfl,rfl⟩
  have hq2:¬ ([]:bN).length+D.length=0:=by have:=XA hc4;omega
  rw [XB hq2] at hR;refine aG<|Sr<|Dd aE<|Dd aE<|Dd (by exact aB rfl rfl r8 rfl (htx _))<|Dd aS<|Zz<|Sq<|Sq<|bK follows<|Cq aE<|Cq (by exact aB rfl rfl WS rfl (hcn _))<|Cq aE<|Cq e8<|Cq (dP p6)<|Cq (eA aV)<|Cq aE<|Cq e8<|Cq (dP kI)<|Cq (dP lD)<|Cq (eA aV)<|Cq (by exact dO rfl rfl rfl (g9 (by omega) (by omega)))<|Cq yZ<|cM<|Kr ?_;refine Cn ?_ ?_<;>intro hc5
  ·have hq3:k < n+cT t:=by have:=W9 hc5;omega
   rw [XC hq3] at hR;rw [hR];refine Sr<|Dd aS<|Zz<|aN ?_;refine a8 (H':=(sH d (b6 k a n false) (bJ l c))) (.inr rfl) rfl (aH rfl) (Fin.wk (by(simp;done)) (Hc (aF _ _ rfl rfl rfl)<|Hc (aC _ _)<|Hc (aL _ _ _)<|Hc (aJ _ _)<|Hc (by(simp;exact⟨rfl,rfl⟩))<|Hc (aQ _ _ _)<|trivial) ⟨rfl,rfl,rfl,rfl,rfl,rfl,trivial⟩) ?_;exact .inl ⟨by decide,rfl,rfl⟩
  have hq3:¬ k < n+cT t:=by have:=XA hc5;omega
  rw [XB hq3] at hR;rw [hR];have hadd:=O8 h k a n a n false l c t hsz (by omega) ha hk (by omega);obtain ⟨x,hx⟩:∃ x,x=iO d k a n t:=⟨_,rfl⟩;rw [← hx] at hadd ⊢;clear hx;refine aG<|Sq<|Sr<|Dd aE<|Dd aE<|Dd e8<|Dd (dP kI)<|Dd (Q0 cQ sizeOf70)<|Dd aE<|Dd (by exact aB rfl rfl WR rfl (fV hadd _ ⟨rfl,rfl,rfl,rfl,rfl,rfl,trivial⟩ (by simp;rfl)))<|Dd aS<|Zz<|Sr<|Dd aE<|Dd oZ<|Zz ?_;refine Cn ?_ ?_<;>intro hc6
  ·have e0:¬ x.1=0:=by have h:=hc6;simpa using h
   rw [XB e0];refine Sr<|Dd aE<|Dd aS<|Zz<|aN ?_;refine a8 (H':=(sH x.2 (b6 k a n true) (bJ l c))) (.inr rfl) rfl (aH rfl) (Fin.wk (by(simp;done)) (Hc (aF _ _ rfl rfl rfl)<|Hc (aC _ _)<|Hc (aL _ _ _)<|Hc (aJ _ _)<|Hc (by(simp;exact⟨rfl,rfl⟩))<|Hc (aQ _ _ _)<|trivial) ⟨rfl,rfl,rfl,rfl,rfl,rfl,trivial⟩) ?_;exact .inr (.inl ⟨rfl,e0,rfl,rfl⟩)
  have e0:x.1=0:=by have h:=hc6;simpa using h
  rw [XC e0];refine aG<|Sr<|Dd aE<|Dd e8<|Dd (dP p5)<|Dd (eA bO)<|Dd aE<|Dm ?_;refine iJ rfl rfl (aB rfl rfl WQ rfl (O1 l c D _ (by omega) rfl rfl (bF.ofL ⟨(by exact aF _ _ rfl rfl rfl),(by exact aC _ _),(by exact aL _ _ _),(by exact aJ _ _),(by(simp;exact⟨rfl,rfl⟩)),(by exact aQ _ _ _),(by exact aF _ _ rfl rfl rfl),(by exact aC _ _),(by exact aL _ _ _),(by exact aJ _ _),(by(simp;exact⟨rfl,rfl⟩)),(by exact aQ _ _ _),trivial⟩))) ?_;rintro r H' ⟨rfl,rfl⟩;obtain ⟨q1,q2,q3,q4⟩:=w5 (put:=[]) (ps:=[]) (D:=D) hst hnd vX (List.Perm.refl _);refine Zz<|Sr<|Dd aS<|Zz<|aN ?_;refine a8 (H':=(sH x.2 (b6 k a (n+cT t) false) (bJ (g7 l D) c))) (.inr rfl) rfl (aH rfl) (Fin.wk (by(simp;done)) (Hc (aF _ _ rfl rfl rfl)<|Hc (aC _ _)<|Hc (aL _ _ _)<|Hc (aJ _ _)<|Hc (by(simp;exact⟨rfl,rfl⟩))<|Hc (aQ _ _ _)<|trivial) ⟨rfl,rfl,rfl,rfl,rfl,rfl,trivial⟩) ?_;exact .inr (.inr ⟨rfl,e0,rfl,_,_,q1,q2,q3,q4,rfl⟩)
abbrev VF (l:List UInt8) (g:Nat) (u:Bool):Ob:=mT (.osl 2002 g 0 l.length) u
abbrev VE (l:List UInt8) (g:Nat):Ob:=⟨g,1,5,bG l⟩
theorem P0 {g g':Nat} {l l':List UInt8} {u u':Bool} {id:Nat} (h:(aA.get (D8 g l u) id).isSome=true):(aA.get (D8 g' l' u') id).isSome=true:=by
 simp only [D8,aA.get] at h ⊢;cases e1:Nat.beq 2001 id with
 | true=>rfl
 | false =>
  cases e2:Nat.beq 2002 id with
  | true=>rfl
  | false=>rw [e1,e2] at h;cases h
theorem LL {g:Nat} {l:List UInt8} {u u':Bool} {id:Nat} (h:(aA.get (KR g l u) id).isSome=true):(aA.get (D8 g l u) id).isSome=true:=by
 simp only [KR,D8,aA.get] at h ⊢;cases e1:Nat.beq 2001 id with
 | true=>rfl
 | false =>
  cases e2:Nat.beq 2002 id with
  | true=>rfl
  | false=>rw [e1,e2] at h;cases h
theorem LK {H:aA} {g:Nat} {l:List UInt8} {u:Bool} (h1:H.get 2001=some (VF l g u)) (h2:H.get 2002=some (VE l g)):Sub (D8 g l u) H:=by
 intro j o h;simp only [D8,aA.get] at h;cases e1:Nat.beq 2001 j with
 | true =>
  rw [e1] at h;cases h;rw [← Nat.eq_of_beq_eq_true e1];exact h1
 | false =>
  rw [e1] at h;cases e2:Nat.beq 2002 j with
  | true =>
   rw [e2] at h;cases h;rw [← Nat.eq_of_beq_eq_true e2];exact h2
  | false=>rw [e2] at h;cases h
theorem UD {H:aA} {g:Nat} {l:List UInt8} {u:Bool} (s:ByteArray) (h1:H.get 2001=some (VF l g u)) (h2:H.get 2002=some (VE l g)) (hl:l.length+s.size < 70368744177664):aK Tryz.prog 86 [.ref 2001 0 0 0,sv s] H (fun r H'=>r=.tup [iv (s.size:Int),.pv FK]∧H'=D8 (g+1) (l++s.data.toList) true++H) :=aK.frame (pA g l u s hl) (LK h1 h2) (bF.ofL ⟨(by exact l5 rfl rfl),(by exact oX _ _),trivial⟩) (by simp;rfl) (fun id h=>.inl (P0 h))
theorem ST {H:aA} {g:Nat} {l:List UInt8} {u:Bool} (h1:H.get 2001=some (VF l g u)) (h2:H.get 2002=some (VE l g)) (hl:l.length < 70368744177664):aK Tryz.prog 88 [.ref 2001 0 0 0] H (fun r H'=>r=sv ⟨l.toArray⟩∧H'=KR g l u++H) :=aK.frame (SC g l u hl) (LK h1 h2) (bF.ofL ⟨(by exact l5 rfl rfl),(by exact oX _ _),trivial⟩) (by simp;rfl) (fun id h=>.inl (LL (u':=u) h))
def CZ (d:DSt) (k a i:Nat):List UInt8:=(List.range i).flatMap fun i=>(ND d k a i).data.toList
theorem yU (d:DSt) (k a i:Nat):CZ d k a (i+1)=CZ d k a i++(ND d k a i).data.toList:=by rw [CZ,List.range_succ,List.flatMap_append,List.flatMap_cons,List.flatMap_nil,List.append_nil];rfl
theorem yO (place:Nat) (t:ByteArray) (ht:t.size=64):(CO place t).size≤46:=by
 rw [CO]
 split
 ·exact XU _
 next hb =>
 split
 ·rw [yP] at hb;simp only [Bool.not_eq_true,XZ,XL] at hb;rw [MT,ByteArray.size_extract];omega
 exact XU _
theorem CY {d:DSt} (hs:DOk d) {k a:Nat} (n:Nat) (hp:∀ i,i < n→2+a*k+i < d.cells.length):∀ i,i≤n→(CZ d k a i).length≤46*i
 | 0,_=>XJ _
 | i+1,hi=>by
  have h1:=CY hs n hp i (by omega);have h2:=yO (2+a*k+i) (bT d (2+a*k+i)) (kY hs (hp i (by omega)));rw [yU,XE,dB,ND];omega
theorem u7:∀ (n:Nat) (t:List UInt8) (acc:List ByteArray),((eT n t acc).1.map ByteArray.size).sum≤(acc.map ByteArray.size).sum+t.length
 | 0,t,acc=>Nat.le_add_right _ _
 | n+1,t,acc=>by
  rw [eT]
  split
  ·exact Nat.le_add_right _ _
  split
  ·exact XU _
  have h1:=u7 n ((tY t).drop (HT t)) (acc++[ofL ((tY t).take (HT t))]);have h2:=(F5 t).2;rw [List.map_append,List.sum_append,List.map_cons,List.map_nil,List.sum_cons,List.sum_nil,bS,XR,XS] at h1;omega
theorem EM (t:List UInt8):((dX t).1.map ByteArray.size).sum≤t.length:=by have:=u7 t.length t [];rw [List.map_nil,List.sum_nil,XV] at this;exact this
theorem B5 (L:List ByteArray) (j:Nat):((L.take j).map ByteArray.size).sum≤(L.map ByteArray.size).sum:=by
 have h:L.map ByteArray.size=(L.take j).map ByteArray.size++(L.drop j).map ByteArray.size:=by rw [← List.map_append,List.take_append_drop]
 rw [h,List.sum_append];omega
def M2 (o:Bool) (L:List ByteArray) (j:Nat):Bool:=o&&(L.take j).all fun c=>jL c.data.toList
theorem M1 {o:Bool} {L:List ByteArray} {j:Nat} {t:ByteArray} (h:L[j]?=some t):M2 o L (j+1)=(M2 o L j&&jL t.data.toList):=by rw [M2,M2,cR h,List.all_append,List.all_cons,List.all_nil,Bool.and_true,Bool.and_assoc]
abbrev T8 (L:List ByteArray) (j:Nat):CT:=m3 ((L.take j).map fun c=>c.data.toList)
theorem OA {L:List ByteArray} {j:Nat} {t:ByteArray} (h:L[j]?=some t):T8 L (j+1)=TO (T8 L j) t.data.toList:=by rw [T8,cR h,List.map_append];exact qB _ _
theorem QZ (d:DSt) (hs:DOk d) (hoff:d.off=false) (k a n:Nat) (b:Bool) (ha:a < 2) (hn:n≤k) (hk:2*k+2≤d.cells.length) :
  aK Tryz.prog 44 [.ref 1100 0 0 0] (sH d (b6 k a n b) (bJ [] 0)) (fun r H'=>r=bv (v7 d k a n)∧∃ l c,dR l c∧e9 l∧l.length≤46*n∧(v7 d k a n=true→∀ x,cS l x=SN d k a n x)∧H'=sH d (b6 k a n b) (bJ l c)):=by
 have hn2:=hs.n2;have hak:a*k≤k:=by
  rcases(show a=0∨a=1 by omega)with e|e<;>subst e<;>omega
 have hplace:∀ i,i < n→2+a*k+i < d.cells.length:=fun i hi=>by omega
 have hTl:=CY (k:=k) (a:=a) hs n hplace;have hTn:NC d k a n=CZ d k a n:=rfl;have hok:v7 d k a n=(C0 d k a n&&((dX (NC d k a n)).2&&(dX (NC d k a n)).1.all fun c=>jL c.data.toList)):=rfl;have hC:SN d k a n=m3 ((dX (NC d k a n)).1.map fun c=>c.data.toList):=rfl;refine Bd func44 rfl ntmps44<|Sr<|Dd aS<|Zz<|Sr<|Dd (by exact cC (id:=2001) rfl LI rfl rfl)<|Zz<|Sq<|Sr<|Dd aE<|Dd e8<|Dd (dP kI)<|Dd (dP lD)<|Dd (eA aV)<|Dd aE<|Zz<|aM ?_;refine fU.ent (E':=[(0,.ref 1100 0 0 0),(3,.ref 2001 0 0 0),(14,iv (n:Int)),(15,iv 0)]) (H':=(2002,⟨0,1,5,[]⟩)::(2001,mT (.osl 2002 0 0 0) false)::sH d (b6 k a n b) (bJ [] 0)) (bY.nz 2002 1 5 rfl rfl ⟨⟨_,rfl,(by exact Nz.same (by(simp;rfl)))⟩,⟨_,rfl,(by exact Nz.same (by(simp;rfl)))⟩,⟨_,rfl,(by exact Nz.same (by(simp;done)))⟩,⟨_,rfl,(by exact Nz.same (by(simp;done)))⟩,trivial⟩ ⟨⟨_,rfl,rfl,rfl,rfl,(by exact .inr ⟨_,_,rfl,rfl,(by repeat(first|exact trivial|refine⟨(by first|exact Nz.own|exact Nz.same (by(simp;done))),?_⟩))⟩)⟩,⟨_,rfl,rfl,rfl,rfl,(by exact .inl ⟨rfl,(by exact aF _ _ rfl rfl rfl)⟩)⟩,⟨_,rfl,rfl,rfl,rfl,(by exact .inl ⟨rfl,(by exact aC _ _)⟩)⟩,⟨_,rfl,rfl,rfl,rfl,(by exact .inl ⟨rfl,(by exact aL _ _ _)⟩)⟩,⟨_,rfl,rfl,rfl,rfl,(by exact .inl ⟨rfl,(by exact aJ _ _)⟩)⟩,⟨_,rfl,rfl,rfl,rfl,(by exact .inl ⟨rfl,(by exact bD rfl rfl)⟩)⟩,⟨_,rfl,rfl,rfl,rfl,(by exact .inl ⟨rfl,(by exact aQ _ _ _)⟩)⟩,trivial⟩ ⟨rfl,rfl,rfl,rfl,rfl,rfl,trivial⟩) ?_;refine s9 (fun(i g:Nat) (u:Bool)=>([(0,.ref 1100 0 0 0),(3,.ref 2001 0 0 0),(14,iv (n:Int)),(15,iv (i:Int))],(2001,VF (CZ d k a i) g u)::(2002,VE (CZ d k a i) g)::sH d (b6 k a n b) (bJ [] 0))) (fun i g u=>i≤n∧∀ j,j < i→¬ ND d k a j=sNil) (fun i g u=>n - i) 0 0 false ⟨XU _,fun j hj=>absurd hj (Nat.not_lt_zero _)⟩ ?_ ?_
 ·exact(bY.wk (Ea<|Ea<|Eb<|Eb<|trivial) (Hc (l5 rfl rfl)<|Hc (aC _ _)<|Hc (aF _ _ rfl rfl rfl)<|Hc (aC _ _)<|Hc (aL _ _ _)<|Hc (aJ _ _)<|Hc (bD rfl rfl)<|Hc (aQ _ _ _)<|trivial) ⟨rfl,rfl,rfl,rfl,rfl,rfl,trivial⟩)
 rintro i g u ⟨hi,hz⟩;have hTi:=hTl i hi;have hpl:=vN d k a n a i b [] 0 (by omega) (by omega) (by omega);refine Sr<|Dd dG<|Zz<|Sq ?_;refine Cn ?_ ?_<;>intro hc1
 ·have hlt:i < n:=by have:=W9 hc1;omega
  have hpc:=QF d hs hoff k a n (2+a*k+i) b [] 0 (hplace i hlt);have hps:=yO (2+a*k+i) (bT d (2+a*k+i)) (kY hs (hplace i hlt));have hnx:=yU d k a i;have hPi:ND d k a i=CO (2+a*k+i) (bT d (2+a*k+i)):=rfl;rw [← hPi] at hpc hps;obtain ⟨p,hp⟩:∃ p,p=ND d k a i:=⟨_,rfl⟩;rw [← hp] at hpc hps hnx;refine aG<|Sq<|aM<|Sr<|Dd aE<|Dd aS<|Zz<|Sr<|Dd aE<|Dd aE<|Dd aE<|Dd e8<|Dd (dP kI)<|Dd (dP p8)<|Dd (eA aV)<|Dd aE<|Dd (by exact aB rfl rfl WO rfl (fE hpl _ ⟨rfl,rfl,rfl,rfl,rfl,rfl,trivial⟩ (by simp;rfl)))<|Dd (by exact aB rfl rfl call84 rfl (fE hpc _ ⟨rfl,rfl,rfl,rfl,rfl,rfl,trivial⟩ (by simp;rfl)))<|Dd aS<|Zz<|Sq<|Sr<|Dd aE<|Dd S3<|Zz ?_;refine Cn ?_ ?_<;>intro hc2
  ·have hq:p=sNil:=W9 hc2;have hf:v7 d k a n=false:=by
    have:C0 d k a n=false:=by
     rw [Bool.eq_false_iff];intro h;have:=List.all_eq_true.1 h i (List.mem_range.2 hlt);rw [← hp,hq,decide_eq_true rfl] at this;cases this
    rw [hok,this];rfl
   refine Sr<|Dd aS<|Zz<|aN ?_;refine a8 (H':=(sH d (b6 k a n b) (bJ [] 0))) (.inr rfl) rfl (aH rfl) (Fin.wk (by(simp;done)) (Hc (aF _ _ rfl rfl rfl)<|Hc (aC _ _)<|Hc (aL _ _ _)<|Hc (aJ _ _)<|Hc (bD rfl rfl)<|Hc (aQ _ _ _)<|trivial) ⟨rfl,rfl,rfl,rfl,rfl,rfl,trivial⟩) ?_;exact⟨by rw [hf],[],0,FJ,vX,XU _,fun h=>(by rw [hf] at h;cases h),rfl⟩
  have hq:¬ p=sNil:=XA hc2;refine aG<|Rg<|Dd aE<|Dd (by exact aB rfl rfl call86 rfl (UD p rfl rfl (by omega)))<|Zz<|Rg<|Dd kP<|Dd aE<|Zz ?_;refine⟨i+1,g+1,true,⟨by omega,fun j hj=>?_⟩,by omega,?_⟩
  ·rcases Nat.lt_succ_iff_lt_or_eq.1 hj with h1|rfl
   ·exact hz j h1
   rw [← hp];exact hq
  rw [hnx];exact(bY.wk (Ea<|Ea<|Eb<|Eb<|trivial) (Hc (l5 rfl rfl)<|Hc (aC _ _)<|Hc (aF _ _ rfl rfl rfl)<|Hc (aC _ _)<|Hc (aL _ _ _)<|Hc (aJ _ _)<|Hc (bD rfl rfl)<|Hc (aQ _ _ _)<|trivial) ⟨rfl,rfl,rfl,rfl,rfl,rfl,trivial⟩)
 have hge:i=n:=by have:=XA hc1;omega
 subst hge;have hall:C0 d k a i=true:=List.all_eq_true.2 fun j hj=>by
  rw [decide_eq_false (hz j (List.mem_range.1 hj))];rfl
 rw [hall,Bool.true_and,hTn] at hok;rw [hTn] at hC;obtain ⟨T,hT⟩:∃ T,T=CZ d k a i:=⟨_,rfl⟩;rw [← hT] at hok hC hTi ⊢;have hspl:=fun H=>CC T H (by omega);have hsum:=EM T;have hL1:=pM T.length T [];rw [List.length_nil,XV] at hL1;change (dX T).1.length≤T.length at hL1;obtain ⟨L,hL⟩:∃ L,L=(dX T).1:=⟨_,rfl⟩;obtain ⟨o,ho⟩:∃ o,o=(dX T).2:=⟨_,rfl⟩;rw [← hL,← ho] at hok;rw [← hL] at hC hsum hL1;simp only [← hL,← ho] at hspl;have hml:(L.map encStr).length=L.length:=XD _;have hTo:(⟨T.toArray⟩:ByteArray)=ofL T:=rfl;refine a6<|Sr<|Dd (by exact aB rfl rfl call88 rfl (ST rfl rfl (by omega)))<|Dd (by exact aB rfl rfl call87 rfl (hspl _))<|Dd aE<|Dd eB<|Dd eB<|Dd aS<|Dd aS<|Zz<|Sq<|Sr<|Dd aE<|Dd (jW aO)<|Dd aE<|Zz<|aM ?_;refine s9 (fun(j:Nat) (l:bN) (c:Nat)=>([(0,.ref 1100 0 0 0),(7,bv (M2 o L j)),(38,.pv (aW L)),(39,iv ((L.map encStr).length:Int)),(40,iv (j:Int))],sH d (b6 k a i b) (bJ l c))) (fun j l c=>j≤L.length∧dR l c∧e9 l∧l.length≤((L.take j).map ByteArray.size).sum∧(M2 o L j=true→∀ x,cS l x=T8 L j x)) (fun j l c=>L.length - j) 0 [] 0 ⟨XU _,FJ,vX,XU _,fun _ x=>rfl⟩ ?_ ?_
 ·rw [show M2 o L 0=o by rw [M2,List.take_zero];exact Bool.and_true o];exact(bY.wk (Ea<|Eb<|Eb<|Eb<|Eb<|trivial) (Hc (aF _ _ rfl rfl rfl)<|Hc (aC _ _)<|Hc (aL _ _ _)<|Hc (aJ _ _)<|Hc (bD rfl rfl)<|Hc (aQ _ _ _)<|trivial) ⟨rfl,rfl,rfl,rfl,rfl,rfl,trivial⟩)
 rintro j l c ⟨hj,hst,hnd,hll,hct⟩;have hsj:=B5 L j;refine Sr<|Dd dG<|Zz<|Sq ?_;refine Cn ?_ ?_<;>intro hc3
 ·have hlt:j < L.length:=by have:=W9 hc3;omega
  obtain ⟨t,ht⟩:=aY hlt;have hit:=cG (f:=encStr) ht;have hsz:((L.take (j+1)).map ByteArray.size).sum=((L.take j).map ByteArray.size).sum+t.size:=by rw [cR ht,List.map_append,List.sum_append];rfl
  have hsj2:=B5 L (j+1);have hnx:=M1 (o:=o) ht;have hcx:=OA ht;have hrp:=IY d k a i b l c t.data.toList hst hnd (by rw [dB];omega);rw [FG,dB] at hrp;obtain ⟨oj,hoj⟩:∃ oj,oj=M2 o L j:=⟨_,rfl⟩;rw [← hoj] at hnx hct ⊢;clear hoj;cases oj
  ·refine aG<|Sq<|aM<|Sr<|Dd (BY bR)<|Dd (kG aU)<|Dd aS<|Zz<|Rg<|Dd aE<|Dd aE<|Fo<|Fo<|Fo<|Fo<|Fo<|Fo<|Dd gL<|Dd aS<|Zz<|Rg<|Dd kP<|Dd aE<|Zz ?_;refine⟨j+1,l,c,⟨by omega,hst,hnd,by omega,fun h=>(by rw [hnx] at h;cases h)⟩,by omega,?_⟩;rw [hnx];exact(bY.wk (Ea<|Eb<|Eb<|Eb<|Eb<|trivial) (Hc (aF _ _ rfl rfl rfl)<|Hc (aC _ _)<|Hc (aL _ _ _)<|Hc (aJ _ _)<|Hc (bD rfl rfl)<|Hc (aQ _ _ _)<|trivial) ⟨rfl,rfl,rfl,rfl,rfl,rfl,trivial⟩)
  refine aG<|Sq<|aM<|Sr<|Dd (BY bR)<|Dd (kG aU)<|Dd aS<|Zz<|Rg<|Dd aE<|Dd aE<|On aE<|On e8<|On (dP p5)<|On (eA bO)<|On aE ?_;refine IA rfl rfl rfl rfl rfl (aB rfl rfl call89 rfl hrp) ?_;rintro _ _ ⟨rfl,l2,c2,q1,q2,q3,q4,rfl⟩;refine Dd gL<|Dd aS<|Zz<|Rg<|Dd kP<|Dd aE<|Zz ?_;refine⟨j+1,l2,c2,⟨by omega,q1,q2,by omega,fun h x=>?_⟩,by omega,?_⟩
  ·rw [hnx,Bool.true_and] at h;rw [q4 h x,hcx,TO,oV,oV,hct rfl x]
  rw [hnx,Bool.true_and];exact(bY.wk (Ea<|Eb<|Eb<|Eb<|Eb<|trivial) (Hc (aF _ _ rfl rfl rfl)<|Hc (aC _ _)<|Hc (aL _ _ _)<|Hc (aJ _ _)<|Hc (bD rfl rfl)<|Hc (aQ _ _ _)<|trivial) ⟨rfl,rfl,rfl,rfl,rfl,rfl,trivial⟩)
 have hge:j=L.length:=by have:=XA hc3;omega
 subst hge;have hoke:v7 d k a i=M2 o L L.length:=by rw [hok,M2,List.take_length]
 have hCe:SN d k a i=T8 L L.length:=by rw [hC,T8,List.take_length]
 rw [List.take_length] at hll;refine a6<|Sr<|Dd aE<|Dd aS<|Zz<|aN ?_;refine a8 (H':=(sH d (b6 k a i b) (bJ l c))) (.inr rfl) rfl (aH rfl) (Fin.wk (by(simp;done)) (Hc (aF _ _ rfl rfl rfl)<|Hc (aC _ _)<|Hc (aL _ _ _)<|Hc (aJ _ _)<|Hc (bD rfl rfl)<|Hc (aQ _ _ _)<|trivial) ⟨rfl,rfl,rfl,rfl,rfl,rfl,trivial⟩) ?_;exact⟨by rw [hoke],l,c,hst,hnd,by omega,fun h=>by rw [hCe];exact hct (by rw [← hoke];exact h),rfl⟩
theorem tP {k place:Nat} {t:ByteArray} (h:jR k place t=true):nP t < 2∧nO t≤k∧hS place (nP t) (nO t)=t:=by rw [jR] at h;simp only [XM,XK] at h;exact⟨h.2.1.1,h.2.1.2,h.2.2⟩
def pF (d:DSt) (k:Nat):Bool:=(!HB d k&&!decide (bT d 0=zS))||!v7 d k (SJ d k) (SI d k)
theorem JN (d:DSt) (k:Nat):SJ d k < 2∧SI d k≤k:=by
 rw [SJ,SI];cases h1:uE d k with
 | true =>
  rw [XC rfl,XC rfl];rw [uE] at h1;have:=tP h1;exact⟨this.1,this.2.1⟩
 | false =>
  rw [XB Bool.false_ne_true,XB Bool.false_ne_true];cases h0:jR k 0 (bT d 0)with
  | true =>
   rw [XC rfl,XC rfl];have:=tP h0;exact⟨this.1,this.2.1⟩
  | false =>
   rw [XB Bool.false_ne_true,XB Bool.false_ne_true];exact⟨by omega,by omega⟩
theorem EE (place:Nat) {a n:Nat} (hd:Bool) (ha:a < 10) (hn:n < 10000000):(nG place a n hd).size=64:=by
 cases hd
 ·show zS.size=64;rw [bS,zB,List.length_replicate]
 exact A6 place ha hn
theorem VQ:zS.size=64:=by rw [bS,zB,List.length_replicate]
theorem S5 {d:DSt} {N place a n:Nat} {hd:Bool} (h:OnD d N) (hp:place < N) (ha:a < 10) (hn:n < 10000000) (h0:(r5 d place a n hd).1=0):OnD (r5 d place a n hd).2 N:=by
 rw [r5] at h0 ⊢;by_cases e:bT d place=nG place a n hd
 ·rw [XC e] at h0 ⊢;exact h
 rw [XB e] at h0 ⊢;have w1:=LQ h (place:=place) (L:=[zS]) (by rw [List.length_singleton];omega) (fun t ht=>by rw [XG.1 ht];exact VQ) (by rw [List.length_singleton];omega);by_cases e2:(iP d place [zS]).1=0∧hd=true
 ·rw [XC e2] at h0 ⊢;rcases w1 with⟨q1,q2,q3⟩|⟨q1,q2,q3⟩
  ·have w2:=LQ q2 (place:=place) (L:=[nG place a n hd]) (by rw [List.length_singleton];omega) (fun t ht=>by rw [XG.1 ht];exact EE place hd ha hn) (by rw [List.length_singleton];omega);rcases w2 with⟨p1,p2,p3⟩|⟨p1,p2,p3⟩
   ·exact p2
   rw [p1] at h0;cases h0
  rw [q1] at e2;cases e2.1
 rw [XB e2] at h0 ⊢;rcases w1 with⟨q1,q2,q3⟩|⟨q1,q2,q3⟩
 ·exact q2
 rw [q1] at h0;cases h0
def S9 (i N:Nat):Int:=if i≤N then 0 else 1
abbrev WI (a n:Nat):Ob:=bx 2 70 [iv (a:Int),iv (n:Int)]
theorem QH {d:DSt} {N:Nat} (h:OnD d N) (hN:4≤N) (k a n:Nat) (hd:Bool) (hk:k=(N - 2) / 2) (hA:a=SJ d k) (hNn:n=SI d k) (hH:hd=HB d k) :
  aK Tryz.prog 12 [.ref 1000 0 0 0] (a7 d) (fun r H'=>(pF d k=true∧r=.tup [.pv .nilp,iv 23]∧H'=a7 d) ∨
   (pF d k=false∧¬ (r5 d 1 a n hd).1=0∧r=.tup [.pv .nilp,iv (r5 d 1 a n hd).1]∧H'=a7 (r5 d 1 a n hd).2) ∨
   (pF d k=false∧(r5 d 1 a n hd).1=0∧¬ (r5 (r5 d 1 a n hd).2 0 a n hd).1=0∧r=.tup [.pv .nilp,iv (r5 (r5 d 1 a n hd).2 0 a n hd).1]∧H'=a7 (r5 (r5 d 1 a n hd).2 0 a n hd).2) ∨
   (pF d k=false∧(r5 d 1 a n hd).1=0∧(r5 (r5 d 1 a n hd).2 0 a n hd).1=0∧r=.tup [.ref 1100 0 0 0,iv 0]∧∃ l c,dR l c∧e9 l∧l.length≤46*n∧(∀ x,cS l x=SN d k a n x)∧H'=sH (r5 (r5 d 1 a n hd).2 0 a n hd).2 (b6 k a n false) (bJ l c))):=by
 have hs:=h.inv.ok;have hoff:=h.off;have hcn:=h.inv.n;have hn2:=hs.n2;have hbd:=JN d k;rw [← hA,← hNn] at hbd;have hbad:pF d k=((!hd&&!decide (bT d 0=zS))||!v7 d k a n):=by rw [pF,← hA,← hNn,← hH]
 have hrE:∀ i:Nat,mP d (i:Int)=if i < N then 0 else 1:=fun i=>by
  rw [mP,hoff,XB (by decide),iW,hcn];by_cases e:i < N
  ·rw [XC (decide_eq_true e),XC e]
  rw [XB (by rw [decide_eq_false e];decide),XB e]
 refine Bd func12 rfl ntmps12<|Sr<|Dd aS<|Dd aS<|Zz<|Sq<|Sr<|Dd aE<|Dd (by exact cP rfl iN rfl rfl rfl rfl)<|Zz ?_;refine Cn ?_ ?_<;>intro hc1
 ·cases hc1
 refine aG<|Sr<|Dd aS<|Zz<|Sr<|Dd aS<|Zz<|Sq<|aM ?_;refine bB (σ:=Nat) (fun i=>([(0,.ref 1000 0 0 0),(4,iv (i:Int)),(5,iv (S9 i N))],a7 d)) (fun i=>i≤N+1) (fun i=>N+1 - i) 0 (XU _) ?_ ?_
 ·rw [show S9 0 N=0 from XC (XU _)];exact(bY.wk (Ea<|Eb<|Eb<|trivial) (Hc (aF _ _ rfl rfl rfl)<|Hc (aC _ _)<|Hc (aL _ _ _)<|Hc (aJ _ _)<|trivial) ⟨rfl,rfl,rfl,rfl,trivial⟩)
 intro i hi;have hrd:=MN d (i:Int) hs;rw [hrE i] at hrd;refine Sq<|Sr<|Dd aE<|Dd g6<|Zz ?_;refine Cn ?_ ?_<;>intro hc2
 ·have hq:i≤N:=by have h:=W9 hc2;rw [S9] at h;split at h;exact(by assumption);cases h
  have hnx:S9 (i+1) N=if i < N then 0 else 1:=by
   rw [S9];by_cases e:i < N
   ·rw [XC e,XC (by omega)]
   rw [XB e,XB (by omega)]
  rw [← hnx] at hrd;refine aG<|Sq<|aM<|Rg<|Dd aE<|Dd aE<|Dd (by exact aB rfl rfl sA rfl (hrd))<|Dd aE<|Dd eB<|Dd eB<|Dd aS<|Zz<|Rg<|Dd aE<|Dd (by exact cF rfl rfl rfl (show IntKind.i64.wrap ((i:Int)+1)=((i+1:Nat):Int)by rw [g9 (by omega) (by omega)];omega))<|Da ?_;exact⟨i+1,by omega,by omega,(bY.wk (Ea<|Eb<|Eb<|trivial) (Hc (aF _ _ rfl rfl rfl)<|Hc (aC _ _)<|Hc (aL _ _ _)<|Hc (aJ _ _)<|trivial) ⟨rfl,rfl,rfl,rfl,trivial⟩)⟩
 have hq:i=N+1:=by have h:=XA hc2;rw [S9] at h;split at h;exact absurd rfl h;omega
 have hk1:S9 i N=1:=XB (by omega);rw [hk1];have hp1:=qV d hs hoff k 0 0 1 false [] 0 (by omega) (by omega);have hp0:=qV d hs hoff k 0 0 0 false [] 0 (by omega) (by omega);have hrd0:=uL hs hoff (n:=0) (by omega);refine a6<|Sq<|Sr<|Dd aE<|Dd (by exact dO rfl rfl rfl (show IntKind.i64.wrap ((i:Int) - 1)=(N:Int)by rw [g9 (by omega) (by omega)];omega))<|Dd aS<|Zz<|Sr<|Dd aE<|Dd g6<|Zz ?_;refine Cn ?_ ?_<;>intro hc3
 ·cases hc3
 refine aG<|Sq<|Sr<|Dd aE<|Dd dG<|Zz ?_;refine Cn ?_ ?_<;>intro hc4
 ·(have h:=W9 hc4;omega)
 have hkq:IntKind.i64.wrap (((N:Int) - 2).tdiv 2)=(k:Int):=by
  rw [Int.tdiv_eq_ediv_of_nonneg (by omega),g9 (by omega) (by omega),hk];omega
 refine aG<|Sr<|Dd aE<|Dd aE<|Dd (by exact dO rfl rfl rfl (g9 (by omega) (by omega)))<|Dd (by exact mF rfl rfl rfl (by decide) hkq)<|Dd (by exact g4 (id:=1101) eE rfl rfl)<|Dd (LF V4)<|Dd (by exact fP (id:=1100) rfl rfl rfl rfl rfl)<|Dd aS<|Zz<|Sq ?_;refine fU.ent (E':=[(0,.ref 1000 0 0 0),(6,.ref 1100 0 0 0)]) (H':=sH d (b6 k 0 0 false) (bJ [] 0)) (bY.wk (Ea<|Ea<|trivial) (Hc (aF _ _ rfl rfl rfl)<|Hc (aC _ _)<|Hc (aL _ _ _)<|Hc (aJ _ _)<|Hc (bD rfl rfl)<|Hc (aQ _ _ _)<|trivial) ⟨rfl,rfl,rfl,rfl,trivial⟩) ?_;obtain ⟨h1,hh1⟩:∃ b,b=jR k 1 (bT d 1):=⟨_,rfl⟩;obtain ⟨h0,hh0⟩:∃ b,b=jR k 0 (bT d 0):=⟨_,rfl⟩;rw [← hh1] at hp1;rw [← hh0] at hp0;have hHe:hd=(h1||h0):=by rw [hH,HB,uE,← hh1,← hh0]
 have hAe:a=if h1 then nP (bT d 1)else if h0 then nP (bT d 0)else 0:=by rw [hA,SJ,uE,← hh1,← hh0]
 have hNe:n=if h1 then nO (bT d 1)else if h0 then nO (bT d 0)else 0:=by rw [hNn,SI,uE,← hh1,← hh0]
 have hld:=QZ d hs hoff k a n false hbd.1 hbd.2 (by omega);refine Rg<|Dd aE<|Dd (by exact aB rfl rfl call42 rfl (hp1))<|Dd aE<|Dd eB<|Dd eB<|Dd (by exact cC (id:=7) rfl LJ rfl rfl)<|Uu (pE sizeOf70)<|Da ?_;refine kN (fun(q:Nat×Nat)=>([(0,.ref 1000 0 0 0),(6,.ref 1100 0 0 0),(7,.ref 7 0 0 0),(8,bv hd)],(7,WI q.1 q.2)::sH d (b6 k 0 0 false) (bJ [] 0))) (fun q=>hd=true→q.1=a∧q.2=n) ?_ ?_
 ·refine Sr<|Dd aE<|Dd uF<|Zz ?_;refine Cn ?_ ?_<;>intro hc5
  ·have e1:h1=false:=by have h:=hc5;simpa using h
   refine Rg<|Dd aE<|Dd (by exact aB rfl rfl call42 rfl (fE hp0 _ ⟨rfl,rfl,rfl,rfl,rfl,rfl,trivial⟩ (by simp;rfl)))<|Dd aE<|Dd eB<|Dd eB<|Uu (pE sizeOf70)<|Da ?_;refine⟨(nP (bT d 0),nO (bT d 0)),fun hh=>?_,?_⟩
   ·rw [e1] at hHe hAe hNe;rw [hHe] at hh;have e0:h0=true:=hh;rw [e0] at hAe hNe;exact⟨hAe.symm,hNe.symm⟩
   rw [show hd=h0 by rw [hHe,e1];rfl];exact(bY.wk (Ea<|Ea<|Ea<|Eb<|trivial) (Hb<|Hc (aF _ _ rfl rfl rfl)<|Hc (aC _ _)<|Hc (aL _ _ _)<|Hc (aJ _ _)<|Hc (bD rfl rfl)<|Hc (aQ _ _ _)<|trivial) ⟨rfl,rfl,rfl,rfl,trivial⟩)
  have e1:h1=true:=by have h:=hc5;simpa using h
  refine aG ?_;refine⟨(nP (bT d 1),nO (bT d 1)),fun hh=>?_,?_⟩
  ·rw [e1] at hAe hNe;exact⟨hAe.symm,hNe.symm⟩
  rw [show hd=h1 by rw [hHe,e1];rfl];exact(bY.wk (Ea<|Ea<|Ea<|Eb<|trivial) (Hb<|Hc (aF _ _ rfl rfl rfl)<|Hc (aC _ _)<|Hc (aL _ _ _)<|Hc (aJ _ _)<|Hc (bD rfl rfl)<|Hc (aQ _ _ _)<|trivial) ⟨rfl,rfl,rfl,rfl,trivial⟩)
 rintro⟨a',n'⟩ hq0;have hq0:hd=true→a'=a∧n'=n:=hq0;refine Sr<|Dd aE<|Dd (by exact aB rfl rfl sA rfl (hrd0 _ ⟨rfl,rfl,rfl,rfl,trivial⟩))<|Dd aE<|Dd eB<|Dd eB<|Dd aS<|Da ?_;refine kN (fun(_:Unit)=>([(0,.ref 1000 0 0 0),(6,.ref 1100 0 0 0),(7,.ref 7 0 0 0),(8,bv hd),(9,sv (bT d 0))],(7,WI a n)::sH d (b6 k 0 0 false) (bJ [] 0))) (fun _=>True) ?_ ?_
 ·refine Sr<|Dd aE<|Dd uF<|Zz ?_;refine Cn ?_ ?_<;>intro hc6
  ·have e1:hd=false:=by have h:=hc6;simpa using h
   rw [hHe,XZ] at e1;have ha0:a=0:=by rw [hAe,e1.1,e1.2];rfl
   have hn0:n=0:=by rw [hNe,e1.1,e1.2];rfl
   rw [ha0,hn0];refine Rg<|Dd (LF KO)<|Uu (pE sizeOf70)<|Zz ?_;exact⟨(),trivial,(bY.wk (Ea<|Ea<|Ea<|Eb<|Eb<|trivial) (Hb<|Hc (aF _ _ rfl rfl rfl)<|Hc (aC _ _)<|Hc (aL _ _ _)<|Hc (aJ _ _)<|Hc (bD rfl rfl)<|Hc (aQ _ _ _)<|trivial) ⟨rfl,rfl,rfl,rfl,trivial⟩)⟩
  have e1:hd=true:=by have h:=hc6;simpa using h
  obtain ⟨rfl,rfl⟩:=hq0 e1;refine aG ?_;exact⟨(),trivial,(bY.wk (Ea<|Ea<|Ea<|Eb<|Eb<|trivial) (Hb<|Hc (aF _ _ rfl rfl rfl)<|Hc (aC _ _)<|Hc (aL _ _ _)<|Hc (aJ _ _)<|Hc (bD rfl rfl)<|Hc (aQ _ _ _)<|trivial) ⟨rfl,rfl,rfl,rfl,trivial⟩)⟩
 rintro _ -;clear hHe hAe hNe hq0 hp1 hp0 hh1 hh0 hA hNn hH;refine kN (fun(q:bN×Nat)=>([(6,.ref 1100 0 0 0),(8,bv hd)],sH d (b6 k a n false) (bJ q.1 q.2))) (fun q=>pF d k=false∧dR q.1 q.2∧e9 q.1∧q.1.length≤46*n∧∀ x,cS q.1 x=SN d k a n x) ?_ ?_
 ·refine Sr<|Dd aE<|Dd (Q0 cQ sizeOf70)<|Dd e8<|Dd (dP kI)<|Uu (by exact GM rfl sizeOf70 rfl rfl rfl rfl rfl rfl rfl (by simp only [XF,List.length_nil];omega) (by simp only [Zl,encStr];rfl) (by simp only [Zl,encStr];rfl))<|Zz<|Sq ?_;refine fU.ent (E':=[(0,.ref 1000 0 0 0),(6,.ref 1100 0 0 0),(8,bv hd),(9,sv (bT d 0))]) (H':=sH d (b6 k a n false) (bJ [] 0)) (bY.wk (Ea<|Ea<|Eb<|Eb<|trivial) (Hc (aF _ _ rfl rfl rfl)<|Hc (aC _ _)<|Hc (aL _ _ _)<|Hc (aJ _ _)<|Hc (bD rfl rfl)<|Hc (aQ _ _ _)<|trivial) ⟨rfl,rfl,rfl,rfl,trivial⟩) ?_;obtain ⟨ok,hok⟩:∃ ok,ok=v7 d k a n:=⟨_,rfl⟩;rw [← hok] at hld hbad;clear hok;cases hd with
  | true =>
   refine Rg<|Dd aE<|Dd uF<|Dd aE<|Fo<|Fo<|Fo<|Dd gL<|Dd aE<|On aE ?_;refine IA rfl rfl rfl (by rfl) rfl (aB rfl rfl call44 rfl hld) ?_;rintro _ _ ⟨rfl,l,c,q1,q2,q3,q4,rfl⟩;refine On uF<|Dd gL<|Zz ?_;refine Cn ?_ ?_<;>intro hc7
   ·have hok:ok=false:=by have h:=hc7;simpa using h
    refine Sr<|Dd aS<|Dd aS<|Zz<|aN ?_;refine fQ (H':=(a7 d)) (.inr rfl) rfl (aH rfl) (aH rfl) (Fin.wk (by(simp;done)) (Hc (aF _ _ rfl rfl rfl)<|Hc (aC _ _)<|Hc (aL _ _ _)<|Hc (aJ _ _)<|trivial) ⟨rfl,rfl,rfl,rfl,trivial⟩) ?_;exact .inl ⟨by rw [hbad,hok];rfl,rfl,rfl⟩
   have hok:ok=true:=by have h:=hc7;simpa using h
   refine aG ?_;exact⟨(l,c),⟨by rw [hbad,hok];rfl,q1,q2,q3,q4 hok⟩,(bY.wk (Ea<|Eb<|trivial) (Hc (aF _ _ rfl rfl rfl)<|Hc (aC _ _)<|Hc (aL _ _ _)<|Hc (aJ _ _)<|Hc (bD rfl rfl)<|Hc (aQ _ _ _)<|trivial) ⟨rfl,rfl,rfl,rfl,trivial⟩)⟩
  | false =>
   cases g69:(!decide (bT d 0=ofL (zB 64)))with
   | true =>
    have hbt:pF d k=true:=by
     rw [hbad,show decide (bT d 0=zS)=false by rw [Bool.not_eq_true'] at g69;exact g69];rfl
    refine Rg<|Dd aE<|Dd uF<|Dd aE<|On aE<|On (by exact aB rfl rfl nF rfl (mR _))<|On MA<|Dd gL<|Dd aE<|Fa<|Fa<|Fa<|Dd QE<|Zz ?_;refine Cn ?_ ?_<;>intro hc8
    ·refine Sr<|Dd aS<|Dd aS<|Zz<|aN ?_;refine fQ (H':=(a7 d)) (.inr rfl) rfl (aH rfl) (aH rfl) (Fin.wk (by(simp;done)) (Hc (aF _ _ rfl rfl rfl)<|Hc (aC _ _)<|Hc (aL _ _ _)<|Hc (aJ _ _)<|trivial) ⟨rfl,rfl,rfl,rfl,trivial⟩) ?_;exact .inl ⟨hbt,rfl,rfl⟩
    ((cases hc8;done))
   | false =>
    have hz:decide (bT d 0=zS)=true:=by rw [Bool.not_eq_false'] at g69;exact g69
    rw [hz] at hbad;refine Rg<|Dd aE<|Dd uF<|Dd aE<|On aE<|On (by exact aB rfl rfl nF rfl (mR _))<|On MA<|Dd gL<|Dd aE<|Oa aE ?_;refine IA rfl rfl rfl (by assumption) rfl (aB rfl rfl call44 rfl hld) ?_;rintro _ _ ⟨rfl,l,c,q1,q2,q3,q4,rfl⟩;refine Oa uF<|Dd CM<|Zz ?_;refine Cn ?_ ?_<;>intro hc9
    ·have hok:ok=false:=by have h:=hc9;simpa using h
     refine Sr<|Dd aS<|Dd aS<|Zz<|aN ?_;refine fQ (H':=(a7 d)) (.inr rfl) rfl (aH rfl) (aH rfl) (Fin.wk (by(simp;done)) (Hc (aF _ _ rfl rfl rfl)<|Hc (aC _ _)<|Hc (aL _ _ _)<|Hc (aJ _ _)<|trivial) ⟨rfl,rfl,rfl,rfl,trivial⟩) ?_;exact .inl ⟨by rw [hbad,hok];rfl,rfl,rfl⟩
    have hok:ok=true:=by have h:=hc9;simpa using h
    refine aG ?_;exact⟨(l,c),⟨by rw [hbad,hok];rfl,q1,q2,q3,q4 hok⟩,(bY.wk (Ea<|Eb<|trivial) (Hc (aF _ _ rfl rfl rfl)<|Hc (aC _ _)<|Hc (aL _ _ _)<|Hc (aJ _ _)<|Hc (bD rfl rfl)<|Hc (aQ _ _ _)<|trivial) ⟨rfl,rfl,rfl,rfl,trivial⟩)⟩
 rintro⟨l,c⟩ ⟨hbf,q1,q2,q3,q4⟩;have hl0:([[PV.int .i64 1],[PV.int .i64 0]]:List (List PV))[0]?=some [PV.int .i64 1]:=rfl;have hl1:([[PV.int .i64 1],[PV.int .i64 0]]:List (List PV))[1]?=some [PV.int .i64 0]:=rfl;have hr1:=yG h.inv hoff k a n 1 false hd l c (by decide) (by omega) (by omega) (by omega);have hon:=S5 (place:=1) (a:=a) (n:=n) (hd:=hd) h (by omega) (by omega) (by omega);obtain ⟨x,hx⟩:∃ x,x=r5 d 1 a n hd:=⟨_,rfl⟩;rw [← hx] at hr1 hon ⊢;obtain ⟨y,hy⟩:∃ y,y=r5 x.2 0 a n hd:=⟨_,rfl⟩;rw [← hy];refine Sq<|Sr<|Dd (by exact bE [[.int .i64 1],[.int .i64 0]] rfl IN rfl rfl rfl rfl rfl (by simp))<|Dd (jW K6)<|Dd aE<|Zz<|aM ?_;refine bB (σ:=Nat) (fun i=>([(6,.ref 1100 0 0 0),(8,bv hd),(76,.pv (.sl [[.int .i64 1],[.int .i64 0]])),(77,iv 2),(78,iv (i:Int))],sH (WF d x.2 y.2 i) (b6 k a n false) (bJ l c))) (fun i=>i≤2∧(0 < i→x.1=0)∧(1 < i→y.1=0)) (fun i=>2 - i) 0 ⟨by omega,fun h=>absurd h (Nat.lt_irrefl _),fun h=>absurd h (by omega)⟩ ?_ ?_
 ·exact(bY.wk (Ea<|Eb<|Eb<|Eb<|Eb<|trivial) (Hc (aF _ _ rfl rfl rfl)<|Hc (aC _ _)<|Hc (aL _ _ _)<|Hc (aJ _ _)<|Hc (bD rfl rfl)<|Hc (aQ _ _ _)<|trivial) ⟨rfl,rfl,rfl,rfl,trivial⟩)
 rintro i ⟨hi2,hx0,hy0⟩;have h3:i=0∨i=1∨i=2:=by omega
 rcases h3 with rfl|rfl|rfl
 ·refine Sr<|Dd dG<|Zz<|Sq ?_;refine Cn ?_ ?_<;>intro hc10
  ·refine aG<|Sq<|aM<|Sr<|Dd (by exact aZ (m:=0) rfl IN rfl rfl (by decide) rfl rfl rfl)<|Dd (kG aV)<|Dd aS<|Zz<|Sr<|Dd aE<|Dd aE<|Dd aE<|Dd (by exact aB rfl rfl call45 rfl (hr1))<|Dd aS<|Zz<|Sr<|Dd aE<|Dd oZ<|Zz ?_;refine Cn ?_ ?_<;>intro hc11
   ·have he:¬ x.1=0:=by have h:=hc11;simpa using h
    refine Sr<|Dd aE<|Dd aS<|Dd aS<|Zz<|aN ?_;refine fQ (H':=(a7 x.2)) (.inr rfl) rfl (aH rfl) (aH rfl) (Fin.wk (by(simp;done)) (Hc (aF _ _ rfl rfl rfl)<|Hc (aC _ _)<|Hc (aL _ _ _)<|Hc (aJ _ _)<|trivial) ⟨rfl,rfl,rfl,rfl,trivial⟩) ?_;exact .inr (.inl ⟨hbf,he,rfl,rfl⟩)
   have he:x.1=0:=by have h:=hc11;simpa using h
   have hb:(false||!decide (x.1=0))=false:=by rw [he];rfl
   rw [hb];refine aG<|Rg<|Dd kP<|Dd aE<|Zz ?_;refine⟨1,⟨by omega,fun _=>he,fun h=>absurd h (by omega)⟩,by omega,?_⟩;exact(bY.wk (Ea<|Eb<|Eb<|Eb<|Eb<|trivial) (Hc (aF _ _ rfl rfl rfl)<|Hc (aC _ _)<|Hc (aL _ _ _)<|Hc (aJ _ _)<|Hc (bD rfl rfl)<|Hc (aQ _ _ _)<|trivial) ⟨rfl,rfl,rfl,rfl,trivial⟩)
  cases hc10
 ·have he0:=hx0 (by omega);have hon:=hon he0;have hr0:=yG hon.inv hon.off k a n 0 false hd l c (by decide) (by have:=hon.inv.n;omega) (by omega) (by omega);rw [← hy] at hr0;refine Sr<|Dd dG<|Zz<|Sq ?_;refine Cn ?_ ?_<;>intro hc12
  ·refine aG<|Sq<|aM<|Sr<|Dd (by exact aZ (m:=1) rfl IN rfl rfl (by decide) rfl rfl rfl)<|Dd (kG aV)<|Dd aS<|Zz<|Sr<|Dd aE<|Dd aE<|Dd aE<|Dd (by exact aB rfl rfl call45 rfl (hr0))<|Dd aS<|Zz<|Sr<|Dd aE<|Dd oZ<|Zz ?_;refine Cn ?_ ?_<;>intro hc13
   ·have he:¬ y.1=0:=by have h:=hc13;simpa using h
    refine Sr<|Dd aE<|Dd aS<|Dd aS<|Zz<|aN ?_;refine fQ (H':=(a7 y.2)) (.inr rfl) rfl (aH rfl) (aH rfl) (Fin.wk (by(simp;done)) (Hc (aF _ _ rfl rfl rfl)<|Hc (aC _ _)<|Hc (aL _ _ _)<|Hc (aJ _ _)<|trivial) ⟨rfl,rfl,rfl,rfl,trivial⟩) ?_;exact .inr (.inr (.inl ⟨hbf,he0,he,rfl,rfl⟩))
   have he:y.1=0:=by have h:=hc13;simpa using h
   have hb:(false||!decide (y.1=0))=false:=by rw [he];rfl
   rw [hb];refine aG<|Rg<|Dd kP<|Dd aE<|Zz ?_;refine⟨2,⟨by omega,fun _=>he0,fun _=>he⟩,by omega,?_⟩;exact(bY.wk (Ea<|Eb<|Eb<|Eb<|Eb<|trivial) (Hc (aF _ _ rfl rfl rfl)<|Hc (aC _ _)<|Hc (aL _ _ _)<|Hc (aJ _ _)<|Hc (bD rfl rfl)<|Hc (aQ _ _ _)<|trivial) ⟨rfl,rfl,rfl,rfl,trivial⟩)
  cases hc12
 have he0:=hx0 (by omega);have he1:=hy0 (by omega);refine Sr<|Dd dG<|Zz<|Sq ?_;refine Cn ?_ ?_<;>intro hc14
 ·cases hc14
 refine a6<|Sr<|Dd aE<|Dd aS<|Dd aS<|Zz<|aN ?_;refine fQ (H':=(sH y.2 (b6 k a n false) (bJ l c))) (.inr rfl) rfl (aH rfl) (aH rfl) (Fin.wk (by(simp;rfl)) (Hc (aF _ _ rfl rfl rfl)<|Hc (aC _ _)<|Hc (aL _ _ _)<|Hc (aJ _ _)<|Hc (bD rfl rfl)<|Hc (aQ _ _ _)<|trivial) ⟨rfl,rfl,rfl,rfl,trivial⟩) ?_;exact .inr (.inr (.inr ⟨hbf,he0,he1,rfl,l,c,q1,q2,q3,q4,rfl⟩))
end Go.Proofs.YtmkgeogoojcciaaGreatDoor
section
namespace Go.Abs
theorem bW.eqv {P:Program} {N:Nat} {o:Oper} {E:bI} {H H':aA} {v v':AV} (h:bW P N o E H v H') (e:v=v'):bW P N o E H v' H':=e▸h
end Go.Abs
namespace Go.Proofs.YtmkgeogoojcciaaGreatDoor
open Go.Proofs.Tryz
open Go.Abs Go.Lib
theorem FS (d:DSt) (k a n:Nat) (b:Bool) (l:bN) (c:Nat) (key:ByteArray) :
  aK Tryz.prog 24 [.ref 1100 0 0 0,sv key] (sH d (b6 k a n b) (bJ l c)) (fun r H'=>r=.tup [sv (cE l key),bv (cS l key).isSome]∧H'=sH d (b6 k a n b) (bJ l c)):=by
 have hr:(.tup [((kF (DB (bL l)) key).getD (sv sNil)),.pv (.bool (kF (DB (bL l)) key).isSome)]:AV)=.tup [sv (cE l key),bv (cS l key).isSome]:=by
  rw [AS,sN]
 refine Bd func24 rfl ntmps24<|Sr<|Dd aS<|Dd aS<|Zz<|Sq<|Sr<|Dd aE<|Dd (by exact cP rfl fT rfl rfl rfl rfl)<|Zz ?_;refine Cn ?_ ?_<;>intro hc1
 ·cases hc1
 refine aG<|Sr<|Dd aE<|Dd e8<|Dd (dP p5)<|Dd (eA bO)<|Dd aE<|Dd (by exact bW.eqv (DF (κ:=eE) (k:=key) (l:=bL l) rfl aT aI rfl rfl rfl rfl rfl dS (.inl rfl)) hr)<|Dd aE<|Dd eB<|Dd eB<|Dd aS<|Dd aS<|Zz<|Sr<|Dd aE<|Dd aE<|Dd aS<|Dd aS<|Zz<|aN ?_;refine fQ (H':=(sH d (b6 k a n b) (bJ l c))) (.inr rfl) rfl (aH rfl) (aH rfl) (Fin.wk (by(simp;done)) (Hc (aF _ _ rfl rfl rfl)<|Hc (aC _ _)<|Hc (aL _ _ _)<|Hc (aJ _ _)<|Hc (bD rfl rfl)<|Hc (aQ _ _ _)<|trivial) ⟨rfl,rfl,rfl,rfl,rfl,rfl,trivial⟩) ?_;exact Qq
theorem A2 (d:DSt) (k a n:Nat) (b:Bool) (l:bN) (c:Nat) (hst:dR l c) (hl:l.length < 1099511627776) :
  aK Tryz.prog 19 [.ref 1100 0 0 0] (sH d (b6 k a n b) (bJ l c)) (fun r H'=>r=.pv (aW (bP l))∧H'=sH d (b6 k a n b) (bJ l c)):=by
 have hcl:bF ((951,PO 1101)::sH d (b6 k a n b) (bJ l c)):=bF.app (D:=[(951,PO 1101)]) (j0.spec ⟨by
  intro r hr x hx;simp only [bx,XG] at hr;subst hr;rw [XG] at hx;subst hx;exact .mp rfl,trivial⟩) (oM _ _ _ _ _ _ _)
 have hso:=zX (L:=l.map Prod.fst) (by rw [XD];exact hl) WB ((951,PO 1101)::sH d (b6 k a n b) (bJ l c)) (HK 1101 l c _ hl hst rfl rfl (by decide)) rfl rfl rfl rfl hcl (by simp;rfl);change aK _ _ _ _ fun r H'=>r=.pv (aW (bP l))∧H'=_ at hso;refine Bd func19 rfl ntmps19<|Sr<|Dd aS<|Zz<|Sq<|Sr<|Dd aE<|Dd (by exact cP rfl fT rfl rfl rfl rfl)<|Zz ?_;refine Cn ?_ ?_<;>intro hc1
 ·cases hc1
 refine aG<|Sr<|Dd aE<|Dd e8<|Dd (dP p5)<|Dd (eA bO)<|Dd (by exact aB rfl rfl WP rfl (HJ 1101 _ rfl rfl))<|Dd (by exact aB rfl rfl BT rfl (hso))<|Dd aS<|Zz<|aN ?_;refine a8 (H':=(sH d (b6 k a n b) (bJ l c))) (.inr rfl) rfl (aH rfl) (Fin.wk (by(simp;done)) (Hc (aF _ _ rfl rfl rfl)<|Hc (aC _ _)<|Hc (aL _ _ _)<|Hc (aJ _ _)<|Hc (bD rfl rfl)<|Hc (aQ _ _ _)<|trivial) ⟨rfl,rfl,rfl,rfl,rfl,rfl,trivial⟩) ?_;exact Qq
end Go.Proofs.YtmkgeogoojcciaaGreatDoor
end
namespace Go.Proofs.YtmkgeogoojcciaaGreatDoor
open Go.Proofs.Tryz
open Go.Abs Go.Lib
theorem oP {d:DSt} {N k a n:Nat} {C:CT} (hc:Calm d N) (hI:SInv d.cells k a n C) (hN:4≤N) (hk:k=(N - 2) / 2) :
  aK Tryz.prog 12 [.ref 1000 0 0 0] (a7 d) (fun r H'=>r=.tup [.ref 1100 0 0 0,iv 0]∧∃ l c,dR l c∧e9 l∧l.length≤46*n∧(∀ x,cS l x=C x)∧H'=sH d (b6 k a n false) (bJ l c)):=by
 have hn2:=hc.inv.ok.n2;have hcn:=hc.inv.n;obtain ⟨o1,o2,o3,o4,o5,o6,o7⟩:=KI hc hI (by omega);have ho:=QH hc.on hN k a n (HB d k) hk o1.symm o2.symm rfl;have hb:pF d k=false:=by
  rw [pF,o1,o2,o4];rcases o3 with o3|o3
  ·rw [o3];rfl
  rw [o3.1,o3.2,decide_eq_true rfl];rfl
 have r1:r5 d 1 a n (HB d k)=(0,d):=by rw [r5,XC o6]
 have r0:r5 d 0 a n (HB d k)=(0,d):=by rw [r5,XC o7]
 rw [hb,r1,r0] at ho;refine ho.mono ?_;rintro r H' (⟨h,_⟩|⟨_,h,_⟩|⟨_,_,h,_⟩|⟨_,_,_,rfl,l,c,q1,q2,q3,q4,rfl⟩)
 ·cases h
 ·exact absurd rfl h
 ·exact absurd rfl h
 exact⟨rfl,l,c,q1,q2,q3,fun x=>by rw [q4,o5],rfl⟩
theorem nS {s:ByteArray} (h:eJ s=true):s.size≤200:=by rw [eJ,XM,XK] at h;have:=h.2;omega
theorem tH {l2:bN} {P:List ByteArray} (hw:bH l2 P=0) (hl:l2.length≤1000) (hP:P.length≤1000):(bC l2 (fO P)).length < 100000000:=by
 obtain ⟨k1,k2⟩:=mA hw;have hD:=rS P;have h:=nH (l:=l2) (P:=fO P) (M:=20000) (by decide) (by decide) (fun p hp=>by
  have:=k1 p hp;have:=nS this.1;omega) (fun s hs=>by
  have:=nS (k2 s (mQ.1 hs));omega) (by omega)
 have h8:(2*l2.length+2+(fO P).length)*(20000+22)≤3002*20022:=Nat.mul_le_mul (by omega) (by omega);omega
theorem ER {cells:List ByteArray} {k a n:Nat} {C:CT} (hI:SInv cells k a n C) (hk:k < 4000) {l:bN} (hn:e9 l) (hl:∀ x,cS l x=C x):(bC l []).length < 100000000000:=by
 have hw:=hI.wrong hn hl;have hlen:=hI.len hn hl;have hnk:=hI.nk;obtain ⟨k1,k2⟩:=mA hw;have h:=nH (l:=l) (P:=[]) (M:=20000) (by decide) (by decide) (fun p hp=>by
  have:=k1 p hp;have:=nS this.1;omega) (fun s hs=>by cases hs) (by rw [List.length_nil];omega)
 have h8:(2*l.length+2+([]:List ByteArray).length)*(20000+22)≤400000*20022:=Nat.mul_le_mul (by rw [List.length_nil];omega) (by omega);omega
def tZ (k n:Nat) (l2:bN) (P:List ByteArray):Int:=if u3 k n false l2 P = -1 then 0 else u3 k n false l2 P
theorem DN {C:CT} {l2:bN} {D:List ByteArray} (h:l2.length+D.length=0):oV C l2 D=C:=by have h1:l2=[]:=List.length_eq_zero_iff.1 (by omega);have h2:D=[]:=List.length_eq_zero_iff.1 (by omega);subst h1 h2;funext x;rw [oV,XB XT];show ((none:Option ByteArray).orElse fun _=>C x)=C x;rfl
theorem j7 (k n:Nat) (l2:bN) (P:List ByteArray) :
  (u3 k n false l2 P=0∧bH l2 P=0∧l2.length+(fO P).length=0)∨(u3 k n false l2 P = -1∧bH l2 P=0∧0 < l2.length+(fO P).length∧n+cT (bC l2 (fO P))≤k) ∨
  (u3 k n false l2 P=21∧bH l2 P=0∧0 < l2.length+(fO P).length∧k < n+cT (bC l2 (fO P)))∨(u3 k n false l2 P=bH l2 P∧¬ bH l2 P=0):=by
 have e:u3 k n false l2 P=if ¬ bH l2 P=0 then bH l2 P else if l2.length+(fO P).length=0 then 0 else if k < n+cT (bC l2 (fO P))then 21 else -1:=XB Bool.false_ne_true
 rw [e];by_cases h1:bH l2 P=0
 ·rw [XB (fun h=>h h1)];by_cases h2:l2.length+(fO P).length=0
  ·rw [XC h2];exact .inl ⟨rfl,h1,h2⟩
  rw [XB h2];by_cases h3:k < n+cT (bC l2 (fO P))
  ·rw [XC h3];exact .inr (.inr (.inl ⟨rfl,h1,by omega,h3⟩))
  rw [XB h3];exact .inr (.inl ⟨rfl,h1,by omega,by omega⟩)
 rw [XC h1];exact .inr (.inr (.inr ⟨rfl,h1⟩))
structure St (N k:Nat) (tl:List ByteArray) (d:DSt) (a n:Nat) (l:bN) (c:Nat) (C:CT):Prop where
 calm:Calm d N
 inv:SInv d.cells k a n C
 st:dR l c
 nd:e9 l
 kv:∀ x,cS l x=C x
 tl:d.cells.drop (2*k+2)=tl
theorem TV {cells S:List ByteArray} {p k:Nat} {x y:ByteArray} (h:p+S.length≤2*k+2):(((jV cells p S).set 1 x).set 0 y).drop (2*k+2)=cells.drop (2*k+2):=by refine List.ext_getElem? fun j=>?_;rw [List.getElem?_drop,List.getElem?_drop,List.getElem?_set_ne (by omega),List.getElem?_set_ne (by omega),hX,XB (by omega)]
theorem L6 {N k:Nat} {tl:List ByteArray} {d:DSt} {a n:Nat} {l l':bN} {c c':Nat} {C:CT} (h:St N k tl d a n l c C) (hk:k < 4000) {l2:bN} {P:List ByteArray} (hn2:e9 l2) (hw:bH l2 P=0) (h0:0 < l2.length+(fO P).length) (hfit:n+cT (bC l2 (fO P))≤k) (q1:dR l' c') (q2:e9 l') (q4:∀ x,cS l' x=oV (cS l) l2 (fO P) x) :
  (iO d k a n (bC l2 (fO P))).1=0∧St N k tl (iO d k a n (bC l2 (fO P))).2 a (n+cT (bC l2 (fO P))) l' c' (oV C l2 (fO P)):=by
 have hkn:=h.inv.kn;have hcn:=h.calm.inv.n;have hak:a*k≤k:=by
  have:=h.inv.a2;rcases(show a=0∨a=1 by omega)with e|e<;>subst e<;>omega
 obtain ⟨a1,a2,a3⟩:=rV h.calm (k:=k) (a:=a) (cn:=n) (t:=bC l2 (fO P)) (by omega) (by have:=h.calm.inv.ok.n2;omega) h.inv.a2 hfit;have hw2:bH l2 (fO P)=0:=by
  obtain ⟨k1,k2⟩:=mA hw;exact wB (fun p hp=>⟨(k1 p hp).1,fun hm=>(k1 p hp).2.1 (mQ.1 hm),(k1 p hp).2.2⟩) (fun s hs=>k2 s (mQ.1 hs))
 refine⟨a1,a2,?_,q1,q2,fun x=>?_,?_⟩
 ·rw [a3];exact ME h.inv hn2 (wV P) h0 hw2 hfit (by omega)
 ·rw [q4,oV,oV,h.kv]
 rw [a3,TV (by rw [cY];omega)];exact h.tl
theorem jH {N k:Nat} {tl:List ByteArray} {d:DSt} {a n:Nat} {l:bN} {c:Nat} {C:CT} (h:St N k tl d a n l c C) (hk:k < 4000) (l2:bN) (c2:Nat) (P:List ByteArray) (hst2:dR l2 c2) (hnd2:e9 l2) (hl2:l2.length≤1000) (hP:P.length≤1000) :
  aK Tryz.prog 14 [.ref 1100 0 0 0,.mp 950 0,.pv (aW P)] ((950,bJ l2 c2)::sH d (b6 k a n false) (bJ l c)) (fun r H'=>r=iv (tZ k n l2 P)∧∃ d' n' l' c',St N k tl d' a n' l' c' (if tZ k n l2 P=0 then oV C l2 (fO P)else C)∧n'=(if u3 k n false l2 P = -1 then n+cT (bC l2 (fO P))else n)∧H'=(950,bJ l2 c2)::sH d' (b6 k a n' false) (bJ l' c')):=by
 have hcm:=KB h.calm.inv k a n false l c l2 c2 P hk h.inv.a2 h.inv.nk (by omega) h.st h.nd hst2 hnd2 (by omega) (by omega) (fun hw=>tH hw hl2 hP);refine hcm.mono ?_;have hcs:=j7 k n l2 P;rintro r H' (⟨h1,rfl,rfl⟩|⟨h1,h2,rfl,rfl⟩|⟨h1,h2,rfl,l',c',q1,q2,q3,q4,rfl⟩)
 ·have hE:tZ k n l2 P=u3 k n false l2 P:=XB h1;rw [hE,XB h1];refine⟨rfl,d,n,l,c,?_,rfl,rfl⟩;rcases hcs with⟨e1,e2,e3⟩|⟨e1,_⟩|⟨e1,_⟩|⟨e1,e2⟩
  ·rw [XC e1,DN e3];exact h
  ·exact absurd e1 h1
  ·rw [XB (by rw [e1];decide)];exact h
  rw [XB (by rw [e1];exact e2)];exact h
 ·exfalso;rcases hcs with⟨e1,_⟩|⟨e1,e2,e3,e4⟩|⟨e1,_⟩|⟨e1,e2⟩
  ·rw [h1] at e1;cases e1
  ·exact h2 (rV h.calm (k:=k) (a:=a) (cn:=n) (t:=bC l2 (fO P)) (by have:=h.inv.kn;have:=h.calm.inv.n;omega) (by have:=h.calm.inv.ok.n2;have:=h.calm.inv.n;omega) h.inv.a2 e4).1
  ·rw [h1] at e1;cases e1
  rw [h1] at e1;have:=eM l2 P;omega
 have hE:tZ k n l2 P=0:=XC h1;rw [hE,XC rfl,XC h1];rcases hcs with⟨e1,_⟩|⟨e1,e2,e3,e4⟩|⟨e1,_⟩|⟨e1,e2⟩
 ·rw [h1] at e1;cases e1
 ·exact⟨rfl,_,_,l',c',(L6 h hk hnd2 e2 e3 e4 q1 q2 q4).2,rfl,rfl⟩
 ·rw [h1] at e1;cases e1
 rw [h1] at e1;have:=eM l2 P;omega
theorem BK {N k:Nat} {tl:List ByteArray} {d:DSt} {a n:Nat} {l:bN} {c:Nat} {C:CT} (h:St N k tl d a n l c C) (hk:k < 4000) (P:List ByteArray) (hP:P.length≤1000) :
  aK Tryz.prog 14 [.ref 1100 0 0 0,.pv .nilm,.pv (aW P)] (sH d (b6 k a n false) (bJ l c)) (fun r H'=>r=iv (tZ k n [] P)∧∃ d' n' l' c',St N k tl d' a n' l' c' (if tZ k n [] P=0 then oV C [] (fO P)else C)∧n'=(if u3 k n false [] P = -1 then n+cT (bC [] (fO P))else n)∧H'=sH d' (b6 k a n' false) (bJ l' c')):=by
 have hcm:=KC h.calm.inv k a n false l c P hk h.inv.a2 h.inv.nk (by omega) h.st h.nd (by omega) (fun hw=>tH hw (by decide) hP);refine hcm.mono ?_;have hcs:=j7 k n [] P;rintro r H' (⟨h1,rfl,rfl⟩|⟨h1,h2,rfl,rfl⟩|⟨h1,h2,rfl,l',c',q1,q2,q3,q4,rfl⟩)
 ·have hE:tZ k n [] P=u3 k n false [] P:=XB h1;rw [hE,XB h1];refine⟨rfl,d,n,l,c,?_,rfl,rfl⟩;rcases hcs with⟨e1,e2,e3⟩|⟨e1,_⟩|⟨e1,_⟩|⟨e1,e2⟩
  ·rw [XC e1,DN e3];exact h
  ·exact absurd e1 h1
  ·rw [XB (by rw [e1];decide)];exact h
  rw [XB (by rw [e1];exact e2)];exact h
 ·exfalso;rcases hcs with⟨e1,_⟩|⟨e1,e2,e3,e4⟩|⟨e1,_⟩|⟨e1,e2⟩
  ·rw [h1] at e1;cases e1
  ·exact h2 (rV h.calm (k:=k) (a:=a) (cn:=n) (t:=bC [] (fO P)) (by have:=h.inv.kn;have:=h.calm.inv.n;omega) (by have:=h.calm.inv.ok.n2;have:=h.calm.inv.n;omega) h.inv.a2 e4).1
  ·rw [h1] at e1;cases e1
  rw [h1] at e1;have:=eM [] P;omega
 have hE:tZ k n [] P=0:=XC h1;rw [hE,XC rfl,XC h1];rcases hcs with⟨e1,_⟩|⟨e1,e2,e3,e4⟩|⟨e1,_⟩|⟨e1,e2⟩
 ·rw [h1] at e1;cases e1
 ·exact⟨rfl,_,_,l',c',(L6 h hk vX e2 e3 e4 q1 q2 q4).2,rfl,rfl⟩
 ·rw [h1] at e1;cases e1
 rw [h1] at e1;have:=eM [] P;omega
def SE (k:Nat) (l:bN):Int:=if k < cT (b7 l)then 21 else 0
theorem vG {N k:Nat} {tl:List ByteArray} {d:DSt} {a n:Nat} {l:bN} {c:Nat} {C:CT} (h:St N k tl d a n l c C) (hk:k < 4000) :
  aK Tryz.prog 21 [.ref 1100 0 0 0] (sH d (b6 k a n false) (bJ l c)) (fun r H'=>r=iv (SE k l)∧∃ d' a' n',St N k tl d' a' n' l c C∧(SE k l=0→d'.cells=i7 k (b7 l) tl)∧H'=sH d' (b6 k a' n' false) (bJ l c)):=by
 have hkn:=h.inv.kn;have hcn:=h.calm.inv.n;have hlen:=h.inv.len h.nd h.kv;have hnk:=h.inv.nk;have hsc:=MI h.calm.inv k a n l c hk (by omega) h.inv.a2 h.inv.nk (by omega) h.st (by omega) (ER h.inv hk h.nd h.kv);refine hsc.mono ?_;rintro r H' (⟨h1,rfl,rfl⟩|⟨h1,rfl,a',n',q1,q2,q3,rfl⟩)
 ·have hE:SE k l=21:=XC h1;rw [hE];exact⟨rfl,d,a,n,h,fun e=>(by cases e),rfl⟩
 have hE:SE k l=0:=XB (by omega);obtain ⟨s1,s2,s3⟩:=OJ h.calm (k:=k) (a:=a) (w:=b7 l) (by omega) (by have:=h.calm.inv.ok.n2;omega) h.inv.a2 h1;obtain ⟨rfl,rfl⟩:=q3 s1;rw [hE,s1];have htl:(i7 k (b7 l) tl).drop (2*k+2)=tl:=by
  have e1:i7 k (b7 l) tl=(hS 0 0 (cT (b7 l))::hS 1 0 (cT (b7 l))::(iV 2 (b7 l) (cT (b7 l))++(zR (k - cT (b7 l))++zR k)))++tl:=by rw [i7];simp only [List.cons_append,List.append_assoc]
  rw [e1];exact List.drop_left' (by rw [XF,XF,XE,cY,XE,List.length_replicate,List.length_replicate];omega)
 rw [h.tl] at s3;have hiv:=ES h.inv h.nd h.kv h1 (by omega);rw [h.tl] at hiv;exact⟨rfl,_,0,cT (b7 l),⟨s2,by rw [s3];exact hiv,h.st,h.nd,h.kv,by rw [s3,htl]⟩,fun _=>s3,rfl⟩
theorem L4 {N:Nat} (h1:4≤N) (h2:N≤8000) {l:bN} {c:Nat} (q1:dR l c) (q2:e9 l) (q3:∀ x,cS l x=none):St N ((N - 2) / 2) ((kQ N).cells.drop (2*((N - 2) / 2)+2)) (kQ N) 0 0 l c (fun _=>none) :=⟨rU (by omega) h2,qQ h1,q1,q2,q3,rfl⟩
end Go.Proofs.YtmkgeogoojcciaaGreatDoor
namespace Go.Abs
section
section
variable {P:Program} {N:Nat} {o:Oper} {E:bI} {H:aA} {T:TypeId} {x y:Operand}
theorem eZ {e:TypeId} {kk:IntKind} {n:Int} {m sz cnt i k k2:Nat} {rows:List (List PV)} (ho:o.op=.indexAddr T x y) (hT:P.underlying T=some (.array cnt e)) (hs:∀ w,(sizeOf e).run P w=.ok sz w)
  (hx:aP E x=some (.pad rows i k)) (hy:aP E y=some (.pv (.int kk n))) (h0:0≤n) (hm:n.toNat=m) (hi:m < cnt) (hk:k+m*sz=k2):bW P N o E H (.pad rows i k2) H :=
 .of_run fun a w I ι hr he=>by
  have h:=aD he hx;have hn:=(aD he hy).int_inv;generalize hc:a.eval x=c at h;subst hk;cases h with
  | pad b off cap sz1 h0' hsz hlen cs hb hcc hp =>
   refine⟨.pointer (some ⟨b,off+i*sz1+(k+m*sz),none⟩),?_,.pad b off cap sz1 h0' hsz hlen cs hb hcc hp⟩;simp only [execOp,ho,hc,hn];have h5:n < (cnt:Int):=by omega
   simp [Instr.indexAt,run_underlying hT,Instr.sureAddr,asIntOf,h0,h5,hs,hm,Addr.add_lit,Nat.add_assoc]
end
end
end Go.Abs
namespace Go.Proofs.YtmkgeogoojcciaaGreatDoor
open Go.Proofs.Tryz
open Go.Abs Go.Lib
structure GOp where
 kind:Int
 put:List (ByteArray×ByteArray)
 drop:List ByteArray
 a:Int
 b:Int
 c:Int
def oB (p:ByteArray×ByteArray):List PV:=[.str p.1,.str p.2]
def IP (l:List (ByteArray×ByteArray)):PV:=.sl (l.map oB)
def rO (o:GOp):List PV:=[.int .i64 o.kind,IP o.put,aW o.drop,.int .i64 o.a,.int .i64 o.b,.int .i64 o.c]
def pD (l:List GOp):PV:=.sl (l.map rO)
theorem tS (l:bN):2*(bP l).length=(cL l).length:=(fM (fun x=>x) (cE l) (bP l)).symm
theorem Fin.stK {G0 H1 H':aA} {id g n:Nat} {ob:Ob} (l:List ByteArray) (hH:H1.get id=some ob) (hg:ob.g=g) (hps:ob.rows=cJ l) (hn:n=l.length) (hno:H'.get id=none) (hHO:BX H1 H' H') (hk:LH H' H1 G0) :
  Fin G0 H1 (.osl id g 0 n) H' (.pv (aW l)):=by
 subst hg hn;exact Fin.fz (id:=id) (ob:=ob) (l.map encStr) hH (hps.trans (iS l)) (.osl (kC encStr l)) hno hHO hk
theorem MZ (key value:ByteArray) (H:aA) (h:H.get 950=none):aK Tryz.prog 23 [sv key,sv value] H (fun r H'=>r=.mp 950 0∧H'=(950,bJ (dM [(key,value)]).1 (dM [(key,value)]).2)::H):=by refine Bd func23 rfl ntmps23<|Sr<|Dd aS<|Zz<|Sr<|Dd (by exact g4 (id:=950) eE rfl h)<|Dd aE<|Dd aE<|Uu (by exact BZ (κ:=eE) (.inr rfl) aT aI rfl rfl rfl rfl rfl rfl rfl rfl)<|Dd aE<|Dd aS<|Zz<|aN ?_;refine a8 (H':=((950,bJ (dM [(key,value)]).1 (dM [(key,value)]).2)::H)) (.inr rfl) rfl (aH rfl) (Fin.get' (fun j=>gE _ _ _ _ j)) ?_;exact Qq
theorem M9 (l:List (ByteArray×ByteArray)) (H:aA) (h:H.get 950=none) (hl:l.length < 1099511627776):aK Tryz.prog 15 [.pv (IP l)] H (fun r H'=>r=.mp 950 0∧H'=(950,bJ (dM l).1 (dM l).2)::H):=by
 have hml:(l.map oB).length=l.length:=XD _;refine Bd func15 rfl ntmps15<|Sr<|Dd aS<|Zz<|Sr<|Dd (by exact g4 (id:=950) eE rfl h)<|Dd aS<|Zz<|Sq<|Sr<|Dd aS<|Zz<|aM ?_;refine bB (σ:=Nat) (fun k=>([(0,.pv (IP l)),(3,.mp 950 0),(4,iv (k:Int))],(950,bJ (dM (l.take k)).1 (dM (l.take k)).2)::H)) (fun k=>k≤l.length) (fun k=>l.length - k) 0 (XU _) ?_ ?_
 ·exact E0
 intro k hk;refine Sq<|Sr<|Dd aE<|Dd aE<|Dd (jW iM)<|Dd dG<|Zz ?_;refine Cn ?_ ?_<;>intro hc1
 ·have hlt:k < l.length:=by have:=W9 hc1;omega
  obtain ⟨p,hp⟩:=aY hlt;have hi:=cG (f:=oB) hp;have hnx:dM (l.take (k+1))=(fY (dM (l.take k)).1 p.1 p.2 (dM (l.take k)).2,lB (dM (l.take k)).1 p.1 (dM (l.take k)).2):=by rw [cR hp];exact vM _ _ _
  refine aG<|Sq<|aM<|bK follows<|Cs (fun _ _=>aE)<|Cs (fun _ _=>aE)<|Cs (fun _ _=>aE)<|Cs (fun _ _=>(BY IO))<|Cs (fun H1 hH=>by exact eZ rfl fS sizeOf9 rfl rfl (by omega) (by exact XO _) (by decide) rfl)<|Cs (fun _ _=>(kG aU))<|Cs (fun _ _=>aE)<|Cs (fun _ _=>aE)<|Cs (fun _ _=>(BY IO))<|Cs (fun H1 hH=>by exact eZ rfl fS sizeOf9 rfl rfl (by omega) (by exact XO _) (by decide) rfl)<|Cs (fun _ _=>(kG aU)) ?_;refine bU (r:=⟨_,none,[_]⟩) (DStep.plain rfl (fun H1 hH=>by exact fZ (κ:=eE) (l:=bL (dM (l.take k)).1) (.inl rfl) aT aI rfl ((hH _ rfl).trans rfl) rfl rfl rfl rfl rfl (kW _ _ _ _) (mL _ _ _))) rfl ?_;refine cM<|Kr<|Rg<|Dd aE<|Dd kP<|Da ?_;refine⟨k+1,by omega,by omega,?_⟩;rw [hnx];exact bY.get' ⟨⟨_,rfl,rfl⟩,⟨_,rfl,rfl⟩,⟨_,rfl,rfl⟩,trivial⟩ (fun j=>gE _ _ _ _ j)
 have hge:k=l.length:=by have:=XA hc1;omega
 subst hge;rw [List.take_length];refine a6<|Sr<|Dd aE<|Dd aS<|Zz<|aN ?_;refine a8 (H':=((950,bJ (dM l).1 (dM l).2)::H)) (.inr rfl) rfl (aH rfl) Fin.refl ?_;exact Qq
theorem F3 (d:DSt) (k a n:Nat) (b:Bool) (l:bN) (c:Nat) (hst:dR l c) (hnd:e9 l) (hl:l.length < 1000000000) :
  aK Tryz.prog 18 [.ref 1100 0 0 0] (sH d (b6 k a n b) (bJ l c)) (fun r H'=>r=.pv (aW (cL l))∧H'=sH d (b6 k a n b) (bJ l c)):=by
 have hks:=A2 d k a n b l c hst (by omega);have hsl:=fK l;have hml:((bP l).map encStr).length=(bP l).length:=XD _;have hT:∀ i,i≤(bP l).length→(((bP l).take i).flatMap fun x=>[x,cE l x]).length=2*i:=fun i hi=>by rw [fM,XR];omega
 refine Bd func18 rfl ntmps18<|Sr<|Dd aS<|Zz<|Sr<|Dd aE<|Dd (by exact aB rfl rfl WW rfl (hks))<|Dd aS<|Zz<|Sr<|Dd (by exact iC (id:=905) (sz:=1) (ty:=9) rfl rfl rfl)<|Zz<|Sq<|Sr<|Dd aS<|Zz<|aM ?_;refine bB (σ:=Nat) (fun i=>([(0,.ref 1100 0 0 0),(3,.pv (aW (bP l))),(4,.osl 905 i 0 (2*i)),(5,iv (i:Int))],(905,⟨i,1,9,cJ (((bP l).take i).flatMap fun x=>[x,cE l x])⟩)::sH d (b6 k a n b) (bJ l c))) (fun i=>i≤(bP l).length) (fun i=>(bP l).length - i) 0 (XU _) ?_ ?_
 ·exact(bY.wk (Ea<|Eb<|Ea<|Eb<|trivial) (Hc (eX _ _)<|Hc (aF _ _ rfl rfl rfl)<|Hc (aC _ _)<|Hc (aL _ _ _)<|Hc (aJ _ _)<|Hc (by(simp;exact⟨rfl,rfl⟩))<|Hc (aQ _ _ _)<|trivial) ⟨rfl,rfl,rfl,rfl,rfl,rfl,trivial⟩)
 intro i hi;have hTi:=hT i hi;refine Sq<|Sr<|Dd aE<|Dd aE<|Dd (jW aO)<|Dd dG<|Zz ?_;refine Cn ?_ ?_<;>intro hc1
 ·have hlt:i < (bP l).length:=by have:=W9 hc1;omega
  obtain ⟨s,hs⟩:=aY hlt;have his:=cG (f:=encStr) hs;have hin:(cS l s).isSome=true:=by
   cases e:cS l s with
   | some v=>rfl
   | none=>exact absurd (j2.1 (XN hs)) (gP.1 e)
  have hg:=FS d k a n b l c s;rw [hin] at hg;have hnx:((bP l).take (i+1)).flatMap (fun x=>[x,cE l x])=(((bP l).take i).flatMap fun x=>[x,cE l x])++[s,cE l s]:=by rw [cR hs,List.flatMap_append];rfl
  refine aG<|Sq<|aM<|Sr<|Dd aE<|Dd aE<|Dd aE<|Dd (BY bR)<|Dd (kG aU)<|Dd (by exact aB rfl rfl WU rfl (fE hg _ ⟨rfl,rfl,rfl,rfl,rfl,rfl,trivial⟩ (by simp;rfl)))<|Dd aE<|Dd eB<|Dd eB<|Dd aS<|Dd aS<|Zz<|Sq<|Sr<|Dd aE<|Dd uF<|Zz ?_;refine Cn ?_ ?_<;>intro hc2
  ·cases hc2
  refine aG<|Rg<|Dd aE<|Dd aE<|Dd aE<|Dd (BY bR)<|Dd (kG aU)<|Dd aE<|Dd (by exact bE [[.str s],[.str (cE l s)]] rfl bR rfl rfl rfl rfl rfl (lO s (cE l s)))<|Dd (by exact dQ (k:=2*(i+1)) (ps:=[[.str s],[.str (cE l s)]]) rfl bR D7 rfl rfl rfl rfl rfl ((eL _).trans hTi) rfl (lO _ _) (m:=2) rfl (by omega) (by omega) (pL _ [s,cE l s]))<|Dd aS<|Zz<|Rg<|Dd aE<|Dd kP<|Da ?_;refine⟨i+1,by omega,by omega,?_⟩;rw [hnx];exact(bY.wk (Ea<|Eb<|Ea<|Eb<|trivial) (Hc (eX _ _)<|Hc (aF _ _ rfl rfl rfl)<|Hc (aC _ _)<|Hc (aL _ _ _)<|Hc (aJ _ _)<|Hc (by(simp;exact⟨rfl,rfl⟩))<|Hc (aQ _ _ _)<|trivial) ⟨rfl,rfl,rfl,rfl,rfl,rfl,trivial⟩)
 have hge:i=(bP l).length:=by have:=XA hc1;omega
 subst hge;rw [List.take_length] at hTi ⊢;refine a6<|Sr<|Dd aE<|Dd aS<|Zz<|aN ?_;have hkl:((bP l).flatMap fun x=>[x,cE l x])=cL l:=rfl;refine a8 (H':=(sH d (b6 k a n b) (bJ l c))) (.inr rfl) rfl (aH rfl) (Fin.stK (cL l) rfl rfl rfl (tS l) rfl ⟨⟨_,rfl,rfl⟩,(by exact aF _ _ rfl rfl rfl),⟨_,rfl,rfl⟩,(by exact aC _ _),⟨_,rfl,rfl⟩,(by exact aL _ _ _),⟨_,rfl,rfl⟩,(by exact aJ _ _),⟨_,rfl,rfl⟩,(by(simp;exact⟨rfl,rfl⟩)),⟨_,rfl,rfl⟩,(by exact aQ _ _ _),trivial⟩ ⟨rfl,rfl,rfl,rfl,rfl,rfl,trivial⟩) ?_;exact Qq
theorem IV (a b:List ByteArray) (H:aA) (ha:a.length < 1000000000) (hb:b.length < 1000000000):aK Tryz.prog 54 [.pv (aW a),.pv (aW b)] H (fun r H'=>r=bv (decide (a=b))∧H'=H):=by
 refine Pu ?_;have hma:(a.map encStr).length=a.length:=XD _;have hmb:(b.map encStr).length=b.length:=XD _;refine Bd func54 rfl ntmps54<|Sr<|Dd aS<|Zz<|Sq<|Sr<|Dd aE<|Dd (jW aO)<|Dd aE<|Dd (jW aO)<|Dd oZ<|Zz ?_;refine Cn ?_ ?_<;>intro hc1
 ·have hq:¬ a.length=b.length:=by have h:=hc1;simp at h;omega
  have hf:decide (a=b)=false:=decide_eq_false fun e=>hq (by rw [e]);rw [hf];exact Sr<|Dd aS<|Zz<|aN<|Rt<|Qq
 have hq:a.length=b.length:=by have h:=hc1;simp at h;omega
 refine aG<|Sq<|Sr<|Dd aS<|Zz<|aM ?_;refine bB (σ:=Nat) (fun k=>([(0,.pv (aW a)),(1,.pv (aW b)),(5,iv (k:Int))],[])) (fun k=>k≤a.length∧a.take k=b.take k) (fun k=>a.length - k) 0 ⟨XU _,rfl⟩ ?_ ?_
 ·exact Wk
 rintro k ⟨hk,hs⟩;refine Sq<|Sr<|Dd aE<|Dd aE<|Dd (jW aO)<|Dd dG<|Zz ?_;refine Cn ?_ ?_<;>intro hc2
 ·have hlt:k < a.length:=by have:=W9 hc2;omega
  obtain ⟨x,hx⟩:=aY hlt;obtain ⟨y,hy⟩:=aY (l:=b) (k:=k) (by omega);have hix:=cG (f:=encStr) hx;have hiy:=cG (f:=encStr) hy;refine aG<|Sq<|aM<|Sq<|bK follows<|Cq aE<|Cq aE<|Cq (BY bR)<|Cq (kG aU)<|Cq aE<|Cq aE<|Cq (BY bR)<|Cq (kG aU)<|Cq MA<|cM<|Kr ?_;refine Cn ?_ ?_<;>intro hc3
  ·have hne:¬ x=y:=by have h:=hc3;simpa using h
   have hf:decide (a=b)=false:=decide_eq_false fun e=>hne (by rw [e,hy] at hx;cases hx;rfl);rw [hf];exact Sr<|Dd aS<|Zz<|aN<|Rt<|Qq
  have he:x=y:=by have h:=hc3;simpa using h
  refine aG<|Rg<|Dd aE<|Dd kP<|Da ?_;refine⟨k+1,⟨by omega,?_⟩,by omega,Wk⟩;rw [cR hx,cR hy,hs,he]
 have hge:k=a.length:=by have:=XA hc2;omega
 have ht:decide (a=b)=true:=decide_eq_true (by
  rw [← List.take_length (l:=a),← hge,hs,hge,hq,List.take_length])
 rw [ht];exact a6<|Sr<|Dd aS<|Zz<|aN<|Rt<|Qq
theorem CF (a b:List ByteArray) (H:aA) (ha:a.length < 1000000000) (hb:b.length < 1000000000):aK Tryz.prog 17 [.pv (aW a),.pv (aW b)] H (fun r H'=>r=bv (decide (a=b))∧H'=H):=by refine Pu ?_;exact Bd func17 rfl ntmps17<|Sr<|Dd aS<|Zz<|Sr<|Dd aE<|Dd aE<|Dd (by exact aB rfl rfl call54 rfl (IV a b _ ha hb))<|Dd aS<|Zz<|aN<|Rt<|Qq
def NY (p:ByteArray×ByteArray):Bool:=decide (p.1.size+p.2.size≤600)
def NZ (s:ByteArray):Bool:=decide (s.size≤600)
def BF (x:GOp):Bool:=(decide (x.put.length≤6)&&decide (x.drop.length≤6))&&(x.put.all NY&&x.drop.all NZ)
def tV (l:List GOp):Bool:=l.all BF&&decide (l.length≤12)
theorem BQ {α:Type} {l:List α} {p:α→Bool} {i:Nat} {x:α} (h:l[i]?=some x) (hp:p x=false):l.all p=false:=by rw [Bool.eq_false_iff];intro ha;rw [List.all_eq_true.1 ha x (XN h)] at hp;cases hp
theorem GD {α:Type} {l:List α} {p:α→Bool} (h:∀ i x,i < l.length→l[i]?=some x→p x=true):l.all p=true:=List.all_eq_true.2 fun x hx=>by
 obtain ⟨i,hi⟩:=XY.1 hx;exact h i x (XH.1 hi).1 hi
theorem UU (l:List GOp) (H:aA) (hl:l.length < 1099511627776) (hs:∀ x∈l,x.put.length < 1099511627776∧x.drop.length < 1099511627776∧(∀ p∈x.put,p.1.size < 1099511627776∧p.2.size < 1099511627776)) :
  aK Tryz.prog 11 [.pv (pD l)] H (fun r H'=>r=bv (tV l)∧H'=H):=by
 refine Pu ?_;have hml:(l.map rO).length=l.length:=XD _;refine Bd func11 rfl ntmps11<|Sr<|Dd aS<|Zz<|Sq<|Sr<|Dd aS<|Zz<|aM ?_;refine bB (σ:=Nat) (fun i=>([(0,.pv (pD l)),(3,iv (i:Int))],[])) (fun i=>i≤l.length∧∀ j x,j < i→l[j]?=some x→BF x=true) (fun i=>l.length - i) 0 ⟨XU _,fun j x hj=>absurd hj (Nat.not_lt_zero _)⟩ ?_ ?_
 ·exact Wk
 rintro i ⟨hi,hall⟩;refine Sq<|Sr<|Dd aE<|Dd aE<|Dd (jW lJ)<|Dd dG<|Zz ?_;refine Cn ?_ ?_<;>intro hc1
 ·have hlt:i < l.length:=by have:=W9 hc1;omega
  obtain ⟨x,hx⟩:=aY hlt;have hix:=cG (f:=rO) hx;obtain ⟨s1,s2,s3⟩:=hs x (XN hx);have hmp:(x.put.map oB).length=x.put.length:=XD _;have hmd:(x.drop.map encStr).length=x.drop.length:=XD _;have bad:BF x=false→tV l=false:=fun h=>by rw [tV,BQ hx h];rfl
  have hO:BF x=((decide (x.put.length≤6)&&decide (x.drop.length≤6))&&(x.put.all NY&&x.drop.all NZ)):=rfl;refine aG<|Sq<|aM<|Sq<|Sq ?_;refine dA (t:=27) (n:=17) (X:=decide ((6:Int) < ((x.put.map oB).length:Int))||decide ((6:Int) < ((x.drop.map encStr).length:Int))) ?_ ?_
  ·all_goals refine Dd aE ?_
   all_goals refine Dd aE<|Dd (by exact aZ rfl xG rfl rfl (by omega) (by exact XO _) hix rfl)<|Dd (RH n0)<|Dd (kG jJ)<|Dd (jW iM)<|Dd yZ<|Dm ?_
   all_goals refine Sp 19 (fun h19=>?_) fun h19=>?_
   all_goals try contradiction
   all_goals first|refine Fo<|Fo<|Fo<|Fo<|Fo<|Fo<|Fo ?_|refine On aE<|On aE<|On (by exact aZ rfl xG rfl rfl (by omega) (by exact XO _) hix rfl)<|On (RH sS)<|On (kG b5)<|On (jW aO)<|On yZ ?_
   all_goals refine Dd gL<|Zz ?_
   all_goals(exact⟨⟨_,rfl,by(rw [h19];rfl)⟩,rfl,rfl,rfl⟩)
  refine Cn ?_ ?_<;>intro hc2
  ·have hq:6 < x.put.length∨6 < x.drop.length:=by have h:=hc2;rw [Bool.or_eq_true,XK,XK] at h;omega
   have hf:BF x=false:=by
    rw [hO];rcases hq with hq|hq
    ·rw [decide_eq_false (show ¬ x.put.length≤6 by omega)];rfl
    rw [decide_eq_false (show ¬ x.drop.length≤6 by omega),Bool.and_false];rfl
   rw [bad hf];exact Sr<|Dd aS<|Zz<|aN<|Rt<|Qq
  have hq:x.put.length≤6∧x.drop.length≤6:=by have h:=hc2;rw [XZ,XL,XL] at h;omega
  rw [decide_eq_true hq.1,decide_eq_true hq.2] at hO;refine aG<|Sq<|Sr<|Dd aS<|Zz<|aM ?_;refine bB (σ:=Nat) (fun k=>([(0,.pv (pD l)),(3,iv (i:Int)),(4,iv (k:Int))],[])) (fun k=>k≤x.put.length∧∀ j p,j < k→x.put[j]?=some p→NY p=true) (fun k=>x.put.length - k) 0 ⟨XU _,fun j p hj=>absurd hj (Nat.not_lt_zero _)⟩ ?_ ?_
  ·exact Wk
  rintro k ⟨hk,hpk⟩;refine Sq<|Sr<|Dd aE<|Dd aE<|Dd aE<|Dd (by exact aZ rfl xG rfl rfl (by omega) (by exact XO _) hix rfl)<|Dd (RH n0)<|Dd (kG jJ)<|Dd (jW iM)<|Dd dG<|Zz ?_;refine Cn ?_ ?_<;>intro hc3
  ·have hltk:k < x.put.length:=by have:=W9 hc3;omega
   obtain ⟨p,hp⟩:=aY hltk;have hip:=cG (f:=oB) hp;obtain ⟨t1,t2⟩:=s3 p (XN hp);refine aG<|Sq<|aM<|Sq<|bK follows<|Cq aE<|Cq aE<|Cq (by exact aZ rfl xG rfl rfl (by omega) (by exact XO _) hix rfl)<|Cq (RH n0)<|Cq (kG jJ)<|Cq aE<|Cq (by exact aZ rfl IO rfl rfl (by omega) (by exact XO _) hip rfl)<|Cq (by exact eZ rfl fS sizeOf9 rfl rfl (by omega) (by exact XO _) (by decide) rfl)<|Cq (kG aU)<|Cq (xX aI)<|Cq aE<|Cq aE<|Cq (by exact aZ rfl xG rfl rfl (by omega) (by exact XO _) hix rfl)<|Cq (RH n0)<|Cq (kG jJ)<|Cq aE<|Cq (by exact aZ rfl IO rfl rfl (by omega) (by exact XO _) hip rfl)<|Cq (by exact eZ rfl fS sizeOf9 rfl rfl (by omega) (by exact XO _) (by decide) rfl)<|Cq (kG aU)<|Cq (xX aI) ?_;refine Cq kP<|Cq yZ<|cM<|Kr ?_;refine Cn ?_ ?_<;>intro hc4
   ·have hq2:¬ p.1.size+p.2.size≤600:=by have:=W9 hc4;omega
    have hf:BF x=false:=by rw [hO,BQ hp (show NY p=false from decide_eq_false hq2)];rfl
    rw [bad hf];exact Sr<|Dd aS<|Zz<|aN<|Rt<|Qq
   have hq2:p.1.size+p.2.size≤600:=by have:=XA hc4;omega
   refine aG<|Rg<|Dd aE<|Dd kP<|Da ?_;refine⟨k+1,⟨by omega,fun j q hj hq=>?_⟩,by omega,Wk⟩;rcases Nat.lt_succ_iff_lt_or_eq.1 hj with h1|rfl
   ·exact hpk j q h1 hq
   rw [hp] at hq;cases hq;exact decide_eq_true hq2
  have hgek:k=x.put.length:=by have:=XA hc3;omega
  have hP:x.put.all NY=true:=GD fun j p hj hp=>hpk j p (by omega) hp;rw [hP] at hO;refine a6<|Sr<|Dd aS<|Zz<|aM ?_;refine bB (σ:=Nat) (fun k=>([(0,.pv (pD l)),(3,iv (i:Int)),(5,iv (k:Int))],[])) (fun k=>k≤x.drop.length∧∀ j p,j < k→x.drop[j]?=some p→NZ p=true) (fun k=>x.drop.length - k) 0 ⟨XU _,fun j p hj=>absurd hj (Nat.not_lt_zero _)⟩ ?_ ?_
  ·exact Wk
  rintro m ⟨hm,hdk⟩;refine Sq<|Sr<|Dd aE<|Dd aE<|Dd aE<|Dd (by exact aZ rfl xG rfl rfl (by omega) (by exact XO _) hix rfl)<|Dd (RH sS)<|Dd (kG b5)<|Dd (jW aO)<|Dd dG<|Zz ?_;refine Cn ?_ ?_<;>intro hc5
  ·have hltm:m < x.drop.length:=by have:=W9 hc5;omega
   obtain ⟨s,hs2⟩:=aY hltm;have hisd:=cG (f:=encStr) hs2;refine aG<|Sq<|aM<|Sr<|Dd aE<|Dd aE<|Dd (by exact aZ rfl xG rfl rfl (by omega) (by exact XO _) hix rfl)<|Dd (RH sS)<|Dd (kG b5)<|Dd aE<|Dd (by exact aZ rfl bR rfl rfl (by omega) (by exact XO _) hisd rfl)<|Dd (kG aU)<|Dd (xX aI)<|Dd yZ<|Zz ?_;refine Cn ?_ ?_<;>intro hc6
   ·have hq2:¬ s.size≤600:=by have:=W9 hc6;omega
    have hf:BF x=false:=by rw [hO,BQ hs2 (show NZ s=false from decide_eq_false hq2)];rfl
    rw [bad hf];exact Sr<|Dd aS<|Zz<|aN<|Rt<|Qq
   have hq2:s.size≤600:=by have:=XA hc6;omega
   refine aG<|Rg<|Dd aE<|Dd kP<|Da ?_;refine⟨m+1,⟨by omega,fun j q hj hq=>?_⟩,by omega,Wk⟩;rcases Nat.lt_succ_iff_lt_or_eq.1 hj with h1|rfl
   ·exact hdk j q h1 hq
   rw [hs2] at hq;cases hq;exact decide_eq_true hq2
  have hgem:m=x.drop.length:=by have:=XA hc5;omega
  have hDD:x.drop.all NZ=true:=GD fun j p hj hp=>hdk j p (by omega) hp;rw [hDD] at hO;refine a6<|Rg<|Dd aE<|Dd kP<|Da ?_;refine⟨i+1,⟨by omega,fun j y hj hy=>?_⟩,by omega,Wk⟩;rcases Nat.lt_succ_iff_lt_or_eq.1 hj with h1|rfl
  ·exact hall j y h1 hy
  rw [hx] at hy;cases hy;exact hO
 have hge:i=l.length:=by have:=XA hc1;omega
 have hA:l.all BF=true:=GD fun j x hj hx=>hall j x (by omega) hx;have hG:tV l=decide (((l.map rO).length:Int)≤12):=by
  rw [tV,hA,Bool.true_and,hml];exact decide_eq_decide.2 (by omega)
 rw [hG];exact a6<|Sr<|Dd aE<|Dd (jW lJ)<|Dd WJ<|Dd aS<|Zz<|aN<|Rt<|Qq
abbrev WN (x:GOp):AV:=.agg [iv x.kind,.pv (IP x.put),.pv (aW x.drop),iv x.a,iv x.b,iv x.c]
def LX (K:List ByteArray) (s:ByteArray):Nat:=(K.takeWhile fun x=>jU x s).length
def FO (K:List ByteArray) (s:ByteArray):List ByteArray:=K.take (LX K s)++s::K.drop (LX K s)
theorem LV {α:Type} {p:α→Bool}:∀ {l:List α} {k:Nat},k≤l.length→(∀ j x,j < k→l[j]?=some x→p x=true)→(k=l.length∨∃ x,l[k]?=some x∧p x=false)→(l.takeWhile p).length=k
 | [],k,hk,_,_=>by
  have:k=0:=by simpa using hk
  subst this;rfl
 | a::l,0,_,_,h=>by
  rcases h with h|⟨x,hx,hp⟩
  ·cases h
  cases hx;rw [List.takeWhile_cons,hp];rfl
 | a::l,k+1,hk,h1,h2=>by
  have ha:=h1 0 a (by omega) rfl;rw [List.takeWhile_cons,ha];show (List.takeWhile p l).length+1=k+1;rw [LV (k:=k) (by simpa using hk) (fun j x hj hx=>h1 (j+1) x (by omega) hx) (by
   rcases h2 with h2|⟨x,hx,hp⟩
   ·exact .inl (by simpa using h2)
   exact .inr ⟨x,hx,hp⟩)]
theorem EO {l:List ByteArray} (h:l.Pairwise (fun a b=>jU b a=false)):b4 l=l:=by
 have hp:(l.map BV).Pairwise (fun x y=>decide (x≤y)=true):=by
  rw [List.pairwise_map];refine h.imp fun {a b} h2=>decide_eq_true ?_;rw [vC] at h2;exact List.not_lt.1 (XA h2)
 rw [b4,List.mergeSort_of_pairwise hp,AU]
theorem qP {a b c:ByteArray} (h1:jU b a=false) (h2:jU c b=false):jU c a=false:=by
 cases e:jU c a with
 | false=>rfl
 | true =>
  cases e2:jU a b with
  | true=>rw [sF e e2] at h2;cases h2
  | false =>
   have:=uJ e2 h1;subst this;rw [e] at h2;cases h2
theorem JT (K:List ByteArray) (s:ByteArray):(FO K s).Perm (K++[s]):=by rw [FO];refine List.perm_middle.trans ?_;rw [List.take_append_drop];exact(List.perm_append_comm (l₁:=[s]) (l₂:=K))
theorem LW {α:Type} {p:α→Bool}:∀ (l:List α),(∀ x∈l.take (l.takeWhile p).length,p x=true)∧∀ x,(l.drop (l.takeWhile p).length)[0]?=some x→p x=false
 | []=>⟨fun x hx=>by simp at hx,fun x hx=>by simp at hx⟩
 | a::l=>by
  cases ha:p a with
  | false =>
   rw [List.takeWhile_cons,ha];exact⟨fun x hx=>by simp at hx,fun x hx=>by simp at hx;subst hx;exact ha⟩
  | true =>
   rw [List.takeWhile_cons,ha];obtain ⟨h1,h2⟩:=LW l (p:=p);refine⟨fun x hx=>?_,h2⟩;have hx:x∈a::l.take (l.takeWhile p).length:=hx;rcases XP.1 hx with rfl|hx
   ·exact ha
   exact h1 x hx
theorem C6 {K:List ByteArray} (h:K.Pairwise (fun a b=>jU b a=false)) (s:ByteArray):(FO K s).Pairwise (fun a b=>jU b a=false):=by
 obtain ⟨h1,h2⟩:=LW K (p:=fun x=>jU x s);have hd:∀ x∈K.drop (LX K s),jU x s=false:=by
  intro x hx;have hp:=h.sublist (List.drop_sublist (LX K s) K);cases e:K.drop (LX K s)with
  | nil=>rw [e] at hx;cases hx
  | cons y r =>
   have hy:jU y s=false:=h2 y (by show (K.drop (LX K s))[0]?=_;rw [e];rfl);rw [e] at hx hp;rcases XP.1 hx with rfl|hx
   ·exact hy
   exact qP hy ((List.pairwise_cons.1 hp).1 x hx)
 rw [FO,List.pairwise_append];refine⟨h.sublist (List.take_sublist _ _),List.pairwise_cons.2 ⟨hd,h.sublist (List.drop_sublist _ _)⟩,fun a ha b hb=>?_⟩;have ha2:jU a s=true:=h1 a ha;rcases XP.1 hb with rfl|hb
 ·exact uK ha2
 exact qP (uK ha2) (hd b hb)
theorem JS (M:List ByteArray) (s:ByteArray):FO (b4 M) s=b4 (M++[s]):=by rw [← EO (C6 (sE M) s)];exact nI ((JT _ _).trans ((mC M).append_right _))
abbrev VU (x:GOp):Ob:=bx 6 37 [iv x.kind,.pv (IP x.put),.pv (aW x.drop),iv x.a,iv x.b,iv x.c]
theorem JC {l:bN} {s:List Nat} (hd:s.Nodup) (hb:∀ i,i∈s→i < l.length) (ha:∀ i,i < l.length→i∈s):(hY l s).Perm (l.map Prod.fst):=CL hd (by rw [XD];exact hb) (by rw [XD];exact ha)
theorem QS (was:List ByteArray) (x:GOp) (H:aA) (hw:was.length < 1000000000) (hp:x.put.length < 1000000000) (hdl:x.drop.length < 1000000000) :
  aK Tryz.prog 16 [.pv (aW was),WN x] H (fun r H'=>r=.pv (aW (A9 was x.put x.drop))∧H'=H):=by
 refine Pu ?_;have hmw:(was.map encStr).length=was.length:=XD _;have hmp:(x.put.map oB).length=x.put.length:=XD _;have hmd:(x.drop.map encStr).length=x.drop.length:=XD _;refine Bd func16 rfl ntmps16<|Sr<|Dd (by exact fP (id:=3) rfl rfl rfl rfl rfl)<|Dd aS<|Zz<|Sr<|Dd (by exact g4 (id:=950) eE rfl rfl)<|Dd aS<|Zz<|Sq<|Sr<|Dd aS<|Zz<|aM ?_;refine bB (σ:=Nat) (fun j=>([(0,.pv (aW was)),(3,.ref 3 0 0 0),(5,.mp 950 0),(6,iv ((2*j:Nat):Int))],[(950,bJ (lA was j).1 (lA was j).2),(3,VU x)])) (fun j=>2*j≤was.length+1∧(∀ i,i < j→2*i+1 < was.length)) (fun j=>was.length - j) 0 ⟨by omega,fun i hi=>absurd hi (Nat.not_lt_zero _)⟩ ?_ ?_
 ·exact(bY.wk (Eb<|Ea<|Ea<|Eb<|trivial) (Hc (aQ _ _ _)<|Hb<|trivial) trivial)
 rintro j ⟨hj,hjj⟩;have h2j:((2*j:Nat):Int)=2*(j:Int):=by omega
 refine Sq<|Sr<|Dd aE<|Dd (by exact cF rfl rfl rfl (show IntKind.i64.wrap (((2*j:Nat):Int)+1)=((2*j+1:Nat):Int)by rw [g9 (by omega) (by omega)];omega))<|Dd aE<|Dd (jW aO)<|Dd dG<|Zz ?_;refine Cn ?_ ?_<;>intro hc1
 ·have hlt:2*j+1 < was.length:=by have:=W9 hc1;omega
  obtain ⟨s,hs⟩:=aY (l:=was) (k:=2*j) (by omega);obtain ⟨t,ht⟩:=aY hlt;have his:=cG (f:=encStr) hs;have hit:=cG (f:=encStr) ht;have hg1:was.getD (2*j) sNil=s:=by rw [List.getD_eq_getElem?_getD,hs];rfl
  have hg2:was.getD (2*j+1) sNil=t:=by rw [List.getD_eq_getElem?_getD,ht];rfl
  have hnx:lA was (j+1)=(fY (lA was j).1 s t (lA was j).2,lB (lA was j).1 s (lA was j).2):=by rw [lA,hg1,hg2]
  refine aG<|Sq<|aM<|bK follows<|Cs (fun _ _=>aE)<|Cs (fun _ _=>aE)<|Cs (fun _ _=>aE)<|Cs (fun H1 hH=>by exact aZ rfl bR rfl rfl (by omega) (by exact XO _) his rfl)<|Cs (fun _ _=>(kG aU))<|Cs (fun _ _=>aE)<|Cs (fun _ _=>aE)<|Cs (fun H1 hH=>by exact cF rfl rfl rfl (show IntKind.i64.wrap (((2*j:Nat):Int)+1)=((2*j+1:Nat):Int)by rw [g9 (by omega) (by omega)];omega))<|Cs (fun H1 hH=>by exact aZ rfl bR rfl rfl (by omega) (by exact XO _) hit rfl)<|Cs (fun _ _=>(kG aU)) ?_;refine bU (r:=⟨_,none,[_]⟩) (DStep.plain rfl (fun H1 hH=>by exact fZ (κ:=eE) (l:=bL (lA was j).1) (.inl rfl) aT aI rfl ((hH _ rfl).trans rfl) rfl rfl rfl rfl rfl (kW _ _ _ _) (mL _ _ _))) rfl ?_;refine cM<|Kr<|Rg<|Dd aE<|Dd (by exact cF rfl rfl rfl (show IntKind.i64.wrap (((2*j:Nat):Int)+2)=((2*(j+1):Nat):Int)by rw [g9 (by omega) (by omega)];omega))<|Da ?_;refine⟨j+1,⟨by omega,fun i hi=>?_⟩,by omega,?_⟩
  ·rcases Nat.lt_succ_iff_lt_or_eq.1 hi with h|rfl
   ·exact hjj i h
   exact hlt
  rw [hnx];exact(bY.wk (Eb<|Ea<|Ea<|Eb<|trivial) (Hc (aQ _ _ _)<|Hb<|trivial) trivial)
 have hge:was.length≤2*j+1:=by have:=XA hc1;omega
 have hjn:j=was.length / 2:=by
  rcases Nat.eq_zero_or_pos j with h0|h0
  ·omega
  have:=hjj (j - 1) (by omega);omega
 subst hjn;obtain ⟨m0,hm0⟩:∃ m,m=lA was (was.length / 2):=⟨_,rfl⟩;have hok0:=nU was (was.length / 2);have hml0:=uP was (was.length / 2);have hG:A9 was x.put x.drop=cL (g7 (eU m0 x.put).1 x.drop):=by rw [hm0];rfl
 rw [← hm0] at hok0 hml0;rw [← hm0,hG];clear hG hm0;refine a6<|Sq<|Sr<|Dd aS<|Zz<|aM ?_;refine bB (σ:=Nat) (fun j=>([(3,.ref 3 0 0 0),(5,.mp 950 0),(7,iv (j:Int))],[(950,bJ (eU m0 (x.put.take j)).1 (eU m0 (x.put.take j)).2),(3,VU x)])) (fun j=>j≤x.put.length) (fun j=>x.put.length - j) 0 (XU _) ?_ ?_
 ·exact(bY.wk (Ea<|Ea<|Eb<|trivial) (Hc (aQ _ _ _)<|Hb<|trivial) trivial)
 intro j hj;refine Sq<|Sr<|Dd aE<|Dd (dP n0)<|Dd (eA jJ)<|Dd (jW iM)<|Dd dG<|Zz ?_;refine Cn ?_ ?_<;>intro hc2
 ·have hlt:j < x.put.length:=by have:=W9 hc2;omega
  obtain ⟨p,hpp⟩:=aY hlt;have hip:=cG (f:=oB) hpp;have hnx:eU m0 (x.put.take (j+1))=(fY (eU m0 (x.put.take j)).1 p.1 p.2 (eU m0 (x.put.take j)).2,lB (eU m0 (x.put.take j)).1 p.1 (eU m0 (x.put.take j)).2):=by rw [cR hpp];exact vM _ _ _
  refine aG<|Sq<|aM<|bK follows<|Cs (fun _ _=>aE)<|Cs (fun _ h=>fh n0 h)<|Cs (fun _ h=>lh jJ h)<|Cs (fun _ _=>aE)<|Cs (fun H1 hH=>by exact aZ rfl IO rfl rfl (by omega) (by exact XO _) hip rfl)<|Cs (fun H1 hH=>by exact eZ rfl fS sizeOf9 rfl rfl (by omega) (by exact XO _) (by decide) rfl)<|Cs (fun _ _=>(kG aU))<|Cs (fun _ h=>fh n0 h)<|Cs (fun _ h=>lh jJ h)<|Cs (fun _ _=>aE)<|Cs (fun H1 hH=>by exact aZ rfl IO rfl rfl (by omega) (by exact XO _) hip rfl)<|Cs (fun H1 hH=>by exact eZ rfl fS sizeOf9 rfl rfl (by omega) (by exact XO _) (by decide) rfl)<|Cs (fun _ _=>(kG aU)) ?_;refine bU (r:=⟨_,none,[_]⟩) (DStep.plain rfl (fun H1 hH=>by exact fZ (κ:=eE) (l:=bL (eU m0 (x.put.take j)).1) (.inl rfl) aT aI rfl ((hH _ rfl).trans rfl) rfl rfl rfl rfl rfl (kW _ _ _ _) (mL _ _ _))) rfl ?_;refine cM<|Kr<|Rg<|Dd aE<|Dd kP<|Da ?_;refine⟨j+1,by omega,by omega,?_⟩;rw [hnx];exact(bY.wk (Ea<|Ea<|Eb<|trivial) (Hc (aQ _ _ _)<|Hb<|trivial) trivial)
 have hge2:j=x.put.length:=by have:=XA hc2;omega
 subst hge2;rw [List.take_length];have hok1:=nN x.put m0 hok0.1 hok0.2;have hml1:=sK x.put m0;obtain ⟨m1,hm1⟩:∃ m,m=eU m0 x.put:=⟨_,rfl⟩;rw [← hm1] at hok1 hml1 ⊢;clear hm1;refine a6<|Sq<|Sr<|Dd aS<|Zz<|aM ?_;refine bB (σ:=Nat) (fun j=>([(3,.ref 3 0 0 0),(5,.mp 950 0),(8,iv (j:Int))],[(950,bJ (g7 m1.1 (x.drop.take j)) m1.2),(3,VU x)])) (fun j=>j≤x.drop.length) (fun j=>x.drop.length - j) 0 (XU _) ?_ ?_
 ·exact(bY.wk (Ea<|Ea<|Eb<|trivial) (Hc (aQ _ _ _)<|Hb<|trivial) trivial)
 intro j hj2;refine Sq<|Sr<|Dd aE<|Dd (dP sS)<|Dd (eA b5)<|Dd (jW aO)<|Dd dG<|Zz ?_;refine Cn ?_ ?_<;>intro hc3
 ·have hlt:j < x.drop.length:=by have:=W9 hc3;omega
  obtain ⟨s,hs⟩:=aY hlt;have hi:=cG (f:=encStr) hs;refine aG<|Sq<|aM<|Rg<|Dd aE<|Dd (dP sS)<|Dd (eA b5)<|Dd aE<|Dd (by exact aZ rfl bR rfl rfl (by omega) (by exact XO _) hi rfl)<|Dd (kG aU)<|Uu (by exact wJ (κ:=eE) (l:=bL (g7 m1.1 (x.drop.take j))) rfl aT aI rfl rfl rfl rfl rfl rfl (uU s _))<|Zz<|Rg<|Dd aE<|Dd kP<|Da ?_;refine⟨j+1,by omega,by omega,?_⟩;rw [sV hs];exact(bY.wk (Ea<|Ea<|Eb<|trivial) (Hc (aQ _ _ _)<|Hb<|trivial) trivial)
 have hge3:j=x.drop.length:=by have:=XA hc3;omega
 subst hge3;rw [List.take_length];have hok2:=uZ x.drop _ _ hok1.1 hok1.2;have hml2:=DK x.drop m1.1;obtain ⟨m,hm⟩:∃ m,m=g7 m1.1 x.drop:=⟨_,rfl⟩;obtain ⟨c,hc⟩:∃ c,c=m1.2:=⟨_,rfl⟩;rw [← hm,← hc] at hok2;rw [← hm] at hml2 ⊢;rw [← hc];have hst:=hok2.1;have hmlen:m.length < 4000000000:=by omega
 clear hm hc;refine a6<|Sr<|Dd aS<|Zz<|Sq<|Sr<|Dd aE<|Dd (by exact uV (q:=946) (κ:=eE) (l:=bL m) rfl aT rfl rfl rfl rfl rfl rfl)<|Zz<|aM ?_;refine bB (σ:=List Nat) (fun s=>([(5,.mp 950 0),(9,.pv (aW (b4 (hY m s)))),(67,.it 946 0)],[(946,uT 950 m c s),(950,bJ m c)])) (fun s=>s.Nodup∧∀ i,i∈s→i < m.length) (fun s=>m.length - s.length) [] ⟨List.nodup_nil,by simp⟩ ?_ ?_
 ·rw [show b4 (hY m [])=[] from List.length_eq_zero_iff.1 (by rw [dJ];rfl)];exact(bY.wk (Ea<|Eb<|Ea<|trivial) (Hc (kV rfl _ _ _)<|Hc (aQ _ _ _)<|trivial) trivial)
 rintro s ⟨hd,hb⟩;have hsl:s.length≤m.length:=gO _ _ hd hb;refine Sq<|Rg ?_;refine iJ rfl rfl (A8 (κ:=eE) (l:=bL m) rfl rfl rfl rfl rfl rfl rfl rfl rfl (XJ _) (XJ _)) ?_;rintro _ _ (⟨rfl,rfl,hn0⟩|⟨hni,hnp,hn1,hn2,rfl,rfl⟩)
 ·refine Dd eB<|Zz<|Sq ?_;refine Cn ?_ ?_<;>intro hc4
  ·cases hc4
  have hall:∀ i,i < m.length→i∈s:=fun i hi=>by
   have hq:(bL m)[i]?=some ((m[i]).1,sv (m[i]).2.1,(m[i]).2.2):=by rw [bL,XX,XI hi];rfl
   have:=hn0 _ (XN hq);obtain ⟨j,hj,e⟩:=List.mem_map.1 this;have e2:gH m j=gH m i:=by
    rw [e,gH,XI hi];rfl
   have:=zW hst (hb j hj) hi e2
   rwa [this] at hj
  have hK:b4 (hY m s)=bP m:=nI (JC hd hb hall);rw [hK];have hsl2:=fK m;have hmt:((bP m).map encStr).length=(bP m).length:=XD _;have hT:∀ i,i≤(bP m).length→(((bP m).take i).flatMap fun x=>[x,cE m x]).length=2*i:=fun i hi=>by rw [fM,XR];omega
  refine a6<|Sr<|Dd (by exact iC (id:=905) (sz:=1) (ty:=9) rfl rfl rfl)<|Zz<|Sq<|Sr<|Dd aS<|Zz<|aM ?_;refine bB (σ:=Nat) (fun i=>([(5,.mp 950 0),(9,.pv (aW (bP m))),(13,.osl 905 i 0 (2*i)),(14,iv (i:Int))],[(905,⟨i,1,9,cJ (((bP m).take i).flatMap fun x=>[x,cE m x])⟩),(950,bJ m c)])) (fun i=>i≤(bP m).length) (fun i=>(bP m).length - i) 0 (XU _) ?_ ?_
  ·exact(bY.wk (Ea<|Eb<|Ea<|Eb<|trivial) (Hc (eX _ _)<|Hc (aQ _ _ _)<|trivial) trivial)
  intro i hi;have hTi:=hT i hi;refine Sq<|Sr<|Dd aE<|Dd aE<|Dd (jW aO)<|Dd dG<|Zz ?_;refine Cn ?_ ?_<;>intro hc5
  ·have hlt:i < (bP m).length:=by have:=W9 hc5;omega
   obtain ⟨s,hs⟩:=aY hlt;have his:=cG (f:=encStr) hs;have hnx:((bP m).take (i+1)).flatMap (fun x=>[x,cE m x])=(((bP m).take i).flatMap fun x=>[x,cE m x])++[s,cE m s]:=by rw [cR hs,List.flatMap_append];rfl
   refine aG<|Sq<|aM<|bK follows<|Cs (fun _ _=>aE)<|Cs (fun _ _=>aE)<|Cs (fun _ _=>aE)<|Cs (fun H1 hH=>by exact aZ rfl bR rfl rfl (by omega) (by exact XO _) his rfl)<|Cs (fun _ _=>(kG aU))<|Cs (fun _ _=>aE)<|Cs (fun _ _=>aE)<|Cs (fun _ _=>aE)<|Cs (fun H1 hH=>by exact aZ rfl bR rfl rfl (by omega) (by exact XO _) his rfl)<|Cs (fun _ _=>(kG aU))<|Cs (fun H1 hH=>by exact MX (l:=m) (k:=s) rfl aT aI rfl ((hH _ rfl).trans rfl) rfl rfl rfl dS (.inl rfl))<|Cs (fun H1 hH=>by exact bE [[.str s],[.str (cE m s)]] rfl bR rfl rfl rfl rfl rfl (lO s (cE m s))) ?_;refine bU (r:=⟨_,none,[_]⟩) (DStep.plain rfl (fun H1 hH=>by exact dQ (k:=2*(i+1)) (ps:=[[.str s],[.str (cE m s)]]) rfl bR D7 rfl ((hH _ rfl).trans rfl) rfl rfl rfl ((eL _).trans hTi) rfl (lO _ _) (m:=2) rfl (by omega) (by omega) (pL _ [s,cE m s]))) rfl ?_;refine Cs (fun _ _=>aS)<|cM<|Kr<|Rg<|Dd aE<|Dd kP<|Da ?_;refine⟨i+1,by omega,by omega,?_⟩;rw [hnx];exact(bY.wk (Ea<|Eb<|Ea<|Eb<|trivial) (Hc (eX _ _)<|Hc (aQ _ _ _)<|trivial) trivial)
  have hge:i=(bP m).length:=by have:=XA hc5;omega
  subst hge;rw [List.take_length];refine a6<|Sr<|Dd aE<|Dd aS<|Zz<|aN ?_;refine a8 (H':=[]) (.inr rfl) rfl (aH rfl) (Fin.st1 (cL m) rfl rfl rfl (tS m)) ?_;exact Qq
 obtain ⟨p,hp,rfl⟩:=oQ hn1;have hlt:hni < m.length:=(XH.1 hp).1;have hst2:gH m hni=p.2.2:=by rw [gH,hp];rfl
 have hn3:hni∉s:=fun hm=>hn2 (List.mem_map.2 ⟨hni,hm,hst2⟩);have hb2:∀ i,i∈s++[hni]→i < m.length:=fun i hi=>by
  rcases List.mem_append.1 hi with h|h
  ·exact hb i h
  rw [XG] at h;omega
 have hd2:(s++[hni]).Nodup:=List.nodup_append.2 ⟨hd,by simp,fun a ha b hb e=>by rw [XG] at hb;subst hb;subst e;exact hn3 ha⟩;have hlen:=gO _ _ hd2 hb2;rw [XE,List.length_singleton] at hlen;have hit:uT 950 m c (s++[hni])=⟨0,0,0,dV (.mp 950 0) c c (s.map (gH m)++[p.2.2])⟩:=by rw [uT,List.map_append,List.map_cons,List.map_nil,hst2]
 have hins:FO (b4 (hY m s)) p.1=b4 (hY m (s++[hni])):=by rw [vO hp,JS]
 have hKl:(b4 (hY m s)).length=s.length:=by rw [dJ,yN]
 obtain ⟨K,hK⟩:∃ K,K=b4 (hY m s):=⟨_,rfl⟩;rw [← hK] at hins hKl;rw [← hK];have hmK:(K.map encStr).length=K.length:=XD _;have htw:LX K p.1≤K.length:=(List.takeWhile_sublist _).length_le;refine Dd eB<|Zz<|Sq ?_;refine Cn ?_ ?_<;>intro hc6
 ·refine aG<|aM<|Sr<|Dd (by exact uW (κ:=eE) (seen:=s.map (gH m)) (p:=(p.1,sv p.2.1,p.2.2)) (since:=c) rfl rfl rfl rfl rfl rfl rfl rfl rfl hn1)<|Dd eB<|Dd aS<|Zz<|Sr<|Da ?_;refine kN (fun(_:Unit)=>([(5,.mp 950 0),(9,.pv (aW K)),(10,sv p.1),(11,iv (LX K p.1:Int)),(67,.it 946 0)],[(946,uT 950 m c (s++[hni])),(950,bJ m c)])) (fun _=>True) ?_ ?_
  ·refine aM ?_;refine bB (σ:=Nat) (fun k=>([(5,.mp 950 0),(9,.pv (aW K)),(10,sv p.1),(11,iv (k:Int)),(67,.it 946 0)],[(946,uT 950 m c (s++[hni])),(950,bJ m c)])) (fun k=>k≤K.length∧∀ j y,j < k→K[j]?=some y→jU y p.1=true) (fun k=>K.length - k) 0 ⟨XU _,fun j y hj=>absurd hj (Nat.not_lt_zero _)⟩ ?_ ?_
   ·exact bY.get' ⟨⟨_,rfl,rfl⟩,⟨_,rfl,rfl⟩,⟨_,rfl,rfl⟩,⟨_,rfl,rfl⟩,⟨_,rfl,rfl⟩,trivial⟩ (fun j=>by rw [hit];exact gE 946 _ (uT 950 m c s) [(950,bJ m c)] j)
   rintro k ⟨hk,hkk⟩;by_cases hkl:k < K.length
   ·have g76:decide ((k:Int) < ((K.map encStr).length:Int))=true:=decide_eq_true (by omega);obtain ⟨y,hy⟩:=aY hkl;have hiy:=cG (f:=encStr) hy;refine Sq<|Sr<|Dd aE<|Dd aE<|Dd (jW aO)<|Dd dG<|Dd aE<|Oa aE<|Oa aE<|Oa (by exact aZ rfl bR rfl rfl (by omega) (by exact XO _) hiy rfl)<|Oa (kG aU)<|Oa aE<|Oa (by exact CR rfl rfl rfl)<|Dd QE<|Zz ?_;refine Cn ?_ ?_<;>intro hc7
    ·have hs:jU y p.1=true:=hc7;refine aG<|aM<|Rg<|Dd aE<|Dd kP<|Da ?_;refine⟨k+1,⟨by omega,fun j z hj hz=>?_⟩,by omega,(bY.wk (Ea<|Eb<|Eb<|Eb<|Ea<|trivial) (Hc (kV rfl _ _ _)<|Hc (aQ _ _ _)<|trivial) trivial)⟩;rcases Nat.lt_succ_iff_lt_or_eq.1 hj with h1|rfl
     ·exact hkk j z h1 hz
     rw [hy] at hz;cases hz;exact hs
    have hs:jU y p.1=false:=hc7;have e:LX K p.1=k:=LV hk hkk (.inr ⟨y,hy,hs⟩);refine a6 ?_;rw [e];exact⟨(),trivial,(bY.wk (Ea<|Eb<|Eb<|Eb<|Ea<|trivial) (Hc (kV rfl _ _ _)<|Hc (aQ _ _ _)<|trivial) trivial)⟩
   have g76:decide ((k:Int) < ((K.map encStr).length:Int))=false:=decide_eq_false (by omega);have e:LX K p.1=k:=LV hk hkk (.inl (by omega));refine Sq<|Sr<|Dd aE<|Dd aE<|Dd (jW aO)<|Dd dG<|Dd aE<|Fa<|Fa<|Fa<|Fa<|Fa<|Fa<|Dd CM<|Zz ?_;refine Cn ?_ ?_<;>intro hc8
   ·((cases hc8;done))
   refine a6 ?_;rw [e];exact⟨(),trivial,(bY.wk (Ea<|Eb<|Eb<|Eb<|Ea<|trivial) (Hc (kV rfl _ _ _)<|Hc (aQ _ _ _)<|trivial) trivial)⟩
  rintro _ -;obtain ⟨k,hkd⟩:∃ k,k=LX K p.1:=⟨_,rfl⟩;have hins2:K.take k++p.1::K.drop k=b4 (hY m (s++[hni])):=by rw [← hins,FO,hkd]
  rw [← hkd] at htw ⊢;clear hkd;refine Sr<|Dd aE<|Dd (by exact eW (id:=930) rfl bR rfl rfl rfl rfl (show ∀ r∈cJ [p.1],r.length=1 from by intro r hr;rw [XG.1 hr];rfl) rfl)<|Dd aE<|Dd aE<|Dd (by exact fD (l:=k) (h:=(K.map encStr).length) (rows':=(K.drop k).map encStr) rfl bR rfl (dW K) rfl rfl (by omega) (XJ _) (by rw [List.take_length,List.map_drop]))<|Dd (by exact dQ (ps:=(K.drop k).map encStr) rfl bR D7 rfl rfl rfl rfl rfl rfl rfl (dW _) (m:=(K.drop k).length) (XD _) (by rw [XS];omega) rfl (j9 [p.1] _))<|Da ?_;refine fU.ent (bY.fzG (id:=930) (E':=[(5,.mp 950 0),(9,.pv (aW K)),(11,iv (k:Int)),(12,.pv (aW (p.1::K.drop k))),(67,.it 946 0)]) (H':=[(946,uT 950 m c (s++[hni])),(950,bJ m c)]) ((p.1::K.drop k).map encStr) rfl (iS _) ?_ rfl ?_ ?_) ?_
  ·intro q hq;simp only [XP,XT,or_false] at hq;rcases hq with rfl|rfl|rfl|rfl|rfl
   ·exact⟨_,rfl,.same (by simp;rfl)⟩
   ·exact⟨_,rfl,.same (by simp)⟩
   ·exact⟨_,rfl,.same (by simp)⟩
   ·exact⟨_,rfl,.osl (by rw [XV,List.drop_zero,List.take_of_length_le (by rw [XD,XF];omega)])⟩
   exact⟨_,rfl,.same (by simp;rfl)⟩
  ·exact⟨⟨_,rfl,rfl,rfl,rfl,cB (kV rfl _ _ _)⟩,⟨_,rfl,rfl,rfl,rfl,cB (aQ _ _ _)⟩,trivial⟩
  ·exact trivial
  refine Rg<|Dd (by exact eW (id:=931) rfl bR rfl rfl rfl rfl (show ∀ r∈cJ [],r.length=1 from by intro r hr;cases hr) rfl)<|Dd aE<|Dd aE<|Dd (by exact fD (l:=0) (h:=k) (rows':=(K.take k).map encStr) rfl bR rfl (dW K) rfl rfl (XU _) (by omega) (by rw [List.drop_zero,List.map_take]))<|Dd (by exact dQ (ps:=(K.take k).map encStr) rfl bR D7 rfl rfl rfl rfl rfl rfl rfl (dW _) (m:=(K.take k).length) (XD _) (by rw [XR];omega) rfl (j9 [] _))<|Dd aE<|Dd (by exact dQ (ps:=(p.1::K.drop k).map encStr) rfl bR D7 rfl rfl rfl rfl rfl (by rw [eL];show (K.take k).length=0+(K.take k).length;omega) rfl (dW _) (m:=(p.1::K.drop k).length) (XD _) (by rw [XF,XS,XR];omega) rfl (j9 _ _))<|Da ?_;refine⟨s++[hni],⟨hd2,hb2⟩,by rw [XE,List.length_singleton];omega,?_⟩;dsimp only;rw [← hins2];refine bY.fzG (id:=931) ((K.take k++p.1::K.drop k).map encStr) rfl (iS _) ?_ rfl ?_ ?_
  ·intro q hq;simp only [XP,XT,or_false] at hq;rcases hq with rfl|rfl|rfl
   ·exact⟨_,rfl,.same (by simp;rfl)⟩
   ·exact⟨_,rfl,.osl (by rw [XV,List.drop_zero,List.take_of_length_le (by rw [XD,XE];omega)])⟩
   exact⟨_,rfl,.same (by simp;rfl)⟩
  ·exact⟨⟨_,rfl,rfl,rfl,rfl,cB (kV rfl _ _ _)⟩,⟨_,rfl,rfl,rfl,rfl,cB (aQ _ _ _)⟩,trivial⟩
  exact trivial
 cases hc6
end Go.Proofs.YtmkgeogoojcciaaGreatDoor
