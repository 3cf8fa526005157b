/-
  Parts of the proof: rules of an abstract program logic, contracts of functions, plain laws. Conditions: each theorem's own.
-/
import Derived.Test.YtmkgeogoojcciaaGreatDoorKS4M7
set_option linter.unusedVariables false
set_option linter.unusedSimpArgs false
set_option maxRecDepth 100000
set_option maxHeartbeats 8000000
namespace Go.Proofs
theorem R8:type_of% Tryz.call12:=Tryz.call12
theorem Y6:type_of% Tryz.call13:=Tryz.call13
theorem lS:type_of% Tryz.call14:=Tryz.call14
theorem D0:type_of% Tryz.call23:=Tryz.call23
theorem Y5:type_of% Tryz.call24:=Tryz.call24
theorem R7:type_of% Tryz.call25:=Tryz.call25
theorem R6:type_of% Tryz.call26:=Tryz.call26
theorem R3:type_of% Tryz.func14:=Tryz.func14
theorem NN:type_of% Tryz.ntmps14:=Tryz.ntmps14
end Go.Proofs
namespace Go.Proofs.YtmkgeogoojcciaaGreatDoor
open Go.Proofs.Tryz
open Go.Abs Go.Lib
abbrev WL (P:List ByteArray):Ob:=bx 1 31 [.pv (aY P)]
theorem AT (P:List ByteArray) (H:aA) (h1:H.get 951=none) :
  aJ Tryz.prog 49 [.pv (aY P)] H (fun r H'=>r=.clo 97 [.ref 951 0 0 0]∧H'=(951,WL P)::H):=by
 refine Bd func49 rfl ntmps49<|Sr<|Dd (by exact gN (id:=951) rfl rfl rfl rfl h1)<|Dd aS<|Zz<|Sr<|Dd (by exact eY rfl rfl)<|Dd aS<|Zz<|aN ?_;refine bD (H':=((951,WL P)::H)) (.inr rfl) rfl (aI rfl) Fin.refl ?_;exact Qq
def NP (i:Nat):Nat:=if i=901 then 945 else if i=945 then 901 else i
theorem SL (i:Nat):NP (NP i)=i:=by
 unfold NP
 repeat' split
 all_goals omega
theorem OT (ρ:Nat→Nat) (l:List ByteArray):(iL l).map (iA ρ)=iL l:=by
 have:∀ r∈iL l,iA ρ r=r:=by
  intro r hr;obtain ⟨s,_,rfl⟩:=List.mem_map.1 hr;rfl
 rw [List.map_congr_left this,List.map_id']
abbrev cO (g:Nat) (l:List ByteArray):Ob:=⟨g,1,9,iL l⟩
theorem HE (ρ:Nat→Nat) (g:Nat) (l:List ByteArray):iP ρ (cO g l)=cO g l:=by show (⟨g,1,9,(iL l).map (iA ρ)⟩:Ob)=_;rw [OT]
theorem M0 (id g:Nat) (l:List ByteArray):bG [(id,cO g l)]:=bG.of (fun p hp=>by
 rw [ZO] at hp;subst hp;exact N9 _ _)
theorem zE (L:List ByteArray) (g:Nat) (H:aA) (h1:H.get 945=some (cO g L)) (hl:L.length < 1099511627776) :
  aJ Tryz.prog 47 [.osl 945 g 0 L.length] H (fun r H'=>r=.osl 945 g 0 (bY L).length∧H'=[(945,cO g (bY L++List.replicate (L.length - (bY L).length) sNil)),(945,cO g L)]++H):=by
 have h0:=B0 L g [(901,cO g L)] rfl hl;have e1:jG NP [(901,cO g L)]=[(945,cO g L)]:=by
  show [(NP 901,iP NP (cO g L))]=_;rw [HE];rfl
 have e2:jG NP [(901,cO g (bY L++List.replicate (L.length - (bY L).length) sNil)),(901,cO g L)]=[(945,cO g (bY L++List.replicate (L.length - (bY L).length) sNil)),(945,cO g L)]:=by
  show [(NP 901,iP NP (cO g (bY L++List.replicate (L.length - (bY L).length) sNil))),(NP 901,iP NP (cO g L))]=_;rw [HE,HE];rfl
 have h2:=aJ.ren (ρ:=NP) SL h0 (args':=[.osl 945 g 0 L.length]) (r':=.osl 945 g 0 (bY L).length) rfl e1 rfl e2;refine h2.frame (B8 h1) (M0 _ _ _) (by simp;rfl) (fun id h=>.inl ?_);simp only [aA.get] at h ⊢;cases e:Nat.beq 945 id with
 | true=>rfl
 | false=>rw [e] at h;cases h
def fA (P:List ByteArray):List ByteArray:=bY (cQ P)
def wC (k n:Nat) (b:Bool) (l2:bT) (P:List ByteArray):Int:=if b then 12 else if ¬ bE l2 P=0 then bE l2 P else if l2.length+(fA P).length=0 then 0 else if k < n+cR (aZ l2 (fA P))then 21 else -1
theorem fL (l2:bT) (P:List ByteArray):bE l2 P=0∨bE l2 P=1∨bE l2 P=2:=by
 rw [bE]
 split
 ·exact .inr (.inl rfl)
 split
 ·exact .inr (.inr rfl)
 exact .inl rfl
theorem qL (P:List ByteArray):(fA P).length≤P.length:=by have h1:=BL (cQ P);rw [eV] at h1;exact h1
theorem mB {P:List ByteArray} {x:ByteArray}:x∈fA P↔x∈P:=pN.trans (rG P).mem_iff
theorem zF (P:List ByteArray):AM (fA P):=tT (A0 P)
theorem QO (P R:List ByteArray):(((bY (cQ P)++R).map encStr).take (0+(bY (cQ P)).length)).drop 0=(fA P).map encStr:=by rw [List.drop_zero,Z4,List.map_append];exact List.take_left' (ZL _)
theorem MS {d:DSt} {N m:Nat} (h:DInv d N m) (k a n:Nat) (b:Bool) (l:bT) (c:Nat) (l2:bT) (c2:Nat) (P:List ByteArray) (hk:k < 4000) (ha:a < 2) (hn:n≤k) (hm:m≤10) (hst:eA l c) (hnd:fU l) (hst2:eA l2 c2) (hnd2:fU l2) (hl2:l2.length < 1000000) (hP:P.length < 1000000) (hsz:bE l2 P=0→(aZ l2 (fA P)).length < 100000000) :
  aJ Tryz.prog 14 [.ref 1100 0 0 0,.mp 950 0,.pv (aY P)] ((950,bK l2 c2)::sH d (cC k a n b) (bK l c)) (fun r H'=>(¬ wC k n b l2 P = -1∧r=iv (wC k n b l2 P)∧H'=(950,bK l2 c2)::sH d (cC k a n b) (bK l c)) ∨
   (wC k n b l2 P = -1∧¬ (jH d k a n (aZ l2 (fA P))).1=0∧r=iv (jH d k a n (aZ l2 (fA P))).1∧H'=(950,bK l2 c2)::sH (jH d k a n (aZ l2 (fA P))).2 (cC k a n true) (bK l c)) ∨
   (wC k n b l2 P = -1∧(jH d k a n (aZ l2 (fA P))).1=0∧r=iv 0∧∃ l' c',eA l' c'∧fU l'∧l'.length≤l.length+l2.length∧(∀ x,cU l' x=pM (cU l) l2 (fA P) x)∧H'=(950,bK l2 c2)::sH (jH d k a n (aZ l2 (fA P))).2 (cC k a (n+cR (aZ l2 (fA P))) false) (bK l' c'))):=by
 have hR:wC k n b l2 P=if b then 12 else if ¬ bE l2 P=0 then bE l2 P else if l2.length+(fA P).length=0 then 0 else if k < n+cR (aZ l2 (fA P))then 21 else -1:=rfl
 have hwr:=fun H hH=>I7 l2 c2 P hst2 (by omega) (by omega) H hH;have hrange:=fL l2 P;have hDl:=qL P;cases b with
 | true =>
  rw [ZK rfl] at hR;rw [hR];refine Bd R3 rfl NN<|Sr<|Dd aS<|Zz<|Sq<|aP<|Sr<|Dd aF<|Dd (by exact cT rfl fY rfl rfl rfl rfl)<|Da ?_;refine Cn ?_ ?_<;>intro hc1
  ·cases hc1
  refine Sr<|Dd aF<|Dd fH<|Dd (dX jR)<|Dd (eQ dM)<|Da ?_;refine Cn ?_ ?_<;>intro hc2
  ·refine Sr<|Dd aS<|Zz<|aN ?_;refine bD (H':=((950,bK l2 c2)::sH d (cC k a n true) (bK l c))) (.inr rfl) rfl (aI rfl) (Fin.wk (by(simp;done)) (Hc (aT _ _ _)<|Hc (aG _ _ rfl rfl rfl)<|Hc (aC _ _)<|Hc (aM _ _ _)<|Hc (aL _ _)<|Hc (by(simp;exact⟨rfl,rfl⟩))<|Hc (aT _ _ _)<|trivial) ⟨rfl,rfl,rfl,rfl,rfl,rfl,rfl,trivial⟩) ?_;exact .inl ⟨by decide,rfl,rfl⟩
  cases hc2
 | false =>
  rw [ZJ (by decide)] at hR;refine Bd R3 rfl NN<|Sr<|Dd aS<|Zz<|Sq<|aP<|Sr<|Dd aF<|Dd (by exact cT rfl fY rfl rfl rfl rfl)<|Da ?_;refine Cn ?_ ?_<;>intro hc1
  ·cases hc1
  refine Sr<|Dd aF<|Dd fH<|Dd (dX jR)<|Dd (eQ dM)<|Da ?_;refine Cn ?_ ?_<;>intro hc2
  ·cases hc2
  refine aK<|Sq<|Sr<|Dd aF<|Dd aF<|Dd (by exact aB rfl rfl uK rfl (hwr _ rfl))<|Dd aS<|Zz<|Sr<|Dd aF<|Dd uG<|Zz ?_;refine Cn ?_ ?_<;>intro hc3
  ·have hq:¬ bE l2 P=0:=by have h:=hc3;simpa using h
   rw [ZK hq] at hR;rw [hR];refine Sr<|Dd aF<|Dd aS<|Zz<|aN ?_;refine bD (H':=((950,bK l2 c2)::sH d (cC k a n false) (bK l c))) (.inr rfl) rfl (aI rfl) (Fin.wk (by(simp;done)) (Hc (aT _ _ _)<|Hc (aG _ _ rfl rfl rfl)<|Hc (aC _ _)<|Hc (aM _ _ _)<|Hc (aL _ _)<|Hc (by(simp;exact⟨rfl,rfl⟩))<|Hc (aT _ _ _)<|trivial) ⟨rfl,rfl,rfl,rfl,rfl,rfl,rfl,trivial⟩) ?_;exact .inl ⟨by omega,rfl,rfl⟩
  have hq:bE l2 P=0:=by have h:=hc3;simpa using h
  rw [ZJ (fun h=>h hq)] at hR;have hsz:=hsz hq;have hso:=JB (L:=P) (by omega) call97 ((951,WL P)::(950,bK l2 c2)::sH d (cC k a n false) (bK l c)) (AU P _ (by omega) rfl) rfl rfl rfl rfl (bG.ofL ⟨(by(simp;done)),(by exact aT _ _ _),(by exact aG _ _ rfl rfl rfl),(by exact aC _ _),(by exact aM _ _ _),(by exact aL _ _),(by(simp;exact⟨rfl,rfl⟩)),(by exact aT _ _ _),trivial⟩) (by simp;rfl);refine aK<|Sr<|Dd aF<|Dd (by exact aB rfl rfl call49 rfl (AT P _ rfl))<|Dd (by exact aB rfl rfl DZ rfl (hso))<|Dd (by exact aB rfl rfl Y4 rfl ((by have h:=zE (cQ P) P.length ((945,cO P.length (cQ P))::(951,WL P)::(950,bK l2 c2)::sH d (cC k a n false) (bK l c)) rfl (by rw [eV];omega);rw [eV] at h;exact h)))<|Dd aS<|Zz<|Sq<|Sq ?_;refine gP.ent (cG.fzG (id:=945) (E':=[(0,.ref 1100 0 0 0),(1,.mp 950 0),(2,.pv (aY (fA P)))]) (H':=(950,bK l2 c2)::sH d (cC k a n false) (bK l c)) ((bY (cQ P)++List.replicate (P.length - (bY (cQ P)).length) sNil).map encStr) rfl (by rw [List.map_map];rfl) ?_ rfl ?_ ?_) ?_
  ·intro p hp;simp only [ZY,Z2,or_false] at hp;rcases hp with rfl|rfl|rfl
   ·exact⟨_,rfl,.same (by simp;rfl)⟩
   ·exact⟨_,rfl,.same (by simp;rfl)⟩
   exact⟨_,rfl,.osl (QO P _)⟩
  ·exact⟨⟨_,rfl,rfl,rfl,rfl,cY (aT _ _ _)⟩,⟨_,rfl,rfl,rfl,rfl,cY (aG _ _ rfl rfl rfl)⟩,⟨_,rfl,rfl,rfl,rfl,cY (aC _ _)⟩,⟨_,rfl,rfl,rfl,rfl,cY (aM _ _ _)⟩,⟨_,rfl,rfl,rfl,rfl,cY (aL _ _)⟩,⟨_,rfl,rfl,rfl,rfl,cY (bA rfl rfl)⟩,⟨_,rfl,rfl,rfl,rfl,cY (aT _ _ _)⟩,trivial⟩
  ·exact⟨rfl,rfl,rfl,rfl,rfl,rfl,rfl,trivial⟩
  have hinc:=zF P;obtain ⟨D,hD⟩:∃ D,D=fA P:=⟨_,rfl⟩;rw [← hD] at hR hsz hDl ⊢;have hmp:(bQ l2).length=l2.length:=ZL _;have hmd:(D.map encStr).length=D.length:=ZL _;have htx:=fun H hH=>N6 l2 c2 D hst2 (by omega) (by omega) (by omega) H hH;obtain ⟨t,ht⟩:∃ t,t=aZ l2 D:=⟨_,rfl⟩;rw [← ht] at hR hsz htx ⊢;have hcn:=fun H=>zD t (by omega) H;refine Rg<|Dd aF<|Dd (by exact vY (κ:=fX) (l:=bQ l2) rfl aV rfl rfl rfl rfl)<|Dd aF<|Dd (qQ aQ)<|Dd (by exact bZ rfl rfl rfl (gV (by omega) (by omega)))<|Dd gS<|Zz ?_;refine Cn ?_ ?_<;>intro hc4
  ·have hq2:l2.length+D.length=0:=by have:=ZH hc4;omega
   rw [ZK hq2] at hR;rw [hR];refine Sr<|Dd aS<|Zz<|aN ?_;refine bD (H':=((950,bK l2 c2)::sH d (cC k a n false) (bK l c))) (.inr rfl) rfl (aI rfl) (Fin.wk (by(simp;done)) (Hc (aT _ _ _)<|Hc (aG _ _ rfl rfl rfl)<|Hc (aC _ _)<|Hc (aM _ _ _)<|Hc (aL _ _)<|Hc (by(simp;exact⟨rfl,rfl⟩))<|Hc (aT _ _ _)<|trivial) ⟨rfl,rfl,rfl,rfl,rfl,rfl,rfl,trivial⟩) ?_;exact .inl ⟨by decide,rfl,rfl⟩
  have hq2:¬ l2.length+D.length=0:=by have:=ZI hc4;omega
  rw [ZJ hq2] at hR;refine aK<|Sr<|Dd aF<|Dd aF<|Dd (by exact aB rfl rfl uJ rfl (htx _ rfl))<|Dd aS<|Zz<|Sq<|Sq<|bU follows<|Cq aF<|Cq (by exact aB rfl rfl Y3 rfl (hcn _))<|Cq aF<|Cq fH<|Cq (dX rT)<|Cq (eQ aU)<|Cq aF<|Cq fH<|Cq (dX lK)<|Cq (dX mG)<|Cq (eQ aU)<|Cq (by exact dQ rfl rfl rfl (gV (by omega) (by omega)))<|Cq GI<|dO<|Kr ?_;refine Cn ?_ ?_<;>intro hc5
  ·have hq3:k < n+cR t:=by have:=ZH hc5;omega
   rw [ZK hq3] at hR;rw [hR];refine Sr<|Dd aS<|Zz<|aN ?_;refine bD (H':=((950,bK l2 c2)::sH d (cC k a n false) (bK l c))) (.inr rfl) rfl (aI rfl) (Fin.wk (by(simp;done)) (Hc (aT _ _ _)<|Hc (aG _ _ rfl rfl rfl)<|Hc (aC _ _)<|Hc (aM _ _ _)<|Hc (aL _ _)<|Hc (by(simp;exact⟨rfl,rfl⟩))<|Hc (aT _ _ _)<|trivial) ⟨rfl,rfl,rfl,rfl,rfl,rfl,rfl,trivial⟩) ?_;exact .inl ⟨by decide,rfl,rfl⟩
  have hq3:¬ k < n+cR t:=by have:=ZI hc5;omega
  rw [ZJ hq3] at hR;rw [hR];have hadd:=RI h k a n a n false l c t hsz (by omega) ha hk (by omega);obtain ⟨x,hx⟩:∃ x,x=jH d k a n t:=⟨_,rfl⟩;rw [← hx] at hadd ⊢;clear hx;refine aK<|Sq<|Sr<|Dd aF<|Dd aF<|Dd fH<|Dd (dX lK)<|Dd (TA cV sizeOf70)<|Dd aF<|Dd (by exact aB rfl rfl Y2 rfl (gC hadd _ ⟨rfl,rfl,rfl,rfl,rfl,rfl,trivial⟩ (by simp;rfl)))<|Dd aS<|Zz<|Sr<|Dd aF<|Dd uG<|Zz ?_;refine Cn ?_ ?_<;>intro hc6
  ·have e0:¬ x.1=0:=by have h:=hc6;simpa using h
   rw [ZJ e0];refine Sr<|Dd aF<|Dd aS<|Zz<|aN ?_;refine bD (H':=((950,bK l2 c2)::sH x.2 (cC k a n true) (bK l c))) (.inr rfl) rfl (aI rfl) (Fin.wk (by(simp;done)) (Hc (aT _ _ _)<|Hc (aG _ _ rfl rfl rfl)<|Hc (aC _ _)<|Hc (aM _ _ _)<|Hc (aL _ _)<|Hc (by(simp;exact⟨rfl,rfl⟩))<|Hc (aT _ _ _)<|trivial) ⟨rfl,rfl,rfl,rfl,rfl,rfl,rfl,trivial⟩) ?_;exact .inr (.inl ⟨rfl,e0,rfl,rfl⟩)
  have e0:x.1=0:=by have h:=hc6;simpa using h
  rw [ZK e0];refine aK<|Sr<|Dd aF<|Dd fH<|Dd (dX rS)<|Dd (eQ bS)<|Dd aF<|Dm ?_;refine iM rfl rfl (aB rfl rfl Y1 rfl (RC l l2 c c2 D _ (by omega) (by omega) hst2 rfl rfl rfl (bG.ofL ⟨(by exact aG _ _ rfl rfl rfl),(by exact aC _ _),(by exact aM _ _ _),(by exact aL _ _),(by(simp;exact⟨rfl,rfl⟩)),(by exact aT _ _ _),(by exact aT _ _ _),(by exact aG _ _ rfl rfl rfl),(by exact aC _ _),(by exact aM _ _ _),(by exact aL _ _),(by(simp;exact⟨rfl,rfl⟩)),(by exact aT _ _ _),trivial⟩))) ?_;rintro r H' ⟨rfl,ps,hps,rfl⟩;obtain ⟨q1,q2,q3,q4⟩:=zJ (D:=D) hst hnd hnd2 hps;refine Zz<|Sr<|Dd aS<|Zz<|aN ?_;refine bD (H':=((950,bK l2 c2)::sH x.2 (cC k a (n+cR t) false) (bK (kT (fS l c ps).1 D) (fS l c ps).2))) (.inr rfl) rfl (aI rfl) (Fin.wk (by(simp;done)) (Hc (aT _ _ _)<|Hc (aG _ _ rfl rfl rfl)<|Hc (aC _ _)<|Hc (aM _ _ _)<|Hc (aL _ _)<|Hc (by(simp;exact⟨rfl,rfl⟩))<|Hc (aT _ _ _)<|trivial) ⟨rfl,rfl,rfl,rfl,rfl,rfl,rfl,trivial⟩) ?_;exact .inr (.inr ⟨rfl,e0,rfl,_,_,q1,q2,q3,q4,rfl⟩)
theorem MT {d:DSt} {N m:Nat} (h:DInv d N m) (k a n:Nat) (b:Bool) (l:bT) (c:Nat) (P:List ByteArray) (hk:k < 4000) (ha:a < 2) (hn:n≤k) (hm:m≤10) (hst:eA l c) (hnd:fU l) (hP:P.length < 1000000) (hsz:bE ([]:bT) P=0→(aZ ([]:bT) (fA P)).length < 100000000) :
  aJ Tryz.prog 14 [.ref 1100 0 0 0,.pv .nilm,.pv (aY P)] (sH d (cC k a n b) (bK l c)) (fun r H'=>(¬ wC k n b ([]:bT) P = -1∧r=iv (wC k n b ([]:bT) P)∧H'=sH d (cC k a n b) (bK l c)) ∨
   (wC k n b ([]:bT) P = -1∧¬ (jH d k a n (aZ ([]:bT) (fA P))).1=0∧r=iv (jH d k a n (aZ ([]:bT) (fA P))).1∧H'=sH (jH d k a n (aZ ([]:bT) (fA P))).2 (cC k a n true) (bK l c)) ∨
   (wC k n b ([]:bT) P = -1∧(jH d k a n (aZ ([]:bT) (fA P))).1=0∧r=iv 0∧∃ l' c',eA l' c'∧fU l'∧l'.length≤l.length+([]:bT).length∧(∀ x,cU l' x=pM (cU l) ([]:bT) (fA P) x)∧H'=sH (jH d k a n (aZ ([]:bT) (fA P))).2 (cC k a (n+cR (aZ ([]:bT) (fA P))) false) (bK l' c'))):=by
 have hR:wC k n b ([]:bT) P=if b then 12 else if ¬ bE ([]:bT) P=0 then bE ([]:bT) P else if([]:bT).length+(fA P).length=0 then 0 else if k < n+cR (aZ ([]:bT) (fA P))then 21 else -1:=rfl
 have hwr:=fun H=>NZ P (by omega) H;have hrange:=fL ([]:bT) P;have hDl:=qL P;cases b with
 | true =>
  rw [ZK rfl] at hR;rw [hR];refine Bd R3 rfl NN<|Sr<|Dd aS<|Zz<|Sq<|aP<|Sr<|Dd aF<|Dd (by exact cT rfl fY rfl rfl rfl rfl)<|Da ?_;refine Cn ?_ ?_<;>intro hc1
  ·cases hc1
  refine Sr<|Dd aF<|Dd fH<|Dd (dX jR)<|Dd (eQ dM)<|Da ?_;refine Cn ?_ ?_<;>intro hc2
  ·refine Sr<|Dd aS<|Zz<|aN ?_;refine bD (H':=(sH d (cC k a n true) (bK l c))) (.inr rfl) rfl (aI rfl) (Fin.wk (by(simp;done)) (Hc (aG _ _ rfl rfl rfl)<|Hc (aC _ _)<|Hc (aM _ _ _)<|Hc (aL _ _)<|Hc (by(simp;exact⟨rfl,rfl⟩))<|Hc (aT _ _ _)<|trivial) ⟨rfl,rfl,rfl,rfl,rfl,rfl,trivial⟩) ?_;exact .inl ⟨by decide,rfl,rfl⟩
  cases hc2
 | false =>
  rw [ZJ (by decide)] at hR;refine Bd R3 rfl NN<|Sr<|Dd aS<|Zz<|Sq<|aP<|Sr<|Dd aF<|Dd (by exact cT rfl fY rfl rfl rfl rfl)<|Da ?_;refine Cn ?_ ?_<;>intro hc1
  ·cases hc1
  refine Sr<|Dd aF<|Dd fH<|Dd (dX jR)<|Dd (eQ dM)<|Da ?_;refine Cn ?_ ?_<;>intro hc2
  ·cases hc2
  refine aK<|Sq<|Sr<|Dd aF<|Dd aF<|Dd (by exact aB rfl rfl uK rfl (hwr _))<|Dd aS<|Zz<|Sr<|Dd aF<|Dd uG<|Zz ?_;refine Cn ?_ ?_<;>intro hc3
  ·have hq:¬ bE ([]:bT) P=0:=by have h:=hc3;simpa using h
   rw [ZK hq] at hR;rw [hR];refine Sr<|Dd aF<|Dd aS<|Zz<|aN ?_;refine bD (H':=(sH d (cC k a n false) (bK l c))) (.inr rfl) rfl (aI rfl) (Fin.wk (by(simp;done)) (Hc (aG _ _ rfl rfl rfl)<|Hc (aC _ _)<|Hc (aM _ _ _)<|Hc (aL _ _)<|Hc (by(simp;exact⟨rfl,rfl⟩))<|Hc (aT _ _ _)<|trivial) ⟨rfl,rfl,rfl,rfl,rfl,rfl,trivial⟩) ?_;exact .inl ⟨by omega,rfl,rfl⟩
  have hq:bE ([]:bT) P=0:=by have h:=hc3;simpa using h
  rw [ZJ (fun h=>h hq)] at hR;have hsz:=hsz hq;have hso:=JB (L:=P) (by omega) call97 ((951,WL P)::sH d (cC k a n false) (bK l c)) (AU P _ (by omega) rfl) rfl rfl rfl rfl (bG.ofL ⟨(by(simp;done)),(by exact aG _ _ rfl rfl rfl),(by exact aC _ _),(by exact aM _ _ _),(by exact aL _ _),(by(simp;exact⟨rfl,rfl⟩)),(by exact aT _ _ _),trivial⟩) (by simp;rfl);refine aK<|Sr<|Dd aF<|Dd (by exact aB rfl rfl call49 rfl (AT P _ rfl))<|Dd (by exact aB rfl rfl DZ rfl (hso))<|Dd (by exact aB rfl rfl Y4 rfl ((by have h:=zE (cQ P) P.length ((945,cO P.length (cQ P))::(951,WL P)::sH d (cC k a n false) (bK l c)) rfl (by rw [eV];omega);rw [eV] at h;exact h)))<|Dd aS<|Zz<|Sq<|Sq ?_;refine gP.ent (cG.fzG (id:=945) (E':=[(0,.ref 1100 0 0 0),(1,.pv .nilm),(2,.pv (aY (fA P)))]) (H':=sH d (cC k a n false) (bK l c)) ((bY (cQ P)++List.replicate (P.length - (bY (cQ P)).length) sNil).map encStr) rfl (by rw [List.map_map];rfl) ?_ rfl ?_ ?_) ?_
  ·intro p hp;simp only [ZY,Z2,or_false] at hp;rcases hp with rfl|rfl|rfl
   ·exact⟨_,rfl,.same (by simp;rfl)⟩
   ·exact⟨_,rfl,.same (by simp)⟩
   exact⟨_,rfl,.osl (QO P _)⟩
  ·exact⟨⟨_,rfl,rfl,rfl,rfl,cY (aG _ _ rfl rfl rfl)⟩,⟨_,rfl,rfl,rfl,rfl,cY (aC _ _)⟩,⟨_,rfl,rfl,rfl,rfl,cY (aM _ _ _)⟩,⟨_,rfl,rfl,rfl,rfl,cY (aL _ _)⟩,⟨_,rfl,rfl,rfl,rfl,cY (bA rfl rfl)⟩,⟨_,rfl,rfl,rfl,rfl,cY (aT _ _ _)⟩,trivial⟩
  ·exact⟨rfl,rfl,rfl,rfl,rfl,rfl,trivial⟩
  have hinc:=zF P;obtain ⟨D,hD⟩:∃ D,D=fA P:=⟨_,rfl⟩;rw [← hD] at hR hsz hDl ⊢;have hmp:([]:bT).length=0:=rfl;have hmd:(D.map encStr).length=D.length:=ZL _;have htx:=fun H=>SJ D (by omega) (by omega) H;obtain ⟨t,ht⟩:∃ t,t=aZ ([]:bT) D:=⟨_,rfl⟩;rw [← ht] at hR hsz htx ⊢;have hcn:=fun H=>zD t (by omega) H;refine Rg<|Dd aF<|Dd (by exact UZ rfl aV rfl)<|Dd aF<|Dd (qQ aQ)<|Dd (by exact bZ rfl rfl rfl (gV (by omega) (by omega)))<|Dd gS<|Zz ?_;refine Cn ?_ ?_<;>intro hc4
  ·have hq2:([]:bT).length+D.length=0:=by have:=ZH hc4;omega
   rw [ZK hq2] at hR;rw [hR];refine Sr<|Dd aS<|Zz<|aN ?_;refine bD (H':=(sH d (cC k a n false) (bK l c))) (.inr rfl) rfl (aI rfl) (Fin.wk (by(simp;done)) (Hc (aG _ _ rfl rfl rfl)<|Hc (aC _ _)<|Hc (aM _ _ _)<|Hc (aL _ _)<|Hc (by(simp;exact⟨rfl,rfl⟩))<|Hc (aT _ _ _)<|trivial) ⟨rfl,rfl,rfl,rfl,rfl,rfl,trivial⟩) ?_;exact .inl ⟨by decide,rfl,rfl⟩
  have hq2:¬ ([]:bT).length+D.length=0:=by have:=ZI hc4;omega
  rw [ZJ hq2] at hR;refine aK<|Sr<|Dd aF<|Dd aF<|Dd (by exact aB rfl rfl uJ rfl (htx _))<|Dd aS<|Zz<|Sq<|Sq<|bU follows<|Cq aF<|Cq (by exact aB rfl rfl Y3 rfl (hcn _))<|Cq aF<|Cq fH<|Cq (dX rT)<|Cq (eQ aU)<|Cq aF<|Cq fH<|Cq (dX lK)<|Cq (dX mG)<|Cq (eQ aU)<|Cq (by exact dQ rfl rfl rfl (gV (by omega) (by omega)))<|Cq GI<|dO<|Kr ?_;refine Cn ?_ ?_<;>intro hc5
  ·have hq3:k < n+cR t:=by have:=ZH hc5;omega
   rw [ZK hq3] at hR;rw [hR];refine Sr<|Dd aS<|Zz<|aN ?_;refine bD (H':=(sH d (cC k a n false) (bK l c))) (.inr rfl) rfl (aI rfl) (Fin.wk (by(simp;done)) (Hc (aG _ _ rfl rfl rfl)<|Hc (aC _ _)<|Hc (aM _ _ _)<|Hc (aL _ _)<|Hc (by(simp;exact⟨rfl,rfl⟩))<|Hc (aT _ _ _)<|trivial) ⟨rfl,rfl,rfl,rfl,rfl,rfl,trivial⟩) ?_;exact .inl ⟨by decide,rfl,rfl⟩
  have hq3:¬ k < n+cR t:=by have:=ZI hc5;omega
  rw [ZJ hq3] at hR;rw [hR];have hadd:=RI h k a n a n false l c t hsz (by omega) ha hk (by omega);obtain ⟨x,hx⟩:∃ x,x=jH d k a n t:=⟨_,rfl⟩;rw [← hx] at hadd ⊢;clear hx;refine aK<|Sq<|Sr<|Dd aF<|Dd aF<|Dd fH<|Dd (dX lK)<|Dd (TA cV sizeOf70)<|Dd aF<|Dd (by exact aB rfl rfl Y2 rfl (gC hadd _ ⟨rfl,rfl,rfl,rfl,rfl,rfl,trivial⟩ (by simp;rfl)))<|Dd aS<|Zz<|Sr<|Dd aF<|Dd uG<|Zz ?_;refine Cn ?_ ?_<;>intro hc6
  ·have e0:¬ x.1=0:=by have h:=hc6;simpa using h
   rw [ZJ e0];refine Sr<|Dd aF<|Dd aS<|Zz<|aN ?_;refine bD (H':=(sH x.2 (cC k a n true) (bK l c))) (.inr rfl) rfl (aI rfl) (Fin.wk (by(simp;done)) (Hc (aG _ _ rfl rfl rfl)<|Hc (aC _ _)<|Hc (aM _ _ _)<|Hc (aL _ _)<|Hc (by(simp;exact⟨rfl,rfl⟩))<|Hc (aT _ _ _)<|trivial) ⟨rfl,rfl,rfl,rfl,rfl,rfl,trivial⟩) ?_;exact .inr (.inl ⟨rfl,e0,rfl,rfl⟩)
  have e0:x.1=0:=by have h:=hc6;simpa using h
  rw [ZK e0];refine aK<|Sr<|Dd aF<|Dd fH<|Dd (dX rS)<|Dd (eQ bS)<|Dd aF<|Dm ?_;refine iM rfl rfl (aB rfl rfl Y1 rfl (RB l c D _ (by omega) rfl rfl (bG.ofL ⟨(by exact aG _ _ rfl rfl rfl),(by exact aC _ _),(by exact aM _ _ _),(by exact aL _ _),(by(simp;exact⟨rfl,rfl⟩)),(by exact aT _ _ _),(by exact aG _ _ rfl rfl rfl),(by exact aC _ _),(by exact aM _ _ _),(by exact aL _ _),(by(simp;exact⟨rfl,rfl⟩)),(by exact aT _ _ _),trivial⟩))) ?_;rintro r H' ⟨rfl,rfl⟩;obtain ⟨q1,q2,q3,q4⟩:=zJ (put:=[]) (ps:=[]) (D:=D) hst hnd yF (List.Perm.refl _);refine Zz<|Sr<|Dd aS<|Zz<|aN ?_;refine bD (H':=(sH x.2 (cC k a (n+cR t) false) (bK (kT l D) c))) (.inr rfl) rfl (aI rfl) (Fin.wk (by(simp;done)) (Hc (aG _ _ rfl rfl rfl)<|Hc (aC _ _)<|Hc (aM _ _ _)<|Hc (aL _ _)<|Hc (by(simp;exact⟨rfl,rfl⟩))<|Hc (aT _ _ _)<|trivial) ⟨rfl,rfl,rfl,rfl,rfl,rfl,trivial⟩) ?_;exact .inr (.inr ⟨rfl,e0,rfl,_,_,q1,q2,q3,q4,rfl⟩)
abbrev XS (l:List UInt8) (g:Nat) (u:Bool):Ob:=nY (.osl 2002 g 0 l.length) u
abbrev XR (l:List UInt8) (g:Nat):Ob:=⟨g,1,5,bF l⟩
theorem SC {g g':Nat} {l l':List UInt8} {u u':Bool} {id:Nat} (h:(aA.get (GJ g l u) id).isSome=true):(aA.get (GJ g' l' u') id).isSome=true:=by
 simp only [GJ,aA.get] at h ⊢;cases e1:Nat.beq 2001 id with
 | true=>rfl
 | false =>
  cases e2:Nat.beq 2002 id with
  | true=>rfl
  | false=>rw [e1,e2] at h;cases h
theorem NW {g:Nat} {l:List UInt8} {u u':Bool} {id:Nat} (h:(aA.get (NA g l u) id).isSome=true):(aA.get (GJ g l u) id).isSome=true:=by
 simp only [NA,GJ,aA.get] at h ⊢;cases e1:Nat.beq 2001 id with
 | true=>rfl
 | false =>
  cases e2:Nat.beq 2002 id with
  | true=>rfl
  | false=>rw [e1,e2] at h;cases h
theorem NV {H:aA} {g:Nat} {l:List UInt8} {u:Bool} (h1:H.get 2001=some (XS l g u)) (h2:H.get 2002=some (XR l g)):Sub (GJ g l u) H:=by
 intro j o h;simp only [GJ,aA.get] at h;cases e1:Nat.beq 2001 j with
 | true =>
  rw [e1] at h;cases h;rw [← Nat.eq_of_beq_eq_true e1];exact h1
 | false =>
  rw [e1] at h;cases e2:Nat.beq 2002 j with
  | true =>
   rw [e2] at h;cases h;rw [← Nat.eq_of_beq_eq_true e2];exact h2
  | false=>rw [e2] at h;cases h
theorem WT {H:aA} {g:Nat} {l:List UInt8} {u:Bool} (s:ByteArray) (h1:H.get 2001=some (XS l g u)) (h2:H.get 2002=some (XR l g)) (hl:l.length+s.size < 70368744177664):aJ Tryz.prog 86 [.ref 2001 0 0 0,sv s] H (fun r H'=>r=.tup [iv (s.size:Int),.pv HW]∧H'=GJ (g+1) (l++s.data.toList) true++H) :=aJ.frame (qS g l u s hl) (NV h1 h2) (bG.ofL ⟨(by exact nD rfl rfl),(by exact qM _ _),trivial⟩) (by simp;rfl) (fun id h=>.inl (SC h))
theorem VA {H:aA} {g:Nat} {l:List UInt8} {u:Bool} (h1:H.get 2001=some (XS l g u)) (h2:H.get 2002=some (XR l g)) (hl:l.length < 70368744177664):aJ Tryz.prog 88 [.ref 2001 0 0 0] H (fun r H'=>r=sv ⟨l.toArray⟩∧H'=NA g l u++H) :=aJ.frame (UO g l u hl) (NV h1 h2) (bG.ofL ⟨(by exact nD rfl rfl),(by exact qM _ _),trivial⟩) (by simp;rfl) (fun id h=>.inl (NW (u':=u) h))
def E9 (d:DSt) (k a i:Nat):List UInt8:=(List.range i).flatMap fun i=>(PH d k a i).data.toList
theorem BE (d:DSt) (k a i:Nat):E9 d k a (i+1)=E9 d k a i++(PH d k a i).data.toList:=by rw [E9,List.range_succ,List.flatMap_append,List.flatMap_cons,List.flatMap_nil,List.append_nil];rfl
theorem BA (place:Nat) (t:ByteArray) (ht:t.size=64):(EV place t).size≤46:=by
 rw [EV]
 split
 ·exact Z3 _
 next hb =>
 split
 ·rw [BB] at hb;simp only [Bool.not_eq_true,Z8,ZT] at hb;rw [O4,ByteArray.size_extract];omega
 exact Z3 _
theorem E8 {d:DSt} (hs:DOk d) {k a:Nat} (n:Nat) (hp:∀ i,i < n→2+a*k+i < d.cells.length):∀ i,i≤n→(E9 d k a i).length≤46*i
 | 0,_=>ZR _
 | i+1,hi=>by
  have h1:=E8 hs n hp i (by omega);have h2:=BA (2+a*k+i) (bW d (2+a*k+i)) (mA hs (hp i (by omega)));rw [BE,ZM,cW,PH];omega
theorem xK:∀ (n:Nat) (t:List UInt8) (acc:List ByteArray),((fB n t acc).1.map ByteArray.size).sum≤(acc.map ByteArray.size).sum+t.length
 | 0,t,acc=>Nat.le_add_right _ _
 | n+1,t,acc=>by
  rw [fB]
  split
  ·exact Nat.le_add_right _ _
  split
  ·exact Z3 _
  have h1:=xK n ((wB t).drop (KA t)) (acc++[ofL ((wB t).take (KA t))]);have h2:=(IL t).2;rw [List.map_append,List.sum_append,List.map_cons,List.map_nil,List.sum_cons,List.sum_nil,bP,Z0,Z1] at h1;omega
theorem G4 (t:List UInt8):((eE t).1.map ByteArray.size).sum≤t.length:=by have:=xK t.length t [];rw [List.map_nil,List.sum_nil,Z4] at this;exact this
theorem EE (L:List ByteArray) (j:Nat):((L.take j).map ByteArray.size).sum≤(L.map ByteArray.size).sum:=by
 have h:L.map ByteArray.size=(L.take j).map ByteArray.size++(L.drop j).map ByteArray.size:=by rw [← List.map_append,List.take_append_drop]
 rw [h,List.sum_append];omega
def PB (o:Bool) (L:List ByteArray) (j:Nat):Bool:=o&&(L.take j).all fun c=>kG c.data.toList
theorem PA {o:Bool} {L:List ByteArray} {j:Nat} {t:ByteArray} (h:L[j]?=some t):PB o L (j+1)=(PB o L j&&kG t.data.toList):=by rw [PB,PB,dR h,List.all_append,List.all_cons,List.all_nil,Bool.and_true,Bool.and_assoc]
abbrev WP (L:List ByteArray) (j:Nat):CT:=oG ((L.take j).map fun c=>c.data.toList)
theorem QJ {L:List ByteArray} {j:Nat} {t:ByteArray} (h:L[j]?=some t):WP L (j+1)=V5 (WP L j) t.data.toList:=by rw [WP,dR h,List.map_append];exact rY _ _
theorem S9 (d:DSt) (hs:DOk d) (hoff:d.off=false) (k a n:Nat) (b:Bool) (ha:a < 2) (hn:n≤k) (hk:2*k+2≤d.cells.length) :
  aJ Tryz.prog 44 [.ref 1100 0 0 0] (sH d (cC k a n b) (bK [] 0)) (fun r H'=>r=bv (yL d k a n)∧∃ l c,eA l c∧fU l∧l.length≤46*n∧(yL d k a n=true→∀ x,cU l x=U2 d k a n x)∧H'=sH d (cC k a n b) (bK l c)):=by
 have hn2:=hs.n2;have hak:a*k≤k:=by
  rcases(show a=0∨a=1 by omega)with e|e<;>subst e<;>omega
 have hplace:∀ i,i < n→2+a*k+i < d.cells.length:=fun i hi=>by omega
 have hTl:=E8 (k:=k) (a:=a) hs n hplace;have hTn:PG d k a n=E9 d k a n:=rfl;have hok:yL d k a n=(FA d k a n&&((eE (PG d k a n)).2&&(eE (PG d k a n)).1.all fun c=>kG c.data.toList)):=rfl;have hC:U2 d k a n=oG ((eE (PG d k a n)).1.map fun c=>c.data.toList):=rfl;refine Bd func44 rfl ntmps44<|Sr<|Dd aS<|Zz<|Sr<|Dd (by exact cH (id:=2001) rfl NT rfl rfl)<|Zz<|Sq<|Sr<|Dd aF<|Dd fH<|Dd (dX lK)<|Dd (dX mG)<|Dd (eQ aU)<|Dd aF<|Zz<|aP ?_;refine gP.ent (E':=[(0,.ref 1100 0 0 0),(3,.ref 2001 0 0 0),(14,iv (n:Int)),(15,iv 0)]) (H':=(2002,⟨0,1,5,[]⟩)::(2001,nY (.osl 2002 0 0 0) false)::sH d (cC k a n b) (bK [] 0)) (cG.nz 2002 1 5 rfl rfl ⟨⟨_,rfl,(by exact Nz.same (by(simp;rfl)))⟩,⟨_,rfl,(by exact Nz.same (by(simp;rfl)))⟩,⟨_,rfl,(by exact Nz.same (by(simp;done)))⟩,⟨_,rfl,(by exact Nz.same (by(simp;done)))⟩,trivial⟩ ⟨⟨_,rfl,rfl,rfl,rfl,(by exact .inr ⟨_,_,rfl,rfl,(by repeat(first|exact trivial|refine⟨(by first|exact Nz.own|exact Nz.same (by(simp;done))),?_⟩))⟩)⟩,⟨_,rfl,rfl,rfl,rfl,(by exact .inl ⟨rfl,(by exact aG _ _ rfl rfl rfl)⟩)⟩,⟨_,rfl,rfl,rfl,rfl,(by exact .inl ⟨rfl,(by exact aC _ _)⟩)⟩,⟨_,rfl,rfl,rfl,rfl,(by exact .inl ⟨rfl,(by exact aM _ _ _)⟩)⟩,⟨_,rfl,rfl,rfl,rfl,(by exact .inl ⟨rfl,(by exact aL _ _)⟩)⟩,⟨_,rfl,rfl,rfl,rfl,(by exact .inl ⟨rfl,(by exact bA rfl rfl)⟩)⟩,⟨_,rfl,rfl,rfl,rfl,(by exact .inl ⟨rfl,(by exact aT _ _ _)⟩)⟩,trivial⟩ ⟨rfl,rfl,rfl,rfl,rfl,rfl,trivial⟩) ?_;refine qN (fun(i g:Nat) (u:Bool)=>([(0,.ref 1100 0 0 0),(3,.ref 2001 0 0 0),(14,iv (n:Int)),(15,iv (i:Int))],(2001,XS (E9 d k a i) g u)::(2002,XR (E9 d k a i) g)::sH d (cC k a n b) (bK [] 0))) (fun i g u=>i≤n∧∀ j,j < i→¬ PH d k a j=sNil) (fun i g u=>n - i) 0 0 false ⟨Z3 _,fun j hj=>absurd hj (Nat.not_lt_zero _)⟩ ?_ ?_
 ·exact(cG.wk (Ea<|Ea<|Eb<|Eb<|trivial) (Hc (nD rfl rfl)<|Hc (aC _ _)<|Hc (aG _ _ rfl rfl rfl)<|Hc (aC _ _)<|Hc (aM _ _ _)<|Hc (aL _ _)<|Hc (bA rfl rfl)<|Hc (aT _ _ _)<|trivial) ⟨rfl,rfl,rfl,rfl,rfl,rfl,trivial⟩)
 rintro i g u ⟨hi,hz⟩;have hTi:=hTl i hi;have hpl:=xW d k a n a i b [] 0 (by omega) (by omega) (by omega);refine Sr<|Dd eF<|Zz<|Sq ?_;refine Cn ?_ ?_<;>intro hc1
 ·have hlt:i < n:=by have:=ZH hc1;omega
  have hpc:=SS d hs hoff k a n (2+a*k+i) b [] 0 (hplace i hlt);have hps:=BA (2+a*k+i) (bW d (2+a*k+i)) (mA hs (hplace i hlt));have hnx:=BE d k a i;have hPi:PH d k a i=EV (2+a*k+i) (bW d (2+a*k+i)):=rfl;rw [← hPi] at hpc hps;obtain ⟨p,hp⟩:∃ p,p=PH d k a i:=⟨_,rfl⟩;rw [← hp] at hpc hps hnx;refine aK<|Sq<|aP<|Sr<|Dd aF<|Dd aS<|Zz<|Sr<|Dd aF<|Dd aF<|Dd aF<|Dd fH<|Dd (dX lK)<|Dd (dX rV)<|Dd (eQ aU)<|Dd aF<|Dd (by exact aB rfl rfl YZ rfl (lF hpl _ ⟨rfl,rfl,rfl,rfl,rfl,rfl,trivial⟩ (by simp;rfl)))<|Dd (by exact aB rfl rfl call84 rfl (lF hpc _ ⟨rfl,rfl,rfl,rfl,rfl,rfl,trivial⟩ (by simp;rfl)))<|Dd aS<|Zz<|Sq<|Sr<|Dd aF<|Dd VI<|Zz ?_;refine Cn ?_ ?_<;>intro hc2
  ·have hq:p=sNil:=ZH hc2;have hf:yL d k a n=false:=by
    have:FA d k a n=false:=by
     rw [Bool.eq_false_iff];intro h;have:=List.all_eq_true.1 h i (List.mem_range.2 hlt);rw [← hp,hq,decide_eq_true rfl] at this;cases this
    rw [hok,this];rfl
   refine Sr<|Dd aS<|Zz<|aN ?_;refine bD (H':=(sH d (cC k a n b) (bK [] 0))) (.inr rfl) rfl (aI rfl) (Fin.wk (by(simp;done)) (Hc (aG _ _ rfl rfl rfl)<|Hc (aC _ _)<|Hc (aM _ _ _)<|Hc (aL _ _)<|Hc (bA rfl rfl)<|Hc (aT _ _ _)<|trivial) ⟨rfl,rfl,rfl,rfl,rfl,rfl,trivial⟩) ?_;exact⟨by rw [hf],[],0,HV,yF,Z3 _,fun h=>(by rw [hf] at h;cases h),rfl⟩
  have hq:¬ p=sNil:=ZI hc2;refine aK<|Rg<|Dd aF<|Dd (by exact aB rfl rfl call86 rfl (WT p rfl rfl (by omega)))<|Zz<|Rg<|Dd rD<|Dd aF<|Zz ?_;refine⟨i+1,g+1,true,⟨by omega,fun j hj=>?_⟩,by omega,?_⟩
  ·rcases Nat.lt_succ_iff_lt_or_eq.1 hj with h1|rfl
   ·exact hz j h1
   rw [← hp];exact hq
  rw [hnx];exact(cG.wk (Ea<|Ea<|Eb<|Eb<|trivial) (Hc (nD rfl rfl)<|Hc (aC _ _)<|Hc (aG _ _ rfl rfl rfl)<|Hc (aC _ _)<|Hc (aM _ _ _)<|Hc (aL _ _)<|Hc (bA rfl rfl)<|Hc (aT _ _ _)<|trivial) ⟨rfl,rfl,rfl,rfl,rfl,rfl,trivial⟩)
 have hge:i=n:=by have:=ZI hc1;omega
 subst hge;have hall:FA d k a i=true:=List.all_eq_true.2 fun j hj=>by
  rw [decide_eq_false (hz j (List.mem_range.1 hj))];rfl
 rw [hall,Bool.true_and,hTn] at hok;rw [hTn] at hC;obtain ⟨T,hT⟩:∃ T,T=E9 d k a i:=⟨_,rfl⟩;rw [← hT] at hok hC hTi ⊢;have hspl:=fun H=>EL T H (by omega);have hsum:=G4 T;have hL1:=rF T.length T [];rw [List.length_nil,Z4] at hL1;change (eE T).1.length≤T.length at hL1;obtain ⟨L,hL⟩:∃ L,L=(eE T).1:=⟨_,rfl⟩;obtain ⟨o,ho⟩:∃ o,o=(eE T).2:=⟨_,rfl⟩;rw [← hL,← ho] at hok;rw [← hL] at hC hsum hL1;simp only [← hL,← ho] at hspl;have hml:(L.map encStr).length=L.length:=ZL _;have hTo:(⟨T.toArray⟩:ByteArray)=ofL T:=rfl;refine bL<|Sr<|Dd (by exact aB rfl rfl call88 rfl (VA rfl rfl (by omega)))<|Dd (by exact aB rfl rfl call87 rfl (hspl _))<|Dd aF<|Dd eR<|Dd eR<|Dd aS<|Dd aS<|Zz<|Sq<|Sr<|Dd aF<|Dd (qQ aQ)<|Dd aF<|Zz<|aP ?_;refine qN (fun(j:Nat) (l:bT) (c:Nat)=>([(0,.ref 1100 0 0 0),(7,bv (PB o L j)),(38,.pv (aY L)),(39,iv ((L.map encStr).length:Int)),(40,iv (j:Int))],sH d (cC k a i b) (bK l c))) (fun j l c=>j≤L.length∧eA l c∧fU l∧l.length≤((L.take j).map ByteArray.size).sum∧(PB o L j=true→∀ x,cU l x=WP L j x)) (fun j l c=>L.length - j) 0 [] 0 ⟨Z3 _,HV,yF,Z3 _,fun _ x=>rfl⟩ ?_ ?_
 ·rw [show PB o L 0=o by rw [PB,List.take_zero];exact Bool.and_true o];exact(cG.wk (Ea<|Eb<|Eb<|Eb<|Eb<|trivial) (Hc (aG _ _ rfl rfl rfl)<|Hc (aC _ _)<|Hc (aM _ _ _)<|Hc (aL _ _)<|Hc (bA rfl rfl)<|Hc (aT _ _ _)<|trivial) ⟨rfl,rfl,rfl,rfl,rfl,rfl,trivial⟩)
 rintro j l c ⟨hj,hst,hnd,hll,hct⟩;have hsj:=EE L j;refine Sr<|Dd eF<|Zz<|Sq ?_;refine Cn ?_ ?_<;>intro hc3
 ·have hlt:j < L.length:=by have:=ZH hc3;omega
  obtain ⟨t,ht⟩:=bM hlt;have hit:=fV (f:=encStr) ht;have hsz:((L.take (j+1)).map ByteArray.size).sum=((L.take j).map ByteArray.size).sum+t.size:=by rw [dR ht,List.map_append,List.sum_append];rfl
  have hsj2:=EE L (j+1);have hnx:=PA (o:=o) ht;have hcx:=QJ ht;have hrp:=LH d k a i b l c t.data.toList hst hnd (by rw [cW];omega);rw [HS,cW] at hrp;obtain ⟨oj,hoj⟩:∃ oj,oj=PB o L j:=⟨_,rfl⟩;rw [← hoj] at hnx hct ⊢;clear hoj;cases oj
  ·refine aK<|Sq<|aP<|Sr<|Dd (KV cK)<|Dd (AK bB)<|Dd aS<|Zz<|Rg<|Dd aF<|Dd aF<|Fo<|Fo<|Fo<|Fo<|Fo<|Fo<|Dd dU<|Dd aS<|Zz<|Rg<|Dd rD<|Dd aF<|Zz ?_;refine⟨j+1,l,c,⟨by omega,hst,hnd,by omega,fun h=>(by rw [hnx] at h;cases h)⟩,by omega,?_⟩;rw [hnx];exact(cG.wk (Ea<|Eb<|Eb<|Eb<|Eb<|trivial) (Hc (aG _ _ rfl rfl rfl)<|Hc (aC _ _)<|Hc (aM _ _ _)<|Hc (aL _ _)<|Hc (bA rfl rfl)<|Hc (aT _ _ _)<|trivial) ⟨rfl,rfl,rfl,rfl,rfl,rfl,trivial⟩)
  refine aK<|Sq<|aP<|Sr<|Dd (KV cK)<|Dd (AK bB)<|Dd aS<|Zz<|Rg<|Dd aF<|Dd aF<|On aF<|On fH<|On (dX rS)<|On (eQ bS)<|On aF ?_;refine wG rfl rfl rfl rfl rfl (aB rfl rfl call89 rfl hrp) ?_;rintro _ _ ⟨rfl,l2,c2,q1,q2,q3,q4,rfl⟩;refine Dd dU<|Dd aS<|Zz<|Rg<|Dd rD<|Dd aF<|Zz ?_;refine⟨j+1,l2,c2,⟨by omega,q1,q2,by omega,fun h x=>?_⟩,by omega,?_⟩
  ·rw [hnx,Bool.true_and] at h;rw [q4 h x,hcx,V5,pM,pM,hct rfl x]
  rw [hnx,Bool.true_and];exact(cG.wk (Ea<|Eb<|Eb<|Eb<|Eb<|trivial) (Hc (aG _ _ rfl rfl rfl)<|Hc (aC _ _)<|Hc (aM _ _ _)<|Hc (aL _ _)<|Hc (bA rfl rfl)<|Hc (aT _ _ _)<|trivial) ⟨rfl,rfl,rfl,rfl,rfl,rfl,trivial⟩)
 have hge:j=L.length:=by have:=ZI hc3;omega
 subst hge;have hoke:yL d k a i=PB o L L.length:=by rw [hok,PB,List.take_length]
 have hCe:U2 d k a i=WP L L.length:=by rw [hC,WP,List.take_length]
 rw [List.take_length] at hll;refine bL<|Sr<|Dd aF<|Dd aS<|Zz<|aN ?_;refine bD (H':=(sH d (cC k a i b) (bK l c))) (.inr rfl) rfl (aI rfl) (Fin.wk (by(simp;done)) (Hc (aG _ _ rfl rfl rfl)<|Hc (aC _ _)<|Hc (aM _ _ _)<|Hc (aL _ _)<|Hc (bA rfl rfl)<|Hc (aT _ _ _)<|trivial) ⟨rfl,rfl,rfl,rfl,rfl,rfl,trivial⟩) ?_;exact⟨by rw [hoke],l,c,hst,hnd,by omega,fun h=>by rw [hCe];exact hct (by rw [← hoke];exact h),rfl⟩
theorem vT {k place:Nat} {t:ByteArray} (h:kN k place t=true):oX t < 2∧oW t≤k∧hS place (oX t) (oW t)=t:=by rw [kN] at h;simp only [ZU,ZS] at h;exact⟨h.2.1.1,h.2.1.2,h.2.2⟩
def qX (d:DSt) (k:Nat):Bool:=(!JR d k&&!decide (bW d 0=zS))||!yL d k (UW d k) (UV d k)
theorem L5 (d:DSt) (k:Nat):UW d k < 2∧UV d k≤k:=by
 rw [UW,UV];cases h1:wL d k with
 | true =>
  rw [ZK rfl,ZK rfl];rw [wL] at h1;have:=vT h1;exact⟨this.1,this.2.1⟩
 | false =>
  rw [ZJ Bool.false_ne_true,ZJ Bool.false_ne_true];cases h0:kN k 0 (bW d 0)with
  | true =>
   rw [ZK rfl,ZK rfl];have:=vT h0;exact⟨this.1,this.2.1⟩
  | false =>
   rw [ZJ Bool.false_ne_true,ZJ Bool.false_ne_true];exact⟨by omega,by omega⟩
theorem GQ (place:Nat) {a n:Nat} (hd:Bool) (ha:a < 10) (hn:n < 10000000):(oR place a n hd).size=64:=by
 cases hd
 ·show zS.size=64;rw [bP,zB,List.length_replicate]
 exact DE place ha hn
theorem X5:zS.size=64:=by rw [bP,zB,List.length_replicate]
theorem VL {d:DSt} {N place a n:Nat} {hd:Bool} (h:OnD d N) (hp:place < N) (ha:a < 10) (hn:n < 10000000) (h0:(uF d place a n hd).1=0):OnD (uF d place a n hd).2 N:=by
 rw [uF] at h0 ⊢;by_cases e:bW d place=oR place a n hd
 ·rw [ZK e] at h0 ⊢;exact h
 rw [ZJ e] at h0 ⊢;have w1:=N1 h (place:=place) (L:=[zS]) (by rw [List.length_singleton];omega) (fun t ht=>by rw [ZO.1 ht];exact X5) (by rw [List.length_singleton];omega);by_cases e2:(jI d place [zS]).1=0∧hd=true
 ·rw [ZK e2] at h0 ⊢;rcases w1 with⟨q1,q2,q3⟩|⟨q1,q2,q3⟩
  ·have w2:=N1 q2 (place:=place) (L:=[oR place a n hd]) (by rw [List.length_singleton];omega) (fun t ht=>by rw [ZO.1 ht];exact GQ place hd ha hn) (by rw [List.length_singleton];omega);rcases w2 with⟨p1,p2,p3⟩|⟨p1,p2,p3⟩
   ·exact p2
   rw [p1] at h0;cases h0
  rw [q1] at e2;cases e2.1
 rw [ZJ e2] at h0 ⊢;rcases w1 with⟨q1,q2,q3⟩|⟨q1,q2,q3⟩
 ·exact q2
 rw [q1] at h0;cases h0
def VR (i N:Nat):Int:=if i≤N then 0 else 1
abbrev YV (a n:Nat):Ob:=bx 2 70 [iv (a:Int),iv (n:Int)]
theorem SW {d:DSt} {N:Nat} (h:OnD d N) (hN:4≤N) (k a n:Nat) (hd:Bool) (hk:k=(N - 2) / 2) (hA:a=UW d k) (hNn:n=UV d k) (hH:hd=JR d k) :
  aJ Tryz.prog 12 [.ref 1000 0 0 0] (bC d) (fun r H'=>(qX d k=true∧r=.tup [.pv .nilp,iv 23]∧H'=bC d) ∨
   (qX d k=false∧¬ (uF d 1 a n hd).1=0∧r=.tup [.pv .nilp,iv (uF d 1 a n hd).1]∧H'=bC (uF d 1 a n hd).2) ∨
   (qX d k=false∧(uF d 1 a n hd).1=0∧¬ (uF (uF d 1 a n hd).2 0 a n hd).1=0∧r=.tup [.pv .nilp,iv (uF (uF d 1 a n hd).2 0 a n hd).1]∧H'=bC (uF (uF d 1 a n hd).2 0 a n hd).2) ∨
   (qX d k=false∧(uF d 1 a n hd).1=0∧(uF (uF d 1 a n hd).2 0 a n hd).1=0∧r=.tup [.ref 1100 0 0 0,iv 0]∧∃ l c,eA l c∧fU l∧l.length≤46*n∧(∀ x,cU l x=U2 d k a n x)∧H'=sH (uF (uF d 1 a n hd).2 0 a n hd).2 (cC k a n false) (bK l c))):=by
 have hs:=h.inv.ok;have hoff:=h.off;have hcn:=h.inv.n;have hn2:=hs.n2;have hbd:=L5 d k;rw [← hA,← hNn] at hbd;have hbad:qX d k=((!hd&&!decide (bW d 0=zS))||!yL d k a n):=by rw [qX,← hA,← hNn,← hH]
 have hrE:∀ i:Nat,nV d (i:Int)=if i < N then 0 else 1:=fun i=>by
  rw [nV,hoff,ZJ (by decide),jO,hcn];by_cases e:i < N
  ·rw [ZK (decide_eq_true e),ZK e]
  rw [ZJ (by rw [decide_eq_false e];decide),ZJ e]
 refine Bd func12 rfl ntmps12<|Sr<|Dd aS<|Dd aS<|Zz<|Sq<|Sr<|Dd aF<|Dd (by exact cT rfl jF rfl rfl rfl rfl)<|Zz ?_;refine Cn ?_ ?_<;>intro hc1
 ·cases hc1
 refine aK<|Sr<|Dd aS<|Zz<|Sr<|Dd aS<|Zz<|Sq<|aP ?_;refine bR (σ:=Nat) (fun i=>([(0,.ref 1000 0 0 0),(4,iv (i:Int)),(5,iv (VR i N))],bC d)) (fun i=>i≤N+1) (fun i=>N+1 - i) 0 (Z3 _) ?_ ?_
 ·rw [show VR 0 N=0 from ZK (Z3 _)];exact(cG.wk (Ea<|Eb<|Eb<|trivial) (Hc (aG _ _ rfl rfl rfl)<|Hc (aC _ _)<|Hc (aM _ _ _)<|Hc (aL _ _)<|trivial) ⟨rfl,rfl,rfl,rfl,trivial⟩)
 intro i hi;have hrd:=OV d (i:Int) hs;rw [hrE i] at hrd;refine Sq<|Sr<|Dd aF<|Dd gS<|Zz ?_;refine Cn ?_ ?_<;>intro hc2
 ·have hq:i≤N:=by have h:=ZH hc2;rw [VR] at h;split at h;exact(by assumption);cases h
  have hnx:VR (i+1) N=if i < N then 0 else 1:=by
   rw [VR];by_cases e:i < N
   ·rw [ZK e,ZK (by omega)]
   rw [ZJ e,ZJ (by omega)]
  rw [← hnx] at hrd;refine aK<|Sq<|aP<|Rg<|Dd aF<|Dd aF<|Dd (by exact aB rfl rfl uL rfl (hrd))<|Dd aF<|Dd eR<|Dd eR<|Dd aS<|Zz<|Rg<|Dd aF<|Dd (by exact bZ rfl rfl rfl (show IntKind.i64.wrap ((i:Int)+1)=((i+1:Nat):Int)by rw [gV (by omega) (by omega)];omega))<|Da ?_;exact⟨i+1,by omega,by omega,(cG.wk (Ea<|Eb<|Eb<|trivial) (Hc (aG _ _ rfl rfl rfl)<|Hc (aC _ _)<|Hc (aM _ _ _)<|Hc (aL _ _)<|trivial) ⟨rfl,rfl,rfl,rfl,trivial⟩)⟩
 have hq:i=N+1:=by have h:=ZI hc2;rw [VR] at h;split at h;exact absurd rfl h;omega
 have hk1:VR i N=1:=ZJ (by omega);rw [hk1];have hp1:=sS d hs hoff k 0 0 1 false [] 0 (by omega) (by omega);have hp0:=sS d hs hoff k 0 0 0 false [] 0 (by omega) (by omega);have hrd0:=wS hs hoff (n:=0) (by omega);refine bL<|Sq<|Sr<|Dd aF<|Dd (by exact dQ rfl rfl rfl (show IntKind.i64.wrap ((i:Int) - 1)=(N:Int)by rw [gV (by omega) (by omega)];omega))<|Dd aS<|Zz<|Sr<|Dd aF<|Dd gS<|Zz ?_;refine Cn ?_ ?_<;>intro hc3
 ·cases hc3
 refine aK<|Sq<|Sr<|Dd aF<|Dd eF<|Zz ?_;refine Cn ?_ ?_<;>intro hc4
 ·(have h:=ZH hc4;omega)
 have hkq:IntKind.i64.wrap (((N:Int) - 2).tdiv 2)=(k:Int):=by
  rw [Int.tdiv_eq_ediv_of_nonneg (by omega),gV (by omega) (by omega),hk];omega
 refine aK<|Sr<|Dd aF<|Dd aF<|Dd (by exact dQ rfl rfl rfl (gV (by omega) (by omega)))<|Dd (by exact lV rfl rfl rfl (by decide) hkq)<|Dd (by exact lW (id:=1101) fX rfl rfl)<|Dd (NR YH)<|Dd (by exact gN (id:=1100) rfl rfl rfl rfl rfl)<|Dd aS<|Zz<|Sq ?_;refine gP.ent (E':=[(0,.ref 1000 0 0 0),(6,.ref 1100 0 0 0)]) (H':=sH d (cC k 0 0 false) (bK [] 0)) (cG.wk (Ea<|Ea<|trivial) (Hc (aG _ _ rfl rfl rfl)<|Hc (aC _ _)<|Hc (aM _ _ _)<|Hc (aL _ _)<|Hc (bA rfl rfl)<|Hc (aT _ _ _)<|trivial) ⟨rfl,rfl,rfl,rfl,trivial⟩) ?_;obtain ⟨h1,hh1⟩:∃ b,b=kN k 1 (bW d 1):=⟨_,rfl⟩;obtain ⟨h0,hh0⟩:∃ b,b=kN k 0 (bW d 0):=⟨_,rfl⟩;rw [← hh1] at hp1;rw [← hh0] at hp0;have hHe:hd=(h1||h0):=by rw [hH,JR,wL,← hh1,← hh0]
 have hAe:a=if h1 then oX (bW d 1)else if h0 then oX (bW d 0)else 0:=by rw [hA,UW,wL,← hh1,← hh0]
 have hNe:n=if h1 then oW (bW d 1)else if h0 then oW (bW d 0)else 0:=by rw [hNn,UV,wL,← hh1,← hh0]
 have hld:=S9 d hs hoff k a n false hbd.1 hbd.2 (by omega);refine Rg<|Dd aF<|Dd (by exact aB rfl rfl call42 rfl (hp1))<|Dd aF<|Dd eR<|Dd eR<|Dd (by exact cH (id:=7) rfl NU rfl rfl)<|Uu (qV sizeOf70)<|Da ?_;refine nZ (fun(q:Nat×Nat)=>([(0,.ref 1000 0 0 0),(6,.ref 1100 0 0 0),(7,.ref 7 0 0 0),(8,bv hd)],(7,YV q.1 q.2)::sH d (cC k 0 0 false) (bK [] 0))) (fun q=>hd=true→q.1=a∧q.2=n) ?_ ?_
 ·refine Sr<|Dd aF<|Dd AJ<|Zz ?_;refine Cn ?_ ?_<;>intro hc5
  ·have e1:h1=false:=by have h:=hc5;simpa using h
   refine Rg<|Dd aF<|Dd (by exact aB rfl rfl call42 rfl (lF hp0 _ ⟨rfl,rfl,rfl,rfl,rfl,rfl,trivial⟩ (by simp;rfl)))<|Dd aF<|Dd eR<|Dd eR<|Uu (qV sizeOf70)<|Da ?_;refine⟨(oX (bW d 0),oW (bW d 0)),fun hh=>?_,?_⟩
   ·rw [e1] at hHe hAe hNe;rw [hHe] at hh;have e0:h0=true:=hh;rw [e0] at hAe hNe;exact⟨hAe.symm,hNe.symm⟩
   rw [show hd=h0 by rw [hHe,e1];rfl];exact(cG.wk (Ea<|Ea<|Ea<|Eb<|trivial) (Hb<|Hc (aG _ _ rfl rfl rfl)<|Hc (aC _ _)<|Hc (aM _ _ _)<|Hc (aL _ _)<|Hc (bA rfl rfl)<|Hc (aT _ _ _)<|trivial) ⟨rfl,rfl,rfl,rfl,trivial⟩)
  have e1:h1=true:=by have h:=hc5;simpa using h
  refine aK ?_;refine⟨(oX (bW d 1),oW (bW d 1)),fun hh=>?_,?_⟩
  ·rw [e1] at hAe hNe;exact⟨hAe.symm,hNe.symm⟩
  rw [show hd=h1 by rw [hHe,e1];rfl];exact(cG.wk (Ea<|Ea<|Ea<|Eb<|trivial) (Hb<|Hc (aG _ _ rfl rfl rfl)<|Hc (aC _ _)<|Hc (aM _ _ _)<|Hc (aL _ _)<|Hc (bA rfl rfl)<|Hc (aT _ _ _)<|trivial) ⟨rfl,rfl,rfl,rfl,trivial⟩)
 rintro⟨a',n'⟩ hq0;have hq0:hd=true→a'=a∧n'=n:=hq0;refine Sr<|Dd aF<|Dd (by exact aB rfl rfl uL rfl (hrd0 _ ⟨rfl,rfl,rfl,rfl,trivial⟩))<|Dd aF<|Dd eR<|Dd eR<|Dd aS<|Da ?_;refine nZ (fun(_:Unit)=>([(0,.ref 1000 0 0 0),(6,.ref 1100 0 0 0),(7,.ref 7 0 0 0),(8,bv hd),(9,sv (bW d 0))],(7,YV a n)::sH d (cC k 0 0 false) (bK [] 0))) (fun _=>True) ?_ ?_
 ·refine Sr<|Dd aF<|Dd AJ<|Zz ?_;refine Cn ?_ ?_<;>intro hc6
  ·have e1:hd=false:=by have h:=hc6;simpa using h
   rw [hHe,Z8] at e1;have ha0:a=0:=by rw [hAe,e1.1,e1.2];rfl
   have hn0:n=0:=by rw [hNe,e1.1,e1.2];rfl
   rw [ha0,hn0];refine Rg<|Dd (NR M6)<|Uu (qV sizeOf70)<|Zz ?_;exact⟨(),trivial,(cG.wk (Ea<|Ea<|Ea<|Eb<|Eb<|trivial) (Hb<|Hc (aG _ _ rfl rfl rfl)<|Hc (aC _ _)<|Hc (aM _ _ _)<|Hc (aL _ _)<|Hc (bA rfl rfl)<|Hc (aT _ _ _)<|trivial) ⟨rfl,rfl,rfl,rfl,trivial⟩)⟩
  have e1:hd=true:=by have h:=hc6;simpa using h
  obtain ⟨rfl,rfl⟩:=hq0 e1;refine aK ?_;exact⟨(),trivial,(cG.wk (Ea<|Ea<|Ea<|Eb<|Eb<|trivial) (Hb<|Hc (aG _ _ rfl rfl rfl)<|Hc (aC _ _)<|Hc (aM _ _ _)<|Hc (aL _ _)<|Hc (bA rfl rfl)<|Hc (aT _ _ _)<|trivial) ⟨rfl,rfl,rfl,rfl,trivial⟩)⟩
 rintro _ -;clear hHe hAe hNe hq0 hp1 hp0 hh1 hh0 hA hNn hH;refine nZ (fun(q:bT×Nat)=>([(6,.ref 1100 0 0 0),(8,bv hd)],sH d (cC k a n false) (bK q.1 q.2))) (fun q=>qX d k=false∧eA q.1 q.2∧fU q.1∧q.1.length≤46*n∧∀ x,cU q.1 x=U2 d k a n x) ?_ ?_
 ·refine Sr<|Dd aF<|Dd (TA cV sizeOf70)<|Dd fH<|Dd (dX lK)<|Uu (by exact I4 rfl sizeOf70 rfl rfl rfl rfl rfl rfl rfl (by simp only [ZN,List.length_nil];omega) (by simp only [Zl,encStr];rfl) (by simp only [Zl,encStr];rfl))<|Zz<|Sq ?_;refine gP.ent (E':=[(0,.ref 1000 0 0 0),(6,.ref 1100 0 0 0),(8,bv hd),(9,sv (bW d 0))]) (H':=sH d (cC k a n false) (bK [] 0)) (cG.wk (Ea<|Ea<|Eb<|Eb<|trivial) (Hc (aG _ _ rfl rfl rfl)<|Hc (aC _ _)<|Hc (aM _ _ _)<|Hc (aL _ _)<|Hc (bA rfl rfl)<|Hc (aT _ _ _)<|trivial) ⟨rfl,rfl,rfl,rfl,trivial⟩) ?_;obtain ⟨ok,hok⟩:∃ ok,ok=yL d k a n:=⟨_,rfl⟩;rw [← hok] at hld hbad;clear hok;cases hd with
  | true =>
   refine Rg<|Dd aF<|Dd AJ<|Dd aF<|Fo<|Fo<|Fo<|Dd dU<|Dd aF<|On aF ?_;refine wG rfl rfl rfl (by rfl) rfl (aB rfl rfl call44 rfl hld) ?_;rintro _ _ ⟨rfl,l,c,q1,q2,q3,q4,rfl⟩;refine On AJ<|Dd dU<|Zz ?_;refine Cn ?_ ?_<;>intro hc7
   ·have hok:ok=false:=by have h:=hc7;simpa using h
    refine Sr<|Dd aS<|Dd aS<|Zz<|aN ?_;refine fW (H':=(bC d)) (.inr rfl) rfl (aI rfl) (aI rfl) (Fin.wk (by(simp;done)) (Hc (aG _ _ rfl rfl rfl)<|Hc (aC _ _)<|Hc (aM _ _ _)<|Hc (aL _ _)<|trivial) ⟨rfl,rfl,rfl,rfl,trivial⟩) ?_;exact .inl ⟨by rw [hbad,hok];rfl,rfl,rfl⟩
   have hok:ok=true:=by have h:=hc7;simpa using h
   refine aK ?_;exact⟨(l,c),⟨by rw [hbad,hok];rfl,q1,q2,q3,q4 hok⟩,(cG.wk (Ea<|Eb<|trivial) (Hc (aG _ _ rfl rfl rfl)<|Hc (aC _ _)<|Hc (aM _ _ _)<|Hc (aL _ _)<|Hc (bA rfl rfl)<|Hc (aT _ _ _)<|trivial) ⟨rfl,rfl,rfl,rfl,trivial⟩)⟩
  | false =>
   cases g69:(!decide (bW d 0=ofL (zB 64)))with
   | true =>
    have hbt:qX d k=true:=by
     rw [hbad,show decide (bW d 0=zS)=false by rw [Bool.not_eq_true'] at g69;exact g69];rfl
    refine Rg<|Dd aF<|Dd AJ<|Dd aF<|On aF<|On (by exact aB rfl rfl oP rfl (nW _))<|On OG<|Dd dU<|Dd aF<|Fa<|Fa<|Fa<|Dd UT<|Zz ?_;refine Cn ?_ ?_<;>intro hc8
    ·refine Sr<|Dd aS<|Dd aS<|Zz<|aN ?_;refine fW (H':=(bC d)) (.inr rfl) rfl (aI rfl) (aI rfl) (Fin.wk (by(simp;done)) (Hc (aG _ _ rfl rfl rfl)<|Hc (aC _ _)<|Hc (aM _ _ _)<|Hc (aL _ _)<|trivial) ⟨rfl,rfl,rfl,rfl,trivial⟩) ?_;exact .inl ⟨hbt,rfl,rfl⟩
    ((cases hc8;done))
   | false =>
    have hz:decide (bW d 0=zS)=true:=by rw [Bool.not_eq_false'] at g69;exact g69
    rw [hz] at hbad;refine Rg<|Dd aF<|Dd AJ<|Dd aF<|On aF<|On (by exact aB rfl rfl oP rfl (nW _))<|On OG<|Dd dU<|Dd aF<|Oa aF ?_;refine wG rfl rfl rfl (by assumption) rfl (aB rfl rfl call44 rfl hld) ?_;rintro _ _ ⟨rfl,l,c,q1,q2,q3,q4,rfl⟩;refine Oa AJ<|Dd LS<|Zz ?_;refine Cn ?_ ?_<;>intro hc9
    ·have hok:ok=false:=by have h:=hc9;simpa using h
     refine Sr<|Dd aS<|Dd aS<|Zz<|aN ?_;refine fW (H':=(bC d)) (.inr rfl) rfl (aI rfl) (aI rfl) (Fin.wk (by(simp;done)) (Hc (aG _ _ rfl rfl rfl)<|Hc (aC _ _)<|Hc (aM _ _ _)<|Hc (aL _ _)<|trivial) ⟨rfl,rfl,rfl,rfl,trivial⟩) ?_;exact .inl ⟨by rw [hbad,hok];rfl,rfl,rfl⟩
    have hok:ok=true:=by have h:=hc9;simpa using h
    refine aK ?_;exact⟨(l,c),⟨by rw [hbad,hok];rfl,q1,q2,q3,q4 hok⟩,(cG.wk (Ea<|Eb<|trivial) (Hc (aG _ _ rfl rfl rfl)<|Hc (aC _ _)<|Hc (aM _ _ _)<|Hc (aL _ _)<|Hc (bA rfl rfl)<|Hc (aT _ _ _)<|trivial) ⟨rfl,rfl,rfl,rfl,trivial⟩)⟩
 rintro⟨l,c⟩ ⟨hbf,q1,q2,q3,q4⟩;have hl0:([[PV.int .i64 1],[PV.int .i64 0]]:List (List PV))[0]?=some [PV.int .i64 1]:=rfl;have hl1:([[PV.int .i64 1],[PV.int .i64 0]]:List (List PV))[1]?=some [PV.int .i64 0]:=rfl;have hr1:=A3 h.inv hoff k a n 1 false hd l c (by decide) (by omega) (by omega) (by omega);have hon:=VL (place:=1) (a:=a) (n:=n) (hd:=hd) h (by omega) (by omega) (by omega);obtain ⟨x,hx⟩:∃ x,x=uF d 1 a n hd:=⟨_,rfl⟩;rw [← hx] at hr1 hon ⊢;obtain ⟨y,hy⟩:∃ y,y=uF x.2 0 a n hd:=⟨_,rfl⟩;rw [← hy];refine Sq<|Sr<|Dd (by exact bH [[.int .i64 1],[.int .i64 0]] rfl K8 rfl rfl rfl rfl rfl (by simp))<|Dd (qQ NJ)<|Dd aF<|Zz<|aP ?_;refine bR (σ:=Nat) (fun i=>([(6,.ref 1100 0 0 0),(8,bv hd),(76,.pv (.sl [[.int .i64 1],[.int .i64 0]])),(77,iv 2),(78,iv (i:Int))],sH (YS d x.2 y.2 i) (cC k a n false) (bK l c))) (fun i=>i≤2∧(0 < i→x.1=0)∧(1 < i→y.1=0)) (fun i=>2 - i) 0 ⟨by omega,fun h=>absurd h (Nat.lt_irrefl _),fun h=>absurd h (by omega)⟩ ?_ ?_
 ·exact(cG.wk (Ea<|Eb<|Eb<|Eb<|Eb<|trivial) (Hc (aG _ _ rfl rfl rfl)<|Hc (aC _ _)<|Hc (aM _ _ _)<|Hc (aL _ _)<|Hc (bA rfl rfl)<|Hc (aT _ _ _)<|trivial) ⟨rfl,rfl,rfl,rfl,trivial⟩)
 rintro i ⟨hi2,hx0,hy0⟩;have h3:i=0∨i=1∨i=2:=by omega
 rcases h3 with rfl|rfl|rfl
 ·refine Sr<|Dd eF<|Zz<|Sq ?_;refine Cn ?_ ?_<;>intro hc10
  ·refine aK<|Sq<|aP<|Sr<|Dd (by exact eT (m:=0) rfl K8 rfl rfl (by decide) rfl rfl rfl)<|Dd (AK aU)<|Dd aS<|Zz<|Sr<|Dd aF<|Dd aF<|Dd aF<|Dd (by exact aB rfl rfl call45 rfl (hr1))<|Dd aS<|Zz<|Sr<|Dd aF<|Dd uG<|Zz ?_;refine Cn ?_ ?_<;>intro hc11
   ·have he:¬ x.1=0:=by have h:=hc11;simpa using h
    refine Sr<|Dd aF<|Dd aS<|Dd aS<|Zz<|aN ?_;refine fW (H':=(bC x.2)) (.inr rfl) rfl (aI rfl) (aI rfl) (Fin.wk (by(simp;done)) (Hc (aG _ _ rfl rfl rfl)<|Hc (aC _ _)<|Hc (aM _ _ _)<|Hc (aL _ _)<|trivial) ⟨rfl,rfl,rfl,rfl,trivial⟩) ?_;exact .inr (.inl ⟨hbf,he,rfl,rfl⟩)
   have he:x.1=0:=by have h:=hc11;simpa using h
   have hb:(false||!decide (x.1=0))=false:=by rw [he];rfl
   rw [hb];refine aK<|Rg<|Dd rD<|Dd aF<|Zz ?_;refine⟨1,⟨by omega,fun _=>he,fun h=>absurd h (by omega)⟩,by omega,?_⟩;exact(cG.wk (Ea<|Eb<|Eb<|Eb<|Eb<|trivial) (Hc (aG _ _ rfl rfl rfl)<|Hc (aC _ _)<|Hc (aM _ _ _)<|Hc (aL _ _)<|Hc (bA rfl rfl)<|Hc (aT _ _ _)<|trivial) ⟨rfl,rfl,rfl,rfl,trivial⟩)
  cases hc10
 ·have he0:=hx0 (by omega);have hon:=hon he0;have hr0:=A3 hon.inv hon.off k a n 0 false hd l c (by decide) (by have:=hon.inv.n;omega) (by omega) (by omega);rw [← hy] at hr0;refine Sr<|Dd eF<|Zz<|Sq ?_;refine Cn ?_ ?_<;>intro hc12
  ·refine aK<|Sq<|aP<|Sr<|Dd (by exact eT (m:=1) rfl K8 rfl rfl (by decide) rfl rfl rfl)<|Dd (AK aU)<|Dd aS<|Zz<|Sr<|Dd aF<|Dd aF<|Dd aF<|Dd (by exact aB rfl rfl call45 rfl (hr0))<|Dd aS<|Zz<|Sr<|Dd aF<|Dd uG<|Zz ?_;refine Cn ?_ ?_<;>intro hc13
   ·have he:¬ y.1=0:=by have h:=hc13;simpa using h
    refine Sr<|Dd aF<|Dd aS<|Dd aS<|Zz<|aN ?_;refine fW (H':=(bC y.2)) (.inr rfl) rfl (aI rfl) (aI rfl) (Fin.wk (by(simp;done)) (Hc (aG _ _ rfl rfl rfl)<|Hc (aC _ _)<|Hc (aM _ _ _)<|Hc (aL _ _)<|trivial) ⟨rfl,rfl,rfl,rfl,trivial⟩) ?_;exact .inr (.inr (.inl ⟨hbf,he0,he,rfl,rfl⟩))
   have he:y.1=0:=by have h:=hc13;simpa using h
   have hb:(false||!decide (y.1=0))=false:=by rw [he];rfl
   rw [hb];refine aK<|Rg<|Dd rD<|Dd aF<|Zz ?_;refine⟨2,⟨by omega,fun _=>he0,fun _=>he⟩,by omega,?_⟩;exact(cG.wk (Ea<|Eb<|Eb<|Eb<|Eb<|trivial) (Hc (aG _ _ rfl rfl rfl)<|Hc (aC _ _)<|Hc (aM _ _ _)<|Hc (aL _ _)<|Hc (bA rfl rfl)<|Hc (aT _ _ _)<|trivial) ⟨rfl,rfl,rfl,rfl,trivial⟩)
  cases hc12
 have he0:=hx0 (by omega);have he1:=hy0 (by omega);refine Sr<|Dd eF<|Zz<|Sq ?_;refine Cn ?_ ?_<;>intro hc14
 ·cases hc14
 refine bL<|Sr<|Dd aF<|Dd aS<|Dd aS<|Zz<|aN ?_;refine fW (H':=(sH y.2 (cC k a n false) (bK l c))) (.inr rfl) rfl (aI rfl) (aI rfl) (Fin.wk (by(simp;rfl)) (Hc (aG _ _ rfl rfl rfl)<|Hc (aC _ _)<|Hc (aM _ _ _)<|Hc (aL _ _)<|Hc (bA rfl rfl)<|Hc (aT _ _ _)<|trivial) ⟨rfl,rfl,rfl,rfl,trivial⟩) ?_;exact .inr (.inr (.inr ⟨hbf,he0,he1,rfl,l,c,q1,q2,q3,q4,rfl⟩))
end Go.Proofs.YtmkgeogoojcciaaGreatDoor
section
namespace Go.Abs
theorem bN.eqv {P:Program} {N:Nat} {o:Oper} {E:bJ} {H H':aA} {v v':AV} (h:bN P N o E H v H') (e:v=v'):bN P N o E H v' H':=e▸h
end Go.Abs
namespace Go.Proofs.YtmkgeogoojcciaaGreatDoor
open Go.Proofs.Tryz
open Go.Abs Go.Lib
theorem IA (d:DSt) (k a n:Nat) (b:Bool) (l:bT) (c:Nat) (key:ByteArray) :
  aJ Tryz.prog 24 [.ref 1100 0 0 0,sv key] (sH d (cC k a n b) (bK l c)) (fun r H'=>r=.tup [sv (fF l key),bv (cU l key).isSome]∧H'=sH d (cC k a n b) (bK l c)):=by
 have hr:(.tup [((lI (FM (bQ l)) key).getD (sv sNil)),.pv (.bool (lI (FM (bQ l)) key).isSome)]:AV)=.tup [sv (fF l key),bv (cU l key).isSome]:=by
  rw [C2,uW]
 refine Bd func24 rfl ntmps24<|Sr<|Dd aS<|Dd aS<|Zz<|Sq<|Sr<|Dd aF<|Dd (by exact cT rfl fY rfl rfl rfl rfl)<|Zz ?_;refine Cn ?_ ?_<;>intro hc1
 ·cases hc1
 refine aK<|Sr<|Dd aF<|Dd fH<|Dd (dX rS)<|Dd (eQ bS)<|Dd aF<|Dd (by exact bN.eqv (FP (κ:=fX) (k:=key) (l:=bQ l) rfl aV aH rfl rfl rfl rfl rfl fC (.inl rfl)) hr)<|Dd aF<|Dd eR<|Dd eR<|Dd aS<|Dd aS<|Zz<|Sr<|Dd aF<|Dd aF<|Dd aS<|Dd aS<|Zz<|aN ?_;refine fW (H':=(sH d (cC k a n b) (bK l c))) (.inr rfl) rfl (aI rfl) (aI rfl) (Fin.wk (by(simp;done)) (Hc (aG _ _ rfl rfl rfl)<|Hc (aC _ _)<|Hc (aM _ _ _)<|Hc (aL _ _)<|Hc (bA rfl rfl)<|Hc (aT _ _ _)<|trivial) ⟨rfl,rfl,rfl,rfl,rfl,rfl,trivial⟩) ?_;exact Qq
theorem TF (d:DSt) (k a n:Nat) (b:Bool) (l:bT) (c:Nat) (hst:eA l c) (hl:l.length < 1099511627776) :
  aJ Tryz.prog 19 [.ref 1100 0 0 0] (sH d (cC k a n b) (bK l c)) (fun r H'=>r=.pv (aY (eD l))∧H'=sH d (cC k a n b) (bK l c)):=by
 have hcl:bG ((951,RZ 1101)::sH d (cC k a n b) (bK l c)):=bG.app (D:=[(951,RZ 1101)]) (kV.spec ⟨by
  intro r hr x hx;simp only [bx,ZO] at hr;subst hr;rw [ZO] at hx;subst hx;exact .mp rfl,trivial⟩) (pY _ _ _ _ _ _ _)
 have hso:=CA (L:=l.map Prod.fst) (by rw [ZL];exact hl) YO ((951,RZ 1101)::sH d (cC k a n b) (bK l c)) (J0 1101 l c _ hl hst rfl rfl (by decide)) rfl rfl rfl rfl hcl (by simp;rfl);change aJ _ _ _ _ fun r H'=>r=.pv (aY (eD l))∧H'=_ at hso;refine Bd func19 rfl ntmps19<|Sr<|Dd aS<|Zz<|Sq<|Sr<|Dd aF<|Dd (by exact cT rfl fY rfl rfl rfl rfl)<|Zz ?_;refine Cn ?_ ?_<;>intro hc1
 ·cases hc1
 refine aK<|Sr<|Dd aF<|Dd fH<|Dd (dX rS)<|Dd (eQ bS)<|Dd (by exact aB rfl rfl Y0 rfl (JZ 1101 _ rfl rfl))<|Dd (by exact aB rfl rfl DZ rfl (hso))<|Dd aS<|Zz<|aN ?_;refine bD (H':=(sH d (cC k a n b) (bK l c))) (.inr rfl) rfl (aI rfl) (Fin.wk (by(simp;done)) (Hc (aG _ _ rfl rfl rfl)<|Hc (aC _ _)<|Hc (aM _ _ _)<|Hc (aL _ _)<|Hc (bA rfl rfl)<|Hc (aT _ _ _)<|trivial) ⟨rfl,rfl,rfl,rfl,rfl,rfl,trivial⟩) ?_;exact Qq
end Go.Proofs.YtmkgeogoojcciaaGreatDoor
end
namespace Go.Proofs.YtmkgeogoojcciaaGreatDoor
open Go.Proofs.Tryz
open Go.Abs Go.Lib
theorem qC {d:DSt} {N k a n:Nat} {C:CT} (hc:Calm d N) (hI:SInv d.cells k a n C) (hN:4≤N) (hk:k=(N - 2) / 2) :
  aJ Tryz.prog 12 [.ref 1000 0 0 0] (bC d) (fun r H'=>r=.tup [.ref 1100 0 0 0,iv 0]∧∃ l c,eA l c∧fU l∧l.length≤46*n∧(∀ x,cU l x=C x)∧H'=sH d (cC k a n false) (bK l c)):=by
 have hn2:=hc.inv.ok.n2;have hcn:=hc.inv.n;obtain ⟨o1,o2,o3,o4,o5,o6,o7⟩:=MZ hc hI (by omega);have ho:=SW hc.on hN k a n (JR d k) hk o1.symm o2.symm rfl;have hb:qX d k=false:=by
  rw [qX,o1,o2,o4];rcases o3 with o3|o3
  ·rw [o3];rfl
  rw [o3.1,o3.2,decide_eq_true rfl];rfl
 have r1:uF d 1 a n (JR d k)=(0,d):=by rw [uF,ZK o6]
 have r0:uF d 0 a n (JR d k)=(0,d):=by rw [uF,ZK o7]
 rw [hb,r1,r0] at ho;refine ho.mono ?_;rintro r H' (⟨h,_⟩|⟨_,h,_⟩|⟨_,_,h,_⟩|⟨_,_,_,rfl,l,c,q1,q2,q3,q4,rfl⟩)
 ·cases h
 ·exact absurd rfl h
 ·exact absurd rfl h
 exact⟨rfl,l,c,q1,q2,q3,fun x=>by rw [q4,o5],rfl⟩
theorem pB {s:ByteArray} (h:dB s=true):s.size≤200:=by rw [dB,ZU,ZS] at h;have:=h.2;omega
theorem vN {l2:bT} {P:List ByteArray} (hw:bE l2 P=0) (hl:l2.length≤1000) (hP:P.length≤1000):(aZ l2 (fA P)).length < 100000000:=by
 obtain ⟨k1,k2⟩:=nG hw;have hD:=qL P;have h:=oS (l:=l2) (P:=fA P) (M:=20000) (by decide) (by decide) (fun p hp=>by
  have:=k1 p hp;have:=pB this.1;omega) (fun s hs=>by
  have:=pB (k2 s (mB.1 hs));omega) (by omega)
 have h8:(2*l2.length+2+(fA P).length)*(20000+22)≤3002*20022:=Nat.mul_le_mul (by omega) (by omega);omega
theorem G8 {cells:List ByteArray} {k a n:Nat} {C:CT} (hI:SInv cells k a n C) (hk:k < 4000) {l:bT} (hn:fU l) (hl:∀ x,cU l x=C x):(aZ l []).length < 100000000000:=by
 have hw:=hI.wrong hn hl;have hlen:=hI.len hn hl;have hnk:=hI.nk;obtain ⟨k1,k2⟩:=nG hw;have h:=oS (l:=l) (P:=[]) (M:=20000) (by decide) (by decide) (fun p hp=>by
  have:=k1 p hp;have:=pB this.1;omega) (fun s hs=>by cases hs) (by rw [List.length_nil];omega)
 have h8:(2*l.length+2+([]:List ByteArray).length)*(20000+22)≤400000*20022:=Nat.mul_le_mul (by rw [List.length_nil];omega) (by omega);omega
def xG (k n:Nat) (l2:bT) (P:List ByteArray):Int:=if wC k n false l2 P = -1 then 0 else wC k n false l2 P
theorem FX {C:CT} {l2:bT} {D:List ByteArray} (h:l2.length+D.length=0):pM C l2 D=C:=by have h1:l2=[]:=List.length_eq_zero_iff.1 (by omega);have h2:D=[]:=List.length_eq_zero_iff.1 (by omega);subst h1 h2;funext x;rw [pM,ZJ Z2];show ((none:Option ByteArray).orElse fun _=>C x)=C x;rfl
theorem nB (k n:Nat) (l2:bT) (P:List ByteArray) :
  (wC k n false l2 P=0∧bE l2 P=0∧l2.length+(fA P).length=0)∨(wC k n false l2 P = -1∧bE l2 P=0∧0 < l2.length+(fA P).length∧n+cR (aZ l2 (fA P))≤k) ∨
  (wC k n false l2 P=21∧bE l2 P=0∧0 < l2.length+(fA P).length∧k < n+cR (aZ l2 (fA P)))∨(wC k n false l2 P=bE l2 P∧¬ bE l2 P=0):=by
 have e:wC k n false l2 P=if ¬ bE l2 P=0 then bE l2 P else if l2.length+(fA P).length=0 then 0 else if k < n+cR (aZ l2 (fA P))then 21 else -1:=ZJ Bool.false_ne_true
 rw [e];by_cases h1:bE l2 P=0
 ·rw [ZJ (fun h=>h h1)];by_cases h2:l2.length+(fA P).length=0
  ·rw [ZK h2];exact .inl ⟨rfl,h1,h2⟩
  rw [ZJ h2];by_cases h3:k < n+cR (aZ l2 (fA P))
  ·rw [ZK h3];exact .inr (.inr (.inl ⟨rfl,h1,by omega,h3⟩))
  rw [ZJ h3];exact .inr (.inl ⟨rfl,h1,by omega,by omega⟩)
 rw [ZK h1];exact .inr (.inr (.inr ⟨rfl,h1⟩))
structure St (N k:Nat) (tl:List ByteArray) (d:DSt) (a n:Nat) (l:bT) (c:Nat) (C:CT):Prop where
 calm:Calm d N
 inv:SInv d.cells k a n C
 st:eA l c
 nd:fU l
 kv:∀ x,cU l x=C x
 tl:d.cells.drop (2*k+2)=tl
theorem WD {cells S:List ByteArray} {p k:Nat} {x y:ByteArray} (h:p+S.length≤2*k+2):(((kQ cells p S).set 1 x).set 0 y).drop (2*k+2)=cells.drop (2*k+2):=by refine List.ext_getElem? fun j=>?_;rw [List.getElem?_drop,List.getElem?_drop,List.getElem?_set_ne (by omega),List.getElem?_set_ne (by omega),iQ,ZJ (by omega)]
theorem OC {N k:Nat} {tl:List ByteArray} {d:DSt} {a n:Nat} {l l':bT} {c c':Nat} {C:CT} (h:St N k tl d a n l c C) (hk:k < 4000) {l2:bT} {P:List ByteArray} (hn2:fU l2) (hw:bE l2 P=0) (h0:0 < l2.length+(fA P).length) (hfit:n+cR (aZ l2 (fA P))≤k) (q1:eA l' c') (q2:fU l') (q4:∀ x,cU l' x=pM (cU l) l2 (fA P) x) :
  (jH d k a n (aZ l2 (fA P))).1=0∧St N k tl (jH d k a n (aZ l2 (fA P))).2 a (n+cR (aZ l2 (fA P))) l' c' (pM C l2 (fA P)):=by
 have hkn:=h.inv.kn;have hcn:=h.calm.inv.n;have hak:a*k≤k:=by
  have:=h.inv.a2;rcases(show a=0∨a=1 by omega)with e|e<;>subst e<;>omega
 obtain ⟨a1,a2,a3⟩:=tZ h.calm (k:=k) (a:=a) (cn:=n) (t:=aZ l2 (fA P)) (by omega) (by have:=h.calm.inv.ok.n2;omega) h.inv.a2 hfit;have hw2:bE l2 (fA P)=0:=by
  obtain ⟨k1,k2⟩:=nG hw;exact yM (fun p hp=>⟨(k1 p hp).1,fun hm=>(k1 p hp).2.1 (mB.1 hm),(k1 p hp).2.2⟩) (fun s hs=>k2 s (mB.1 hs))
 refine⟨a1,a2,?_,q1,q2,fun x=>?_,?_⟩
 ·rw [a3];exact OK h.inv hn2 (zF P) h0 hw2 hfit (by omega)
 ·rw [q4,pM,pM,h.kv]
 rw [a3,WD (by rw [dJ];omega)];exact h.tl
theorem iK {N k:Nat} {tl:List ByteArray} {d:DSt} {a n:Nat} {l:bT} {c:Nat} {C:CT} (h:St N k tl d a n l c C) (hk:k < 4000) (l2:bT) (c2:Nat) (P:List ByteArray) (hst2:eA l2 c2) (hnd2:fU l2) (hl2:l2.length≤1000) (hP:P.length≤1000) :
  aJ Tryz.prog 14 [.ref 1100 0 0 0,.mp 950 0,.pv (aY P)] ((950,bK l2 c2)::sH d (cC k a n false) (bK l c)) (fun r H'=>r=iv (xG k n l2 P)∧∃ d' n' l' c',St N k tl d' a n' l' c' (if xG k n l2 P=0 then pM C l2 (fA P)else C)∧n'=(if wC k n false l2 P = -1 then n+cR (aZ l2 (fA P))else n)∧H'=(950,bK l2 c2)::sH d' (cC k a n' false) (bK l' c')):=by
 have hcm:=MS h.calm.inv k a n false l c l2 c2 P hk h.inv.a2 h.inv.nk (by omega) h.st h.nd hst2 hnd2 (by omega) (by omega) (fun hw=>vN hw hl2 hP);refine hcm.mono ?_;have hcs:=nB k n l2 P;rintro r H' (⟨h1,rfl,rfl⟩|⟨h1,h2,rfl,rfl⟩|⟨h1,h2,rfl,l',c',q1,q2,q3,q4,rfl⟩)
 ·have hE:xG k n l2 P=wC k n false l2 P:=ZJ h1;rw [hE,ZJ h1];refine⟨rfl,d,n,l,c,?_,rfl,rfl⟩;rcases hcs with⟨e1,e2,e3⟩|⟨e1,_⟩|⟨e1,_⟩|⟨e1,e2⟩
  ·rw [ZK e1,FX e3];exact h
  ·exact absurd e1 h1
  ·rw [ZJ (by rw [e1];decide)];exact h
  rw [ZJ (by rw [e1];exact e2)];exact h
 ·exfalso;rcases hcs with⟨e1,_⟩|⟨e1,e2,e3,e4⟩|⟨e1,_⟩|⟨e1,e2⟩
  ·rw [h1] at e1;cases e1
  ·exact h2 (tZ h.calm (k:=k) (a:=a) (cn:=n) (t:=aZ l2 (fA P)) (by have:=h.inv.kn;have:=h.calm.inv.n;omega) (by have:=h.calm.inv.ok.n2;have:=h.calm.inv.n;omega) h.inv.a2 e4).1
  ·rw [h1] at e1;cases e1
  rw [h1] at e1;have:=fL l2 P;omega
 have hE:xG k n l2 P=0:=ZK h1;rw [hE,ZK rfl,ZK h1];rcases hcs with⟨e1,_⟩|⟨e1,e2,e3,e4⟩|⟨e1,_⟩|⟨e1,e2⟩
 ·rw [h1] at e1;cases e1
 ·exact⟨rfl,_,_,l',c',(OC h hk hnd2 e2 e3 e4 q1 q2 q4).2,rfl,rfl⟩
 ·rw [h1] at e1;cases e1
 rw [h1] at e1;have:=fL l2 P;omega
theorem tU {N k:Nat} {tl:List ByteArray} {d:DSt} {a n:Nat} {l:bT} {c:Nat} {C:CT} (h:St N k tl d a n l c C) (hk:k < 4000) (P:List ByteArray) (hP:P.length≤1000) :
  aJ Tryz.prog 14 [.ref 1100 0 0 0,.pv .nilm,.pv (aY P)] (sH d (cC k a n false) (bK l c)) (fun r H'=>r=iv (xG k n [] P)∧∃ d' n' l' c',St N k tl d' a n' l' c' (if xG k n [] P=0 then pM C [] (fA P)else C)∧n'=(if wC k n false [] P = -1 then n+cR (aZ [] (fA P))else n)∧H'=sH d' (cC k a n' false) (bK l' c')):=by
 have hcm:=MT h.calm.inv k a n false l c P hk h.inv.a2 h.inv.nk (by omega) h.st h.nd (by omega) (fun hw=>vN hw (by decide) hP);refine hcm.mono ?_;have hcs:=nB k n [] P;rintro r H' (⟨h1,rfl,rfl⟩|⟨h1,h2,rfl,rfl⟩|⟨h1,h2,rfl,l',c',q1,q2,q3,q4,rfl⟩)
 ·have hE:xG k n [] P=wC k n false [] P:=ZJ h1;rw [hE,ZJ h1];refine⟨rfl,d,n,l,c,?_,rfl,rfl⟩;rcases hcs with⟨e1,e2,e3⟩|⟨e1,_⟩|⟨e1,_⟩|⟨e1,e2⟩
  ·rw [ZK e1,FX e3];exact h
  ·exact absurd e1 h1
  ·rw [ZJ (by rw [e1];decide)];exact h
  rw [ZJ (by rw [e1];exact e2)];exact h
 ·exfalso;rcases hcs with⟨e1,_⟩|⟨e1,e2,e3,e4⟩|⟨e1,_⟩|⟨e1,e2⟩
  ·rw [h1] at e1;cases e1
  ·exact h2 (tZ h.calm (k:=k) (a:=a) (cn:=n) (t:=aZ [] (fA P)) (by have:=h.inv.kn;have:=h.calm.inv.n;omega) (by have:=h.calm.inv.ok.n2;have:=h.calm.inv.n;omega) h.inv.a2 e4).1
  ·rw [h1] at e1;cases e1
  rw [h1] at e1;have:=fL [] P;omega
 have hE:xG k n [] P=0:=ZK h1;rw [hE,ZK rfl,ZK h1];rcases hcs with⟨e1,_⟩|⟨e1,e2,e3,e4⟩|⟨e1,_⟩|⟨e1,e2⟩
 ·rw [h1] at e1;cases e1
 ·exact⟨rfl,_,_,l',c',(OC h hk yF e2 e3 e4 q1 q2 q4).2,rfl,rfl⟩
 ·rw [h1] at e1;cases e1
 rw [h1] at e1;have:=fL [] P;omega
def UQ (k:Nat) (l:bT):Int:=if k < cR (cD l)then 21 else 0
theorem xR {N k:Nat} {tl:List ByteArray} {d:DSt} {a n:Nat} {l:bT} {c:Nat} {C:CT} (h:St N k tl d a n l c C) (hk:k < 4000) :
  aJ Tryz.prog 21 [.ref 1100 0 0 0] (sH d (cC k a n false) (bK l c)) (fun r H'=>r=iv (UQ k l)∧∃ d' a' n',St N k tl d' a' n' l c C∧(UQ k l=0→d'.cells=jT k (cD l) tl)∧H'=sH d' (cC k a' n' false) (bK l c)):=by
 have hkn:=h.inv.kn;have hcn:=h.calm.inv.n;have hlen:=h.inv.len h.nd h.kv;have hnk:=h.inv.nk;have hsc:=OP h.calm.inv k a n l c hk (by omega) h.inv.a2 h.inv.nk (by omega) h.st (by omega) (G8 h.inv hk h.nd h.kv);refine hsc.mono ?_;rintro r H' (⟨h1,rfl,rfl⟩|⟨h1,rfl,a',n',q1,q2,q3,rfl⟩)
 ·have hE:UQ k l=21:=ZK h1;rw [hE];exact⟨rfl,d,a,n,h,fun e=>(by cases e),rfl⟩
 have hE:UQ k l=0:=ZJ (by omega);obtain ⟨s1,s2,s3⟩:=QT h.calm (k:=k) (a:=a) (w:=cD l) (by omega) (by have:=h.calm.inv.ok.n2;omega) h.inv.a2 h1;obtain ⟨rfl,rfl⟩:=q3 s1;rw [hE,s1];have htl:(jT k (cD l) tl).drop (2*k+2)=tl:=by
  have e1:jT k (cD l) tl=(hS 0 0 (cR (cD l))::hS 1 0 (cR (cD l))::(jN 2 (cD l) (cR (cD l))++(zR (k - cR (cD l))++zR k)))++tl:=by rw [jT];simp only [List.cons_append,List.append_assoc]
  rw [e1];exact List.drop_left' (by rw [ZN,ZN,ZM,dJ,ZM,List.length_replicate,List.length_replicate];omega)
 rw [h.tl] at s3;have hiv:=G9 h.inv h.nd h.kv h1 (by omega);rw [h.tl] at hiv;exact⟨rfl,_,0,cR (cD l),⟨s2,by rw [s3];exact hiv,h.st,h.nd,h.kv,by rw [s3,htl]⟩,fun _=>s3,rfl⟩
theorem OA {N:Nat} (h1:4≤N) (h2:N≤8000) {l:bT} {c:Nat} (q1:eA l c) (q2:fU l) (q3:∀ x,cU l x=none):St N ((N - 2) / 2) ((lO N).cells.drop (2*((N - 2) / 2)+2)) (lO N) 0 0 l c (fun _=>none) :=⟨tY (by omega) h2,sM h1,q1,q2,q3,rfl⟩
theorem E5 (key value:ByteArray) (H:aA) (h:H.get 950=none):aJ Tryz.prog 23 [sv key,sv value] H (fun r H'=>r=.mp 950 0∧H'=(950,bK (dY [(key,value)]).1 (dY [(key,value)]).2)::H):=by refine Bd func23 rfl ntmps23<|Sr<|Dd aS<|Zz<|Sr<|Dd (by exact lW (id:=950) fX rfl h)<|Dd aF<|Dd aF<|Uu (by exact D4 (κ:=fX) (.inr rfl) aV aH rfl rfl rfl rfl rfl rfl rfl rfl)<|Dd aF<|Dd aS<|Zz<|aN ?_;refine bD (H':=((950,bK (dY [(key,value)]).1 (dY [(key,value)]).2)::H)) (.inr rfl) rfl (aI rfl) (Fin.get' (fun j=>iT _ _ _ _ j)) ?_;exact Qq
theorem LD (a b:List ByteArray) (H:aA) (ha:a.length < 1000000000) (hb:b.length < 1000000000):aJ Tryz.prog 54 [.pv (aY a),.pv (aY b)] H (fun r H'=>r=bv (decide (a=b))∧H'=H):=by
 refine Pu ?_;have hma:(a.map encStr).length=a.length:=ZL _;have hmb:(b.map encStr).length=b.length:=ZL _;refine Bd func54 rfl ntmps54<|Sr<|Dd aS<|Zz<|Sq<|Sr<|Dd aF<|Dd (qQ aQ)<|Dd aF<|Dd (qQ aQ)<|Dd uG<|Zz ?_;refine Cn ?_ ?_<;>intro hc1
 ·have hq:¬ a.length=b.length:=by have h:=hc1;simp at h;omega
  have hf:decide (a=b)=false:=decide_eq_false fun e=>hq (by rw [e]);rw [hf];exact Sr<|Dd aS<|Zz<|aN<|Rt<|Qq
 have hq:a.length=b.length:=by have h:=hc1;simp at h;omega
 refine aK<|Sq<|Sr<|Dd aS<|Zz<|aP ?_;refine bR (σ:=Nat) (fun k=>([(0,.pv (aY a)),(1,.pv (aY b)),(5,iv (k:Int))],[])) (fun k=>k≤a.length∧a.take k=b.take k) (fun k=>a.length - k) 0 ⟨Z3 _,rfl⟩ ?_ ?_
 ·exact Wk
 rintro k ⟨hk,hs⟩;refine Sq<|Sr<|Dd aF<|Dd aF<|Dd (qQ aQ)<|Dd eF<|Zz ?_;refine Cn ?_ ?_<;>intro hc2
 ·have hlt:k < a.length:=by have:=ZH hc2;omega
  obtain ⟨x,hx⟩:=bM hlt;obtain ⟨y,hy⟩:=bM (l:=b) (k:=k) (by omega);have hix:=fV (f:=encStr) hx;have hiy:=fV (f:=encStr) hy;refine aK<|Sq<|aP<|Sq<|bU follows<|Cq aF<|Cq aF<|Cq (KV cK)<|Cq (AK bB)<|Cq aF<|Cq aF<|Cq (KV cK)<|Cq (AK bB)<|Cq OG<|dO<|Kr ?_;refine Cn ?_ ?_<;>intro hc3
  ·have hne:¬ x=y:=by have h:=hc3;simpa using h
   have hf:decide (a=b)=false:=decide_eq_false fun e=>hne (by rw [e,hy] at hx;cases hx;rfl);rw [hf];exact Sr<|Dd aS<|Zz<|aN<|Rt<|Qq
  have he:x=y:=by have h:=hc3;simpa using h
  refine aK<|Rg<|Dd aF<|Dd rD<|Da ?_;refine⟨k+1,⟨by omega,?_⟩,by omega,Wk⟩;rw [dR hx,dR hy,hs,he]
 have hge:k=a.length:=by have:=ZI hc2;omega
 have ht:decide (a=b)=true:=decide_eq_true (by
  rw [← List.take_length (l:=a),← hge,hs,hge,hq,List.take_length])
 rw [ht];exact bL<|Sr<|Dd aS<|Zz<|aN<|Rt<|Qq
theorem OQ (a b:List ByteArray) (H:aA) (ha:a.length < 1000000000) (hb:b.length < 1000000000):aJ Tryz.prog 17 [.pv (aY a),.pv (aY b)] H (fun r H'=>r=bv (decide (a=b))∧H'=H):=by refine Pu ?_;exact Bd func17 rfl ntmps17<|Sr<|Dd aS<|Zz<|Sr<|Dd aF<|Dd aF<|Dd (by exact aB rfl rfl call54 rfl (LD a b _ ha hb))<|Dd aS<|Zz<|aN<|Rt<|Qq
end Go.Proofs.YtmkgeogoojcciaaGreatDoor
namespace Go.Abs
theorem jC {P:Program} {G0:aA} {N:Nat} {ops:Array Oper} {K:bJ→aA→Prop} {l:List Oper} {E E':bJ} {H H':aA} (he:cG G0 E H E' H') (h:AL P G0 N ops K l E' H'):AL P G0 N ops K l E H :=fun G hG a w hs ro hro Q hq=>h G hG a w (he G hG N a w hs) ro hro Q hq
end Go.Abs
namespace Go.Proofs.YtmkgeogoojcciaaGreatDoor
open Go.Proofs.Tryz
open Go.Abs Go.ChangeShapes Go.WideShapes Go.ChangeAt Go.RowKit
theorem own:ownKnob Tryz.prog.godebug=none:=by kernel_rfl
theorem JX:laidOutB Tryz.prog=true:=by kernel_rfl
theorem GT {H:Type} {l:List (DataW H)} (hk:Rows.uptoSmall H l=true):Rows.uptoBulkAll l≤1048576:=ZH hk
theorem M2 {H:Type} {l r:List (DataW H)} {n:Nat} (h:Rows.uptoBulkAll (l++r)≤n):Rows.uptoBulkAll l≤n:=by
 induction l generalizing n with
 | nil=>simp [Rows.uptoBulkAll]
 | cons x l ih =>
  simp only [List.cons_append,Rows.uptoBulkAll] at h ⊢;have:=ih (n:=n - Rows.uptoBulk x) (by omega);omega
theorem YE {B n:Nat} {ps:List PV} (h:Sh Tryz.prog B (n+1) 5 ps):∃ i,ps=[.int .u8 i]∧0≤i∧i≤255:=by obtain ⟨i,rfl,hi⟩:=OM bI h;exact⟨i,rfl,by simpa [Lit.wf,IntKind.min,IntKind.max,IntKind.signed,IntKind.bits] using hi⟩
theorem XE {B n:Nat} {ps:List PV} (h:Sh Tryz.prog B (n+1) 48 ps):∃ i,ps=[.int .u16 i]∧0≤i∧i≤65535:=by obtain ⟨i,rfl,hi⟩:=OM underlying48 h;exact⟨i,rfl,by simpa [Lit.wf,IntKind.min,IntKind.max,IntKind.signed,IntKind.bits] using hi⟩
end Go.Proofs.YtmkgeogoojcciaaGreatDoor
namespace Go.Abs
theorem aJ.frameQ {P:Program} {f:FuncId} {args:List AV} {H0 H:aA} {R:AV→aA→Prop} (h:aJ P f args H0 R) (hs:Sub H0 H) (hc:bG H0) (ha:∀ a∈args,Clo H0 a)
  (hk0:∀ r H1,R r H1→∀ id,(H1.get id).isSome=true→(H0.get id).isSome=true∨H.get id=none):aJ P f args H (fun r H'=>∃ K,R r K∧H'=K++H):=by
 intro I ι w vs hr hl hv;refine(h I ι w vs (hr.restrict hs hc) hl (fun i v a h1 h2=>(hv i v a h1 h2).restrict hs (ha a (ZW h2)))).mono ?_;rintro e w' ⟨r,H',I',ι',v,rfl,hR,k1,k2,k3⟩;have hk:=hk0 r H' hR;obtain ⟨ι2,hι2⟩:∃ ι2:cB,ι2=(fun j=>if(H'.get j).isSome=true then ι' j else ι j):=⟨_,rfl⟩;have i1:∀ j o,H'.get j=some o→ι2 j=ι' j:=fun j o hj=>by rw [hι2];simp [hj]
 have i2:∀ j,H'.get j=none→ι2 j=ι j:=fun j hj=>by rw [hι2];simp [hj]
 have g1:∀ j o,H'.get j=some o→aA.get (H'++H) j=some o:=fun j o hj=>by rw [eZ,hj]
 have g2:∀ j,H'.get j=none→aA.get (H'++H) j=H.get j:=fun j hj=>by rw [eZ,hj]
 have hfr:∀ j o,H.get j=some o→H'.get j=none→H0.get j=none:=fun j o hj hn=>by
  cases e:H0.get j with
  | none=>rfl
  | some o0 =>
   obtain ⟨o',e1,_⟩:=k3.objs j o0 e;rw [hn] at e1;cases e1
 have hno:∀ j o b c,H.get j=some o→H'.get j=none→ι j=some (b,c)→¬ uM ι H0 b:=fun j o b c hj hn hb ⟨j',o',c',hj',hb'⟩=>by
  have:=hr.inj j j' o o' b c c' hj (hs _ _ hj') hb hb';subst this;rw [hfr j o hj hn] at hj';cases hj'
 have hst:Step I ι H w I' ι2 (H'++H) w':=by
  refine⟨k3.os,k3.tape,k3.output,k3.size,fun a ha hn=>k3.froz a ha (fun h=>hn (h.sub hs)),k3.imm,fun b hb=>?_,?_,?_,?_⟩
  ·rcases k3.immNew b hb with h1|h1|h1
   ·exact .inl h1
   ·exact .inr (.inl (h1.sub hs))
   exact .inr (.inr h1)
  ·rintro b ⟨j,o,c,hj,hc⟩;cases e:H'.get j with
   | some o' =>
    rw [i1 j o' e] at hc;rcases k3.own b ⟨j,o',c,e,hc⟩with h1|h1
    ·exact .inl (h1.sub hs)
    exact .inr h1
   | none =>
    rw [i2 j e] at hc;rw [g2 j e] at hj;exact .inl ⟨j,o,c,hj,hc⟩
  ·intro b hb hn;exact k3.keep b hb (fun h=>hn (h.sub hs))
  intro j o hj;cases e:H'.get j with
  | some o' =>
   rcases hk j (by rw [e];rfl)with h1|h1
   ·obtain ⟨o0,e0⟩:=Option.isSome_iff_exists.1 h1;have:=hs _ _ e0;rw [hj] at this;cases this;obtain ⟨o2,q1,q2,q3⟩:=k3.objs j o e0;exact⟨o2,g1 j o2 q1,q2,fun e=>by rw [i1 j o2 q1];exact q3 e⟩
   rw [hj] at h1;cases h1
  | none=>exact⟨o,(g2 j e).trans hj,ZR _,fun _=>⟨i2 j e,rfl,fun _=>ZR _⟩⟩
 have hv':∀ {v:Value} {a:AV},VRel w' I' ι' H' v a→VRel w' I' ι2 (H'++H) v a:=fun hva =>
  hva.mono' (fun _ _=>rfl) (fun _ h=>h) (fun id o ho=>⟨o,g1 id o ho,ZR _,fun _=>⟨i1 id o ho,rfl,fun _=>ZR _⟩⟩)
 refine⟨r,H'++H,I',ι2,v,rfl,⟨H',hR,rfl⟩,hv' k1,⟨k2.imm,fun j o hj=>?_,fun j j' o o' b c c' hj hj' hc hc'=>?_,k2.glob⟩,hst⟩
 ·cases e:H'.get j with
  | some o' =>
   rw [g1 j o' e] at hj;obtain rfl:o'=o:=Option.some.inj hj;exact(k2.obj j o' e).keep (i1 j o' e) (fun _ _ _ _=>⟨rfl,fun h=>h⟩) (fun r _ a _ v hv=>hv' hv)
  | none =>
   rw [g2 j e] at hj;refine(hr.obj j o hj).keep (i2 j e) (fun b' cap' e1 hlt=>⟨k3.keep b' hlt (hno j o b' cap' hj e e1),fun e3 hi=>?_⟩) (fun r _ a _ v hv=>hv.mono hr hst);rcases k3.immNew b' hi with h1|h1|h1
   ·exact e3 h1
   ·exact hno j o b' cap' hj e e1 h1
   omega
 cases e:H'.get j with
 | some q =>
  rw [i1 j q e] at hc;cases e':H'.get j' with
  | some q' =>
   rw [i1 j' q' e'] at hc';exact k2.inj j j' q q' b c c' e e' hc hc'
  | none =>
   rw [i2 j' e'] at hc';rw [g2 j' e'] at hj';have hlt:=hr.lt ⟨j',o',c',hj',hc'⟩;rcases k3.own b ⟨j,q,c,e,hc⟩with h1|h1
   ·exact absurd h1 (hno j' o' b c' hj' e' hc')
   omega
 | none =>
  rw [i2 j e] at hc;rw [g2 j e] at hj;cases e':H'.get j' with
  | some q' =>
   rw [i1 j' q' e'] at hc';have hlt:=hr.lt ⟨j,o,c,hj,hc⟩;rcases k3.own b ⟨j',q',c',e',hc'⟩with h1|h1
   ·exact absurd h1 (hno j o b c hj e hc)
   omega
  | none =>
   rw [i2 j' e'] at hc';rw [g2 j' e'] at hj';exact hr.inj j j' o o' b c c' hj hj' hc hc'
end Go.Abs
namespace Go.Proofs.YtmkgeogoojcciaaGreatDoor
open Go.Proofs.Tryz
open Go.Abs Go.Lib
def zW (n:Nat):Nat:=if 1000≤n∧n < 1200 then n+2000 else if 3000≤n∧n < 3200 then n - 2000 else n
theorem I9 (n:Nat):zW (zW n)=n:=by
 unfold zW
 repeat' split
 all_goals omega
def Q9 (ga:Nat):Arm→AV
 | .never=>.pv .nilp
 | .off _ _ _=>.pv .nilp
 | .on _ _ _=>.ref 3003 ga 0 0
abbrev BV (s:DSt):List AV:=[.osl 3001 0 0 (64*s.cells.length),.osl 3002 s.gq 0 s.q.length,bv s.off,Q9 s.ga s.arm]
abbrev kK (s:DSt):aA:=[(3000,⟨0,4,80,[BV s]⟩),(3001,⟨0,1,5,bF (flat s.cells)⟩),(3002,⟨s.gq,3,103,vR s.q⟩),(3003,⟨s.ga,3,100,oK s.arm⟩)]
abbrev wJ (k a n:Nat) (b:Bool):Ob:=⟨0,6,72,[[.ref 3000 0 0 0,iv (k:Int),iv (a:Int),iv (n:Int),.mp 3101 0,bv b]]⟩
abbrev HB (s:DSt) (o m:Ob):aA:=[(3000,⟨0,4,80,[BV s]⟩),(3001,⟨0,1,5,bF (flat s.cells)⟩),(3002,⟨s.gq,3,103,vR s.q⟩),(3003,⟨s.ga,3,100,oK s.arm⟩),(3100,o),(3101,m)]
theorem A5 (ρ:Nat→Nat) {α:Type} (f:α→List PV) (l:List α):(l.map fun e=>(f e).map AV.pv).map (iA ρ)=l.map fun e=>(f e).map AV.pv:=by rw [List.map_map];refine List.map_congr_left fun e _=>?_;show iA ρ ((f e).map AV.pv)=_;rw [eX,List.map_map];rfl
theorem xU (ρ:Nat→Nat) (l:List UInt8):(bF l).map (iA ρ)=bF l:=by rw [bF,List.map_map];exact List.map_congr_left fun e _=>rfl
theorem mS (s:DSt):jG zW (bC s)=kK s:=by
 have e1:(oK s.arm).map (iA zW)=oK s.arm:=by cases s.arm<;>rfl
 have e2:gK zW (RA s.ga s.arm)=Q9 s.ga s.arm:=by cases s.arm<;>rfl
 simp only [bC,kK,jG,iP,List.map_cons,List.map_nil,xU,A5,e1,pL,BV,iA,e2];rfl
theorem qA (s:DSt) (k a n:Nat) (b:Bool) (l:bT) (c:Nat):jG zW (sH s (cC k a n b) (bK l c))=HB s (wJ k a n b) (bK l c):=by
 have e1:(oK s.arm).map (iA zW)=oK s.arm:=by cases s.arm<;>rfl
 have e2:gK zW (RA s.ga s.arm)=Q9 s.ga s.arm:=by cases s.arm<;>rfl
 have e3:=CI zW l c;simp only [sH,HB,jG,List.map_cons,List.map_nil,e3];simp only [iP,List.map_cons,List.map_nil,xU,A5,e1,pL,BV,iA,e2];rfl
theorem lD (s:DSt) (H:aA) (h1:(H.get 3001).isSome=true) (h2:(H.get 3002).isSome=true) (h3:(H.get 3003).isSome=true):∀ r∈[BV s],∀ a∈r,Clo H a:=by
 intro r hr a ha;rw [ZO.1 hr] at ha;simp only [BV,ZY,Z2,or_false] at ha;rcases ha with rfl|rfl|rfl|rfl
 ·exact .osl h1
 ·exact .osl h2
 ·exact .pv _
 cases s.arm<;>first|exact .pv _|exact .ref h3
theorem CE {H:aA} {k a n:Nat} {b:Bool} (h1:(H.get 3000).isSome=true) (h2:(H.get 3101).isSome=true):∀ r∈(wJ k a n b).rows,∀ x∈r,Clo H x:=by
 intro r hr x hx;rw [ZO.1 hr] at hx;simp only [ZY,Z2,or_false] at hx;rcases hx with rfl|rfl|rfl|rfl|rfl|rfl
 ·exact .ref h1
 ·exact .pv _
 ·exact .pv _
 ·exact .pv _
 ·exact .mp h2
 exact .pv _
theorem rB (s:DSt):bG (kK s):=(bG.ofL ⟨(by exact lD _ _ rfl rfl rfl),(by exact aC _ _),(by exact aM _ _ _),(by exact aL _ _),trivial⟩)
theorem HA (s:DSt) (k a n:Nat) (b:Bool) (l:bT) (c:Nat):bG (HB s (wJ k a n b) (bK l c)):=(bG.ofL ⟨(by exact lD _ _ rfl rfl rfl),(by exact aC _ _),(by exact aM _ _ _),(by exact aL _ _),(by exact CE rfl rfl),(by exact aT _ _ _),trivial⟩)
theorem KJ {f:FuncId} {args args':List AV} {H0 H3 H:aA} {R:AV→aA→Prop} (h:aJ Tryz.prog f args H0 R) (ha:iA zW args=args') (hH:jG zW H0=H3) (hs:Sub H3 H) (hc:bG H3) (hac:∀ a∈args',Clo H3 a)
  (hk:∀ r K,R r K→∀ id,(aA.get (jG zW K) id).isSome=true→(H3.get id).isSome=true∨H.get id=none):aJ Tryz.prog f args' H (fun r H'=>∃ r0 K,R r0 K∧r=gK zW r0∧H'=jG zW K++H):=by
 refine(aJ.frameQ (aJ.renQ I9 h ha hH) hs hc hac ?_).mono ?_
 ·rintro r K ⟨r0,K0,hR,rfl,rfl⟩ id hid;exact hk r0 K0 hR id hid
 rintro r H' ⟨K,⟨r0,K0,hR,rfl,rfl⟩,rfl⟩;exact⟨r0,K0,hR,rfl,rfl⟩
theorem W9 {d:DSt} {id:Nat} (h:(aA.get (kK d) id).isSome=true):id=3000∨id=3001∨id=3002∨id=3003:=by
 simp only [kK,aA.get] at h;cases e0:Nat.beq 3000 id
 ·cases e1:Nat.beq 3001 id
  ·cases e2:Nat.beq 3002 id
   ·cases e3:Nat.beq 3003 id
    ·rw [e0,e1,e2,e3] at h;cases h
    exact .inr (.inr (.inr (Nat.eq_of_beq_eq_true e3).symm))
   exact .inr (.inr (.inl (Nat.eq_of_beq_eq_true e2).symm))
  exact .inr (.inl (Nat.eq_of_beq_eq_true e1).symm)
 exact .inl (Nat.eq_of_beq_eq_true e0).symm
theorem VW {d:DSt} {o m:Ob} {id:Nat} (h:(aA.get (HB d o m) id).isSome=true):id=3000∨id=3001∨id=3002∨id=3003∨id=3100∨id=3101:=by
 simp only [HB,aA.get] at h;cases e0:Nat.beq 3000 id
 ·cases e1:Nat.beq 3001 id
  ·cases e2:Nat.beq 3002 id
   ·cases e3:Nat.beq 3003 id
    ·cases e4:Nat.beq 3100 id
     ·cases e5:Nat.beq 3101 id
      ·rw [e0,e1,e2,e3,e4,e5] at h;cases h
      exact .inr (.inr (.inr (.inr (.inr (Nat.eq_of_beq_eq_true e5).symm))))
     exact .inr (.inr (.inr (.inr (.inl (Nat.eq_of_beq_eq_true e4).symm))))
    exact .inr (.inr (.inr (.inl (Nat.eq_of_beq_eq_true e3).symm)))
   exact .inr (.inr (.inl (Nat.eq_of_beq_eq_true e2).symm))
  exact .inr (.inl (Nat.eq_of_beq_eq_true e1).symm)
 exact .inl (Nat.eq_of_beq_eq_true e0).symm
theorem qZ {M d:Nat} (hd0:0 < d) (hM:M < 10 ^ d):∀ (L:List ByteArray),(∀ s∈L,s.size≤M)→(aR L).length≤L.length*(M+d+1)
 | [],_=>Z3 _
 | s::r,h=>by
  have ih:=qZ hd0 hM r (fun x hx=>h x (List.mem_cons_of_mem _ hx));have hs:=h s List.mem_cons_self;have hd:=cZ (k:=d) (u:=s.size) (by omega) hd0;rw [dE,ZM,ZN,ZM,cW,ZN,Nat.add_mul];omega
theorem lB {n:Nat} (h:n < 10):(dA (n:Int)).size≤1:=by have e:dA (n:Int)=ofL (decDigits n):=jA (by rw [aX,lA]);rw [e,bP];exact cZ (k:=1) (by omega) (by decide)
theorem mQ {l:bT} {P:List ByteArray} (hl:∀ p∈l,p.1.size≤1∧p.2.1.size≤1) (hP:∀ s∈P,s.size≤1) (hn:2*l.length+2+P.length≤10):cR (aZ l P)≤1:=by
 have h1:(aR (cA l P)).length≤(cA l P).length*(1+1+1):=by
  refine qZ (by decide) (by decide) _ fun s hs=>?_;rw [gB] at hs;rcases ZY.1 hs with rfl|hs
  ·exact lB (by omega)
  rcases List.mem_append.1 hs with hs|hs
  ·obtain ⟨x,hx,hs⟩:=List.mem_flatMap.1 hs;simp only [ZY,Z2,or_false] at hs;rcases hs with rfl|rfl
   ·obtain ⟨p,hp,rfl⟩:=List.mem_map.1 (mP.1 hx);exact(hl p hp).1
   exact rP x fun p hp=>(hl p hp).2
  rcases ZY.1 hs with rfl|hs
  ·exact lB (by omega)
  exact hP s hs
 rw [AW] at h1;have hd:=cZ (k:=2) (u:=(aR (cA l P)).length) (by omega) (by decide);have h2:(aZ l P).length≤46:=by
  rw [aZ,dE,ZM,ZN,ZM,aX,bP];have h0:(aR []).length=0:=rfl;omega
 rw [cR];omega
theorem N7 {l:bT} {P:List ByteArray} {x:ByteArray} (hx:x∈l.map Prod.fst):(fF l x).size≤(aZ l P).length:=by
 have h1:fF l x∈cA l P:=by
  rw [gB];refine List.mem_cons_of_mem _ (List.mem_append_left _ (List.mem_flatMap.2 ⟨x,mP.2 hx,?_⟩));simp
 have h2:=nP h1;rw [aZ,dE,ZM,ZN,ZM,aX];omega
theorem nC {k n:Nat} {l2:bT} {P:List ByteArray} (h1:bE l2 P=0) (h2:n+cR (aZ l2 (fA P))≤k):xG k n l2 P=0:=by
 rw [xG];rcases nB k n l2 P with⟨e1,_⟩|⟨e1,_⟩|⟨e1,_,_,e2⟩|⟨e1,e2⟩
 ·rw [e1];rfl
 ·rw [e1];rfl
 ·omega
 exact absurd h1 e2
theorem QN {k n:Nat} {l2:bT} {P:List ByteArray} (h1:bE l2 P=0) (h0:0 < l2.length) (h2:k < n+cR (aZ l2 (fA P))):xG k n l2 P=21:=by
 rw [xG];rcases nB k n l2 P with⟨e1,_,e2⟩|⟨e1,_,_,e2⟩|⟨e1,_⟩|⟨e1,e2⟩
 ·omega
 ·omega
 ·rw [e1];rfl
 exact absurd h1 e2
theorem qK {k n:Nat} {l2:bT} {P:List ByteArray} (h1:¬ bE l2 P=0):xG k n l2 P=bE l2 P:=by
 rw [xG];rcases nB k n l2 P with⟨_,e2,_⟩|⟨_,e2,_⟩|⟨_,e2,_⟩|⟨e1,e2⟩
 ·exact absurd e2 h1
 ·exact absurd e2 h1
 ·exact absurd e2 h1
 have:=fL l2 P;rw [e1,ZJ (by omega)]
theorem iY:fA []=[]:=List.length_eq_zero_iff.1 (by have:=qL [];rw [List.length_nil] at this;omega)
theorem xI {a b:bT} (ha:fU a) (hb:fU b) (h:∀ k,cU a k=cU b k):cD a=cD b:=by rw [cD,cD,C5 ha hb h,AY ha hb h]
theorem EC {x:Int} {n:Nat} (h0:0≤x) (hn:0 < n):∃ p:Nat,x.tmod (n:Int)=(p:Int)∧p < n:=by
 refine⟨(x % (n:Int)).toNat,?_,?_⟩
 ·have:=Int.emod_nonneg x (b:=(n:Int)) (by omega);rw [Int.tmod_eq_emod_of_nonneg h0];omega
 have:=Int.emod_lt_of_pos x (b:=(n:Int)) (by omega);have:=Int.emod_nonneg x (b:=(n:Int)) (by omega);omega
theorem aJ.pureQ {P:Program} {f:FuncId} {args:List AV} {R:AV→Prop} (h:aJ P f args [] (fun r H=>R r∧H=[])) (hp:∀ a∈args,Clo [] a) (H:aA):aJ P f args H (fun r H'=>R r∧H'=H) :=(h.frame0 hp (fun _ _ hq=>hq.2) H).mono fun _ _ ⟨⟨h1,_⟩,h2⟩=>⟨h1,h2⟩
theorem VM (x:Nat) (hx:x < 18446744073709551616) (H:aA):aJ Tryz.prog 58 [uv x] H (fun r H'=>r=uv (wM x)∧H'=H):=by refine Pu ?_;refine Bd func58 rfl ntmps58<|Sr<|Dd aS<|Zz<|Sr<|Dd aF<|Dd (by exact fN rfl rfl rfl (show IntKind.u64.wrap ((x:Int)*2862933555777941757)=((uV x:Nat):Int)by rw [IntKind.wrap_u64,uV];omega))<|Dd aS<|Zz<|Sr<|Dd aF<|Dd aF<|Dd (by exact sV rfl rfl rfl (by decide) (by decide) (OL (uV x) 32 rfl))<|Dd (by exact gX rfl (by simp) rfl rfl (bits_xor_u64_nat (uV x) (uV x / 2 ^ 32) (qE x) (lL 32 (qE x))))<|Dd aS<|Zz<|Sr<|Dd aF<|Dd (by exact fN rfl rfl rfl (show IntKind.u64.wrap (((uV x ^^^ (uV x / 2 ^ 32):Nat):Int)*3935559000370003845)=((yH x:Nat):Int)by rw [IntKind.wrap_u64,yH,S5];omega))<|Dd aS<|Zz<|Sr<|Dd aF<|Dd aF<|Dd (by exact sV rfl rfl rfl (by decide) (by decide) (OL (yH x) 29 rfl))<|Dd (by exact gX rfl (by simp) rfl rfl (bits_xor_u64_nat (yH x) (yH x / 2 ^ 29) (qD x) (lL 29 (qD x)))) ?_;exact Dd aS<|Zz<|aN<|Rt<|Qq
def H7 (b:Int):Prop:=(48≤b∧b≤57)∨(97≤b∧b≤102)
theorem TX (b:Int) (hb:H7 b) (H:aA):aJ Tryz.prog 57 [.pv (.int .u8 b)] H (fun r H'=>r=iv (if b≤57 then b - 48 else b - 87)∧H'=H):=by
 refine Pu ?_;have n1:∀ {p:Prop} [Decidable p],p→AV.pv (.bool (decide p))=bv true:=fun h=>by rw [decide_eq_true h]
 have n2:∀ {p:Prop} [Decidable p],¬ p→AV.pv (.bool (decide p))=bv false:=fun h=>by rw [decide_eq_false h]
 by_cases h57:b≤57
 ·have hb2:48≤b:=by rcases hb with h|h<;>omega
  rw [ZK h57];refine Bd func57 rfl ntmps57<|Sr<|Dd aS<|Zz<|Sq<|Sr<|Dd aF<|Dd (by exact bN.eqv (wW rfl rfl rfl) (n1 hb2))<|Dd aF<|On aF<|On (by exact bN.eqv (jV rfl rfl rfl) (n1 h57))<|Dd dU<|Zz ?_;refine Cn ?_ ?_<;>intro hc1
  ·exact Sr<|Dd aF<|Dd (by exact dQ rfl rfl rfl (show IntKind.u8.wrap (b - 48)=b - 48 by rw [IntKind.wrap_u8];omega))<|Dd (by exact cP rfl bI bX rfl (gV (by omega) (by omega)))<|Dd aS<|Zz<|aN<|Rt<|Qq
  cases hc1
 have hb2:97≤b∧b≤102:=by rcases hb with h|h<;>omega
 have hb3:48≤b:=by omega
 rw [ZJ h57];refine Bd func57 rfl ntmps57<|Sr<|Dd aS<|Zz<|Sq<|Sr<|Dd aF<|Dd (by exact bN.eqv (wW rfl rfl rfl) (n1 hb3))<|Dd aF<|On aF<|On (by exact bN.eqv (jV rfl rfl rfl) (n2 h57))<|Dd dU<|Zz ?_;refine Cn ?_ ?_<;>intro hc1
 ·cases hc1
 refine aK<|Sq<|Sr<|Dd aF<|Dd (by exact bN.eqv (wW rfl rfl rfl) (n1 hb2.1))<|Dd aF<|On aF<|On (by exact bN.eqv (jV rfl rfl rfl) (n1 hb2.2))<|Dd dU<|Zz ?_;refine Cn ?_ ?_<;>intro hc2
 ·exact Sr<|Dd aF<|Dd (by exact dQ rfl rfl rfl (show IntKind.u8.wrap (b - 97)=b - 97 by rw [IntKind.wrap_u8];omega))<|Dd (by exact cP rfl bI bX rfl (gV (by omega) (by omega)))<|Dd (by exact bZ rfl rfl rfl (show IntKind.i64.wrap (b - 97+10)=b - 87 by rw [gV (by omega) (by omega)];omega))<|Dd aS<|Zz<|aN<|Rt<|Qq
 cases hc2
def PT (s:ByteArray):Prop:=∀ i,i < s.size→H7 (fT s i)
theorem TM (s:ByteArray) (hz:s.size=16) (hh:PT s) (H:aA):aJ Tryz.prog 25 [sv s] H (fun r H'=>r=bv true∧H'=H):=by
 refine Pu ?_;refine Bd func25 rfl ntmps25<|Sr<|Dd aS<|Zz<|Sq<|Sr<|Dd aS<|Zz<|aP ?_;refine bR (σ:=Nat) (fun i=>([(0,sv s),(3,iv (i:Int))],[])) (fun i=>i≤16) (fun i=>16 - i) 0 (Z3 _) ?_ ?_
 ·exact Wk
 intro i hi;by_cases h16:i < 16
 ·have hd:=fun H=>TX (fT s i) (hh i (by omega)) H;have hd0:¬ (if fT s i≤57 then fT s i - 48 else fT s i - 87) < 0:=by
   have:=hh i (by omega);unfold H7 at this
   split<;>omega
  refine Sq<|Sr<|Dd aF<|Dd aF<|Dd (wN aH)<|Dd (by exact bN.eqv (wV rfl rfl rfl) (show AV.pv (.bool (decide ((i:Int) < (s.size:Int))))=bv true by rw [decide_eq_true (by omega)]))<|Dd aF<|On aF<|On (by exact bN.eqv (wV rfl rfl rfl) (show AV.pv (.bool (decide ((i:Int) < 16)))=bv true by rw [decide_eq_true (by omega)]))<|Dd dU<|Zz ?_;refine Cn ?_ ?_<;>intro hc1
  ·refine aK<|Sq<|aP<|Sr<|Dd aF<|Dd aF<|Dd (by exact mE rfl aH rfl rfl (by omega) (by exact ZX _) (by omega) rfl)<|Dd (by exact aB rfl rfl call57 rfl (hd _))<|Dd eF<|Zz ?_;refine Cn ?_ ?_<;>intro hc2
   ·exact absurd (ZH hc2) hd0
   refine aK<|Rg<|Dd aF<|Dd (by exact bZ rfl rfl rfl (show IntKind.i64.wrap ((i:Int)+1)=((i+1:Nat):Int)by rw [gV (by omega) (by omega)];omega))<|Da ?_;exact⟨i+1,by omega,by omega,Wk⟩
  cases hc1
 have hs16:i=16:=by omega
 refine Sq<|Sr<|Dd aF<|Dd aF<|Dd (wN aH)<|Dd (by exact bN.eqv (wV rfl rfl rfl) (show AV.pv (.bool (decide ((i:Int) < (s.size:Int))))=bv false by rw [decide_eq_false (by omega)]))<|Dd aF<|Fo<|Fo<|Dd dU<|Zz ?_;refine Cn ?_ ?_<;>intro hc3
 ·cases hc3
 exact bL<|Sr<|Dd aF<|Dd (wN aH)<|Dd (by exact bN.eqv (cN rfl rfl rfl) (show AV.pv (.bool (decide ((s.size:Int)=16)))=bv true by rw [decide_eq_true (by omega)]))<|Dd aS<|Zz<|aN<|Rt<|Qq
theorem SH (x:Int):∃ m:Nat,IntKind.u64.wrap x=(m:Int)∧m < 18446744073709551616:=by
 refine⟨(x % 18446744073709551616).toNat,?_,?_⟩
 ·rw [IntKind.wrap_u64];omega
 omega
theorem WZ {a b:Nat} (ha:a < 18446744073709551616) (hb:b < 18446744073709551616):∃ m:Nat,bits .xor .u64 (a:Int) (b:Int)=(m:Int)∧m < 18446744073709551616:=⟨a ^^^ b,bits_xor_u64_nat a b ha hb,oQ ha hb⟩
theorem IM (a b:ByteArray) (i:Nat):fT (a++b) i=if i < a.size then fT a i else fT b (i - a.size):=by
 unfold fT;rw [M9,List.getElem?_append];rw [cW]
 split<;>rfl
abbrev HX:ByteArray:=⟨#[48,49,50,51,52,53,54,55,56,57,97,98,99,100,101,102]⟩
instance (b:Int):Decidable (H7 b):=by unfold H7;infer_instance
theorem VY:∀ q:Fin 16,H7 (fT HX q.1):=by decide
theorem H6 {q:Nat} (h:q < 16):(HX.extract q (q+1)).size=1∧H7 (fT (HX.extract q (q+1)) 0):=by
 refine⟨by rw [ByteArray.size_extract];have:HX.size=16:=rfl;omega,?_⟩;have e:fT (HX.extract q (q+1)) 0=fT HX q:=by
  unfold fT;rw [dZ,show q+1 - q=1 by omega,List.getElem?_take_of_lt (by decide),List.getElem?_drop];rfl
 rw [e];exact VY ⟨q,h⟩
theorem MC {q:Nat} (h:q < 16) {t:ByteArray} (ht:PT t):PT (HX.extract q (q+1)++t)∧(HX.extract q (q+1)++t).size=t.size+1:=by
 obtain ⟨h1,h2⟩:=H6 h;have hz:(HX.extract q (q+1)++t).size=t.size+1:=by rw [ByteArray.size_append,h1,Nat.add_comm]
 refine⟨fun i hi=>?_,hz⟩;rw [IM,h1];by_cases h0:i < 1
 ·rw [ZK h0];obtain rfl:i=0:=by omega
  exact h2
 rw [ZJ h0];exact ht _ (by omega)
theorem VK (s:ByteArray) (hs:s.size < 1000000) (H:aA):aJ Tryz.prog 26 [sv s] H (fun r H'=>(∃ t:ByteArray,t.size=16∧PT t∧r=sv t)∧H'=H):=by
 refine aJ.pureQ ?_ (by simp) H;obtain ⟨x0,hx0,hx1⟩:=SH (s.size:Int);obtain ⟨st0,hst0,hst1⟩:=WZ (a:=1181783497276652981) (b:=x0) (by decide) hx1;refine Bd func26 rfl ntmps26<|Sr<|Dd aS<|Zz<|Sr<|Dd aF<|Dd (wN aH)<|Dd (by exact cP rfl bX dV rfl hx0)<|Dd (by exact gX rfl (by simp) rfl rfl hst0)<|Dd aS<|Zz<|Sq<|Sr<|Dd aS<|Zz<|aP ?_;refine nE (fun(j st:Nat)=>([(0,sv s),(3,uv st),(4,iv ((8*j:Nat):Int))],[])) (fun j st=>8*j≤s.size+8∧st < 18446744073709551616) (fun j st=>s.size+8 - 8*j) 0 st0 ⟨by omega,hst1⟩ ?_ ?_
 ·exact Wk
 rintro j st ⟨hj,hst⟩;refine Sq<|Sr<|Dd aF<|Dd aF<|Dd (wN aH)<|Dd XV<|Zz ?_;refine Cn ?_ ?_<;>intro hc1
 ·have hle:8*j≤s.size:=by have:=ZH hc1;omega
  refine aK<|Sq<|aP<|Sr<|Dd aS<|Zz<|Sq<|Sr<|Dd aF<|Dd aS<|Zz<|aP ?_;refine nE (fun(i b:Nat)=>([(0,sv s),(3,uv st),(4,iv ((8*j:Nat):Int)),(5,uv b),(6,iv (i:Int))],[])) (fun i b=>8*j≤i∧i≤8*j+8∧b < 18446744073709551616) (fun i b=>8*j+8 - i) (8*j) 0 ⟨by omega,by omega,by omega⟩ ?_ ?_
  ·exact Wk
  rintro i b ⟨hi1,hi2,hb⟩;obtain ⟨b1,hb1,hb2⟩:=SH ((b:Int)*256);refine Sq<|Sr<|Dd aF<|Dd aF<|Dd (by exact bZ rfl rfl rfl (show IntKind.i64.wrap (((8*j:Nat):Int)+8)=((8*j+8:Nat):Int)by rw [gV (by omega) (by omega)];omega))<|Dd eF<|Zz ?_;refine Cn ?_ ?_<;>intro hc2
  ·have hlt:i < 8*j+8:=by have:=ZH hc2;omega
   refine aK<|Sq<|aP<|Sr<|Dd aF<|Dd (by exact fN rfl rfl rfl hb1)<|Dd aS<|Zz<|Sr<|Dd aF<|Dd aF<|Dd (wN aH)<|Dd eF<|Zz ?_;refine Cn ?_ ?_<;>intro hc3
   ·have hlt2:i < s.size:=by have:=ZH hc3;omega
    obtain ⟨b3,hb3,hb4⟩:=SH (fT s i);obtain ⟨b5,hb5,hb6⟩:=SH ((b1:Int)+(b3:Int));refine Rg<|Dd aF<|Dd aF<|Dd aF<|Dd (by exact mE rfl aH rfl rfl (by omega) (by exact ZX _) (by omega) rfl)<|Dd (by exact cP rfl bI dV rfl hb3)<|Dd (by exact bZ rfl rfl rfl hb5)<|Dd aS<|Zz<|Rg<|Dd aF<|Dd (by exact bZ rfl rfl rfl (show IntKind.i64.wrap ((i:Int)+1)=((i+1:Nat):Int)by rw [gV (by omega) (by omega)];omega))<|Da ?_;exact⟨i+1,b5,⟨by omega,by omega,hb6⟩,by omega,Wk⟩
   refine aK<|Rg<|Dd aF<|Dd (by exact bZ rfl rfl rfl (show IntKind.i64.wrap ((i:Int)+1)=((i+1:Nat):Int)by rw [gV (by omega) (by omega)];omega))<|Da ?_;exact⟨i+1,b1,⟨by omega,by omega,hb2⟩,by omega,Wk⟩
  obtain ⟨y,hy1,hy2⟩:=WZ hst hb;have hmx:=fun H=>VM y hy2 H;refine bL<|Rg<|Dd aF<|Dd aF<|Dd (by exact gX rfl (by simp) rfl rfl hy1)<|Dd (by exact aB rfl rfl call58 rfl (hmx _))<|Dd aS<|Zz<|Rg<|Dd aF<|Dd (by exact bZ rfl rfl rfl (show IntKind.i64.wrap (((8*j:Nat):Int)+8)=((8*(j+1):Nat):Int)by rw [gV (by omega) (by omega)];omega))<|Da ?_;exact⟨j+1,wM y,⟨by omega,C1 y⟩,by omega,Wk⟩
 refine bL<|Sr<|Dd aS<|Zz<|Sq<|Sr<|Dd aS<|Zz<|aP ?_;refine qN (fun(i st:Nat) (t:ByteArray)=>([(3,uv st),(7,sv t),(8,iv (i:Int))],[])) (fun i st t=>i≤16∧st < 18446744073709551616∧t.size=i∧PT t) (fun i st t=>16 - i) 0 st ⟨#[]⟩ ⟨by omega,hst,rfl,fun i hi=>by cases hi⟩ ?_ ?_
 ·exact Wk
 rintro i st t ⟨hi,hst,ht1,ht2⟩;have hm:((st:Nat):Int).tmod 16=((st % 16:Nat):Int):=by rw [Int.tmod_eq_emod_of_nonneg (by omega)];omega
 have hq:((st:Nat):Int).tdiv 16=((st / 16:Nat):Int):=by rw [Int.tdiv_eq_ediv_of_nonneg (by omega)];omega
 have hst16:st % 16 < 16:=Nat.mod_lt _ (by decide);obtain ⟨q,hqq⟩:∃ q,q=st % 16:=⟨_,rfl⟩;rw [← hqq] at hm hst16;obtain ⟨g1,g2⟩:=H6 hst16;obtain ⟨g3,g4⟩:=MC hst16 ht2;refine Sq<|Sr<|Dd aF<|Dd eF<|Zz ?_;refine Cn ?_ ?_<;>intro hc4
 ·have hlt:i < 16:=by have:=ZH hc4;omega
  refine aK<|Sq<|aP<|Sr<|Dd aF<|Dd (by exact nL rfl rfl rfl (by decide) hm)<|Dd aF<|Dd (by exact nL rfl rfl rfl (by decide) hm)<|Dd (by exact bZ rfl rfl rfl (show IntKind.u64.wrap ((q:Int)+1)=((q+1:Nat):Int)by rw [IntKind.wrap_u64];omega))<|Dd (by exact cI (l:=q) (h:=q+1) rfl aH rfl rfl rfl (by omega) (show q+1≤HX.size from by have:HX.size=16:=rfl;omega) rfl)<|Dd aF<|Dd (by exact gE rfl rfl rfl (show (HX.extract q (q+1)).size+t.size≤9223372036854775807 by rw [(H6 hst16).1];omega) rfl)<|Dd aS<|Zz<|Rg<|Dd aF<|Dd (by exact lV rfl rfl rfl (by decide) (show IntKind.u64.wrap (((st:Nat):Int).tdiv 16)=((st / 16:Nat):Int)by rw [hq,IntKind.wrap_u64];omega))<|Dd aS<|Zz<|Rg<|Dd aF<|Dd (by exact bZ rfl rfl rfl (show IntKind.i64.wrap ((i:Int)+1)=((i+1:Nat):Int)by rw [gV (by omega) (by omega)];omega)) ?_;refine Da ?_;exact⟨i+1,st / 16,_,⟨by omega,by omega,by rw [g4];omega,g3⟩,by omega,Wk⟩
 have hge:i=16:=by have:=ZI hc4;omega
 refine bL<|Sr<|Dd aF<|Dd aS<|Zz<|aN<|Rt ?_;exact⟨⟨t,by omega,ht2,rfl⟩,rfl⟩
theorem pV (A B:aA):Sub A (A++B):=fun j o h=>by rw [eZ,h]
theorem YA (n:Nat) (h1:1≤n) (h2:n≤8000) (H:aA) (k0:H.get 3000=none) (k1:H.get 3001=none) (k2:H.get 3002=none) (k3:H.get 3003=none):aJ Tryz.prog 13 [iv (n:Int)] H (fun r H'=>r=.ref 3000 0 0 0∧H'=kK (lO n)++H):=by
 refine(KJ (PD n h1 h2) (args':=[iv (n:Int)]) rfl (rfl:jG zW []=[]) (fun _ _ h=>by cases h) (fun _ _ h=>by cases h) (by intro a ha;rw [ZO] at ha;subst ha;exact .pv _) ?_).mono ?_
 ·rintro r K ⟨rfl,rfl⟩ id hid;rw [mS] at hid;rcases W9 hid with rfl|rfl|rfl|rfl
  ·exact .inr k0
  ·exact .inr k1
  ·exact .inr k2
  exact .inr k3
 rintro r H' ⟨r0,K,⟨rfl,rfl⟩,rfl,rfl⟩;exact⟨rfl,by rw [mS]⟩
theorem W3 {d:DSt} {N k a n:Nat} {C:CT} (hc:Calm d N) (hI:SInv d.cells k a n C) (hN:4≤N) (hk:k=(N - 2) / 2) (H:aA) (hs:Sub (kK d) H) (k4:H.get 3100=none) (k5:H.get 3101=none) :
  aJ Tryz.prog 12 [.ref 3000 0 0 0] H (fun r H'=>r=.tup [.ref 3100 0 0 0,iv 0]∧∃ l c,eA l c∧fU l∧l.length≤46*n∧(∀ x,cU l x=C x)∧H'=HB d (wJ k a n false) (bK l c)++H):=by
 refine(KJ (qC hc hI hN hk) (args':=[.ref 3000 0 0 0]) rfl (mS d) hs (rB d) (by simp;rfl) ?_).mono ?_
 ·rintro r K ⟨rfl,l,c,q1,q2,q3,q4,rfl⟩ id hid;rw [qA] at hid;rcases VW hid with rfl|rfl|rfl|rfl|rfl|rfl
  ·exact .inl rfl
  ·exact .inl rfl
  ·exact .inl rfl
  ·exact .inl rfl
  ·exact .inr k4
  exact .inr k5
 rintro r H' ⟨r0,K,⟨rfl,l,c,q1,q2,q3,q4,rfl⟩,rfl,rfl⟩;exact⟨rfl,l,c,q1,q2,q3,q4,by rw [qA]⟩
theorem HF (d:DSt) (k a n:Nat) (b:Bool) (l l2:bT) (c c2:Nat):jG zW ((950,bK l2 c2)::sH d (cC k a n b) (bK l c))=(950,bK l2 c2)::HB d (wJ k a n b) (bK l c):=by have h:=qA d k a n b l c;show (zW 950,iP zW (bK l2 c2))::jG zW (sH d (cC k a n b) (bK l c))=_;rw [h,CI];rfl
theorem M1 (d:DSt) (k a n:Nat) (b:Bool) (l l2:bT) (c c2:Nat):bG ((950,bK l2 c2)::HB d (wJ k a n b) (bK l c)):=(bG.ofL ⟨(by exact aT _ _ _),(by exact lD _ _ rfl rfl rfl),(by exact aC _ _),(by exact aM _ _ _),(by exact aL _ _),(by exact CE rfl rfl),(by exact aT _ _ _),trivial⟩)
theorem YB {d:DSt} {o m o2:Ob} {id:Nat} (h:(aA.get ((950,o2)::HB d o m) id).isSome=true):id=950∨id=3000∨id=3001∨id=3002∨id=3003∨id=3100∨id=3101:=by
 by_cases e:id=950
 ·exact .inl e
 rw [get_cons_other _ _ e] at h;exact .inr (VW h)
theorem T4 {N k:Nat} {tl:List ByteArray} {d:DSt} {a n:Nat} {l:bT} {c:Nat} {C:CT} (h:St N k tl d a n l c C) (hk:k < 4000) (l2:bT) (c2:Nat) (P:List ByteArray) (hst2:eA l2 c2) (hnd2:fU l2) (hl2:l2.length≤1000) (hP:P.length≤1000) (H:aA) (hs:Sub ((950,bK l2 c2)::HB d (wJ k a n false) (bK l c)) H) :
  aJ Tryz.prog 14 [.ref 3100 0 0 0,.mp 950 0,.pv (aY P)] H (fun r H'=>r=iv (xG k n l2 P)∧∃ d' n' l' c',St N k tl d' a n' l' c' (if xG k n l2 P=0 then pM C l2 (fA P)else C)∧n'=(if wC k n false l2 P = -1 then n+cR (aZ l2 (fA P))else n)∧H'=(950,bK l2 c2)::HB d' (wJ k a n' false) (bK l' c')++H):=by
 refine(KJ (iK h hk l2 c2 P hst2 hnd2 hl2 hP) (args':=[.ref 3100 0 0 0,.mp 950 0,.pv (aY P)]) rfl (HF d k a n false l l2 c c2) hs (M1 _ _ _ _ _ _ _ _ _) (by simp;exact⟨rfl,rfl⟩) ?_).mono ?_
 ·rintro r K ⟨rfl,d',n',l',c',q1,q2,rfl⟩ id hid;rw [HF] at hid;rcases YB hid with rfl|rfl|rfl|rfl|rfl|rfl|rfl<;>exact .inl rfl
 rintro r H' ⟨r0,K,⟨rfl,d',n',l',c',q1,q2,rfl⟩,rfl,rfl⟩;exact⟨rfl,d',n',l',c',q1,q2,by rw [HF]⟩
theorem VJ {N k:Nat} {tl:List ByteArray} {d:DSt} {a n:Nat} {l:bT} {c:Nat} {C:CT} (h:St N k tl d a n l c C) (hk:k < 4000) (H:aA) (hs:Sub (HB d (wJ k a n false) (bK l c)) H) :
  aJ Tryz.prog 21 [.ref 3100 0 0 0] H (fun r H'=>r=iv (UQ k l)∧∃ d' a' n',St N k tl d' a' n' l c C∧(UQ k l=0→d'.cells=jT k (cD l) tl)∧H'=HB d' (wJ k a' n' false) (bK l c)++H):=by
 refine(KJ (xR h hk) (args':=[.ref 3100 0 0 0]) rfl (qA d k a n false l c) hs (HA _ _ _ _ _ _ _) (by simp;rfl) ?_).mono ?_
 ·rintro r K ⟨rfl,d',a',n',q1,q2,rfl⟩ id hid;rw [qA] at hid;rcases VW hid with rfl|rfl|rfl|rfl|rfl|rfl<;>exact .inl rfl
 rintro r H' ⟨r0,K,⟨rfl,d',a',n',q1,q2,rfl⟩,rfl,rfl⟩;exact⟨rfl,d',a',n',q1,q2,by rw [qA]⟩
theorem X9 (d:DSt) (hd:DOk d) (H:aA) (hs:Sub (kK d) H):aJ Tryz.prog 22 [.ref 3000 0 0 0] H (fun r H'=>r=sv (nA d)∧H'=H):=by have h:=aJ.ren (ρ:=zW) I9 (US d hd) (args':=[.ref 3000 0 0 0]) (r':=sv (nA d)) rfl (mS d) rfl (mS d);exact aJ.frameS h hs (rB d) (by simp;rfl)
abbrev tA:ByteArray:=⟨#[97]⟩
abbrev tB:ByteArray:=⟨#[98]⟩
abbrev tC:ByteArray:=⟨#[99]⟩
abbrev t1:ByteArray:=⟨#[49]⟩
abbrev t2:ByteArray:=⟨#[50]⟩
abbrev kB:bT×Nat:=dY [(tB,t2)]
abbrev NQ:bT×Nat:=dY [(tA,t1),(tB,t2)]
theorem TK (x:ByteArray):cU kB.1 x=if tB=x then some t2 else none:=by rw [C4];rfl
theorem XA (x:ByteArray):cU NQ.1 x=if tB=x then some t2 else if tA=x then some t1 else none:=by
 rw [C4];show ((if tB=x then some t2 else none).orElse fun _=>if tA=x then some t1 else none)=_
 split<;>rfl
theorem XH (x:ByteArray):pM (pM (fun _=>none) NQ.1 (fA [])) [] (fA [tA]) x=cU kB.1 x:=by
 have hAB:¬ tB=tA:=by decide
 rw [pM,pM,iY,ZJ Z2,TK,XA];by_cases h:x∈fA [tA]
 ·rw [ZK h];have:=mB.1 h;rw [ZO] at this;subst this;rw [ZJ hAB]
 rw [ZJ h];have hx:¬ tA=x:=fun e=>h (mB.2 (by rw [e];exact ZO.2 rfl));rw [ZJ hx];show ((none:Option ByteArray).orElse fun _=>(if tB=x then some t2 else none).orElse fun _=>none)=_;by_cases h2:tB=x
 ·rw [ZK h2];rfl
 rw [ZJ h2];rfl
theorem YG (x:ByteArray):pM (fun _=>none) kB.1 (fA []) x=cU kB.1 x:=by
 rw [pM,iY,ZJ Z2,TK];by_cases h2:tB=x
 ·rw [ZK h2];rfl
 rw [ZJ h2];rfl
theorem TJ:eD kB.1=[tB]:=uP (List.pairwise_singleton _ _)
theorem FE:cR (cD kB.1)≤1:=by
 have h:cD kB.1=aZ kB.1 []:=ZJ (by decide);rw [h];exact mQ (fun p hp=>by
  have:=tD hp;simp only [ZO,Prod.mk.injEq] at this;rw [this.1,this.2];exact⟨ZR 1,ZR 1⟩) (fun s hs=>by cases hs) (by decide)
theorem KD:xG 9 0 NQ.1 []=0:=nC (by decide) (by
 have h:cR (aZ NQ.1 (fA []))≤1:=mQ (fun p hp=>by
  have:=tD hp;simp only [ZY,Z2,or_false,Prod.mk.injEq] at this;rcases this with⟨e1,e2⟩|⟨e1,e2⟩<;>rw [e1,e2]<;>exact⟨ZR 1,ZR 1⟩) (fun s hs=>by rw [iY] at hs;cases hs) (by rw [iY];decide)
 omega)
theorem W7:(if wC 9 0 false NQ.1 [] = -1 then 0+cR (aZ NQ.1 (fA []))else 0)≤1:=by
 have h:cR (aZ NQ.1 (fA []))≤1:=mQ (fun p hp=>by
  have:=tD hp;simp only [ZY,Z2,or_false,Prod.mk.injEq] at this;rcases this with⟨e1,e2⟩|⟨e1,e2⟩<;>rw [e1,e2]<;>exact⟨ZR 1,ZR 1⟩) (fun s hs=>by rw [iY] at hs;cases hs) (by rw [iY];decide)
 split<;>omega
theorem UU:cR (aZ [] (fA [tA]))≤1:=mQ (fun p hp=>by cases hp) (fun s hs=>by
  have:=mB.1 hs;rw [ZO] at this;rw [this];exact ZR 1) (by have:=qL [tA];have e:([tA]:List ByteArray).length=1:=rfl;have e0:([]:bT).length=0:=rfl;omega)
theorem KC {n:Nat} (h:n≤1):xG 9 n [] [tA]=0:=nC (by decide) (by have:=UU;omega)
theorem W6 {n:Nat} (h:n≤1):(if wC 9 n false [] [tA] = -1 then n+cR (aZ [] (fA [tA]))else n)≤2:=by
 have:=UU
 split<;>omega
theorem KB:xG 9 0 kB.1 []=0:=nC (by decide) (by
 have h:cR (aZ kB.1 (fA []))≤1:=mQ (fun p hp=>by
  have:=tD hp;simp only [ZO,Prod.mk.injEq] at this;rw [this.1,this.2];exact⟨ZR 1,ZR 1⟩) (fun s hs=>by rw [iY] at hs;cases hs) (by rw [iY];decide)
 omega)
theorem B5 (n:Nat):(ofL (zB n)).size=n:=by rw [bP,zB,List.length_replicate]
theorem lJ (k v:ByteArray):(dY [(k,v)]).1=[(k,v,0)]:=rfl
theorem pS {k v:ByteArray} (hk:dB k=true):bE (dY [(k,v)]).1 []=if(20000:Int) < (v.size:Int)then 2 else 0:=by
 rw [lJ,bE];show (if(((!dB k||R0 [] k)||false)||false)=true then(1:Int)else if(decide ((20000:Int) < (v.size:Int))||false)=true then 2 else 0)=_;rw [hk];show (if false=true then(1:Int)else if(decide ((20000:Int) < (v.size:Int))||false)=true then 2 else 0)=_;rw [ZJ Bool.false_ne_true,Bool.or_false];by_cases h:(20000:Int) < (v.size:Int)
 ·rw [ZK (decide_eq_true h),ZK h]
 rw [ZJ (by rw [decide_eq_false h];decide),ZJ h]
theorem eH {n:Nat} {v:ByteArray} (hv:v.size=20001):xG 9 n (dY [(tC,v)]).1 []=2:=by
 have hw:bE (dY [(tC,v)]).1 []=2:=by rw [pS (by decide),hv];rfl
 rw [qK (by rw [hw];decide),hw]
theorem eI {n:Nat} {v:ByteArray} (hv:v.size=500):xG 9 n (dY [(tC,v)]).1 []=21:=by
 have hw:bE (dY [(tC,v)]).1 []=0:=by rw [pS (by decide),hv];rfl
 refine QN hw (by rw [lJ];exact Nat.zero_lt_one) ?_;have h:=N7 (l:=(dY [(tC,v)]).1) (P:=fA []) (x:=tC) (by rw [lJ];exact ZO.2 rfl);have hg:fF (dY [(tC,v)]).1 tC=v:=by
  rw [lJ];show (if tC=tC then v else _)=v;rw [ZK rfl]
 rw [hg,hv] at h;rw [cR];omega
theorem vW {M d:Nat} (hd0:0 < d) (hM:M < 10 ^ d):∀ (L:List ByteArray),(∀ s∈L,s.size≤M)→(aR L).length≤(L.map ByteArray.size).sum+L.length*(d+1)
 | [],_=>Z3 _
 | s::r,h=>by
  have ih:=vW hd0 hM r (fun x hx=>h x (List.mem_cons_of_mem _ hx));have hs:=h s List.mem_cons_self;have hd:=cZ (k:=d) (u:=s.size) (by omega) hd0;rw [dE,ZM,ZN,ZM,cW,ZN,List.map_cons,List.sum_cons,Nat.add_mul];omega
theorem ED {l:bT} {P:List ByteArray} {S:Nat} (h:∀ s∈cA l P,s.size≤99999) (hs:((cA l P).map ByteArray.size).sum≤S) (hL:(cA l P).length≤4) (hS:S≤90000):(aZ l P).length≤S+30:=by have h1:=vW (d:=5) (by decide) (by decide) _ h;have hd:=cZ (k:=5) (u:=(aR (cA l P)).length) (by omega) (by decide);have h0:(aR []).length=0:=rfl;rw [aZ,dE,ZM,ZN,ZM,aX,bP];omega
theorem uO (k v:ByteArray):cA (dY [(k,v)]).1 []=[dA ((1:Nat):Int),k,v,dA ((0:Nat):Int)]:=by
 have h1:eD [(k,v,0)]=[k]:=uP (List.pairwise_singleton _ _);have h2:fF [(k,v,0)] k=v:=by
  show (if k=k then v else _)=v;rw [ZK rfl]
 rw [lJ,gB,h1];show _::([k,fF [(k,v,0)] k]++_)=_;rw [h2];rfl
theorem O3 {k v:ByteArray} {S:Nat} (hS:k.size+v.size+2≤S) (hm:S≤90000):cR (aZ (dY [(k,v)]).1 (fA []))≤(S+75) / 46:=by
 have a1:=lB (n:=1) (by decide);have a0:=lB (n:=0) (by decide);have h:=ED (l:=(dY [(k,v)]).1) (P:=[]) (S:=S) (fun s hs=>by
  rw [uO] at hs;simp only [ZY,Z2,or_false] at hs;rcases hs with rfl|rfl|rfl|rfl<;>omega) (by
  rw [uO];simp only [List.map_cons,List.map_nil,List.sum_cons,List.sum_nil];omega) (by rw [uO];exact ZR 4) hm
 rw [iY,cR];omega
theorem SU {k:ByteArray} {S:Nat} (hS:k.size+2≤S) (hm:S≤90000):cR (aZ [] (fA [k]))≤(S+75) / 46:=by
 have hD:=qL [k];have hmem:∀ x∈fA [k],x=k:=fun x hx=>ZO.1 (mB.1 hx);have a0:=lB (n:=0) (by decide);have hW:cA [] (fA [k])=dA ((0:Nat):Int)::dA (((fA [k]).length:Nat):Int)::fA [k]:=by
  have h1:eD []=[]:=uP List.Pairwise.nil;rw [gB,h1];rfl
 have hD1:(fA [k]).length≤1:=hD;have aD:=lB (n:=(fA [k]).length) (by omega);have hsum:((fA [k]).map ByteArray.size).sum≤k.size:=by
  cases e:fA [k] with
  | nil=>exact Z3 _
  | cons x r =>
   rw [e] at hD1 hmem;have hr:r=[]:=List.length_eq_zero_iff.1 (by rw [ZN] at hD1;omega);rw [hr,hmem x List.mem_cons_self];exact ZR _
 have h:=ED (l:=[]) (P:=fA [k]) (S:=S) (fun s hs=>by
  rw [hW] at hs;rcases ZY.1 hs with rfl|hs
  ·omega
  rcases ZY.1 hs with rfl|hs
  ·omega
  rw [hmem s hs];omega) (by
  rw [hW,List.map_cons,List.map_cons,List.sum_cons,List.sum_cons];omega) (by rw [hW,ZN,ZN];omega) hm
 rw [cR];omega
theorem KW {k v:ByteArray} (hk:dB k=false):bE (dY [(k,v)]).1 []=1:=by rw [lJ,bE];show (if(((!dB k||R0 [] k)||false)||false)=true then(1:Int)else _)=_;rw [hk];rfl
theorem GO (k:ByteArray):bE [] [k]=if dB k=true then 0 else 1:=by rw [bE];show (if(false||(!dB k||false))=true then(1:Int)else if false=true then 2 else 0)=_;cases dB k<;>rfl
abbrev tV:ByteArray:=⟨#[118]⟩
abbrev tX:ByteArray:=⟨#[120]⟩
abbrev X7:ByteArray:=⟨#[107]⟩
def kS (k:Nat):ByteArray:=ofL (List.replicate k 107)
theorem qG (k:Nat):(kS k).size=k:=by rw [kS,bP,List.length_replicate]
theorem TI (k:Nat):kS k++X7=kS (k+1):=by refine jA ?_;rw [ByteArray.data_append,Array.toList_append,kS,aX,kS,aX,List.replicate_succ']
theorem U4 (k:Nat):kS k≠tV:=fun e=>by
 have h:=congrArg (fun s:ByteArray=>s.data.toList) e;simp only [kS,aX] at h;have hm:(118:UInt8)∈List.replicate k 107:=by rw [h];exact ZO.2 rfl
 exact absurd (List.eq_of_mem_replicate hm) (by decide)
theorem U3 (k:Nat):dB (kS k)=(decide (1≤k)&&decide (k≤200)):=by
 have h1:decide (kS k=⟨#[]⟩)=decide (k=0):=by
  refine decide_eq_decide.2 ⟨fun e=>?_,fun e=>by rw [e];rfl⟩;have:=qG k;rw [e] at this;exact this.symm
 rw [dB,h1,qG];by_cases a:k=0
 ·subst a;rfl
 rw [decide_eq_false a,decide_eq_true (show 1≤k by omega)];by_cases b:k≤200
 ·rw [decide_eq_true b,decide_eq_true (by omega)];rfl
 rw [decide_eq_false b,decide_eq_false (by omega)];rfl
theorem BX {C:CT} {l:bT} {D:List ByteArray} {x:ByteArray} (h1:x∉D) (h2:cU l x=none):pM C l D x=C x:=by rw [pM,ZJ h1,h2];rfl
theorem UX (k v x:ByteArray):cU (dY [(k,v)]).1 x=if k=x then some v else none:=by rw [C4];rfl
def uY (b:Bool) (e:Int):Int:=if b then 0 else e
theorem TC {n:Nat} {z:ByteArray} (hz:z.size=n) (hn:n≤20010):xG 499 0 (dY [(tV,z)]).1 []=uY (decide (n≤20000)) 2∧(if wC 499 0 false (dY [(tV,z)]).1 [] = -1 then 0+cR (aZ (dY [(tV,z)]).1 (fA []))else 0)≤437:=by
 have hv:tV.size=1:=rfl;have hp:=O3 (k:=tV) (v:=z) (S:=20013) (by omega) (by decide);have hw:=pS (k:=tV) (v:=z) (by decide);rw [hz] at hw;refine⟨?_,by split<;>omega⟩;by_cases h:n≤20000
 ·rw [ZJ (by omega)] at hw;rw [nC hw (by omega),decide_eq_true h];rfl
 rw [ZK (by omega)] at hw;rw [qK (by rw [hw];decide),hw,decide_eq_false h];rfl
theorem TB {k n:Nat} (hk:k≤210) (hn:n≤437):xG 499 n (dY [(kS k,tX)]).1 []=uY (decide (1≤k)&&decide (k≤200)) 1∧(if wC 499 n false (dY [(kS k,tX)]).1 [] = -1 then n+cR (aZ (dY [(kS k,tX)]).1 (fA []))else n)≤450:=by
 have hv:tX.size=1:=rfl;have hs:=qG k;have hp:=O3 (k:=kS k) (v:=tX) (S:=213) (by omega) (by decide);refine⟨?_,by split<;>omega⟩;rw [← U3];cases e:dB (kS k)with
 | true =>
  have hw:=pS (k:=kS k) (v:=tX) e;rw [ZJ (by decide)] at hw;rw [nC hw (by omega)];rfl
 | false =>
  have hw:=KW (k:=kS k) (v:=tX) e;rw [qK (by rw [hw];decide),hw];rfl
theorem L9 {k n:Nat} (hk:k≤210) (hn:n≤450):xG 499 n [] [kS k]=uY (decide (1≤k)&&decide (k≤200)) 1:=by
 have hs:=qG k;have hp:=SU (k:=kS k) (S:=213) (by omega) (by decide);have hw:=GO (kS k);rw [← U3];cases e:dB (kS k)with
 | true =>
  rw [e,ZK rfl] at hw;rw [nC hw (by omega)];rfl
 | false =>
  rw [e,ZJ Bool.false_ne_true] at hw;rw [qK (by rw [hw];decide),hw];rfl
theorem MD (n:Nat):((List.replicate n [AV.pv (.int .u8 0)]).drop 0).take n=bF (zB n):=by rw [List.drop_zero,List.take_of_length_le (by rw [List.length_replicate];exact ZR _),bF,zB,List.map_replicate];rfl
theorem L8 (hhd:∀ H,aJ Tryz.prog 10 [] H (fun r H'=>r=bv true∧H'=H)) (by' len:Int) (hb:0≤by'∧by'≤65535) (hl:0≤len∧len≤255) :
  aJ Tryz.prog 5 [.pv (.int .u16 by'),.pv (.int .u8 len)] [] (fun r H'=>r=bv true∧H'=[]):=by
 obtain ⟨n,hn1,hn2⟩:=EC hb.1 (show 0 < 20011 by omega);obtain ⟨k,hk1,hk2⟩:=EC hl.1 (show 0 < 211 by omega);have hop:=qC (k:=499) (tY (n:=1000) (by omega) (by omega)) (sM (by omega)) (by omega) rfl;have hnew:=PD 1000 (by omega) (by omega);obtain ⟨tl,htl⟩:∃ tl,tl=(lO 1000).cells.drop (2*499+2):=⟨_,rfl⟩;have hst0:∀ {l:bT} {c:Nat},eA l c→fU l→(∀ x,cU l x=none)→St 1000 499 tl (lO 1000) 0 0 l c (fun _=>none):=fun q1 q2 q3=>by
  rw [htl];exact OA (N:=1000) (by omega) (by omega) q1 q2 q3
 clear htl;obtain ⟨d0,hd0⟩:∃ e,e=lO 1000:=⟨_,rfl⟩;rw [← hd0] at hop hnew hst0;clear hd0;have hbn:=MD n;have hz:=B5 n;obtain ⟨zl,hzl⟩:∃ zl,zl=zB n:=⟨_,rfl⟩;rw [← hzl] at hz hbn;clear hzl;refine Bd func5 rfl ntmps5<|Sr<|Dd aS<|Zz<|Sr<|Dd (by exact aB rfl rfl call10 rfl (hhd _))<|Dd aS<|Zz<|Sr<|Dd aF<|Dd (by exact cP rfl underlying48 bX rfl (gV (by omega) (by omega)))<|Dd (by exact nL rfl rfl rfl (by decide) hn1)<|Dd aS<|Zz<|Sr<|Dd aF<|Dd (by exact cP rfl bI bX rfl (gV (by omega) (by omega)))<|Dd (by exact nL rfl rfl rfl (by decide) hk1)<|Dd aS<|Zz<|Sr<|Dd (by exact aB rfl rfl Y6 rfl (hnew)) ?_;refine iM rfl rfl (aB rfl rfl R8 rfl hop) ?_;rintro _ _ ⟨rfl,l0,c0,q1,q2,q3,q4,rfl⟩;have hS0:=hst0 q1 q2 q4;clear q1 q2 q3 q4 hop hnew hst0;refine Dd aF<|Dd eR<|Dd eR<|Dd aS<|Dd aS<|Zz<|Sr<|Dd aS<|Zz<|Sq<|Sr<|Dd aS<|Zz<|aP ?_;refine bR (σ:=Nat) (fun i=>([(5,bv true),(6,iv (n:Int)),(7,iv (k:Int)),(8,.ref 1100 0 0 0),(9,iv 0),(10,sv (kS i)),(11,iv (i:Int))],sH d0 (cC 499 0 0 false) (bK l0 c0))) (fun i=>i≤k) (fun i=>k - i) 0 (Z3 _) ?_ ?_
 ·exact(cG.wk (Eb<|Eb<|Eb<|Ea<|Eb<|Eb<|Eb<|trivial) (Hc (aG _ _ rfl rfl rfl)<|Hc (aC _ _)<|Hc (aM _ _ _)<|Hc (aL _ _)<|Hc (bA rfl rfl)<|Hc (aT _ _ _)<|trivial) trivial)
 intro i hi;have hks:=qG i;have hnx:=TI i;refine Sq<|Sr<|Dd aF<|Dd aF<|Dd eF<|Zz ?_;refine Cn ?_ ?_<;>intro hc1
 ·have hlt:i < k:=by have:=ZH hc1;omega
  refine aK<|Sq<|aP<|Rg<|Dd aF<|Dd (by exact gE rfl rfl rfl (show (kS i).size+X7.size≤9223372036854775807 by rw [hks];have:X7.size=1:=rfl;omega) hnx)<|Dd aS<|Zz<|Rg<|Dd aF<|Dd (by exact bZ rfl rfl rfl (show IntKind.i64.wrap ((i:Int)+1)=((i+1:Nat):Int)by rw [gV (by omega) (by omega)];omega))<|Da ?_;exact⟨i+1,by omega,by omega,(cG.wk (Eb<|Eb<|Eb<|Ea<|Eb<|Eb<|Eb<|trivial) (Hc (aG _ _ rfl rfl rfl)<|Hc (aC _ _)<|Hc (aM _ _ _)<|Hc (aL _ _)<|Hc (bA rfl rfl)<|Hc (aT _ _ _)<|trivial) trivial)⟩
 have hge:i=k:=by have:=ZI hc1;omega
 subst hge;obtain ⟨w1,w2⟩:=TC hz (by omega);refine bL<|Sr<|Dd aF<|Dd aF<|Dd (by exact iI (id:=960) rfl CC WO WW rfl rfl rfl (by omega) (by omega) (by exact ZX _) (by exact ZX _) (by omega) rfl)<|Dd (by exact fR rfl bV bI aH rfl rfl rfl rfl hbn rfl)<|Dd (by exact aB rfl rfl D0 rfl (E5 tV (ofL zl) _ rfl)) ?_;refine jC (E':=[(5,bv true),(6,iv (n:Int)),(7,iv (i:Int)),(8,.ref 1100 0 0 0),(9,iv 0),(10,sv (kS i)),(37,.ref 1100 0 0 0),(41,.mp 950 0)]) (H':=(950,bK (dY [(tV,ofL zl)]).1 (dY [(tV,ofL zl)]).2)::sH d0 (cC 499 0 0 false) (bK l0 c0)) (cG.wk (Eb<|Eb<|Eb<|Ea<|Eb<|Eb<|Ea<|Ea<|trivial) (Hc (aT _ _ _)<|Hc (aG _ _ rfl rfl rfl)<|Hc (aC _ _)<|Hc (aM _ _ _)<|Hc (aL _ _)<|Hc (bA rfl rfl)<|Hc (aT _ _ _)<|trivial) trivial) ?_;refine iM rfl rfl (aB rfl rfl lS rfl (iK hS0 (by omega) (dY [(tV,ofL zl)]).1 (dY [(tV,ofL zl)]).2 [] (fD _).1 (fD _).2 (by rw [lJ];exact ZZ rfl) (by decide))) ?_;rintro _ _ ⟨rfl,d1,n1,l1,c1,hS1,hn1',rfl⟩;rw [← hn1'] at w2;rw [w1] at hS1 ⊢;clear hS0 hn1';obtain ⟨x1,x2⟩:=TB (k:=i) (by omega) w2;refine jC (E':=[(5,bv true),(6,iv (n:Int)),(7,iv (i:Int)),(8,.ref 1100 0 0 0),(9,iv 0),(10,sv (kS i)),(42,iv (uY (decide (n≤20000)) 2))]) (H':=sH d1 (cC 499 0 n1 false) (bK l1 c1)) (cG.wk (Eb<|Eb<|Eb<|Ea<|Eb<|Eb<|Eb<|trivial) (Hc (aG _ _ rfl rfl rfl)<|Hc (aC _ _)<|Hc (aM _ _ _)<|Hc (aL _ _)<|Hc (bA rfl rfl)<|Hc (aT _ _ _)<|trivial) trivial) ?_;refine Dd aS<|Zz<|Sr<|Dd aF<|Dd aF<|Dd (by exact aB rfl rfl D0 rfl (E5 (kS i) tX _ rfl)) ?_;refine jC (E':=[(5,bv true),(6,iv (n:Int)),(7,iv (i:Int)),(8,.ref 1100 0 0 0),(9,iv 0),(10,sv (kS i)),(12,iv (uY (decide (n≤20000)) 2)),(43,.ref 1100 0 0 0),(45,.mp 950 0)]) (H':=(950,bK (dY [(kS i,tX)]).1 (dY [(kS i,tX)]).2)::sH d1 (cC 499 0 n1 false) (bK l1 c1)) (cG.wk (Eb<|Eb<|Eb<|Ea<|Eb<|Eb<|Eb<|Ea<|Ea<|trivial) (Hc (aT _ _ _)<|Hc (aG _ _ rfl rfl rfl)<|Hc (aC _ _)<|Hc (aM _ _ _)<|Hc (aL _ _)<|Hc (bA rfl rfl)<|Hc (aT _ _ _)<|trivial) trivial) ?_;refine iM rfl rfl (aB rfl rfl lS rfl (iK hS1 (by omega) (dY [(kS i,tX)]).1 (dY [(kS i,tX)]).2 [] (fD _).1 (fD _).2 (by rw [lJ];exact ZZ rfl) (by decide))) ?_;rintro _ _ ⟨rfl,d2,n2,l2,c2,hS2,hn2',rfl⟩;rw [← hn2'] at x2;rw [x1] at hS2 ⊢;have y1:=L9 (k:=i) (by omega) x2;refine Dd aS<|Zz<|Sr<|Dd aF<|Dd aF<|Dd (by exact bH [[.str (kS i)]] rfl cK rfl rfl rfl rfl rfl (by simp)) ?_;refine jC (E':=[(5,bv true),(6,iv (n:Int)),(7,iv (i:Int)),(8,.ref 1100 0 0 0),(9,iv 0),(10,sv (kS i)),(12,iv (uY (decide (n≤20000)) 2)),(13,iv (uY (decide (1≤i)&&decide (i≤200)) 1)),(47,.ref 1100 0 0 0),(49,.pv (aY [kS i]))]) (H':=sH d2 (cC 499 0 n2 false) (bK l2 c2)) (cG.wk (Eb<|Eb<|Eb<|Ea<|Eb<|Eb<|Eb<|Eb<|Ea<|Eb<|trivial) (Hc (aG _ _ rfl rfl rfl)<|Hc (aC _ _)<|Hc (aM _ _ _)<|Hc (aL _ _)<|Hc (bA rfl rfl)<|Hc (aT _ _ _)<|trivial) trivial) ?_;refine iM rfl rfl (aB rfl rfl lS rfl (tU hS2 (by omega) [kS i] (ZZ rfl))) ?_;rintro _ _ ⟨rfl,d3,n3,l3,c3,hS3,hn3',rfl⟩;rw [y1] at hS3 ⊢;have hv3:cU l3 tV=cU l1 tV:=by
  have hk2:cU (dY [(kS i,tX)]).1 tV=none:=by rw [UX,ZJ (U4 i)]
  have h32:cU l3 tV=cU l2 tV:=by
   rw [hS3.kv,hS2.kv];by_cases e:uY (decide (1≤i)&&decide (i≤200)) 1=0
   ·rw [ZK e,BX (fun h=>U4 i (ZO.1 (mB.1 h)).symm) rfl]
   rw [ZJ e]
  rw [h32,hS2.kv,hS1.kv];by_cases e:uY (decide (1≤i)&&decide (i≤200)) 1=0
  ·rw [ZK e,BX (by rw [iY];exact Z2) hk2]
  rw [ZJ e]
 have hget:=IA d3 499 0 n3 false l3 c3 tV;have hvn:n≤20000→cU l3 tV=some (ofL zl):=fun h=>by
  rw [hv3,hS1.kv,ZK (by rw [decide_eq_true h];rfl),pM,iY,ZJ Z2,UX,ZK rfl];rfl
 rw [nO] at hget;have hw:∃ (w:ByteArray) (q:Bool),w=(cU l3 tV).getD sNil∧q=(cU l3 tV).isSome∧(n≤20000→w.size=n∧q=true):=⟨_,_,rfl,rfl,fun h=>by rw [hvn h];exact⟨hz,rfl⟩⟩;obtain ⟨w,q,hw1,hw2,hw3⟩:=hw;rw [← hw1,← hw2] at hget;refine Dd aS<|Zz<|Sq ?_;refine dF (t:=15) (n:=8) (X:=decide ((1:Int)≤(i:Int))&&decide ((i:Int)≤200)) ?_ ?_
 ·all_goals refine Dd aF ?_
  all_goals refine Dd R1<|Dm ?_
  all_goals refine Sp 53 (fun h53=>?_) fun h53=>?_
  all_goals try contradiction
  all_goals first|refine Fo<|Fo ?_|refine On aF<|On XV ?_
  all_goals refine Dd dU<|Da ?_
  all_goals(exact⟨⟨_,rfl,by(simp only [*,Zo];done)⟩,rfl,rfl,rfl⟩)
 refine Sr<|Dd aF<|Dd (by exact aB rfl rfl Y5 rfl (hget))<|Dd aF<|Dd eR<|Dd eR<|Dd aS<|Dd aS<|Zz<|Sq<|Sq ?_;refine dF (t:=77) (n:=19) (X:=false) ?_ ?_
 ·all_goals refine Dd aF ?_
  all_goals refine Dd XV<|Dm ?_
  all_goals refine Sp 64 (fun h64=>?_) fun h64=>?_
  all_goals try contradiction
  all_goals first|refine Fo<|Fo ?_|refine On aF<|On uG ?_
  all_goals refine Dd dU<|Dm ?_
  all_goals refine Sp 68 (fun h68=>?_) fun h68=>?_
  all_goals try contradiction
  all_goals first|refine Fo<|Fo<|Fo ?_|refine On aF<|On AJ<|On aF ?_
  all_goals(first|refine Sp 71 (fun h71=>?_) fun h71=>?_|refine WC (t:=71) rfl ?_)
  all_goals try contradiction
  all_goals first|refine Fo ?_|refine Fu ?_|refine On aF ?_
  all_goals first|refine Fo ?_|refine Fu ?_|refine On (wN aH) ?_
  all_goals first|refine Fo ?_|refine Fu ?_|refine On aF ?_
  all_goals first|refine Fo ?_|refine Fu ?_|refine On uG ?_
  all_goals first|refine Fo ?_|refine On dU ?_
  all_goals refine Dd dU<|Zz ?_
  all_goals(exact⟨⟨_,rfl,by first|rfl|(have hq:=hw3 (by have:=ZH h64;omega);simp_all;done)⟩,rfl,rfl,rfl⟩)
 refine Cn ?_ ?_<;>intro hc2
 ·cases hc2
 obtain ⟨g1,hg1⟩:∃ g,g=decide (n≤20000):=⟨_,rfl⟩;have hg1':decide ((n:Int)≤20000)=g1:=by rw [hg1];exact decide_eq_decide.2 (by omega)
 obtain ⟨g2,hg2⟩:∃ g,g=(decide (1≤i)&&decide (i≤200)):=⟨_,rfl⟩;have hg2':(decide ((1:Int)≤(i:Int))&&decide ((i:Int)≤200))=g2:=by
  rw [hg2];congr 1<;>exact decide_eq_decide.2 (by omega)
 rw [← hg1,← hg2,hg2'];have hsum:=fun H=>VK (kS i) (by rw [qG];omega) H;clear hg1 hg2 hg2';have e85:∀ g:Bool,AV.pv (.bool (decide (uY g 2=0)))=bv g:=fun g=>by cases g<;>rfl
 have e87:AV.pv (.bool (decide ((n:Int)≤20000)))=bv g1:=by rw [hg1']
 have e95:∀ g:Bool,g=false→AV.pv (.bool (decide (uY g 2=2)))=bv true:=fun g h=>by rw [h];rfl
 have e100:∀ g:Bool,AV.pv (.bool (decide (uY g 1=0)))=bv g:=fun g=>by cases g<;>rfl
 have e109:∀ g:Bool,g=false→AV.pv (.bool (decide (uY g 1=1)))=bv true:=fun g h=>by rw [h];rfl
 have ebb:∀ g:Bool,AV.pv (.bool (g == g))=bv true:=fun g=>by cases g<;>rfl
 have eii:∀ z:Int,AV.pv (.bool (decide (z=z)))=bv true:=fun g=>by rw [decide_eq_true rfl]
 rcases Bool.eq_false_or_eq_true g1 with a1|a1
 ·rcases Bool.eq_false_or_eq_true g2 with a2|a2
  ·subst a1 a2;refine aK<|Sr<|Dd aF<|Dd aF<|On aF<|On gS<|Dd dU<|Dd aF<|On aF<|On (by exact bN.eqv (cN rfl rfl rfl) (e85 _))<|On aF<|On (by exact bN.eqv (jV rfl rfl rfl) e87)<|On (by exact bN.eqv (jZ rfl cS rfl rfl) (ebb _))<|Dd dU<|Dd aF<|On aF<|On (by exact bN.eqv (cN rfl rfl rfl) (e85 _))<|On aF<|Fo<|Fo<|On dU<|Dd dU<|Dd aF<|On aF<|On (by exact bN.eqv (cN rfl rfl rfl) (e100 _))<|On aF<|On (by exact bN.eqv (jZ rfl cS rfl rfl) (ebb _))<|Dd dU<|Dd aF<|On aF<|On (by exact bN.eqv (cN rfl rfl rfl) (e100 _))<|On aF<|Fo<|Fo<|On dU<|Dd dU<|Dd aF<|On aF<|On aF<|On (by exact bN.eqv (cN rfl rfl rfl) (eii _))<|Dd dU<|Dd aF<|On aF ?_;refine wG rfl rfl rfl (by rfl) rfl (aB rfl rfl R6 rfl (hsum _)) ?_;rintro _ _ ⟨⟨t,ht1,ht2,rfl⟩,rfl⟩;have his:=fun H=>TM t ht1 ht2 H;exact On (by exact aB rfl rfl R7 rfl (his _))<|Dd dU<|Dd aS<|Zz<|aN<|Rt<|Qq
  subst a1 a2;refine aK<|Sr<|Dd aF<|Dd aF<|On aF<|On gS<|Dd dU<|Dd aF<|On aF<|On (by exact bN.eqv (cN rfl rfl rfl) (e85 _))<|On aF<|On (by exact bN.eqv (jV rfl rfl rfl) e87)<|On (by exact bN.eqv (jZ rfl cS rfl rfl) (ebb _))<|Dd dU<|Dd aF<|On aF<|On (by exact bN.eqv (cN rfl rfl rfl) (e85 _))<|On aF<|Fo<|Fo<|On dU<|Dd dU<|Dd aF<|On aF<|On (by exact bN.eqv (cN rfl rfl rfl) (e100 _))<|On aF<|On (by exact bN.eqv (jZ rfl cS rfl rfl) (ebb _))<|Dd dU<|Dd aF<|On aF<|On (by exact bN.eqv (cN rfl rfl rfl) (e100 _))<|On aF<|On aF<|On (by exact bN.eqv (cN rfl rfl rfl) (e109 _ rfl))<|On dU<|Dd dU<|Dd aF<|On aF<|On aF<|On (by exact bN.eqv (cN rfl rfl rfl) (eii _))<|Dd dU<|Dd aF<|On aF ?_;refine wG rfl rfl rfl (by rfl) rfl (aB rfl rfl R6 rfl (hsum _)) ?_;rintro _ _ ⟨⟨t,ht1,ht2,rfl⟩,rfl⟩;have his:=fun H=>TM t ht1 ht2 H;exact On (by exact aB rfl rfl R7 rfl (his _))<|Dd dU<|Dd aS<|Zz<|aN<|Rt<|Qq
 rcases Bool.eq_false_or_eq_true g2 with a2|a2
 ·subst a1 a2;refine aK<|Sr<|Dd aF<|Dd aF<|On aF<|On gS<|Dd dU<|Dd aF<|On aF<|On (by exact bN.eqv (cN rfl rfl rfl) (e85 _))<|On aF<|On (by exact bN.eqv (jV rfl rfl rfl) e87)<|On (by exact bN.eqv (jZ rfl cS rfl rfl) (ebb _))<|Dd dU<|Dd aF<|On aF<|On (by exact bN.eqv (cN rfl rfl rfl) (e85 _))<|On aF<|On aF<|On (by exact bN.eqv (cN rfl rfl rfl) (e95 _ rfl))<|On dU<|Dd dU<|Dd aF<|On aF<|On (by exact bN.eqv (cN rfl rfl rfl) (e100 _))<|On aF<|On (by exact bN.eqv (jZ rfl cS rfl rfl) (ebb _))<|Dd dU<|Dd aF<|On aF<|On (by exact bN.eqv (cN rfl rfl rfl) (e100 _))<|On aF<|Fo<|Fo<|On dU<|Dd dU<|Dd aF<|On aF<|On aF<|On (by exact bN.eqv (cN rfl rfl rfl) (eii _))<|Dd dU<|Dd aF<|On aF ?_;refine wG rfl rfl rfl (by rfl) rfl (aB rfl rfl R6 rfl (hsum _)) ?_;rintro _ _ ⟨⟨t,ht1,ht2,rfl⟩,rfl⟩;have his:=fun H=>TM t ht1 ht2 H;exact On (by exact aB rfl rfl R7 rfl (his _))<|Dd dU<|Dd aS<|Zz<|aN<|Rt<|Qq
 subst a1 a2;refine aK<|Sr<|Dd aF<|Dd aF<|On aF<|On gS<|Dd dU<|Dd aF<|On aF<|On (by exact bN.eqv (cN rfl rfl rfl) (e85 _))<|On aF<|On (by exact bN.eqv (jV rfl rfl rfl) e87)<|On (by exact bN.eqv (jZ rfl cS rfl rfl) (ebb _))<|Dd dU<|Dd aF<|On aF<|On (by exact bN.eqv (cN rfl rfl rfl) (e85 _))<|On aF<|On aF<|On (by exact bN.eqv (cN rfl rfl rfl) (e95 _ rfl))<|On dU<|Dd dU<|Dd aF<|On aF<|On (by exact bN.eqv (cN rfl rfl rfl) (e100 _))<|On aF<|On (by exact bN.eqv (jZ rfl cS rfl rfl) (ebb _))<|Dd dU<|Dd aF<|On aF<|On (by exact bN.eqv (cN rfl rfl rfl) (e100 _))<|On aF<|On aF<|On (by exact bN.eqv (cN rfl rfl rfl) (e109 _ rfl))<|On dU<|Dd dU<|Dd aF<|On aF<|On aF<|On (by exact bN.eqv (cN rfl rfl rfl) (eii _))<|Dd dU<|Dd aF<|On aF ?_;refine wG rfl rfl rfl (by rfl) rfl (aB rfl rfl R6 rfl (hsum _)) ?_;rintro _ _ ⟨⟨t,ht1,ht2,rfl⟩,rfl⟩;have his:=fun H=>TM t ht1 ht2 H;exact On (by exact aB rfl rfl R7 rfl (his _))<|Dd dU<|Dd aS<|Zz<|aN<|Rt<|Qq
end Go.Proofs.YtmkgeogoojcciaaGreatDoor
