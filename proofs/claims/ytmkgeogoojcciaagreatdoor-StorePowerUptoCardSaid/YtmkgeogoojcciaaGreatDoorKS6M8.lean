/-
  Parts of the proof: rules of an abstract program logic, contracts of functions, plain laws. Conditions: each theorem's own.
-/
import Derived.Test.YtmkgeogoojcciaaGreatDoorKS6M7
set_option linter.unusedVariables false
set_option linter.unusedSimpArgs false
set_option maxRecDepth 100000
set_option maxHeartbeats 8000000
namespace Go.Proofs
theorem aAn:type_of% Tryz.call24:=Tryz.call24
theorem aAl:type_of% Tryz.call51:=Tryz.call51
theorem aAk:type_of% Tryz.call52:=Tryz.call52
theorem UG:type_of% Tryz.func14:=Tryz.func14
theorem lQ:type_of% Tryz.isAgg35:=Tryz.isAgg35
theorem PZ:type_of% Tryz.ntmps14:=Tryz.ntmps14
theorem gV:type_of% Tryz.underlying25:=Tryz.underlying25
theorem gT:type_of% Tryz.underlying66:=Tryz.underlying66
end Go.Proofs
namespace Go.Proofs.YtmkgeogoojcciaaGreatDoor
open Go.Proofs.Tryz
open Go.Abs Go.Lib
def XG (i:Nat):Nat:=if i=950 then 1101 else if i=1101 then 950 else i
theorem UT (i:Nat):XG (XG i)=i:=by
 unfold XG
 repeat' split
 all_goals omega
theorem EU (ρ:Nat→Nat) (l:bU) (c:Nat):jV ρ (bK l c)=bK l c:=by
 show (⟨0,0,c,(fZ fA (bS l)).map (jE ρ)⟩:Ob)=⟨0,0,c,fZ fA (bS l)⟩;have:∀ r∈fZ fA (bS l),jE ρ r=r:=by
  intro r hr;obtain ⟨p,hp,rfl⟩:=List.mem_map.1 hr;obtain ⟨q,_,rfl⟩:=List.mem_map.1 hp;rfl
 rw [List.map_congr_left this,List.map_id']
theorem RA (l:bU) (c:Nat):kP XG [(950,bK l c)]=[(1101,bK l c)]:=by show [(XG 950,jV XG (bK l c))]=_;rw [EU];rfl
theorem UR (l:bU) (c:Nat) (P:List ByteArray) (hst:dW l c) (hl:l.length < 1099511627776) (hP:P.length < 1099511627776) (hsz:(bD l P).length < 35184372088832) (H:aA) (h:H.get 1101=some (bK l c)) :
  aL Tryz.prog 50 [.mp 1101 0,.pv (aW P)] H (fun r H'=>r=sv (ofL (bD l P))∧H'=H):=by
 have h1:=aL.ren (ρ:=XG) UT (LP l c P hst hl hP hsz) (args':=[.mp 1101 0,.pv (aW P)]) (H':=[(1101,bK l c)]) (r':=sv (ofL (bD l P))) (H1':=[(1101,bK l c)]) rfl (RA l c) rfl (RA l c);refine aL.frameS h1 (fun j o ho=>?_) (bM.ofL ⟨aQ _ _ _,trivial⟩) (by simp;rfl);simp only [aA.get] at ho;cases e:Nat.beq 1101 j with
 | true =>
  rw [e] at ho;cases ho;rw [← Nat.eq_of_beq_eq_true e];exact h
 | false=>rw [e] at ho;cases ho
theorem G9 {d:DSt} {N m:Nat} (h:DInv d N m) (k a n:Nat) (l:bU) (c:Nat) (hk:k < 4000) (hkN:2*k+2≤N) (ha:a < 2) (hn:n≤k) (hm:m≤10) (hst:dW l c) (hl:l.length < 1099511627776) (hsz:(bD l []).length < 100000000000) :
  aL Tryz.prog 21 [.ref 1100 0 0 0] (sH d (cI k a n false) (bK l c)) (fun r H'=>(k < cJ (bQ l)∧r=iv 21∧H'=sH d (cI k a n false) (bK l c))∨(cJ (bQ l)≤k∧r=iv (I4 d k a (bQ l)).1∧∃ a' n',a' < 2∧n'≤k∧((I4 d k a (bQ l)).1=0→a'=0∧n'=cJ (bQ l))∧H'=sH (I4 d k a (bQ l)).2 (cI k a' n' (!decide ((I4 d k a (bQ l)).1=0))) (bK l c))):=by
 have htx:=fun H hH=>UR l c [] hst hl (by decide) (by omega) H hH;have hml:(bS l).length=l.length:=aBG _;have hW:bQ l=if l.length=0 then[] else bD l []:=rfl
 have hwl:(bQ l).length < 100000000000:=by
  rw [hW]
  split
  ·decide
  exact hsz
 refine Bd func21 rfl ntmps21<|Sr<|Dd aS<|Zz<|Sq<|aN<|Sr<|Dd aF<|Dd (by exact cY rfl gV rfl rfl rfl rfl)<|Da ?_;refine Cn ?_ ?_<;>intro hc1
 ·cases hc1
 refine Sr<|Dd aF<|Dd fP<|Dd (dV lA)<|Dd (eG dM)<|Da ?_;refine Cn ?_ ?_<;>intro hc2
 ·cases hc2
 refine aG<|Sr<|Da ?_;refine lF (fun(_:Unit)=>([(0,.ref 1100 0 0 0),(2,iv 0),(3,sv (ofL (bQ l)))],sH d (cI k a n false) (bK l c))) (fun _=>True) ?_ ?_
 ·refine Sr<|Dd aF<|Dd fP<|Dd (dV tZ)<|Dd (eG bW)<|Dd (by exact yH (κ:=fA) (l:=bS l) rfl aT rfl rfl rfl rfl)<|Dd DU<|Zz ?_;refine Cn ?_ ?_<;>intro hc3
  ·have hq:¬ l.length=0:=by have:=aBC hc3;omega
   rw [hW,aBE hq];refine Rg<|Dd aF<|Dd fP<|Dd (dV tZ)<|Dd (eG bW)<|Dd (by exact aB rfl rfl wK rfl (htx _ rfl))<|Da ?_;exact⟨(),trivial,(cA.wk (Ea<|Eb<|Eb<|trivial) (Hc (aE _ _ rfl rfl rfl)<|Hc (aC _ _)<|Hc (aK _ _ _)<|Hc (aJ _ _)<|Hc (bI rfl rfl)<|Hc (aQ _ _ _)<|trivial) ⟨rfl,rfl,rfl,rfl,rfl,rfl,trivial⟩)⟩
  have hq:l.length=0:=by have:=aBD hc3;omega
  rw [hW,aBF hq];refine aG ?_;exact⟨(),trivial,(cA.wk (Ea<|Eb<|Eb<|trivial) (Hc (aE _ _ rfl rfl rfl)<|Hc (aC _ _)<|Hc (aK _ _ _)<|Hc (aJ _ _)<|Hc (bI rfl rfl)<|Hc (aQ _ _ _)<|trivial) ⟨rfl,rfl,rfl,rfl,rfl,rfl,trivial⟩)⟩
 rintro _ -;obtain ⟨w,hw⟩:∃ w,w=bQ l:=⟨_,rfl⟩;rw [← hw] at hwl ⊢;clear hW htx;have hcn:=fun H=>BR w (by omega) H;refine Sq<|Sq<|bR follows<|Cq aF<|Cq (by exact aB rfl rfl aAl rfl (hcn _))<|Cq aF<|Cq fP<|Cq (dV uA)<|Cq (eG aU)<|Cq DU<|dG<|Kr ?_;refine Cn ?_ ?_<;>intro hc4
 ·have hq:k < cJ w:=by have:=aBC hc4;omega
  refine Sr<|Dd aS<|Zz<|aM ?_;refine bF (H':=(sH d (cI k a n false) (bK l c))) (.inr rfl) rfl (aH rfl) (Fin.wk (by(simp;done)) (Hc (aE _ _ rfl rfl rfl)<|Hc (aC _ _)<|Hc (aK _ _ _)<|Hc (aJ _ _)<|Hc (bI rfl rfl)<|Hc (aQ _ _ _)<|trivial) ⟨rfl,rfl,rfl,rfl,rfl,rfl,trivial⟩) ?_;exact .inl ⟨hq,rfl,rfl⟩
 have hq:cJ w≤k:=by have:=aBD hc4;omega
 refine aG<|aN ?_;refine PM (fun(d1:DSt) (a1 n1 m1:Nat)=>([(0,.ref 1100 0 0 0),(3,sv (ofL w))],sH d1 (cI k a1 n1 false) (bK l c))) (fun d1 a1 n1 m1=>DInv d1 N m1∧a1 < 2∧n1≤k∧(m1≤10∨(a1=1∧m1≤10010))∧I4 d k a w=I4 d1 k a1 w) (fun d1 a1 n1 m1=>1 - a1) d a n m ⟨h,ha,hn,.inl hm,rfl⟩ ?_ ?_
 ·exact(cA.wk (Ea<|Eb<|trivial) (Hc (aE _ _ rfl rfl rfl)<|Hc (aC _ _)<|Hc (aK _ _ _)<|Hc (aJ _ _)<|Hc (bI rfl rfl)<|Hc (aQ _ _ _)<|trivial) ⟨rfl,rfl,rfl,rfl,rfl,rfl,trivial⟩)
 rintro d1 a1 n1 m1 ⟨hi,ha1,hn1,hm1,hsc⟩;rw [hsc];have hwl2:w.length < 100000000:=by rw [cJ] at hq;omega
 have hadd:=TY hi k a1 n1 (1 - a1) 0 false l c w hwl2 (by omega) (by omega) (by omega) (by omega);have hai:=TZ hi k (1 - a1) 0 w (by omega);rw [aBY] at hadd;obtain ⟨x,hx⟩:∃ x,x=gK d1 k (1 - a1) 0 w:=⟨_,rfl⟩;rw [← hx] at hadd hai;have hR:C7 d1 k a1 w=if x.1=0 then gI x.2 (2+a1*k+0) (zR (k - 0))else x:=by rw [C7,← hx]
 have hS:I4 d1 k a1 w=if a1=1 then(if(C7 d1 k a1 w).1=0 then gI (C7 d1 k a1 w).2 (2+0*k+cJ w) (zR (k - cJ w))else C7 d1 k a1 w)else if(C7 d1 k a1 w).1=0 then I4 (C7 d1 k a1 w).2 k 1 w else C7 d1 k a1 w:=by
  rcases(show a1=0∨a1=1 by omega)with e|e<;>subst e<;>rfl
 have hcl:=IK hai k (1 - a1) (cJ w) a1 0 false l c (by omega) ha1 (aBX _) (by omega);have hyi:=lX hai (2+a1*k+0) (zR (k - 0)) (by rw [List.length_replicate];omega);rw [List.length_replicate] at hyi;obtain ⟨y,hy⟩:∃ y,y=gI x.2 (2+a1*k+0) (zR (k - 0)):=⟨_,rfl⟩;rw [← hy] at hcl hyi hR;have hcl2:=IK hyi k (1 - a1) (cJ w) 0 (cJ w) false l c (by omega) (by omega) hq (by omega);obtain ⟨z,hz⟩:∃ z,z=gI y.2 (2+0*k+cJ w) (zR (k - cJ w)):=⟨_,rfl⟩;rw [← hz] at hcl2;clear hx hsc;refine aN<|Sr<|Dd aF<|Dd fP<|Dd (dV mV)<|Dd (dV uC)<|Dd (eG aU)<|Dd aS<|Zz<|Sr<|Dd aF<|Dd aF<|Dd (by exact eF rfl rfl rfl (show IntKind.i64.wrap (1 - (a1:Int))=((1 - a1:Nat):Int)by rw [jS (by omega) (by omega)];omega))<|Dd (P3 PE)<|Dd aF<|Dd (by exact aB rfl rfl aAk rfl (hadd))<|Dd aS<|Zz<|Sq<|Sr<|Dd aF<|Dd iY<|Zz ?_;refine Cn ?_ ?_<;>intro hc5
 ·have e0:x.1=0:=aBC hc5;rw [aBF e0] at hR ⊢;rw [hR] at hS;refine Rg<|Dd aF<|Dd aF<|Dd (by exact aB rfl rfl call56 rfl (hcl))<|Dd aS<|Zz<|Sq<|Sr<|Dd aF<|Dd uT<|Zz ?_;refine Cn ?_ ?_<;>intro hc6
  ·have e1:¬ y.1=0:=by have h:=hc6;simpa using h
   have hS2:I4 d1 k a1 w=y:=by
    rw [hS,aBE e1,aBE e1,ite_self]
   rw [hS2];refine Sr<|Dd aF<|Dd aS<|Zz<|aM ?_;refine bF (H':=(sH y.2 (cI k (1 - a1) (cJ w) (false||!decide (y.1=0))) (bK l c))) (.inr rfl) rfl (aH rfl) (Fin.wk (by(simp;done)) (Hc (aE _ _ rfl rfl rfl)<|Hc (aC _ _)<|Hc (aK _ _ _)<|Hc (aJ _ _)<|Hc (bI rfl rfl)<|Hc (aQ _ _ _)<|trivial) ⟨rfl,rfl,rfl,rfl,rfl,rfl,trivial⟩) ?_;exact .inr ⟨hq,rfl,1 - a1,cJ w,by omega,hq,fun h=>absurd h e1,rfl⟩
  have e1:y.1=0:=by have h:=hc6;simpa using h
  rw [aBF e1,aBF e1,← hz] at hS;have hb:(false||!decide (y.1=0))=false:=by rw [e1];rfl
  rw [hb];refine aG<|Sr<|Dd aF<|Dd iY<|Zz ?_;refine Cn ?_ ?_<;>intro hc7
  ·have e2:a1=1:=by have:=aBC hc7;omega
   rw [aBF e2] at hS;rw [hS];refine Sr<|Dd aF<|Dd aF<|Dd fP<|Dd (dV mV)<|Dd (dV nV)<|Dd (eG aU)<|Dd (by exact aB rfl rfl call56 rfl (hcl2))<|Dd aS<|Zz<|aM ?_;refine bF (H':=(sH z.2 (cI k (1 - a1) (cJ w) (false||!decide (z.1=0))) (bK l c))) (.inr rfl) rfl (aH rfl) (Fin.wk (by(simp;done)) (Hc (aE _ _ rfl rfl rfl)<|Hc (aC _ _)<|Hc (aK _ _ _)<|Hc (aJ _ _)<|Hc (bI rfl rfl)<|Hc (aQ _ _ _)<|trivial) ⟨rfl,rfl,rfl,rfl,rfl,rfl,trivial⟩) ?_;exact .inr ⟨hq,rfl,1 - a1,cJ w,by omega,hq,fun _=>⟨by omega,rfl⟩,rfl⟩
  have e2:¬ a1=1:=by have:=aBD hc7;omega
  rw [aBE e2] at hS;have e3:a1=0:=by omega
  subst e3;refine aG ?_;exact⟨y.2,1,cJ w,_,⟨hyi,by omega,hq,.inr ⟨rfl,by omega⟩,hS⟩,by omega,(cA.wk (Ea<|Eb<|trivial) (Hc (aE _ _ rfl rfl rfl)<|Hc (aC _ _)<|Hc (aK _ _ _)<|Hc (aJ _ _)<|Hc (bI rfl rfl)<|Hc (aQ _ _ _)<|trivial) ⟨rfl,rfl,rfl,rfl,rfl,rfl,trivial⟩)⟩
 have e0:¬ x.1=0:=aBD hc5;rw [aBE e0] at hR ⊢;rw [hR] at hS;have hS2:I4 d1 k a1 w=x:=by
  rw [hS,aBE e0,aBE e0,ite_self]
 rw [hS2];have hd0:decide (x.1=0)=false:=decide_eq_false e0;refine aG<|Sq<|Sr<|Dd aF<|Dd uT<|Zz ?_;refine Cn ?_ ?_<;>intro hc8
 ·refine Sr<|Dd aF<|Dd aS<|Zz<|aM ?_;refine bF (H':=(sH x.2 (cI k a1 n1 (!decide (x.1=0))) (bK l c))) (.inr rfl) rfl (aH rfl) (by rw [hd0];exact(Fin.wk (by(simp;done)) (Hc (aE _ _ rfl rfl rfl)<|Hc (aC _ _)<|Hc (aK _ _ _)<|Hc (aJ _ _)<|Hc (bI rfl rfl)<|Hc (aQ _ _ _)<|trivial) ⟨rfl,rfl,rfl,rfl,rfl,rfl,trivial⟩)) ?_;exact .inr ⟨hq,rfl,a1,n1,ha1,hn1,fun h=>absurd h e0,rfl⟩
 (have h:=hc8;simp [e0] at h)
end Go.Proofs.YtmkgeogoojcciaaGreatDoor
namespace Go.Proofs.YtmkgeogoojcciaaGreatDoor
open Go.Proofs.Tryz
open Go.Abs
theorem LU {F:FuncId} {caps:List AV} {L:List ByteArray} (hL:L.length < 1099511627776) (hE:∀ (args:Array Value) (w:World),(callFunc F args).run Tryz.prog w=.ok (.enter F args) w) (K:aA) (hS:B0 F caps (fun M=>M.Perm L) K) (k2:K.get 942=none) (k4:K.get 944=none) (k5:K.get 945=none) (k6:K.get 946=none) (hc:bM K) (hcap:Clo K (.clo F caps)) :
  aL Tryz.prog 48 [.clo F caps] K (fun r H'=>r=.osl 945 L.length 0 L.length∧H'=(945,⟨L.length,1,9,dT (cH L)⟩)::K):=by
 refine Bd func48 rfl ntmps48<|Sr<|Dd aS<|Zz<|Sr<|Dm ?_;refine jA rfl rfl (aB rfl rfl call95 rfl (IJ hE K hS k2 k4 k5 k6 hc hcap)) ?_;rintro r H' ⟨M,hperm,rfl,rfl⟩;have hMl:M.length < 4611686018427387904:=by rw [hperm.length_eq];omega
 have hSo:=qP hperm;have hln:M.length=L.length:=hperm.length_eq;refine Dd aS<|Zz<|Sr<|Dd aF<|Dd (by exact aB rfl rfl call96 rfl (C6 M rfl rfl hMl))<|Zz<|Sr<|Dd aF<|Dd aS<|Zz<|aM ?_;refine bF (H':=((945,⟨M.length,1,9,dT (cH M)⟩)::K)) (.inr rfl) rfl (aH rfl) (Fin.get' (fun j=>iH _ _ _ _ j)) ?_;exact⟨by rw [hln],by rw [hSo,hln]⟩
end Go.Proofs.YtmkgeogoojcciaaGreatDoor
namespace Go.Proofs.YtmkgeogoojcciaaGreatDoor
open Go.Proofs.Tryz
open Go.Abs Go.Lib
structure OnD (d:DSt) (n:Nat):Prop where
 inv:DInv d n 0
 off:d.off=false
structure qK (d:DSt) (n:Nat):Prop where
 inv:DInv d n 0
 off:d.off=true
 na:∀ a w b,d.arm≠.on a w b
theorem OnD.q {d:DSt} {n:Nat} (h:OnD d n):d.q=[]:=List.length_eq_zero_iff.1 (Nat.le_zero.1 h.inv.q)
theorem Calm.on {d:DSt} {n:Nat} (h:Calm d n):OnD d n:=⟨h.inv,h.off⟩
def CX (cells:List ByteArray) (p:Nat) (L c':List ByteArray):Prop:=∃ m,m≤L.length∧(c'=lY cells p (L.take m)∨∃ t j,L[m]?=some t∧1≤j∧j≤64∧c'=(lY cells p (L.take m)).set (p+m) (kY (t.extract 0 j) ((cells[p+m]?).getD ⟨#[]⟩)))
theorem CX.len {cells L c':List ByteArray} {p:Nat} (h:CX cells p L c'):c'.length=cells.length:=by
 obtain ⟨m,hm,rfl|⟨t,j,h1,h2,h3,rfl⟩⟩:=h
 ·exact fJ _ _ _
 rw [List.length_set,fJ]
theorem CX.out {cells L c':List ByteArray} {p:Nat} (h:CX cells p L c') {i:Nat} (hi:i < p∨p+L.length≤i):c'[i]?=cells[i]?:=by
 obtain ⟨m,hm,rfl|⟨t,j,h1,h2,h3,rfl⟩⟩:=h
 ·rw [dN,aBU,aBE (by omega)]
 have:=(aBK.1 h1).1;rw [List.getElem?_set_ne (by omega),dN,aBU,aBE (by omega)]
theorem CX.one {cells c':List ByteArray} {p:Nat} {t:ByteArray} (h:CX cells p [t] c') (hp:p < cells.length) (ht:t.size=64):c'=cells∨c'=cells.set p t∨∃ j,1≤j∧j≤64∧c'=cells.set p (kY (t.extract 0 j) ((cells[p]?).getD ⟨#[]⟩)):=by
 obtain ⟨m,hm,h⟩:=h;rw [List.length_singleton] at hm;rcases(show m=0∨m=1 by omega)with rfl|rfl
 ·rcases h with rfl|⟨u,j,h1,h2,h3,rfl⟩
  ·exact .inl rfl
  cases h1;exact .inr (.inr ⟨j,h2,h3,rfl⟩)
 rcases h with rfl|⟨u,j,h1,h2,h3,rfl⟩
 ·exact .inr (.inl rfl)
 cases h1
theorem L0:∀ (L:List ByteArray) (p:Nat),(uS p L).length=L.length
 | [],_=>rfl
 | t::r,p=>by rw [uS,aBI,L0 r,aBI]
theorem HD:∀ (L:List ByteArray) (p m:Nat),(uS p L).take m=uS p (L.take m)
 | [],p,m=>by rw [uS,List.take_nil,List.take_nil];rfl
 | t::r,p,0=>rfl
 | t::r,p,m+1=>by rw [uS,List.take_succ_cons,HD r,List.take_succ_cons,uS]
theorem L1:∀ (L:List ByteArray) (p m:Nat),(uS p L)[m]?=(L[m]?).map fun t=>(p+m,t)
 | [],p,m=>rfl
 | t::r,p,0=>rfl
 | t::r,p,m+1=>by
  rw [uS,List.getElem?_cons_succ,List.getElem?_cons_succ,L1 r];congr 1;funext x;rw [Nat.add_assoc,Nat.add_comm 1 m]
theorem D3 {cells:List ByteArray} {s:DSt} {place:Nat} {L:List ByteArray} {i:Nat} (hi:i≤L.length) (hq:s.q=uS place (L.take i)) (hc:s.cells=cells) (w b:Int):CX cells place L (mW s w b):=by
 have hqm:∀ m,m≤i→s.q.take m=uS place (L.take m):=fun m hm=>by rw [hq,HD,List.take_take,Nat.min_eq_left hm]
 have hql:s.q.length=i:=by rw [hq,L0,aBU];omega
 obtain ⟨m,hM⟩:∃ m,m=BH s w:=⟨_,rfl⟩;have hmi:m≤i:=by rw [hM,BH];omega
 rw [mW,← hM,hqm m hmi,zC,hc];refine⟨m,by omega,?_⟩;cases e:s.q[m]? with
 | none=>exact .inl rfl
 | some p =>
  rw [hq,L1] at e;rw [GS];by_cases hb:0 < b
  ·rw [aBF hb];by_cases hmi2:m < i
   ·rw [List.getElem?_take_of_lt hmi2] at e;cases e2:L[m]? with
    | none=>rw [e2] at e;cases e
    | some t =>
     rw [e2] at e;cases e;refine .inr ⟨t,(min b 64).toNat,rfl,by omega,by omega,?_⟩;show (lY cells place (List.take m L)).set (place+m) (kY (t.extract 0 (min b 64).toNat) (((lY cells place (List.take m L))[place+m]?).getD ⟨#[]⟩))=_;rw [dN,aBU,aBE (by omega)]
   rw [List.getElem?_eq_none (by rw [aBU];omega)] at e;cases e
  rw [aBE hb];exact .inl rfl
theorem D4 {s:DSt} {n m:Nat} (h:DInv s n m) (ho:s.off=false) (w b:Int):qK (iI s w b) n:=by have hi:=oO h w b;rw [iI,aBE (by rw [ho];decide)] at hi ⊢;exact⟨⟨hi.ok,hi.arm,hi.n,aBX _⟩,rfl,fun a w b e=>(mL e).elim⟩
theorem IG {s:DSt} {n m:Nat} (h:DInv s n m) (ho:s.off=false):(eW s=0∧(dX s).off=false∧(dX s).q=s.q∧(dX s).cells=s.cells)∨(eW s=22∧∃ w b,dX s=iI s w b):=by
 unfold eW dX;cases e:s.arm with
 | never=>exact .inl ⟨rfl,ho,rfl,rfl⟩
 | off a w b=>exact .inl ⟨rfl,ho,rfl,rfl⟩
 | on a w b =>
  by_cases ha:0 < a
  ·refine .inl ?_;simp only [aBF ha];exact⟨trivial,ho,trivial,trivial⟩
  refine .inr ?_;simp only [aBE ha];exact⟨trivial,w,b,rfl⟩
theorem QE {d:DSt} {n:Nat} (h:OnD d n) {place:Nat} {L:List ByteArray} (hp:place+L.length≤n) (hs:∀ t∈L,t.size=64) (hm:L.length≤1048575):∀ i,i≤L.length →
  ((oX d place L i).1=0∧(oX d place L i).2.off=false∧(oX d place L i).2.q=uS place (L.take i)∧(oX d place L i).2.cells=d.cells)∨((oX d place L i).1=22∧qK (oX d place L i).2 n∧CX d.cells place L (oX d place L i).2.cells)
 | 0,_=>.inl ⟨rfl,h.off,by rw [List.take_zero,uS];exact h.q,rfl⟩
 | i+1,hi=>by
  have hinv:=rW h.inv place L i (by omega);rcases QE h hp hs hm i (by omega)with⟨h1,h2,h3,h4⟩|⟨h1,h2,h3⟩
  ·obtain ⟨t,ht⟩:=aZ (l:=L) (k:=i) (by omega);have hz:=hs t (aBQ ht);have hD:L.getD i sNil=t:=by rw [List.getD_eq_getElem?_getD,ht];rfl
   have hq:uS place (L.take (i+1))=uS place (L.take i)++[(place+i,t)]:=by
    rw [dK ht,EV,aBU,Nat.min_eq_left (by omega)];rfl
   obtain ⟨s,hS⟩:∃ s,s=(oX d place L i).2:=⟨_,rfl⟩;rw [← hS] at h2 h3 h4 hinv;have sc:fU s ((place+i:Nat):Int)=true:=by
    rw [kW];exact decide_eq_true (by have:=hinv.n;omega)
   have wi:=DS hinv (by omega) ((place+i:Nat):Int) t;have w1:jC s ((place+i:Nat):Int) t=eW (kR s (place+i) t):=by rw [jC,h2,aBE (by decide),sc,decide_eq_true hz,aBF (show (true&&true)=true from rfl),aBR]
   have w2:kG s ((place+i:Nat):Int) t=dX (kR s (place+i) t):=by rw [kG,h2,aBE (by decide),sc,decide_eq_true hz,aBF (show (true&&true)=true from rfl),aBR]
   rw [oX,aBF h1,hD,hq,← hS,w1,w2];have hqS:(kR s (place+i) t).q=uS place (L.take (i+1)):=by
    rw [hq,← h3];rfl
   have hok:DInv (kR s (place+i) t) n (0+i+1):=⟨wP hinv.ok (by have:=hinv.n;omega) hz (by have:=hinv.q;omega),hinv.arm,hinv.n,by show (s.q++[(place+i,t)]).length≤_;rw [aBH,List.length_singleton];have:=hinv.q;omega⟩;rcases IG hok h2 with⟨c1,c2,c3,c4⟩|⟨c1,w,b,c2⟩
   ·exact .inl ⟨c1,c2,by rw [c3,hqS,hq],by rw [c4];exact h4⟩
   refine .inr ⟨c1,?_,?_⟩
   ·rw [c2];exact D4 hok h2 w b
   rw [c2,iI,aBE (by show ¬ s.off=true;rw [h2];decide)];exact D3 hi hqS h4 w b
  rw [oX,aBE (by rw [h1];decide)];exact .inr ⟨h1,h2,h3⟩
theorem qM {d:DSt} {n:Nat} (h:OnD d n) {place:Nat} {L:List ByteArray} (hp:place+L.length≤n) (hs:∀ t∈L,t.size=64) (hm:L.length≤1048575) :
  ((gI d place L).1=0∧OnD (gI d place L).2 n∧(gI d place L).2.cells=lY d.cells place L)∨((gI d place L).1=22∧qK (gI d place L).2 n∧CX d.cells place L (gI d place L).2.cells):=by
 have hi:=lX h.inv place L (by omega);have hk:=rW h.inv place L L.length (by omega);rcases QE h hp hs hm L.length (aBM _)with⟨h1,h2,h3,h4⟩|⟨h1,h2,h3⟩
 ·rw [List.take_length] at h3;rw [gI,aBF h1] at hi ⊢;obtain ⟨s,hS⟩:∃ s,s=(oX d place L L.length).2:=⟨_,rfl⟩;rw [← hS] at h2 h3 h4 hk hi ⊢;have e1:nW s=eW s:=by rw [nW,h2,aBE (by decide)]
  rcases IG hk h2 with⟨c1,c2,c3,c4⟩|⟨c1,w,b,c2⟩
  ·have e2:kH s=xM (dX s):=by rw [kH,h2,aBE (by decide),aBF c1]
   rw [e2] at hi;refine .inl ⟨by rw [e1];exact c1,?_,?_⟩
   ·show OnD (kH s) n;rw [e2];exact⟨⟨hi.ok,hi.arm,hi.n,aBX _⟩,c2⟩
   show (kH s).cells=_;rw [e2];show dF (dX s).cells (dX s).q=_;rw [c3,c4,h3,h4,zC]
  have e2:kH s=iI s w b:=by rw [kH,h2,aBE (by decide),aBE (by rw [c1];decide),c2]
  refine .inr ⟨by rw [e1];exact c1,?_,?_⟩
  ·show qK (kH s) n;rw [e2];exact D4 hk h2 w b
  show CX _ _ _ (kH s).cells;rw [e2,iI,aBE (by rw [h2];decide)];exact D3 (aBM _) (by rw [List.take_length];exact h3) h4 w b
 rw [gI,aBE (by rw [h1];decide)];exact .inr ⟨h1,h2,h3⟩
abbrev YU (P:List ByteArray):Ob:=bx 1 31 [.pv (aW P)]
theorem C2 (P:List ByteArray) (H:aA) (h1:H.get 951=none) :
  aL Tryz.prog 49 [.pv (aW P)] H (fun r H'=>r=.clo 97 [.ref 951 0 0 0]∧H'=(951,YU P)::H):=by
 refine Bd func49 rfl ntmps49<|Sr<|Dd (by exact gO (id:=951) rfl rfl rfl rfl h1)<|Dd aS<|Zz<|Sr<|Dd (by exact fK rfl rfl)<|Dd aS<|Zz<|aM ?_;refine bF (H':=((951,YU P)::H)) (.inr rfl) rfl (aH rfl) Fin.refl ?_;exact Qq
def P1 (i:Nat):Nat:=if i=901 then 945 else if i=945 then 901 else i
theorem UU (i:Nat):P1 (P1 i)=i:=by
 unfold P1
 repeat' split
 all_goals omega
theorem Q9 (ρ:Nat→Nat) (l:List ByteArray):(jP l).map (jE ρ)=jP l:=by
 have:∀ r∈jP l,jE ρ r=r:=by
  intro r hr;obtain ⟨s,_,rfl⟩:=List.mem_map.1 hr;rfl
 rw [List.map_congr_left this,List.map_id']
abbrev cO (g:Nat) (l:List ByteArray):Ob:=⟨g,1,9,jP l⟩
theorem JX (ρ:Nat→Nat) (g:Nat) (l:List ByteArray):jV ρ (cO g l)=cO g l:=by show (⟨g,1,9,(jP l).map (jE ρ)⟩:Ob)=_;rw [Q9]
theorem O9 (id g:Nat) (l:List ByteArray):bM [(id,cO g l)]:=bM.of (fun p hp=>by
 rw [aBJ] at hp;subst hp;exact QR _ _)
theorem BS (L:List ByteArray) (g:Nat) (H:aA) (h1:H.get 945=some (cO g L)) (hl:L.length < 1099511627776) :
  aL Tryz.prog 47 [.osl 945 g 0 L.length] H (fun r H'=>r=.osl 945 g 0 (cG L).length∧H'=[(945,cO g (cG L++List.replicate (L.length - (cG L).length) sNil)),(945,cO g L)]++H):=by
 have h0:=D9 L g [(901,cO g L)] rfl hl;have e1:kP P1 [(901,cO g L)]=[(945,cO g L)]:=by
  show [(P1 901,jV P1 (cO g L))]=_;rw [JX];rfl
 have e2:kP P1 [(901,cO g (cG L++List.replicate (L.length - (cG L).length) sNil)),(901,cO g L)]=[(945,cO g (cG L++List.replicate (L.length - (cG L).length) sNil)),(945,cO g L)]:=by
  show [(P1 901,jV P1 (cO g (cG L++List.replicate (L.length - (cG L).length) sNil))),(P1 901,jV P1 (cO g L))]=_;rw [JX,JX];rfl
 have h2:=aL.ren (ρ:=P1) UU h0 (args':=[.osl 945 g 0 L.length]) (r':=.osl 945 g 0 (cG L).length) rfl e1 rfl e2;refine h2.frame (EL h1) (O9 _ _ _) (by simp;rfl) (fun id h=>.inl ?_);simp only [aA.get] at h ⊢;cases e:Nat.beq 945 id with
 | true=>rfl
 | false=>rw [e] at h;cases h
def gE (P:List ByteArray):List ByteArray:=cG (cH P)
def zO (k n:Nat) (b:Bool) (l2:bU) (P:List ByteArray):Int:=if b then 12 else if ¬ bO l2 P=0 then bO l2 P else if l2.length+(gE P).length=0 then 0 else if k < n+cJ (bD l2 (gE P))then 21 else -1
theorem fF (l2:bU) (P:List ByteArray):bO l2 P=0∨bO l2 P=1∨bO l2 P=2:=by
 rw [bO]
 split
 ·exact .inr (.inl rfl)
 split
 ·exact .inr (.inr rfl)
 exact .inl rfl
theorem wB (P:List ByteArray):(gE P).length≤P.length:=by have h1:=DX (cH P);rw [dY] at h1;exact h1
theorem kI {P:List ByteArray} {x:ByteArray}:x∈gE P↔x∈P:=rQ.trans (pA P).mem_iff
theorem rR (P:List ByteArray):A8 (gE P):=wA (wS P)
theorem S5 (P R:List ByteArray):(((cG (cH P)++R).map encStr).take (0+(cG (cH P)).length)).drop 0=(gE P).map encStr:=by rw [List.drop_zero,aBY,List.map_append];exact List.take_left' (aBG _)
theorem EB {d:DSt} {N m:Nat} (h:DInv d N m) (k a n:Nat) (b:Bool) (l:bU) (c:Nat) (l2:bU) (c2:Nat) (P:List ByteArray) (hk:k < 4000) (ha:a < 2) (hn:n≤k) (hm:m≤10) (hst:dW l c) (hnd:eY l) (hst2:dW l2 c2) (hnd2:eY l2) (hl2:l2.length < 1000000) (hP:P.length < 1000000) (hsz:bO l2 P=0→(bD l2 (gE P)).length < 100000000) :
  aL Tryz.prog 14 [.ref 1100 0 0 0,.mp 950 0,.pv (aW P)] ((950,bK l2 c2)::sH d (cI k a n b) (bK l c)) (fun r H'=>(¬ zO k n b l2 P = -1∧r=iv (zO k n b l2 P)∧H'=(950,bK l2 c2)::sH d (cI k a n b) (bK l c)) ∨
   (zO k n b l2 P = -1∧¬ (gK d k a n (bD l2 (gE P))).1=0∧r=iv (gK d k a n (bD l2 (gE P))).1∧H'=(950,bK l2 c2)::sH (gK d k a n (bD l2 (gE P))).2 (cI k a n true) (bK l c)) ∨
   (zO k n b l2 P = -1∧(gK d k a n (bD l2 (gE P))).1=0∧r=iv 0∧∃ l' c',dW l' c'∧eY l'∧l'.length≤l.length+l2.length∧(∀ x,dD l' x=oU (dD l) l2 (gE P) x)∧H'=(950,bK l2 c2)::sH (gK d k a n (bD l2 (gE P))).2 (cI k a (n+cJ (bD l2 (gE P))) false) (bK l' c'))):=by
 have hR:zO k n b l2 P=if b then 12 else if ¬ bO l2 P=0 then bO l2 P else if l2.length+(gE P).length=0 then 0 else if k < n+cJ (bD l2 (gE P))then 21 else -1:=rfl
 have hwr:=fun H hH=>LO l2 c2 P hst2 (by omega) (by omega) H hH;have hrange:=fF l2 P;have hDl:=wB P;cases b with
 | true =>
  rw [aBF rfl] at hR;rw [hR];refine Bd UG rfl PZ<|Sr<|Dd aS<|Zz<|Sq<|aN<|Sr<|Dd aF<|Dd (by exact cY rfl gV rfl rfl rfl rfl)<|Da ?_;refine Cn ?_ ?_<;>intro hc1
  ·cases hc1
  refine Sr<|Dd aF<|Dd fP<|Dd (dV lA)<|Dd (eG dM)<|Da ?_;refine Cn ?_ ?_<;>intro hc2
  ·refine Sr<|Dd aS<|Zz<|aM ?_;refine bF (H':=((950,bK l2 c2)::sH d (cI k a n true) (bK l c))) (.inr rfl) rfl (aH rfl) (Fin.wk (by(simp;done)) (Hc (aQ _ _ _)<|Hc (aE _ _ rfl rfl rfl)<|Hc (aC _ _)<|Hc (aK _ _ _)<|Hc (aJ _ _)<|Hc (by(simp;exact⟨rfl,rfl⟩))<|Hc (aQ _ _ _)<|trivial) ⟨rfl,rfl,rfl,rfl,rfl,rfl,rfl,trivial⟩) ?_;exact .inl ⟨by decide,rfl,rfl⟩
  cases hc2
 | false =>
  rw [aBE (by decide)] at hR;refine Bd UG rfl PZ<|Sr<|Dd aS<|Zz<|Sq<|aN<|Sr<|Dd aF<|Dd (by exact cY rfl gV rfl rfl rfl rfl)<|Da ?_;refine Cn ?_ ?_<;>intro hc1
  ·cases hc1
  refine Sr<|Dd aF<|Dd fP<|Dd (dV lA)<|Dd (eG dM)<|Da ?_;refine Cn ?_ ?_<;>intro hc2
  ·cases hc2
  refine aG<|Sq<|Sr<|Dd aF<|Dd aF<|Dd (by exact aB rfl rfl wL rfl (hwr _ rfl))<|Dd aS<|Zz<|Sr<|Dd aF<|Dd uT<|Zz ?_;refine Cn ?_ ?_<;>intro hc3
  ·have hq:¬ bO l2 P=0:=by have h:=hc3;simpa using h
   rw [aBF hq] at hR;rw [hR];refine Sr<|Dd aF<|Dd aS<|Zz<|aM ?_;refine bF (H':=((950,bK l2 c2)::sH d (cI k a n false) (bK l c))) (.inr rfl) rfl (aH rfl) (Fin.wk (by(simp;done)) (Hc (aQ _ _ _)<|Hc (aE _ _ rfl rfl rfl)<|Hc (aC _ _)<|Hc (aK _ _ _)<|Hc (aJ _ _)<|Hc (by(simp;exact⟨rfl,rfl⟩))<|Hc (aQ _ _ _)<|trivial) ⟨rfl,rfl,rfl,rfl,rfl,rfl,rfl,trivial⟩) ?_;exact .inl ⟨by omega,rfl,rfl⟩
  have hq:bO l2 P=0:=by have h:=hc3;simpa using h
  rw [aBE (fun h=>h hq)] at hR;have hsz:=hsz hq;have hso:=LU (L:=P) (by omega) call97 ((951,YU P)::(950,bK l2 c2)::sH d (cI k a n false) (bK l c)) (C3 P _ (by omega) rfl) rfl rfl rfl rfl (bM.ofL ⟨(by(simp;done)),(by exact aQ _ _ _),(by exact aE _ _ rfl rfl rfl),(by exact aC _ _),(by exact aK _ _ _),(by exact aJ _ _),(by(simp;exact⟨rfl,rfl⟩)),(by exact aQ _ _ _),trivial⟩) (by simp;rfl);refine aG<|Sr<|Dd aF<|Dd (by exact aB rfl rfl call49 rfl (C2 P _ rfl))<|Dd (by exact aB rfl rfl GG rfl (hso))<|Dd (by exact aB rfl rfl aAm rfl ((by have h:=BS (cH P) P.length ((945,cO P.length (cH P))::(951,YU P)::(950,bK l2 c2)::sH d (cI k a n false) (bK l c)) rfl (by rw [dY];omega);rw [dY] at h;exact h)))<|Dd aS<|Zz<|Sq<|Sq ?_;refine gM.ent (cA.fzG (id:=945) (E':=[(0,.ref 1100 0 0 0),(1,.mp 950 0),(2,.pv (aW (gE P)))]) (H':=(950,bK l2 c2)::sH d (cI k a n false) (bK l c)) ((cG (cH P)++List.replicate (P.length - (cG (cH P)).length) sNil).map encStr) rfl (by rw [List.map_map];rfl) ?_ rfl ?_ ?_) ?_
  ·intro p hp;simp only [aBS,aBW,or_false] at hp;rcases hp with rfl|rfl|rfl
   ·exact⟨_,rfl,.same (by simp;rfl)⟩
   ·exact⟨_,rfl,.same (by simp;rfl)⟩
   exact⟨_,rfl,.osl (S5 P _)⟩
  ·exact⟨⟨_,rfl,rfl,rfl,rfl,cT (aQ _ _ _)⟩,⟨_,rfl,rfl,rfl,rfl,cT (aE _ _ rfl rfl rfl)⟩,⟨_,rfl,rfl,rfl,rfl,cT (aC _ _)⟩,⟨_,rfl,rfl,rfl,rfl,cT (aK _ _ _)⟩,⟨_,rfl,rfl,rfl,rfl,cT (aJ _ _)⟩,⟨_,rfl,rfl,rfl,rfl,cT (bI rfl rfl)⟩,⟨_,rfl,rfl,rfl,rfl,cT (aQ _ _ _)⟩,trivial⟩
  ·exact⟨rfl,rfl,rfl,rfl,rfl,rfl,rfl,trivial⟩
  have hinc:=rR P;obtain ⟨D,hD⟩:∃ D,D=gE P:=⟨_,rfl⟩;rw [← hD] at hR hsz hDl ⊢;have hmp:(bS l2).length=l2.length:=aBG _;have hmd:(D.map encStr).length=D.length:=aBG _;have htx:=fun H hH=>QM l2 c2 D hst2 (by omega) (by omega) (by omega) H hH;obtain ⟨t,ht⟩:∃ t,t=bD l2 D:=⟨_,rfl⟩;rw [← ht] at hR hsz htx ⊢;have hcn:=fun H=>BR t (by omega) H;refine Rg<|Dd aF<|Dd (by exact yH (κ:=fA) (l:=bS l2) rfl aT rfl rfl rfl rfl)<|Dd aF<|Dd (mH aO)<|Dd (by exact cV rfl rfl rfl (jS (by omega) (by omega)))<|Dd iY<|Zz ?_;refine Cn ?_ ?_<;>intro hc4
  ·have hq2:l2.length+D.length=0:=by have:=aBC hc4;omega
   rw [aBF hq2] at hR;rw [hR];refine Sr<|Dd aS<|Zz<|aM ?_;refine bF (H':=((950,bK l2 c2)::sH d (cI k a n false) (bK l c))) (.inr rfl) rfl (aH rfl) (Fin.wk (by(simp;done)) (Hc (aQ _ _ _)<|Hc (aE _ _ rfl rfl rfl)<|Hc (aC _ _)<|Hc (aK _ _ _)<|Hc (aJ _ _)<|Hc (by(simp;exact⟨rfl,rfl⟩))<|Hc (aQ _ _ _)<|trivial) ⟨rfl,rfl,rfl,rfl,rfl,rfl,rfl,trivial⟩) ?_;exact .inl ⟨by decide,rfl,rfl⟩
  have hq2:¬ l2.length+D.length=0:=by have:=aBD hc4;omega
  rw [aBE hq2] at hR;refine aG<|Sr<|Dd aF<|Dd aF<|Dd (by exact aB rfl rfl wK rfl (htx _ rfl))<|Dd aS<|Zz<|Sq<|Sq<|bR follows<|Cq aF<|Cq (by exact aB rfl rfl aAl rfl (hcn _))<|Cq aF<|Cq fP<|Cq (dV uA)<|Cq (eG aU)<|Cq aF<|Cq fP<|Cq (dV mV)<|Cq (dV nV)<|Cq (eG aU)<|Cq (by exact eF rfl rfl rfl (jS (by omega) (by omega)))<|Cq DU<|dG<|Kr ?_;refine Cn ?_ ?_<;>intro hc5
  ·have hq3:k < n+cJ t:=by have:=aBC hc5;omega
   rw [aBF hq3] at hR;rw [hR];refine Sr<|Dd aS<|Zz<|aM ?_;refine bF (H':=((950,bK l2 c2)::sH d (cI k a n false) (bK l c))) (.inr rfl) rfl (aH rfl) (Fin.wk (by(simp;done)) (Hc (aQ _ _ _)<|Hc (aE _ _ rfl rfl rfl)<|Hc (aC _ _)<|Hc (aK _ _ _)<|Hc (aJ _ _)<|Hc (by(simp;exact⟨rfl,rfl⟩))<|Hc (aQ _ _ _)<|trivial) ⟨rfl,rfl,rfl,rfl,rfl,rfl,rfl,trivial⟩) ?_;exact .inl ⟨by decide,rfl,rfl⟩
  have hq3:¬ k < n+cJ t:=by have:=aBD hc5;omega
  rw [aBE hq3] at hR;rw [hR];have hadd:=TY h k a n a n false l c t hsz (by omega) ha hk (by omega);obtain ⟨x,hx⟩:∃ x,x=gK d k a n t:=⟨_,rfl⟩;rw [← hx] at hadd ⊢;clear hx;refine aG<|Sq<|Sr<|Dd aF<|Dd aF<|Dd fP<|Dd (dV mV)<|Dd (VL dJ sizeOf70)<|Dd aF<|Dd (by exact aB rfl rfl aAk rfl (gW hadd _ ⟨rfl,rfl,rfl,rfl,rfl,rfl,trivial⟩ (by simp;rfl)))<|Dd aS<|Zz<|Sr<|Dd aF<|Dd uT<|Zz ?_;refine Cn ?_ ?_<;>intro hc6
  ·have e0:¬ x.1=0:=by have h:=hc6;simpa using h
   rw [aBE e0];refine Sr<|Dd aF<|Dd aS<|Zz<|aM ?_;refine bF (H':=((950,bK l2 c2)::sH x.2 (cI k a n true) (bK l c))) (.inr rfl) rfl (aH rfl) (Fin.wk (by(simp;done)) (Hc (aQ _ _ _)<|Hc (aE _ _ rfl rfl rfl)<|Hc (aC _ _)<|Hc (aK _ _ _)<|Hc (aJ _ _)<|Hc (by(simp;exact⟨rfl,rfl⟩))<|Hc (aQ _ _ _)<|trivial) ⟨rfl,rfl,rfl,rfl,rfl,rfl,rfl,trivial⟩) ?_;exact .inr (.inl ⟨rfl,e0,rfl,rfl⟩)
  have e0:x.1=0:=by have h:=hc6;simpa using h
  rw [aBF e0];refine aG<|Sr<|Dd aF<|Dd fP<|Dd (dV tZ)<|Dd (eG bW)<|Dd aF<|Dm ?_;refine jA rfl rfl (aB rfl rfl aAj rfl (TR l l2 c c2 D _ (by omega) (by omega) hst2 rfl rfl rfl (bM.ofL ⟨(by exact aE _ _ rfl rfl rfl),(by exact aC _ _),(by exact aK _ _ _),(by exact aJ _ _),(by(simp;exact⟨rfl,rfl⟩)),(by exact aQ _ _ _),(by exact aQ _ _ _),(by exact aE _ _ rfl rfl rfl),(by exact aC _ _),(by exact aK _ _ _),(by exact aJ _ _),(by(simp;exact⟨rfl,rfl⟩)),(by exact aQ _ _ _),trivial⟩))) ?_;rintro r H' ⟨rfl,ps,hps,rfl⟩;obtain ⟨q1,q2,q3,q4⟩:=BX (D:=D) hst hnd hnd2 hps;refine Zz<|Sr<|Dd aS<|Zz<|aM ?_;refine bF (H':=((950,bK l2 c2)::sH x.2 (cI k a (n+cJ t) false) (bK (jH (gJ l c ps).1 D) (gJ l c ps).2))) (.inr rfl) rfl (aH rfl) (Fin.wk (by(simp;done)) (Hc (aQ _ _ _)<|Hc (aE _ _ rfl rfl rfl)<|Hc (aC _ _)<|Hc (aK _ _ _)<|Hc (aJ _ _)<|Hc (by(simp;exact⟨rfl,rfl⟩))<|Hc (aQ _ _ _)<|trivial) ⟨rfl,rfl,rfl,rfl,rfl,rfl,rfl,trivial⟩) ?_;exact .inr (.inr ⟨rfl,e0,rfl,_,_,q1,q2,q3,q4,rfl⟩)
theorem O4 {d:DSt} {N m:Nat} (h:DInv d N m) (k a n:Nat) (b:Bool) (l:bU) (c:Nat) (P:List ByteArray) (hk:k < 4000) (ha:a < 2) (hn:n≤k) (hm:m≤10) (hst:dW l c) (hnd:eY l) (hP:P.length < 1000000) (hsz:bO ([]:bU) P=0→(bD ([]:bU) (gE P)).length < 100000000) :
  aL Tryz.prog 14 [.ref 1100 0 0 0,.pv .nilm,.pv (aW P)] (sH d (cI k a n b) (bK l c)) (fun r H'=>(¬ zO k n b ([]:bU) P = -1∧r=iv (zO k n b ([]:bU) P)∧H'=sH d (cI k a n b) (bK l c)) ∨
   (zO k n b ([]:bU) P = -1∧¬ (gK d k a n (bD ([]:bU) (gE P))).1=0∧r=iv (gK d k a n (bD ([]:bU) (gE P))).1∧H'=sH (gK d k a n (bD ([]:bU) (gE P))).2 (cI k a n true) (bK l c)) ∨
   (zO k n b ([]:bU) P = -1∧(gK d k a n (bD ([]:bU) (gE P))).1=0∧r=iv 0∧∃ l' c',dW l' c'∧eY l'∧l'.length≤l.length+([]:bU).length∧(∀ x,dD l' x=oU (dD l) ([]:bU) (gE P) x)∧H'=sH (gK d k a n (bD ([]:bU) (gE P))).2 (cI k a (n+cJ (bD ([]:bU) (gE P))) false) (bK l' c'))):=by
 have hR:zO k n b ([]:bU) P=if b then 12 else if ¬ bO ([]:bU) P=0 then bO ([]:bU) P else if([]:bU).length+(gE P).length=0 then 0 else if k < n+cJ (bD ([]:bU) (gE P))then 21 else -1:=rfl
 have hwr:=fun H=>QD P (by omega) H;have hrange:=fF ([]:bU) P;have hDl:=wB P;cases b with
 | true =>
  rw [aBF rfl] at hR;rw [hR];refine Bd UG rfl PZ<|Sr<|Dd aS<|Zz<|Sq<|aN<|Sr<|Dd aF<|Dd (by exact cY rfl gV rfl rfl rfl rfl)<|Da ?_;refine Cn ?_ ?_<;>intro hc1
  ·cases hc1
  refine Sr<|Dd aF<|Dd fP<|Dd (dV lA)<|Dd (eG dM)<|Da ?_;refine Cn ?_ ?_<;>intro hc2
  ·refine Sr<|Dd aS<|Zz<|aM ?_;refine bF (H':=(sH d (cI k a n true) (bK l c))) (.inr rfl) rfl (aH rfl) (Fin.wk (by(simp;done)) (Hc (aE _ _ rfl rfl rfl)<|Hc (aC _ _)<|Hc (aK _ _ _)<|Hc (aJ _ _)<|Hc (by(simp;exact⟨rfl,rfl⟩))<|Hc (aQ _ _ _)<|trivial) ⟨rfl,rfl,rfl,rfl,rfl,rfl,trivial⟩) ?_;exact .inl ⟨by decide,rfl,rfl⟩
  cases hc2
 | false =>
  rw [aBE (by decide)] at hR;refine Bd UG rfl PZ<|Sr<|Dd aS<|Zz<|Sq<|aN<|Sr<|Dd aF<|Dd (by exact cY rfl gV rfl rfl rfl rfl)<|Da ?_;refine Cn ?_ ?_<;>intro hc1
  ·cases hc1
  refine Sr<|Dd aF<|Dd fP<|Dd (dV lA)<|Dd (eG dM)<|Da ?_;refine Cn ?_ ?_<;>intro hc2
  ·cases hc2
  refine aG<|Sq<|Sr<|Dd aF<|Dd aF<|Dd (by exact aB rfl rfl wL rfl (hwr _))<|Dd aS<|Zz<|Sr<|Dd aF<|Dd uT<|Zz ?_;refine Cn ?_ ?_<;>intro hc3
  ·have hq:¬ bO ([]:bU) P=0:=by have h:=hc3;simpa using h
   rw [aBF hq] at hR;rw [hR];refine Sr<|Dd aF<|Dd aS<|Zz<|aM ?_;refine bF (H':=(sH d (cI k a n false) (bK l c))) (.inr rfl) rfl (aH rfl) (Fin.wk (by(simp;done)) (Hc (aE _ _ rfl rfl rfl)<|Hc (aC _ _)<|Hc (aK _ _ _)<|Hc (aJ _ _)<|Hc (by(simp;exact⟨rfl,rfl⟩))<|Hc (aQ _ _ _)<|trivial) ⟨rfl,rfl,rfl,rfl,rfl,rfl,trivial⟩) ?_;exact .inl ⟨by omega,rfl,rfl⟩
  have hq:bO ([]:bU) P=0:=by have h:=hc3;simpa using h
  rw [aBE (fun h=>h hq)] at hR;have hsz:=hsz hq;have hso:=LU (L:=P) (by omega) call97 ((951,YU P)::sH d (cI k a n false) (bK l c)) (C3 P _ (by omega) rfl) rfl rfl rfl rfl (bM.ofL ⟨(by(simp;done)),(by exact aE _ _ rfl rfl rfl),(by exact aC _ _),(by exact aK _ _ _),(by exact aJ _ _),(by(simp;exact⟨rfl,rfl⟩)),(by exact aQ _ _ _),trivial⟩) (by simp;rfl);refine aG<|Sr<|Dd aF<|Dd (by exact aB rfl rfl call49 rfl (C2 P _ rfl))<|Dd (by exact aB rfl rfl GG rfl (hso))<|Dd (by exact aB rfl rfl aAm rfl ((by have h:=BS (cH P) P.length ((945,cO P.length (cH P))::(951,YU P)::sH d (cI k a n false) (bK l c)) rfl (by rw [dY];omega);rw [dY] at h;exact h)))<|Dd aS<|Zz<|Sq<|Sq ?_;refine gM.ent (cA.fzG (id:=945) (E':=[(0,.ref 1100 0 0 0),(1,.pv .nilm),(2,.pv (aW (gE P)))]) (H':=sH d (cI k a n false) (bK l c)) ((cG (cH P)++List.replicate (P.length - (cG (cH P)).length) sNil).map encStr) rfl (by rw [List.map_map];rfl) ?_ rfl ?_ ?_) ?_
  ·intro p hp;simp only [aBS,aBW,or_false] at hp;rcases hp with rfl|rfl|rfl
   ·exact⟨_,rfl,.same (by simp;rfl)⟩
   ·exact⟨_,rfl,.same (by simp)⟩
   exact⟨_,rfl,.osl (S5 P _)⟩
  ·exact⟨⟨_,rfl,rfl,rfl,rfl,cT (aE _ _ rfl rfl rfl)⟩,⟨_,rfl,rfl,rfl,rfl,cT (aC _ _)⟩,⟨_,rfl,rfl,rfl,rfl,cT (aK _ _ _)⟩,⟨_,rfl,rfl,rfl,rfl,cT (aJ _ _)⟩,⟨_,rfl,rfl,rfl,rfl,cT (bI rfl rfl)⟩,⟨_,rfl,rfl,rfl,rfl,cT (aQ _ _ _)⟩,trivial⟩
  ·exact⟨rfl,rfl,rfl,rfl,rfl,rfl,trivial⟩
  have hinc:=rR P;obtain ⟨D,hD⟩:∃ D,D=gE P:=⟨_,rfl⟩;rw [← hD] at hR hsz hDl ⊢;have hmp:([]:bU).length=0:=rfl;have hmd:(D.map encStr).length=D.length:=aBG _;have htx:=fun H=>US D (by omega) (by omega) H;obtain ⟨t,ht⟩:∃ t,t=bD ([]:bU) D:=⟨_,rfl⟩;rw [← ht] at hR hsz htx ⊢;have hcn:=fun H=>BR t (by omega) H;refine Rg<|Dd aF<|Dd (by exact W2 rfl aT rfl)<|Dd aF<|Dd (mH aO)<|Dd (by exact cV rfl rfl rfl (jS (by omega) (by omega)))<|Dd iY<|Zz ?_;refine Cn ?_ ?_<;>intro hc4
  ·have hq2:([]:bU).length+D.length=0:=by have:=aBC hc4;omega
   rw [aBF hq2] at hR;rw [hR];refine Sr<|Dd aS<|Zz<|aM ?_;refine bF (H':=(sH d (cI k a n false) (bK l c))) (.inr rfl) rfl (aH rfl) (Fin.wk (by(simp;done)) (Hc (aE _ _ rfl rfl rfl)<|Hc (aC _ _)<|Hc (aK _ _ _)<|Hc (aJ _ _)<|Hc (by(simp;exact⟨rfl,rfl⟩))<|Hc (aQ _ _ _)<|trivial) ⟨rfl,rfl,rfl,rfl,rfl,rfl,trivial⟩) ?_;exact .inl ⟨by decide,rfl,rfl⟩
  have hq2:¬ ([]:bU).length+D.length=0:=by have:=aBD hc4;omega
  rw [aBE hq2] at hR;refine aG<|Sr<|Dd aF<|Dd aF<|Dd (by exact aB rfl rfl wK rfl (htx _))<|Dd aS<|Zz<|Sq<|Sq<|bR follows<|Cq aF<|Cq (by exact aB rfl rfl aAl rfl (hcn _))<|Cq aF<|Cq fP<|Cq (dV uA)<|Cq (eG aU)<|Cq aF<|Cq fP<|Cq (dV mV)<|Cq (dV nV)<|Cq (eG aU)<|Cq (by exact eF rfl rfl rfl (jS (by omega) (by omega)))<|Cq DU<|dG<|Kr ?_;refine Cn ?_ ?_<;>intro hc5
  ·have hq3:k < n+cJ t:=by have:=aBC hc5;omega
   rw [aBF hq3] at hR;rw [hR];refine Sr<|Dd aS<|Zz<|aM ?_;refine bF (H':=(sH d (cI k a n false) (bK l c))) (.inr rfl) rfl (aH rfl) (Fin.wk (by(simp;done)) (Hc (aE _ _ rfl rfl rfl)<|Hc (aC _ _)<|Hc (aK _ _ _)<|Hc (aJ _ _)<|Hc (by(simp;exact⟨rfl,rfl⟩))<|Hc (aQ _ _ _)<|trivial) ⟨rfl,rfl,rfl,rfl,rfl,rfl,trivial⟩) ?_;exact .inl ⟨by decide,rfl,rfl⟩
  have hq3:¬ k < n+cJ t:=by have:=aBD hc5;omega
  rw [aBE hq3] at hR;rw [hR];have hadd:=TY h k a n a n false l c t hsz (by omega) ha hk (by omega);obtain ⟨x,hx⟩:∃ x,x=gK d k a n t:=⟨_,rfl⟩;rw [← hx] at hadd ⊢;clear hx;refine aG<|Sq<|Sr<|Dd aF<|Dd aF<|Dd fP<|Dd (dV mV)<|Dd (VL dJ sizeOf70)<|Dd aF<|Dd (by exact aB rfl rfl aAk rfl (gW hadd _ ⟨rfl,rfl,rfl,rfl,rfl,rfl,trivial⟩ (by simp;rfl)))<|Dd aS<|Zz<|Sr<|Dd aF<|Dd uT<|Zz ?_;refine Cn ?_ ?_<;>intro hc6
  ·have e0:¬ x.1=0:=by have h:=hc6;simpa using h
   rw [aBE e0];refine Sr<|Dd aF<|Dd aS<|Zz<|aM ?_;refine bF (H':=(sH x.2 (cI k a n true) (bK l c))) (.inr rfl) rfl (aH rfl) (Fin.wk (by(simp;done)) (Hc (aE _ _ rfl rfl rfl)<|Hc (aC _ _)<|Hc (aK _ _ _)<|Hc (aJ _ _)<|Hc (by(simp;exact⟨rfl,rfl⟩))<|Hc (aQ _ _ _)<|trivial) ⟨rfl,rfl,rfl,rfl,rfl,rfl,trivial⟩) ?_;exact .inr (.inl ⟨rfl,e0,rfl,rfl⟩)
  have e0:x.1=0:=by have h:=hc6;simpa using h
  rw [aBF e0];refine aG<|Sr<|Dd aF<|Dd fP<|Dd (dV tZ)<|Dd (eG bW)<|Dd aF<|Dm ?_;refine jA rfl rfl (aB rfl rfl aAj rfl (TQ l c D _ (by omega) rfl rfl (bM.ofL ⟨(by exact aE _ _ rfl rfl rfl),(by exact aC _ _),(by exact aK _ _ _),(by exact aJ _ _),(by(simp;exact⟨rfl,rfl⟩)),(by exact aQ _ _ _),(by exact aE _ _ rfl rfl rfl),(by exact aC _ _),(by exact aK _ _ _),(by exact aJ _ _),(by(simp;exact⟨rfl,rfl⟩)),(by exact aQ _ _ _),trivial⟩))) ?_;rintro r H' ⟨rfl,rfl⟩;obtain ⟨q1,q2,q3,q4⟩:=BX (put:=[]) (ps:=[]) (D:=D) hst hnd AW (List.Perm.refl _);refine Zz<|Sr<|Dd aS<|Zz<|aM ?_;refine bF (H':=(sH x.2 (cI k a (n+cJ t) false) (bK (jH l D) c))) (.inr rfl) rfl (aH rfl) (Fin.wk (by(simp;done)) (Hc (aE _ _ rfl rfl rfl)<|Hc (aC _ _)<|Hc (aK _ _ _)<|Hc (aJ _ _)<|Hc (by(simp;exact⟨rfl,rfl⟩))<|Hc (aQ _ _ _)<|trivial) ⟨rfl,rfl,rfl,rfl,rfl,rfl,trivial⟩) ?_;exact .inr (.inr ⟨rfl,e0,rfl,_,_,q1,q2,q3,q4,rfl⟩)
abbrev Z8 (l:List UInt8) (g:Nat) (u:Bool):Ob:=pS (.osl 2002 g 0 l.length) u
abbrev Z7 (l:List UInt8) (g:Nat):Ob:=⟨g,1,5,bG l⟩
theorem UM {g g':Nat} {l l':List UInt8} {u u':Bool} {id:Nat} (h:(aA.get (I7 g l u) id).isSome=true):(aA.get (I7 g' l' u') id).isSome=true:=by
 simp only [I7,aA.get] at h ⊢;cases e1:Nat.beq 2001 id with
 | true=>rfl
 | false =>
  cases e2:Nat.beq 2002 id with
  | true=>rfl
  | false=>rw [e1,e2] at h;cases h
theorem P9 {g:Nat} {l:List UInt8} {u u':Bool} {id:Nat} (h:(aA.get (PH g l u) id).isSome=true):(aA.get (I7 g l u) id).isSome=true:=by
 simp only [PH,I7,aA.get] at h ⊢;cases e1:Nat.beq 2001 id with
 | true=>rfl
 | false =>
  cases e2:Nat.beq 2002 id with
  | true=>rfl
  | false=>rw [e1,e2] at h;cases h
theorem P8 {H:aA} {g:Nat} {l:List UInt8} {u:Bool} (h1:H.get 2001=some (Z8 l g u)) (h2:H.get 2002=some (Z7 l g)):Sub (I7 g l u) H:=by
 intro j o h;simp only [I7,aA.get] at h;cases e1:Nat.beq 2001 j with
 | true =>
  rw [e1] at h;cases h;rw [← Nat.eq_of_beq_eq_true e1];exact h1
 | false =>
  rw [e1] at h;cases e2:Nat.beq 2002 j with
  | true =>
   rw [e2] at h;cases h;rw [← Nat.eq_of_beq_eq_true e2];exact h2
  | false=>rw [e2] at h;cases h
theorem Y3 {H:aA} {g:Nat} {l:List UInt8} {u:Bool} (s:ByteArray) (h1:H.get 2001=some (Z8 l g u)) (h2:H.get 2002=some (Z7 l g)) (hl:l.length+s.size < 70368744177664):aL Tryz.prog 86 [.ref 2001 0 0 0,sv s] H (fun r H'=>r=.tup [iv (s.size:Int),.pv KG]∧H'=I7 (g+1) (l++s.data.toList) true++H) :=aL.frame (sV g l u s hl) (P8 h1 h2) (bM.ofL ⟨(by exact oW rfl rfl),(by exact sR _ _),trivial⟩) (by simp;rfl) (fun id h=>.inl (UM h))
theorem W9 {H:aA} {g:Nat} {l:List UInt8} {u:Bool} (h1:H.get 2001=some (Z8 l g u)) (h2:H.get 2002=some (Z7 l g)) (hl:l.length < 70368744177664):aL Tryz.prog 88 [.ref 2001 0 0 0] H (fun r H'=>r=sv ⟨l.toArray⟩∧H'=PH g l u++H) :=aL.frame (WS g l u hl) (P8 h1 h2) (bM.ofL ⟨(by exact oW rfl rfl),(by exact sR _ _),trivial⟩) (by simp;rfl) (fun id h=>.inl (P9 (u':=u) h))
def HR (d:DSt) (k a i:Nat):List UInt8:=(List.range i).flatMap fun i=>(KL d k a i).data.toList
theorem DP (d:DSt) (k a i:Nat):HR d k a (i+1)=HR d k a i++(KL d k a i).data.toList:=by rw [HR,List.range_succ,List.flatMap_append,List.flatMap_cons,List.flatMap_nil,List.append_nil];rfl
theorem DG (place:Nat) (t:ByteArray) (ht:t.size=64):(HI place t).size≤46:=by
 rw [HI]
 split
 ·exact aBX _
 next hb =>
 split
 ·rw [DH] at hb;simp only [Bool.not_eq_true,aB2,aBO] at hb;rw [RK,ByteArray.size_extract];omega
 exact aBX _
theorem HQ {d:DSt} (hs:DOk d) {k a:Nat} (n:Nat) (hp:∀ i,i < n→2+a*k+i < d.cells.length):∀ i,i≤n→(HR d k a i).length≤46*i
 | 0,_=>aBM _
 | i+1,hi=>by
  have h1:=HQ hs n hp i (by omega);have h2:=DG (2+a*k+i) (bP d (2+a*k+i)) (nO hs (hp i (by omega)));rw [DP,aBH,dR,KL];omega
theorem zU:∀ (n:Nat) (t:List UInt8) (acc:List ByteArray),((fO n t acc).1.map ByteArray.size).sum≤(acc.map ByteArray.size).sum+t.length
 | 0,t,acc=>Nat.le_add_right _ _
 | n+1,t,acc=>by
  rw [fO]
  split
  ·exact Nat.le_add_right _ _
  split
  ·exact aBX _
  have h1:=zU n ((yL t).drop (MR t)) (acc++[ofL ((yL t).take (MR t))]);have h2:=(K6 t).2;rw [List.map_append,List.sum_append,List.map_cons,List.map_nil,List.sum_cons,List.sum_nil,bY,aBU,aBV] at h1;omega
theorem JL (t:List UInt8):((eQ t).1.map ByteArray.size).sum≤t.length:=by have:=zU t.length t [];rw [List.map_nil,List.sum_nil,aBY] at this;exact this
theorem GU (L:List ByteArray) (j:Nat):((L.take j).map ByteArray.size).sum≤(L.map ByteArray.size).sum:=by
 have h:L.map ByteArray.size=(L.take j).map ByteArray.size++(L.drop j).map ByteArray.size:=by rw [← List.map_append,List.take_append_drop]
 rw [h,List.sum_append];omega
def RT (o:Bool) (L:List ByteArray) (j:Nat):Bool:=o&&(L.take j).all fun c=>lM c.data.toList
theorem RS {o:Bool} {L:List ByteArray} {j:Nat} {t:ByteArray} (h:L[j]?=some t):RT o L (j+1)=(RT o L j&&lM t.data.toList):=by rw [RT,RT,dK h,List.all_append,List.all_cons,List.all_nil,Bool.and_true,Bool.and_assoc]
abbrev YY (L:List ByteArray) (j:Nat):CT:=oV ((L.take j).map fun c=>c.data.toList)
theorem S0 {L:List ByteArray} {j:Nat} {t:ByteArray} (h:L[j]?=some t):YY L (j+1)=V7 (YY L j) t.data.toList:=by rw [YY,dK h,List.map_append];exact uJ _ _
theorem VK (d:DSt) (hs:DOk d) (hoff:d.off=false) (k a n:Nat) (b:Bool) (ha:a < 2) (hn:n≤k) (hk:2*k+2≤d.cells.length) :
  aL Tryz.prog 44 [.ref 1100 0 0 0] (sH d (cI k a n b) (bK [] 0)) (fun r H'=>r=bv (tU d k a n)∧∃ l c,dW l c∧eY l∧l.length≤46*n∧(tU d k a n=true→∀ x,dD l x=KM d k a n x)∧H'=sH d (cI k a n b) (bK l c)):=by
 have hn2:=hs.n2;have hak:a*k≤k:=by
  rcases(show a=0∨a=1 by omega)with e|e<;>subst e<;>omega
 have hplace:∀ i,i < n→2+a*k+i < d.cells.length:=fun i hi=>by omega
 have hTl:=HQ (k:=k) (a:=a) hs n hplace;have hTn:KK d k a n=HR d k a n:=rfl;have hok:tU d k a n=(vO d k a n&&((eQ (KK d k a n)).2&&(eQ (KK d k a n)).1.all fun c=>lM c.data.toList)):=rfl;have hC:KM d k a n=oV ((eQ (KK d k a n)).1.map fun c=>c.data.toList):=rfl;refine Bd func44 rfl ntmps44<|Sr<|Dd aS<|Zz<|Sr<|Dd (by exact cR (id:=2001) rfl P6 rfl rfl)<|Zz<|Sq<|Sr<|Dd aF<|Dd fP<|Dd (dV mV)<|Dd (dV nV)<|Dd (eG aU)<|Dd aF<|Zz<|aN ?_;refine gM.ent (E':=[(0,.ref 1100 0 0 0),(3,.ref 2001 0 0 0),(14,iv (n:Int)),(15,iv 0)]) (H':=(2002,⟨0,1,5,[]⟩)::(2001,pS (.osl 2002 0 0 0) false)::sH d (cI k a n b) (bK [] 0)) (cA.nz 2002 1 5 rfl rfl ⟨⟨_,rfl,(by exact Nz.same (by(simp;rfl)))⟩,⟨_,rfl,(by exact Nz.same (by(simp;rfl)))⟩,⟨_,rfl,(by exact Nz.same (by(simp;done)))⟩,⟨_,rfl,(by exact Nz.same (by(simp;done)))⟩,trivial⟩ ⟨⟨_,rfl,rfl,rfl,rfl,(by exact .inr ⟨_,_,rfl,rfl,(by repeat(first|exact trivial|refine⟨(by first|exact Nz.own|exact Nz.same (by(simp;done))),?_⟩))⟩)⟩,⟨_,rfl,rfl,rfl,rfl,(by exact .inl ⟨rfl,(by exact aE _ _ rfl rfl rfl)⟩)⟩,⟨_,rfl,rfl,rfl,rfl,(by exact .inl ⟨rfl,(by exact aC _ _)⟩)⟩,⟨_,rfl,rfl,rfl,rfl,(by exact .inl ⟨rfl,(by exact aK _ _ _)⟩)⟩,⟨_,rfl,rfl,rfl,rfl,(by exact .inl ⟨rfl,(by exact aJ _ _)⟩)⟩,⟨_,rfl,rfl,rfl,rfl,(by exact .inl ⟨rfl,(by exact bI rfl rfl)⟩)⟩,⟨_,rfl,rfl,rfl,rfl,(by exact .inl ⟨rfl,(by exact aQ _ _ _)⟩)⟩,trivial⟩ ⟨rfl,rfl,rfl,rfl,rfl,rfl,trivial⟩) ?_;refine xR (fun(i g:Nat) (u:Bool)=>([(0,.ref 1100 0 0 0),(3,.ref 2001 0 0 0),(14,iv (n:Int)),(15,iv (i:Int))],(2001,Z8 (HR d k a i) g u)::(2002,Z7 (HR d k a i) g)::sH d (cI k a n b) (bK [] 0))) (fun i g u=>i≤n∧∀ j,j < i→¬ KL d k a j=sNil) (fun i g u=>n - i) 0 0 false ⟨aBX _,fun j hj=>absurd hj (Nat.not_lt_zero _)⟩ ?_ ?_
 ·exact(cA.wk (Ea<|Ea<|Eb<|Eb<|trivial) (Hc (oW rfl rfl)<|Hc (aC _ _)<|Hc (aE _ _ rfl rfl rfl)<|Hc (aC _ _)<|Hc (aK _ _ _)<|Hc (aJ _ _)<|Hc (bI rfl rfl)<|Hc (aQ _ _ _)<|trivial) ⟨rfl,rfl,rfl,rfl,rfl,rfl,trivial⟩)
 rintro i g u ⟨hi,hz⟩;have hTi:=hTl i hi;have hpl:=AK d k a n a i b [] 0 (by omega) (by omega) (by omega);refine Sr<|Dd dZ<|Zz<|Sq ?_;refine Cn ?_ ?_<;>intro hc1
 ·have hlt:i < n:=by have:=aBC hc1;omega
  have hpc:=U3 d hs hoff k a n (2+a*k+i) b [] 0 (hplace i hlt);have hps:=DG (2+a*k+i) (bP d (2+a*k+i)) (nO hs (hplace i hlt));have hnx:=DP d k a i;have hPi:KL d k a i=HI (2+a*k+i) (bP d (2+a*k+i)):=rfl;rw [← hPi] at hpc hps;obtain ⟨p,hp⟩:∃ p,p=KL d k a i:=⟨_,rfl⟩;rw [← hp] at hpc hps hnx;refine aG<|Sq<|aN<|Sr<|Dd aF<|Dd aS<|Zz<|Sr<|Dd aF<|Dd aF<|Dd aF<|Dd fP<|Dd (dV mV)<|Dd (dV uC)<|Dd (eG aU)<|Dd aF<|Dd (by exact aB rfl rfl aAh rfl (kT hpl _ ⟨rfl,rfl,rfl,rfl,rfl,rfl,trivial⟩ (by simp;rfl)))<|Dd (by exact aB rfl rfl call84 rfl (kT hpc _ ⟨rfl,rfl,rfl,rfl,rfl,rfl,trivial⟩ (by simp;rfl)))<|Dd aS<|Zz<|Sq<|Sr<|Dd aF<|Dd XM<|Zz ?_;refine Cn ?_ ?_<;>intro hc2
  ·have hq:p=sNil:=aBC hc2;have hf:tU d k a n=false:=by
    have:vO d k a n=false:=by
     rw [Bool.eq_false_iff];intro h;have:=List.all_eq_true.1 h i (List.mem_range.2 hlt);rw [← hp,hq,decide_eq_true rfl] at this;cases this
    rw [hok,this];rfl
   refine Sr<|Dd aS<|Zz<|aM ?_;refine bF (H':=(sH d (cI k a n b) (bK [] 0))) (.inr rfl) rfl (aH rfl) (Fin.wk (by(simp;done)) (Hc (aE _ _ rfl rfl rfl)<|Hc (aC _ _)<|Hc (aK _ _ _)<|Hc (aJ _ _)<|Hc (bI rfl rfl)<|Hc (aQ _ _ _)<|trivial) ⟨rfl,rfl,rfl,rfl,rfl,rfl,trivial⟩) ?_;exact⟨by rw [hf],[],0,KF,AW,aBX _,fun h=>(by rw [hf] at h;cases h),rfl⟩
  have hq:¬ p=sNil:=aBD hc2;refine aG<|Rg<|Dd aF<|Dd (by exact aB rfl rfl call86 rfl (Y3 p rfl rfl (by omega)))<|Zz<|Rg<|Dd oE<|Dd aF<|Zz ?_;refine⟨i+1,g+1,true,⟨by omega,fun j hj=>?_⟩,by omega,?_⟩
  ·rcases Nat.lt_succ_iff_lt_or_eq.1 hj with h1|rfl
   ·exact hz j h1
   rw [← hp];exact hq
  rw [hnx];exact(cA.wk (Ea<|Ea<|Eb<|Eb<|trivial) (Hc (oW rfl rfl)<|Hc (aC _ _)<|Hc (aE _ _ rfl rfl rfl)<|Hc (aC _ _)<|Hc (aK _ _ _)<|Hc (aJ _ _)<|Hc (bI rfl rfl)<|Hc (aQ _ _ _)<|trivial) ⟨rfl,rfl,rfl,rfl,rfl,rfl,trivial⟩)
 have hge:i=n:=by have:=aBD hc1;omega
 subst hge;have hall:vO d k a i=true:=List.all_eq_true.2 fun j hj=>by
  rw [decide_eq_false (hz j (List.mem_range.1 hj))];rfl
 rw [hall,Bool.true_and,hTn] at hok;rw [hTn] at hC;obtain ⟨T,hT⟩:∃ T,T=HR d k a i:=⟨_,rfl⟩;rw [← hT] at hok hC hTi ⊢;have hspl:=fun H=>G4 T H (by omega);have hsum:=JL T;have hL1:=tI T.length T [];rw [List.length_nil,aBY] at hL1;change (eQ T).1.length≤T.length at hL1;obtain ⟨L,hL⟩:∃ L,L=(eQ T).1:=⟨_,rfl⟩;obtain ⟨o,ho⟩:∃ o,o=(eQ T).2:=⟨_,rfl⟩;rw [← hL,← ho] at hok;rw [← hL] at hC hsum hL1;simp only [← hL,← ho] at hspl;have hml:(L.map encStr).length=L.length:=aBG _;have hTo:(⟨T.toArray⟩:ByteArray)=ofL T:=rfl;refine bE<|Sr<|Dd (by exact aB rfl rfl call88 rfl (W9 rfl rfl (by omega)))<|Dd (by exact aB rfl rfl call87 rfl (hspl _))<|Dd aF<|Dd eP<|Dd eP<|Dd aS<|Dd aS<|Zz<|Sq<|Sr<|Dd aF<|Dd (mH aO)<|Dd aF<|Zz<|aN ?_;refine xR (fun(j:Nat) (l:bU) (c:Nat)=>([(0,.ref 1100 0 0 0),(7,bv (RT o L j)),(38,.pv (aW L)),(39,iv ((L.map encStr).length:Int)),(40,iv (j:Int))],sH d (cI k a i b) (bK l c))) (fun j l c=>j≤L.length∧dW l c∧eY l∧l.length≤((L.take j).map ByteArray.size).sum∧(RT o L j=true→∀ x,dD l x=YY L j x)) (fun j l c=>L.length - j) 0 [] 0 ⟨aBX _,KF,AW,aBX _,fun _ x=>rfl⟩ ?_ ?_
 ·rw [show RT o L 0=o by rw [RT,List.take_zero];exact Bool.and_true o];exact(cA.wk (Ea<|Eb<|Eb<|Eb<|Eb<|trivial) (Hc (aE _ _ rfl rfl rfl)<|Hc (aC _ _)<|Hc (aK _ _ _)<|Hc (aJ _ _)<|Hc (bI rfl rfl)<|Hc (aQ _ _ _)<|trivial) ⟨rfl,rfl,rfl,rfl,rfl,rfl,trivial⟩)
 rintro j l c ⟨hj,hst,hnd,hll,hct⟩;have hsj:=GU L j;refine Sr<|Dd dZ<|Zz<|Sq ?_;refine Cn ?_ ?_<;>intro hc3
 ·have hlt:j < L.length:=by have:=aBC hc3;omega
  obtain ⟨t,ht⟩:=aZ hlt;have hit:=dI (f:=encStr) ht;have hsz:((L.take (j+1)).map ByteArray.size).sum=((L.take j).map ByteArray.size).sum+t.size:=by rw [dK ht,List.map_append,List.sum_append];rfl
  have hsj2:=GU L (j+1);have hnx:=RS (o:=o) ht;have hcx:=S0 ht;have hrp:=NZ d k a i b l c t.data.toList hst hnd (by rw [dR];omega);rw [KB,dR] at hrp;obtain ⟨oj,hoj⟩:∃ oj,oj=RT o L j:=⟨_,rfl⟩;rw [← hoj] at hnx hct ⊢;clear hoj;cases oj
  ·refine aG<|Sq<|aN<|Sr<|Dd (GJ bZ)<|Dd (nT aV)<|Dd aS<|Zz<|Rg<|Dd aF<|Dd aF<|Fo<|Fo<|Fo<|Fo<|Fo<|Fo<|Dd iM<|Dd aS<|Zz<|Rg<|Dd oE<|Dd aF<|Zz ?_;refine⟨j+1,l,c,⟨by omega,hst,hnd,by omega,fun h=>(by rw [hnx] at h;cases h)⟩,by omega,?_⟩;rw [hnx];exact(cA.wk (Ea<|Eb<|Eb<|Eb<|Eb<|trivial) (Hc (aE _ _ rfl rfl rfl)<|Hc (aC _ _)<|Hc (aK _ _ _)<|Hc (aJ _ _)<|Hc (bI rfl rfl)<|Hc (aQ _ _ _)<|trivial) ⟨rfl,rfl,rfl,rfl,rfl,rfl,trivial⟩)
  refine aG<|Sq<|aN<|Sr<|Dd (GJ bZ)<|Dd (nT aV)<|Dd aS<|Zz<|Rg<|Dd aF<|Dd aF<|On aF<|On fP<|On (dV tZ)<|On (eG bW)<|On aF ?_;refine M6 rfl rfl rfl rfl rfl (aB rfl rfl call89 rfl hrp) ?_;rintro _ _ ⟨rfl,l2,c2,q1,q2,q3,q4,rfl⟩;refine Dd iM<|Dd aS<|Zz<|Rg<|Dd oE<|Dd aF<|Zz ?_;refine⟨j+1,l2,c2,⟨by omega,q1,q2,by omega,fun h x=>?_⟩,by omega,?_⟩
  ·rw [hnx,Bool.true_and] at h;rw [q4 h x,hcx,V7,oU,oU,hct rfl x]
  rw [hnx,Bool.true_and];exact(cA.wk (Ea<|Eb<|Eb<|Eb<|Eb<|trivial) (Hc (aE _ _ rfl rfl rfl)<|Hc (aC _ _)<|Hc (aK _ _ _)<|Hc (aJ _ _)<|Hc (bI rfl rfl)<|Hc (aQ _ _ _)<|trivial) ⟨rfl,rfl,rfl,rfl,rfl,rfl,trivial⟩)
 have hge:j=L.length:=by have:=aBD hc3;omega
 subst hge;have hoke:tU d k a i=RT o L L.length:=by rw [hok,RT,List.take_length]
 have hCe:KM d k a i=YY L L.length:=by rw [hC,YY,List.take_length]
 rw [List.take_length] at hll;refine bE<|Sr<|Dd aF<|Dd aS<|Zz<|aM ?_;refine bF (H':=(sH d (cI k a i b) (bK l c))) (.inr rfl) rfl (aH rfl) (Fin.wk (by(simp;done)) (Hc (aE _ _ rfl rfl rfl)<|Hc (aC _ _)<|Hc (aK _ _ _)<|Hc (aJ _ _)<|Hc (bI rfl rfl)<|Hc (aQ _ _ _)<|trivial) ⟨rfl,rfl,rfl,rfl,rfl,rfl,trivial⟩) ?_;exact⟨by rw [hoke],l,c,hst,hnd,by omega,fun h=>by rw [hCe];exact hct (by rw [← hoke];exact h),rfl⟩
theorem QA {k x y:Nat} (hk:1≤k) (hx:x < 2 ^ 64) (hy:y < 2 ^ 64) (h:x ^^^ (x / 2 ^ k)=y ^^^ (y / 2 ^ k)):x=y:=by
 rw [← Nat.shiftRight_eq_div_pow,← Nat.shiftRight_eq_div_pow] at h;have hb:∀ (m i:Nat),64≤i+m→x.testBit i=y.testBit i:=by
  intro m
  induction m with
  | zero =>
   intro i hi;have hp:2 ^ 64≤2 ^ i:=Nat.pow_le_pow_right (by decide) hi;rw [Nat.testBit_lt_two_pow (Nat.lt_of_lt_of_le hx hp),Nat.testBit_lt_two_pow (Nat.lt_of_lt_of_le hy hp)]
  | succ m ih =>
   intro i hi;have h2:=congrArg (fun n=>n.testBit i) h;simp only [Nat.testBit_xor,Nat.testBit_shiftRight] at h2;rw [ih (k+i) (by omega)] at h2;cases e1:x.testBit i<;>cases e2:y.testBit i<;>cases e3:y.testBit (k+i)<;>rw [e1,e2,e3] at h2<;>cases h2
 exact Nat.eq_of_testBit_eq fun i=>hb 64 i (by omega)
theorem MA {c d q x y:Nat} (hc:c*d=18446744073709551616*q+1) (hx:x < 18446744073709551616) (hy:y < 18446744073709551616) (h:x*c % 18446744073709551616=y*c % 18446744073709551616):x=y:=by
 have go:∀ z,z < 18446744073709551616→(z*c % 18446744073709551616)*d % 18446744073709551616=z:=by
  intro z hz;rw [Nat.mul_mod,Nat.mod_mod,← Nat.mul_mod,Nat.mul_assoc,hc,Nat.mul_add,Nat.mul_one,Nat.mul_left_comm,Nat.mul_add_mod,Nat.mod_eq_of_lt hz]
 rw [← go x hx,← go y hy,h]
theorem AY {x y:Nat} (hx:x < 18446744073709551616) (hy:y < 18446744073709551616) (h:yT x=yT y):x=y:=by have h1:=QA (k:=29) (by decide) (sF x) (sF y) h;have h2:=MA (c:=3935559000370003845) (d:=13700500150304694605) (q:=2922961714037557739) (by decide) (FG x) (FG y) h1;have h3:=QA (k:=32) (by decide) (sG x) (sG y) h2;exact MA (c:=2862933555777941757) (d:=16133697096952638549) (q:=2503948805982125087) (by decide) hx hy h3
theorem GN {s a b:Nat} (h:s ^^^ a=s ^^^ b):a=b:=by
 have:=congrArg (fun n=>s ^^^ n) h
 simpa [← Nat.xor_assoc] using this
theorem CY {s t a:Nat} (h:s ^^^ a=t ^^^ a):s=t:=by rw [Nat.xor_comm s,Nat.xor_comm t] at h;exact GN h
theorem IV:∀ {k:Nat} {a b:List UInt8},a.length=k→b.length=k→nF a=nF b→a=b
 | 0,a,b,ha,hb,_=>by rw [List.length_eq_zero_iff.1 ha,List.length_eq_zero_iff.1 hb]
 | k+1,a,b,ha,hb,h=>by
  have na:a≠[]:=fun e=>by rw [e] at ha;cases ha
  have nb:b≠[]:=fun e=>by rw [e] at hb;cases hb
  have ea:a=a.dropLast++[a.getLast na]:=(List.dropLast_concat_getLast na).symm;have eb:b=b.dropLast++[b.getLast nb]:=(List.dropLast_concat_getLast nb).symm;have la:=(a.getLast na).toNat_lt;have lb:=(b.getLast nb).toNat_lt;rw [ea,eb,xU,xU] at h;have h1:nF a.dropLast=nF b.dropLast:=by omega
  have h2:(a.getLast na).toNat=(b.getLast nb).toNat:=by omega
  have h3:=IV (k:=k) (by rw [List.length_dropLast];omega) (by rw [List.length_dropLast];omega) h1;rw [ea,eb,h3,UInt8.toNat_inj.1 h2]
theorem sC (l:List UInt8):nF (lZ l) < 18446744073709551616:=BY (by rw [HJ];omega)
theorem F3:∀ (n:Nat) (s:Nat) (l:List UInt8),l.length≤n→xK s l < 18446744073709551616
 | n,s,l,h=>by
  by_cases h8:l.length < 8
  ·rw [sO s h8];exact nI _
  rw [jO s (by omega)]
  match n,h with
  | 0,h=>omega
  | n+1,h=>exact F3 n _ _ (by rw [aBV];omega)
theorem ID:∀ (n:Nat) {s t:Nat} {l:List UInt8},l.length≤n→s < 18446744073709551616→t < 18446744073709551616→xK s l=xK t l→s=t
 | n,s,t,l,h,hs,ht,e=>by
  by_cases h8:l.length < 8
  ·rw [sO s h8,sO t h8] at e;exact CY (AY (iR hs (sC _)) (iR ht (sC _)) e)
  rw [jO s (by omega),jO t (by omega)] at e
  match n,h with
  | 0,h=>omega
  | n+1,h =>
   have:=ID n (l:=l.drop 8) (by rw [aBV];omega) (nI _) (nI _) e;exact CY (AY (iR hs (sC _)) (iR ht (sC _)) this)
theorem BJ:∀ (m:Nat) {s:Nat} {A B B' R:List UInt8},s < 18446744073709551616→A.length=8*m→B.length=8→B'.length=8→xK s (A++(B++R))=xK s (A++(B'++R))→B=B'
 | 0,s,A,B,B',R,hs,hA,hB,hB',h=>by
  rw [List.length_eq_zero_iff.1 hA,List.nil_append,List.nil_append,jO s (by rw [aBH];omega),jO s (by rw [aBH];omega),List.take_left' hB,List.take_left' hB',List.drop_left' hB,List.drop_left' hB'] at h;have h1:=ID R.length (aBM _) (nI _) (nI _) h;have h2:=GN (AY (iR hs (sC _)) (iR hs (sC _)) h1);rw [DK hB,DK hB'] at h2;exact IV hB hB' h2
 | m+1,s,A,B,B',R,hs,hA,hB,hB',h=>by
  have e:A=A.take 8++A.drop 8:=(List.take_append_drop 8 A).symm;have h8:(A.take 8).length=8:=by rw [aBU];omega
  rw [e,List.append_assoc,List.append_assoc,jO s (by rw [aBH];omega),jO s (by rw [aBH];omega),List.take_left' h8,List.take_left' h8,List.drop_left' h8,List.drop_left' h8] at h;exact BJ m (nI _) (by rw [aBV];omega) hB hB' h
theorem SB {a b:Nat} (ha:a < 18446744073709551616) (hb:b < 18446744073709551616) (h:CP a=CP b):a=b:=by
 have hn:∀ j,j < 16→KH a j=KH b j:=by
  intro j hj;have h1:=congrArg (fun l=>l[j]?) h;simp only [CP,aB0,List.getElem?_range hj,Option.map_some,Option.some.injEq] at h1;have h2:=congrArg UInt8.toNat h1;have ba:=FS (rA a j);have bb:=FS (rA b j);have la:=rA a j;have lb:=rA b j;rw [UInt8.toNat_ofNat',UInt8.toNat_ofNat',Nat.mod_eq_of_lt (by omega),Nat.mod_eq_of_lt (by omega)] at h2;have h3:oP (KH a j)=oP (KH b j):=by omega
  unfold oP at h3
  split at h3<;>split at h3<;>omega
 have go:∀ k,k≤16→a / 2 ^ (64 - 4*k)=b / 2 ^ (64 - 4*k):=by
  intro k
  induction k with
  | zero =>
   intro _;rw [Nat.div_eq_of_lt (show a < 2 ^ (64 - 4*0)from ha),Nat.div_eq_of_lt (show b < 2 ^ (64 - 4*0)from hb)]
  | succ k ih =>
   intro hk;have h1:=ih (by omega);have h2:=hn k (by omega);unfold KH at h2;have e:2 ^ (64 - 4*k)=2 ^ (60 - 4*k)*16:=by
    rw [show 64 - 4*k=(60 - 4*k)+4 by omega,Nat.pow_add]
   rw [e,← Nat.div_div_eq_div_mul,← Nat.div_div_eq_div_mul] at h1;rw [show 64 - 4*(k+1)=60 - 4*k by omega];omega
 have:=go 16 (aBM _)
 simpa using this
theorem JH {m:Nat} {A B B' R:List UInt8} (hA:A.length=8*m) (hB:B.length=8) (hB':B'.length=8) (hl:(A++(B++R)).length < 18446744073709551616) (h:wR (A++(B++R))=wR (A++(B'++R))):B=B':=by
 have hlen:(A++(B++R)).length=(A++(B'++R)).length:=by rw [aBH,aBH,aBH,aBH,hB,hB']
 rw [wR,wR,← hlen] at h;have h1:=SB (F3 _ _ _ (aBM _)) (F3 _ _ _ (aBM _)) h;exact BJ m (MW hl) hA hB hB' h1
theorem WZ (X:List UInt8) (b:Nat):X=X.take (8*b)++((X.drop (8*b)).take 8++X.drop (8*b+8)):=by rw [← List.drop_drop,List.take_append_drop,List.take_append_drop]
theorem JS {D X Y:List UInt8} {b:Nat} (hD:D.length=8) (hX:X.length=48) (hY:Y.length=48) (hb:b < 6) (h1:X.take (8*b)=Y.take (8*b)) (h2:X.drop (8*b+8)=Y.drop (8*b+8)) (h:wR (D++X)=wR (D++Y)):X=Y:=by
 have e1:=WZ X b;have e2:=WZ Y b;have s1:D++X=(D++X.take (8*b))++((X.drop (8*b)).take 8++X.drop (8*b+8)):=by rw [List.append_assoc,← e1]
 have s2:D++Y=(D++X.take (8*b))++((Y.drop (8*b)).take 8++X.drop (8*b+8)):=by rw [h1,h2,List.append_assoc,← e2]
 have lx:((X.drop (8*b)).take 8).length=8:=by rw [aBU,aBV];omega
 have ly:((Y.drop (8*b)).take 8).length=8:=by rw [aBU,aBV];omega
 have hA:(D++X.take (8*b)).length=8*(b+1):=by rw [aBH,aBU];omega
 rw [s1,s2] at h;have hB:=JH hA lx ly (by rw [← s1,aBH];omega) h;rw [e1,e2,h1,h2,hB]
theorem dg8 {place:Nat} (h:place < 100000000):(dg place 8).length=8:=jG (mX _ (by omega) (by omega))
theorem qW {k place:Nat} {t:ByteArray} (h:jX k place t=true):qC t < 2∧qB t≤k∧hS place (qC t) (qB t)=t:=by rw [jX] at h;simp only [aBP,aBN] at h;exact⟨h.2.1.1,h.2.1.2,h.2.2⟩
def mT (d:DSt) (k:Nat):Bool:=(!xC d k&&!decide (bP d 0=zS))||!tU d k (yS d k) (yR d k)
theorem OM {d d':DSt} {k a n:Nat} (h:∀ i,i < n→bP d' (2+a*k+i)=bP d (2+a*k+i)):tU d' k a n=tU d k a n∧KM d' k a n=KM d k a n:=by
 have hp:∀ i,i∈List.range n→KL d' k a i=KL d k a i:=fun i hi=>by rw [KL,KL,h i (List.mem_range.1 hi)]
 have hT:KK d' k a n=KK d k a n:=by
  rw [KK,KK,List.flatMap_def,List.flatMap_def];congr 1;exact List.map_congr_left fun i hi=>by rw [hp i hi]
 have hA:vO d' k a n=vO d k a n:=by
  rw [vO,vO,Bool.eq_iff_iff,List.all_eq_true,List.all_eq_true];exact forall_congr' fun i=>imp_congr_right fun hi=>by rw [hp i hi]
 exact⟨by rw [tU,tU,hA,hT],by rw [KM,KM,hT]⟩
theorem DL (d:DSt) (k:Nat):yS d k < 2∧yR d k≤k:=by
 rw [yS,yR];cases h1:qD d k with
 | true =>
  rw [aBF rfl,aBF rfl];rw [qD] at h1;have:=qW h1;exact⟨this.1,this.2.1⟩
 | false =>
  rw [aBE Bool.false_ne_true,aBE Bool.false_ne_true];cases h0:jX k 0 (bP d 0)with
  | true =>
   rw [aBF rfl,aBF rfl];have:=qW h0;exact⟨this.1,this.2.1⟩
  | false =>
   rw [aBE Bool.false_ne_true,aBE Bool.false_ne_true];exact⟨by omega,by omega⟩
theorem tG (place:Nat) {a n:Nat} (hd:Bool) (ha:a < 10) (hn:n < 10000000):(jT place a n hd).size=64:=by
 cases hd
 ·show zS.size=64;rw [bY,zB,List.length_replicate]
 exact sL place ha hn
theorem XA:zS.size=64:=by rw [bY,zB,List.length_replicate]
theorem XP {d:DSt} {N place a n:Nat} {hd:Bool} (h:OnD d N) (hp:place < N) (ha:a < 10) (hn:n < 10000000) (h0:(oY d place a n hd).1=0):OnD (oY d place a n hd).2 N:=by
 rw [oY] at h0 ⊢;by_cases e:bP d place=jT place a n hd
 ·rw [aBF e] at h0 ⊢;exact h
 rw [aBE e] at h0 ⊢;have w1:=qM h (place:=place) (L:=[zS]) (by rw [List.length_singleton];omega) (fun t ht=>by rw [aBJ.1 ht];exact XA) (by rw [List.length_singleton];omega);by_cases e2:(gI d place [zS]).1=0∧hd=true
 ·rw [aBF e2] at h0 ⊢;rcases w1 with⟨q1,q2,q3⟩|⟨q1,q2,q3⟩
  ·have w2:=qM q2 (place:=place) (L:=[jT place a n hd]) (by rw [List.length_singleton];omega) (fun t ht=>by rw [aBJ.1 ht];exact tG place hd ha hn) (by rw [List.length_singleton];omega);rcases w2 with⟨p1,p2,p3⟩|⟨p1,p2,p3⟩
   ·exact p2
   rw [p1] at h0;cases h0
  rw [q1] at e2;cases e2.1
 rw [aBE e2] at h0 ⊢;rcases w1 with⟨q1,q2,q3⟩|⟨q1,q2,q3⟩
 ·exact q2
 rw [q1] at h0;cases h0
def XU (i N:Nat):Int:=if i≤N then 0 else 1
abbrev pBx (a n:Nat):Ob:=bx 2 70 [iv (a:Int),iv (n:Int)]
theorem L5 {d:DSt} {N:Nat} (h:OnD d N) (hN:4≤N) (k a n:Nat) (hd:Bool) (hk:k=(N - 2) / 2) (hA:a=yS d k) (hNn:n=yR d k) (hH:hd=xC d k) :
  aL Tryz.prog 12 [.ref 1000 0 0 0] (aY d) (fun r H'=>(mT d k=true∧r=.tup [.pv .nilp,iv 23]∧H'=aY d) ∨
   (mT d k=false∧¬ (oY d 1 a n hd).1=0∧r=.tup [.pv .nilp,iv (oY d 1 a n hd).1]∧H'=aY (oY d 1 a n hd).2) ∨
   (mT d k=false∧(oY d 1 a n hd).1=0∧¬ (oY (oY d 1 a n hd).2 0 a n hd).1=0∧r=.tup [.pv .nilp,iv (oY (oY d 1 a n hd).2 0 a n hd).1]∧H'=aY (oY (oY d 1 a n hd).2 0 a n hd).2) ∨
   (mT d k=false∧(oY d 1 a n hd).1=0∧(oY (oY d 1 a n hd).2 0 a n hd).1=0∧r=.tup [.ref 1100 0 0 0,iv 0]∧∃ l c,dW l c∧eY l∧l.length≤46*n∧(∀ x,dD l x=KM d k a n x)∧H'=sH (oY (oY d 1 a n hd).2 0 a n hd).2 (cI k a n false) (bK l c))):=by
 have hs:=h.inv.ok;have hoff:=h.off;have hcn:=h.inv.n;have hn2:=hs.n2;have hbd:=DL d k;rw [← hA,← hNn] at hbd;have hbad:mT d k=((!hd&&!decide (bP d 0=zS))||!tU d k a n):=by rw [mT,← hA,← hNn,← hH]
 have hrE:∀ i:Nat,pP d (i:Int)=if i < N then 0 else 1:=fun i=>by
  rw [pP,hoff,aBE (by decide),kW,hcn];by_cases e:i < N
  ·rw [aBF (decide_eq_true e),aBF e]
  rw [aBE (by rw [decide_eq_false e];decide),aBE e]
 refine Bd func12 rfl ntmps12<|Sr<|Dd aS<|Dd aS<|Zz<|Sq<|Sr<|Dd aF<|Dd (by exact cY rfl fN rfl rfl rfl rfl)<|Zz ?_;refine Cn ?_ ?_<;>intro hc1
 ·cases hc1
 refine aG<|Sr<|Dd aS<|Zz<|Sr<|Dd aS<|Zz<|Sq<|aN ?_;refine bJ (σ:=Nat) (fun i=>([(0,.ref 1000 0 0 0),(4,iv (i:Int)),(5,iv (XU i N))],aY d)) (fun i=>i≤N+1) (fun i=>N+1 - i) 0 (aBX _) ?_ ?_
 ·rw [show XU 0 N=0 from aBF (aBX _)];exact(cA.wk (Ea<|Eb<|Eb<|trivial) (Hc (aE _ _ rfl rfl rfl)<|Hc (aC _ _)<|Hc (aK _ _ _)<|Hc (aJ _ _)<|trivial) ⟨rfl,rfl,rfl,rfl,trivial⟩)
 intro i hi;have hrd:=RB d (i:Int) hs;rw [hrE i] at hrd;refine Sq<|Sr<|Dd aF<|Dd iY<|Zz ?_;refine Cn ?_ ?_<;>intro hc2
 ·have hq:i≤N:=by have h:=aBC hc2;rw [XU] at h;split at h;exact(by assumption);cases h
  have hnx:XU (i+1) N=if i < N then 0 else 1:=by
   rw [XU];by_cases e:i < N
   ·rw [aBF e,aBF (by omega)]
   rw [aBE e,aBE (by omega)]
  rw [← hnx] at hrd;refine aG<|Sq<|aN<|Rg<|Dd aF<|Dd aF<|Dd (by exact aB rfl rfl wM rfl (hrd))<|Dd aF<|Dd eP<|Dd eP<|Dd aS<|Zz<|Rg<|Dd aF<|Dd (by exact cV rfl rfl rfl (show IntKind.i64.wrap ((i:Int)+1)=((i+1:Nat):Int)by rw [jS (by omega) (by omega)];omega))<|Da ?_;exact⟨i+1,by omega,by omega,(cA.wk (Ea<|Eb<|Eb<|trivial) (Hc (aE _ _ rfl rfl rfl)<|Hc (aC _ _)<|Hc (aK _ _ _)<|Hc (aJ _ _)<|trivial) ⟨rfl,rfl,rfl,rfl,trivial⟩)⟩
 have hq:i=N+1:=by have h:=aBD hc2;rw [XU] at h;split at h;exact absurd rfl h;omega
 have hk1:XU i N=1:=aBE (by omega);rw [hk1];have hp1:=vC d hs hoff k 0 0 1 false [] 0 (by omega) (by omega);have hp0:=vC d hs hoff k 0 0 0 false [] 0 (by omega) (by omega);have hrd0:=zA hs hoff (n:=0) (by omega);refine bE<|Sq<|Sr<|Dd aF<|Dd (by exact eF rfl rfl rfl (show IntKind.i64.wrap ((i:Int) - 1)=(N:Int)by rw [jS (by omega) (by omega)];omega))<|Dd aS<|Zz<|Sr<|Dd aF<|Dd iY<|Zz ?_;refine Cn ?_ ?_<;>intro hc3
 ·cases hc3
 refine aG<|Sq<|Sr<|Dd aF<|Dd dZ<|Zz ?_;refine Cn ?_ ?_<;>intro hc4
 ·(have h:=aBC hc4;omega)
 have hkq:IntKind.i64.wrap (((N:Int) - 2).tdiv 2)=(k:Int):=by
  rw [Int.tdiv_eq_ediv_of_nonneg (by omega),jS (by omega) (by omega),hk];omega
 refine aG<|Sr<|Dd aF<|Dd aF<|Dd (by exact eF rfl rfl rfl (jS (by omega) (by omega)))<|Dd (by exact pD rfl rfl rfl (by decide) hkq)<|Dd (by exact jN (id:=1101) fA rfl rfl)<|Dd (P3 aAW)<|Dd (by exact gO (id:=1100) rfl rfl rfl rfl rfl)<|Dd aS<|Zz<|Sq ?_;refine gM.ent (E':=[(0,.ref 1000 0 0 0),(6,.ref 1100 0 0 0)]) (H':=sH d (cI k 0 0 false) (bK [] 0)) (cA.wk (Ea<|Ea<|trivial) (Hc (aE _ _ rfl rfl rfl)<|Hc (aC _ _)<|Hc (aK _ _ _)<|Hc (aJ _ _)<|Hc (bI rfl rfl)<|Hc (aQ _ _ _)<|trivial) ⟨rfl,rfl,rfl,rfl,trivial⟩) ?_;obtain ⟨h1,hh1⟩:∃ b,b=jX k 1 (bP d 1):=⟨_,rfl⟩;obtain ⟨h0,hh0⟩:∃ b,b=jX k 0 (bP d 0):=⟨_,rfl⟩;rw [← hh1] at hp1;rw [← hh0] at hp0;have hHe:hd=(h1||h0):=by rw [hH,xC,qD,← hh1,← hh0]
 have hAe:a=if h1 then qC (bP d 1)else if h0 then qC (bP d 0)else 0:=by rw [hA,yS,qD,← hh1,← hh0]
 have hNe:n=if h1 then qB (bP d 1)else if h0 then qB (bP d 0)else 0:=by rw [hNn,yR,qD,← hh1,← hh0]
 have hld:=VK d hs hoff k a n false hbd.1 hbd.2 (by omega);refine Rg<|Dd aF<|Dd (by exact aB rfl rfl call42 rfl (hp1))<|Dd aF<|Dd eP<|Dd eP<|Dd (by exact cR (id:=7) rfl P7 rfl rfl)<|Uu (sS sizeOf70)<|Da ?_;refine lF (fun(q:Nat×Nat)=>([(0,.ref 1000 0 0 0),(6,.ref 1100 0 0 0),(7,.ref 7 0 0 0),(8,bv hd)],(7,pBx q.1 q.2)::sH d (cI k 0 0 false) (bK [] 0))) (fun q=>hd=true→q.1=a∧q.2=n) ?_ ?_
 ·refine Sr<|Dd aF<|Dd yE<|Zz ?_;refine Cn ?_ ?_<;>intro hc5
  ·have e1:h1=false:=by have h:=hc5;simpa using h
   refine Rg<|Dd aF<|Dd (by exact aB rfl rfl call42 rfl (kT hp0 _ ⟨rfl,rfl,rfl,rfl,rfl,rfl,trivial⟩ (by simp;rfl)))<|Dd aF<|Dd eP<|Dd eP<|Uu (sS sizeOf70)<|Da ?_;refine⟨(qC (bP d 0),qB (bP d 0)),fun hh=>?_,?_⟩
   ·rw [e1] at hHe hAe hNe;rw [hHe] at hh;have e0:h0=true:=hh;rw [e0] at hAe hNe;exact⟨hAe.symm,hNe.symm⟩
   rw [show hd=h0 by rw [hHe,e1];rfl];exact(cA.wk (Ea<|Ea<|Ea<|Eb<|trivial) (Hb<|Hc (aE _ _ rfl rfl rfl)<|Hc (aC _ _)<|Hc (aK _ _ _)<|Hc (aJ _ _)<|Hc (bI rfl rfl)<|Hc (aQ _ _ _)<|trivial) ⟨rfl,rfl,rfl,rfl,trivial⟩)
  have e1:h1=true:=by have h:=hc5;simpa using h
  refine aG ?_;refine⟨(qC (bP d 1),qB (bP d 1)),fun hh=>?_,?_⟩
  ·rw [e1] at hAe hNe;exact⟨hAe.symm,hNe.symm⟩
  rw [show hd=h1 by rw [hHe,e1];rfl];exact(cA.wk (Ea<|Ea<|Ea<|Eb<|trivial) (Hb<|Hc (aE _ _ rfl rfl rfl)<|Hc (aC _ _)<|Hc (aK _ _ _)<|Hc (aJ _ _)<|Hc (bI rfl rfl)<|Hc (aQ _ _ _)<|trivial) ⟨rfl,rfl,rfl,rfl,trivial⟩)
 rintro⟨a',n'⟩ hq0;have hq0:hd=true→a'=a∧n'=n:=hq0;refine Sr<|Dd aF<|Dd (by exact aB rfl rfl wM rfl (hrd0 _ ⟨rfl,rfl,rfl,rfl,trivial⟩))<|Dd aF<|Dd eP<|Dd eP<|Dd aS<|Da ?_;refine lF (fun(_:Unit)=>([(0,.ref 1000 0 0 0),(6,.ref 1100 0 0 0),(7,.ref 7 0 0 0),(8,bv hd),(9,sv (bP d 0))],(7,pBx a n)::sH d (cI k 0 0 false) (bK [] 0))) (fun _=>True) ?_ ?_
 ·refine Sr<|Dd aF<|Dd yE<|Zz ?_;refine Cn ?_ ?_<;>intro hc6
  ·have e1:hd=false:=by have h:=hc6;simpa using h
   rw [hHe,aB2] at e1;have ha0:a=0:=by rw [hAe,e1.1,e1.2];rfl
   have hn0:n=0:=by rw [hNe,e1.1,e1.2];rfl
   rw [ha0,hn0];refine Rg<|Dd (P3 PE)<|Uu (sS sizeOf70)<|Zz ?_;exact⟨(),trivial,(cA.wk (Ea<|Ea<|Ea<|Eb<|Eb<|trivial) (Hb<|Hc (aE _ _ rfl rfl rfl)<|Hc (aC _ _)<|Hc (aK _ _ _)<|Hc (aJ _ _)<|Hc (bI rfl rfl)<|Hc (aQ _ _ _)<|trivial) ⟨rfl,rfl,rfl,rfl,trivial⟩)⟩
  have e1:hd=true:=by have h:=hc6;simpa using h
  obtain ⟨rfl,rfl⟩:=hq0 e1;refine aG ?_;exact⟨(),trivial,(cA.wk (Ea<|Ea<|Ea<|Eb<|Eb<|trivial) (Hb<|Hc (aE _ _ rfl rfl rfl)<|Hc (aC _ _)<|Hc (aK _ _ _)<|Hc (aJ _ _)<|Hc (bI rfl rfl)<|Hc (aQ _ _ _)<|trivial) ⟨rfl,rfl,rfl,rfl,trivial⟩)⟩
 rintro _ -;clear hHe hAe hNe hq0 hp1 hp0 hh1 hh0 hA hNn hH;refine lF (fun(q:bU×Nat)=>([(6,.ref 1100 0 0 0),(8,bv hd)],sH d (cI k a n false) (bK q.1 q.2))) (fun q=>mT d k=false∧dW q.1 q.2∧eY q.1∧q.1.length≤46*n∧∀ x,dD q.1 x=KM d k a n x) ?_ ?_
 ·refine Sr<|Dd aF<|Dd (VL dJ sizeOf70)<|Dd fP<|Dd (dV mV)<|Uu (by exact LN rfl sizeOf70 rfl rfl rfl rfl rfl rfl rfl (by simp only [aBI,List.length_nil];omega) (by simp only [Zl,encStr];rfl) (by simp only [Zl,encStr];rfl))<|Zz<|Sq ?_;refine gM.ent (E':=[(0,.ref 1000 0 0 0),(6,.ref 1100 0 0 0),(8,bv hd),(9,sv (bP d 0))]) (H':=sH d (cI k a n false) (bK [] 0)) (cA.wk (Ea<|Ea<|Eb<|Eb<|trivial) (Hc (aE _ _ rfl rfl rfl)<|Hc (aC _ _)<|Hc (aK _ _ _)<|Hc (aJ _ _)<|Hc (bI rfl rfl)<|Hc (aQ _ _ _)<|trivial) ⟨rfl,rfl,rfl,rfl,trivial⟩) ?_;obtain ⟨ok,hok⟩:∃ ok,ok=tU d k a n:=⟨_,rfl⟩;rw [← hok] at hld hbad;clear hok;cases hd with
  | true =>
   refine Rg<|Dd aF<|Dd yE<|Dd aF<|Fo<|Fo<|Fo<|Dd iM<|Dd aF<|On aF ?_;refine M6 rfl rfl rfl (by rfl) rfl (aB rfl rfl call44 rfl hld) ?_;rintro _ _ ⟨rfl,l,c,q1,q2,q3,q4,rfl⟩;refine On yE<|Dd iM<|Zz ?_;refine Cn ?_ ?_<;>intro hc7
   ·have hok:ok=false:=by have h:=hc7;simpa using h
    refine Sr<|Dd aS<|Dd aS<|Zz<|aM ?_;refine gQ (H':=(aY d)) (.inr rfl) rfl (aH rfl) (aH rfl) (Fin.wk (by(simp;done)) (Hc (aE _ _ rfl rfl rfl)<|Hc (aC _ _)<|Hc (aK _ _ _)<|Hc (aJ _ _)<|trivial) ⟨rfl,rfl,rfl,rfl,trivial⟩) ?_;exact .inl ⟨by rw [hbad,hok];rfl,rfl,rfl⟩
   have hok:ok=true:=by have h:=hc7;simpa using h
   refine aG ?_;exact⟨(l,c),⟨by rw [hbad,hok];rfl,q1,q2,q3,q4 hok⟩,(cA.wk (Ea<|Eb<|trivial) (Hc (aE _ _ rfl rfl rfl)<|Hc (aC _ _)<|Hc (aK _ _ _)<|Hc (aJ _ _)<|Hc (bI rfl rfl)<|Hc (aQ _ _ _)<|trivial) ⟨rfl,rfl,rfl,rfl,trivial⟩)⟩
  | false =>
   cases g69:(!decide (bP d 0=ofL (zB 64)))with
   | true =>
    have hbt:mT d k=true:=by
     rw [hbad,show decide (bP d 0=zS)=false by rw [Bool.not_eq_true'] at g69;exact g69];rfl
    refine Rg<|Dd aF<|Dd yE<|Dd aF<|On aF<|On (by exact aB rfl rfl qJ rfl (pQ _))<|On QX<|Dd iM<|Dd aF<|Fa<|Fa<|Fa<|Dd U2<|Zz ?_;refine Cn ?_ ?_<;>intro hc8
    ·refine Sr<|Dd aS<|Dd aS<|Zz<|aM ?_;refine gQ (H':=(aY d)) (.inr rfl) rfl (aH rfl) (aH rfl) (Fin.wk (by(simp;done)) (Hc (aE _ _ rfl rfl rfl)<|Hc (aC _ _)<|Hc (aK _ _ _)<|Hc (aJ _ _)<|trivial) ⟨rfl,rfl,rfl,rfl,trivial⟩) ?_;exact .inl ⟨hbt,rfl,rfl⟩
    ((cases hc8;done))
   | false =>
    have hz:decide (bP d 0=zS)=true:=by rw [Bool.not_eq_false'] at g69;exact g69
    rw [hz] at hbad;refine Rg<|Dd aF<|Dd yE<|Dd aF<|On aF<|On (by exact aB rfl rfl qJ rfl (pQ _))<|On QX<|Dd iM<|Dd aF<|Oa aF ?_;refine M6 rfl rfl rfl (by assumption) rfl (aB rfl rfl call44 rfl hld) ?_;rintro _ _ ⟨rfl,l,c,q1,q2,q3,q4,rfl⟩;refine Oa yE<|Dd L4<|Zz ?_;refine Cn ?_ ?_<;>intro hc9
    ·have hok:ok=false:=by have h:=hc9;simpa using h
     refine Sr<|Dd aS<|Dd aS<|Zz<|aM ?_;refine gQ (H':=(aY d)) (.inr rfl) rfl (aH rfl) (aH rfl) (Fin.wk (by(simp;done)) (Hc (aE _ _ rfl rfl rfl)<|Hc (aC _ _)<|Hc (aK _ _ _)<|Hc (aJ _ _)<|trivial) ⟨rfl,rfl,rfl,rfl,trivial⟩) ?_;exact .inl ⟨by rw [hbad,hok];rfl,rfl,rfl⟩
    have hok:ok=true:=by have h:=hc9;simpa using h
    refine aG ?_;exact⟨(l,c),⟨by rw [hbad,hok];rfl,q1,q2,q3,q4 hok⟩,(cA.wk (Ea<|Eb<|trivial) (Hc (aE _ _ rfl rfl rfl)<|Hc (aC _ _)<|Hc (aK _ _ _)<|Hc (aJ _ _)<|Hc (bI rfl rfl)<|Hc (aQ _ _ _)<|trivial) ⟨rfl,rfl,rfl,rfl,trivial⟩)⟩
 rintro⟨l,c⟩ ⟨hbf,q1,q2,q3,q4⟩;have hl0:([[PV.int .i64 1],[PV.int .i64 0]]:List (List PV))[0]?=some [PV.int .i64 1]:=rfl;have hl1:([[PV.int .i64 1],[PV.int .i64 0]]:List (List PV))[1]?=some [PV.int .i64 0]:=rfl;have hr1:=C8 h.inv hoff k a n 1 false hd l c (by decide) (by omega) (by omega) (by omega);have hon:=XP (place:=1) (a:=a) (n:=n) (hd:=hd) h (by omega) (by omega) (by omega);obtain ⟨x,hx⟩:∃ x,x=oY d 1 a n hd:=⟨_,rfl⟩;rw [← hx] at hr1 hon ⊢;obtain ⟨y,hy⟩:∃ y,y=oY x.2 0 a n hd:=⟨_,rfl⟩;rw [← hy];refine Sq<|Sr<|Dd (by exact bL [[.int .i64 1],[.int .i64 0]] rfl NO rfl rfl rfl rfl rfl (by simp))<|Dd (mH PU)<|Dd aF<|Zz<|aN ?_;refine bJ (σ:=Nat) (fun i=>([(6,.ref 1100 0 0 0),(8,bv hd),(76,.pv (.sl [[.int .i64 1],[.int .i64 0]])),(77,iv 2),(78,iv (i:Int))],sH (stD d x.2 y.2 i) (cI k a n false) (bK l c))) (fun i=>i≤2∧(0 < i→x.1=0)∧(1 < i→y.1=0)) (fun i=>2 - i) 0 ⟨by omega,fun h=>absurd h (Nat.lt_irrefl _),fun h=>absurd h (by omega)⟩ ?_ ?_
 ·exact(cA.wk (Ea<|Eb<|Eb<|Eb<|Eb<|trivial) (Hc (aE _ _ rfl rfl rfl)<|Hc (aC _ _)<|Hc (aK _ _ _)<|Hc (aJ _ _)<|Hc (bI rfl rfl)<|Hc (aQ _ _ _)<|trivial) ⟨rfl,rfl,rfl,rfl,trivial⟩)
 rintro i ⟨hi2,hx0,hy0⟩;have h3:i=0∨i=1∨i=2:=by omega
 rcases h3 with rfl|rfl|rfl
 ·refine Sr<|Dd dZ<|Zz<|Sq ?_;refine Cn ?_ ?_<;>intro hc10
  ·refine aG<|Sq<|aN<|Sr<|Dd (by exact bN (m:=0) rfl NO rfl rfl (by decide) rfl rfl rfl)<|Dd (nT aU)<|Dd aS<|Zz<|Sr<|Dd aF<|Dd aF<|Dd aF<|Dd (by exact aB rfl rfl call45 rfl (hr1))<|Dd aS<|Zz<|Sr<|Dd aF<|Dd uT<|Zz ?_;refine Cn ?_ ?_<;>intro hc11
   ·have he:¬ x.1=0:=by have h:=hc11;simpa using h
    refine Sr<|Dd aF<|Dd aS<|Dd aS<|Zz<|aM ?_;refine gQ (H':=(aY x.2)) (.inr rfl) rfl (aH rfl) (aH rfl) (Fin.wk (by(simp;done)) (Hc (aE _ _ rfl rfl rfl)<|Hc (aC _ _)<|Hc (aK _ _ _)<|Hc (aJ _ _)<|trivial) ⟨rfl,rfl,rfl,rfl,trivial⟩) ?_;exact .inr (.inl ⟨hbf,he,rfl,rfl⟩)
   have he:x.1=0:=by have h:=hc11;simpa using h
   have hb:(false||!decide (x.1=0))=false:=by rw [he];rfl
   rw [hb];refine aG<|Rg<|Dd oE<|Dd aF<|Zz ?_;refine⟨1,⟨by omega,fun _=>he,fun h=>absurd h (by omega)⟩,by omega,?_⟩;exact(cA.wk (Ea<|Eb<|Eb<|Eb<|Eb<|trivial) (Hc (aE _ _ rfl rfl rfl)<|Hc (aC _ _)<|Hc (aK _ _ _)<|Hc (aJ _ _)<|Hc (bI rfl rfl)<|Hc (aQ _ _ _)<|trivial) ⟨rfl,rfl,rfl,rfl,trivial⟩)
  cases hc10
 ·have he0:=hx0 (by omega);have hon:=hon he0;have hr0:=C8 hon.inv hon.off k a n 0 false hd l c (by decide) (by have:=hon.inv.n;omega) (by omega) (by omega);rw [← hy] at hr0;refine Sr<|Dd dZ<|Zz<|Sq ?_;refine Cn ?_ ?_<;>intro hc12
  ·refine aG<|Sq<|aN<|Sr<|Dd (by exact bN (m:=1) rfl NO rfl rfl (by decide) rfl rfl rfl)<|Dd (nT aU)<|Dd aS<|Zz<|Sr<|Dd aF<|Dd aF<|Dd aF<|Dd (by exact aB rfl rfl call45 rfl (hr0))<|Dd aS<|Zz<|Sr<|Dd aF<|Dd uT<|Zz ?_;refine Cn ?_ ?_<;>intro hc13
   ·have he:¬ y.1=0:=by have h:=hc13;simpa using h
    refine Sr<|Dd aF<|Dd aS<|Dd aS<|Zz<|aM ?_;refine gQ (H':=(aY y.2)) (.inr rfl) rfl (aH rfl) (aH rfl) (Fin.wk (by(simp;done)) (Hc (aE _ _ rfl rfl rfl)<|Hc (aC _ _)<|Hc (aK _ _ _)<|Hc (aJ _ _)<|trivial) ⟨rfl,rfl,rfl,rfl,trivial⟩) ?_;exact .inr (.inr (.inl ⟨hbf,he0,he,rfl,rfl⟩))
   have he:y.1=0:=by have h:=hc13;simpa using h
   have hb:(false||!decide (y.1=0))=false:=by rw [he];rfl
   rw [hb];refine aG<|Rg<|Dd oE<|Dd aF<|Zz ?_;refine⟨2,⟨by omega,fun _=>he0,fun _=>he⟩,by omega,?_⟩;exact(cA.wk (Ea<|Eb<|Eb<|Eb<|Eb<|trivial) (Hc (aE _ _ rfl rfl rfl)<|Hc (aC _ _)<|Hc (aK _ _ _)<|Hc (aJ _ _)<|Hc (bI rfl rfl)<|Hc (aQ _ _ _)<|trivial) ⟨rfl,rfl,rfl,rfl,trivial⟩)
  cases hc12
 have he0:=hx0 (by omega);have he1:=hy0 (by omega);refine Sr<|Dd dZ<|Zz<|Sq ?_;refine Cn ?_ ?_<;>intro hc14
 ·cases hc14
 refine bE<|Sr<|Dd aF<|Dd aS<|Dd aS<|Zz<|aM ?_;refine gQ (H':=(sH y.2 (cI k a n false) (bK l c))) (.inr rfl) rfl (aH rfl) (aH rfl) (Fin.wk (by(simp;rfl)) (Hc (aE _ _ rfl rfl rfl)<|Hc (aC _ _)<|Hc (aK _ _ _)<|Hc (aJ _ _)<|Hc (bI rfl rfl)<|Hc (aQ _ _ _)<|trivial) ⟨rfl,rfl,rfl,rfl,trivial⟩) ?_;exact .inr (.inr (.inr ⟨hbf,he0,he1,rfl,l,c,q1,q2,q3,q4,rfl⟩))
end Go.Proofs.YtmkgeogoojcciaaGreatDoor
section
namespace Go.Abs
theorem cD.eqv {P:Program} {N:Nat} {o:Oper} {E:bH} {H H':aA} {v v':AV} (h:cD P N o E H v H') (e:v=v'):cD P N o E H v' H':=e▸h
end Go.Abs
namespace Go.Proofs.YtmkgeogoojcciaaGreatDoor
open Go.Proofs.Tryz
open Go.Abs Go.Lib
theorem KR (d:DSt) (k a n:Nat) (b:Bool) (l:bU) (c:Nat) (key:ByteArray) :
  aL Tryz.prog 24 [.ref 1100 0 0 0,sv key] (sH d (cI k a n b) (bK l c)) (fun r H'=>r=.tup [sv (cW l key),bv (dD l key).isSome]∧H'=sH d (cI k a n b) (bK l c)):=by
 have hr:(.tup [((mU (H6 (bS l)) key).getD (sv sNil)),.pv (.bool (mU (H6 (bS l)) key).isSome)]:AV)=.tup [sv (cW l key),bv (dD l key).isSome]:=by
  rw [FH,xD]
 refine Bd func24 rfl ntmps24<|Sr<|Dd aS<|Dd aS<|Zz<|Sq<|Sr<|Dd aF<|Dd (by exact cY rfl gV rfl rfl rfl rfl)<|Zz ?_;refine Cn ?_ ?_<;>intro hc1
 ·cases hc1
 refine aG<|Sr<|Dd aF<|Dd fP<|Dd (dV tZ)<|Dd (eG bW)<|Dd aF<|Dd (by exact cD.eqv (H9 (κ:=fA) (k:=key) (l:=bS l) rfl aT aI rfl rfl rfl rfl rfl eE (.inl rfl)) hr)<|Dd aF<|Dd eP<|Dd eP<|Dd aS<|Dd aS<|Zz<|Sr<|Dd aF<|Dd aF<|Dd aS<|Dd aS<|Zz<|aM ?_;refine gQ (H':=(sH d (cI k a n b) (bK l c))) (.inr rfl) rfl (aH rfl) (aH rfl) (Fin.wk (by(simp;done)) (Hc (aE _ _ rfl rfl rfl)<|Hc (aC _ _)<|Hc (aK _ _ _)<|Hc (aJ _ _)<|Hc (bI rfl rfl)<|Hc (aQ _ _ _)<|trivial) ⟨rfl,rfl,rfl,rfl,rfl,rfl,trivial⟩) ?_;exact Qq
theorem MH (d:DSt) (k a n:Nat) (b:Bool) (l:bU) (c:Nat) (hst:dW l c) (hl:l.length < 1099511627776) :
  aL Tryz.prog 19 [.ref 1100 0 0 0] (sH d (cI k a n b) (bK l c)) (fun r H'=>r=.pv (aW (cF l))∧H'=sH d (cI k a n b) (bK l c)):=by
 have hcl:bM ((951,UD 1101)::sH d (cI k a n b) (bK l c)):=bM.app (D:=[(951,UD 1101)]) (mD.spec ⟨by
  intro r hr x hx;simp only [bx,aBJ] at hr;subst hr;rw [aBJ] at hx;subst hx;exact .mp rfl,trivial⟩) (rY _ _ _ _ _ _ _)
 have hso:=EO (L:=l.map Prod.fst) (by rw [aBG];exact hl) aA3 ((951,UD 1101)::sH d (cI k a n b) (bK l c)) (MG 1101 l c _ hl hst rfl rfl (by decide)) rfl rfl rfl rfl hcl (by simp;rfl);change aL _ _ _ _ fun r H'=>r=.pv (aW (cF l))∧H'=_ at hso;refine Bd func19 rfl ntmps19<|Sr<|Dd aS<|Zz<|Sq<|Sr<|Dd aF<|Dd (by exact cY rfl gV rfl rfl rfl rfl)<|Zz ?_;refine Cn ?_ ?_<;>intro hc1
 ·cases hc1
 refine aG<|Sr<|Dd aF<|Dd fP<|Dd (dV tZ)<|Dd (eG bW)<|Dd (by exact aB rfl rfl aAi rfl (MF 1101 _ rfl rfl))<|Dd (by exact aB rfl rfl GG rfl (hso))<|Dd aS<|Zz<|aM ?_;refine bF (H':=(sH d (cI k a n b) (bK l c))) (.inr rfl) rfl (aH rfl) (Fin.wk (by(simp;done)) (Hc (aE _ _ rfl rfl rfl)<|Hc (aC _ _)<|Hc (aK _ _ _)<|Hc (aJ _ _)<|Hc (bI rfl rfl)<|Hc (aQ _ _ _)<|trivial) ⟨rfl,rfl,rfl,rfl,rfl,rfl,trivial⟩) ?_;exact Qq
end Go.Proofs.YtmkgeogoojcciaaGreatDoor
end
namespace Go.Proofs.YtmkgeogoojcciaaGreatDoor
open Go.Proofs.Tryz
open Go.Abs Go.Lib
theorem sE {d:DSt} {N k a n:Nat} {C:CT} (hc:Calm d N) (hI:SInv d.cells k a n C) (hN:4≤N) (hk:k=(N - 2) / 2) :
  aL Tryz.prog 12 [.ref 1000 0 0 0] (aY d) (fun r H'=>r=.tup [.ref 1100 0 0 0,iv 0]∧∃ l c,dW l c∧eY l∧l.length≤46*n∧(∀ x,dD l x=C x)∧H'=sH d (cI k a n false) (bK l c)):=by
 have hn2:=hc.inv.ok.n2;have hcn:=hc.inv.n;obtain ⟨o1,o2,o3,o4,o5,o6,o7⟩:=EE hc hI (by omega);have ho:=L5 hc.on hN k a n (xC d k) hk o1.symm o2.symm rfl;have hb:mT d k=false:=by
  rw [mT,o1,o2,o4];rcases o3 with o3|o3
  ·rw [o3];rfl
  rw [o3.1,o3.2,decide_eq_true rfl];rfl
 have r1:oY d 1 a n (xC d k)=(0,d):=by rw [oY,aBF o6]
 have r0:oY d 0 a n (xC d k)=(0,d):=by rw [oY,aBF o7]
 rw [hb,r1,r0] at ho;refine ho.mono ?_;rintro r H' (⟨h,_⟩|⟨_,h,_⟩|⟨_,_,h,_⟩|⟨_,_,_,rfl,l,c,q1,q2,q3,q4,rfl⟩)
 ·cases h
 ·exact absurd rfl h
 ·exact absurd rfl h
 exact⟨rfl,l,c,q1,q2,q3,fun x=>by rw [q4,o5],rfl⟩
theorem rB {s:ByteArray} (h:fC s=true):s.size≤200:=by rw [fC,aBP,aBN] at h;have:=h.2;omega
theorem qL {l2:bU} {P:List ByteArray} (hw:bO l2 P=0) (hl:l2.length≤1000) (hP:P.length≤1000):(bD l2 (gE P)).length < 100000000:=by
 obtain ⟨k1,k2⟩:=kQ hw;have hD:=wB P;have h:=qN (l:=l2) (P:=gE P) (M:=20000) (by decide) (by decide) (fun p hp=>by
  have:=k1 p hp;have:=rB this.1;omega) (fun s hs=>by
  have:=rB (k2 s (kI.1 hs));omega) (by omega)
 have h8:(2*l2.length+2+(gE P).length)*(20000+22)≤3002*20022:=Nat.mul_le_mul (by omega) (by omega);omega
theorem zZ {cells:List ByteArray} {k a n:Nat} {C:CT} (hI:SInv cells k a n C) (hk:k < 4000) {l:bU} (hn:eY l) (hl:∀ x,dD l x=C x):(bD l []).length < 100000000000:=by
 have hw:=hI.wrong hn hl;have hlen:=hI.len hn hl;have hnk:=hI.nk;obtain ⟨k1,k2⟩:=kQ hw;have h:=qN (l:=l) (P:=[]) (M:=20000) (by decide) (by decide) (fun p hp=>by
  have:=k1 p hp;have:=rB this.1;omega) (fun s hs=>by cases hs) (by rw [List.length_nil];omega)
 have h8:(2*l.length+2+([]:List ByteArray).length)*(20000+22)≤400000*20022:=Nat.mul_le_mul (by rw [List.length_nil];omega) (by omega);omega
def CW (k n:Nat) (l2:bU) (P:List ByteArray):Int:=if zO k n false l2 P = -1 then 0 else zO k n false l2 P
theorem BQ {C:CT} {l2:bU} {D:List ByteArray} (h:l2.length+D.length=0):oU C l2 D=C:=by have h1:l2=[]:=List.length_eq_zero_iff.1 (by omega);have h2:D=[]:=List.length_eq_zero_iff.1 (by omega);subst h1 h2;funext x;rw [oU,aBE aBW];show ((none:Option ByteArray).orElse fun _=>C x)=C x;rfl
theorem mM (k n:Nat) (l2:bU) (P:List ByteArray) :
  (zO k n false l2 P=0∧bO l2 P=0∧l2.length+(gE P).length=0)∨(zO k n false l2 P = -1∧bO l2 P=0∧0 < l2.length+(gE P).length∧n+cJ (bD l2 (gE P))≤k) ∨
  (zO k n false l2 P=21∧bO l2 P=0∧0 < l2.length+(gE P).length∧k < n+cJ (bD l2 (gE P)))∨(zO k n false l2 P=bO l2 P∧¬ bO l2 P=0):=by
 have e:zO k n false l2 P=if ¬ bO l2 P=0 then bO l2 P else if l2.length+(gE P).length=0 then 0 else if k < n+cJ (bD l2 (gE P))then 21 else -1:=aBE Bool.false_ne_true
 rw [e];by_cases h1:bO l2 P=0
 ·rw [aBE (fun h=>h h1)];by_cases h2:l2.length+(gE P).length=0
  ·rw [aBF h2];exact .inl ⟨rfl,h1,h2⟩
  rw [aBE h2];by_cases h3:k < n+cJ (bD l2 (gE P))
  ·rw [aBF h3];exact .inr (.inr (.inl ⟨rfl,h1,by omega,h3⟩))
  rw [aBE h3];exact .inr (.inl ⟨rfl,h1,by omega,by omega⟩)
 rw [aBF h1];exact .inr (.inr (.inr ⟨rfl,h1⟩))
structure St (N k:Nat) (tl:List ByteArray) (d:DSt) (a n:Nat) (l:bU) (c:Nat) (C:CT):Prop where
 calm:Calm d N
 inv:SInv d.cells k a n C
 st:dW l c
 nd:eY l
 kv:∀ x,dD l x=C x
 tl:d.cells.drop (2*k+2)=tl
theorem YL {cells S:List ByteArray} {p k:Nat} {x y:ByteArray} (h:p+S.length≤2*k+2):(((lY cells p S).set 1 x).set 0 y).drop (2*k+2)=cells.drop (2*k+2):=by refine List.ext_getElem? fun j=>?_;rw [List.getElem?_drop,List.getElem?_drop,List.getElem?_set_ne (by omega),List.getElem?_set_ne (by omega),dN,aBE (by omega)]
theorem QT {N k:Nat} {tl:List ByteArray} {d:DSt} {a n:Nat} {l l':bU} {c c':Nat} {C:CT} (h:St N k tl d a n l c C) (hk:k < 4000) {l2:bU} {P:List ByteArray} (hn2:eY l2) (hw:bO l2 P=0) (h0:0 < l2.length+(gE P).length) (hfit:n+cJ (bD l2 (gE P))≤k) (q1:dW l' c') (q2:eY l') (q4:∀ x,dD l' x=oU (dD l) l2 (gE P) x) :
  (gK d k a n (bD l2 (gE P))).1=0∧St N k tl (gK d k a n (bD l2 (gE P))).2 a (n+cJ (bD l2 (gE P))) l' c' (oU C l2 (gE P)):=by
 have hkn:=h.inv.kn;have hcn:=h.calm.inv.n;have hak:a*k≤k:=by
  have:=h.inv.a2;rcases(show a=0∨a=1 by omega)with e|e<;>subst e<;>omega
 obtain ⟨a1,a2,a3⟩:=wC h.calm (k:=k) (a:=a) (cn:=n) (t:=bD l2 (gE P)) (by omega) (by have:=h.calm.inv.ok.n2;omega) h.inv.a2 hfit;have hw2:bO l2 (gE P)=0:=by
  obtain ⟨k1,k2⟩:=kQ hw;exact pH (fun p hp=>⟨(k1 p hp).1,fun hm=>(k1 p hp).2.1 (kI.1 hm),(k1 p hp).2.2⟩) (fun s hs=>k2 s (kI.1 hs))
 refine⟨a1,a2,?_,q1,q2,fun x=>?_,?_⟩
 ·rw [a3];exact G7 h.inv hn2 (rR P) h0 hw2 hfit (by omega)
 ·rw [q4,oU,oU,h.kv]
 rw [a3,YL (by rw [cQ];omega)];exact h.tl
theorem nP {N k:Nat} {tl:List ByteArray} {d:DSt} {a n:Nat} {l:bU} {c:Nat} {C:CT} (h:St N k tl d a n l c C) (hk:k < 4000) (l2:bU) (c2:Nat) (P:List ByteArray) (hst2:dW l2 c2) (hnd2:eY l2) (hl2:l2.length≤1000) (hP:P.length≤1000) :
  aL Tryz.prog 14 [.ref 1100 0 0 0,.mp 950 0,.pv (aW P)] ((950,bK l2 c2)::sH d (cI k a n false) (bK l c)) (fun r H'=>r=iv (CW k n l2 P)∧∃ d' n' l' c',St N k tl d' a n' l' c' (if CW k n l2 P=0 then oU C l2 (gE P)else C)∧n'=(if zO k n false l2 P = -1 then n+cJ (bD l2 (gE P))else n)∧H'=(950,bK l2 c2)::sH d' (cI k a n' false) (bK l' c')):=by
 have hcm:=EB h.calm.inv k a n false l c l2 c2 P hk h.inv.a2 h.inv.nk (by omega) h.st h.nd hst2 hnd2 (by omega) (by omega) (fun hw=>qL hw hl2 hP);refine hcm.mono ?_;have hcs:=mM k n l2 P;rintro r H' (⟨h1,rfl,rfl⟩|⟨h1,h2,rfl,rfl⟩|⟨h1,h2,rfl,l',c',q1,q2,q3,q4,rfl⟩)
 ·have hE:CW k n l2 P=zO k n false l2 P:=aBE h1;rw [hE,aBE h1];refine⟨rfl,d,n,l,c,?_,rfl,rfl⟩;rcases hcs with⟨e1,e2,e3⟩|⟨e1,_⟩|⟨e1,_⟩|⟨e1,e2⟩
  ·rw [aBF e1,BQ e3];exact h
  ·exact absurd e1 h1
  ·rw [aBE (by rw [e1];decide)];exact h
  rw [aBE (by rw [e1];exact e2)];exact h
 ·exfalso;rcases hcs with⟨e1,_⟩|⟨e1,e2,e3,e4⟩|⟨e1,_⟩|⟨e1,e2⟩
  ·rw [h1] at e1;cases e1
  ·exact h2 (wC h.calm (k:=k) (a:=a) (cn:=n) (t:=bD l2 (gE P)) (by have:=h.inv.kn;have:=h.calm.inv.n;omega) (by have:=h.calm.inv.ok.n2;have:=h.calm.inv.n;omega) h.inv.a2 e4).1
  ·rw [h1] at e1;cases e1
  rw [h1] at e1;have:=fF l2 P;omega
 have hE:CW k n l2 P=0:=aBF h1;rw [hE,aBF rfl,aBF h1];rcases hcs with⟨e1,_⟩|⟨e1,e2,e3,e4⟩|⟨e1,_⟩|⟨e1,e2⟩
 ·rw [h1] at e1;cases e1
 ·exact⟨rfl,_,_,l',c',(QT h hk hnd2 e2 e3 e4 q1 q2 q4).2,rfl,rfl⟩
 ·rw [h1] at e1;cases e1
 rw [h1] at e1;have:=fF l2 P;omega
theorem F6 {N k:Nat} {tl:List ByteArray} {d:DSt} {a n:Nat} {l:bU} {c:Nat} {C:CT} (h:St N k tl d a n l c C) (hk:k < 4000) (P:List ByteArray) (hP:P.length≤1000) :
  aL Tryz.prog 14 [.ref 1100 0 0 0,.pv .nilm,.pv (aW P)] (sH d (cI k a n false) (bK l c)) (fun r H'=>r=iv (CW k n [] P)∧∃ d' n' l' c',St N k tl d' a n' l' c' (if CW k n [] P=0 then oU C [] (gE P)else C)∧n'=(if zO k n false [] P = -1 then n+cJ (bD [] (gE P))else n)∧H'=sH d' (cI k a n' false) (bK l' c')):=by
 have hcm:=O4 h.calm.inv k a n false l c P hk h.inv.a2 h.inv.nk (by omega) h.st h.nd (by omega) (fun hw=>qL hw (by decide) hP);refine hcm.mono ?_;have hcs:=mM k n [] P;rintro r H' (⟨h1,rfl,rfl⟩|⟨h1,h2,rfl,rfl⟩|⟨h1,h2,rfl,l',c',q1,q2,q3,q4,rfl⟩)
 ·have hE:CW k n [] P=zO k n false [] P:=aBE h1;rw [hE,aBE h1];refine⟨rfl,d,n,l,c,?_,rfl,rfl⟩;rcases hcs with⟨e1,e2,e3⟩|⟨e1,_⟩|⟨e1,_⟩|⟨e1,e2⟩
  ·rw [aBF e1,BQ e3];exact h
  ·exact absurd e1 h1
  ·rw [aBE (by rw [e1];decide)];exact h
  rw [aBE (by rw [e1];exact e2)];exact h
 ·exfalso;rcases hcs with⟨e1,_⟩|⟨e1,e2,e3,e4⟩|⟨e1,_⟩|⟨e1,e2⟩
  ·rw [h1] at e1;cases e1
  ·exact h2 (wC h.calm (k:=k) (a:=a) (cn:=n) (t:=bD [] (gE P)) (by have:=h.inv.kn;have:=h.calm.inv.n;omega) (by have:=h.calm.inv.ok.n2;have:=h.calm.inv.n;omega) h.inv.a2 e4).1
  ·rw [h1] at e1;cases e1
  rw [h1] at e1;have:=fF [] P;omega
 have hE:CW k n [] P=0:=aBF h1;rw [hE,aBF rfl,aBF h1];rcases hcs with⟨e1,_⟩|⟨e1,e2,e3,e4⟩|⟨e1,_⟩|⟨e1,e2⟩
 ·rw [h1] at e1;cases e1
 ·exact⟨rfl,_,_,l',c',(QT h hk AW e2 e3 e4 q1 q2 q4).2,rfl,rfl⟩
 ·rw [h1] at e1;cases e1
 rw [h1] at e1;have:=fF [] P;omega
def WV (k:Nat) (l:bU):Int:=if k < cJ (bQ l)then 21 else 0
theorem AD {N k:Nat} {tl:List ByteArray} {d:DSt} {a n:Nat} {l:bU} {c:Nat} {C:CT} (h:St N k tl d a n l c C) (hk:k < 4000) :
  aL Tryz.prog 21 [.ref 1100 0 0 0] (sH d (cI k a n false) (bK l c)) (fun r H'=>r=iv (WV k l)∧∃ d' a' n',St N k tl d' a' n' l c C∧(WV k l=0→d'.cells=lD k (bQ l) tl)∧H'=sH d' (cI k a' n' false) (bK l c)):=by
 have hkn:=h.inv.kn;have hcn:=h.calm.inv.n;have hlen:=h.inv.len h.nd h.kv;have hnk:=h.inv.nk;have hsc:=G9 h.calm.inv k a n l c hk (by omega) h.inv.a2 h.inv.nk (by omega) h.st (by omega) (zZ h.inv hk h.nd h.kv);refine hsc.mono ?_;rintro r H' (⟨h1,rfl,rfl⟩|⟨h1,rfl,a',n',q1,q2,q3,rfl⟩)
 ·have hE:WV k l=21:=aBF h1;rw [hE];exact⟨rfl,d,a,n,h,fun e=>(by cases e),rfl⟩
 have hE:WV k l=0:=aBE (by omega);obtain ⟨s1,s2,s3⟩:=S8 h.calm (k:=k) (a:=a) (w:=bQ l) (by omega) (by have:=h.calm.inv.ok.n2;omega) h.inv.a2 h1;obtain ⟨rfl,rfl⟩:=q3 s1;rw [hE,s1];have htl:(lD k (bQ l) tl).drop (2*k+2)=tl:=by
  have e1:lD k (bQ l) tl=(hS 0 0 (cJ (bQ l))::hS 1 0 (cJ (bQ l))::(gR 2 (bQ l) (cJ (bQ l))++(zR (k - cJ (bQ l))++zR k)))++tl:=by rw [lD];simp only [List.cons_append,List.append_assoc]
  rw [e1];exact List.drop_left' (by rw [aBI,aBI,aBH,cQ,aBH,List.length_replicate,List.length_replicate];omega)
 rw [h.tl] at s3;have hiv:=JQ h.inv h.nd h.kv h1 (by omega);rw [h.tl] at hiv;exact⟨rfl,_,0,cJ (bQ l),⟨s2,by rw [s3];exact hiv,h.st,h.nd,h.kv,by rw [s3,htl]⟩,fun _=>s3,rfl⟩
theorem XH {N:Nat} (h1:4≤N) (h2:N≤8000) {l:bU} {c:Nat} (q1:dW l c) (q2:eY l) (q3:∀ x,dD l x=none):St N ((N - 2) / 2) ((nE N).cells.drop (2*((N - 2) / 2)+2)) (nE N) 0 0 l c (fun _=>none) :=⟨rS (by omega) h2,qR h1,q1,q2,q3,rfl⟩
end Go.Proofs.YtmkgeogoojcciaaGreatDoor
namespace Go.Abs
section
section
variable {P:Program} {N:Nat} {o:Oper} {E:bH} {H:aA} {T:TypeId} {x y:Operand}
theorem fV {e:TypeId} {kk:IntKind} {n:Int} {m sz cnt i k k2:Nat} {rows:List (List PV)} (ho:o.op=.indexAddr T x y) (hT:P.underlying T=some (.array cnt e)) (hs:∀ w,(sizeOf e).run P w=.ok sz w)
  (hx:aP E x=some (.pad rows i k)) (hy:aP E y=some (.pv (.int kk n))) (h0:0≤n) (hm:n.toNat=m) (hi:m < cnt) (hk:k+m*sz=k2):cD P N o E H (.pad rows i k2) H :=
 .of_run fun a w I ι hr he=>by
  have h:=aD he hx;have hn:=(aD he hy).int_inv;generalize hc:a.eval x=c at h;subst hk;cases h with
  | pad b off cap sz1 h0' hsz hlen cs hb hcc hp =>
   refine⟨.pointer (some ⟨b,off+i*sz1+(k+m*sz),none⟩),?_,.pad b off cap sz1 h0' hsz hlen cs hb hcc hp⟩;simp only [execOp,ho,hc,hn];have h5:n < (cnt:Int):=by omega
   simp [Instr.indexAt,run_underlying hT,Instr.sureAddr,asIntOf,h0,h5,hs,hm,Addr.add_lit,Nat.add_assoc]
end
end
end Go.Abs
namespace Go.Proofs.YtmkgeogoojcciaaGreatDoor
open Go.Proofs.Tryz
open Go.Abs Go.Lib
structure GOp where
 kind:Int
 put:List (ByteArray×ByteArray)
 drop:List ByteArray
 a:Int
 b:Int
 c:Int
def pX (p:ByteArray×ByteArray):List PV:=[.str p.1,.str p.2]
def NQ (l:List (ByteArray×ByteArray)):PV:=.sl (l.map pX)
def tD (o:GOp):List PV:=[.int .i64 o.kind,NQ o.put,aW o.drop,.int .i64 o.a,.int .i64 o.b,.int .i64 o.c]
def mR (l:List GOp):PV:=.sl (l.map tD)
theorem yF (l:bU):2*(cF l).length=(bT l).length:=(gH (fun x=>x) (cW l) (cF l)).symm
theorem Fin.stK {G0 H1 H':aA} {id g n:Nat} {ob:Ob} (l:List ByteArray) (hH:H1.get id=some ob) (hg:ob.g=g) (hps:ob.rows=dE l) (hn:n=l.length) (hno:H'.get id=none) (hHO:GM H1 H' H') (hk:P5 H' H1 G0) :
  Fin G0 H1 (.osl id g 0 n) H' (.pv (aW l)):=by
 subst hg hn;exact Fin.fz (id:=id) (ob:=ob) (l.map encStr) hH (hps.trans (kS l)) (.osl (mP encStr l)) hno hHO hk
theorem RQ (key value:ByteArray) (H:aA) (h:H.get 950=none):aL Tryz.prog 23 [sv key,sv value] H (fun r H'=>r=.mp 950 0∧H'=(950,bK (eN [(key,value)]).1 (eN [(key,value)]).2)::H):=by refine Bd func23 rfl ntmps23<|Sr<|Dd aS<|Zz<|Sr<|Dd (by exact jN (id:=950) fA rfl h)<|Dd aF<|Dd aF<|Uu (by exact GO (κ:=fA) (.inr rfl) aT aI rfl rfl rfl rfl rfl rfl rfl rfl)<|Dd aF<|Dd aS<|Zz<|aM ?_;refine bF (H':=((950,bK (eN [(key,value)]).1 (eN [(key,value)]).2)::H)) (.inr rfl) rfl (aH rfl) (Fin.get' (fun j=>iH _ _ _ _ j)) ?_;exact Qq
theorem RZ (l:List (ByteArray×ByteArray)) (H:aA) (h:H.get 950=none) (hl:l.length < 1099511627776):aL Tryz.prog 15 [.pv (NQ l)] H (fun r H'=>r=.mp 950 0∧H'=(950,bK (eN l).1 (eN l).2)::H):=by
 have hml:(l.map pX).length=l.length:=aBG _;refine Bd func15 rfl ntmps15<|Sr<|Dd aS<|Zz<|Sr<|Dd (by exact jN (id:=950) fA rfl h)<|Dd aS<|Zz<|Sq<|Sr<|Dd aS<|Zz<|aN ?_;refine bJ (σ:=Nat) (fun k=>([(0,.pv (NQ l)),(3,.mp 950 0),(4,iv (k:Int))],(950,bK (eN (l.take k)).1 (eN (l.take k)).2)::H)) (fun k=>k≤l.length) (fun k=>l.length - k) 0 (aBX _) ?_ ?_
 ·exact E0
 intro k hk;refine Sq<|Sr<|Dd aF<|Dd aF<|Dd (mH kO)<|Dd dZ<|Zz ?_;refine Cn ?_ ?_<;>intro hc1
 ·have hlt:k < l.length:=by have:=aBC hc1;omega
  obtain ⟨p,hp⟩:=aZ hlt;have hi:=dI (f:=pX) hp;have hnx:eN (l.take (k+1))=(gZ (eN (l.take k)).1 p.1 p.2 (eN (l.take k)).2,nU (eN (l.take k)).1 p.1 (eN (l.take k)).2):=by rw [dK hp];exact AJ _ _ _
  refine aG<|Sq<|aN<|bR follows<|Cs (fun _ _=>aF)<|Cs (fun _ _=>aF)<|Cs (fun _ _=>aF)<|Cs (fun _ _=>(GJ NP))<|Cs (fun H1 hH=>by exact fV rfl gT sizeOf9 rfl rfl (by omega) (by exact aBR _) (by decide) rfl)<|Cs (fun _ _=>(nT aV))<|Cs (fun _ _=>aF)<|Cs (fun _ _=>aF)<|Cs (fun _ _=>(GJ NP))<|Cs (fun H1 hH=>by exact fV rfl gT sizeOf9 rfl rfl (by omega) (by exact aBR _) (by decide) rfl)<|Cs (fun _ _=>(nT aV)) ?_;refine cB (r:=⟨_,none,[_]⟩) (DStep.plain rfl (fun H1 hH=>by exact hU (κ:=fA) (l:=bS (eN (l.take k)).1) (.inl rfl) aT aI rfl ((hH _ rfl).trans rfl) rfl rfl rfl rfl rfl (nM _ _ _ _) (pK _ _ _))) rfl ?_;refine dG<|Kr<|Rg<|Dd aF<|Dd oE<|Da ?_;refine⟨k+1,by omega,by omega,?_⟩;rw [hnx];exact cA.get' ⟨⟨_,rfl,rfl⟩,⟨_,rfl,rfl⟩,⟨_,rfl,rfl⟩,trivial⟩ (fun j=>iH _ _ _ _ j)
 have hge:k=l.length:=by have:=aBD hc1;omega
 subst hge;rw [List.take_length];refine bE<|Sr<|Dd aF<|Dd aS<|Zz<|aM ?_;refine bF (H':=((950,bK (eN l).1 (eN l).2)::H)) (.inr rfl) rfl (aH rfl) Fin.refl ?_;exact Qq
theorem K4 (d:DSt) (k a n:Nat) (b:Bool) (l:bU) (c:Nat) (hst:dW l c) (hnd:eY l) (hl:l.length < 1000000000) :
  aL Tryz.prog 18 [.ref 1100 0 0 0] (sH d (cI k a n b) (bK l c)) (fun r H'=>r=.pv (aW (bT l))∧H'=sH d (cI k a n b) (bK l c)):=by
 have hks:=MH d k a n b l c hst (by omega);have hsl:=iA l;have hml:((cF l).map encStr).length=(cF l).length:=aBG _;have hT:∀ i,i≤(cF l).length→(((cF l).take i).flatMap fun x=>[x,cW l x]).length=2*i:=fun i hi=>by rw [gH,aBU];omega
 refine Bd func18 rfl ntmps18<|Sr<|Dd aS<|Zz<|Sr<|Dd aF<|Dd (by exact aB rfl rfl call19 rfl (hks))<|Dd aS<|Zz<|Sr<|Dd (by exact kD (id:=905) (sz:=1) (ty:=9) rfl rfl rfl)<|Zz<|Sq<|Sr<|Dd aS<|Zz<|aN ?_;refine bJ (σ:=Nat) (fun i=>([(0,.ref 1100 0 0 0),(3,.pv (aW (cF l))),(4,.osl 905 i 0 (2*i)),(5,iv (i:Int))],(905,⟨i,1,9,dE (((cF l).take i).flatMap fun x=>[x,cW l x])⟩)::sH d (cI k a n b) (bK l c))) (fun i=>i≤(cF l).length) (fun i=>(cF l).length - i) 0 (aBX _) ?_ ?_
 ·exact(cA.wk (Ea<|Eb<|Ea<|Eb<|trivial) (Hc (fT _ _)<|Hc (aE _ _ rfl rfl rfl)<|Hc (aC _ _)<|Hc (aK _ _ _)<|Hc (aJ _ _)<|Hc (by(simp;exact⟨rfl,rfl⟩))<|Hc (aQ _ _ _)<|trivial) ⟨rfl,rfl,rfl,rfl,rfl,rfl,trivial⟩)
 intro i hi;have hTi:=hT i hi;refine Sq<|Sr<|Dd aF<|Dd aF<|Dd (mH aO)<|Dd dZ<|Zz ?_;refine Cn ?_ ?_<;>intro hc1
 ·have hlt:i < (cF l).length:=by have:=aBC hc1;omega
  obtain ⟨s,hs⟩:=aZ hlt;have his:=dI (f:=encStr) hs;have hin:(dD l s).isSome=true:=by
   cases e:dD l s with
   | some v=>rfl
   | none=>exact absurd (mF.1 (aBQ hs)) (iV.1 e)
  have hg:=KR d k a n b l c s;rw [hin] at hg;have hnx:((cF l).take (i+1)).flatMap (fun x=>[x,cW l x])=(((cF l).take i).flatMap fun x=>[x,cW l x])++[s,cW l s]:=by rw [dK hs,List.flatMap_append];rfl
  refine aG<|Sq<|aN<|Sr<|Dd aF<|Dd aF<|Dd aF<|Dd (GJ bZ)<|Dd (nT aV)<|Dd (by exact aB rfl rfl aAn rfl (kT hg _ ⟨rfl,rfl,rfl,rfl,rfl,rfl,trivial⟩ (by simp;rfl)))<|Dd aF<|Dd eP<|Dd eP<|Dd aS<|Dd aS<|Zz<|Sq<|Sr<|Dd aF<|Dd yE<|Zz ?_;refine Cn ?_ ?_<;>intro hc2
  ·cases hc2
  refine aG<|Rg<|Dd aF<|Dd aF<|Dd aF<|Dd (GJ bZ)<|Dd (nT aV)<|Dd aF<|Dd (by exact bL [[.str s],[.str (cW l s)]] rfl bZ rfl rfl rfl rfl rfl (oG s (cW l s)))<|Dd (by exact eD (k:=2*(i+1)) (ps:=[[.str s],[.str (cW l s)]]) rfl bZ I6 rfl rfl rfl rfl rfl ((fE _).trans hTi) rfl (oG _ _) (m:=2) rfl (by omega) (by omega) (tH _ [s,cW l s]))<|Dd aS<|Zz<|Rg<|Dd aF<|Dd oE<|Da ?_;refine⟨i+1,by omega,by omega,?_⟩;rw [hnx];exact(cA.wk (Ea<|Eb<|Ea<|Eb<|trivial) (Hc (fT _ _)<|Hc (aE _ _ rfl rfl rfl)<|Hc (aC _ _)<|Hc (aK _ _ _)<|Hc (aJ _ _)<|Hc (by(simp;exact⟨rfl,rfl⟩))<|Hc (aQ _ _ _)<|trivial) ⟨rfl,rfl,rfl,rfl,rfl,rfl,trivial⟩)
 have hge:i=(cF l).length:=by have:=aBD hc1;omega
 subst hge;rw [List.take_length] at hTi ⊢;refine bE<|Sr<|Dd aF<|Dd aS<|Zz<|aM ?_;have hkl:((cF l).flatMap fun x=>[x,cW l x])=bT l:=rfl;refine bF (H':=(sH d (cI k a n b) (bK l c))) (.inr rfl) rfl (aH rfl) (Fin.stK (bT l) rfl rfl rfl (yF l) rfl ⟨⟨_,rfl,rfl⟩,(by exact aE _ _ rfl rfl rfl),⟨_,rfl,rfl⟩,(by exact aC _ _),⟨_,rfl,rfl⟩,(by exact aK _ _ _),⟨_,rfl,rfl⟩,(by exact aJ _ _),⟨_,rfl,rfl⟩,(by(simp;exact⟨rfl,rfl⟩)),⟨_,rfl,rfl⟩,(by exact aQ _ _ _),trivial⟩ ⟨rfl,rfl,rfl,rfl,rfl,rfl,trivial⟩) ?_;exact Qq
theorem NW (a b:List ByteArray) (H:aA) (ha:a.length < 1000000000) (hb:b.length < 1000000000):aL Tryz.prog 54 [.pv (aW a),.pv (aW b)] H (fun r H'=>r=bv (decide (a=b))∧H'=H):=by
 refine Pu ?_;have hma:(a.map encStr).length=a.length:=aBG _;have hmb:(b.map encStr).length=b.length:=aBG _;refine Bd func54 rfl ntmps54<|Sr<|Dd aS<|Zz<|Sq<|Sr<|Dd aF<|Dd (mH aO)<|Dd aF<|Dd (mH aO)<|Dd uT<|Zz ?_;refine Cn ?_ ?_<;>intro hc1
 ·have hq:¬ a.length=b.length:=by have h:=hc1;simp at h;omega
  have hf:decide (a=b)=false:=decide_eq_false fun e=>hq (by rw [e]);rw [hf];exact Sr<|Dd aS<|Zz<|aM<|Rt<|Qq
 have hq:a.length=b.length:=by have h:=hc1;simp at h;omega
 refine aG<|Sq<|Sr<|Dd aS<|Zz<|aN ?_;refine bJ (σ:=Nat) (fun k=>([(0,.pv (aW a)),(1,.pv (aW b)),(5,iv (k:Int))],[])) (fun k=>k≤a.length∧a.take k=b.take k) (fun k=>a.length - k) 0 ⟨aBX _,rfl⟩ ?_ ?_
 ·exact Wk
 rintro k ⟨hk,hs⟩;refine Sq<|Sr<|Dd aF<|Dd aF<|Dd (mH aO)<|Dd dZ<|Zz ?_;refine Cn ?_ ?_<;>intro hc2
 ·have hlt:k < a.length:=by have:=aBC hc2;omega
  obtain ⟨x,hx⟩:=aZ hlt;obtain ⟨y,hy⟩:=aZ (l:=b) (k:=k) (by omega);have hix:=dI (f:=encStr) hx;have hiy:=dI (f:=encStr) hy;refine aG<|Sq<|aN<|Sq<|bR follows<|Cq aF<|Cq aF<|Cq (GJ bZ)<|Cq (nT aV)<|Cq aF<|Cq aF<|Cq (GJ bZ)<|Cq (nT aV)<|Cq QX<|dG<|Kr ?_;refine Cn ?_ ?_<;>intro hc3
  ·have hne:¬ x=y:=by have h:=hc3;simpa using h
   have hf:decide (a=b)=false:=decide_eq_false fun e=>hne (by rw [e,hy] at hx;cases hx;rfl);rw [hf];exact Sr<|Dd aS<|Zz<|aM<|Rt<|Qq
  have he:x=y:=by have h:=hc3;simpa using h
  refine aG<|Rg<|Dd aF<|Dd oE<|Da ?_;refine⟨k+1,⟨by omega,?_⟩,by omega,Wk⟩;rw [dK hx,dK hy,hs,he]
 have hge:k=a.length:=by have:=aBD hc2;omega
 have ht:decide (a=b)=true:=decide_eq_true (by
  rw [← List.take_length (l:=a),← hge,hs,hge,hq,List.take_length])
 rw [ht];exact bE<|Sr<|Dd aS<|Zz<|aM<|Rt<|Qq
theorem AE (a b:List ByteArray) (H:aA) (ha:a.length < 1000000000) (hb:b.length < 1000000000):aL Tryz.prog 17 [.pv (aW a),.pv (aW b)] H (fun r H'=>r=bv (decide (a=b))∧H'=H):=by refine Pu ?_;exact Bd func17 rfl ntmps17<|Sr<|Dd aS<|Zz<|Sr<|Dd aF<|Dd aF<|Dd (by exact aB rfl rfl call54 rfl (NW a b _ ha hb))<|Dd aS<|Zz<|aM<|Rt<|Qq
def SM (p:ByteArray×ByteArray):Bool:=decide (p.1.size+p.2.size≤600)
def SN (s:ByteArray):Bool:=decide (s.size≤600)
def F1 (x:GOp):Bool:=(decide (x.put.length≤6)&&decide (x.drop.length≤6))&&(x.put.all SM&&x.drop.all SN)
def yI (l:List GOp):Bool:=l.all F1&&decide (l.length≤12)
theorem GC {α:Type} {l:List α} {p:α→Bool} {i:Nat} {x:α} (h:l[i]?=some x) (hp:p x=false):l.all p=false:=by rw [Bool.eq_false_iff];intro ha;rw [List.all_eq_true.1 ha x (aBQ h)] at hp;cases hp
theorem LF {α:Type} {l:List α} {p:α→Bool} (h:∀ i x,i < l.length→l[i]?=some x→p x=true):l.all p=true:=List.all_eq_true.2 fun x hx=>by
 obtain ⟨i,hi⟩:=aB1.1 hx;exact h i x (aBK.1 hi).1 hi
theorem ZK (l:List GOp) (H:aA) (hl:l.length < 1099511627776) (hs:∀ x∈l,x.put.length < 1099511627776∧x.drop.length < 1099511627776∧(∀ p∈x.put,p.1.size < 1099511627776∧p.2.size < 1099511627776)) :
  aL Tryz.prog 11 [.pv (mR l)] H (fun r H'=>r=bv (yI l)∧H'=H):=by
 refine Pu ?_;have hml:(l.map tD).length=l.length:=aBG _;refine Bd func11 rfl ntmps11<|Sr<|Dd aS<|Zz<|Sq<|Sr<|Dd aS<|Zz<|aN ?_;refine bJ (σ:=Nat) (fun i=>([(0,.pv (mR l)),(3,iv (i:Int))],[])) (fun i=>i≤l.length∧∀ j x,j < i→l[j]?=some x→F1 x=true) (fun i=>l.length - i) 0 ⟨aBX _,fun j x hj=>absurd hj (Nat.not_lt_zero _)⟩ ?_ ?_
 ·exact Wk
 rintro i ⟨hi,hall⟩;refine Sq<|Sr<|Dd aF<|Dd aF<|Dd (mH oA)<|Dd dZ<|Zz ?_;refine Cn ?_ ?_<;>intro hc1
 ·have hlt:i < l.length:=by have:=aBC hc1;omega
  obtain ⟨x,hx⟩:=aZ hlt;have hix:=dI (f:=tD) hx;obtain ⟨s1,s2,s3⟩:=hs x (aBQ hx);have hmp:(x.put.map pX).length=x.put.length:=aBG _;have hmd:(x.drop.map encStr).length=x.drop.length:=aBG _;have bad:F1 x=false→yI l=false:=fun h=>by rw [yI,GC hx h];rfl
  have hO:F1 x=((decide (x.put.length≤6)&&decide (x.drop.length≤6))&&(x.put.all SM&&x.drop.all SN)):=rfl;refine aG<|Sq<|aN<|Sq<|Sq ?_;refine dL (t:=27) (n:=17) (X:=decide ((6:Int) < ((x.put.map pX).length:Int))||decide ((6:Int) < ((x.drop.map encStr).length:Int))) ?_ ?_
  ·all_goals refine Dd aF ?_
   all_goals refine Dd aF<|Dd (by exact bN rfl G6 rfl rfl (by omega) (by exact aBR _) hix rfl)<|Dd (X2 rJ)<|Dd (nT lQ)<|Dd (mH kO)<|Dd DU<|Dm ?_
   all_goals refine Sp 19 (fun h19=>?_) fun h19=>?_
   all_goals try contradiction
   all_goals first|refine Fo<|Fo<|Fo<|Fo<|Fo<|Fo<|Fo ?_|refine On aF<|On aF<|On (by exact bN rfl G6 rfl rfl (by omega) (by exact aBR _) hix rfl)<|On (X2 xH)<|On (nT cM)<|On (mH aO)<|On DU ?_
   all_goals refine Dd iM<|Zz ?_
   all_goals(exact⟨⟨_,rfl,by(rw [h19];rfl)⟩,rfl,rfl,rfl⟩)
  refine Cn ?_ ?_<;>intro hc2
  ·have hq:6 < x.put.length∨6 < x.drop.length:=by have h:=hc2;rw [Bool.or_eq_true,aBN,aBN] at h;omega
   have hf:F1 x=false:=by
    rw [hO];rcases hq with hq|hq
    ·rw [decide_eq_false (show ¬ x.put.length≤6 by omega)];rfl
    rw [decide_eq_false (show ¬ x.drop.length≤6 by omega),Bool.and_false];rfl
   rw [bad hf];exact Sr<|Dd aS<|Zz<|aM<|Rt<|Qq
  have hq:x.put.length≤6∧x.drop.length≤6:=by have h:=hc2;rw [aB2,aBO,aBO] at h;omega
  rw [decide_eq_true hq.1,decide_eq_true hq.2] at hO;refine aG<|Sq<|Sr<|Dd aS<|Zz<|aN ?_;refine bJ (σ:=Nat) (fun k=>([(0,.pv (mR l)),(3,iv (i:Int)),(4,iv (k:Int))],[])) (fun k=>k≤x.put.length∧∀ j p,j < k→x.put[j]?=some p→SM p=true) (fun k=>x.put.length - k) 0 ⟨aBX _,fun j p hj=>absurd hj (Nat.not_lt_zero _)⟩ ?_ ?_
  ·exact Wk
  rintro k ⟨hk,hpk⟩;refine Sq<|Sr<|Dd aF<|Dd aF<|Dd aF<|Dd (by exact bN rfl G6 rfl rfl (by omega) (by exact aBR _) hix rfl)<|Dd (X2 rJ)<|Dd (nT lQ)<|Dd (mH kO)<|Dd dZ<|Zz ?_;refine Cn ?_ ?_<;>intro hc3
  ·have hltk:k < x.put.length:=by have:=aBC hc3;omega
   obtain ⟨p,hp⟩:=aZ hltk;have hip:=dI (f:=pX) hp;obtain ⟨t1,t2⟩:=s3 p (aBQ hp);refine aG<|Sq<|aN<|Sq<|bR follows<|Cq aF<|Cq aF<|Cq (by exact bN rfl G6 rfl rfl (by omega) (by exact aBR _) hix rfl)<|Cq (X2 rJ)<|Cq (nT lQ)<|Cq aF<|Cq (by exact bN rfl NP rfl rfl (by omega) (by exact aBR _) hip rfl)<|Cq (by exact fV rfl gT sizeOf9 rfl rfl (by omega) (by exact aBR _) (by decide) rfl)<|Cq (nT aV)<|Cq (CO aI)<|Cq aF<|Cq aF<|Cq (by exact bN rfl G6 rfl rfl (by omega) (by exact aBR _) hix rfl)<|Cq (X2 rJ)<|Cq (nT lQ)<|Cq aF<|Cq (by exact bN rfl NP rfl rfl (by omega) (by exact aBR _) hip rfl)<|Cq (by exact fV rfl gT sizeOf9 rfl rfl (by omega) (by exact aBR _) (by decide) rfl)<|Cq (nT aV)<|Cq (CO aI) ?_;refine Cq oE<|Cq DU<|dG<|Kr ?_;refine Cn ?_ ?_<;>intro hc4
   ·have hq2:¬ p.1.size+p.2.size≤600:=by have:=aBC hc4;omega
    have hf:F1 x=false:=by rw [hO,GC hp (show SM p=false from decide_eq_false hq2)];rfl
    rw [bad hf];exact Sr<|Dd aS<|Zz<|aM<|Rt<|Qq
   have hq2:p.1.size+p.2.size≤600:=by have:=aBD hc4;omega
   refine aG<|Rg<|Dd aF<|Dd oE<|Da ?_;refine⟨k+1,⟨by omega,fun j q hj hq=>?_⟩,by omega,Wk⟩;rcases Nat.lt_succ_iff_lt_or_eq.1 hj with h1|rfl
   ·exact hpk j q h1 hq
   rw [hp] at hq;cases hq;exact decide_eq_true hq2
  have hgek:k=x.put.length:=by have:=aBD hc3;omega
  have hP:x.put.all SM=true:=LF fun j p hj hp=>hpk j p (by omega) hp;rw [hP] at hO;refine bE<|Sr<|Dd aS<|Zz<|aN ?_;refine bJ (σ:=Nat) (fun k=>([(0,.pv (mR l)),(3,iv (i:Int)),(5,iv (k:Int))],[])) (fun k=>k≤x.drop.length∧∀ j p,j < k→x.drop[j]?=some p→SN p=true) (fun k=>x.drop.length - k) 0 ⟨aBX _,fun j p hj=>absurd hj (Nat.not_lt_zero _)⟩ ?_ ?_
  ·exact Wk
  rintro m ⟨hm,hdk⟩;refine Sq<|Sr<|Dd aF<|Dd aF<|Dd aF<|Dd (by exact bN rfl G6 rfl rfl (by omega) (by exact aBR _) hix rfl)<|Dd (X2 xH)<|Dd (nT cM)<|Dd (mH aO)<|Dd dZ<|Zz ?_;refine Cn ?_ ?_<;>intro hc5
  ·have hltm:m < x.drop.length:=by have:=aBC hc5;omega
   obtain ⟨s,hs2⟩:=aZ hltm;have hisd:=dI (f:=encStr) hs2;refine aG<|Sq<|aN<|Sr<|Dd aF<|Dd aF<|Dd (by exact bN rfl G6 rfl rfl (by omega) (by exact aBR _) hix rfl)<|Dd (X2 xH)<|Dd (nT cM)<|Dd aF<|Dd (by exact bN rfl bZ rfl rfl (by omega) (by exact aBR _) hisd rfl)<|Dd (nT aV)<|Dd (CO aI)<|Dd DU<|Zz ?_;refine Cn ?_ ?_<;>intro hc6
   ·have hq2:¬ s.size≤600:=by have:=aBC hc6;omega
    have hf:F1 x=false:=by rw [hO,GC hs2 (show SN s=false from decide_eq_false hq2)];rfl
    rw [bad hf];exact Sr<|Dd aS<|Zz<|aM<|Rt<|Qq
   have hq2:s.size≤600:=by have:=aBD hc6;omega
   refine aG<|Rg<|Dd aF<|Dd oE<|Da ?_;refine⟨m+1,⟨by omega,fun j q hj hq=>?_⟩,by omega,Wk⟩;rcases Nat.lt_succ_iff_lt_or_eq.1 hj with h1|rfl
   ·exact hdk j q h1 hq
   rw [hs2] at hq;cases hq;exact decide_eq_true hq2
  have hgem:m=x.drop.length:=by have:=aBD hc5;omega
  have hDD:x.drop.all SN=true:=LF fun j p hj hp=>hdk j p (by omega) hp;rw [hDD] at hO;refine bE<|Rg<|Dd aF<|Dd oE<|Da ?_;refine⟨i+1,⟨by omega,fun j y hj hy=>?_⟩,by omega,Wk⟩;rcases Nat.lt_succ_iff_lt_or_eq.1 hj with h1|rfl
  ·exact hall j y h1 hy
  rw [hx] at hy;cases hy;exact hO
 have hge:i=l.length:=by have:=aBD hc1;omega
 have hA:l.all F1=true:=LF fun j x hj hx=>hall j x (by omega) hx;have hG:yI l=decide (((l.map tD).length:Int)≤12):=by
  rw [yI,hA,Bool.true_and,hml];exact decide_eq_decide.2 (by omega)
 rw [hG];exact bE<|Sr<|Dd aF<|Dd (mH oA)<|Dd le'<|Dd aS<|Zz<|aM<|Rt<|Qq
end Go.Proofs.YtmkgeogoojcciaaGreatDoor
