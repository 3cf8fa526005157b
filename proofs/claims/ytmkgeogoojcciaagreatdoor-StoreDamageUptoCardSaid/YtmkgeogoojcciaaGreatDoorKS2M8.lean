/-
  Parts of the proof: rules of an abstract program logic, contracts of functions, plain laws. Conditions: each theorem's own.
-/
import Derived.Test.YtmkgeogoojcciaaGreatDoorKS2M7
set_option linter.unusedVariables false
set_option linter.unusedSimpArgs false
set_option maxRecDepth 100000
set_option maxHeartbeats 8000000
namespace Go.Proofs
theorem XZ:type_of% Tryz.call24:=Tryz.call24
theorem XX:type_of% Tryz.call51:=Tryz.call51
theorem XW:type_of% Tryz.call52:=Tryz.call52
theorem Q4:type_of% Tryz.func14:=Tryz.func14
theorem xO:type_of% Tryz.isAgg35:=Tryz.isAgg35
theorem MS:type_of% Tryz.ntmps14:=Tryz.ntmps14
theorem eR:type_of% Tryz.underlying25:=Tryz.underlying25
theorem lX:type_of% Tryz.underlying66:=Tryz.underlying66
end Go.Proofs
namespace Go.Proofs.YtmkgeogoojcciaaGreatDoor
open Go.Proofs.Tryz
open Go.Abs Go.Lib
def T3 (i:Nat):Nat:=if i=950 then 1101 else if i=1101 then 950 else i
theorem RJ (i:Nat):T3 (T3 i)=i:=by
 unfold T3
 repeat' split
 all_goals omega
theorem A7 (ρ:Nat→Nat) (l:bT) (c:Nat):iG ρ (bJ l c)=bJ l c:=by
 show (⟨0,0,c,(e8 fF (bQ l)).map (gV ρ)⟩:Ob)=⟨0,0,c,e8 fF (bQ l)⟩;have:∀ r∈e8 fF (bQ l),gV ρ r=r:=by
  intro r hr;obtain ⟨p,hp,rfl⟩:=List.mem_map.1 hr;obtain ⟨q,_,rfl⟩:=List.mem_map.1 hp;rfl
 rw [List.map_congr_left this,List.map_id']
theorem N3 (l:bT) (c:Nat):iU T3 [(950,bJ l c)]=[(1101,bJ l c)]:=by show [(T3 950,iG T3 (bJ l c))]=_;rw [A7];rfl
theorem RH (l:bT) (c:Nat) (P:List ByteArray) (hst:dQ l c) (hl:l.length < 1099511627776) (hP:P.length < 1099511627776) (hsz:(bB l P).length < 35184372088832) (H:aA) (h:H.get 1101=some (bJ l c)) :
  aJ Tryz.prog 50 [.mp 1101 0,.pv (aX P)] H (fun r H'=>r=sv (ofL (bB l P))∧H'=H):=by
 have h1:=aJ.ren (ρ:=T3) RJ (HV l c P hst hl hP hsz) (args':=[.mp 1101 0,.pv (aX P)]) (H':=[(1101,bJ l c)]) (r':=sv (ofL (bB l P))) (H1':=[(1101,bJ l c)]) rfl (N3 l c) rfl (N3 l c);refine aJ.frameS h1 (fun j o ho=>?_) (bE.ofL ⟨aS _ _ _,trivial⟩) (by simp;rfl);simp only [aA.get] at ho;cases e:Nat.beq 1101 j with
 | true =>
  rw [e] at ho;cases ho;rw [← Nat.eq_of_beq_eq_true e];exact h
 | false=>rw [e] at ho;cases ho
theorem NZ {d:DSt} {N m:Nat} (h:DInv d N m) (k a n:Nat) (l:bT) (c:Nat) (hk:k < 4000) (hkN:2*k+2≤N) (ha:a < 2) (hn:n≤k) (hm:m≤10) (hst:dQ l c) (hl:l.length < 1099511627776) (hsz:(bB l []).length < 100000000000) :
  aJ Tryz.prog 21 [.ref 1100 0 0 0] (sH d (b4 k a n false) (bJ l c)) (fun r H'=>(k < cN (b7 l)∧r=iv 21∧H'=sH d (b4 k a n false) (bJ l c))∨(cN (b7 l)≤k∧r=iv (H5 d k a (b7 l)).1∧∃ a' n',a' < 2∧n'≤k∧((H5 d k a (b7 l)).1=0→a'=0∧n'=cN (b7 l))∧H'=sH (H5 d k a (b7 l)).2 (b4 k a' n' (!decide ((H5 d k a (b7 l)).1=0))) (bJ l c))):=by
 have htx:=fun H hH=>RH l c [] hst hl (by decide) (by omega) H hH;have hml:(bQ l).length=l.length:=YH _;have hW:b7 l=if l.length=0 then[] else bB l []:=rfl
 have hwl:(b7 l).length < 100000000000:=by
  rw [hW]
  split
  ·decide
  exact hsz
 refine Bd func21 rfl ntmps21<|Sr<|Dd aR<|Zz<|Sq<|aO<|Sr<|Dd aF<|Dd (by exact cJ rfl eR rfl rfl rfl rfl)<|Da ?_;refine Cn ?_ ?_<;>intro hc1
 ·cases hc1
 refine Sr<|Dd aF<|Dd eX<|Dd (dP jF)<|Dd (eF dC)<|Da ?_;refine Cn ?_ ?_<;>intro hc2
 ·cases hc2
 refine aH<|Sr<|Da ?_;refine nH (fun(_:Unit)=>([(0,.ref 1100 0 0 0),(2,iv 0),(3,sv (ofL (b7 l)))],sH d (b4 k a n false) (bJ l c))) (fun _=>True) ?_ ?_
 ·refine Sr<|Dd aF<|Dd eX<|Dd (dP qN)<|Dd (eF bS)<|Dd (by exact uL (κ:=fF) (l:=bQ l) rfl aU rfl rfl rfl rfl)<|Dd yR<|Zz ?_;refine Cn ?_ ?_<;>intro hc3
  ·have hq:¬ l.length=0:=by have:=YD hc3;omega
   rw [hW,YF hq];refine Rg<|Dd aF<|Dd eX<|Dd (dP qN)<|Dd (eF bS)<|Dd (by exact aB rfl rfl sS rfl (htx _ rfl))<|Da ?_;exact⟨(),trivial,(bY.wk (Ea<|Eb<|Eb<|trivial) (Hc (aE _ _ rfl rfl rfl)<|Hc (aC _ _)<|Hc (aL _ _ _)<|Hc (aI _ _)<|Hc (bC rfl rfl)<|Hc (aS _ _ _)<|trivial) ⟨rfl,rfl,rfl,rfl,rfl,rfl,trivial⟩)⟩
  have hq:l.length=0:=by have:=YE hc3;omega
  rw [hW,YG hq];refine aH ?_;exact⟨(),trivial,(bY.wk (Ea<|Eb<|Eb<|trivial) (Hc (aE _ _ rfl rfl rfl)<|Hc (aC _ _)<|Hc (aL _ _ _)<|Hc (aI _ _)<|Hc (bC rfl rfl)<|Hc (aS _ _ _)<|trivial) ⟨rfl,rfl,rfl,rfl,rfl,rfl,trivial⟩)⟩
 rintro _ -;obtain ⟨w,hw⟩:∃ w,w=b7 l:=⟨_,rfl⟩;rw [← hw] at hwl ⊢;clear hW htx;have hcn:=fun H=>xE w (by omega) H;refine Sq<|Sq<|bO follows<|Cq aF<|Cq (by exact aB rfl rfl XX rfl (hcn _))<|Cq aF<|Cq eX<|Cq (dP qO)<|Cq (eF aT)<|Cq yR<|cU<|Kr ?_;refine Cn ?_ ?_<;>intro hc4
 ·have hq:k < cN w:=by have:=YD hc4;omega
  refine Sr<|Dd aR<|Zz<|aM ?_;refine a8 (H':=(sH d (b4 k a n false) (bJ l c))) (.inr rfl) rfl (aG rfl) (Fin.wk (by(simp;done)) (Hc (aE _ _ rfl rfl rfl)<|Hc (aC _ _)<|Hc (aL _ _ _)<|Hc (aI _ _)<|Hc (bC rfl rfl)<|Hc (aS _ _ _)<|trivial) ⟨rfl,rfl,rfl,rfl,rfl,rfl,trivial⟩) ?_;exact .inl ⟨hq,rfl,rfl⟩
 have hq:cN w≤k:=by have:=YE hc4;omega
 refine aH<|aO ?_;refine MH (fun(d1:DSt) (a1 n1 m1:Nat)=>([(0,.ref 1100 0 0 0),(3,sv (ofL w))],sH d1 (b4 k a1 n1 false) (bJ l c))) (fun d1 a1 n1 m1=>DInv d1 N m1∧a1 < 2∧n1≤k∧(m1≤10∨(a1=1∧m1≤10010))∧H5 d k a w=H5 d1 k a1 w) (fun d1 a1 n1 m1=>1 - a1) d a n m ⟨h,ha,hn,.inl hm,rfl⟩ ?_ ?_
 ·exact(bY.wk (Ea<|Eb<|trivial) (Hc (aE _ _ rfl rfl rfl)<|Hc (aC _ _)<|Hc (aL _ _ _)<|Hc (aI _ _)<|Hc (bC rfl rfl)<|Hc (aS _ _ _)<|trivial) ⟨rfl,rfl,rfl,rfl,rfl,rfl,trivial⟩)
 rintro d1 a1 n1 m1 ⟨hi,ha1,hn1,hm1,hsc⟩;rw [hsc];have hwl2:w.length < 100000000:=by rw [cN] at hq;omega
 have hadd:=QL hi k a1 n1 (1 - a1) 0 false l c w hwl2 (by omega) (by omega) (by omega) (by omega);have hai:=QM hi k (1 - a1) 0 w (by omega);rw [YZ] at hadd;obtain ⟨x,hx⟩:∃ x,x=iX d1 k (1 - a1) 0 w:=⟨_,rfl⟩;rw [← hx] at hadd hai;have hR:CS d1 k a1 w=if x.1=0 then iT x.2 (2+a1*k+0) (zR (k - 0))else x:=by rw [CS,← hx]
 have hS:H5 d1 k a1 w=if a1=1 then(if(CS d1 k a1 w).1=0 then iT (CS d1 k a1 w).2 (2+0*k+cN w) (zR (k - cN w))else CS d1 k a1 w)else if(CS d1 k a1 w).1=0 then H5 (CS d1 k a1 w).2 k 1 w else CS d1 k a1 w:=by
  rcases(show a1=0∨a1=1 by omega)with e|e<;>subst e<;>rfl
 have hcl:=ES hai k (1 - a1) (cN w) a1 0 false l c (by omega) ha1 (YY _) (by omega);have hyi:=j8 hai (2+a1*k+0) (zR (k - 0)) (by rw [List.length_replicate];omega);rw [List.length_replicate] at hyi;obtain ⟨y,hy⟩:∃ y,y=iT x.2 (2+a1*k+0) (zR (k - 0)):=⟨_,rfl⟩;rw [← hy] at hcl hyi hR;have hcl2:=ES hyi k (1 - a1) (cN w) 0 (cN w) false l c (by omega) (by omega) hq (by omega);obtain ⟨z,hz⟩:∃ z,z=iT y.2 (2+0*k+cN w) (zR (k - cN w)):=⟨_,rfl⟩;rw [← hz] at hcl2;clear hx hsc;refine aO<|Sr<|Dd aF<|Dd eX<|Dd (dP kZ)<|Dd (dP qQ)<|Dd (eF aT)<|Dd aR<|Zz<|Sr<|Dd aF<|Dd aF<|Dd (by exact dS rfl rfl rfl (show IntKind.i64.wrap (1 - (a1:Int))=((1 - a1:Nat):Int)by rw [iB (by omega) (by omega)];omega))<|Dd (MX MA)<|Dd aF<|Dd (by exact aB rfl rfl XW rfl (hadd))<|Dd aR<|Zz<|Sq<|Sr<|Dd aF<|Dd gH<|Zz ?_;refine Cn ?_ ?_<;>intro hc5
 ·have e0:x.1=0:=YD hc5;rw [YG e0] at hR ⊢;rw [hR] at hS;refine Rg<|Dd aF<|Dd aF<|Dd (by exact aB rfl rfl call56 rfl (hcl))<|Dd aR<|Zz<|Sq<|Sr<|Dd aF<|Dd tF<|Zz ?_;refine Cn ?_ ?_<;>intro hc6
  ·have e1:¬ y.1=0:=by have h:=hc6;simpa using h
   have hS2:H5 d1 k a1 w=y:=by
    rw [hS,YF e1,YF e1,ite_self]
   rw [hS2];refine Sr<|Dd aF<|Dd aR<|Zz<|aM ?_;refine a8 (H':=(sH y.2 (b4 k (1 - a1) (cN w) (false||!decide (y.1=0))) (bJ l c))) (.inr rfl) rfl (aG rfl) (Fin.wk (by(simp;done)) (Hc (aE _ _ rfl rfl rfl)<|Hc (aC _ _)<|Hc (aL _ _ _)<|Hc (aI _ _)<|Hc (bC rfl rfl)<|Hc (aS _ _ _)<|trivial) ⟨rfl,rfl,rfl,rfl,rfl,rfl,trivial⟩) ?_;exact .inr ⟨hq,rfl,1 - a1,cN w,by omega,hq,fun h=>absurd h e1,rfl⟩
  have e1:y.1=0:=by have h:=hc6;simpa using h
  rw [YG e1,YG e1,← hz] at hS;have hb:(false||!decide (y.1=0))=false:=by rw [e1];rfl
  rw [hb];refine aH<|Sr<|Dd aF<|Dd gH<|Zz ?_;refine Cn ?_ ?_<;>intro hc7
  ·have e2:a1=1:=by have:=YD hc7;omega
   rw [YG e2] at hS;rw [hS];refine Sr<|Dd aF<|Dd aF<|Dd eX<|Dd (dP kZ)<|Dd (dP lS)<|Dd (eF aT)<|Dd (by exact aB rfl rfl call56 rfl (hcl2))<|Dd aR<|Zz<|aM ?_;refine a8 (H':=(sH z.2 (b4 k (1 - a1) (cN w) (false||!decide (z.1=0))) (bJ l c))) (.inr rfl) rfl (aG rfl) (Fin.wk (by(simp;done)) (Hc (aE _ _ rfl rfl rfl)<|Hc (aC _ _)<|Hc (aL _ _ _)<|Hc (aI _ _)<|Hc (bC rfl rfl)<|Hc (aS _ _ _)<|trivial) ⟨rfl,rfl,rfl,rfl,rfl,rfl,trivial⟩) ?_;exact .inr ⟨hq,rfl,1 - a1,cN w,by omega,hq,fun _=>⟨by omega,rfl⟩,rfl⟩
  have e2:¬ a1=1:=by have:=YE hc7;omega
  rw [YF e2] at hS;have e3:a1=0:=by omega
  subst e3;refine aH ?_;exact⟨y.2,1,cN w,_,⟨hyi,by omega,hq,.inr ⟨rfl,by omega⟩,hS⟩,by omega,(bY.wk (Ea<|Eb<|trivial) (Hc (aE _ _ rfl rfl rfl)<|Hc (aC _ _)<|Hc (aL _ _ _)<|Hc (aI _ _)<|Hc (bC rfl rfl)<|Hc (aS _ _ _)<|trivial) ⟨rfl,rfl,rfl,rfl,rfl,rfl,trivial⟩)⟩
 have e0:¬ x.1=0:=YE hc5;rw [YF e0] at hR ⊢;rw [hR] at hS;have hS2:H5 d1 k a1 w=x:=by
  rw [hS,YF e0,YF e0,ite_self]
 rw [hS2];have hd0:decide (x.1=0)=false:=decide_eq_false e0;refine aH<|Sq<|Sr<|Dd aF<|Dd tF<|Zz ?_;refine Cn ?_ ?_<;>intro hc8
 ·refine Sr<|Dd aF<|Dd aR<|Zz<|aM ?_;refine a8 (H':=(sH x.2 (b4 k a1 n1 (!decide (x.1=0))) (bJ l c))) (.inr rfl) rfl (aG rfl) (by rw [hd0];exact(Fin.wk (by(simp;done)) (Hc (aE _ _ rfl rfl rfl)<|Hc (aC _ _)<|Hc (aL _ _ _)<|Hc (aI _ _)<|Hc (bC rfl rfl)<|Hc (aS _ _ _)<|trivial) ⟨rfl,rfl,rfl,rfl,rfl,rfl,trivial⟩)) ?_;exact .inr ⟨hq,rfl,a1,n1,ha1,hn1,fun h=>absurd h e0,rfl⟩
 (have h:=hc8;simp [e0] at h)
end Go.Proofs.YtmkgeogoojcciaaGreatDoor
namespace Go.Proofs.YtmkgeogoojcciaaGreatDoor
open Go.Proofs.Tryz
open Go.Abs
theorem HY {F:FuncId} {caps:List AV} {L:List ByteArray} (hL:L.length < 1099511627776) (hE:∀ (args:Array Value) (w:World),(callFunc F args).run Tryz.prog w=.ok (.enter F args) w) (K:aA) (hS:xQ F caps (fun M=>M.Perm L) K) (k2:K.get 942=none) (k4:K.get 944=none) (k5:K.get 945=none) (k6:K.get 946=none) (hc:bE K) (hcap:Clo K (.clo F caps)) :
  aJ Tryz.prog 48 [.clo F caps] K (fun r H'=>r=.osl 945 L.length 0 L.length∧H'=(945,⟨L.length,1,9,dF (cI L)⟩)::K):=by
 refine Bd func48 rfl ntmps48<|Sr<|Dd aR<|Zz<|Sr<|Dm ?_;refine iD rfl rfl (aB rfl rfl call95 rfl (ER hE K hS k2 k4 k5 k6 hc hcap)) ?_;rintro r H' ⟨M,hperm,rfl,rfl⟩;have hMl:M.length < 4611686018427387904:=by rw [hperm.length_eq];omega
 have hSo:=vQ hperm;have hln:M.length=L.length:=hperm.length_eq;refine Dd aR<|Zz<|Sr<|Dd aF<|Dd (by exact aB rfl rfl call96 rfl (zD M rfl rfl hMl))<|Zz<|Sr<|Dd aF<|Dd aR<|Zz<|aM ?_;refine a8 (H':=((945,⟨M.length,1,9,dF (cI M)⟩)::K)) (.inr rfl) rfl (aG rfl) (Fin.get' (fun j=>gR _ _ _ _ j)) ?_;exact⟨by rw [hln],by rw [hSo,hln]⟩
end Go.Proofs.YtmkgeogoojcciaaGreatDoor
namespace Go.Proofs.YtmkgeogoojcciaaGreatDoor
open Go.Proofs.Tryz
open Go.Abs Go.Lib
structure OnD (d:DSt) (n:Nat):Prop where
 inv:DInv d n 0
 off:d.off=false
structure xU (d:DSt) (n:Nat):Prop where
 inv:DInv d n 0
 off:d.off=true
 na:∀ a w b,d.arm≠.on a w b
theorem OnD.q {d:DSt} {n:Nat} (h:OnD d n):d.q=[]:=List.length_eq_zero_iff.1 (Nat.le_zero.1 h.inv.q)
theorem Calm.on {d:DSt} {n:Nat} (h:Calm d n):OnD d n:=⟨h.inv,h.off⟩
def TC (cells:List ByteArray) (p:Nat) (L c':List ByteArray):Prop:=∃ m,m≤L.length∧(c'=j9 cells p (L.take m)∨∃ t j,L[m]?=some t∧1≤j∧j≤64∧c'=(j9 cells p (L.take m)).set (p+m) (nT (t.extract 0 j) ((cells[p+m]?).getD ⟨#[]⟩)))
theorem IB:∀ (L:List ByteArray) (p:Nat),(q0 p L).length=L.length
 | [],_=>rfl
 | t::r,p=>by rw [q0,YJ,IB r,YJ]
theorem DJ:∀ (L:List ByteArray) (p m:Nat),(q0 p L).take m=q0 p (L.take m)
 | [],p,m=>by rw [q0,List.take_nil,List.take_nil];rfl
 | t::r,p,0=>rfl
 | t::r,p,m+1=>by rw [q0,List.take_succ_cons,DJ r,List.take_succ_cons,q0]
theorem IC:∀ (L:List ByteArray) (p m:Nat),(q0 p L)[m]?=(L[m]?).map fun t=>(p+m,t)
 | [],p,m=>rfl
 | t::r,p,0=>rfl
 | t::r,p,m+1=>by
  rw [q0,List.getElem?_cons_succ,List.getElem?_cons_succ,IC r];congr 1;funext x;rw [Nat.add_assoc,Nat.add_comm 1 m]
theorem AG {cells:List ByteArray} {s:DSt} {place:Nat} {L:List ByteArray} {i:Nat} (hi:i≤L.length) (hq:s.q=q0 place (L.take i)) (hc:s.cells=cells) (w b:Int):TC cells place L (mO s w b):=by
 have hqm:∀ m,m≤i→s.q.take m=q0 place (L.take m):=fun m hm=>by rw [hq,DJ,List.take_take,Nat.min_eq_left hm]
 have hql:s.q.length=i:=by rw [hq,IB,YV];omega
 obtain ⟨m,hM⟩:∃ m,m=w7 s w:=⟨_,rfl⟩;have hmi:m≤i:=by rw [hM,w7];omega
 rw [mO,← hM,hqm m hmi,u7,hc];refine⟨m,by omega,?_⟩;cases e:s.q[m]? with
 | none=>exact .inl rfl
 | some p =>
  rw [hq,IC] at e;rw [C1];by_cases hb:0 < b
  ·rw [YG hb];by_cases hmi2:m < i
   ·rw [List.getElem?_take_of_lt hmi2] at e;cases e2:L[m]? with
    | none=>rw [e2] at e;cases e
    | some t =>
     rw [e2] at e;cases e;refine .inr ⟨t,(min b 64).toNat,rfl,by omega,by omega,?_⟩;show (j9 cells place (List.take m L)).set (place+m) (nT (t.extract 0 (min b 64).toNat) (((j9 cells place (List.take m L))[place+m]?).getD ⟨#[]⟩))=_;rw [iH,YV,YF (by omega)]
   rw [List.getElem?_eq_none (by rw [YV];omega)] at e;cases e
  rw [YF hb];exact .inl rfl
theorem AH {s:DSt} {n m:Nat} (h:DInv s n m) (ho:s.off=false) (w b:Int):xU (j7 s w b) n:=by have hi:=rX h w b;rw [j7,YF (by rw [ho];decide)] at hi ⊢;exact⟨⟨hi.ok,hi.arm,hi.n,YY _⟩,rfl,fun a w b e=>(AI e).elim⟩
theorem EO {s:DSt} {n m:Nat} (h:DInv s n m) (ho:s.off=false):(eB s=0∧(dI s).off=false∧(dI s).q=s.q∧(dI s).cells=s.cells)∨(eB s=22∧∃ w b,dI s=j7 s w b):=by
 unfold eB dI;cases e:s.arm with
 | never=>exact .inl ⟨rfl,ho,rfl,rfl⟩
 | off a w b=>exact .inl ⟨rfl,ho,rfl,rfl⟩
 | on a w b =>
  by_cases ha:0 < a
  ·refine .inl ?_;simp only [YG ha];exact⟨trivial,ho,trivial,trivial⟩
  refine .inr ?_;simp only [YF ha];exact⟨trivial,w,b,rfl⟩
theorem M9 {d:DSt} {n:Nat} (h:OnD d n) {place:Nat} {L:List ByteArray} (hp:place+L.length≤n) (hs:∀ t∈L,t.size=64) (hm:L.length≤1048575):∀ i,i≤L.length →
  ((mT d place L i).1=0∧(mT d place L i).2.off=false∧(mT d place L i).2.q=q0 place (L.take i)∧(mT d place L i).2.cells=d.cells)∨((mT d place L i).1=22∧xU (mT d place L i).2 n∧TC d.cells place L (mT d place L i).2.cells)
 | 0,_=>.inl ⟨rfl,h.off,by rw [List.take_zero,q0];exact h.q,rfl⟩
 | i+1,hi=>by
  have hinv:=oV h.inv place L i (by omega);rcases M9 h hp hs hm i (by omega)with⟨h1,h2,h3,h4⟩|⟨h1,h2,h3⟩
  ·obtain ⟨t,ht⟩:=aZ (l:=L) (k:=i) (by omega);have hz:=hs t (YR ht);have hD:L.getD i sNil=t:=by rw [List.getD_eq_getElem?_getD,ht];rfl
   have hq:q0 place (L.take (i+1))=q0 place (L.take i)++[(place+i,t)]:=by
    rw [dB ht,A8,YV,Nat.min_eq_left (by omega)];rfl
   obtain ⟨s,hS⟩:∃ s,s=(mT d place L i).2:=⟨_,rfl⟩;rw [← hS] at h2 h3 h4 hinv;have sc:eL s ((place+i:Nat):Int)=true:=by
    rw [fI];exact decide_eq_true (by have:=hinv.n;omega)
   have wi:=zY hinv (by omega) ((place+i:Nat):Int) t;have w1:gS s ((place+i:Nat):Int) t=eB (i8 s (place+i) t):=by rw [gS,h2,YF (by decide),sc,decide_eq_true hz,YG (show (true&&true)=true from rfl),YS]
   have w2:iM s ((place+i:Nat):Int) t=dI (i8 s (place+i) t):=by rw [iM,h2,YF (by decide),sc,decide_eq_true hz,YG (show (true&&true)=true from rfl),YS]
   rw [mT,YG h1,hD,hq,← hS,w1,w2];have hqS:(i8 s (place+i) t).q=q0 place (L.take (i+1)):=by
    rw [hq,← h3];rfl
   have hok:DInv (i8 s (place+i) t) n (0+i+1):=⟨sX hinv.ok (by have:=hinv.n;omega) hz (by have:=hinv.q;omega),hinv.arm,hinv.n,by show (s.q++[(place+i,t)]).length≤_;rw [YI,List.length_singleton];have:=hinv.q;omega⟩;rcases EO hok h2 with⟨c1,c2,c3,c4⟩|⟨c1,w,b,c2⟩
   ·exact .inl ⟨c1,c2,by rw [c3,hqS,hq],by rw [c4];exact h4⟩
   refine .inr ⟨c1,?_,?_⟩
   ·rw [c2];exact AH hok h2 w b
   rw [c2,j7,YF (by show ¬ s.off=true;rw [h2];decide)];exact AG hi hqS h4 w b
  rw [mT,YF (by rw [h1];decide)];exact .inr ⟨h1,h2,h3⟩
theorem NA {d:DSt} {n:Nat} (h:OnD d n) {place:Nat} {L:List ByteArray} (hp:place+L.length≤n) (hs:∀ t∈L,t.size=64) (hm:L.length≤1048575) :
  ((iT d place L).1=0∧OnD (iT d place L).2 n∧(iT d place L).2.cells=j9 d.cells place L)∨((iT d place L).1=22∧xU (iT d place L).2 n∧TC d.cells place L (iT d place L).2.cells):=by
 have hi:=j8 h.inv place L (by omega);have hk:=oV h.inv place L L.length (by omega);rcases M9 h hp hs hm L.length (YN _)with⟨h1,h2,h3,h4⟩|⟨h1,h2,h3⟩
 ·rw [List.take_length] at h3;rw [iT,YG h1] at hi ⊢;obtain ⟨s,hS⟩:∃ s,s=(mT d place L L.length).2:=⟨_,rfl⟩;rw [← hS] at h2 h3 h4 hk hi ⊢;have e1:lT s=eB s:=by rw [lT,h2,YF (by decide)]
  rcases EO hk h2 with⟨c1,c2,c3,c4⟩|⟨c1,w,b,c2⟩
  ·have e2:iN s=tT (dI s):=by rw [iN,h2,YF (by decide),YG c1]
   rw [e2] at hi;refine .inl ⟨by rw [e1];exact c1,?_,?_⟩
   ·show OnD (iN s) n;rw [e2];exact⟨⟨hi.ok,hi.arm,hi.n,YY _⟩,c2⟩
   show (iN s).cells=_;rw [e2];show cF (dI s).cells (dI s).q=_;rw [c3,c4,h3,h4,u7]
  have e2:iN s=j7 s w b:=by rw [iN,h2,YF (by decide),YF (by rw [c1];decide),c2]
  refine .inr ⟨by rw [e1];exact c1,?_,?_⟩
  ·show xU (iN s) n;rw [e2];exact AH hk h2 w b
  show TC _ _ _ (iN s).cells;rw [e2,j7,YF (by rw [h2];decide)];exact AG (YN _) (by rw [List.take_length];exact h3) h4 w b
 rw [iT,YF (by rw [h1];decide)];exact .inr ⟨h1,h2,h3⟩
abbrev VB (P:List ByteArray):Ob:=bx 1 31 [.pv (aX P)]
theorem y7 (P:List ByteArray) (H:aA) (h1:H.get 951=none) :
  aJ Tryz.prog 49 [.pv (aX P)] H (fun r H'=>r=.clo 97 [.ref 951 0 0 0]∧H'=(951,VB P)::H):=by
 refine Bd func49 rfl ntmps49<|Sr<|Dd (by exact f7 (id:=951) rfl rfl rfl rfl h1)<|Dd aR<|Zz<|Sr<|Dd (by exact eO rfl rfl)<|Dd aR<|Zz<|aM ?_;refine a8 (H':=((951,VB P)::H)) (.inr rfl) rfl (aG rfl) Fin.refl ?_;exact Qq
def MU (i:Nat):Nat:=if i=901 then 945 else if i=945 then 901 else i
theorem RK (i:Nat):MU (MU i)=i:=by
 unfold MU
 repeat' split
 all_goals omega
theorem N2 (ρ:Nat→Nat) (l:List ByteArray):(iC l).map (gV ρ)=iC l:=by
 have:∀ r∈iC l,gV ρ r=r:=by
  intro r hr;obtain ⟨s,_,rfl⟩:=List.mem_map.1 hr;rfl
 rw [List.map_congr_left this,List.map_id']
abbrev cO (g:Nat) (l:List ByteArray):Ob:=⟨g,1,9,iC l⟩
theorem F2 (ρ:Nat→Nat) (g:Nat) (l:List ByteArray):iG ρ (cO g l)=cO g l:=by show (⟨g,1,9,(iC l).map (gV ρ)⟩:Ob)=_;rw [N2]
theorem L5 (id g:Nat) (l:List ByteArray):bE [(id,cO g l)]:=bE.of (fun p hp=>by
 rw [YK] at hp;subst hp;exact NJ _ _)
theorem xG (L:List ByteArray) (g:Nat) (H:aA) (h1:H.get 945=some (cO g L)) (hl:L.length < 1099511627776) :
  aJ Tryz.prog 47 [.osl 945 g 0 L.length] H (fun r H'=>r=.osl 945 g 0 (bW L).length∧H'=[(945,cO g (bW L++List.replicate (L.length - (bW L).length) sNil)),(945,cO g L)]++H):=by
 have h0:=AP L g [(901,cO g L)] rfl hl;have e1:iU MU [(901,cO g L)]=[(945,cO g L)]:=by
  show [(MU 901,iG MU (cO g L))]=_;rw [F2];rfl
 have e2:iU MU [(901,cO g (bW L++List.replicate (L.length - (bW L).length) sNil)),(901,cO g L)]=[(945,cO g (bW L++List.replicate (L.length - (bW L).length) sNil)),(945,cO g L)]:=by
  show [(MU 901,iG MU (cO g (bW L++List.replicate (L.length - (bW L).length) sNil))),(MU 901,iG MU (cO g L))]=_;rw [F2,F2];rfl
 have h2:=aJ.ren (ρ:=MU) RK h0 (args':=[.osl 945 g 0 L.length]) (r':=.osl 945 g 0 (bW L).length) rfl e1 rfl e2;refine h2.frame (AZ h1) (L5 _ _ _) (by simp;rfl) (fun id h=>.inl ?_);simp only [aA.get] at h ⊢;cases e:Nat.beq 945 id with
 | true=>rfl
 | false=>rw [e] at h;cases h
def fM (P:List ByteArray):List ByteArray:=bW (cI P)
def vE (k n:Nat) (b:Bool) (l2:bT) (P:List ByteArray):Int:=if b then 12 else if ¬ bH l2 P=0 then bH l2 P else if l2.length+(fM P).length=0 then 0 else if k < n+cN (bB l2 (fM P))then 21 else -1
theorem e9 (l2:bT) (P:List ByteArray):bH l2 P=0∨bH l2 P=1∨bH l2 P=2:=by
 rw [bH]
 split
 ·exact .inr (.inl rfl)
 split
 ·exact .inr (.inr rfl)
 exact .inl rfl
theorem sG (P:List ByteArray):(fM P).length≤P.length:=by have h1:=z8 (cI P);rw [eK] at h1;exact h1
theorem pJ {P:List ByteArray} {x:ByteArray}:x∈fM P↔x∈P:=oR.trans (p9 P).mem_iff
theorem xI (P:List ByteArray):yP (fM P):=sF (zE P)
theorem PQ (P R:List ByteArray):(((bW (cI P)++R).map encStr).take (0+(bW (cI P)).length)).drop 0=(fM P).map encStr:=by rw [List.drop_zero,YZ,List.map_append];exact List.take_left' (YH _)
theorem LX {d:DSt} {N m:Nat} (h:DInv d N m) (k a n:Nat) (b:Bool) (l:bT) (c:Nat) (l2:bT) (c2:Nat) (P:List ByteArray) (hk:k < 4000) (ha:a < 2) (hn:n≤k) (hm:m≤10) (hst:dQ l c) (hnd:fD l) (hst2:dQ l2 c2) (hnd2:fD l2) (hl2:l2.length < 1000000) (hP:P.length < 1000000) (hsz:bH l2 P=0→(bB l2 (fM P)).length < 100000000) :
  aJ Tryz.prog 14 [.ref 1100 0 0 0,.mp 950 0,.pv (aX P)] ((950,bJ l2 c2)::sH d (b4 k a n b) (bJ l c)) (fun r H'=>(¬ vE k n b l2 P = -1∧r=iv (vE k n b l2 P)∧H'=(950,bJ l2 c2)::sH d (b4 k a n b) (bJ l c)) ∨
   (vE k n b l2 P = -1∧¬ (iX d k a n (bB l2 (fM P))).1=0∧r=iv (iX d k a n (bB l2 (fM P))).1∧H'=(950,bJ l2 c2)::sH (iX d k a n (bB l2 (fM P))).2 (b4 k a n true) (bJ l c)) ∨
   (vE k n b l2 P = -1∧(iX d k a n (bB l2 (fM P))).1=0∧r=iv 0∧∃ l' c',dQ l' c'∧fD l'∧l'.length≤l.length+l2.length∧(∀ x,cT l' x=pZ (cT l) l2 (fM P) x)∧H'=(950,bJ l2 c2)::sH (iX d k a n (bB l2 (fM P))).2 (b4 k a (n+cN (bB l2 (fM P))) false) (bJ l' c'))):=by
 have hR:vE k n b l2 P=if b then 12 else if ¬ bH l2 P=0 then bH l2 P else if l2.length+(fM P).length=0 then 0 else if k < n+cN (bB l2 (fM P))then 21 else -1:=rfl
 have hwr:=fun H hH=>HU l2 c2 P hst2 (by omega) (by omega) H hH;have hrange:=e9 l2 P;have hDl:=sG P;cases b with
 | true =>
  rw [YG rfl] at hR;rw [hR];refine Bd Q4 rfl MS<|Sr<|Dd aR<|Zz<|Sq<|aO<|Sr<|Dd aF<|Dd (by exact cJ rfl eR rfl rfl rfl rfl)<|Da ?_;refine Cn ?_ ?_<;>intro hc1
  ·cases hc1
  refine Sr<|Dd aF<|Dd eX<|Dd (dP jF)<|Dd (eF dC)<|Da ?_;refine Cn ?_ ?_<;>intro hc2
  ·refine Sr<|Dd aR<|Zz<|aM ?_;refine a8 (H':=((950,bJ l2 c2)::sH d (b4 k a n true) (bJ l c))) (.inr rfl) rfl (aG rfl) (Fin.wk (by(simp;done)) (Hc (aS _ _ _)<|Hc (aE _ _ rfl rfl rfl)<|Hc (aC _ _)<|Hc (aL _ _ _)<|Hc (aI _ _)<|Hc (by(simp;exact⟨rfl,rfl⟩))<|Hc (aS _ _ _)<|trivial) ⟨rfl,rfl,rfl,rfl,rfl,rfl,rfl,trivial⟩) ?_;exact .inl ⟨by decide,rfl,rfl⟩
  cases hc2
 | false =>
  rw [YF (by decide)] at hR;refine Bd Q4 rfl MS<|Sr<|Dd aR<|Zz<|Sq<|aO<|Sr<|Dd aF<|Dd (by exact cJ rfl eR rfl rfl rfl rfl)<|Da ?_;refine Cn ?_ ?_<;>intro hc1
  ·cases hc1
  refine Sr<|Dd aF<|Dd eX<|Dd (dP jF)<|Dd (eF dC)<|Da ?_;refine Cn ?_ ?_<;>intro hc2
  ·cases hc2
  refine aH<|Sq<|Sr<|Dd aF<|Dd aF<|Dd (by exact aB rfl rfl sT rfl (hwr _ rfl))<|Dd aR<|Zz<|Sr<|Dd aF<|Dd tF<|Zz ?_;refine Cn ?_ ?_<;>intro hc3
  ·have hq:¬ bH l2 P=0:=by have h:=hc3;simpa using h
   rw [YG hq] at hR;rw [hR];refine Sr<|Dd aF<|Dd aR<|Zz<|aM ?_;refine a8 (H':=((950,bJ l2 c2)::sH d (b4 k a n false) (bJ l c))) (.inr rfl) rfl (aG rfl) (Fin.wk (by(simp;done)) (Hc (aS _ _ _)<|Hc (aE _ _ rfl rfl rfl)<|Hc (aC _ _)<|Hc (aL _ _ _)<|Hc (aI _ _)<|Hc (by(simp;exact⟨rfl,rfl⟩))<|Hc (aS _ _ _)<|trivial) ⟨rfl,rfl,rfl,rfl,rfl,rfl,rfl,trivial⟩) ?_;exact .inl ⟨by omega,rfl,rfl⟩
  have hq:bH l2 P=0:=by have h:=hc3;simpa using h
  rw [YF (fun h=>h hq)] at hR;have hsz:=hsz hq;have hso:=HY (L:=P) (by omega) call97 ((951,VB P)::(950,bJ l2 c2)::sH d (b4 k a n false) (bJ l c)) (y8 P _ (by omega) rfl) rfl rfl rfl rfl (bE.ofL ⟨(by(simp;done)),(by exact aS _ _ _),(by exact aE _ _ rfl rfl rfl),(by exact aC _ _),(by exact aL _ _ _),(by exact aI _ _),(by(simp;exact⟨rfl,rfl⟩)),(by exact aS _ _ _),trivial⟩) (by simp;rfl);refine aH<|Sr<|Dd aF<|Dd (by exact aB rfl rfl call49 rfl (y7 P _ rfl))<|Dd (by exact aB rfl rfl CP rfl (hso))<|Dd (by exact aB rfl rfl XY rfl ((by have h:=xG (cI P) P.length ((945,cO P.length (cI P))::(951,VB P)::(950,bJ l2 c2)::sH d (b4 k a n false) (bJ l c)) rfl (by rw [eK];omega);rw [eK] at h;exact h)))<|Dd aR<|Zz<|Sq<|Sq ?_;refine fP.ent (bY.fzG (id:=945) (E':=[(0,.ref 1100 0 0 0),(1,.mp 950 0),(2,.pv (aX (fM P)))]) (H':=(950,bJ l2 c2)::sH d (b4 k a n false) (bJ l c)) ((bW (cI P)++List.replicate (P.length - (bW (cI P)).length) sNil).map encStr) rfl (by rw [List.map_map];rfl) ?_ rfl ?_ ?_) ?_
  ·intro p hp;simp only [YT,YX,or_false] at hp;rcases hp with rfl|rfl|rfl
   ·exact⟨_,rfl,.same (by simp;rfl)⟩
   ·exact⟨_,rfl,.same (by simp;rfl)⟩
   exact⟨_,rfl,.osl (PQ P _)⟩
  ·exact⟨⟨_,rfl,rfl,rfl,rfl,cQ (aS _ _ _)⟩,⟨_,rfl,rfl,rfl,rfl,cQ (aE _ _ rfl rfl rfl)⟩,⟨_,rfl,rfl,rfl,rfl,cQ (aC _ _)⟩,⟨_,rfl,rfl,rfl,rfl,cQ (aL _ _ _)⟩,⟨_,rfl,rfl,rfl,rfl,cQ (aI _ _)⟩,⟨_,rfl,rfl,rfl,rfl,cQ (bC rfl rfl)⟩,⟨_,rfl,rfl,rfl,rfl,cQ (aS _ _ _)⟩,trivial⟩
  ·exact⟨rfl,rfl,rfl,rfl,rfl,rfl,rfl,trivial⟩
  have hinc:=xI P;obtain ⟨D,hD⟩:∃ D,D=fM P:=⟨_,rfl⟩;rw [← hD] at hR hsz hDl ⊢;have hmp:(bQ l2).length=l2.length:=YH _;have hmd:(D.map encStr).length=D.length:=YH _;have htx:=fun H hH=>NF l2 c2 D hst2 (by omega) (by omega) (by omega) H hH;obtain ⟨t,ht⟩:∃ t,t=bB l2 D:=⟨_,rfl⟩;rw [← ht] at hR hsz htx ⊢;have hcn:=fun H=>xE t (by omega) H;refine Rg<|Dd aF<|Dd (by exact uL (κ:=fF) (l:=bQ l2) rfl aU rfl rfl rfl rfl)<|Dd aF<|Dd (mB aP)<|Dd (by exact cG rfl rfl rfl (iB (by omega) (by omega)))<|Dd gH<|Zz ?_;refine Cn ?_ ?_<;>intro hc4
  ·have hq2:l2.length+D.length=0:=by have:=YD hc4;omega
   rw [YG hq2] at hR;rw [hR];refine Sr<|Dd aR<|Zz<|aM ?_;refine a8 (H':=((950,bJ l2 c2)::sH d (b4 k a n false) (bJ l c))) (.inr rfl) rfl (aG rfl) (Fin.wk (by(simp;done)) (Hc (aS _ _ _)<|Hc (aE _ _ rfl rfl rfl)<|Hc (aC _ _)<|Hc (aL _ _ _)<|Hc (aI _ _)<|Hc (by(simp;exact⟨rfl,rfl⟩))<|Hc (aS _ _ _)<|trivial) ⟨rfl,rfl,rfl,rfl,rfl,rfl,rfl,trivial⟩) ?_;exact .inl ⟨by decide,rfl,rfl⟩
  have hq2:¬ l2.length+D.length=0:=by have:=YE hc4;omega
  rw [YF hq2] at hR;refine aH<|Sr<|Dd aF<|Dd aF<|Dd (by exact aB rfl rfl sS rfl (htx _ rfl))<|Dd aR<|Zz<|Sq<|Sq<|bO follows<|Cq aF<|Cq (by exact aB rfl rfl XX rfl (hcn _))<|Cq aF<|Cq eX<|Cq (dP qO)<|Cq (eF aT)<|Cq aF<|Cq eX<|Cq (dP kZ)<|Cq (dP lS)<|Cq (eF aT)<|Cq (by exact dS rfl rfl rfl (iB (by omega) (by omega)))<|Cq yR<|cU<|Kr ?_;refine Cn ?_ ?_<;>intro hc5
  ·have hq3:k < n+cN t:=by have:=YD hc5;omega
   rw [YG hq3] at hR;rw [hR];refine Sr<|Dd aR<|Zz<|aM ?_;refine a8 (H':=((950,bJ l2 c2)::sH d (b4 k a n false) (bJ l c))) (.inr rfl) rfl (aG rfl) (Fin.wk (by(simp;done)) (Hc (aS _ _ _)<|Hc (aE _ _ rfl rfl rfl)<|Hc (aC _ _)<|Hc (aL _ _ _)<|Hc (aI _ _)<|Hc (by(simp;exact⟨rfl,rfl⟩))<|Hc (aS _ _ _)<|trivial) ⟨rfl,rfl,rfl,rfl,rfl,rfl,rfl,trivial⟩) ?_;exact .inl ⟨by decide,rfl,rfl⟩
  have hq3:¬ k < n+cN t:=by have:=YE hc5;omega
  rw [YF hq3] at hR;rw [hR];have hadd:=QL h k a n a n false l c t hsz (by omega) ha hk (by omega);obtain ⟨x,hx⟩:∃ x,x=iX d k a n t:=⟨_,rfl⟩;rw [← hx] at hadd ⊢;clear hx;refine aH<|Sq<|Sr<|Dd aF<|Dd aF<|Dd eX<|Dd (dP kZ)<|Dd (R9 cK sizeOf70)<|Dd aF<|Dd (by exact aB rfl rfl XW rfl (fR hadd _ ⟨rfl,rfl,rfl,rfl,rfl,rfl,trivial⟩ (by simp;rfl)))<|Dd aR<|Zz<|Sr<|Dd aF<|Dd tF<|Zz ?_;refine Cn ?_ ?_<;>intro hc6
  ·have e0:¬ x.1=0:=by have h:=hc6;simpa using h
   rw [YF e0];refine Sr<|Dd aF<|Dd aR<|Zz<|aM ?_;refine a8 (H':=((950,bJ l2 c2)::sH x.2 (b4 k a n true) (bJ l c))) (.inr rfl) rfl (aG rfl) (Fin.wk (by(simp;done)) (Hc (aS _ _ _)<|Hc (aE _ _ rfl rfl rfl)<|Hc (aC _ _)<|Hc (aL _ _ _)<|Hc (aI _ _)<|Hc (by(simp;exact⟨rfl,rfl⟩))<|Hc (aS _ _ _)<|trivial) ⟨rfl,rfl,rfl,rfl,rfl,rfl,rfl,trivial⟩) ?_;exact .inr (.inl ⟨rfl,e0,rfl,rfl⟩)
  have e0:x.1=0:=by have h:=hc6;simpa using h
  rw [YG e0];refine aH<|Sr<|Dd aF<|Dd eX<|Dd (dP qN)<|Dd (eF bS)<|Dd aF<|Dm ?_;refine iD rfl rfl (aB rfl rfl XV rfl (QF l l2 c c2 D _ (by omega) (by omega) hst2 rfl rfl rfl (bE.ofL ⟨(by exact aE _ _ rfl rfl rfl),(by exact aC _ _),(by exact aL _ _ _),(by exact aI _ _),(by(simp;exact⟨rfl,rfl⟩)),(by exact aS _ _ _),(by exact aS _ _ _),(by exact aE _ _ rfl rfl rfl),(by exact aC _ _),(by exact aL _ _ _),(by exact aI _ _),(by(simp;exact⟨rfl,rfl⟩)),(by exact aS _ _ _),trivial⟩))) ?_;rintro r H' ⟨rfl,ps,hps,rfl⟩;obtain ⟨q1,q2,q3,q4⟩:=xM (D:=D) hst hnd hnd2 hps;refine Zz<|Sr<|Dd aR<|Zz<|aM ?_;refine a8 (H':=((950,bJ l2 c2)::sH x.2 (b4 k a (n+cN t) false) (bJ (kG (fK l c ps).1 D) (fK l c ps).2))) (.inr rfl) rfl (aG rfl) (Fin.wk (by(simp;done)) (Hc (aS _ _ _)<|Hc (aE _ _ rfl rfl rfl)<|Hc (aC _ _)<|Hc (aL _ _ _)<|Hc (aI _ _)<|Hc (by(simp;exact⟨rfl,rfl⟩))<|Hc (aS _ _ _)<|trivial) ⟨rfl,rfl,rfl,rfl,rfl,rfl,rfl,trivial⟩) ?_;exact .inr (.inr ⟨rfl,e0,rfl,_,_,q1,q2,q3,q4,rfl⟩)
theorem LY {d:DSt} {N m:Nat} (h:DInv d N m) (k a n:Nat) (b:Bool) (l:bT) (c:Nat) (P:List ByteArray) (hk:k < 4000) (ha:a < 2) (hn:n≤k) (hm:m≤10) (hst:dQ l c) (hnd:fD l) (hP:P.length < 1000000) (hsz:bH ([]:bT) P=0→(bB ([]:bT) (fM P)).length < 100000000) :
  aJ Tryz.prog 14 [.ref 1100 0 0 0,.pv .nilm,.pv (aX P)] (sH d (b4 k a n b) (bJ l c)) (fun r H'=>(¬ vE k n b ([]:bT) P = -1∧r=iv (vE k n b ([]:bT) P)∧H'=sH d (b4 k a n b) (bJ l c)) ∨
   (vE k n b ([]:bT) P = -1∧¬ (iX d k a n (bB ([]:bT) (fM P))).1=0∧r=iv (iX d k a n (bB ([]:bT) (fM P))).1∧H'=sH (iX d k a n (bB ([]:bT) (fM P))).2 (b4 k a n true) (bJ l c)) ∨
   (vE k n b ([]:bT) P = -1∧(iX d k a n (bB ([]:bT) (fM P))).1=0∧r=iv 0∧∃ l' c',dQ l' c'∧fD l'∧l'.length≤l.length+([]:bT).length∧(∀ x,cT l' x=pZ (cT l) ([]:bT) (fM P) x)∧H'=sH (iX d k a n (bB ([]:bT) (fM P))).2 (b4 k a (n+cN (bB ([]:bT) (fM P))) false) (bJ l' c'))):=by
 have hR:vE k n b ([]:bT) P=if b then 12 else if ¬ bH ([]:bT) P=0 then bH ([]:bT) P else if([]:bT).length+(fM P).length=0 then 0 else if k < n+cN (bB ([]:bT) (fM P))then 21 else -1:=rfl
 have hwr:=fun H=>M8 P (by omega) H;have hrange:=e9 ([]:bT) P;have hDl:=sG P;cases b with
 | true =>
  rw [YG rfl] at hR;rw [hR];refine Bd Q4 rfl MS<|Sr<|Dd aR<|Zz<|Sq<|aO<|Sr<|Dd aF<|Dd (by exact cJ rfl eR rfl rfl rfl rfl)<|Da ?_;refine Cn ?_ ?_<;>intro hc1
  ·cases hc1
  refine Sr<|Dd aF<|Dd eX<|Dd (dP jF)<|Dd (eF dC)<|Da ?_;refine Cn ?_ ?_<;>intro hc2
  ·refine Sr<|Dd aR<|Zz<|aM ?_;refine a8 (H':=(sH d (b4 k a n true) (bJ l c))) (.inr rfl) rfl (aG rfl) (Fin.wk (by(simp;done)) (Hc (aE _ _ rfl rfl rfl)<|Hc (aC _ _)<|Hc (aL _ _ _)<|Hc (aI _ _)<|Hc (by(simp;exact⟨rfl,rfl⟩))<|Hc (aS _ _ _)<|trivial) ⟨rfl,rfl,rfl,rfl,rfl,rfl,trivial⟩) ?_;exact .inl ⟨by decide,rfl,rfl⟩
  cases hc2
 | false =>
  rw [YF (by decide)] at hR;refine Bd Q4 rfl MS<|Sr<|Dd aR<|Zz<|Sq<|aO<|Sr<|Dd aF<|Dd (by exact cJ rfl eR rfl rfl rfl rfl)<|Da ?_;refine Cn ?_ ?_<;>intro hc1
  ·cases hc1
  refine Sr<|Dd aF<|Dd eX<|Dd (dP jF)<|Dd (eF dC)<|Da ?_;refine Cn ?_ ?_<;>intro hc2
  ·cases hc2
  refine aH<|Sq<|Sr<|Dd aF<|Dd aF<|Dd (by exact aB rfl rfl sT rfl (hwr _))<|Dd aR<|Zz<|Sr<|Dd aF<|Dd tF<|Zz ?_;refine Cn ?_ ?_<;>intro hc3
  ·have hq:¬ bH ([]:bT) P=0:=by have h:=hc3;simpa using h
   rw [YG hq] at hR;rw [hR];refine Sr<|Dd aF<|Dd aR<|Zz<|aM ?_;refine a8 (H':=(sH d (b4 k a n false) (bJ l c))) (.inr rfl) rfl (aG rfl) (Fin.wk (by(simp;done)) (Hc (aE _ _ rfl rfl rfl)<|Hc (aC _ _)<|Hc (aL _ _ _)<|Hc (aI _ _)<|Hc (by(simp;exact⟨rfl,rfl⟩))<|Hc (aS _ _ _)<|trivial) ⟨rfl,rfl,rfl,rfl,rfl,rfl,trivial⟩) ?_;exact .inl ⟨by omega,rfl,rfl⟩
  have hq:bH ([]:bT) P=0:=by have h:=hc3;simpa using h
  rw [YF (fun h=>h hq)] at hR;have hsz:=hsz hq;have hso:=HY (L:=P) (by omega) call97 ((951,VB P)::sH d (b4 k a n false) (bJ l c)) (y8 P _ (by omega) rfl) rfl rfl rfl rfl (bE.ofL ⟨(by(simp;done)),(by exact aE _ _ rfl rfl rfl),(by exact aC _ _),(by exact aL _ _ _),(by exact aI _ _),(by(simp;exact⟨rfl,rfl⟩)),(by exact aS _ _ _),trivial⟩) (by simp;rfl);refine aH<|Sr<|Dd aF<|Dd (by exact aB rfl rfl call49 rfl (y7 P _ rfl))<|Dd (by exact aB rfl rfl CP rfl (hso))<|Dd (by exact aB rfl rfl XY rfl ((by have h:=xG (cI P) P.length ((945,cO P.length (cI P))::(951,VB P)::sH d (b4 k a n false) (bJ l c)) rfl (by rw [eK];omega);rw [eK] at h;exact h)))<|Dd aR<|Zz<|Sq<|Sq ?_;refine fP.ent (bY.fzG (id:=945) (E':=[(0,.ref 1100 0 0 0),(1,.pv .nilm),(2,.pv (aX (fM P)))]) (H':=sH d (b4 k a n false) (bJ l c)) ((bW (cI P)++List.replicate (P.length - (bW (cI P)).length) sNil).map encStr) rfl (by rw [List.map_map];rfl) ?_ rfl ?_ ?_) ?_
  ·intro p hp;simp only [YT,YX,or_false] at hp;rcases hp with rfl|rfl|rfl
   ·exact⟨_,rfl,.same (by simp;rfl)⟩
   ·exact⟨_,rfl,.same (by simp)⟩
   exact⟨_,rfl,.osl (PQ P _)⟩
  ·exact⟨⟨_,rfl,rfl,rfl,rfl,cQ (aE _ _ rfl rfl rfl)⟩,⟨_,rfl,rfl,rfl,rfl,cQ (aC _ _)⟩,⟨_,rfl,rfl,rfl,rfl,cQ (aL _ _ _)⟩,⟨_,rfl,rfl,rfl,rfl,cQ (aI _ _)⟩,⟨_,rfl,rfl,rfl,rfl,cQ (bC rfl rfl)⟩,⟨_,rfl,rfl,rfl,rfl,cQ (aS _ _ _)⟩,trivial⟩
  ·exact⟨rfl,rfl,rfl,rfl,rfl,rfl,trivial⟩
  have hinc:=xI P;obtain ⟨D,hD⟩:∃ D,D=fM P:=⟨_,rfl⟩;rw [← hD] at hR hsz hDl ⊢;have hmp:([]:bT).length=0:=rfl;have hmd:(D.map encStr).length=D.length:=YH _;have htx:=fun H=>RI D (by omega) (by omega) H;obtain ⟨t,ht⟩:∃ t,t=bB ([]:bT) D:=⟨_,rfl⟩;rw [← ht] at hR hsz htx ⊢;have hcn:=fun H=>xE t (by omega) H;refine Rg<|Dd aF<|Dd (by exact TO rfl aU rfl)<|Dd aF<|Dd (mB aP)<|Dd (by exact cG rfl rfl rfl (iB (by omega) (by omega)))<|Dd gH<|Zz ?_;refine Cn ?_ ?_<;>intro hc4
  ·have hq2:([]:bT).length+D.length=0:=by have:=YD hc4;omega
   rw [YG hq2] at hR;rw [hR];refine Sr<|Dd aR<|Zz<|aM ?_;refine a8 (H':=(sH d (b4 k a n false) (bJ l c))) (.inr rfl) rfl (aG rfl) (Fin.wk (by(simp;done)) (Hc (aE _ _ rfl rfl rfl)<|Hc (aC _ _)<|Hc (aL _ _ _)<|Hc (aI _ _)<|Hc (by(simp;exact⟨rfl,rfl⟩))<|Hc (aS _ _ _)<|trivial) ⟨rfl,rfl,rfl,rfl,rfl,rfl,trivial⟩) ?_;exact .inl ⟨by decide,rfl,rfl⟩
  have hq2:¬ ([]:bT).length+D.length=0:=by have:=YE hc4;omega
  rw [YF hq2] at hR;refine aH<|Sr<|Dd aF<|Dd aF<|Dd (by exact aB rfl rfl sS rfl (htx _))<|Dd aR<|Zz<|Sq<|Sq<|bO follows<|Cq aF<|Cq (by exact aB rfl rfl XX rfl (hcn _))<|Cq aF<|Cq eX<|Cq (dP qO)<|Cq (eF aT)<|Cq aF<|Cq eX<|Cq (dP kZ)<|Cq (dP lS)<|Cq (eF aT)<|Cq (by exact dS rfl rfl rfl (iB (by omega) (by omega)))<|Cq yR<|cU<|Kr ?_;refine Cn ?_ ?_<;>intro hc5
  ·have hq3:k < n+cN t:=by have:=YD hc5;omega
   rw [YG hq3] at hR;rw [hR];refine Sr<|Dd aR<|Zz<|aM ?_;refine a8 (H':=(sH d (b4 k a n false) (bJ l c))) (.inr rfl) rfl (aG rfl) (Fin.wk (by(simp;done)) (Hc (aE _ _ rfl rfl rfl)<|Hc (aC _ _)<|Hc (aL _ _ _)<|Hc (aI _ _)<|Hc (by(simp;exact⟨rfl,rfl⟩))<|Hc (aS _ _ _)<|trivial) ⟨rfl,rfl,rfl,rfl,rfl,rfl,trivial⟩) ?_;exact .inl ⟨by decide,rfl,rfl⟩
  have hq3:¬ k < n+cN t:=by have:=YE hc5;omega
  rw [YF hq3] at hR;rw [hR];have hadd:=QL h k a n a n false l c t hsz (by omega) ha hk (by omega);obtain ⟨x,hx⟩:∃ x,x=iX d k a n t:=⟨_,rfl⟩;rw [← hx] at hadd ⊢;clear hx;refine aH<|Sq<|Sr<|Dd aF<|Dd aF<|Dd eX<|Dd (dP kZ)<|Dd (R9 cK sizeOf70)<|Dd aF<|Dd (by exact aB rfl rfl XW rfl (fR hadd _ ⟨rfl,rfl,rfl,rfl,rfl,rfl,trivial⟩ (by simp;rfl)))<|Dd aR<|Zz<|Sr<|Dd aF<|Dd tF<|Zz ?_;refine Cn ?_ ?_<;>intro hc6
  ·have e0:¬ x.1=0:=by have h:=hc6;simpa using h
   rw [YF e0];refine Sr<|Dd aF<|Dd aR<|Zz<|aM ?_;refine a8 (H':=(sH x.2 (b4 k a n true) (bJ l c))) (.inr rfl) rfl (aG rfl) (Fin.wk (by(simp;done)) (Hc (aE _ _ rfl rfl rfl)<|Hc (aC _ _)<|Hc (aL _ _ _)<|Hc (aI _ _)<|Hc (by(simp;exact⟨rfl,rfl⟩))<|Hc (aS _ _ _)<|trivial) ⟨rfl,rfl,rfl,rfl,rfl,rfl,trivial⟩) ?_;exact .inr (.inl ⟨rfl,e0,rfl,rfl⟩)
  have e0:x.1=0:=by have h:=hc6;simpa using h
  rw [YG e0];refine aH<|Sr<|Dd aF<|Dd eX<|Dd (dP qN)<|Dd (eF bS)<|Dd aF<|Dm ?_;refine iD rfl rfl (aB rfl rfl XV rfl (QE l c D _ (by omega) rfl rfl (bE.ofL ⟨(by exact aE _ _ rfl rfl rfl),(by exact aC _ _),(by exact aL _ _ _),(by exact aI _ _),(by(simp;exact⟨rfl,rfl⟩)),(by exact aS _ _ _),(by exact aE _ _ rfl rfl rfl),(by exact aC _ _),(by exact aL _ _ _),(by exact aI _ _),(by(simp;exact⟨rfl,rfl⟩)),(by exact aS _ _ _),trivial⟩))) ?_;rintro r H' ⟨rfl,rfl⟩;obtain ⟨q1,q2,q3,q4⟩:=xM (put:=[]) (ps:=[]) (D:=D) hst hnd wD (List.Perm.refl _);refine Zz<|Sr<|Dd aR<|Zz<|aM ?_;refine a8 (H':=(sH x.2 (b4 k a (n+cN t) false) (bJ (kG l D) c))) (.inr rfl) rfl (aG rfl) (Fin.wk (by(simp;done)) (Hc (aE _ _ rfl rfl rfl)<|Hc (aC _ _)<|Hc (aL _ _ _)<|Hc (aI _ _)<|Hc (by(simp;exact⟨rfl,rfl⟩))<|Hc (aS _ _ _)<|trivial) ⟨rfl,rfl,rfl,rfl,rfl,rfl,trivial⟩) ?_;exact .inr (.inr ⟨rfl,e0,rfl,_,_,q1,q2,q3,q4,rfl⟩)
abbrev WN (l:List UInt8) (g:Nat) (u:Bool):Ob:=nG (.osl 2002 g 0 l.length) u
abbrev WM (l:List UInt8) (g:Nat):Ob:=⟨g,1,5,bA l⟩
theorem RB {g g':Nat} {l l':List UInt8} {u u':Bool} {id:Nat} (h:(aA.get (FC g l u) id).isSome=true):(aA.get (FC g' l' u') id).isSome=true:=by
 simp only [FC,aA.get] at h ⊢;cases e1:Nat.beq 2001 id with
 | true=>rfl
 | false =>
  cases e2:Nat.beq 2002 id with
  | true=>rfl
  | false=>rw [e1,e2] at h;cases h
theorem M4 {g:Nat} {l:List UInt8} {u u':Bool} {id:Nat} (h:(aA.get (MD g l u) id).isSome=true):(aA.get (FC g l u) id).isSome=true:=by
 simp only [MD,FC,aA.get] at h ⊢;cases e1:Nat.beq 2001 id with
 | true=>rfl
 | false =>
  cases e2:Nat.beq 2002 id with
  | true=>rfl
  | false=>rw [e1,e2] at h;cases h
theorem M2 {H:aA} {g:Nat} {l:List UInt8} {u:Bool} (h1:H.get 2001=some (WN l g u)) (h2:H.get 2002=some (WM l g)):Sub (FC g l u) H:=by
 intro j o h;simp only [FC,aA.get] at h;cases e1:Nat.beq 2001 j with
 | true =>
  rw [e1] at h;cases h;rw [← Nat.eq_of_beq_eq_true e1];exact h1
 | false =>
  rw [e1] at h;cases e2:Nat.beq 2002 j with
  | true =>
   rw [e2] at h;cases h;rw [← Nat.eq_of_beq_eq_true e2];exact h2
  | false=>rw [e2] at h;cases h
theorem VJ {H:aA} {g:Nat} {l:List UInt8} {u:Bool} (s:ByteArray) (h1:H.get 2001=some (WN l g u)) (h2:H.get 2002=some (WM l g)) (hl:l.length+s.size < 70368744177664):aJ Tryz.prog 86 [.ref 2001 0 0 0,sv s] H (fun r H'=>r=.tup [iv (s.size:Int),.pv GN]∧H'=FC (g+1) (l++s.data.toList) true++H) :=aJ.frame (pP g l u s hl) (M2 h1 h2) (bE.ofL ⟨(by exact mS rfl rfl),(by exact pL _ _),trivial⟩) (by simp;rfl) (fun id h=>.inl (RB h))
theorem TW {H:aA} {g:Nat} {l:List UInt8} {u:Bool} (h1:H.get 2001=some (WN l g u)) (h2:H.get 2002=some (WM l g)) (hl:l.length < 70368744177664):aJ Tryz.prog 88 [.ref 2001 0 0 0] H (fun r H'=>r=sv ⟨l.toArray⟩∧H'=MD g l u++H) :=aJ.frame (TF g l u hl) (M2 h1 h2) (bE.ofL ⟨(by exact mS rfl rfl),(by exact pL _ _),trivial⟩) (by simp;rfl) (fun id h=>.inl (M4 (u':=u) h))
def DY (d:DSt) (k a i:Nat):List UInt8:=(List.range i).flatMap fun i=>(DZ d k a i).data.toList
theorem zV (d:DSt) (k a i:Nat):DY d k a (i+1)=DY d k a i++(DZ d k a i).data.toList:=by rw [DY,List.range_succ,List.flatMap_append,List.flatMap_cons,List.flatMap_nil,List.append_nil];rfl
theorem zO (place:Nat) (t:ByteArray) (ht:t.size=64):(yB place t).size≤46:=by
 rw [yB]
 split
 ·exact YY _
 next hb =>
 split
 ·rw [vY] at hb;simp only [Bool.not_eq_true,Y3,YP] at hb;rw [KR,ByteArray.size_extract];omega
 exact YY _
theorem DX {d:DSt} (hs:DOk d) {k a:Nat} (n:Nat) (hp:∀ i,i < n→2+a*k+i < d.cells.length):∀ i,i≤n→(DY d k a i).length≤46*i
 | 0,_=>YN _
 | i+1,hi=>by
  have h1:=DX hs n hp i (by omega);have h2:=zO (2+a*k+i) (bK d (2+a*k+i)) (lO hs (hp i (by omega)));rw [zV,YI,cL,DZ];omega
theorem vM:∀ (n:Nat) (t:List UInt8) (acc:List ByteArray),((eS n t acc).1.map ByteArray.size).sum≤(acc.map ByteArray.size).sum+t.length
 | 0,t,acc=>Nat.le_add_right _ _
 | n+1,t,acc=>by
  rw [eS]
  split
  ·exact Nat.le_add_right _ _
  split
  ·exact YY _
  have h1:=vM n ((uR t).drop (JC t)) (acc++[ofL ((uR t).take (JC t))]);have h2:=(HB t).2;rw [List.map_append,List.sum_append,List.map_cons,List.map_nil,List.sum_cons,List.sum_nil,bR,YV,YW] at h1;omega
theorem FQ (t:List UInt8):((dW t).1.map ByteArray.size).sum≤t.length:=by have:=vM t.length t [];rw [List.map_nil,List.sum_nil,YZ] at this;exact this
theorem C4 (L:List ByteArray) (j:Nat):((L.take j).map ByteArray.size).sum≤(L.map ByteArray.size).sum:=by
 have h:L.map ByteArray.size=(L.take j).map ByteArray.size++(L.drop j).map ByteArray.size:=by rw [← List.map_append,List.take_append_drop]
 rw [h,List.sum_append];omega
def OH (o:Bool) (L:List ByteArray) (j:Nat):Bool:=o&&(L.take j).all fun c=>j2 c.data.toList
theorem OG {o:Bool} {L:List ByteArray} {j:Nat} {t:ByteArray} (h:L[j]?=some t):OH o L (j+1)=(OH o L j&&j2 t.data.toList):=by rw [OH,OH,dB h,List.all_append,List.all_cons,List.all_nil,Bool.and_true,Bool.and_assoc]
abbrev VE (L:List ByteArray) (j:Nat):CT:=nN ((L.take j).map fun c=>c.data.toList)
theorem PK {L:List ByteArray} {j:Nat} {t:ByteArray} (h:L[j]?=some t):VE L (j+1)=UV (VE L j) t.data.toList:=by rw [VE,dB h,List.map_append];exact qT _ _
theorem R8 (d:DSt) (hs:DOk d) (hoff:d.off=false) (k a n:Nat) (b:Bool) (ha:a < 2) (hn:n≤k) (hk:2*k+2≤d.cells.length) :
  aJ Tryz.prog 44 [.ref 1100 0 0 0] (sH d (b4 k a n b) (bJ [] 0)) (fun r H'=>r=bv (oI d k a n)∧∃ l c,dQ l c∧fD l∧l.length≤46*n∧(oI d k a n=true→∀ x,cT l x=FB d k a n x)∧H'=sH d (b4 k a n b) (bJ l c)):=by
 have hn2:=hs.n2;have hak:a*k≤k:=by
  rcases(show a=0∨a=1 by omega)with e|e<;>subst e<;>omega
 have hplace:∀ i,i < n→2+a*k+i < d.cells.length:=fun i hi=>by omega
 have hTl:=DX (k:=k) (a:=a) hs n hplace;have hTn:GS d k a n=DY d k a n:=rfl;have hok:oI d k a n=(pU d k a n&&((dW (GS d k a n)).2&&(dW (GS d k a n)).1.all fun c=>j2 c.data.toList)):=rfl;have hC:FB d k a n=nN ((dW (GS d k a n)).1.map fun c=>c.data.toList):=rfl;refine Bd func44 rfl ntmps44<|Sr<|Dd aR<|Zz<|Sr<|Dd (by exact bZ (id:=2001) rfl M0 rfl rfl)<|Zz<|Sq<|Sr<|Dd aF<|Dd eX<|Dd (dP kZ)<|Dd (dP lS)<|Dd (eF aT)<|Dd aF<|Zz<|aO ?_;refine fP.ent (E':=[(0,.ref 1100 0 0 0),(3,.ref 2001 0 0 0),(14,iv (n:Int)),(15,iv 0)]) (H':=(2002,⟨0,1,5,[]⟩)::(2001,nG (.osl 2002 0 0 0) false)::sH d (b4 k a n b) (bJ [] 0)) (bY.nz 2002 1 5 rfl rfl ⟨⟨_,rfl,(by exact Nz.same (by(simp;rfl)))⟩,⟨_,rfl,(by exact Nz.same (by(simp;rfl)))⟩,⟨_,rfl,(by exact Nz.same (by(simp;done)))⟩,⟨_,rfl,(by exact Nz.same (by(simp;done)))⟩,trivial⟩ ⟨⟨_,rfl,rfl,rfl,rfl,(by exact .inr ⟨_,_,rfl,rfl,(by repeat(first|exact trivial|refine⟨(by first|exact Nz.own|exact Nz.same (by(simp;done))),?_⟩))⟩)⟩,⟨_,rfl,rfl,rfl,rfl,(by exact .inl ⟨rfl,(by exact aE _ _ rfl rfl rfl)⟩)⟩,⟨_,rfl,rfl,rfl,rfl,(by exact .inl ⟨rfl,(by exact aC _ _)⟩)⟩,⟨_,rfl,rfl,rfl,rfl,(by exact .inl ⟨rfl,(by exact aL _ _ _)⟩)⟩,⟨_,rfl,rfl,rfl,rfl,(by exact .inl ⟨rfl,(by exact aI _ _)⟩)⟩,⟨_,rfl,rfl,rfl,rfl,(by exact .inl ⟨rfl,(by exact bC rfl rfl)⟩)⟩,⟨_,rfl,rfl,rfl,rfl,(by exact .inl ⟨rfl,(by exact aS _ _ _)⟩)⟩,trivial⟩ ⟨rfl,rfl,rfl,rfl,rfl,rfl,trivial⟩) ?_;refine tZ (fun(i g:Nat) (u:Bool)=>([(0,.ref 1100 0 0 0),(3,.ref 2001 0 0 0),(14,iv (n:Int)),(15,iv (i:Int))],(2001,WN (DY d k a i) g u)::(2002,WM (DY d k a i) g)::sH d (b4 k a n b) (bJ [] 0))) (fun i g u=>i≤n∧∀ j,j < i→¬ DZ d k a j=sNil) (fun i g u=>n - i) 0 0 false ⟨YY _,fun j hj=>absurd hj (Nat.not_lt_zero _)⟩ ?_ ?_
 ·exact(bY.wk (Ea<|Ea<|Eb<|Eb<|trivial) (Hc (mS rfl rfl)<|Hc (aC _ _)<|Hc (aE _ _ rfl rfl rfl)<|Hc (aC _ _)<|Hc (aL _ _ _)<|Hc (aI _ _)<|Hc (bC rfl rfl)<|Hc (aS _ _ _)<|trivial) ⟨rfl,rfl,rfl,rfl,rfl,rfl,trivial⟩)
 rintro i g u ⟨hi,hz⟩;have hTi:=hTl i hi;have hpl:=vX d k a n a i b [] 0 (by omega) (by omega) (by omega);refine Sr<|Dd dO<|Zz<|Sq ?_;refine Cn ?_ ?_<;>intro hc1
 ·have hlt:i < n:=by have:=YD hc1;omega
  have hpc:=RU d hs hoff k a n (2+a*k+i) b [] 0 (hplace i hlt);have hps:=zO (2+a*k+i) (bK d (2+a*k+i)) (lO hs (hplace i hlt));have hnx:=zV d k a i;have hPi:DZ d k a i=yB (2+a*k+i) (bK d (2+a*k+i)):=rfl;rw [← hPi] at hpc hps;obtain ⟨p,hp⟩:∃ p,p=DZ d k a i:=⟨_,rfl⟩;rw [← hp] at hpc hps hnx;refine aH<|Sq<|aO<|Sr<|Dd aF<|Dd aR<|Zz<|Sr<|Dd aF<|Dd aF<|Dd aF<|Dd eX<|Dd (dP kZ)<|Dd (dP qQ)<|Dd (eF aT)<|Dd aF<|Dd (by exact aB rfl rfl XT rfl (jA hpl _ ⟨rfl,rfl,rfl,rfl,rfl,rfl,trivial⟩ (by simp;rfl)))<|Dd (by exact aB rfl rfl call84 rfl (jA hpc _ ⟨rfl,rfl,rfl,rfl,rfl,rfl,trivial⟩ (by simp;rfl)))<|Dd aR<|Zz<|Sq<|Sr<|Dd aF<|Dd T8<|Zz ?_;refine Cn ?_ ?_<;>intro hc2
  ·have hq:p=sNil:=YD hc2;have hf:oI d k a n=false:=by
    have:pU d k a n=false:=by
     rw [Bool.eq_false_iff];intro h;have:=List.all_eq_true.1 h i (List.mem_range.2 hlt);rw [← hp,hq,decide_eq_true rfl] at this;cases this
    rw [hok,this];rfl
   refine Sr<|Dd aR<|Zz<|aM ?_;refine a8 (H':=(sH d (b4 k a n b) (bJ [] 0))) (.inr rfl) rfl (aG rfl) (Fin.wk (by(simp;done)) (Hc (aE _ _ rfl rfl rfl)<|Hc (aC _ _)<|Hc (aL _ _ _)<|Hc (aI _ _)<|Hc (bC rfl rfl)<|Hc (aS _ _ _)<|trivial) ⟨rfl,rfl,rfl,rfl,rfl,rfl,trivial⟩) ?_;exact⟨by rw [hf],[],0,GM,wD,YY _,fun h=>(by rw [hf] at h;cases h),rfl⟩
  have hq:¬ p=sNil:=YE hc2;refine aH<|Rg<|Dd aF<|Dd (by exact aB rfl rfl call86 rfl (VJ p rfl rfl (by omega)))<|Zz<|Rg<|Dd mU<|Dd aF<|Zz ?_;refine⟨i+1,g+1,true,⟨by omega,fun j hj=>?_⟩,by omega,?_⟩
  ·rcases Nat.lt_succ_iff_lt_or_eq.1 hj with h1|rfl
   ·exact hz j h1
   rw [← hp];exact hq
  rw [hnx];exact(bY.wk (Ea<|Ea<|Eb<|Eb<|trivial) (Hc (mS rfl rfl)<|Hc (aC _ _)<|Hc (aE _ _ rfl rfl rfl)<|Hc (aC _ _)<|Hc (aL _ _ _)<|Hc (aI _ _)<|Hc (bC rfl rfl)<|Hc (aS _ _ _)<|trivial) ⟨rfl,rfl,rfl,rfl,rfl,rfl,trivial⟩)
 have hge:i=n:=by have:=YE hc1;omega
 subst hge;have hall:pU d k a i=true:=List.all_eq_true.2 fun j hj=>by
  rw [decide_eq_false (hz j (List.mem_range.1 hj))];rfl
 rw [hall,Bool.true_and,hTn] at hok;rw [hTn] at hC;obtain ⟨T,hT⟩:∃ T,T=DY d k a i:=⟨_,rfl⟩;rw [← hT] at hok hC hTi ⊢;have hspl:=fun H=>DB T H (by omega);have hsum:=FQ T;have hL1:=p6 T.length T [];rw [List.length_nil,YZ] at hL1;change (dW T).1.length≤T.length at hL1;obtain ⟨L,hL⟩:∃ L,L=(dW T).1:=⟨_,rfl⟩;obtain ⟨o,ho⟩:∃ o,o=(dW T).2:=⟨_,rfl⟩;rw [← hL,← ho] at hok;rw [← hL] at hC hsum hL1;simp only [← hL,← ho] at hspl;have hml:(L.map encStr).length=L.length:=YH _;have hTo:(⟨T.toArray⟩:ByteArray)=ofL T:=rfl;refine bI<|Sr<|Dd (by exact aB rfl rfl call88 rfl (TW rfl rfl (by omega)))<|Dd (by exact aB rfl rfl call87 rfl (hspl _))<|Dd aF<|Dd dU<|Dd dU<|Dd aR<|Dd aR<|Zz<|Sq<|Sr<|Dd aF<|Dd (mB aP)<|Dd aF<|Zz<|aO ?_;refine tZ (fun(j:Nat) (l:bT) (c:Nat)=>([(0,.ref 1100 0 0 0),(7,bv (OH o L j)),(38,.pv (aX L)),(39,iv ((L.map encStr).length:Int)),(40,iv (j:Int))],sH d (b4 k a i b) (bJ l c))) (fun j l c=>j≤L.length∧dQ l c∧fD l∧l.length≤((L.take j).map ByteArray.size).sum∧(OH o L j=true→∀ x,cT l x=VE L j x)) (fun j l c=>L.length - j) 0 [] 0 ⟨YY _,GM,wD,YY _,fun _ x=>rfl⟩ ?_ ?_
 ·rw [show OH o L 0=o by rw [OH,List.take_zero];exact Bool.and_true o];exact(bY.wk (Ea<|Eb<|Eb<|Eb<|Eb<|trivial) (Hc (aE _ _ rfl rfl rfl)<|Hc (aC _ _)<|Hc (aL _ _ _)<|Hc (aI _ _)<|Hc (bC rfl rfl)<|Hc (aS _ _ _)<|trivial) ⟨rfl,rfl,rfl,rfl,rfl,rfl,trivial⟩)
 rintro j l c ⟨hj,hst,hnd,hll,hct⟩;have hsj:=C4 L j;refine Sr<|Dd dO<|Zz<|Sq ?_;refine Cn ?_ ?_<;>intro hc3
 ·have hlt:j < L.length:=by have:=YD hc3;omega
  obtain ⟨t,ht⟩:=aZ hlt;have hit:=dM (f:=encStr) ht;have hsz:((L.take (j+1)).map ByteArray.size).sum=((L.take j).map ByteArray.size).sum+t.size:=by rw [dB ht,List.map_append,List.sum_append];rfl
  have hsj2:=C4 L (j+1);have hnx:=OG (o:=o) ht;have hcx:=PK ht;have hrp:=KH d k a i b l c t.data.toList hst hnd (by rw [cL];omega);rw [GJ,cL] at hrp;obtain ⟨oj,hoj⟩:∃ oj,oj=OH o L j:=⟨_,rfl⟩;rw [← hoj] at hnx hct ⊢;clear hoj;cases oj
  ·refine aH<|Sq<|aO<|Sr<|Dd (CV b8)<|Dd (nL aV)<|Dd aR<|Zz<|Rg<|Dd aF<|Dd aF<|Fo<|Fo<|Fo<|Fo<|Fo<|Fo<|Dd fN<|Dd aR<|Zz<|Rg<|Dd mU<|Dd aF<|Zz ?_;refine⟨j+1,l,c,⟨by omega,hst,hnd,by omega,fun h=>(by rw [hnx] at h;cases h)⟩,by omega,?_⟩;rw [hnx];exact(bY.wk (Ea<|Eb<|Eb<|Eb<|Eb<|trivial) (Hc (aE _ _ rfl rfl rfl)<|Hc (aC _ _)<|Hc (aL _ _ _)<|Hc (aI _ _)<|Hc (bC rfl rfl)<|Hc (aS _ _ _)<|trivial) ⟨rfl,rfl,rfl,rfl,rfl,rfl,trivial⟩)
  refine aH<|Sq<|aO<|Sr<|Dd (CV b8)<|Dd (nL aV)<|Dd aR<|Zz<|Rg<|Dd aF<|Dd aF<|On aF<|On eX<|On (dP qN)<|On (eF bS)<|On aF ?_;refine JS rfl rfl rfl rfl rfl (aB rfl rfl call89 rfl hrp) ?_;rintro _ _ ⟨rfl,l2,c2,q1,q2,q3,q4,rfl⟩;refine Dd fN<|Dd aR<|Zz<|Rg<|Dd mU<|Dd aF<|Zz ?_;refine⟨j+1,l2,c2,⟨by omega,q1,q2,by omega,fun h x=>?_⟩,by omega,?_⟩
  ·rw [hnx,Bool.true_and] at h;rw [q4 h x,hcx,UV,pZ,pZ,hct rfl x]
  rw [hnx,Bool.true_and];exact(bY.wk (Ea<|Eb<|Eb<|Eb<|Eb<|trivial) (Hc (aE _ _ rfl rfl rfl)<|Hc (aC _ _)<|Hc (aL _ _ _)<|Hc (aI _ _)<|Hc (bC rfl rfl)<|Hc (aS _ _ _)<|trivial) ⟨rfl,rfl,rfl,rfl,rfl,rfl,trivial⟩)
 have hge:j=L.length:=by have:=YE hc3;omega
 subst hge;have hoke:oI d k a i=OH o L L.length:=by rw [hok,OH,List.take_length]
 have hCe:FB d k a i=VE L L.length:=by rw [hC,VE,List.take_length]
 rw [List.take_length] at hll;refine bI<|Sr<|Dd aF<|Dd aR<|Zz<|aM ?_;refine a8 (H':=(sH d (b4 k a i b) (bJ l c))) (.inr rfl) rfl (aG rfl) (Fin.wk (by(simp;done)) (Hc (aE _ _ rfl rfl rfl)<|Hc (aC _ _)<|Hc (aL _ _ _)<|Hc (aI _ _)<|Hc (bC rfl rfl)<|Hc (aS _ _ _)<|trivial) ⟨rfl,rfl,rfl,rfl,rfl,rfl,trivial⟩) ?_;exact⟨by rw [hoke],l,c,hst,hnd,by omega,fun h=>by rw [hCe];exact hct (by rw [← hoke];exact h),rfl⟩
theorem M5 {k x y:Nat} (hk:1≤k) (hx:x < 2 ^ 64) (hy:y < 2 ^ 64) (h:x ^^^ (x / 2 ^ k)=y ^^^ (y / 2 ^ k)):x=y:=by
 rw [← Nat.shiftRight_eq_div_pow,← Nat.shiftRight_eq_div_pow] at h;have hb:∀ (m i:Nat),64≤i+m→x.testBit i=y.testBit i:=by
  intro m
  induction m with
  | zero =>
   intro i hi;have hp:2 ^ 64≤2 ^ i:=Nat.pow_le_pow_right (by decide) hi;rw [Nat.testBit_lt_two_pow (Nat.lt_of_lt_of_le hx hp),Nat.testBit_lt_two_pow (Nat.lt_of_lt_of_le hy hp)]
  | succ m ih =>
   intro i hi;have h2:=congrArg (fun n=>n.testBit i) h;simp only [Nat.testBit_xor,Nat.testBit_shiftRight] at h2;rw [ih (k+i) (by omega)] at h2;cases e1:x.testBit i<;>cases e2:y.testBit i<;>cases e3:y.testBit (k+i)<;>rw [e1,e2,e3] at h2<;>cases h2
 exact Nat.eq_of_testBit_eq fun i=>hb 64 i (by omega)
theorem IM {c d q x y:Nat} (hc:c*d=18446744073709551616*q+1) (hx:x < 18446744073709551616) (hy:y < 18446744073709551616) (h:x*c % 18446744073709551616=y*c % 18446744073709551616):x=y:=by
 have go:∀ z,z < 18446744073709551616→(z*c % 18446744073709551616)*d % 18446744073709551616=z:=by
  intro z hz;rw [Nat.mul_mod,Nat.mod_mod,← Nat.mul_mod,Nat.mul_assoc,hc,Nat.mul_add,Nat.mul_one,Nat.mul_left_comm,Nat.mul_add_mod,Nat.mod_eq_of_lt hz]
 rw [← go x hx,← go y hy,h]
theorem wF {x y:Nat} (hx:x < 18446744073709551616) (hy:y < 18446744073709551616) (h:uZ x=uZ y):x=y:=by have h1:=M5 (k:=29) (by decide) (pC x) (pC y) h;have h2:=IM (c:=3935559000370003845) (d:=13700500150304694605) (q:=2922961714037557739) (by decide) (BP x) (BP y) h1;have h3:=M5 (k:=32) (by decide) (pD x) (pD y) h2;exact IM (c:=2862933555777941757) (d:=16133697096952638549) (q:=2503948805982125087) (by decide) hx hy h3
theorem CW {s a b:Nat} (h:s ^^^ a=s ^^^ b):a=b:=by
 have:=congrArg (fun n=>s ^^^ n) h
 simpa [← Nat.xor_assoc] using this
theorem yZ {s t a:Nat} (h:s ^^^ a=t ^^^ a):s=t:=by rw [Nat.xor_comm s,Nat.xor_comm t] at h;exact CW h
theorem E6:∀ {k:Nat} {a b:List UInt8},a.length=k→b.length=k→lF a=lF b→a=b
 | 0,a,b,ha,hb,_=>by rw [List.length_eq_zero_iff.1 ha,List.length_eq_zero_iff.1 hb]
 | k+1,a,b,ha,hb,h=>by
  have na:a≠[]:=fun e=>by rw [e] at ha;cases ha
  have nb:b≠[]:=fun e=>by rw [e] at hb;cases hb
  have ea:a=a.dropLast++[a.getLast na]:=(List.dropLast_concat_getLast na).symm;have eb:b=b.dropLast++[b.getLast nb]:=(List.dropLast_concat_getLast nb).symm;have la:=(a.getLast na).toNat_lt;have lb:=(b.getLast nb).toNat_lt;rw [ea,eb,t8,t8] at h;have h1:lF a.dropLast=lF b.dropLast:=by omega
  have h2:(a.getLast na).toNat=(b.getLast nb).toNat:=by omega
  have h3:=E6 (k:=k) (by rw [List.length_dropLast];omega) (by rw [List.length_dropLast];omega) h1;rw [ea,eb,h3,UInt8.toNat_inj.1 h2]
theorem o9 (l:List UInt8):lF (kD l) < 18446744073709551616:=xN (by rw [DQ];omega)
theorem CD:∀ (n:Nat) (s:Nat) (l:List UInt8),l.length≤n→tS s l < 18446744073709551616
 | n,s,l,h=>by
  by_cases h8:l.length < 8
  ·rw [pI s h8];exact lK _
  rw [iA s (by omega)]
  match n,h with
  | 0,h=>omega
  | n+1,h=>exact CD n _ _ (by rw [YW];omega)
theorem EK:∀ (n:Nat) {s t:Nat} {l:List UInt8},l.length≤n→s < 18446744073709551616→t < 18446744073709551616→tS s l=tS t l→s=t
 | n,s,t,l,h,hs,ht,e=>by
  by_cases h8:l.length < 8
  ·rw [pI s h8,pI t h8] at e;exact yZ (wF (gK hs (o9 _)) (gK ht (o9 _)) e)
  rw [iA s (by omega),iA t (by omega)] at e
  match n,h with
  | 0,h=>omega
  | n+1,h =>
   have:=EK n (l:=l.drop 8) (by rw [YW];omega) (lK _) (lK _) e;exact yZ (wF (gK hs (o9 _)) (gK ht (o9 _)) this)
theorem w9:∀ (m:Nat) {s:Nat} {A B B' R:List UInt8},s < 18446744073709551616→A.length=8*m→B.length=8→B'.length=8→tS s (A++(B++R))=tS s (A++(B'++R))→B=B'
 | 0,s,A,B,B',R,hs,hA,hB,hB',h=>by
  rw [List.length_eq_zero_iff.1 hA,List.nil_append,List.nil_append,iA s (by rw [YI];omega),iA s (by rw [YI];omega),List.take_left' hB,List.take_left' hB',List.drop_left' hB,List.drop_left' hB'] at h;have h1:=EK R.length (YN _) (lK _) (lK _) h;have h2:=CW (wF (gK hs (o9 _)) (gK hs (o9 _)) h1);rw [zP hB,zP hB'] at h2;exact E6 hB hB' h2
 | m+1,s,A,B,B',R,hs,hA,hB,hB',h=>by
  have e:A=A.take 8++A.drop 8:=(List.take_append_drop 8 A).symm;have h8:(A.take 8).length=8:=by rw [YV];omega
  rw [e,List.append_assoc,List.append_assoc,iA s (by rw [YI];omega),iA s (by rw [YI];omega),List.take_left' h8,List.take_left' h8,List.drop_left' h8,List.drop_left' h8] at h;exact w9 m (lK _) (by rw [YW];omega) hB hB' h
theorem OW {a b:Nat} (ha:a < 18446744073709551616) (hb:b < 18446744073709551616) (h:yQ a=yQ b):a=b:=by
 have hn:∀ j,j < 16→GO a j=GO b j:=by
  intro j hj;have h1:=congrArg (fun l=>l[j]?) h;simp only [yQ,Y1,List.getElem?_range hj,Option.map_some,Option.some.injEq] at h1;have h2:=congrArg UInt8.toNat h1;have ba:=BZ (oF a j);have bb:=BZ (oF b j);have la:=oF a j;have lb:=oF b j;rw [UInt8.toNat_ofNat',UInt8.toNat_ofNat',Nat.mod_eq_of_lt (by omega),Nat.mod_eq_of_lt (by omega)] at h2;have h3:mM (GO a j)=mM (GO b j):=by omega
  unfold mM at h3
  split at h3<;>split at h3<;>omega
 have go:∀ k,k≤16→a / 2 ^ (64 - 4*k)=b / 2 ^ (64 - 4*k):=by
  intro k
  induction k with
  | zero =>
   intro _;rw [Nat.div_eq_of_lt (show a < 2 ^ (64 - 4*0)from ha),Nat.div_eq_of_lt (show b < 2 ^ (64 - 4*0)from hb)]
  | succ k ih =>
   intro hk;have h1:=ih (by omega);have h2:=hn k (by omega);unfold GO at h2;have e:2 ^ (64 - 4*k)=2 ^ (60 - 4*k)*16:=by
    rw [show 64 - 4*k=(60 - 4*k)+4 by omega,Nat.pow_add]
   rw [e,← Nat.div_div_eq_div_mul,← Nat.div_div_eq_div_mul] at h1;rw [show 64 - 4*(k+1)=60 - 4*k by omega];omega
 have:=go 16 (YN _)
 simpa using this
theorem FL {m:Nat} {A B B' R:List UInt8} (hA:A.length=8*m) (hB:B.length=8) (hB':B'.length=8) (hl:(A++(B++R)).length < 18446744073709551616) (h:oA (A++(B++R))=oA (A++(B'++R))):B=B':=by
 have hlen:(A++(B++R)).length=(A++(B'++R)).length:=by rw [YI,YI,YI,YI,hB,hB']
 rw [oA,oA,← hlen] at h;have h1:=OW (CD _ _ _ (YN _)) (CD _ _ _ (YN _)) h;exact w9 m (JI hl) hA hB hB' h1
theorem TL (X:List UInt8) (b:Nat):X=X.take (8*b)++((X.drop (8*b)).take 8++X.drop (8*b+8)):=by rw [← List.drop_drop,List.take_append_drop,List.take_append_drop]
theorem FX {D X Y:List UInt8} {b:Nat} (hD:D.length=8) (hX:X.length=48) (hY:Y.length=48) (hb:b < 6) (h1:X.take (8*b)=Y.take (8*b)) (h2:X.drop (8*b+8)=Y.drop (8*b+8)) (h:oA (D++X)=oA (D++Y)):X=Y:=by
 have e1:=TL X b;have e2:=TL Y b;have s1:D++X=(D++X.take (8*b))++((X.drop (8*b)).take 8++X.drop (8*b+8)):=by rw [List.append_assoc,← e1]
 have s2:D++Y=(D++X.take (8*b))++((Y.drop (8*b)).take 8++X.drop (8*b+8)):=by rw [h1,h2,List.append_assoc,← e2]
 have lx:((X.drop (8*b)).take 8).length=8:=by rw [YV,YW];omega
 have ly:((Y.drop (8*b)).take 8).length=8:=by rw [YV,YW];omega
 have hA:(D++X.take (8*b)).length=8*(b+1):=by rw [YI,YV];omega
 rw [s1,s2] at h;have hB:=FL hA lx ly (by rw [← s1,YI];omega) h;rw [e1,e2,h1,h2,hB]
theorem XR {place:Nat} (h:place < 100000000):(dg place 8).length=8:=fL (i6 _ (by omega) (by omega))
theorem NY {place:Nat} {c c':List UInt8} (hp:place < 100000000) (hc:c.length≤48) (hc':c'.length≤48) {i:Nat} (h:∀ j,j≠i→(eC place c)[j]?=(eC place c')[j]?):eC place c=eC place c':=by
 have hX:=oD hc;have hY:=oD hc';have s1:(eC place c).take 16=oA (dg place 8++kC c):=by rw [eC,List.take_left' (jQ _)]
 have s2:(eC place c').take 16=oA (dg place 8++kC c'):=by rw [eC,List.take_left' (jQ _)]
 have d1:(eC place c).drop 16=kC c:=by rw [eC,List.drop_left' (jQ _)]
 have d2:(eC place c').drop 16=kC c':=by rw [eC,List.drop_left' (jQ _)]
 have hXY:kC c=kC c':=by
  by_cases h16:i < 16
  ·rw [← d1,← d2];refine List.ext_getElem? fun j=>?_;rw [List.getElem?_drop,List.getElem?_drop,h _ (by omega)]
  by_cases h64:i < 64
  ·have hsum:oA (dg place 8++kC c)=oA (dg place 8++kC c'):=by
    rw [← s1,← s2];refine List.ext_getElem? fun j=>?_;by_cases hj:j < 16
    ·rw [List.getElem?_take_of_lt hj,List.getElem?_take_of_lt hj,h _ (by omega)]
    rw [List.getElem?_eq_none (by rw [YV];omega),List.getElem?_eq_none (by rw [YV];omega)]
   refine FX (b:=(i - 16) / 8) (XR hp) hX hY (by omega) ?_ ?_ hsum
   ·refine List.ext_getElem? fun j=>?_;by_cases hj:j < 8*((i - 16) / 8)
    ·rw [List.getElem?_take_of_lt hj,List.getElem?_take_of_lt hj,← d1,← d2,List.getElem?_drop,List.getElem?_drop,h _ (by omega)]
    rw [List.getElem?_eq_none (by rw [YV];omega),List.getElem?_eq_none (by rw [YV];omega)]
   refine List.ext_getElem? fun j=>?_;rw [List.getElem?_drop,List.getElem?_drop,← d1,← d2,List.getElem?_drop,List.getElem?_drop,h _ (by omega)]
  rw [← d1,← d2];refine List.ext_getElem? fun j=>?_;rw [List.getElem?_drop,List.getElem?_drop];by_cases e:16+j=i
  ·rw [List.getElem?_eq_none (by rw [mG hc];omega),List.getElem?_eq_none (by rw [mG hc'];omega)]
  exact h _ e
 rw [eC,eC,hXY]
theorem I7 {c:ByteArray} {i m:Nat} (hi:i < c.size) (hm:1≤m) (hm2:m < 256):flip c i m≠c:=fun e=>by
 have h:=congrArg (fun s:ByteArray=>s.data.toList[i]?) e;have hl:i < c.data.toList.length:=by rw [cL];exact hi
 simp only [tP,List.getElem?_set_self hl] at h;rw [YM hl] at h;simp only [Option.some.injEq,Option.getD_some] at h;have h2:UInt8.ofNat m=0:=by
  have h3:=congrArg (fun b=>c.data.toList[i] ^^^ b) h
  simpa [← UInt8.xor_assoc] using h3
 have h4:=congrArg UInt8.toNat h2;rw [UInt8.toNat_ofNat',Nat.mod_eq_of_lt (by omega)] at h4;simp at h4;omega
theorem I8 {c:ByteArray} {i m j:Nat} (h:j≠i):(flip c i m).data.toList[j]?=c.data.toList[j]?:=by rw [tP,List.getElem?_set_ne (fun e=>h e.symm)]
theorem AB {place:Nat} {c c':List UInt8} {i m:Nat} (hp:place < 100000000) (hc:c.length≤48) (hc':c'.length≤48) (hi:i < 64) (hm:1≤m) (hm2:m < 256):ofL (eC place c')≠flip (ofL (eC place c)) i m:=fun e=>by
 have h:∀ j,j≠i→(eC place c')[j]?=(eC place c)[j]?:=fun j hj=>by
  have:=congrArg (fun s:ByteArray=>s.data.toList[j]?) e;simp only [I8 hj,a7] at this;exact this
 have:=NY hp hc' hc h;rw [this] at e;exact I7 (by rw [bR,mG hc];exact hi) hm hm2 e.symm
theorem zZ {a n:Nat} (ha:a < 10) (hn:n < 10000000):(dg a 1++dg n 7).length≤48:=by rw [YI,fL (i6 a (by omega) (by omega)),fL (i6 n (by omega) (by omega))];omega
theorem lH {k place:Nat} {t:ByteArray} (h:gC k place t=true):nS t < 2∧nR t≤k∧hS place (nS t) (nR t)=t:=by rw [gC] at h;simp only [YQ,YO] at h;exact⟨h.2.1.1,h.2.1.2,h.2.2⟩
theorem LF {k place a n i m:Nat} (hk:k < 10000000) (hp:place < 100000000) (ha:a < 2) (hn:n≤k) (hi:i < 64) (hm:1≤m) (hm2:m < 256):gC k place (flip (hS place a n) i m)=false:=by rw [Bool.eq_false_iff];intro h;obtain ⟨h1,h2,h3⟩:=lH h;exact AB hp (zZ (a:=a) (n:=n) (by omega) (by omega)) (zZ (by omega) (by omega)) hi hm hm2 h3
theorem yY {k place i m:Nat} (hk:k < 10000000):gC k place (flip zS i m)=false:=by
 rw [Bool.eq_false_iff];intro h;obtain ⟨h1,h2,h3⟩:=lH h;obtain ⟨a,ha⟩:∃ a,a=nS (flip zS i m):=⟨_,rfl⟩;obtain ⟨n,hn⟩:∃ n,n=nR (flip zS i m):=⟨_,rfl⟩;rw [← ha] at h1 h3;rw [← hn] at h2 h3;have hc:=D8 place a n (by omega) (by omega);have h8:(dg a 1++dg n 7).length=8:=by rw [YI,fL (i6 a (by omega) (by omega)),fL (i6 n (by omega) (by omega))]
 obtain ⟨j,hj1,hj2,hj3⟩:∃ j,16≤j∧j < 24∧j≠i:=by
  by_cases e:i=16
  ·exact⟨17,by omega,by omega,by omega⟩
  exact⟨16,by omega,by omega,by omega⟩
 have e1:(flip zS i m).data.toList[j]?=some 0:=by
  rw [I8 hj3,a7,zB,List.getElem?_replicate,YG (by omega)]
 have e2:=congrArg (fun s:ByteArray=>s.data.toList[j - 16]?) hc;simp only [dT,a7] at e2;rw [List.getElem?_take_of_lt (by omega),List.getElem?_drop,show 16+(j - 16)=j by omega] at e2;have e3:(wR place a n)[j]?=some 0:=by
  rw [← e1,← h3,a7]
 have e4:(dg a 1++dg n 7)[j - 16]?=some 0:=by rw [← e2];exact e3
 have hm:=YR e4;rcases List.mem_append.1 hm with hm|hm
 ·exact absurd (xA hm).1 (by decide)
 exact absurd (xA hm).1 (by decide)
theorem F8 {place:Nat} {p:List UInt8} {i m:Nat} (hp:place < 100000000) (h2:p.length≤46) (hi:i < 64) (hm:1≤m) (hm2:m < 256):yB place (flip (ofL (dR place p)) i m)=sNil:=by
 rw [yB]
 split
 ·rfl
 next hb =>
 split
 ·next h =>
  exfalso;have hl:(KR (flip (ofL (dR place p)) i m)).data.toList.length≤46:=by
   rw [vY] at hb;simp only [Bool.not_eq_true,Y3,YP] at hb;rw [cL,KR,ByteArray.size_extract];omega
  have c1:∀ q:List UInt8,q.length≤46→(dg q.length 2++q).length≤48:=fun q hq=>by rw [YI,fL (i6 _ (by omega) (by omega))];omega
  exact AB hp (c1 p h2) (c1 _ hl) hi hm hm2 h
 rfl
def iY (d:DSt) (k:Nat):Bool:=(!tE d k&&!decide (bK d 0=zS))||!oI d k (xW d k) (xV d k)
theorem tI {d d':DSt} {k a n:Nat} (h:∀ i,i < n→bK d' (2+a*k+i)=bK d (2+a*k+i)):oI d' k a n=oI d k a n∧FB d' k a n=FB d k a n:=by
 have hp:∀ i,i∈List.range n→DZ d' k a i=DZ d k a i:=fun i hi=>by rw [DZ,DZ,h i (List.mem_range.1 hi)]
 have hT:GS d' k a n=GS d k a n:=by
  rw [GS,GS,List.flatMap_def,List.flatMap_def];congr 1;exact List.map_congr_left fun i hi=>by rw [hp i hi]
 have hA:pU d' k a n=pU d k a n:=by
  rw [pU,pU,Bool.eq_iff_iff,List.all_eq_true,List.all_eq_true];exact forall_congr' fun i=>imp_congr_right fun hi=>by rw [hp i hi]
 exact⟨by rw [oI,oI,hA,hT],by rw [FB,FB,hT]⟩
theorem L4 {d d':DSt} {N k a n p i m:Nat} {C:CT} (hc:Calm d N) (hc':Calm d' N) (h:SInv d.cells k a n C) (hk:k < 5000) (hp:p < N) (hi:i < 64) (hm:1≤m) (hm2:m < 256) (hd:d'.cells=d.cells.set p (flip ((d.cells[p]?).getD ⟨#[]⟩) i m)) :
  iY d' k=true∨(iY d' k=false∧FB d' k (xW d' k) (xV d' k)=C):=by
 obtain ⟨o1,o2,o3,o4,o5,o6,o7⟩:=AT hc h (by omega);have hN:=hc.inv.n;have hne:∀ q,q≠p→bK d' q=bK d q:=fun q hq=>by rw [eT hc',eT hc,hd,List.getElem?_set_ne (fun e=>hq e.symm)]
 have heq:bK d' p=flip (bK d p) i m:=by rw [eT hc',eT hc,hd,List.getElem?_set_self (by omega)];rfl
 have hbig:∀ i,2+a*k+i≠0∧2+a*k+i≠1:=fun i=>by omega
 have ha:=h.a2;have hnk:=h.nk;have hkn:=h.kn;have hak:a*k≤k:=by
  rcases(show a=0∨a=1 by omega)with e|e<;>subst e<;>omega
 have good:xW d' k=a→xV d' k=n→(tE d' k=true∨bK d' 0=zS)→oI d' k a n=true→FB d' k a n=C→iY d' k=false∧FB d' k (xW d' k) (xV d' k)=C:=by
  intro q1 q2 q3 q4 q5;rw [q1,q2];refine⟨?_,q5⟩;rw [iY,q1,q2,q4];rcases q3 with q3|q3
  ·rw [q3];rfl
  rw [q3,decide_eq_true rfl];simp
 obtain ⟨p1,p2,p3⟩:=wQ (place:=1) (n:=n) h.a2 h.nk (by omega);obtain ⟨r1,r2,r3⟩:=wQ (place:=0) (n:=n) h.a2 h.nk (by omega);by_cases e1:p=1
 ·refine .inr ?_;subst e1;have t0:bK d' 0=bK d 0:=hne 0 (by decide);obtain ⟨g4,g5⟩:=tI (d:=d) (d':=d') (k:=k) (a:=a) (n:=n) (fun i _=>hne _ (hbig i).2);rw [o4] at g4;rw [o5] at g5;cases hH:tE d k with
  | true =>
   rw [hH] at o6 o7;have x1:iW d' k=false:=by rw [iW,heq,o6];exact LF (by omega) (by omega) h.a2 h.nk hi hm hm2
   have x0:gC k 0 (bK d' 0)=true:=by rw [t0,o7];exact r3
   refine good ?_ ?_ (.inl (by rw [tE,x0,Bool.or_true])) g4 g5
   ·rw [xW,x1,YF (by decide),x0,YG rfl,t0,o7];exact r1
   rw [xV,x1,YF (by decide),x0,YG rfl,t0,o7];exact r2
  | false =>
   rw [hH] at o6 o7;have x1:iW d' k=false:=by rw [iW,heq,o6];exact yY (by omega)
   have x0:gC k 0 (bK d' 0)=false:=by rw [t0,o7];exact jN
   have y1:iW d k=false:=by rw [iW,o6];exact jN
   have y0:gC k 0 (bK d 0)=false:=by rw [o7];exact jN
   have a0:a=0:=by rw [← o1,xW,y1,YF (by decide),y0,YF (by decide)]
   have n0:n=0:=by rw [← o2,xV,y1,YF (by decide),y0,YF (by decide)]
   refine good ?_ ?_ (.inr (by rw [t0,o7];rfl)) g4 g5
   ·rw [xW,x1,YF (by decide),x0,YF (by decide),a0]
   rw [xV,x1,YF (by decide),x0,YF (by decide),n0]
 have t1:bK d' 1=bK d 1:=hne 1 (fun e=>e1 e.symm);by_cases e0:p=0
 ·subst e0;obtain ⟨g4,g5⟩:=tI (d:=d) (d':=d') (k:=k) (a:=a) (n:=n) (fun i _=>hne _ (hbig i).1);rw [o4] at g4;rw [o5] at g5;cases hH:tE d k with
  | true =>
   rw [hH] at o6;have x1:iW d' k=true:=by rw [iW,t1,o6];exact p3
   refine .inr (good ?_ ?_ (.inl (by rw [tE,x1];rfl)) g4 g5)
   ·rw [xW,x1,YG rfl,t1,o6];exact p1
   rw [xV,x1,YG rfl,t1,o6];exact p2
  | false =>
   rw [hH] at o6 o7;have x1:iW d' k=false:=by rw [iW,t1,o6];exact jN
   have x0:gC k 0 (bK d' 0)=false:=by rw [heq,o7];exact yY (by omega)
   have xn:bK d' 0≠zS:=by
    rw [heq,o7];exact I7 (by show i < zS.size;rw [bR,zB,List.length_replicate];exact hi) hm hm2
   refine .inl ?_;rw [iY,tE,x1,x0,decide_eq_false xn];rfl
 have t0:bK d' 0=bK d 0:=hne 0 (fun e=>e0 e.symm);have hA:xW d' k=a:=by rw [← o1,xW,xW,iW,iW,t0,t1]
 have hNn:xV d' k=n:=by rw [← o2,xV,xV,iW,iW,t0,t1]
 have hHh:tE d' k=tE d k:=by rw [tE,tE,iW,iW,t0,t1]
 by_cases hin:∃ j,j < n∧2+a*k+j=p
 ·obtain ⟨j,hj,hpj⟩:=hin;obtain ⟨Q,T,h1,h2,h3,h4,h5⟩:=h.lg;obtain ⟨q,hq⟩:=aZ (l:=Q) (k:=j) (by omega);have hql:=h2.p q (YR hq);refine .inl ?_;have hz:DZ d' k a j=sNil:=by
   rw [DZ,hpj,heq,eT hc,← hpj,h2.at' j q hq];exact F8 (by omega) hql.2 hi hm hm2
  have hall:pU d' k a n=false:=by
   rw [Bool.eq_false_iff];intro hx;have:=List.all_eq_true.1 hx j (List.mem_range.2 hj);rw [hz,decide_eq_true rfl] at this;cases this
  rw [iY,hA,hNn,oI,hall];simp
 obtain ⟨g4,g5⟩:=tI (d:=d) (d':=d') (k:=k) (a:=a) (n:=n) (fun i hi=>hne _ (fun e=>hin ⟨i,hi,e⟩));rw [o4] at g4;rw [o5] at g5;refine .inr (good hA hNn ?_ g4 g5);rcases o3 with o3|o3
 ·exact .inl (hHh.trans o3)
 exact .inr (t0.trans o3.2)
theorem zQ (d:DSt) (k:Nat):xW d k < 2∧xV d k≤k:=by
 rw [xW,xV];cases h1:iW d k with
 | true =>
  rw [YG rfl,YG rfl];rw [iW] at h1;have:=lH h1;exact⟨this.1,this.2.1⟩
 | false =>
  rw [YF Bool.false_ne_true,YF Bool.false_ne_true];cases h0:gC k 0 (bK d 0)with
  | true =>
   rw [YG rfl,YG rfl];have:=lH h0;exact⟨this.1,this.2.1⟩
  | false =>
   rw [YF Bool.false_ne_true,YF Bool.false_ne_true];exact⟨by omega,by omega⟩
theorem vI (place:Nat) {a n:Nat} (hd:Bool) (ha:a < 10) (hn:n < 10000000):(mD place a n hd).size=64:=by
 cases hd
 ·show zS.size=64;rw [bR,zB,List.length_replicate]
 exact B1 place ha hn
theorem VO:zS.size=64:=by rw [bR,zB,List.length_replicate]
theorem UA {d:DSt} {N place a n:Nat} {hd:Bool} (h:OnD d N) (hp:place < N) (ha:a < 10) (hn:n < 10000000) (h0:(qF d place a n hd).1=0):OnD (qF d place a n hd).2 N:=by
 rw [qF] at h0 ⊢;by_cases e:bK d place=mD place a n hd
 ·rw [YG e] at h0 ⊢;exact h
 rw [YF e] at h0 ⊢;have w1:=NA h (place:=place) (L:=[zS]) (by rw [List.length_singleton];omega) (fun t ht=>by rw [YK.1 ht];exact VO) (by rw [List.length_singleton];omega);by_cases e2:(iT d place [zS]).1=0∧hd=true
 ·rw [YG e2] at h0 ⊢;rcases w1 with⟨q1,q2,q3⟩|⟨q1,q2,q3⟩
  ·have w2:=NA q2 (place:=place) (L:=[mD place a n hd]) (by rw [List.length_singleton];omega) (fun t ht=>by rw [YK.1 ht];exact vI place hd ha hn) (by rw [List.length_singleton];omega);rcases w2 with⟨p1,p2,p3⟩|⟨p1,p2,p3⟩
   ·exact p2
   rw [p1] at h0;cases h0
  rw [q1] at e2;cases e2.1
 rw [YF e2] at h0 ⊢;rcases w1 with⟨q1,q2,q3⟩|⟨q1,q2,q3⟩
 ·exact q2
 rw [q1] at h0;cases h0
def UF (i N:Nat):Int:=if i≤N then 0 else 1
abbrev XN (a n:Nat):Ob:=bx 2 70 [iv (a:Int),iv (n:Int)]
theorem IH {d:DSt} {N:Nat} (h:OnD d N) (hN:4≤N) (k a n:Nat) (hd:Bool) (hk:k=(N - 2) / 2) (hA:a=xW d k) (hNn:n=xV d k) (hH:hd=tE d k) :
  aJ Tryz.prog 12 [.ref 1000 0 0 0] (aY d) (fun r H'=>(iY d k=true∧r=.tup [.pv .nilp,iv 23]∧H'=aY d) ∨
   (iY d k=false∧¬ (qF d 1 a n hd).1=0∧r=.tup [.pv .nilp,iv (qF d 1 a n hd).1]∧H'=aY (qF d 1 a n hd).2) ∨
   (iY d k=false∧(qF d 1 a n hd).1=0∧¬ (qF (qF d 1 a n hd).2 0 a n hd).1=0∧r=.tup [.pv .nilp,iv (qF (qF d 1 a n hd).2 0 a n hd).1]∧H'=aY (qF (qF d 1 a n hd).2 0 a n hd).2) ∨
   (iY d k=false∧(qF d 1 a n hd).1=0∧(qF (qF d 1 a n hd).2 0 a n hd).1=0∧r=.tup [.ref 1100 0 0 0,iv 0]∧∃ l c,dQ l c∧fD l∧l.length≤46*n∧(∀ x,cT l x=FB d k a n x)∧H'=sH (qF (qF d 1 a n hd).2 0 a n hd).2 (b4 k a n false) (bJ l c))):=by
 have hs:=h.inv.ok;have hoff:=h.off;have hcn:=h.inv.n;have hn2:=hs.n2;have hbd:=zQ d k;rw [← hA,← hNn] at hbd;have hbad:iY d k=((!hd&&!decide (bK d 0=zS))||!oI d k a n):=by rw [iY,← hA,← hNn,← hH]
 have hrE:∀ i:Nat,nD d (i:Int)=if i < N then 0 else 1:=fun i=>by
  rw [nD,hoff,YF (by decide),fI,hcn];by_cases e:i < N
  ·rw [YG (decide_eq_true e),YG e]
  rw [YF (by rw [decide_eq_false e];decide),YF e]
 refine Bd func12 rfl ntmps12<|Sr<|Dd aR<|Dd aR<|Zz<|Sq<|Sr<|Dd aF<|Dd (by exact cJ rfl iS rfl rfl rfl rfl)<|Zz ?_;refine Cn ?_ ?_<;>intro hc1
 ·cases hc1
 refine aH<|Sr<|Dd aR<|Zz<|Sr<|Dd aR<|Zz<|Sq<|aO ?_;refine bM (σ:=Nat) (fun i=>([(0,.ref 1000 0 0 0),(4,iv (i:Int)),(5,iv (UF i N))],aY d)) (fun i=>i≤N+1) (fun i=>N+1 - i) 0 (YY _) ?_ ?_
 ·rw [show UF 0 N=0 from YG (YY _)];exact(bY.wk (Ea<|Eb<|Eb<|trivial) (Hc (aE _ _ rfl rfl rfl)<|Hc (aC _ _)<|Hc (aL _ _ _)<|Hc (aI _ _)<|trivial) ⟨rfl,rfl,rfl,rfl,trivial⟩)
 intro i hi;have hrd:=N4 d (i:Int) hs;rw [hrE i] at hrd;refine Sq<|Sr<|Dd aF<|Dd gH<|Zz ?_;refine Cn ?_ ?_<;>intro hc2
 ·have hq:i≤N:=by have h:=YD hc2;rw [UF] at h;split at h;exact(by assumption);cases h
  have hnx:UF (i+1) N=if i < N then 0 else 1:=by
   rw [UF];by_cases e:i < N
   ·rw [YG e,YG (by omega)]
   rw [YF e,YF (by omega)]
  rw [← hnx] at hrd;refine aH<|Sq<|aO<|Rg<|Dd aF<|Dd aF<|Dd (by exact aB rfl rfl sU rfl (hrd))<|Dd aF<|Dd dU<|Dd dU<|Dd aR<|Zz<|Rg<|Dd aF<|Dd (by exact cG rfl rfl rfl (show IntKind.i64.wrap ((i:Int)+1)=((i+1:Nat):Int)by rw [iB (by omega) (by omega)];omega))<|Da ?_;exact⟨i+1,by omega,by omega,(bY.wk (Ea<|Eb<|Eb<|trivial) (Hc (aE _ _ rfl rfl rfl)<|Hc (aC _ _)<|Hc (aL _ _ _)<|Hc (aI _ _)<|trivial) ⟨rfl,rfl,rfl,rfl,trivial⟩)⟩
 have hq:i=N+1:=by have h:=YE hc2;rw [UF] at h;split at h;exact absurd rfl h;omega
 have hk1:UF i N=1:=YF (by omega);rw [hk1];have hp1:=rJ d hs hoff k 0 0 1 false [] 0 (by omega) (by omega);have hp0:=rJ d hs hoff k 0 0 0 false [] 0 (by omega) (by omega);have hrd0:=u6 hs hoff (n:=0) (by omega);refine bI<|Sq<|Sr<|Dd aF<|Dd (by exact dS rfl rfl rfl (show IntKind.i64.wrap ((i:Int) - 1)=(N:Int)by rw [iB (by omega) (by omega)];omega))<|Dd aR<|Zz<|Sr<|Dd aF<|Dd gH<|Zz ?_;refine Cn ?_ ?_<;>intro hc3
 ·cases hc3
 refine aH<|Sq<|Sr<|Dd aF<|Dd dO<|Zz ?_;refine Cn ?_ ?_<;>intro hc4
 ·(have h:=YD hc4;omega)
 have hkq:IntKind.i64.wrap (((N:Int) - 2).tdiv 2)=(k:Int):=by
  rw [Int.tdiv_eq_ediv_of_nonneg (by omega),iB (by omega) (by omega),hk];omega
 refine aH<|Sr<|Dd aF<|Dd aF<|Dd (by exact dS rfl rfl rfl (iB (by omega) (by omega)))<|Dd (by exact m0 rfl rfl rfl (by decide) hkq)<|Dd (by exact jV (id:=1101) fF rfl rfl)<|Dd (MX XA)<|Dd (by exact f7 (id:=1100) rfl rfl rfl rfl rfl)<|Dd aR<|Zz<|Sq ?_;refine fP.ent (E':=[(0,.ref 1000 0 0 0),(6,.ref 1100 0 0 0)]) (H':=sH d (b4 k 0 0 false) (bJ [] 0)) (bY.wk (Ea<|Ea<|trivial) (Hc (aE _ _ rfl rfl rfl)<|Hc (aC _ _)<|Hc (aL _ _ _)<|Hc (aI _ _)<|Hc (bC rfl rfl)<|Hc (aS _ _ _)<|trivial) ⟨rfl,rfl,rfl,rfl,trivial⟩) ?_;obtain ⟨h1,hh1⟩:∃ b,b=gC k 1 (bK d 1):=⟨_,rfl⟩;obtain ⟨h0,hh0⟩:∃ b,b=gC k 0 (bK d 0):=⟨_,rfl⟩;rw [← hh1] at hp1;rw [← hh0] at hp0;have hHe:hd=(h1||h0):=by rw [hH,tE,iW,← hh1,← hh0]
 have hAe:a=if h1 then nS (bK d 1)else if h0 then nS (bK d 0)else 0:=by rw [hA,xW,iW,← hh1,← hh0]
 have hNe:n=if h1 then nR (bK d 1)else if h0 then nR (bK d 0)else 0:=by rw [hNn,xV,iW,← hh1,← hh0]
 have hld:=R8 d hs hoff k a n false hbd.1 hbd.2 (by omega);refine Rg<|Dd aF<|Dd (by exact aB rfl rfl call42 rfl (hp1))<|Dd aF<|Dd dU<|Dd dU<|Dd (by exact bZ (id:=7) rfl M1 rfl rfl)<|Uu (oX sizeOf70)<|Da ?_;refine nH (fun(q:Nat×Nat)=>([(0,.ref 1000 0 0 0),(6,.ref 1100 0 0 0),(7,.ref 7 0 0 0),(8,bv hd)],(7,XN q.1 q.2)::sH d (b4 k 0 0 false) (bJ [] 0))) (fun q=>hd=true→q.1=a∧q.2=n) ?_ ?_
 ·refine Sr<|Dd aF<|Dd xX<|Zz ?_;refine Cn ?_ ?_<;>intro hc5
  ·have e1:h1=false:=by have h:=hc5;simpa using h
   refine Rg<|Dd aF<|Dd (by exact aB rfl rfl call42 rfl (jA hp0 _ ⟨rfl,rfl,rfl,rfl,rfl,rfl,trivial⟩ (by simp;rfl)))<|Dd aF<|Dd dU<|Dd dU<|Uu (oX sizeOf70)<|Da ?_;refine⟨(nS (bK d 0),nR (bK d 0)),fun hh=>?_,?_⟩
   ·rw [e1] at hHe hAe hNe;rw [hHe] at hh;have e0:h0=true:=hh;rw [e0] at hAe hNe;exact⟨hAe.symm,hNe.symm⟩
   rw [show hd=h0 by rw [hHe,e1];rfl];exact(bY.wk (Ea<|Ea<|Ea<|Eb<|trivial) (Hb<|Hc (aE _ _ rfl rfl rfl)<|Hc (aC _ _)<|Hc (aL _ _ _)<|Hc (aI _ _)<|Hc (bC rfl rfl)<|Hc (aS _ _ _)<|trivial) ⟨rfl,rfl,rfl,rfl,trivial⟩)
  have e1:h1=true:=by have h:=hc5;simpa using h
  refine aH ?_;refine⟨(nS (bK d 1),nR (bK d 1)),fun hh=>?_,?_⟩
  ·rw [e1] at hAe hNe;exact⟨hAe.symm,hNe.symm⟩
  rw [show hd=h1 by rw [hHe,e1];rfl];exact(bY.wk (Ea<|Ea<|Ea<|Eb<|trivial) (Hb<|Hc (aE _ _ rfl rfl rfl)<|Hc (aC _ _)<|Hc (aL _ _ _)<|Hc (aI _ _)<|Hc (bC rfl rfl)<|Hc (aS _ _ _)<|trivial) ⟨rfl,rfl,rfl,rfl,trivial⟩)
 rintro⟨a',n'⟩ hq0;have hq0:hd=true→a'=a∧n'=n:=hq0;refine Sr<|Dd aF<|Dd (by exact aB rfl rfl sU rfl (hrd0 _ ⟨rfl,rfl,rfl,rfl,trivial⟩))<|Dd aF<|Dd dU<|Dd dU<|Dd aR<|Da ?_;refine nH (fun(_:Unit)=>([(0,.ref 1000 0 0 0),(6,.ref 1100 0 0 0),(7,.ref 7 0 0 0),(8,bv hd),(9,sv (bK d 0))],(7,XN a n)::sH d (b4 k 0 0 false) (bJ [] 0))) (fun _=>True) ?_ ?_
 ·refine Sr<|Dd aF<|Dd xX<|Zz ?_;refine Cn ?_ ?_<;>intro hc6
  ·have e1:hd=false:=by have h:=hc6;simpa using h
   rw [hHe,Y3] at e1;have ha0:a=0:=by rw [hAe,e1.1,e1.2];rfl
   have hn0:n=0:=by rw [hNe,e1.1,e1.2];rfl
   rw [ha0,hn0];refine Rg<|Dd (MX MA)<|Uu (oX sizeOf70)<|Zz ?_;exact⟨(),trivial,(bY.wk (Ea<|Ea<|Ea<|Eb<|Eb<|trivial) (Hb<|Hc (aE _ _ rfl rfl rfl)<|Hc (aC _ _)<|Hc (aL _ _ _)<|Hc (aI _ _)<|Hc (bC rfl rfl)<|Hc (aS _ _ _)<|trivial) ⟨rfl,rfl,rfl,rfl,trivial⟩)⟩
  have e1:hd=true:=by have h:=hc6;simpa using h
  obtain ⟨rfl,rfl⟩:=hq0 e1;refine aH ?_;exact⟨(),trivial,(bY.wk (Ea<|Ea<|Ea<|Eb<|Eb<|trivial) (Hb<|Hc (aE _ _ rfl rfl rfl)<|Hc (aC _ _)<|Hc (aL _ _ _)<|Hc (aI _ _)<|Hc (bC rfl rfl)<|Hc (aS _ _ _)<|trivial) ⟨rfl,rfl,rfl,rfl,trivial⟩)⟩
 rintro _ -;clear hHe hAe hNe hq0 hp1 hp0 hh1 hh0 hA hNn hH;refine nH (fun(q:bT×Nat)=>([(6,.ref 1100 0 0 0),(8,bv hd)],sH d (b4 k a n false) (bJ q.1 q.2))) (fun q=>iY d k=false∧dQ q.1 q.2∧fD q.1∧q.1.length≤46*n∧∀ x,cT q.1 x=FB d k a n x) ?_ ?_
 ·refine Sr<|Dd aF<|Dd (R9 cK sizeOf70)<|Dd eX<|Dd (dP kZ)<|Uu (by exact HS rfl sizeOf70 rfl rfl rfl rfl rfl rfl rfl (by simp only [YJ,List.length_nil];omega) (by simp only [Zl,encStr];rfl) (by simp only [Zl,encStr];rfl))<|Zz<|Sq ?_;refine fP.ent (E':=[(0,.ref 1000 0 0 0),(6,.ref 1100 0 0 0),(8,bv hd),(9,sv (bK d 0))]) (H':=sH d (b4 k a n false) (bJ [] 0)) (bY.wk (Ea<|Ea<|Eb<|Eb<|trivial) (Hc (aE _ _ rfl rfl rfl)<|Hc (aC _ _)<|Hc (aL _ _ _)<|Hc (aI _ _)<|Hc (bC rfl rfl)<|Hc (aS _ _ _)<|trivial) ⟨rfl,rfl,rfl,rfl,trivial⟩) ?_;obtain ⟨ok,hok⟩:∃ ok,ok=oI d k a n:=⟨_,rfl⟩;rw [← hok] at hld hbad;clear hok;cases hd with
  | true =>
   refine Rg<|Dd aF<|Dd xX<|Dd aF<|Fo<|Fo<|Fo<|Dd fN<|Dd aF<|On aF ?_;refine JS rfl rfl rfl (by rfl) rfl (aB rfl rfl call44 rfl hld) ?_;rintro _ _ ⟨rfl,l,c,q1,q2,q3,q4,rfl⟩;refine On xX<|Dd fN<|Zz ?_;refine Cn ?_ ?_<;>intro hc7
   ·have hok:ok=false:=by have h:=hc7;simpa using h
    refine Sr<|Dd aR<|Dd aR<|Zz<|aM ?_;refine fO (H':=(aY d)) (.inr rfl) rfl (aG rfl) (aG rfl) (Fin.wk (by(simp;done)) (Hc (aE _ _ rfl rfl rfl)<|Hc (aC _ _)<|Hc (aL _ _ _)<|Hc (aI _ _)<|trivial) ⟨rfl,rfl,rfl,rfl,trivial⟩) ?_;exact .inl ⟨by rw [hbad,hok];rfl,rfl,rfl⟩
   have hok:ok=true:=by have h:=hc7;simpa using h
   refine aH ?_;exact⟨(l,c),⟨by rw [hbad,hok];rfl,q1,q2,q3,q4 hok⟩,(bY.wk (Ea<|Eb<|trivial) (Hc (aE _ _ rfl rfl rfl)<|Hc (aC _ _)<|Hc (aL _ _ _)<|Hc (aI _ _)<|Hc (bC rfl rfl)<|Hc (aS _ _ _)<|trivial) ⟨rfl,rfl,rfl,rfl,trivial⟩)⟩
  | false =>
   cases g69:(!decide (bK d 0=ofL (zB 64)))with
   | true =>
    have hbt:iY d k=true:=by
     rw [hbad,show decide (bK d 0=zS)=false by rw [Bool.not_eq_true'] at g69;exact g69];rfl
    refine Rg<|Dd aF<|Dd xX<|Dd aF<|On aF<|On (by exact aB rfl rfl nZ rfl (nF _))<|On NP<|Dd fN<|Dd aF<|Fa<|Fa<|Fa<|Dd TK<|Zz ?_;refine Cn ?_ ?_<;>intro hc8
    ·refine Sr<|Dd aR<|Dd aR<|Zz<|aM ?_;refine fO (H':=(aY d)) (.inr rfl) rfl (aG rfl) (aG rfl) (Fin.wk (by(simp;done)) (Hc (aE _ _ rfl rfl rfl)<|Hc (aC _ _)<|Hc (aL _ _ _)<|Hc (aI _ _)<|trivial) ⟨rfl,rfl,rfl,rfl,trivial⟩) ?_;exact .inl ⟨hbt,rfl,rfl⟩
    ((cases hc8;done))
   | false =>
    have hz:decide (bK d 0=zS)=true:=by rw [Bool.not_eq_false'] at g69;exact g69
    rw [hz] at hbad;refine Rg<|Dd aF<|Dd xX<|Dd aF<|On aF<|On (by exact aB rfl rfl nZ rfl (nF _))<|On NP<|Dd fN<|Dd aF<|Oa aF ?_;refine JS rfl rfl rfl (by assumption) rfl (aB rfl rfl call44 rfl hld) ?_;rintro _ _ ⟨rfl,l,c,q1,q2,q3,q4,rfl⟩;refine Oa xX<|Dd KQ<|Zz ?_;refine Cn ?_ ?_<;>intro hc9
    ·have hok:ok=false:=by have h:=hc9;simpa using h
     refine Sr<|Dd aR<|Dd aR<|Zz<|aM ?_;refine fO (H':=(aY d)) (.inr rfl) rfl (aG rfl) (aG rfl) (Fin.wk (by(simp;done)) (Hc (aE _ _ rfl rfl rfl)<|Hc (aC _ _)<|Hc (aL _ _ _)<|Hc (aI _ _)<|trivial) ⟨rfl,rfl,rfl,rfl,trivial⟩) ?_;exact .inl ⟨by rw [hbad,hok];rfl,rfl,rfl⟩
    have hok:ok=true:=by have h:=hc9;simpa using h
    refine aH ?_;exact⟨(l,c),⟨by rw [hbad,hok];rfl,q1,q2,q3,q4 hok⟩,(bY.wk (Ea<|Eb<|trivial) (Hc (aE _ _ rfl rfl rfl)<|Hc (aC _ _)<|Hc (aL _ _ _)<|Hc (aI _ _)<|Hc (bC rfl rfl)<|Hc (aS _ _ _)<|trivial) ⟨rfl,rfl,rfl,rfl,trivial⟩)⟩
 rintro⟨l,c⟩ ⟨hbf,q1,q2,q3,q4⟩;have hl0:([[PV.int .i64 1],[PV.int .i64 0]]:List (List PV))[0]?=some [PV.int .i64 1]:=rfl;have hl1:([[PV.int .i64 1],[PV.int .i64 0]]:List (List PV))[1]?=some [PV.int .i64 0]:=rfl;have hr1:=zG h.inv hoff k a n 1 false hd l c (by decide) (by omega) (by omega) (by omega);have hon:=UA (place:=1) (a:=a) (n:=n) (hd:=hd) h (by omega) (by omega) (by omega);obtain ⟨x,hx⟩:∃ x,x=qF d 1 a n hd:=⟨_,rfl⟩;rw [← hx] at hr1 hon ⊢;obtain ⟨y,hy⟩:∃ y,y=qF x.2 0 a n hd:=⟨_,rfl⟩;rw [← hy];refine Sq<|Sr<|Dd (by exact bF [[.int .i64 1],[.int .i64 0]] rfl J7 rfl rfl rfl rfl rfl (by simp))<|Dd (mB MO)<|Dd aF<|Zz<|aO ?_;refine bM (σ:=Nat) (fun i=>([(6,.ref 1100 0 0 0),(8,bv hd),(76,.pv (.sl [[.int .i64 1],[.int .i64 0]])),(77,iv 2),(78,iv (i:Int))],sH (XK d x.2 y.2 i) (b4 k a n false) (bJ l c))) (fun i=>i≤2∧(0 < i→x.1=0)∧(1 < i→y.1=0)) (fun i=>2 - i) 0 ⟨by omega,fun h=>absurd h (Nat.lt_irrefl _),fun h=>absurd h (by omega)⟩ ?_ ?_
 ·exact(bY.wk (Ea<|Eb<|Eb<|Eb<|Eb<|trivial) (Hc (aE _ _ rfl rfl rfl)<|Hc (aC _ _)<|Hc (aL _ _ _)<|Hc (aI _ _)<|Hc (bC rfl rfl)<|Hc (aS _ _ _)<|trivial) ⟨rfl,rfl,rfl,rfl,trivial⟩)
 rintro i ⟨hi2,hx0,hy0⟩;have h3:i=0∨i=1∨i=2:=by omega
 rcases h3 with rfl|rfl|rfl
 ·refine Sr<|Dd dO<|Zz<|Sq ?_;refine Cn ?_ ?_<;>intro hc10
  ·refine aH<|Sq<|aO<|Sr<|Dd (by exact bP (m:=0) rfl J7 rfl rfl (by decide) rfl rfl rfl)<|Dd (nL aT)<|Dd aR<|Zz<|Sr<|Dd aF<|Dd aF<|Dd aF<|Dd (by exact aB rfl rfl call45 rfl (hr1))<|Dd aR<|Zz<|Sr<|Dd aF<|Dd tF<|Zz ?_;refine Cn ?_ ?_<;>intro hc11
   ·have he:¬ x.1=0:=by have h:=hc11;simpa using h
    refine Sr<|Dd aF<|Dd aR<|Dd aR<|Zz<|aM ?_;refine fO (H':=(aY x.2)) (.inr rfl) rfl (aG rfl) (aG rfl) (Fin.wk (by(simp;done)) (Hc (aE _ _ rfl rfl rfl)<|Hc (aC _ _)<|Hc (aL _ _ _)<|Hc (aI _ _)<|trivial) ⟨rfl,rfl,rfl,rfl,trivial⟩) ?_;exact .inr (.inl ⟨hbf,he,rfl,rfl⟩)
   have he:x.1=0:=by have h:=hc11;simpa using h
   have hb:(false||!decide (x.1=0))=false:=by rw [he];rfl
   rw [hb];refine aH<|Rg<|Dd mU<|Dd aF<|Zz ?_;refine⟨1,⟨by omega,fun _=>he,fun h=>absurd h (by omega)⟩,by omega,?_⟩;exact(bY.wk (Ea<|Eb<|Eb<|Eb<|Eb<|trivial) (Hc (aE _ _ rfl rfl rfl)<|Hc (aC _ _)<|Hc (aL _ _ _)<|Hc (aI _ _)<|Hc (bC rfl rfl)<|Hc (aS _ _ _)<|trivial) ⟨rfl,rfl,rfl,rfl,trivial⟩)
  cases hc10
 ·have he0:=hx0 (by omega);have hon:=hon he0;have hr0:=zG hon.inv hon.off k a n 0 false hd l c (by decide) (by have:=hon.inv.n;omega) (by omega) (by omega);rw [← hy] at hr0;refine Sr<|Dd dO<|Zz<|Sq ?_;refine Cn ?_ ?_<;>intro hc12
  ·refine aH<|Sq<|aO<|Sr<|Dd (by exact bP (m:=1) rfl J7 rfl rfl (by decide) rfl rfl rfl)<|Dd (nL aT)<|Dd aR<|Zz<|Sr<|Dd aF<|Dd aF<|Dd aF<|Dd (by exact aB rfl rfl call45 rfl (hr0))<|Dd aR<|Zz<|Sr<|Dd aF<|Dd tF<|Zz ?_;refine Cn ?_ ?_<;>intro hc13
   ·have he:¬ y.1=0:=by have h:=hc13;simpa using h
    refine Sr<|Dd aF<|Dd aR<|Dd aR<|Zz<|aM ?_;refine fO (H':=(aY y.2)) (.inr rfl) rfl (aG rfl) (aG rfl) (Fin.wk (by(simp;done)) (Hc (aE _ _ rfl rfl rfl)<|Hc (aC _ _)<|Hc (aL _ _ _)<|Hc (aI _ _)<|trivial) ⟨rfl,rfl,rfl,rfl,trivial⟩) ?_;exact .inr (.inr (.inl ⟨hbf,he0,he,rfl,rfl⟩))
   have he:y.1=0:=by have h:=hc13;simpa using h
   have hb:(false||!decide (y.1=0))=false:=by rw [he];rfl
   rw [hb];refine aH<|Rg<|Dd mU<|Dd aF<|Zz ?_;refine⟨2,⟨by omega,fun _=>he0,fun _=>he⟩,by omega,?_⟩;exact(bY.wk (Ea<|Eb<|Eb<|Eb<|Eb<|trivial) (Hc (aE _ _ rfl rfl rfl)<|Hc (aC _ _)<|Hc (aL _ _ _)<|Hc (aI _ _)<|Hc (bC rfl rfl)<|Hc (aS _ _ _)<|trivial) ⟨rfl,rfl,rfl,rfl,trivial⟩)
  cases hc12
 have he0:=hx0 (by omega);have he1:=hy0 (by omega);refine Sr<|Dd dO<|Zz<|Sq ?_;refine Cn ?_ ?_<;>intro hc14
 ·cases hc14
 refine bI<|Sr<|Dd aF<|Dd aR<|Dd aR<|Zz<|aM ?_;refine fO (H':=(sH y.2 (b4 k a n false) (bJ l c))) (.inr rfl) rfl (aG rfl) (aG rfl) (Fin.wk (by(simp;rfl)) (Hc (aE _ _ rfl rfl rfl)<|Hc (aC _ _)<|Hc (aL _ _ _)<|Hc (aI _ _)<|Hc (bC rfl rfl)<|Hc (aS _ _ _)<|trivial) ⟨rfl,rfl,rfl,rfl,trivial⟩) ?_;exact .inr (.inr (.inr ⟨hbf,he0,he1,rfl,l,c,q1,q2,q3,q4,rfl⟩))
end Go.Proofs.YtmkgeogoojcciaaGreatDoor
section
namespace Go.Abs
theorem bV.eqv {P:Program} {N:Nat} {o:Oper} {E:bD} {H H':aA} {v v':AV} (h:bV P N o E H v H') (e:v=v'):bV P N o E H v' H':=e▸h
end Go.Abs
namespace Go.Proofs.YtmkgeogoojcciaaGreatDoor
open Go.Proofs.Tryz
open Go.Abs Go.Lib
theorem GY (d:DSt) (k a n:Nat) (b:Bool) (l:bT) (c:Nat) (key:ByteArray) :
  aJ Tryz.prog 24 [.ref 1100 0 0 0,sv key] (sH d (b4 k a n b) (bJ l c)) (fun r H'=>r=.tup [sv (dA l key),bv (cT l key).isSome]∧H'=sH d (b4 k a n b) (bJ l c)):=by
 have hr:(.tup [((kY (EC (bQ l)) key).getD (sv sNil)),.pv (.bool (kY (EC (bQ l)) key).isSome)]:AV)=.tup [sv (dA l key),bv (cT l key).isSome]:=by
  rw [BQ,tG]
 refine Bd func24 rfl ntmps24<|Sr<|Dd aR<|Dd aR<|Zz<|Sq<|Sr<|Dd aF<|Dd (by exact cJ rfl eR rfl rfl rfl rfl)<|Zz ?_;refine Cn ?_ ?_<;>intro hc1
 ·cases hc1
 refine aH<|Sr<|Dd aF<|Dd eX<|Dd (dP qN)<|Dd (eF bS)<|Dd aF<|Dd (by exact bV.eqv (EF (κ:=fF) (k:=key) (l:=bQ l) rfl aU aK rfl rfl rfl rfl rfl eU (.inl rfl)) hr)<|Dd aF<|Dd dU<|Dd dU<|Dd aR<|Dd aR<|Zz<|Sr<|Dd aF<|Dd aF<|Dd aR<|Dd aR<|Zz<|aM ?_;refine fO (H':=(sH d (b4 k a n b) (bJ l c))) (.inr rfl) rfl (aG rfl) (aG rfl) (Fin.wk (by(simp;done)) (Hc (aE _ _ rfl rfl rfl)<|Hc (aC _ _)<|Hc (aL _ _ _)<|Hc (aI _ _)<|Hc (bC rfl rfl)<|Hc (aS _ _ _)<|trivial) ⟨rfl,rfl,rfl,rfl,rfl,rfl,trivial⟩) ?_;exact Qq
theorem IV (d:DSt) (k a n:Nat) (b:Bool) (l:bT) (c:Nat) (hst:dQ l c) (hl:l.length < 1099511627776) :
  aJ Tryz.prog 19 [.ref 1100 0 0 0] (sH d (b4 k a n b) (bJ l c)) (fun r H'=>r=.pv (aX (cH l))∧H'=sH d (b4 k a n b) (bJ l c)):=by
 have hcl:bE ((951,Q0 1101)::sH d (b4 k a n b) (bJ l c)):=bE.app (D:=[(951,Q0 1101)]) (kI.spec ⟨by
  intro r hr x hx;simp only [bx,YK] at hr;subst hr;rw [YK] at hx;subst hx;exact .mp rfl,trivial⟩) (oY _ _ _ _ _ _ _)
 have hso:=A1 (L:=l.map Prod.fst) (by rw [YH];exact hl) XH ((951,Q0 1101)::sH d (b4 k a n b) (bJ l c)) (IU 1101 l c _ hl hst rfl rfl (by decide)) rfl rfl rfl rfl hcl (by simp;rfl);change aJ _ _ _ _ fun r H'=>r=.pv (aX (cH l))∧H'=_ at hso;refine Bd func19 rfl ntmps19<|Sr<|Dd aR<|Zz<|Sq<|Sr<|Dd aF<|Dd (by exact cJ rfl eR rfl rfl rfl rfl)<|Zz ?_;refine Cn ?_ ?_<;>intro hc1
 ·cases hc1
 refine aH<|Sr<|Dd aF<|Dd eX<|Dd (dP qN)<|Dd (eF bS)<|Dd (by exact aB rfl rfl XU rfl (IT 1101 _ rfl rfl))<|Dd (by exact aB rfl rfl CP rfl (hso))<|Dd aR<|Zz<|aM ?_;refine a8 (H':=(sH d (b4 k a n b) (bJ l c))) (.inr rfl) rfl (aG rfl) (Fin.wk (by(simp;done)) (Hc (aE _ _ rfl rfl rfl)<|Hc (aC _ _)<|Hc (aL _ _ _)<|Hc (aI _ _)<|Hc (bC rfl rfl)<|Hc (aS _ _ _)<|trivial) ⟨rfl,rfl,rfl,rfl,rfl,rfl,trivial⟩) ?_;exact Qq
end Go.Proofs.YtmkgeogoojcciaaGreatDoor
end
namespace Go.Proofs.YtmkgeogoojcciaaGreatDoor
open Go.Proofs.Tryz
open Go.Abs Go.Lib
theorem pB {d:DSt} {N k a n:Nat} {C:CT} (hc:Calm d N) (hI:SInv d.cells k a n C) (hN:4≤N) (hk:k=(N - 2) / 2) :
  aJ Tryz.prog 12 [.ref 1000 0 0 0] (aY d) (fun r H'=>r=.tup [.ref 1100 0 0 0,iv 0]∧∃ l c,dQ l c∧fD l∧l.length≤46*n∧(∀ x,cT l x=C x)∧H'=sH d (b4 k a n false) (bJ l c)):=by
 have hn2:=hc.inv.ok.n2;have hcn:=hc.inv.n;obtain ⟨o1,o2,o3,o4,o5,o6,o7⟩:=AT hc hI (by omega);have ho:=IH hc.on hN k a n (tE d k) hk o1.symm o2.symm rfl;have hb:iY d k=false:=by
  rw [iY,o1,o2,o4];rcases o3 with o3|o3
  ·rw [o3];rfl
  rw [o3.1,o3.2,decide_eq_true rfl];rfl
 have r1:qF d 1 a n (tE d k)=(0,d):=by rw [qF,YG o6]
 have r0:qF d 0 a n (tE d k)=(0,d):=by rw [qF,YG o7]
 rw [hb,r1,r0] at ho;refine ho.mono ?_;rintro r H' (⟨h,_⟩|⟨_,h,_⟩|⟨_,_,h,_⟩|⟨_,_,_,rfl,l,c,q1,q2,q3,q4,rfl⟩)
 ·cases h
 ·exact absurd rfl h
 ·exact absurd rfl h
 exact⟨rfl,l,c,q1,q2,q3,fun x=>by rw [q4,o5],rfl⟩
theorem oG {s:ByteArray} (h:eE s=true):s.size≤200:=by rw [eE,YQ,YO] at h;have:=h.2;omega
theorem uC {l2:bT} {P:List ByteArray} (hw:bH l2 P=0) (hl:l2.length≤1000) (hP:P.length≤1000):(bB l2 (fM P)).length < 100000000:=by
 obtain ⟨k1,k2⟩:=mV hw;have hD:=sG P;have h:=n7 (l:=l2) (P:=fM P) (M:=20000) (by decide) (by decide) (fun p hp=>by
  have:=k1 p hp;have:=oG this.1;omega) (fun s hs=>by
  have:=oG (k2 s (pJ.1 hs));omega) (by omega)
 have h8:(2*l2.length+2+(fM P).length)*(20000+22)≤3002*20022:=Nat.mul_le_mul (by omega) (by omega);omega
theorem FU {cells:List ByteArray} {k a n:Nat} {C:CT} (hI:SInv cells k a n C) (hk:k < 4000) {l:bT} (hn:fD l) (hl:∀ x,cT l x=C x):(bB l []).length < 100000000000:=by
 have hw:=hI.wrong hn hl;have hlen:=hI.len hn hl;have hnk:=hI.nk;obtain ⟨k1,k2⟩:=mV hw;have h:=n7 (l:=l) (P:=[]) (M:=20000) (by decide) (by decide) (fun p hp=>by
  have:=k1 p hp;have:=oG this.1;omega) (fun s hs=>by cases hs) (by rw [List.length_nil];omega)
 have h8:(2*l.length+2+([]:List ByteArray).length)*(20000+22)≤400000*20022:=Nat.mul_le_mul (by rw [List.length_nil];omega) (by omega);omega
def yX (k n:Nat) (l2:bT) (P:List ByteArray):Int:=if vE k n false l2 P = -1 then 0 else vE k n false l2 P
theorem EN {C:CT} {l2:bT} {D:List ByteArray} (h:l2.length+D.length=0):pZ C l2 D=C:=by have h1:l2=[]:=List.length_eq_zero_iff.1 (by omega);have h2:D=[]:=List.length_eq_zero_iff.1 (by omega);subst h1 h2;funext x;rw [pZ,YF YX];show ((none:Option ByteArray).orElse fun _=>C x)=C x;rfl
theorem mR (k n:Nat) (l2:bT) (P:List ByteArray) :
  (vE k n false l2 P=0∧bH l2 P=0∧l2.length+(fM P).length=0)∨(vE k n false l2 P = -1∧bH l2 P=0∧0 < l2.length+(fM P).length∧n+cN (bB l2 (fM P))≤k) ∨
  (vE k n false l2 P=21∧bH l2 P=0∧0 < l2.length+(fM P).length∧k < n+cN (bB l2 (fM P)))∨(vE k n false l2 P=bH l2 P∧¬ bH l2 P=0):=by
 have e:vE k n false l2 P=if ¬ bH l2 P=0 then bH l2 P else if l2.length+(fM P).length=0 then 0 else if k < n+cN (bB l2 (fM P))then 21 else -1:=YF Bool.false_ne_true
 rw [e];by_cases h1:bH l2 P=0
 ·rw [YF (fun h=>h h1)];by_cases h2:l2.length+(fM P).length=0
  ·rw [YG h2];exact .inl ⟨rfl,h1,h2⟩
  rw [YF h2];by_cases h3:k < n+cN (bB l2 (fM P))
  ·rw [YG h3];exact .inr (.inr (.inl ⟨rfl,h1,by omega,h3⟩))
  rw [YF h3];exact .inr (.inl ⟨rfl,h1,by omega,by omega⟩)
 rw [YG h1];exact .inr (.inr (.inr ⟨rfl,h1⟩))
structure St (N k:Nat) (tl:List ByteArray) (d:DSt) (a n:Nat) (l:bT) (c:Nat) (C:CT):Prop where
 calm:Calm d N
 inv:SInv d.cells k a n C
 st:dQ l c
 nd:fD l
 kv:∀ x,cT l x=C x
 tl:d.cells.drop (2*k+2)=tl
theorem U2 {cells S:List ByteArray} {p k:Nat} {x y:ByteArray} (h:p+S.length≤2*k+2):(((j9 cells p S).set 1 x).set 0 y).drop (2*k+2)=cells.drop (2*k+2):=by refine List.ext_getElem? fun j=>?_;rw [List.getElem?_drop,List.getElem?_drop,List.getElem?_set_ne (by omega),List.getElem?_set_ne (by omega),iH,YF (by omega)]
theorem NM {N k:Nat} {tl:List ByteArray} {d:DSt} {a n:Nat} {l l':bT} {c c':Nat} {C:CT} (h:St N k tl d a n l c C) (hk:k < 4000) {l2:bT} {P:List ByteArray} (hn2:fD l2) (hw:bH l2 P=0) (h0:0 < l2.length+(fM P).length) (hfit:n+cN (bB l2 (fM P))≤k) (q1:dQ l' c') (q2:fD l') (q4:∀ x,cT l' x=pZ (cT l) l2 (fM P) x) :
  (iX d k a n (bB l2 (fM P))).1=0∧St N k tl (iX d k a n (bB l2 (fM P))).2 a (n+cN (bB l2 (fM P))) l' c' (pZ C l2 (fM P)):=by
 have hkn:=h.inv.kn;have hcn:=h.calm.inv.n;have hak:a*k≤k:=by
  have:=h.inv.a2;rcases(show a=0∨a=1 by omega)with e|e<;>subst e<;>omega
 obtain ⟨a1,a2,a3⟩:=sJ h.calm (k:=k) (a:=a) (cn:=n) (t:=bB l2 (fM P)) (by omega) (by have:=h.calm.inv.ok.n2;omega) h.inv.a2 hfit;have hw2:bH l2 (fM P)=0:=by
  obtain ⟨k1,k2⟩:=mV hw;exact wL (fun p hp=>⟨(k1 p hp).1,fun hm=>(k1 p hp).2.1 (pJ.1 hm),(k1 p hp).2.2⟩) (fun s hs=>k2 s (pJ.1 hs))
 refine⟨a1,a2,?_,q1,q2,fun x=>?_,?_⟩
 ·rw [a3];exact NT h.inv hn2 (xI P) h0 hw2 hfit (by omega)
 ·rw [q4,pZ,pZ,h.kv]
 rw [a3,U2 (by rw [cY];omega)];exact h.tl
theorem jZ {N k:Nat} {tl:List ByteArray} {d:DSt} {a n:Nat} {l:bT} {c:Nat} {C:CT} (h:St N k tl d a n l c C) (hk:k < 4000) (l2:bT) (c2:Nat) (P:List ByteArray) (hst2:dQ l2 c2) (hnd2:fD l2) (hl2:l2.length≤1000) (hP:P.length≤1000) :
  aJ Tryz.prog 14 [.ref 1100 0 0 0,.mp 950 0,.pv (aX P)] ((950,bJ l2 c2)::sH d (b4 k a n false) (bJ l c)) (fun r H'=>r=iv (yX k n l2 P)∧∃ d' n' l' c',St N k tl d' a n' l' c' (if yX k n l2 P=0 then pZ C l2 (fM P)else C)∧n'=(if vE k n false l2 P = -1 then n+cN (bB l2 (fM P))else n)∧H'=(950,bJ l2 c2)::sH d' (b4 k a n' false) (bJ l' c')):=by
 have hcm:=LX h.calm.inv k a n false l c l2 c2 P hk h.inv.a2 h.inv.nk (by omega) h.st h.nd hst2 hnd2 (by omega) (by omega) (fun hw=>uC hw hl2 hP);refine hcm.mono ?_;have hcs:=mR k n l2 P;rintro r H' (⟨h1,rfl,rfl⟩|⟨h1,h2,rfl,rfl⟩|⟨h1,h2,rfl,l',c',q1,q2,q3,q4,rfl⟩)
 ·have hE:yX k n l2 P=vE k n false l2 P:=YF h1;rw [hE,YF h1];refine⟨rfl,d,n,l,c,?_,rfl,rfl⟩;rcases hcs with⟨e1,e2,e3⟩|⟨e1,_⟩|⟨e1,_⟩|⟨e1,e2⟩
  ·rw [YG e1,EN e3];exact h
  ·exact absurd e1 h1
  ·rw [YF (by rw [e1];decide)];exact h
  rw [YF (by rw [e1];exact e2)];exact h
 ·exfalso;rcases hcs with⟨e1,_⟩|⟨e1,e2,e3,e4⟩|⟨e1,_⟩|⟨e1,e2⟩
  ·rw [h1] at e1;cases e1
  ·exact h2 (sJ h.calm (k:=k) (a:=a) (cn:=n) (t:=bB l2 (fM P)) (by have:=h.inv.kn;have:=h.calm.inv.n;omega) (by have:=h.calm.inv.ok.n2;have:=h.calm.inv.n;omega) h.inv.a2 e4).1
  ·rw [h1] at e1;cases e1
  rw [h1] at e1;have:=e9 l2 P;omega
 have hE:yX k n l2 P=0:=YG h1;rw [hE,YG rfl,YG h1];rcases hcs with⟨e1,_⟩|⟨e1,e2,e3,e4⟩|⟨e1,_⟩|⟨e1,e2⟩
 ·rw [h1] at e1;cases e1
 ·exact⟨rfl,_,_,l',c',(NM h hk hnd2 e2 e3 e4 q1 q2 q4).2,rfl,rfl⟩
 ·rw [h1] at e1;cases e1
 rw [h1] at e1;have:=e9 l2 P;omega
theorem CG {N k:Nat} {tl:List ByteArray} {d:DSt} {a n:Nat} {l:bT} {c:Nat} {C:CT} (h:St N k tl d a n l c C) (hk:k < 4000) (P:List ByteArray) (hP:P.length≤1000) :
  aJ Tryz.prog 14 [.ref 1100 0 0 0,.pv .nilm,.pv (aX P)] (sH d (b4 k a n false) (bJ l c)) (fun r H'=>r=iv (yX k n [] P)∧∃ d' n' l' c',St N k tl d' a n' l' c' (if yX k n [] P=0 then pZ C [] (fM P)else C)∧n'=(if vE k n false [] P = -1 then n+cN (bB [] (fM P))else n)∧H'=sH d' (b4 k a n' false) (bJ l' c')):=by
 have hcm:=LY h.calm.inv k a n false l c P hk h.inv.a2 h.inv.nk (by omega) h.st h.nd (by omega) (fun hw=>uC hw (by decide) hP);refine hcm.mono ?_;have hcs:=mR k n [] P;rintro r H' (⟨h1,rfl,rfl⟩|⟨h1,h2,rfl,rfl⟩|⟨h1,h2,rfl,l',c',q1,q2,q3,q4,rfl⟩)
 ·have hE:yX k n [] P=vE k n false [] P:=YF h1;rw [hE,YF h1];refine⟨rfl,d,n,l,c,?_,rfl,rfl⟩;rcases hcs with⟨e1,e2,e3⟩|⟨e1,_⟩|⟨e1,_⟩|⟨e1,e2⟩
  ·rw [YG e1,EN e3];exact h
  ·exact absurd e1 h1
  ·rw [YF (by rw [e1];decide)];exact h
  rw [YF (by rw [e1];exact e2)];exact h
 ·exfalso;rcases hcs with⟨e1,_⟩|⟨e1,e2,e3,e4⟩|⟨e1,_⟩|⟨e1,e2⟩
  ·rw [h1] at e1;cases e1
  ·exact h2 (sJ h.calm (k:=k) (a:=a) (cn:=n) (t:=bB [] (fM P)) (by have:=h.inv.kn;have:=h.calm.inv.n;omega) (by have:=h.calm.inv.ok.n2;have:=h.calm.inv.n;omega) h.inv.a2 e4).1
  ·rw [h1] at e1;cases e1
  rw [h1] at e1;have:=e9 [] P;omega
 have hE:yX k n [] P=0:=YG h1;rw [hE,YG rfl,YG h1];rcases hcs with⟨e1,_⟩|⟨e1,e2,e3,e4⟩|⟨e1,_⟩|⟨e1,e2⟩
 ·rw [h1] at e1;cases e1
 ·exact⟨rfl,_,_,l',c',(NM h hk wD e2 e3 e4 q1 q2 q4).2,rfl,rfl⟩
 ·rw [h1] at e1;cases e1
 rw [h1] at e1;have:=e9 [] P;omega
def TH (k:Nat) (l:bT):Int:=if k < cN (b7 l)then 21 else 0
theorem qB {N k:Nat} {tl:List ByteArray} {d:DSt} {a n:Nat} {l:bT} {c:Nat} {C:CT} (h:St N k tl d a n l c C) (hk:k < 4000) :
  aJ Tryz.prog 21 [.ref 1100 0 0 0] (sH d (b4 k a n false) (bJ l c)) (fun r H'=>r=iv (TH k l)∧∃ d' a' n',St N k tl d' a' n' l c C∧(TH k l=0→d'.cells=jI k (b7 l) tl)∧H'=sH d' (b4 k a' n' false) (bJ l c)):=by
 have hkn:=h.inv.kn;have hcn:=h.calm.inv.n;have hlen:=h.inv.len h.nd h.kv;have hnk:=h.inv.nk;have hsc:=NZ h.calm.inv k a n l c hk (by omega) h.inv.a2 h.inv.nk (by omega) h.st (by omega) (FU h.inv hk h.nd h.kv);refine hsc.mono ?_;rintro r H' (⟨h1,rfl,rfl⟩|⟨h1,rfl,a',n',q1,q2,q3,rfl⟩)
 ·have hE:TH k l=21:=YG h1;rw [hE];exact⟨rfl,d,a,n,h,fun e=>(by cases e),rfl⟩
 have hE:TH k l=0:=YF (by omega);obtain ⟨s1,s2,s3⟩:=PW h.calm (k:=k) (a:=a) (w:=b7 l) (by omega) (by have:=h.calm.inv.ok.n2;omega) h.inv.a2 h1;obtain ⟨rfl,rfl⟩:=q3 s1;rw [hE,s1];have htl:(jI k (b7 l) tl).drop (2*k+2)=tl:=by
  have e1:jI k (b7 l) tl=(hS 0 0 (cN (b7 l))::hS 1 0 (cN (b7 l))::(jD 2 (b7 l) (cN (b7 l))++(zR (k - cN (b7 l))++zR k)))++tl:=by rw [jI];simp only [List.cons_append,List.append_assoc]
  rw [e1];exact List.drop_left' (by rw [YJ,YJ,YI,cY,YI,List.length_replicate,List.length_replicate];omega)
 rw [h.tl] at s3;have hiv:=FV h.inv h.nd h.kv h1 (by omega);rw [h.tl] at hiv;exact⟨rfl,_,0,cN (b7 l),⟨s2,by rw [s3];exact hiv,h.st,h.nd,h.kv,by rw [s3,htl]⟩,fun _=>s3,rfl⟩
theorem NK {N:Nat} (h1:4≤N) (h2:N≤8000) {l:bT} {c:Nat} (q1:dQ l c) (q2:fD l) (q3:∀ x,cT l x=none):St N ((N - 2) / 2) ((lE N).cells.drop (2*((N - 2) / 2)+2)) (lE N) 0 0 l c (fun _=>none) :=⟨sI (by omega) h2,rB h1,q1,q2,q3,rfl⟩
end Go.Proofs.YtmkgeogoojcciaaGreatDoor
namespace Go.Abs
section
section
variable {P:Program} {N:Nat} {o:Oper} {E:bD} {H:aA} {T:TypeId} {x y:Operand}
theorem iJ {e:TypeId} {kk:IntKind} {n:Int} {m sz cnt i k k2:Nat} {rows:List (List PV)} (ho:o.op=.indexAddr T x y) (hT:P.underlying T=some (.array cnt e)) (hs:∀ w,(sizeOf e).run P w=.ok sz w)
  (hx:aN E x=some (.pad rows i k)) (hy:aN E y=some (.pv (.int kk n))) (h0:0≤n) (hm:n.toNat=m) (hi:m < cnt) (hk:k+m*sz=k2):bV P N o E H (.pad rows i k2) H :=
 .of_run fun a w I ι hr he=>by
  have h:=aD he hx;have hn:=(aD he hy).int_inv;generalize hc:a.eval x=c at h;subst hk;cases h with
  | pad b off cap sz1 h0' hsz hlen cs hb hcc hp =>
   refine⟨.pointer (some ⟨b,off+i*sz1+(k+m*sz),none⟩),?_,.pad b off cap sz1 h0' hsz hlen cs hb hcc hp⟩;simp only [execOp,ho,hc,hn];have h5:n < (cnt:Int):=by omega
   simp [Instr.indexAt,run_underlying hT,Instr.sureAddr,asIntOf,h0,h5,hs,hm,Addr.add_lit,Nat.add_assoc]
end
end
end Go.Abs
namespace Go.Proofs.YtmkgeogoojcciaaGreatDoor
open Go.Proofs.Tryz
open Go.Abs Go.Lib
structure GOp where
 kind:Int
 put:List (ByteArray×ByteArray)
 drop:List ByteArray
 a:Int
 b:Int
 c:Int
def uP (p:ByteArray×ByteArray):List PV:=[.str p.1,.str p.2]
def RM (l:List (ByteArray×ByteArray)):PV:=.sl (l.map uP)
def uO (o:GOp):List PV:=[.int .i64 o.kind,RM o.put,aX o.drop,.int .i64 o.a,.int .i64 o.b,.int .i64 o.c]
def pS (l:List GOp):PV:=.sl (l.map uO)
theorem D0 (l:bT):2*(cH l).length=(gX l).length:=(gB (fun x=>x) (dA l) (cH l)).symm
theorem Fin.stK {G0 H1 H':aA} {id g n:Nat} {ob:Ob} (l:List ByteArray) (hH:H1.get id=some ob) (hg:ob.g=g) (hps:ob.rows=cM l) (hn:n=l.length) (hno:H'.get id=none) (hHO:CU H1 H' H') (hk:MZ H' H1 G0) :
  Fin G0 H1 (.osl id g 0 n) H' (.pv (aX l)):=by
 subst hg hn;exact Fin.fz (id:=id) (ob:=ob) (l.map encStr) hH (hps.trans (mE l)) (.osl (kR encStr l)) hno hHO hk
theorem OE (key value:ByteArray) (H:aA) (h:H.get 950=none):aJ Tryz.prog 23 [sv key,sv value] H (fun r H'=>r=.mp 950 0∧H'=(950,bJ (eP [(key,value)]).1 (eP [(key,value)]).2)::H):=by refine Bd func23 rfl ntmps23<|Sr<|Dd aR<|Zz<|Sr<|Dd (by exact jV (id:=950) fF rfl h)<|Dd aF<|Dd aF<|Uu (by exact CX (κ:=fF) (.inr rfl) aU aK rfl rfl rfl rfl rfl rfl rfl rfl)<|Dd aF<|Dd aR<|Zz<|aM ?_;refine a8 (H':=((950,bJ (eP [(key,value)]).1 (eP [(key,value)]).2)::H)) (.inr rfl) rfl (aG rfl) (Fin.get' (fun j=>gR _ _ _ _ j)) ?_;exact Qq
theorem OL (l:List (ByteArray×ByteArray)) (H:aA) (h:H.get 950=none) (hl:l.length < 1099511627776):aJ Tryz.prog 15 [.pv (RM l)] H (fun r H'=>r=.mp 950 0∧H'=(950,bJ (eP l).1 (eP l).2)::H):=by
 have hml:(l.map uP).length=l.length:=YH _;refine Bd func15 rfl ntmps15<|Sr<|Dd aR<|Zz<|Sr<|Dd (by exact jV (id:=950) fF rfl h)<|Dd aR<|Zz<|Sq<|Sr<|Dd aR<|Zz<|aO ?_;refine bM (σ:=Nat) (fun k=>([(0,.pv (RM l)),(3,.mp 950 0),(4,iv (k:Int))],(950,bJ (eP (l.take k)).1 (eP (l.take k)).2)::H)) (fun k=>k≤l.length) (fun k=>l.length - k) 0 (YY _) ?_ ?_
 ·exact E0
 intro k hk;refine Sq<|Sr<|Dd aF<|Dd aF<|Dd (mB lY)<|Dd dO<|Zz ?_;refine Cn ?_ ?_<;>intro hc1
 ·have hlt:k < l.length:=by have:=YD hc1;omega
  obtain ⟨p,hp⟩:=aZ hlt;have hi:=dM (f:=uP) hp;have hnx:eP (l.take (k+1))=(gF (eP (l.take k)).1 p.1 p.2 (eP (l.take k)).2,m6 (eP (l.take k)).1 p.1 (eP (l.take k)).2):=by rw [dB hp];exact F4 _ _ _
  refine aH<|Sq<|aO<|bO follows<|Cs (fun _ _=>aF)<|Cs (fun _ _=>aF)<|Cs (fun _ _=>aF)<|Cs (fun _ _=>(CV RL))<|Cs (fun H1 hH=>by exact iJ rfl lX sizeOf9 rfl rfl (by omega) (by exact YS _) (by decide) rfl)<|Cs (fun _ _=>(nL aV))<|Cs (fun _ _=>aF)<|Cs (fun _ _=>aF)<|Cs (fun _ _=>(CV RL))<|Cs (fun H1 hH=>by exact iJ rfl lX sizeOf9 rfl rfl (by omega) (by exact YS _) (by decide) rfl)<|Cs (fun _ _=>(nL aV)) ?_;refine b5 (r:=⟨_,none,[_]⟩) (DStep.plain rfl (fun H1 hH=>by exact jX (κ:=fF) (l:=bQ (eP (l.take k)).1) (.inl rfl) aU aK rfl ((hH _ rfl).trans rfl) rfl rfl rfl rfl rfl (pG _ _ _ _) (sB _ _ _))) rfl ?_;refine cU<|Kr<|Rg<|Dd aF<|Dd mU<|Da ?_;refine⟨k+1,by omega,by omega,?_⟩;rw [hnx];exact bY.get' ⟨⟨_,rfl,rfl⟩,⟨_,rfl,rfl⟩,⟨_,rfl,rfl⟩,trivial⟩ (fun j=>gR _ _ _ _ j)
 have hge:k=l.length:=by have:=YE hc1;omega
 subst hge;rw [List.take_length];refine bI<|Sr<|Dd aF<|Dd aR<|Zz<|aM ?_;refine a8 (H':=((950,bJ (eP l).1 (eP l).2)::H)) (.inr rfl) rfl (aG rfl) Fin.refl ?_;exact Qq
theorem xF (d:DSt) (k a n:Nat) (b:Bool) (l:bT) (c:Nat) (hst:dQ l c) (hnd:fD l) (hl:l.length < 1000000000) :
  aJ Tryz.prog 18 [.ref 1100 0 0 0] (sH d (b4 k a n b) (bJ l c)) (fun r H'=>r=.pv (aX (gX l))∧H'=sH d (b4 k a n b) (bJ l c)):=by
 have hks:=IV d k a n b l c hst (by omega);have hsl:=g9 l;have hml:((cH l).map encStr).length=(cH l).length:=YH _;have hT:∀ i,i≤(cH l).length→(((cH l).take i).flatMap fun x=>[x,dA l x]).length=2*i:=fun i hi=>by rw [gB,YV];omega
 refine Bd func18 rfl ntmps18<|Sr<|Dd aR<|Zz<|Sr<|Dd aF<|Dd (by exact aB rfl rfl call19 rfl (hks))<|Dd aR<|Zz<|Sr<|Dd (by exact kX (id:=905) (sz:=1) (ty:=9) rfl rfl rfl)<|Zz<|Sq<|Sr<|Dd aR<|Zz<|aO ?_;refine bM (σ:=Nat) (fun i=>([(0,.ref 1100 0 0 0),(3,.pv (aX (cH l))),(4,.osl 905 i 0 (2*i)),(5,iv (i:Int))],(905,⟨i,1,9,cM (((cH l).take i).flatMap fun x=>[x,dA l x])⟩)::sH d (b4 k a n b) (bJ l c))) (fun i=>i≤(cH l).length) (fun i=>(cH l).length - i) 0 (YY _) ?_ ?_
 ·exact(bY.wk (Ea<|Eb<|Ea<|Eb<|trivial) (Hc (fW _ _)<|Hc (aE _ _ rfl rfl rfl)<|Hc (aC _ _)<|Hc (aL _ _ _)<|Hc (aI _ _)<|Hc (by(simp;exact⟨rfl,rfl⟩))<|Hc (aS _ _ _)<|trivial) ⟨rfl,rfl,rfl,rfl,rfl,rfl,trivial⟩)
 intro i hi;have hTi:=hT i hi;refine Sq<|Sr<|Dd aF<|Dd aF<|Dd (mB aP)<|Dd dO<|Zz ?_;refine Cn ?_ ?_<;>intro hc1
 ·have hlt:i < (cH l).length:=by have:=YD hc1;omega
  obtain ⟨s,hs⟩:=aZ hlt;have his:=dM (f:=encStr) hs;have hin:(cT l s).isSome=true:=by
   cases e:cT l s with
   | some v=>rfl
   | none=>exact absurd (kK.1 (YR hs)) (gN.1 e)
  have hg:=GY d k a n b l c s;rw [hin] at hg;have hnx:((cH l).take (i+1)).flatMap (fun x=>[x,dA l x])=(((cH l).take i).flatMap fun x=>[x,dA l x])++[s,dA l s]:=by rw [dB hs,List.flatMap_append];rfl
  refine aH<|Sq<|aO<|Sr<|Dd aF<|Dd aF<|Dd aF<|Dd (CV b8)<|Dd (nL aV)<|Dd (by exact aB rfl rfl XZ rfl (jA hg _ ⟨rfl,rfl,rfl,rfl,rfl,rfl,trivial⟩ (by simp;rfl)))<|Dd aF<|Dd dU<|Dd dU<|Dd aR<|Dd aR<|Zz<|Sq<|Sr<|Dd aF<|Dd xX<|Zz ?_;refine Cn ?_ ?_<;>intro hc2
  ·cases hc2
  refine aH<|Rg<|Dd aF<|Dd aF<|Dd aF<|Dd (CV b8)<|Dd (nL aV)<|Dd aF<|Dd (by exact bF [[.str s],[.str (dA l s)]] rfl b8 rfl rfl rfl rfl rfl (q7 s (dA l s)))<|Dd (by exact fE (k:=2*(i+1)) (ps:=[[.str s],[.str (dA l s)]]) rfl b8 MW rfl rfl rfl rfl rfl ((fH _).trans hTi) rfl (q7 _ _) (m:=2) rfl (by omega) (by omega) (vK _ [s,dA l s]))<|Dd aR<|Zz<|Rg<|Dd aF<|Dd mU<|Da ?_;refine⟨i+1,by omega,by omega,?_⟩;rw [hnx];exact(bY.wk (Ea<|Eb<|Ea<|Eb<|trivial) (Hc (fW _ _)<|Hc (aE _ _ rfl rfl rfl)<|Hc (aC _ _)<|Hc (aL _ _ _)<|Hc (aI _ _)<|Hc (by(simp;exact⟨rfl,rfl⟩))<|Hc (aS _ _ _)<|trivial) ⟨rfl,rfl,rfl,rfl,rfl,rfl,trivial⟩)
 have hge:i=(cH l).length:=by have:=YE hc1;omega
 subst hge;rw [List.take_length] at hTi ⊢;refine bI<|Sr<|Dd aF<|Dd aR<|Zz<|aM ?_;have hkl:((cH l).flatMap fun x=>[x,dA l x])=gX l:=rfl;refine a8 (H':=(sH d (b4 k a n b) (bJ l c))) (.inr rfl) rfl (aG rfl) (Fin.stK (gX l) rfl rfl rfl (D0 l) rfl ⟨⟨_,rfl,rfl⟩,(by exact aE _ _ rfl rfl rfl),⟨_,rfl,rfl⟩,(by exact aC _ _),⟨_,rfl,rfl⟩,(by exact aL _ _ _),⟨_,rfl,rfl⟩,(by exact aI _ _),⟨_,rfl,rfl⟩,(by(simp;exact⟨rfl,rfl⟩)),⟨_,rfl,rfl⟩,(by exact aS _ _ _),trivial⟩ ⟨rfl,rfl,rfl,rfl,rfl,rfl,trivial⟩) ?_;exact Qq
theorem KD (a b:List ByteArray) (H:aA) (ha:a.length < 1000000000) (hb:b.length < 1000000000):aJ Tryz.prog 54 [.pv (aX a),.pv (aX b)] H (fun r H'=>r=bv (decide (a=b))∧H'=H):=by
 refine Pu ?_;have hma:(a.map encStr).length=a.length:=YH _;have hmb:(b.map encStr).length=b.length:=YH _;refine Bd func54 rfl ntmps54<|Sr<|Dd aR<|Zz<|Sq<|Sr<|Dd aF<|Dd (mB aP)<|Dd aF<|Dd (mB aP)<|Dd tF<|Zz ?_;refine Cn ?_ ?_<;>intro hc1
 ·have hq:¬ a.length=b.length:=by have h:=hc1;simp at h;omega
  have hf:decide (a=b)=false:=decide_eq_false fun e=>hq (by rw [e]);rw [hf];exact Sr<|Dd aR<|Zz<|aM<|Rt<|Qq
 have hq:a.length=b.length:=by have h:=hc1;simp at h;omega
 refine aH<|Sq<|Sr<|Dd aR<|Zz<|aO ?_;refine bM (σ:=Nat) (fun k=>([(0,.pv (aX a)),(1,.pv (aX b)),(5,iv (k:Int))],[])) (fun k=>k≤a.length∧a.take k=b.take k) (fun k=>a.length - k) 0 ⟨YY _,rfl⟩ ?_ ?_
 ·exact Wk
 rintro k ⟨hk,hs⟩;refine Sq<|Sr<|Dd aF<|Dd aF<|Dd (mB aP)<|Dd dO<|Zz ?_;refine Cn ?_ ?_<;>intro hc2
 ·have hlt:k < a.length:=by have:=YD hc2;omega
  obtain ⟨x,hx⟩:=aZ hlt;obtain ⟨y,hy⟩:=aZ (l:=b) (k:=k) (by omega);have hix:=dM (f:=encStr) hx;have hiy:=dM (f:=encStr) hy;refine aH<|Sq<|aO<|Sq<|bO follows<|Cq aF<|Cq aF<|Cq (CV b8)<|Cq (nL aV)<|Cq aF<|Cq aF<|Cq (CV b8)<|Cq (nL aV)<|Cq NP<|cU<|Kr ?_;refine Cn ?_ ?_<;>intro hc3
  ·have hne:¬ x=y:=by have h:=hc3;simpa using h
   have hf:decide (a=b)=false:=decide_eq_false fun e=>hne (by rw [e,hy] at hx;cases hx;rfl);rw [hf];exact Sr<|Dd aR<|Zz<|aM<|Rt<|Qq
  have he:x=y:=by have h:=hc3;simpa using h
  refine aH<|Rg<|Dd aF<|Dd mU<|Da ?_;refine⟨k+1,⟨by omega,?_⟩,by omega,Wk⟩;rw [dB hx,dB hy,hs,he]
 have hge:k=a.length:=by have:=YE hc2;omega
 have ht:decide (a=b)=true:=decide_eq_true (by
  rw [← List.take_length (l:=a),← hge,hs,hge,hq,List.take_length])
 rw [ht];exact bI<|Sr<|Dd aR<|Zz<|aM<|Rt<|Qq
theorem DF (a b:List ByteArray) (H:aA) (ha:a.length < 1000000000) (hb:b.length < 1000000000):aJ Tryz.prog 17 [.pv (aX a),.pv (aX b)] H (fun r H'=>r=bv (decide (a=b))∧H'=H):=by refine Pu ?_;exact Bd func17 rfl ntmps17<|Sr<|Dd aR<|Zz<|Sr<|Dd aF<|Dd aF<|Dd (by exact aB rfl rfl call54 rfl (KD a b _ ha hb))<|Dd aR<|Zz<|aM<|Rt<|Qq
def O6 (p:ByteArray×ByteArray):Bool:=decide (p.1.size+p.2.size≤600)
def O7 (s:ByteArray):Bool:=decide (s.size≤600)
def CA (x:GOp):Bool:=(decide (x.put.length≤6)&&decide (x.drop.length≤6))&&(x.put.all O6&&x.drop.all O7)
def uM (l:List GOp):Bool:=l.all CA&&decide (l.length≤12)
theorem CM {α:Type} {l:List α} {p:α→Bool} {i:Nat} {x:α} (h:l[i]?=some x) (hp:p x=false):l.all p=false:=by rw [Bool.eq_false_iff];intro ha;rw [List.all_eq_true.1 ha x (YR h)] at hp;cases hp
theorem HJ {α:Type} {l:List α} {p:α→Bool} (h:∀ i x,i < l.length→l[i]?=some x→p x=true):l.all p=true:=List.all_eq_true.2 fun x hx=>by
 obtain ⟨i,hi⟩:=Y2.1 hx;exact h i x (YL.1 hi).1 hi
theorem V2 (l:List GOp) (H:aA) (hl:l.length < 1099511627776) (hs:∀ x∈l,x.put.length < 1099511627776∧x.drop.length < 1099511627776∧(∀ p∈x.put,p.1.size < 1099511627776∧p.2.size < 1099511627776)) :
  aJ Tryz.prog 11 [.pv (pS l)] H (fun r H'=>r=bv (uM l)∧H'=H):=by
 refine Pu ?_;have hml:(l.map uO).length=l.length:=YH _;refine Bd func11 rfl ntmps11<|Sr<|Dd aR<|Zz<|Sq<|Sr<|Dd aR<|Zz<|aO ?_;refine bM (σ:=Nat) (fun i=>([(0,.pv (pS l)),(3,iv (i:Int))],[])) (fun i=>i≤l.length∧∀ j x,j < i→l[j]?=some x→CA x=true) (fun i=>l.length - i) 0 ⟨YY _,fun j x hj=>absurd hj (Nat.not_lt_zero _)⟩ ?_ ?_
 ·exact Wk
 rintro i ⟨hi,hall⟩;refine Sq<|Sr<|Dd aF<|Dd aF<|Dd (mB lZ)<|Dd dO<|Zz ?_;refine Cn ?_ ?_<;>intro hc1
 ·have hlt:i < l.length:=by have:=YD hc1;omega
  obtain ⟨x,hx⟩:=aZ hlt;have hix:=dM (f:=uO) hx;obtain ⟨s1,s2,s3⟩:=hs x (YR hx);have hmp:(x.put.map uP).length=x.put.length:=YH _;have hmd:(x.drop.map encStr).length=x.drop.length:=YH _;have bad:CA x=false→uM l=false:=fun h=>by rw [uM,CM hx h];rfl
  have hO:CA x=((decide (x.put.length≤6)&&decide (x.drop.length≤6))&&(x.put.all O6&&x.drop.all O7)):=rfl;refine aH<|Sq<|aO<|Sq<|Sq ?_;refine cR (t:=27) (n:=17) (X:=decide ((6:Int) < ((x.put.map uP).length:Int))||decide ((6:Int) < ((x.drop.map encStr).length:Int))) ?_ ?_
  ·all_goals refine Dd aF ?_
   all_goals refine Dd aF<|Dd (by exact bP rfl x8 rfl rfl (by omega) (by exact YS _) hix rfl)<|Dd (Q2 wY)<|Dd (nL xO)<|Dd (mB lY)<|Dd yR<|Dm ?_
   all_goals refine Sp 19 (fun h19=>?_) fun h19=>?_
   all_goals try contradiction
   all_goals first|refine Fo<|Fo<|Fo<|Fo<|Fo<|Fo<|Fo ?_|refine On aF<|On aF<|On (by exact bP rfl x8 rfl rfl (by omega) (by exact YS _) hix rfl)<|On (Q2 B6)<|On (nL cD)<|On (mB aP)<|On yR ?_
   all_goals refine Dd fN<|Zz ?_
   all_goals(exact⟨⟨_,rfl,by(rw [h19];rfl)⟩,rfl,rfl,rfl⟩)
  refine Cn ?_ ?_<;>intro hc2
  ·have hq:6 < x.put.length∨6 < x.drop.length:=by have h:=hc2;rw [Bool.or_eq_true,YO,YO] at h;omega
   have hf:CA x=false:=by
    rw [hO];rcases hq with hq|hq
    ·rw [decide_eq_false (show ¬ x.put.length≤6 by omega)];rfl
    rw [decide_eq_false (show ¬ x.drop.length≤6 by omega),Bool.and_false];rfl
   rw [bad hf];exact Sr<|Dd aR<|Zz<|aM<|Rt<|Qq
  have hq:x.put.length≤6∧x.drop.length≤6:=by have h:=hc2;rw [Y3,YP,YP] at h;omega
  rw [decide_eq_true hq.1,decide_eq_true hq.2] at hO;refine aH<|Sq<|Sr<|Dd aR<|Zz<|aO ?_;refine bM (σ:=Nat) (fun k=>([(0,.pv (pS l)),(3,iv (i:Int)),(4,iv (k:Int))],[])) (fun k=>k≤x.put.length∧∀ j p,j < k→x.put[j]?=some p→O6 p=true) (fun k=>x.put.length - k) 0 ⟨YY _,fun j p hj=>absurd hj (Nat.not_lt_zero _)⟩ ?_ ?_
  ·exact Wk
  rintro k ⟨hk,hpk⟩;refine Sq<|Sr<|Dd aF<|Dd aF<|Dd aF<|Dd (by exact bP rfl x8 rfl rfl (by omega) (by exact YS _) hix rfl)<|Dd (Q2 wY)<|Dd (nL xO)<|Dd (mB lY)<|Dd dO<|Zz ?_;refine Cn ?_ ?_<;>intro hc3
  ·have hltk:k < x.put.length:=by have:=YD hc3;omega
   obtain ⟨p,hp⟩:=aZ hltk;have hip:=dM (f:=uP) hp;obtain ⟨t1,t2⟩:=s3 p (YR hp);refine aH<|Sq<|aO<|Sq<|bO follows<|Cq aF<|Cq aF<|Cq (by exact bP rfl x8 rfl rfl (by omega) (by exact YS _) hix rfl)<|Cq (Q2 wY)<|Cq (nL xO)<|Cq aF<|Cq (by exact bP rfl RL rfl rfl (by omega) (by exact YS _) hip rfl)<|Cq (by exact iJ rfl lX sizeOf9 rfl rfl (by omega) (by exact YS _) (by decide) rfl)<|Cq (nL aV)<|Cq (yO aK)<|Cq aF<|Cq aF<|Cq (by exact bP rfl x8 rfl rfl (by omega) (by exact YS _) hix rfl)<|Cq (Q2 wY)<|Cq (nL xO)<|Cq aF<|Cq (by exact bP rfl RL rfl rfl (by omega) (by exact YS _) hip rfl)<|Cq (by exact iJ rfl lX sizeOf9 rfl rfl (by omega) (by exact YS _) (by decide) rfl)<|Cq (nL aV)<|Cq (yO aK) ?_;refine Cq mU<|Cq yR<|cU<|Kr ?_;refine Cn ?_ ?_<;>intro hc4
   ·have hq2:¬ p.1.size+p.2.size≤600:=by have:=YD hc4;omega
    have hf:CA x=false:=by rw [hO,CM hp (show O6 p=false from decide_eq_false hq2)];rfl
    rw [bad hf];exact Sr<|Dd aR<|Zz<|aM<|Rt<|Qq
   have hq2:p.1.size+p.2.size≤600:=by have:=YE hc4;omega
   refine aH<|Rg<|Dd aF<|Dd mU<|Da ?_;refine⟨k+1,⟨by omega,fun j q hj hq=>?_⟩,by omega,Wk⟩;rcases Nat.lt_succ_iff_lt_or_eq.1 hj with h1|rfl
   ·exact hpk j q h1 hq
   rw [hp] at hq;cases hq;exact decide_eq_true hq2
  have hgek:k=x.put.length:=by have:=YE hc3;omega
  have hP:x.put.all O6=true:=HJ fun j p hj hp=>hpk j p (by omega) hp;rw [hP] at hO;refine bI<|Sr<|Dd aR<|Zz<|aO ?_;refine bM (σ:=Nat) (fun k=>([(0,.pv (pS l)),(3,iv (i:Int)),(5,iv (k:Int))],[])) (fun k=>k≤x.drop.length∧∀ j p,j < k→x.drop[j]?=some p→O7 p=true) (fun k=>x.drop.length - k) 0 ⟨YY _,fun j p hj=>absurd hj (Nat.not_lt_zero _)⟩ ?_ ?_
  ·exact Wk
  rintro m ⟨hm,hdk⟩;refine Sq<|Sr<|Dd aF<|Dd aF<|Dd aF<|Dd (by exact bP rfl x8 rfl rfl (by omega) (by exact YS _) hix rfl)<|Dd (Q2 B6)<|Dd (nL cD)<|Dd (mB aP)<|Dd dO<|Zz ?_;refine Cn ?_ ?_<;>intro hc5
  ·have hltm:m < x.drop.length:=by have:=YD hc5;omega
   obtain ⟨s,hs2⟩:=aZ hltm;have hisd:=dM (f:=encStr) hs2;refine aH<|Sq<|aO<|Sr<|Dd aF<|Dd aF<|Dd (by exact bP rfl x8 rfl rfl (by omega) (by exact YS _) hix rfl)<|Dd (Q2 B6)<|Dd (nL cD)<|Dd aF<|Dd (by exact bP rfl b8 rfl rfl (by omega) (by exact YS _) hisd rfl)<|Dd (nL aV)<|Dd (yO aK)<|Dd yR<|Zz ?_;refine Cn ?_ ?_<;>intro hc6
   ·have hq2:¬ s.size≤600:=by have:=YD hc6;omega
    have hf:CA x=false:=by rw [hO,CM hs2 (show O7 s=false from decide_eq_false hq2)];rfl
    rw [bad hf];exact Sr<|Dd aR<|Zz<|aM<|Rt<|Qq
   have hq2:s.size≤600:=by have:=YE hc6;omega
   refine aH<|Rg<|Dd aF<|Dd mU<|Da ?_;refine⟨m+1,⟨by omega,fun j q hj hq=>?_⟩,by omega,Wk⟩;rcases Nat.lt_succ_iff_lt_or_eq.1 hj with h1|rfl
   ·exact hdk j q h1 hq
   rw [hs2] at hq;cases hq;exact decide_eq_true hq2
  have hgem:m=x.drop.length:=by have:=YE hc5;omega
  have hDD:x.drop.all O7=true:=HJ fun j p hj hp=>hdk j p (by omega) hp;rw [hDD] at hO;refine bI<|Rg<|Dd aF<|Dd mU<|Da ?_;refine⟨i+1,⟨by omega,fun j y hj hy=>?_⟩,by omega,Wk⟩;rcases Nat.lt_succ_iff_lt_or_eq.1 hj with h1|rfl
  ·exact hall j y h1 hy
  rw [hx] at hy;cases hy;exact hO
 have hge:i=l.length:=by have:=YE hc1;omega
 have hA:l.all CA=true:=HJ fun j x hj hx=>hall j x (by omega) hx;have hG:uM l=decide (((l.map uO).length:Int)≤12):=by
  rw [uM,hA,Bool.true_and,hml];exact decide_eq_decide.2 (by omega)
 rw [hG];exact bI<|Sr<|Dd aF<|Dd (mB lZ)<|Dd XO<|Dd aR<|Zz<|aM<|Rt<|Qq
end Go.Proofs.YtmkgeogoojcciaaGreatDoor
