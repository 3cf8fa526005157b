/-
  Parts of the proof: rules of an abstract program logic, contracts of functions, plain laws. Conditions: each theorem's own.
-/
import Derived.Test.YtmkgeogoojcciaaGreatDoorKS5M7
set_option linter.unusedVariables false
set_option linter.unusedSimpArgs false
set_option maxRecDepth 100000
set_option maxHeartbeats 8000000
namespace Go.Proofs
theorem aA1:type_of% Tryz.call19:=Tryz.call19
theorem aAY:type_of% Tryz.call24:=Tryz.call24
theorem aAV:type_of% Tryz.call51:=Tryz.call51
theorem aAU:type_of% Tryz.call52:=Tryz.call52
theorem TS:type_of% Tryz.func14:=Tryz.func14
theorem AU:type_of% Tryz.isAgg35:=Tryz.isAgg35
theorem PD:type_of% Tryz.ntmps14:=Tryz.ntmps14
theorem cP:type_of% Tryz.underlying25:=Tryz.underlying25
theorem nG:type_of% Tryz.underlying66:=Tryz.underlying66
end Go.Proofs
namespace Go.Proofs.YtmkgeogoojcciaaGreatDoor
open Go.Proofs.Tryz
open Go.Abs Go.Lib
def WU (i:Nat):Nat:=if i=950 then 1101 else if i=1101 then 950 else i
theorem T8 (i:Nat):WU (WU i)=i:=by
 unfold WU
 repeat' split
 all_goals omega
theorem xR (ρ:Nat→Nat) (l:bP) (c:Nat):jB ρ (bB l c)=bB l c:=by
 show (⟨0,0,c,(fL fR (bR l)).map (gO ρ)⟩:Ob)=⟨0,0,c,fL fR (bR l)⟩;have:∀ r∈fL fR (bR l),gO ρ r=r:=by
  intro r hr;obtain ⟨p,hp,rfl⟩:=List.mem_map.1 hr;obtain ⟨q,_,rfl⟩:=List.mem_map.1 hp;rfl
 rw [List.map_congr_left this,List.map_id']
theorem QM (l:bP) (c:Nat):gB WU [(950,bB l c)]=[(1101,bB l c)]:=by show [(WU 950,jB WU (bB l c))]=_;rw [xR];rfl
theorem T6 (l:bP) (c:Nat) (P:List ByteArray) (hst:dT l c) (hl:l.length < 1099511627776) (hP:P.length < 1099511627776) (hsz:(bE l P).length < 35184372088832) (H:aA) (h:H.get 1101=some (bB l c)) :
  aH Tryz.prog 50 [.mp 1101 0,.pv (aW P)] H (fun r H'=>r=sv (ofL (bE l P))∧H'=H):=by
 have h1:=aH.ren (ρ:=WU) T8 (KS l c P hst hl hP hsz) (args':=[.mp 1101 0,.pv (aW P)]) (H':=[(1101,bB l c)]) (r':=sv (ofL (bE l P))) (H1':=[(1101,bB l c)]) rfl (QM l c) rfl (QM l c);refine aH.frameS h1 (fun j o ho=>?_) (bF.ofL ⟨aR _ _ _,trivial⟩) (by simp;rfl);simp only [aA.get] at ho;cases e:Nat.beq 1101 j with
 | true =>
  rw [e] at ho;cases ho;rw [← Nat.eq_of_beq_eq_true e];exact h
 | false=>rw [e] at ho;cases ho
theorem F0 {d:DSt} {N m:Nat} (h:DInv d N m) (k a n:Nat) (l:bP) (c:Nat) (hk:k < 4000) (hkN:2*k+2≤N) (ha:a < 2) (hn:n≤k) (hm:m≤10) (hst:dT l c) (hl:l.length < 1099511627776) (hsz:(bE l []).length < 100000000000) :
  aH Tryz.prog 21 [.ref 1100 0 0 0] (sH d (bV k a n false) (bB l c)) (fun r H'=>(k < cZ (cE l)∧r=iv 21∧H'=sH d (bV k a n false) (bB l c))∨(cZ (cE l)≤k∧r=iv (KZ d k a (cE l)).1∧∃ a' n',a' < 2∧n'≤k∧((KZ d k a (cE l)).1=0→a'=0∧n'=cZ (cE l))∧H'=sH (KZ d k a (cE l)).2 (bV k a' n' (!decide ((KZ d k a (cE l)).1=0))) (bB l c))):=by
 have htx:=fun H hH=>T6 l c [] hst hl (by decide) (by omega) H hH;have hml:(bR l).length=l.length:=aAi _;have hW:cE l=if l.length=0 then[] else bE l []:=rfl
 have hwl:(cE l).length < 100000000000:=by
  rw [hW]
  split
  ·decide
  exact hsz
 refine Bd func21 rfl ntmps21<|Sr<|Dd aS<|Zz<|Sq<|aO<|Sr<|Dd aF<|Dd (by exact cG rfl cP rfl rfl rfl rfl)<|Da ?_;refine Cn ?_ ?_<;>intro hc1
 ·cases hc1
 refine Sr<|Dd aF<|Dd fF<|Dd (dO kE)<|Dd (eA dD)<|Da ?_;refine Cn ?_ ?_<;>intro hc2
 ·cases hc2
 refine aK<|Sr<|Da ?_;refine oU (fun(_:Unit)=>([(0,.ref 1100 0 0 0),(2,iv 0),(3,sv (ofL (cE l)))],sH d (bV k a n false) (bB l c))) (fun _=>True) ?_ ?_
 ·refine Sr<|Dd aF<|Dd fF<|Dd (dO sS)<|Dd (eA bS)<|Dd (by exact xD (κ:=fR) (l:=bR l) rfl aV rfl rfl rfl rfl)<|Dd BR<|Zz ?_;refine Cn ?_ ?_<;>intro hc3
  ·have hq:¬ l.length=0:=by have:=aAe hc3;omega
   rw [hW,aAg hq];refine Rg<|Dd aF<|Dd fF<|Dd (dO sS)<|Dd (eA bS)<|Dd (by exact aB rfl rfl vL rfl (htx _ rfl))<|Da ?_;exact⟨(),trivial,(cA.wk (Ea<|Eb<|Eb<|trivial) (Hc (aE _ _ rfl rfl rfl)<|Hc (aC _ _)<|Hc (aI _ _ _)<|Hc (aG _ _)<|Hc (bG rfl rfl)<|Hc (aR _ _ _)<|trivial) ⟨rfl,rfl,rfl,rfl,rfl,rfl,trivial⟩)⟩
  have hq:l.length=0:=by have:=aAf hc3;omega
  rw [hW,aAh hq];refine aK ?_;exact⟨(),trivial,(cA.wk (Ea<|Eb<|Eb<|trivial) (Hc (aE _ _ rfl rfl rfl)<|Hc (aC _ _)<|Hc (aI _ _ _)<|Hc (aG _ _)<|Hc (bG rfl rfl)<|Hc (aR _ _ _)<|trivial) ⟨rfl,rfl,rfl,rfl,rfl,rfl,trivial⟩)⟩
 rintro _ -;obtain ⟨w,hw⟩:∃ w,w=cE l:=⟨_,rfl⟩;rw [← hw] at hwl ⊢;clear hW htx;have hcn:=fun H=>AK w (by omega) H;refine Sq<|Sq<|bO follows<|Cq aF<|Cq (by exact aB rfl rfl aAV rfl (hcn _))<|Cq aF<|Cq fF<|Cq (dO sT)<|Cq (eA aQ)<|Cq BR<|dC<|Kr ?_;refine Cn ?_ ?_<;>intro hc4
 ·have hq:k < cZ w:=by have:=aAe hc4;omega
  refine Sr<|Dd aS<|Zz<|aM ?_;refine bD (H':=(sH d (bV k a n false) (bB l c))) (.inr rfl) rfl (aJ rfl) (Fin.wk (by(simp;done)) (Hc (aE _ _ rfl rfl rfl)<|Hc (aC _ _)<|Hc (aI _ _ _)<|Hc (aG _ _)<|Hc (bG rfl rfl)<|Hc (aR _ _ _)<|trivial) ⟨rfl,rfl,rfl,rfl,rfl,rfl,trivial⟩) ?_;exact .inl ⟨hq,rfl,rfl⟩
 have hq:cZ w≤k:=by have:=aAf hc4;omega
 refine aK<|aO ?_;refine O1 (fun(d1:DSt) (a1 n1 m1:Nat)=>([(0,.ref 1100 0 0 0),(3,sv (ofL w))],sH d1 (bV k a1 n1 false) (bB l c))) (fun d1 a1 n1 m1=>DInv d1 N m1∧a1 < 2∧n1≤k∧(m1≤10∨(a1=1∧m1≤10010))∧KZ d k a w=KZ d1 k a1 w) (fun d1 a1 n1 m1=>1 - a1) d a n m ⟨h,ha,hn,.inl hm,rfl⟩ ?_ ?_
 ·exact(cA.wk (Ea<|Eb<|trivial) (Hc (aE _ _ rfl rfl rfl)<|Hc (aC _ _)<|Hc (aI _ _ _)<|Hc (aG _ _)<|Hc (bG rfl rfl)<|Hc (aR _ _ _)<|trivial) ⟨rfl,rfl,rfl,rfl,rfl,rfl,trivial⟩)
 rintro d1 a1 n1 m1 ⟨hi,ha1,hn1,hm1,hsc⟩;rw [hsc];have hwl2:w.length < 100000000:=by rw [cZ] at hq;omega
 have hadd:=TA hi k a1 n1 (1 - a1) 0 false l c w hwl2 (by omega) (by omega) (by omega) (by omega);have hai:=TB hi k (1 - a1) 0 w (by omega);rw [aBA] at hadd;obtain ⟨x,hx⟩:∃ x,x=jR d1 k (1 - a1) 0 w:=⟨_,rfl⟩;rw [← hx] at hadd hai;have hR:FG d1 k a1 w=if x.1=0 then iK x.2 (2+a1*k+0) (zR (k - 0))else x:=by rw [FG,← hx]
 have hS:KZ d1 k a1 w=if a1=1 then(if(FG d1 k a1 w).1=0 then iK (FG d1 k a1 w).2 (2+0*k+cZ w) (zR (k - cZ w))else FG d1 k a1 w)else if(FG d1 k a1 w).1=0 then KZ (FG d1 k a1 w).2 k 1 w else FG d1 k a1 w:=by
  rcases(show a1=0∨a1=1 by omega)with e|e<;>subst e<;>rfl
 have hcl:=HJ hai k (1 - a1) (cZ w) a1 0 false l c (by omega) ha1 (aAz _) (by omega);have hyi:=lI hai (2+a1*k+0) (zR (k - 0)) (by rw [List.length_replicate];omega);rw [List.length_replicate] at hyi;obtain ⟨y,hy⟩:∃ y,y=iK x.2 (2+a1*k+0) (zR (k - 0)):=⟨_,rfl⟩;rw [← hy] at hcl hyi hR;have hcl2:=HJ hyi k (1 - a1) (cZ w) 0 (cZ w) false l c (by omega) (by omega) hq (by omega);obtain ⟨z,hz⟩:∃ z,z=iK y.2 (2+0*k+cZ w) (zR (k - cZ w)):=⟨_,rfl⟩;rw [← hz] at hcl2;clear hx hsc;refine aO<|Sr<|Dd aF<|Dd fF<|Dd (dO mF)<|Dd (dO sV)<|Dd (eA aQ)<|Dd aS<|Zz<|Sr<|Dd aF<|Dd aF<|Dd (by exact eC rfl rfl rfl (show IntKind.i64.wrap (1 - (a1:Int))=((1 - a1:Nat):Int)by rw [iU (by omega) (by omega)];omega))<|Dd (PI OU)<|Dd aF<|Dd (by exact aB rfl rfl aAU rfl (hadd))<|Dd aS<|Zz<|Sq<|Sr<|Dd aF<|Dd hU<|Zz ?_;refine Cn ?_ ?_<;>intro hc5
 ·have e0:x.1=0:=aAe hc5;rw [aAh e0] at hR ⊢;rw [hR] at hS;refine Rg<|Dd aF<|Dd aF<|Dd (by exact aB rfl rfl call56 rfl (hcl))<|Dd aS<|Zz<|Sq<|Sr<|Dd aF<|Dd wB<|Zz ?_;refine Cn ?_ ?_<;>intro hc6
  ·have e1:¬ y.1=0:=by have h:=hc6;simpa using h
   have hS2:KZ d1 k a1 w=y:=by
    rw [hS,aAg e1,aAg e1,ite_self]
   rw [hS2];refine Sr<|Dd aF<|Dd aS<|Zz<|aM ?_;refine bD (H':=(sH y.2 (bV k (1 - a1) (cZ w) (false||!decide (y.1=0))) (bB l c))) (.inr rfl) rfl (aJ rfl) (Fin.wk (by(simp;done)) (Hc (aE _ _ rfl rfl rfl)<|Hc (aC _ _)<|Hc (aI _ _ _)<|Hc (aG _ _)<|Hc (bG rfl rfl)<|Hc (aR _ _ _)<|trivial) ⟨rfl,rfl,rfl,rfl,rfl,rfl,trivial⟩) ?_;exact .inr ⟨hq,rfl,1 - a1,cZ w,by omega,hq,fun h=>absurd h e1,rfl⟩
  have e1:y.1=0:=by have h:=hc6;simpa using h
  rw [aAh e1,aAh e1,← hz] at hS;have hb:(false||!decide (y.1=0))=false:=by rw [e1];rfl
  rw [hb];refine aK<|Sr<|Dd aF<|Dd hU<|Zz ?_;refine Cn ?_ ?_<;>intro hc7
  ·have e2:a1=1:=by have:=aAe hc7;omega
   rw [aAh e2] at hS;rw [hS];refine Sr<|Dd aF<|Dd aF<|Dd fF<|Dd (dO mF)<|Dd (dO nA)<|Dd (eA aQ)<|Dd (by exact aB rfl rfl call56 rfl (hcl2))<|Dd aS<|Zz<|aM ?_;refine bD (H':=(sH z.2 (bV k (1 - a1) (cZ w) (false||!decide (z.1=0))) (bB l c))) (.inr rfl) rfl (aJ rfl) (Fin.wk (by(simp;done)) (Hc (aE _ _ rfl rfl rfl)<|Hc (aC _ _)<|Hc (aI _ _ _)<|Hc (aG _ _)<|Hc (bG rfl rfl)<|Hc (aR _ _ _)<|trivial) ⟨rfl,rfl,rfl,rfl,rfl,rfl,trivial⟩) ?_;exact .inr ⟨hq,rfl,1 - a1,cZ w,by omega,hq,fun _=>⟨by omega,rfl⟩,rfl⟩
  have e2:¬ a1=1:=by have:=aAf hc7;omega
  rw [aAg e2] at hS;have e3:a1=0:=by omega
  subst e3;refine aK ?_;exact⟨y.2,1,cZ w,_,⟨hyi,by omega,hq,.inr ⟨rfl,by omega⟩,hS⟩,by omega,(cA.wk (Ea<|Eb<|trivial) (Hc (aE _ _ rfl rfl rfl)<|Hc (aC _ _)<|Hc (aI _ _ _)<|Hc (aG _ _)<|Hc (bG rfl rfl)<|Hc (aR _ _ _)<|trivial) ⟨rfl,rfl,rfl,rfl,rfl,rfl,trivial⟩)⟩
 have e0:¬ x.1=0:=aAf hc5;rw [aAg e0] at hR ⊢;rw [hR] at hS;have hS2:KZ d1 k a1 w=x:=by
  rw [hS,aAg e0,aAg e0,ite_self]
 rw [hS2];have hd0:decide (x.1=0)=false:=decide_eq_false e0;refine aK<|Sq<|Sr<|Dd aF<|Dd wB<|Zz ?_;refine Cn ?_ ?_<;>intro hc8
 ·refine Sr<|Dd aF<|Dd aS<|Zz<|aM ?_;refine bD (H':=(sH x.2 (bV k a1 n1 (!decide (x.1=0))) (bB l c))) (.inr rfl) rfl (aJ rfl) (by rw [hd0];exact(Fin.wk (by(simp;done)) (Hc (aE _ _ rfl rfl rfl)<|Hc (aC _ _)<|Hc (aI _ _ _)<|Hc (aG _ _)<|Hc (bG rfl rfl)<|Hc (aR _ _ _)<|trivial) ⟨rfl,rfl,rfl,rfl,rfl,rfl,trivial⟩)) ?_;exact .inr ⟨hq,rfl,a1,n1,ha1,hn1,fun h=>absurd h e0,rfl⟩
 (have h:=hc8;simp [e0] at h)
end Go.Proofs.YtmkgeogoojcciaaGreatDoor
namespace Go.Proofs.YtmkgeogoojcciaaGreatDoor
open Go.Proofs.Tryz
open Go.Abs
theorem KW {F:FuncId} {caps:List AV} {L:List ByteArray} (hL:L.length < 1099511627776) (hE:∀ (args:Array Value) (w:World),(callFunc F args).run Tryz.prog w=.ok (.enter F args) w) (K:aA) (hS:AX F caps (fun M=>M.Perm L) K) (k2:K.get 942=none) (k4:K.get 944=none) (k5:K.get 945=none) (k6:K.get 946=none) (hc:bF K) (hcap:Clo K (.clo F caps)) :
  aH Tryz.prog 48 [.clo F caps] K (fun r H'=>r=.osl 945 L.length 0 L.length∧H'=(945,⟨L.length,1,9,dP (cU L)⟩)::K):=by
 refine Bd func48 rfl ntmps48<|Sr<|Dd aS<|Zz<|Sr<|Dm ?_;refine gJ rfl rfl (aB rfl rfl call95 rfl (HI hE K hS k2 k4 k5 k6 hc hcap)) ?_;rintro r H' ⟨M,hperm,rfl,rfl⟩;have hMl:M.length < 4611686018427387904:=by rw [hperm.length_eq];omega
 have hSo:=yO hperm;have hln:M.length=L.length:=hperm.length_eq;refine Dd aS<|Zz<|Sr<|Dd aF<|Dd (by exact aB rfl rfl call96 rfl (B5 M rfl rfl hMl))<|Zz<|Sr<|Dd aF<|Dd aS<|Zz<|aM ?_;refine bD (H':=((945,⟨M.length,1,9,dP (cU M)⟩)::K)) (.inr rfl) rfl (aJ rfl) (Fin.get' (fun j=>iG _ _ _ _ j)) ?_;exact⟨by rw [hln],by rw [hSo,hln]⟩
end Go.Proofs.YtmkgeogoojcciaaGreatDoor
namespace Go.Proofs.YtmkgeogoojcciaaGreatDoor
open Go.Proofs.Tryz
open Go.Abs Go.Lib
structure OnD (d:DSt) (n:Nat):Prop where
 inv:DInv d n 0
 off:d.off=false
structure A1 (d:DSt) (n:Nat):Prop where
 inv:DInv d n 0
 off:d.off=true
 na:∀ a w b,d.arm≠.on a w b
theorem OnD.q {d:DSt} {n:Nat} (h:OnD d n):d.q=[]:=List.length_eq_zero_iff.1 (Nat.le_zero.1 h.inv.q)
theorem Calm.on {d:DSt} {n:Nat} (h:Calm d n):OnD d n:=⟨h.inv,h.off⟩
def V5 (cells:List ByteArray) (p:Nat) (L c':List ByteArray):Prop:=∃ m,m≤L.length∧(c'=lJ cells p (L.take m)∨∃ t j,L[m]?=some t∧1≤j∧j≤64∧c'=(lJ cells p (L.take m)).set (p+m) (pG (t.extract 0 j) ((cells[p+m]?).getD ⟨#[]⟩)))
theorem K9:∀ (L:List ByteArray) (p:Nat),(tO p L).length=L.length
 | [],_=>rfl
 | t::r,p=>by rw [tO,aAk,K9 r,aAk]
theorem F6:∀ (L:List ByteArray) (p m:Nat),(tO p L).take m=tO p (L.take m)
 | [],p,m=>by rw [tO,List.take_nil,List.take_nil];rfl
 | t::r,p,0=>rfl
 | t::r,p,m+1=>by rw [tO,List.take_succ_cons,F6 r,List.take_succ_cons,tO]
theorem LA:∀ (L:List ByteArray) (p m:Nat),(tO p L)[m]?=(L[m]?).map fun t=>(p+m,t)
 | [],p,m=>rfl
 | t::r,p,0=>rfl
 | t::r,p,m+1=>by
  rw [tO,List.getElem?_cons_succ,List.getElem?_cons_succ,LA r];congr 1;funext x;rw [Nat.add_assoc,Nat.add_comm 1 m]
theorem C0 {cells:List ByteArray} {s:DSt} {place:Nat} {L:List ByteArray} {i:Nat} (hi:i≤L.length) (hq:s.q=tO place (L.take i)) (hc:s.cells=cells) (w b:Int):V5 cells place L (nX s w b):=by
 have hqm:∀ m,m≤i→s.q.take m=tO place (L.take m):=fun m hm=>by rw [hq,F6,List.take_take,Nat.min_eq_left hm]
 have hql:s.q.length=i:=by rw [hq,K9,aAw];omega
 obtain ⟨m,hM⟩:∃ m,m=AF s w:=⟨_,rfl⟩;have hmi:m≤i:=by rw [hM,AF];omega
 rw [nX,← hM,hqm m hmi,xU,hc];refine⟨m,by omega,?_⟩;cases e:s.q[m]? with
 | none=>exact .inl rfl
 | some p =>
  rw [hq,LA] at e;rw [FN];by_cases hb:0 < b
  ·rw [aAh hb];by_cases hmi2:m < i
   ·rw [List.getElem?_take_of_lt hmi2] at e;cases e2:L[m]? with
    | none=>rw [e2] at e;cases e
    | some t =>
     rw [e2] at e;cases e;refine .inr ⟨t,(min b 64).toNat,rfl,by omega,by omega,?_⟩;show (lJ cells place (List.take m L)).set (place+m) (pG (t.extract 0 (min b 64).toNat) (((lJ cells place (List.take m L))[place+m]?).getD ⟨#[]⟩))=_;rw [jF,aAw,aAg (by omega)]
   rw [List.getElem?_eq_none (by rw [aAw];omega)] at e;cases e
  rw [aAg hb];exact .inl rfl
theorem C1 {s:DSt} {n m:Nat} (h:DInv s n m) (ho:s.off=false) (w b:Int):A1 (iY s w b) n:=by have hi:=nV h w b;rw [iY,aAg (by rw [ho];decide)] at hi ⊢;exact⟨⟨hi.ok,hi.arm,hi.n,aAz _⟩,rfl,fun a w b e=>(nY e).elim⟩
theorem HE {s:DSt} {n m:Nat} (h:DInv s n m) (ho:s.off=false):(eQ s=0∧(dR s).off=false∧(dR s).q=s.q∧(dR s).cells=s.cells)∨(eQ s=22∧∃ w b,dR s=iY s w b):=by
 unfold eQ dR;cases e:s.arm with
 | never=>exact .inl ⟨rfl,ho,rfl,rfl⟩
 | off a w b=>exact .inl ⟨rfl,ho,rfl,rfl⟩
 | on a w b =>
  by_cases ha:0 < a
  ·refine .inl ?_;simp only [aAh ha];exact⟨trivial,ho,trivial,trivial⟩
  refine .inr ?_;simp only [aAg ha];exact⟨trivial,w,b,rfl⟩
theorem PU {d:DSt} {n:Nat} (h:OnD d n) {place:Nat} {L:List ByteArray} (hp:place+L.length≤n) (hs:∀ t∈L,t.size=64) (hm:L.length≤1048575):∀ i,i≤L.length →
  ((oC d place L i).1=0∧(oC d place L i).2.off=false∧(oC d place L i).2.q=tO place (L.take i)∧(oC d place L i).2.cells=d.cells)∨((oC d place L i).1=22∧A1 (oC d place L i).2 n∧V5 d.cells place L (oC d place L i).2.cells)
 | 0,_=>.inl ⟨rfl,h.off,by rw [List.take_zero,tO];exact h.q,rfl⟩
 | i+1,hi=>by
  have hinv:=qT h.inv place L i (by omega);rcases PU h hp hs hm i (by omega)with⟨h1,h2,h3,h4⟩|⟨h1,h2,h3⟩
  ·obtain ⟨t,ht⟩:=aZ (l:=L) (k:=i) (by omega);have hz:=hs t (aAs ht);have hD:L.getD i sNil=t:=by rw [List.getD_eq_getElem?_getD,ht];rfl
   have hq:tO place (L.take (i+1))=tO place (L.take i)++[(place+i,t)]:=by
    rw [dK ht,DT,aAw,Nat.min_eq_left (by omega)];rfl
   obtain ⟨s,hS⟩:∃ s,s=(oC d place L i).2:=⟨_,rfl⟩;rw [← hS] at h2 h3 h4 hinv;have sc:eX s ((place+i:Nat):Int)=true:=by
    rw [gM];exact decide_eq_true (by have:=hinv.n;omega)
   have wi:=CP hinv (by omega) ((place+i:Nat):Int) t;have w1:iI s ((place+i:Nat):Int) t=eQ (jV s (place+i) t):=by rw [iI,h2,aAg (by decide),sc,decide_eq_true hz,aAh (show (true&&true)=true from rfl),aAt]
   have w2:jL s ((place+i:Nat):Int) t=dR (jV s (place+i) t):=by rw [jL,h2,aAg (by decide),sc,decide_eq_true hz,aAh (show (true&&true)=true from rfl),aAt]
   rw [oC,aAh h1,hD,hq,← hS,w1,w2];have hqS:(jV s (place+i) t).q=tO place (L.take (i+1)):=by
    rw [hq,← h3];rfl
   have hok:DInv (jV s (place+i) t) n (0+i+1):=⟨vS hinv.ok (by have:=hinv.n;omega) hz (by have:=hinv.q;omega),hinv.arm,hinv.n,by show (s.q++[(place+i,t)]).length≤_;rw [aAj,List.length_singleton];have:=hinv.q;omega⟩;rcases HE hok h2 with⟨c1,c2,c3,c4⟩|⟨c1,w,b,c2⟩
   ·exact .inl ⟨c1,c2,by rw [c3,hqS,hq],by rw [c4];exact h4⟩
   refine .inr ⟨c1,?_,?_⟩
   ·rw [c2];exact C1 hok h2 w b
   rw [c2,iY,aAg (by show ¬ s.off=true;rw [h2];decide)];exact C0 hi hqS h4 w b
  rw [oC,aAg (by rw [h1];decide)];exact .inr ⟨h1,h2,h3⟩
theorem PW {d:DSt} {n:Nat} (h:OnD d n) {place:Nat} {L:List ByteArray} (hp:place+L.length≤n) (hs:∀ t∈L,t.size=64) (hm:L.length≤1048575) :
  ((iK d place L).1=0∧OnD (iK d place L).2 n∧(iK d place L).2.cells=lJ d.cells place L)∨((iK d place L).1=22∧A1 (iK d place L).2 n∧V5 d.cells place L (iK d place L).2.cells):=by
 have hi:=lI h.inv place L (by omega);have hk:=qT h.inv place L L.length (by omega);rcases PU h hp hs hm L.length (aAo _)with⟨h1,h2,h3,h4⟩|⟨h1,h2,h3⟩
 ·rw [List.take_length] at h3;rw [iK,aAh h1] at hi ⊢;obtain ⟨s,hS⟩:∃ s,s=(oC d place L L.length).2:=⟨_,rfl⟩;rw [← hS] at h2 h3 h4 hk hi ⊢;have e1:nB s=eQ s:=by rw [nB,h2,aAg (by decide)]
  rcases HE hk h2 with⟨c1,c2,c3,c4⟩|⟨c1,w,b,c2⟩
  ·have e2:jM s=wJ (dR s):=by rw [jM,h2,aAg (by decide),aAh c1]
   rw [e2] at hi;refine .inl ⟨by rw [e1];exact c1,?_,?_⟩
   ·show OnD (jM s) n;rw [e2];exact⟨⟨hi.ok,hi.arm,hi.n,aAz _⟩,c2⟩
   show (jM s).cells=_;rw [e2];show cS (dR s).cells (dR s).q=_;rw [c3,c4,h3,h4,xU]
  have e2:jM s=iY s w b:=by rw [jM,h2,aAg (by decide),aAg (by rw [c1];decide),c2]
  refine .inr ⟨by rw [e1];exact c1,?_,?_⟩
  ·show A1 (jM s) n;rw [e2];exact C1 hk h2 w b
  show V5 _ _ _ (jM s).cells;rw [e2,iY,aAg (by rw [h2];decide)];exact C0 (aAo _) (by rw [List.take_length];exact h3) h4 w b
 rw [iK,aAg (by rw [h1];decide)];exact .inr ⟨h1,h2,h3⟩
abbrev X4 (P:List ByteArray):Ob:=bx 1 31 [.pv (aW P)]
theorem B0 (P:List ByteArray) (H:aA) (h1:H.get 951=none) :
  aH Tryz.prog 49 [.pv (aW P)] H (fun r H'=>r=.clo 97 [.ref 951 0 0 0]∧H'=(951,X4 P)::H):=by
 refine Bd func49 rfl ntmps49<|Sr<|Dd (by exact gR (id:=951) rfl rfl rfl rfl h1)<|Dd aS<|Zz<|Sr<|Dd (by exact fA rfl rfl)<|Dd aS<|Zz<|aM ?_;refine bD (H':=((951,X4 P)::H)) (.inr rfl) rfl (aJ rfl) Fin.refl ?_;exact Qq
def PF (i:Nat):Nat:=if i=901 then 945 else if i=945 then 901 else i
theorem T9 (i:Nat):PF (PF i)=i:=by
 unfold PF
 repeat' split
 all_goals omega
theorem QL (ρ:Nat→Nat) (l:List ByteArray):(jA l).map (gO ρ)=jA l:=by
 have:∀ r∈jA l,gO ρ r=r:=by
  intro r hr;obtain ⟨s,_,rfl⟩:=List.mem_map.1 hr;rfl
 rw [List.map_congr_left this,List.map_id']
abbrev cO (g:Nat) (l:List ByteArray):Ob:=⟨g,1,9,jA l⟩
theorem IU (ρ:Nat→Nat) (g:Nat) (l:List ByteArray):jB ρ (cO g l)=cO g l:=by show (⟨g,1,9,(jA l).map (gO ρ)⟩:Ob)=_;rw [QL]
theorem OP (id g:Nat) (l:List ByteArray):bF [(id,cO g l)]:=bF.of (fun p hp=>by
 rw [aAl] at hp;subst hp;exact P5 _ _)
theorem AN (L:List ByteArray) (g:Nat) (H:aA) (h1:H.get 945=some (cO g L)) (hl:L.length < 1099511627776) :
  aH Tryz.prog 47 [.osl 945 g 0 L.length] H (fun r H'=>r=.osl 945 g 0 (bZ L).length∧H'=[(945,cO g (bZ L++List.replicate (L.length - (bZ L).length) sNil)),(945,cO g L)]++H):=by
 have h0:=C7 L g [(901,cO g L)] rfl hl;have e1:gB PF [(901,cO g L)]=[(945,cO g L)]:=by
  show [(PF 901,jB PF (cO g L))]=_;rw [IU];rfl
 have e2:gB PF [(901,cO g (bZ L++List.replicate (L.length - (bZ L).length) sNil)),(901,cO g L)]=[(945,cO g (bZ L++List.replicate (L.length - (bZ L).length) sNil)),(945,cO g L)]:=by
  show [(PF 901,jB PF (cO g (bZ L++List.replicate (L.length - (bZ L).length) sNil))),(PF 901,jB PF (cO g L))]=_;rw [IU,IU];rfl
 have h2:=aH.ren (ρ:=PF) T9 h0 (args':=[.osl 945 g 0 L.length]) (r':=.osl 945 g 0 (bZ L).length) rfl e1 rfl e2;refine h2.frame (DI h1) (OP _ _ _) (by simp;rfl) (fun id h=>.inl ?_);simp only [aA.get] at h ⊢;cases e:Nat.beq 945 id with
 | true=>rfl
 | false=>rw [e] at h;cases h
def fP (P:List ByteArray):List ByteArray:=bZ (cU P)
def yE (k n:Nat) (b:Bool) (l2:bP) (P:List ByteArray):Int:=if b then 12 else if ¬ bK l2 P=0 then bK l2 P else if l2.length+(fP P).length=0 then 0 else if k < n+cZ (bE l2 (fP P))then 21 else -1
theorem eB (l2:bP) (P:List ByteArray):bK l2 P=0∨bK l2 P=1∨bK l2 P=2:=by
 rw [bK]
 split
 ·exact .inr (.inl rfl)
 split
 ·exact .inr (.inr rfl)
 exact .inl rfl
theorem vD (P:List ByteArray):(fP P).length≤P.length:=by have h1:=CU (cU P);rw [eW] at h1;exact h1
theorem rG {P:List ByteArray} {x:ByteArray}:x∈fP P↔x∈P:=qN.trans (sD P).mem_iff
theorem AP (P:List ByteArray):BQ (fP P):=vC (B6 P)
theorem SH (P R:List ByteArray):(((bZ (cU P)++R).map encStr).take (0+(bZ (cU P)).length)).drop 0=(fP P).map encStr:=by rw [List.drop_zero,aBA,List.map_append];exact List.take_left' (aAi _)
theorem C9 {d:DSt} {N m:Nat} (h:DInv d N m) (k a n:Nat) (b:Bool) (l:bP) (c:Nat) (l2:bP) (c2:Nat) (P:List ByteArray) (hk:k < 4000) (ha:a < 2) (hn:n≤k) (hm:m≤10) (hst:dT l c) (hnd:fI l) (hst2:dT l2 c2) (hnd2:fI l2) (hl2:l2.length < 1000000) (hP:P.length < 1000000) (hsz:bK l2 P=0→(bE l2 (fP P)).length < 100000000) :
  aH Tryz.prog 14 [.ref 1100 0 0 0,.mp 950 0,.pv (aW P)] ((950,bB l2 c2)::sH d (bV k a n b) (bB l c)) (fun r H'=>(¬ yE k n b l2 P = -1∧r=iv (yE k n b l2 P)∧H'=(950,bB l2 c2)::sH d (bV k a n b) (bB l c)) ∨
   (yE k n b l2 P = -1∧¬ (jR d k a n (bE l2 (fP P))).1=0∧r=iv (jR d k a n (bE l2 (fP P))).1∧H'=(950,bB l2 c2)::sH (jR d k a n (bE l2 (fP P))).2 (bV k a n true) (bB l c)) ∨
   (yE k n b l2 P = -1∧(jR d k a n (bE l2 (fP P))).1=0∧r=iv 0∧∃ l' c',dT l' c'∧fI l'∧l'.length≤l.length+l2.length∧(∀ x,cW l' x=rN (cW l) l2 (fP P) x)∧H'=(950,bB l2 c2)::sH (jR d k a n (bE l2 (fP P))).2 (bV k a (n+cZ (bE l2 (fP P))) false) (bB l' c'))):=by
 have hR:yE k n b l2 P=if b then 12 else if ¬ bK l2 P=0 then bK l2 P else if l2.length+(fP P).length=0 then 0 else if k < n+cZ (bE l2 (fP P))then 21 else -1:=rfl
 have hwr:=fun H hH=>KR l2 c2 P hst2 (by omega) (by omega) H hH;have hrange:=eB l2 P;have hDl:=vD P;cases b with
 | true =>
  rw [aAh rfl] at hR;rw [hR];refine Bd TS rfl PD<|Sr<|Dd aS<|Zz<|Sq<|aO<|Sr<|Dd aF<|Dd (by exact cG rfl cP rfl rfl rfl rfl)<|Da ?_;refine Cn ?_ ?_<;>intro hc1
  ·cases hc1
  refine Sr<|Dd aF<|Dd fF<|Dd (dO kE)<|Dd (eA dD)<|Da ?_;refine Cn ?_ ?_<;>intro hc2
  ·refine Sr<|Dd aS<|Zz<|aM ?_;refine bD (H':=((950,bB l2 c2)::sH d (bV k a n true) (bB l c))) (.inr rfl) rfl (aJ rfl) (Fin.wk (by(simp;done)) (Hc (aR _ _ _)<|Hc (aE _ _ rfl rfl rfl)<|Hc (aC _ _)<|Hc (aI _ _ _)<|Hc (aG _ _)<|Hc (by(simp;exact⟨rfl,rfl⟩))<|Hc (aR _ _ _)<|trivial) ⟨rfl,rfl,rfl,rfl,rfl,rfl,rfl,trivial⟩) ?_;exact .inl ⟨by decide,rfl,rfl⟩
  cases hc2
 | false =>
  rw [aAg (by decide)] at hR;refine Bd TS rfl PD<|Sr<|Dd aS<|Zz<|Sq<|aO<|Sr<|Dd aF<|Dd (by exact cG rfl cP rfl rfl rfl rfl)<|Da ?_;refine Cn ?_ ?_<;>intro hc1
  ·cases hc1
  refine Sr<|Dd aF<|Dd fF<|Dd (dO kE)<|Dd (eA dD)<|Da ?_;refine Cn ?_ ?_<;>intro hc2
  ·cases hc2
  refine aK<|Sq<|Sr<|Dd aF<|Dd aF<|Dd (by exact aB rfl rfl vM rfl (hwr _ rfl))<|Dd aS<|Zz<|Sr<|Dd aF<|Dd wB<|Zz ?_;refine Cn ?_ ?_<;>intro hc3
  ·have hq:¬ bK l2 P=0:=by have h:=hc3;simpa using h
   rw [aAh hq] at hR;rw [hR];refine Sr<|Dd aF<|Dd aS<|Zz<|aM ?_;refine bD (H':=((950,bB l2 c2)::sH d (bV k a n false) (bB l c))) (.inr rfl) rfl (aJ rfl) (Fin.wk (by(simp;done)) (Hc (aR _ _ _)<|Hc (aE _ _ rfl rfl rfl)<|Hc (aC _ _)<|Hc (aI _ _ _)<|Hc (aG _ _)<|Hc (by(simp;exact⟨rfl,rfl⟩))<|Hc (aR _ _ _)<|trivial) ⟨rfl,rfl,rfl,rfl,rfl,rfl,rfl,trivial⟩) ?_;exact .inl ⟨by omega,rfl,rfl⟩
  have hq:bK l2 P=0:=by have h:=hc3;simpa using h
  rw [aAg (fun h=>h hq)] at hR;have hsz:=hsz hq;have hso:=KW (L:=P) (by omega) call97 ((951,X4 P)::(950,bB l2 c2)::sH d (bV k a n false) (bB l c)) (B1 P _ (by omega) rfl) rfl rfl rfl rfl (bF.ofL ⟨(by(simp;done)),(by exact aR _ _ _),(by exact aE _ _ rfl rfl rfl),(by exact aC _ _),(by exact aI _ _ _),(by exact aG _ _),(by(simp;exact⟨rfl,rfl⟩)),(by exact aR _ _ _),trivial⟩) (by simp;rfl);refine aK<|Sr<|Dd aF<|Dd (by exact aB rfl rfl call49 rfl (B0 P _ rfl))<|Dd (by exact aB rfl rfl FD rfl (hso))<|Dd (by exact aB rfl rfl aAW rfl ((by have h:=AN (cU P) P.length ((945,cO P.length (cU P))::(951,X4 P)::(950,bB l2 c2)::sH d (bV k a n false) (bB l c)) rfl (by rw [eW];omega);rw [eW] at h;exact h)))<|Dd aS<|Zz<|Sq<|Sq ?_;refine gA.ent (cA.fzG (id:=945) (E':=[(0,.ref 1100 0 0 0),(1,.mp 950 0),(2,.pv (aW (fP P)))]) (H':=(950,bB l2 c2)::sH d (bV k a n false) (bB l c)) ((bZ (cU P)++List.replicate (P.length - (bZ (cU P)).length) sNil).map encStr) rfl (by rw [List.map_map];rfl) ?_ rfl ?_ ?_) ?_
  ·intro p hp;simp only [aAu,aAy,or_false] at hp;rcases hp with rfl|rfl|rfl
   ·exact⟨_,rfl,.same (by simp;rfl)⟩
   ·exact⟨_,rfl,.same (by simp;rfl)⟩
   exact⟨_,rfl,.osl (SH P _)⟩
  ·exact⟨⟨_,rfl,rfl,rfl,rfl,dB (aR _ _ _)⟩,⟨_,rfl,rfl,rfl,rfl,dB (aE _ _ rfl rfl rfl)⟩,⟨_,rfl,rfl,rfl,rfl,dB (aC _ _)⟩,⟨_,rfl,rfl,rfl,rfl,dB (aI _ _ _)⟩,⟨_,rfl,rfl,rfl,rfl,dB (aG _ _)⟩,⟨_,rfl,rfl,rfl,rfl,dB (bG rfl rfl)⟩,⟨_,rfl,rfl,rfl,rfl,dB (aR _ _ _)⟩,trivial⟩
  ·exact⟨rfl,rfl,rfl,rfl,rfl,rfl,rfl,trivial⟩
  have hinc:=AP P;obtain ⟨D,hD⟩:∃ D,D=fP P:=⟨_,rfl⟩;rw [← hD] at hR hsz hDl ⊢;have hmp:(bR l2).length=l2.length:=aAi _;have hmd:(D.map encStr).length=D.length:=aAi _;have htx:=fun H hH=>P1 l2 c2 D hst2 (by omega) (by omega) (by omega) H hH;obtain ⟨t,ht⟩:∃ t,t=bE l2 D:=⟨_,rfl⟩;rw [← ht] at hR hsz htx ⊢;have hcn:=fun H=>AK t (by omega) H;refine Rg<|Dd aF<|Dd (by exact xD (κ:=fR) (l:=bR l2) rfl aV rfl rfl rfl rfl)<|Dd aF<|Dd (mZ aP)<|Dd (by exact cH rfl rfl rfl (iU (by omega) (by omega)))<|Dd hU<|Zz ?_;refine Cn ?_ ?_<;>intro hc4
  ·have hq2:l2.length+D.length=0:=by have:=aAe hc4;omega
   rw [aAh hq2] at hR;rw [hR];refine Sr<|Dd aS<|Zz<|aM ?_;refine bD (H':=((950,bB l2 c2)::sH d (bV k a n false) (bB l c))) (.inr rfl) rfl (aJ rfl) (Fin.wk (by(simp;done)) (Hc (aR _ _ _)<|Hc (aE _ _ rfl rfl rfl)<|Hc (aC _ _)<|Hc (aI _ _ _)<|Hc (aG _ _)<|Hc (by(simp;exact⟨rfl,rfl⟩))<|Hc (aR _ _ _)<|trivial) ⟨rfl,rfl,rfl,rfl,rfl,rfl,rfl,trivial⟩) ?_;exact .inl ⟨by decide,rfl,rfl⟩
  have hq2:¬ l2.length+D.length=0:=by have:=aAf hc4;omega
  rw [aAg hq2] at hR;refine aK<|Sr<|Dd aF<|Dd aF<|Dd (by exact aB rfl rfl vL rfl (htx _ rfl))<|Dd aS<|Zz<|Sq<|Sq<|bO follows<|Cq aF<|Cq (by exact aB rfl rfl aAV rfl (hcn _))<|Cq aF<|Cq fF<|Cq (dO sT)<|Cq (eA aQ)<|Cq aF<|Cq fF<|Cq (dO mF)<|Cq (dO nA)<|Cq (eA aQ)<|Cq (by exact eC rfl rfl rfl (iU (by omega) (by omega)))<|Cq BR<|dC<|Kr ?_;refine Cn ?_ ?_<;>intro hc5
  ·have hq3:k < n+cZ t:=by have:=aAe hc5;omega
   rw [aAh hq3] at hR;rw [hR];refine Sr<|Dd aS<|Zz<|aM ?_;refine bD (H':=((950,bB l2 c2)::sH d (bV k a n false) (bB l c))) (.inr rfl) rfl (aJ rfl) (Fin.wk (by(simp;done)) (Hc (aR _ _ _)<|Hc (aE _ _ rfl rfl rfl)<|Hc (aC _ _)<|Hc (aI _ _ _)<|Hc (aG _ _)<|Hc (by(simp;exact⟨rfl,rfl⟩))<|Hc (aR _ _ _)<|trivial) ⟨rfl,rfl,rfl,rfl,rfl,rfl,rfl,trivial⟩) ?_;exact .inl ⟨by decide,rfl,rfl⟩
  have hq3:¬ k < n+cZ t:=by have:=aAf hc5;omega
  rw [aAg hq3] at hR;rw [hR];have hadd:=TA h k a n a n false l c t hsz (by omega) ha hk (by omega);obtain ⟨x,hx⟩:∃ x,x=jR d k a n t:=⟨_,rfl⟩;rw [← hx] at hadd ⊢;clear hx;refine aK<|Sq<|Sr<|Dd aF<|Dd aF<|Dd fF<|Dd (dO mF)<|Dd (UZ cX sizeOf70)<|Dd aF<|Dd (by exact aB rfl rfl aAU rfl (gF hadd _ ⟨rfl,rfl,rfl,rfl,rfl,rfl,trivial⟩ (by simp;rfl)))<|Dd aS<|Zz<|Sr<|Dd aF<|Dd wB<|Zz ?_;refine Cn ?_ ?_<;>intro hc6
  ·have e0:¬ x.1=0:=by have h:=hc6;simpa using h
   rw [aAg e0];refine Sr<|Dd aF<|Dd aS<|Zz<|aM ?_;refine bD (H':=((950,bB l2 c2)::sH x.2 (bV k a n true) (bB l c))) (.inr rfl) rfl (aJ rfl) (Fin.wk (by(simp;done)) (Hc (aR _ _ _)<|Hc (aE _ _ rfl rfl rfl)<|Hc (aC _ _)<|Hc (aI _ _ _)<|Hc (aG _ _)<|Hc (by(simp;exact⟨rfl,rfl⟩))<|Hc (aR _ _ _)<|trivial) ⟨rfl,rfl,rfl,rfl,rfl,rfl,rfl,trivial⟩) ?_;exact .inr (.inl ⟨rfl,e0,rfl,rfl⟩)
  have e0:x.1=0:=by have h:=hc6;simpa using h
  rw [aAh e0];refine aK<|Sr<|Dd aF<|Dd fF<|Dd (dO sS)<|Dd (eA bS)<|Dd aF<|Dm ?_;refine gJ rfl rfl (aB rfl rfl aAT rfl (S3 l l2 c c2 D _ (by omega) (by omega) hst2 rfl rfl rfl (bF.ofL ⟨(by exact aE _ _ rfl rfl rfl),(by exact aC _ _),(by exact aI _ _ _),(by exact aG _ _),(by(simp;exact⟨rfl,rfl⟩)),(by exact aR _ _ _),(by exact aR _ _ _),(by exact aE _ _ rfl rfl rfl),(by exact aC _ _),(by exact aI _ _ _),(by exact aG _ _),(by(simp;exact⟨rfl,rfl⟩)),(by exact aR _ _ _),trivial⟩))) ?_;rintro r H' ⟨rfl,ps,hps,rfl⟩;obtain ⟨q1,q2,q3,q4⟩:=AT (D:=D) hst hnd hnd2 hps;refine Zz<|Sr<|Dd aS<|Zz<|aM ?_;refine bD (H':=((950,bB l2 c2)::sH x.2 (bV k a (n+cZ t) false) (bB (lM (fX l c ps).1 D) (fX l c ps).2))) (.inr rfl) rfl (aJ rfl) (Fin.wk (by(simp;done)) (Hc (aR _ _ _)<|Hc (aE _ _ rfl rfl rfl)<|Hc (aC _ _)<|Hc (aI _ _ _)<|Hc (aG _ _)<|Hc (by(simp;exact⟨rfl,rfl⟩))<|Hc (aR _ _ _)<|trivial) ⟨rfl,rfl,rfl,rfl,rfl,rfl,rfl,trivial⟩) ?_;exact .inr (.inr ⟨rfl,e0,rfl,_,_,q1,q2,q3,q4,rfl⟩)
theorem OJ {d:DSt} {N m:Nat} (h:DInv d N m) (k a n:Nat) (b:Bool) (l:bP) (c:Nat) (P:List ByteArray) (hk:k < 4000) (ha:a < 2) (hn:n≤k) (hm:m≤10) (hst:dT l c) (hnd:fI l) (hP:P.length < 1000000) (hsz:bK ([]:bP) P=0→(bE ([]:bP) (fP P)).length < 100000000) :
  aH Tryz.prog 14 [.ref 1100 0 0 0,.pv .nilm,.pv (aW P)] (sH d (bV k a n b) (bB l c)) (fun r H'=>(¬ yE k n b ([]:bP) P = -1∧r=iv (yE k n b ([]:bP) P)∧H'=sH d (bV k a n b) (bB l c)) ∨
   (yE k n b ([]:bP) P = -1∧¬ (jR d k a n (bE ([]:bP) (fP P))).1=0∧r=iv (jR d k a n (bE ([]:bP) (fP P))).1∧H'=sH (jR d k a n (bE ([]:bP) (fP P))).2 (bV k a n true) (bB l c)) ∨
   (yE k n b ([]:bP) P = -1∧(jR d k a n (bE ([]:bP) (fP P))).1=0∧r=iv 0∧∃ l' c',dT l' c'∧fI l'∧l'.length≤l.length+([]:bP).length∧(∀ x,cW l' x=rN (cW l) ([]:bP) (fP P) x)∧H'=sH (jR d k a n (bE ([]:bP) (fP P))).2 (bV k a (n+cZ (bE ([]:bP) (fP P))) false) (bB l' c'))):=by
 have hR:yE k n b ([]:bP) P=if b then 12 else if ¬ bK ([]:bP) P=0 then bK ([]:bP) P else if([]:bP).length+(fP P).length=0 then 0 else if k < n+cZ (bE ([]:bP) (fP P))then 21 else -1:=rfl
 have hwr:=fun H=>PT P (by omega) H;have hrange:=eB ([]:bP) P;have hDl:=vD P;cases b with
 | true =>
  rw [aAh rfl] at hR;rw [hR];refine Bd TS rfl PD<|Sr<|Dd aS<|Zz<|Sq<|aO<|Sr<|Dd aF<|Dd (by exact cG rfl cP rfl rfl rfl rfl)<|Da ?_;refine Cn ?_ ?_<;>intro hc1
  ·cases hc1
  refine Sr<|Dd aF<|Dd fF<|Dd (dO kE)<|Dd (eA dD)<|Da ?_;refine Cn ?_ ?_<;>intro hc2
  ·refine Sr<|Dd aS<|Zz<|aM ?_;refine bD (H':=(sH d (bV k a n true) (bB l c))) (.inr rfl) rfl (aJ rfl) (Fin.wk (by(simp;done)) (Hc (aE _ _ rfl rfl rfl)<|Hc (aC _ _)<|Hc (aI _ _ _)<|Hc (aG _ _)<|Hc (by(simp;exact⟨rfl,rfl⟩))<|Hc (aR _ _ _)<|trivial) ⟨rfl,rfl,rfl,rfl,rfl,rfl,trivial⟩) ?_;exact .inl ⟨by decide,rfl,rfl⟩
  cases hc2
 | false =>
  rw [aAg (by decide)] at hR;refine Bd TS rfl PD<|Sr<|Dd aS<|Zz<|Sq<|aO<|Sr<|Dd aF<|Dd (by exact cG rfl cP rfl rfl rfl rfl)<|Da ?_;refine Cn ?_ ?_<;>intro hc1
  ·cases hc1
  refine Sr<|Dd aF<|Dd fF<|Dd (dO kE)<|Dd (eA dD)<|Da ?_;refine Cn ?_ ?_<;>intro hc2
  ·cases hc2
  refine aK<|Sq<|Sr<|Dd aF<|Dd aF<|Dd (by exact aB rfl rfl vM rfl (hwr _))<|Dd aS<|Zz<|Sr<|Dd aF<|Dd wB<|Zz ?_;refine Cn ?_ ?_<;>intro hc3
  ·have hq:¬ bK ([]:bP) P=0:=by have h:=hc3;simpa using h
   rw [aAh hq] at hR;rw [hR];refine Sr<|Dd aF<|Dd aS<|Zz<|aM ?_;refine bD (H':=(sH d (bV k a n false) (bB l c))) (.inr rfl) rfl (aJ rfl) (Fin.wk (by(simp;done)) (Hc (aE _ _ rfl rfl rfl)<|Hc (aC _ _)<|Hc (aI _ _ _)<|Hc (aG _ _)<|Hc (by(simp;exact⟨rfl,rfl⟩))<|Hc (aR _ _ _)<|trivial) ⟨rfl,rfl,rfl,rfl,rfl,rfl,trivial⟩) ?_;exact .inl ⟨by omega,rfl,rfl⟩
  have hq:bK ([]:bP) P=0:=by have h:=hc3;simpa using h
  rw [aAg (fun h=>h hq)] at hR;have hsz:=hsz hq;have hso:=KW (L:=P) (by omega) call97 ((951,X4 P)::sH d (bV k a n false) (bB l c)) (B1 P _ (by omega) rfl) rfl rfl rfl rfl (bF.ofL ⟨(by(simp;done)),(by exact aE _ _ rfl rfl rfl),(by exact aC _ _),(by exact aI _ _ _),(by exact aG _ _),(by(simp;exact⟨rfl,rfl⟩)),(by exact aR _ _ _),trivial⟩) (by simp;rfl);refine aK<|Sr<|Dd aF<|Dd (by exact aB rfl rfl call49 rfl (B0 P _ rfl))<|Dd (by exact aB rfl rfl FD rfl (hso))<|Dd (by exact aB rfl rfl aAW rfl ((by have h:=AN (cU P) P.length ((945,cO P.length (cU P))::(951,X4 P)::sH d (bV k a n false) (bB l c)) rfl (by rw [eW];omega);rw [eW] at h;exact h)))<|Dd aS<|Zz<|Sq<|Sq ?_;refine gA.ent (cA.fzG (id:=945) (E':=[(0,.ref 1100 0 0 0),(1,.pv .nilm),(2,.pv (aW (fP P)))]) (H':=sH d (bV k a n false) (bB l c)) ((bZ (cU P)++List.replicate (P.length - (bZ (cU P)).length) sNil).map encStr) rfl (by rw [List.map_map];rfl) ?_ rfl ?_ ?_) ?_
  ·intro p hp;simp only [aAu,aAy,or_false] at hp;rcases hp with rfl|rfl|rfl
   ·exact⟨_,rfl,.same (by simp;rfl)⟩
   ·exact⟨_,rfl,.same (by simp)⟩
   exact⟨_,rfl,.osl (SH P _)⟩
  ·exact⟨⟨_,rfl,rfl,rfl,rfl,dB (aE _ _ rfl rfl rfl)⟩,⟨_,rfl,rfl,rfl,rfl,dB (aC _ _)⟩,⟨_,rfl,rfl,rfl,rfl,dB (aI _ _ _)⟩,⟨_,rfl,rfl,rfl,rfl,dB (aG _ _)⟩,⟨_,rfl,rfl,rfl,rfl,dB (bG rfl rfl)⟩,⟨_,rfl,rfl,rfl,rfl,dB (aR _ _ _)⟩,trivial⟩
  ·exact⟨rfl,rfl,rfl,rfl,rfl,rfl,trivial⟩
  have hinc:=AP P;obtain ⟨D,hD⟩:∃ D,D=fP P:=⟨_,rfl⟩;rw [← hD] at hR hsz hDl ⊢;have hmp:([]:bP).length=0:=rfl;have hmd:(D.map encStr).length=D.length:=aAi _;have htx:=fun H=>T7 D (by omega) (by omega) H;obtain ⟨t,ht⟩:∃ t,t=bE ([]:bP) D:=⟨_,rfl⟩;rw [← ht] at hR hsz htx ⊢;have hcn:=fun H=>AK t (by omega) H;refine Rg<|Dd aF<|Dd (by exact WF rfl aV rfl)<|Dd aF<|Dd (mZ aP)<|Dd (by exact cH rfl rfl rfl (iU (by omega) (by omega)))<|Dd hU<|Zz ?_;refine Cn ?_ ?_<;>intro hc4
  ·have hq2:([]:bP).length+D.length=0:=by have:=aAe hc4;omega
   rw [aAh hq2] at hR;rw [hR];refine Sr<|Dd aS<|Zz<|aM ?_;refine bD (H':=(sH d (bV k a n false) (bB l c))) (.inr rfl) rfl (aJ rfl) (Fin.wk (by(simp;done)) (Hc (aE _ _ rfl rfl rfl)<|Hc (aC _ _)<|Hc (aI _ _ _)<|Hc (aG _ _)<|Hc (by(simp;exact⟨rfl,rfl⟩))<|Hc (aR _ _ _)<|trivial) ⟨rfl,rfl,rfl,rfl,rfl,rfl,trivial⟩) ?_;exact .inl ⟨by decide,rfl,rfl⟩
  have hq2:¬ ([]:bP).length+D.length=0:=by have:=aAf hc4;omega
  rw [aAg hq2] at hR;refine aK<|Sr<|Dd aF<|Dd aF<|Dd (by exact aB rfl rfl vL rfl (htx _))<|Dd aS<|Zz<|Sq<|Sq<|bO follows<|Cq aF<|Cq (by exact aB rfl rfl aAV rfl (hcn _))<|Cq aF<|Cq fF<|Cq (dO sT)<|Cq (eA aQ)<|Cq aF<|Cq fF<|Cq (dO mF)<|Cq (dO nA)<|Cq (eA aQ)<|Cq (by exact eC rfl rfl rfl (iU (by omega) (by omega)))<|Cq BR<|dC<|Kr ?_;refine Cn ?_ ?_<;>intro hc5
  ·have hq3:k < n+cZ t:=by have:=aAe hc5;omega
   rw [aAh hq3] at hR;rw [hR];refine Sr<|Dd aS<|Zz<|aM ?_;refine bD (H':=(sH d (bV k a n false) (bB l c))) (.inr rfl) rfl (aJ rfl) (Fin.wk (by(simp;done)) (Hc (aE _ _ rfl rfl rfl)<|Hc (aC _ _)<|Hc (aI _ _ _)<|Hc (aG _ _)<|Hc (by(simp;exact⟨rfl,rfl⟩))<|Hc (aR _ _ _)<|trivial) ⟨rfl,rfl,rfl,rfl,rfl,rfl,trivial⟩) ?_;exact .inl ⟨by decide,rfl,rfl⟩
  have hq3:¬ k < n+cZ t:=by have:=aAf hc5;omega
  rw [aAg hq3] at hR;rw [hR];have hadd:=TA h k a n a n false l c t hsz (by omega) ha hk (by omega);obtain ⟨x,hx⟩:∃ x,x=jR d k a n t:=⟨_,rfl⟩;rw [← hx] at hadd ⊢;clear hx;refine aK<|Sq<|Sr<|Dd aF<|Dd aF<|Dd fF<|Dd (dO mF)<|Dd (UZ cX sizeOf70)<|Dd aF<|Dd (by exact aB rfl rfl aAU rfl (gF hadd _ ⟨rfl,rfl,rfl,rfl,rfl,rfl,trivial⟩ (by simp;rfl)))<|Dd aS<|Zz<|Sr<|Dd aF<|Dd wB<|Zz ?_;refine Cn ?_ ?_<;>intro hc6
  ·have e0:¬ x.1=0:=by have h:=hc6;simpa using h
   rw [aAg e0];refine Sr<|Dd aF<|Dd aS<|Zz<|aM ?_;refine bD (H':=(sH x.2 (bV k a n true) (bB l c))) (.inr rfl) rfl (aJ rfl) (Fin.wk (by(simp;done)) (Hc (aE _ _ rfl rfl rfl)<|Hc (aC _ _)<|Hc (aI _ _ _)<|Hc (aG _ _)<|Hc (by(simp;exact⟨rfl,rfl⟩))<|Hc (aR _ _ _)<|trivial) ⟨rfl,rfl,rfl,rfl,rfl,rfl,trivial⟩) ?_;exact .inr (.inl ⟨rfl,e0,rfl,rfl⟩)
  have e0:x.1=0:=by have h:=hc6;simpa using h
  rw [aAh e0];refine aK<|Sr<|Dd aF<|Dd fF<|Dd (dO sS)<|Dd (eA bS)<|Dd aF<|Dm ?_;refine gJ rfl rfl (aB rfl rfl aAT rfl (S2 l c D _ (by omega) rfl rfl (bF.ofL ⟨(by exact aE _ _ rfl rfl rfl),(by exact aC _ _),(by exact aI _ _ _),(by exact aG _ _),(by(simp;exact⟨rfl,rfl⟩)),(by exact aR _ _ _),(by exact aE _ _ rfl rfl rfl),(by exact aC _ _),(by exact aI _ _ _),(by exact aG _ _),(by(simp;exact⟨rfl,rfl⟩)),(by exact aR _ _ _),trivial⟩))) ?_;rintro r H' ⟨rfl,rfl⟩;obtain ⟨q1,q2,q3,q4⟩:=AT (put:=[]) (ps:=[]) (D:=D) hst hnd zI (List.Perm.refl _);refine Zz<|Sr<|Dd aS<|Zz<|aM ?_;refine bD (H':=(sH x.2 (bV k a (n+cZ t) false) (bB (lM l D) c))) (.inr rfl) rfl (aJ rfl) (Fin.wk (by(simp;done)) (Hc (aE _ _ rfl rfl rfl)<|Hc (aC _ _)<|Hc (aI _ _ _)<|Hc (aG _ _)<|Hc (by(simp;exact⟨rfl,rfl⟩))<|Hc (aR _ _ _)<|trivial) ⟨rfl,rfl,rfl,rfl,rfl,rfl,trivial⟩) ?_;exact .inr (.inr ⟨rfl,e0,rfl,_,_,q1,q2,q3,q4,rfl⟩)
abbrev ZK (l:List UInt8) (g:Nat) (u:Bool):Ob:=oT (.osl 2002 g 0 l.length) u
abbrev ZJ (l:List UInt8) (g:Nat):Ob:=⟨g,1,5,bA l⟩
theorem T0 {g g':Nat} {l l':List UInt8} {u u':Bool} {id:Nat} (h:(aA.get (H4 g l u) id).isSome=true):(aA.get (H4 g' l' u') id).isSome=true:=by
 simp only [H4,aA.get] at h ⊢;cases e1:Nat.beq 2001 id with
 | true=>rfl
 | false =>
  cases e2:Nat.beq 2002 id with
  | true=>rfl
  | false=>rw [e1,e2] at h;cases h
theorem PP {g:Nat} {l:List UInt8} {u u':Bool} {id:Nat} (h:(aA.get (OX g l u) id).isSome=true):(aA.get (H4 g l u) id).isSome=true:=by
 simp only [OX,H4,aA.get] at h ⊢;cases e1:Nat.beq 2001 id with
 | true=>rfl
 | false =>
  cases e2:Nat.beq 2002 id with
  | true=>rfl
  | false=>rw [e1,e2] at h;cases h
theorem PO {H:aA} {g:Nat} {l:List UInt8} {u:Bool} (h1:H.get 2001=some (ZK l g u)) (h2:H.get 2002=some (ZJ l g)):Sub (H4 g l u) H:=by
 intro j o h;simp only [H4,aA.get] at h;cases e1:Nat.beq 2001 j with
 | true =>
  rw [e1] at h;cases h;rw [← Nat.eq_of_beq_eq_true e1];exact h1
 | false =>
  rw [e1] at h;cases e2:Nat.beq 2002 j with
  | true =>
   rw [e2] at h;cases h;rw [← Nat.eq_of_beq_eq_true e2];exact h2
  | false=>rw [e2] at h;cases h
theorem YC {H:aA} {g:Nat} {l:List UInt8} {u:Bool} (s:ByteArray) (h1:H.get 2001=some (ZK l g u)) (h2:H.get 2002=some (ZJ l g)) (hl:l.length+s.size < 70368744177664):aH Tryz.prog 86 [.ref 2001 0 0 0,sv s] H (fun r H'=>r=.tup [iv (s.size:Int),.pv JK]∧H'=H4 (g+1) (l++s.data.toList) true++H) :=aH.frame (rP g l u s hl) (PO h1 h2) (bF.ofL ⟨(by exact oB rfl rfl),(by exact rJ _ _),trivial⟩) (by simp;rfl) (fun id h=>.inl (T0 h))
theorem WM {H:aA} {g:Nat} {l:List UInt8} {u:Bool} (h1:H.get 2001=some (ZK l g u)) (h2:H.get 2002=some (ZJ l g)) (hl:l.length < 70368744177664):aH Tryz.prog 88 [.ref 2001 0 0 0] H (fun r H'=>r=sv ⟨l.toArray⟩∧H'=OX g l u++H) :=aH.frame (V8 g l u hl) (PO h1 h2) (bF.ofL ⟨(by exact oB rfl rfl),(by exact rJ _ _),trivial⟩) (by simp;rfl) (fun id h=>.inl (PP (u':=u) h))
def GL (d:DSt) (k a i:Nat):List UInt8:=(List.range i).flatMap fun i=>(JP d k a i).data.toList
theorem CM (d:DSt) (k a i:Nat):GL d k a (i+1)=GL d k a i++(JP d k a i).data.toList:=by rw [GL,List.range_succ,List.flatMap_append,List.flatMap_cons,List.flatMap_nil,List.append_nil];rfl
theorem CH (place:Nat) (t:ByteArray) (ht:t.size=64):(GC place t).size≤46:=by
 rw [GC]
 split
 ·exact aAz _
 next hb =>
 split
 ·rw [CI] at hb;simp only [Bool.not_eq_true,aBE,aAq] at hb;rw [QV,ByteArray.size_extract];omega
 exact aAz _
theorem GK {d:DSt} (hs:DOk d) {k a:Nat} (n:Nat) (hp:∀ i,i < n→2+a*k+i < d.cells.length):∀ i,i≤n→(GL d k a i).length≤46*i
 | 0,_=>aAo _
 | i+1,hi=>by
  have h1:=GK hs n hp i (by omega);have h2:=CH (2+a*k+i) (bM d (2+a*k+i)) (mT hs (hp i (by omega)));rw [CM,aAj,dL,JP];omega
theorem yK:∀ (n:Nat) (t:List UInt8) (acc:List ByteArray),((fD n t acc).1.map ByteArray.size).sum≤(acc.map ByteArray.size).sum+t.length
 | 0,t,acc=>Nat.le_add_right _ _
 | n+1,t,acc=>by
  rw [fD]
  split
  ·exact Nat.le_add_right _ _
  split
  ·exact aAz _
  have h1:=yK n ((xH t).drop (L5 t)) (acc++[ofL ((xH t).take (L5 t))]);have h2:=(J8 t).2;rw [List.map_append,List.sum_append,List.map_cons,List.map_nil,List.sum_cons,List.sum_nil,bU,aAw,aAx] at h1;omega
theorem IH (t:List UInt8):((eF t).1.map ByteArray.size).sum≤t.length:=by have:=yK t.length t [];rw [List.map_nil,List.sum_nil,aBA] at this;exact this
theorem FQ (L:List ByteArray) (j:Nat):((L.take j).map ByteArray.size).sum≤(L.map ByteArray.size).sum:=by
 have h:L.map ByteArray.size=(L.take j).map ByteArray.size++(L.drop j).map ByteArray.size:=by rw [← List.map_append,List.take_append_drop]
 rw [h,List.sum_append];omega
def Q3 (o:Bool) (L:List ByteArray) (j:Nat):Bool:=o&&(L.take j).all fun c=>lB c.data.toList
theorem Q2 {o:Bool} {L:List ByteArray} {j:Nat} {t:ByteArray} (h:L[j]?=some t):Q3 o L (j+1)=(Q3 o L j&&lB t.data.toList):=by rw [Q3,Q3,dK h,List.all_append,List.all_cons,List.all_nil,Bool.and_true,Bool.and_assoc]
abbrev X7 (L:List ByteArray) (j:Nat):CT:=pB ((L.take j).map fun c=>c.data.toList)
theorem SC {L:List ByteArray} {j:Nat} {t:ByteArray} (h:L[j]?=some t):X7 L (j+1)=XO (X7 L j) t.data.toList:=by rw [X7,dK h,List.map_append];exact tE _ _
theorem UY (d:DSt) (hs:DOk d) (hoff:d.off=false) (k a n:Nat) (b:Bool) (ha:a < 2) (hn:n≤k) (hk:2*k+2≤d.cells.length) :
  aH Tryz.prog 44 [.ref 1100 0 0 0] (sH d (bV k a n b) (bB [] 0)) (fun r H'=>r=bv (sO d k a n)∧∃ l c,dT l c∧fI l∧l.length≤46*n∧(sO d k a n=true→∀ x,cW l x=HZ d k a n x)∧H'=sH d (bV k a n b) (bB l c)):=by
 have hn2:=hs.n2;have hak:a*k≤k:=by
  rcases(show a=0∨a=1 by omega)with e|e<;>subst e<;>omega
 have hplace:∀ i,i < n→2+a*k+i < d.cells.length:=fun i hi=>by omega
 have hTl:=GK (k:=k) (a:=a) hs n hplace;have hTn:JO d k a n=GL d k a n:=rfl;have hok:sO d k a n=(uN d k a n&&((eF (JO d k a n)).2&&(eF (JO d k a n)).1.all fun c=>lB c.data.toList)):=rfl;have hC:HZ d k a n=pB ((eF (JO d k a n)).1.map fun c=>c.data.toList):=rfl;refine Bd func44 rfl ntmps44<|Sr<|Dd aS<|Zz<|Sr<|Dd (by exact cC (id:=2001) rfl PM rfl rfl)<|Zz<|Sq<|Sr<|Dd aF<|Dd fF<|Dd (dO mF)<|Dd (dO nA)<|Dd (eA aQ)<|Dd aF<|Zz<|aO ?_;refine gA.ent (E':=[(0,.ref 1100 0 0 0),(3,.ref 2001 0 0 0),(14,iv (n:Int)),(15,iv 0)]) (H':=(2002,⟨0,1,5,[]⟩)::(2001,oT (.osl 2002 0 0 0) false)::sH d (bV k a n b) (bB [] 0)) (cA.nz 2002 1 5 rfl rfl ⟨⟨_,rfl,(by exact Nz.same (by(simp;rfl)))⟩,⟨_,rfl,(by exact Nz.same (by(simp;rfl)))⟩,⟨_,rfl,(by exact Nz.same (by(simp;done)))⟩,⟨_,rfl,(by exact Nz.same (by(simp;done)))⟩,trivial⟩ ⟨⟨_,rfl,rfl,rfl,rfl,(by exact .inr ⟨_,_,rfl,rfl,(by repeat(first|exact trivial|refine⟨(by first|exact Nz.own|exact Nz.same (by(simp;done))),?_⟩))⟩)⟩,⟨_,rfl,rfl,rfl,rfl,(by exact .inl ⟨rfl,(by exact aE _ _ rfl rfl rfl)⟩)⟩,⟨_,rfl,rfl,rfl,rfl,(by exact .inl ⟨rfl,(by exact aC _ _)⟩)⟩,⟨_,rfl,rfl,rfl,rfl,(by exact .inl ⟨rfl,(by exact aI _ _ _)⟩)⟩,⟨_,rfl,rfl,rfl,rfl,(by exact .inl ⟨rfl,(by exact aG _ _)⟩)⟩,⟨_,rfl,rfl,rfl,rfl,(by exact .inl ⟨rfl,(by exact bG rfl rfl)⟩)⟩,⟨_,rfl,rfl,rfl,rfl,(by exact .inl ⟨rfl,(by exact aR _ _ _)⟩)⟩,trivial⟩ ⟨rfl,rfl,rfl,rfl,rfl,rfl,trivial⟩) ?_;refine wO (fun(i g:Nat) (u:Bool)=>([(0,.ref 1100 0 0 0),(3,.ref 2001 0 0 0),(14,iv (n:Int)),(15,iv (i:Int))],(2001,ZK (GL d k a i) g u)::(2002,ZJ (GL d k a i) g)::sH d (bV k a n b) (bB [] 0))) (fun i g u=>i≤n∧∀ j,j < i→¬ JP d k a j=sNil) (fun i g u=>n - i) 0 0 false ⟨aAz _,fun j hj=>absurd hj (Nat.not_lt_zero _)⟩ ?_ ?_
 ·exact(cA.wk (Ea<|Ea<|Eb<|Eb<|trivial) (Hc (oB rfl rfl)<|Hc (aC _ _)<|Hc (aE _ _ rfl rfl rfl)<|Hc (aC _ _)<|Hc (aI _ _ _)<|Hc (aG _ _)<|Hc (bG rfl rfl)<|Hc (aR _ _ _)<|trivial) ⟨rfl,rfl,rfl,rfl,rfl,rfl,trivial⟩)
 rintro i g u ⟨hi,hz⟩;have hTi:=hTl i hi;have hpl:=yY d k a n a i b [] 0 (by omega) (by omega) (by omega);refine Sr<|Dd dX<|Zz<|Sq ?_;refine Cn ?_ ?_<;>intro hc1
 ·have hlt:i < n:=by have:=aAe hc1;omega
  have hpc:=UJ d hs hoff k a n (2+a*k+i) b [] 0 (hplace i hlt);have hps:=CH (2+a*k+i) (bM d (2+a*k+i)) (mT hs (hplace i hlt));have hnx:=CM d k a i;have hPi:JP d k a i=GC (2+a*k+i) (bM d (2+a*k+i)):=rfl;rw [← hPi] at hpc hps;obtain ⟨p,hp⟩:∃ p,p=JP d k a i:=⟨_,rfl⟩;rw [← hp] at hpc hps hnx;refine aK<|Sq<|aO<|Sr<|Dd aF<|Dd aS<|Zz<|Sr<|Dd aF<|Dd aF<|Dd aF<|Dd fF<|Dd (dO mF)<|Dd (dO sV)<|Dd (eA aQ)<|Dd aF<|Dd (by exact aB rfl rfl aAR rfl (iL hpl _ ⟨rfl,rfl,rfl,rfl,rfl,rfl,trivial⟩ (by simp;rfl)))<|Dd (by exact aB rfl rfl call84 rfl (iL hpc _ ⟨rfl,rfl,rfl,rfl,rfl,rfl,trivial⟩ (by simp;rfl)))<|Dd aS<|Zz<|Sq<|Sr<|Dd aF<|Dd W0<|Zz ?_;refine Cn ?_ ?_<;>intro hc2
  ·have hq:p=sNil:=aAe hc2;have hf:sO d k a n=false:=by
    have:uN d k a n=false:=by
     rw [Bool.eq_false_iff];intro h;have:=List.all_eq_true.1 h i (List.mem_range.2 hlt);rw [← hp,hq,decide_eq_true rfl] at this;cases this
    rw [hok,this];rfl
   refine Sr<|Dd aS<|Zz<|aM ?_;refine bD (H':=(sH d (bV k a n b) (bB [] 0))) (.inr rfl) rfl (aJ rfl) (Fin.wk (by(simp;done)) (Hc (aE _ _ rfl rfl rfl)<|Hc (aC _ _)<|Hc (aI _ _ _)<|Hc (aG _ _)<|Hc (bG rfl rfl)<|Hc (aR _ _ _)<|trivial) ⟨rfl,rfl,rfl,rfl,rfl,rfl,trivial⟩) ?_;exact⟨by rw [hf],[],0,JJ,zI,aAz _,fun h=>(by rw [hf] at h;cases h),rfl⟩
  have hq:¬ p=sNil:=aAf hc2;refine aK<|Rg<|Dd aF<|Dd (by exact aB rfl rfl call86 rfl (YC p rfl rfl (by omega)))<|Zz<|Rg<|Dd pE<|Dd aF<|Zz ?_;refine⟨i+1,g+1,true,⟨by omega,fun j hj=>?_⟩,by omega,?_⟩
  ·rcases Nat.lt_succ_iff_lt_or_eq.1 hj with h1|rfl
   ·exact hz j h1
   rw [← hp];exact hq
  rw [hnx];exact(cA.wk (Ea<|Ea<|Eb<|Eb<|trivial) (Hc (oB rfl rfl)<|Hc (aC _ _)<|Hc (aE _ _ rfl rfl rfl)<|Hc (aC _ _)<|Hc (aI _ _ _)<|Hc (aG _ _)<|Hc (bG rfl rfl)<|Hc (aR _ _ _)<|trivial) ⟨rfl,rfl,rfl,rfl,rfl,rfl,trivial⟩)
 have hge:i=n:=by have:=aAf hc1;omega
 subst hge;have hall:uN d k a i=true:=List.all_eq_true.2 fun j hj=>by
  rw [decide_eq_false (hz j (List.mem_range.1 hj))];rfl
 rw [hall,Bool.true_and,hTn] at hok;rw [hTn] at hC;obtain ⟨T,hT⟩:∃ T,T=GL d k a i:=⟨_,rfl⟩;rw [← hT] at hok hC hTi ⊢;have hspl:=fun H=>FW T H (by omega);have hsum:=IH T;have hL1:=sA T.length T [];rw [List.length_nil,aBA] at hL1;change (eF T).1.length≤T.length at hL1;obtain ⟨L,hL⟩:∃ L,L=(eF T).1:=⟨_,rfl⟩;obtain ⟨o,ho⟩:∃ o,o=(eF T).2:=⟨_,rfl⟩;rw [← hL,← ho] at hok;rw [← hL] at hC hsum hL1;simp only [← hL,← ho] at hspl;have hml:(L.map encStr).length=L.length:=aAi _;have hTo:(⟨T.toArray⟩:ByteArray)=ofL T:=rfl;refine bI<|Sr<|Dd (by exact aB rfl rfl call88 rfl (WM rfl rfl (by omega)))<|Dd (by exact aB rfl rfl call87 rfl (hspl _))<|Dd aF<|Dd dY<|Dd dY<|Dd aS<|Dd aS<|Zz<|Sq<|Sr<|Dd aF<|Dd (mZ aP)<|Dd aF<|Zz<|aO ?_;refine wO (fun(j:Nat) (l:bP) (c:Nat)=>([(0,.ref 1100 0 0 0),(7,bv (Q3 o L j)),(38,.pv (aW L)),(39,iv ((L.map encStr).length:Int)),(40,iv (j:Int))],sH d (bV k a i b) (bB l c))) (fun j l c=>j≤L.length∧dT l c∧fI l∧l.length≤((L.take j).map ByteArray.size).sum∧(Q3 o L j=true→∀ x,cW l x=X7 L j x)) (fun j l c=>L.length - j) 0 [] 0 ⟨aAz _,JJ,zI,aAz _,fun _ x=>rfl⟩ ?_ ?_
 ·rw [show Q3 o L 0=o by rw [Q3,List.take_zero];exact Bool.and_true o];exact(cA.wk (Ea<|Eb<|Eb<|Eb<|Eb<|trivial) (Hc (aE _ _ rfl rfl rfl)<|Hc (aC _ _)<|Hc (aI _ _ _)<|Hc (aG _ _)<|Hc (bG rfl rfl)<|Hc (aR _ _ _)<|trivial) ⟨rfl,rfl,rfl,rfl,rfl,rfl,trivial⟩)
 rintro j l c ⟨hj,hst,hnd,hll,hct⟩;have hsj:=FQ L j;refine Sr<|Dd dX<|Zz<|Sq ?_;refine Cn ?_ ?_<;>intro hc3
 ·have hlt:j < L.length:=by have:=aAe hc3;omega
  obtain ⟨t,ht⟩:=aZ hlt;have hit:=dW (f:=encStr) ht;have hsz:((L.take (j+1)).map ByteArray.size).sum=((L.take j).map ByteArray.size).sum+t.size:=by rw [dK ht,List.map_append,List.sum_append];rfl
  have hsj2:=FQ L (j+1);have hnx:=Q2 (o:=o) ht;have hcx:=SC ht;have hrp:=M9 d k a i b l c t.data.toList hst hnd (by rw [dL];omega);rw [JG,dL] at hrp;obtain ⟨oj,hoj⟩:∃ oj,oj=Q3 o L j:=⟨_,rfl⟩;rw [← hoj] at hnx hct ⊢;clear hoj;cases oj
  ·refine aK<|Sq<|aO<|Sr<|Dd (FF cJ)<|Dd (qC aX)<|Dd aS<|Zz<|Rg<|Dd aF<|Dd aF<|Fo<|Fo<|Fo<|Fo<|Fo<|Fo<|Dd fV<|Dd aS<|Zz<|Rg<|Dd pE<|Dd aF<|Zz ?_;refine⟨j+1,l,c,⟨by omega,hst,hnd,by omega,fun h=>(by rw [hnx] at h;cases h)⟩,by omega,?_⟩;rw [hnx];exact(cA.wk (Ea<|Eb<|Eb<|Eb<|Eb<|trivial) (Hc (aE _ _ rfl rfl rfl)<|Hc (aC _ _)<|Hc (aI _ _ _)<|Hc (aG _ _)<|Hc (bG rfl rfl)<|Hc (aR _ _ _)<|trivial) ⟨rfl,rfl,rfl,rfl,rfl,rfl,trivial⟩)
  refine aK<|Sq<|aO<|Sr<|Dd (FF cJ)<|Dd (qC aX)<|Dd aS<|Zz<|Rg<|Dd aF<|Dd aF<|On aF<|On fF<|On (dO sS)<|On (eA bS)<|On aF ?_;refine MJ rfl rfl rfl rfl rfl (aB rfl rfl call89 rfl hrp) ?_;rintro _ _ ⟨rfl,l2,c2,q1,q2,q3,q4,rfl⟩;refine Dd fV<|Dd aS<|Zz<|Rg<|Dd pE<|Dd aF<|Zz ?_;refine⟨j+1,l2,c2,⟨by omega,q1,q2,by omega,fun h x=>?_⟩,by omega,?_⟩
  ·rw [hnx,Bool.true_and] at h;rw [q4 h x,hcx,XO,rN,rN,hct rfl x]
  rw [hnx,Bool.true_and];exact(cA.wk (Ea<|Eb<|Eb<|Eb<|Eb<|trivial) (Hc (aE _ _ rfl rfl rfl)<|Hc (aC _ _)<|Hc (aI _ _ _)<|Hc (aG _ _)<|Hc (bG rfl rfl)<|Hc (aR _ _ _)<|trivial) ⟨rfl,rfl,rfl,rfl,rfl,rfl,trivial⟩)
 have hge:j=L.length:=by have:=aAf hc3;omega
 subst hge;have hoke:sO d k a i=Q3 o L L.length:=by rw [hok,Q3,List.take_length]
 have hCe:HZ d k a i=X7 L L.length:=by rw [hC,X7,List.take_length]
 rw [List.take_length] at hll;refine bI<|Sr<|Dd aF<|Dd aS<|Zz<|aM ?_;refine bD (H':=(sH d (bV k a i b) (bB l c))) (.inr rfl) rfl (aJ rfl) (Fin.wk (by(simp;done)) (Hc (aE _ _ rfl rfl rfl)<|Hc (aC _ _)<|Hc (aI _ _ _)<|Hc (aG _ _)<|Hc (bG rfl rfl)<|Hc (aR _ _ _)<|trivial) ⟨rfl,rfl,rfl,rfl,rfl,rfl,trivial⟩) ?_;exact⟨by rw [hoke],l,c,hst,hnd,by omega,fun h=>by rw [hCe];exact hct (by rw [← hoke];exact h),rfl⟩
theorem wX {k place:Nat} {t:ByteArray} (h:jS k place t=true):pV t < 2∧pU t≤k∧hS place (pV t) (pU t)=t:=by rw [jS] at h;simp only [aAr,aAp] at h;exact⟨h.2.1.1,h.2.1.2,h.2.2⟩
def jT (d:DSt) (k:Nat):Bool:=(!rT d k&&!decide (bM d 0=zS))||!sO d k (pI d k) (pH d k)
theorem NX {d d':DSt} {k a n:Nat} (h:∀ i,i < n→bM d' (2+a*k+i)=bM d (2+a*k+i)):sO d' k a n=sO d k a n∧HZ d' k a n=HZ d k a n:=by
 have hp:∀ i,i∈List.range n→JP d' k a i=JP d k a i:=fun i hi=>by rw [JP,JP,h i (List.mem_range.1 hi)]
 have hT:JO d' k a n=JO d k a n:=by
  rw [JO,JO,List.flatMap_def,List.flatMap_def];congr 1;exact List.map_congr_left fun i hi=>by rw [hp i hi]
 have hA:uN d' k a n=uN d k a n:=by
  rw [uN,uN,Bool.eq_iff_iff,List.all_eq_true,List.all_eq_true];exact forall_congr' fun i=>imp_congr_right fun hi=>by rw [hp i hi]
 exact⟨by rw [sO,sO,hA,hT],by rw [HZ,HZ,hT]⟩
theorem wA (d:DSt) (k:Nat):pI d k < 2∧pH d k≤k:=by
 rw [pI,pH];cases h1:pY d k with
 | true =>
  rw [aAh rfl,aAh rfl];rw [pY] at h1;have:=wX h1;exact⟨this.1,this.2.1⟩
 | false =>
  rw [aAg Bool.false_ne_true,aAg Bool.false_ne_true];cases h0:jS k 0 (bM d 0)with
  | true =>
   rw [aAh rfl,aAh rfl];have:=wX h0;exact⟨this.1,this.2.1⟩
  | false =>
   rw [aAg Bool.false_ne_true,aAg Bool.false_ne_true];exact⟨by omega,by omega⟩
theorem rZ (place:Nat) {a n:Nat} (hd:Bool) (ha:a < 10) (hn:n < 10000000):(iT place a n hd).size=64:=by
 cases hd
 ·show zS.size=64;rw [bU,zB,List.length_replicate]
 exact EM place ha hn
theorem WN:zS.size=64:=by rw [bU,zB,List.length_replicate]
theorem W3 {d:DSt} {N place a n:Nat} {hd:Bool} (h:OnD d N) (hp:place < N) (ha:a < 10) (hn:n < 10000000) (h0:(mL d place a n hd).1=0):OnD (mL d place a n hd).2 N:=by
 rw [mL] at h0 ⊢;by_cases e:bM d place=iT place a n hd
 ·rw [aAh e] at h0 ⊢;exact h
 rw [aAg e] at h0 ⊢;have w1:=PW h (place:=place) (L:=[zS]) (by rw [List.length_singleton];omega) (fun t ht=>by rw [aAl.1 ht];exact WN) (by rw [List.length_singleton];omega);by_cases e2:(iK d place [zS]).1=0∧hd=true
 ·rw [aAh e2] at h0 ⊢;rcases w1 with⟨q1,q2,q3⟩|⟨q1,q2,q3⟩
  ·have w2:=PW q2 (place:=place) (L:=[iT place a n hd]) (by rw [List.length_singleton];omega) (fun t ht=>by rw [aAl.1 ht];exact rZ place hd ha hn) (by rw [List.length_singleton];omega);rcases w2 with⟨p1,p2,p3⟩|⟨p1,p2,p3⟩
   ·exact p2
   rw [p1] at h0;cases h0
  rw [q1] at e2;cases e2.1
 rw [aAg e2] at h0 ⊢;rcases w1 with⟨q1,q2,q3⟩|⟨q1,q2,q3⟩
 ·exact q2
 rw [q1] at h0;cases h0
def W8 (i N:Nat):Int:=if i≤N then 0 else 1
abbrev pBx (a n:Nat):Ob:=bx 2 70 [iv (a:Int),iv (n:Int)]
theorem LG {d:DSt} {N:Nat} (h:OnD d N) (hN:4≤N) (k a n:Nat) (hd:Bool) (hk:k=(N - 2) / 2) (hA:a=pI d k) (hNn:n=pH d k) (hH:hd=rT d k) :
  aH Tryz.prog 12 [.ref 1000 0 0 0] (aU d) (fun r H'=>(jT d k=true∧r=.tup [.pv .nilp,iv 23]∧H'=aU d) ∨
   (jT d k=false∧¬ (mL d 1 a n hd).1=0∧r=.tup [.pv .nilp,iv (mL d 1 a n hd).1]∧H'=aU (mL d 1 a n hd).2) ∨
   (jT d k=false∧(mL d 1 a n hd).1=0∧¬ (mL (mL d 1 a n hd).2 0 a n hd).1=0∧r=.tup [.pv .nilp,iv (mL (mL d 1 a n hd).2 0 a n hd).1]∧H'=aU (mL (mL d 1 a n hd).2 0 a n hd).2) ∨
   (jT d k=false∧(mL d 1 a n hd).1=0∧(mL (mL d 1 a n hd).2 0 a n hd).1=0∧r=.tup [.ref 1100 0 0 0,iv 0]∧∃ l c,dT l c∧fI l∧l.length≤46*n∧(∀ x,cW l x=HZ d k a n x)∧H'=sH (mL (mL d 1 a n hd).2 0 a n hd).2 (bV k a n false) (bB l c))):=by
 have hs:=h.inv.ok;have hoff:=h.off;have hcn:=h.inv.n;have hn2:=hs.n2;have hbd:=wA d k;rw [← hA,← hNn] at hbd;have hbad:jT d k=((!hd&&!decide (bM d 0=zS))||!sO d k a n):=by rw [jT,← hA,← hNn,← hH]
 have hrE:∀ i:Nat,oR d (i:Int)=if i < N then 0 else 1:=fun i=>by
  rw [oR,hoff,aAg (by decide),gM,hcn];by_cases e:i < N
  ·rw [aAh (decide_eq_true e),aAh e]
  rw [aAg (by rw [decide_eq_false e];decide),aAg e]
 refine Bd func12 rfl ntmps12<|Sr<|Dd aS<|Dd aS<|Zz<|Sq<|Sr<|Dd aF<|Dd (by exact cG rfl fC rfl rfl rfl rfl)<|Zz ?_;refine Cn ?_ ?_<;>intro hc1
 ·cases hc1
 refine aK<|Sr<|Dd aS<|Zz<|Sr<|Dd aS<|Zz<|Sq<|aO ?_;refine bL (σ:=Nat) (fun i=>([(0,.ref 1000 0 0 0),(4,iv (i:Int)),(5,iv (W8 i N))],aU d)) (fun i=>i≤N+1) (fun i=>N+1 - i) 0 (aAz _) ?_ ?_
 ·rw [show W8 0 N=0 from aAh (aAz _)];exact(cA.wk (Ea<|Eb<|Eb<|trivial) (Hc (aE _ _ rfl rfl rfl)<|Hc (aC _ _)<|Hc (aI _ _ _)<|Hc (aG _ _)<|trivial) ⟨rfl,rfl,rfl,rfl,trivial⟩)
 intro i hi;have hrd:=QN d (i:Int) hs;rw [hrE i] at hrd;refine Sq<|Sr<|Dd aF<|Dd hU<|Zz ?_;refine Cn ?_ ?_<;>intro hc2
 ·have hq:i≤N:=by have h:=aAe hc2;rw [W8] at h;split at h;exact(by assumption);cases h
  have hnx:W8 (i+1) N=if i < N then 0 else 1:=by
   rw [W8];by_cases e:i < N
   ·rw [aAh e,aAh (by omega)]
   rw [aAg e,aAg (by omega)]
  rw [← hnx] at hrd;refine aK<|Sq<|aO<|Rg<|Dd aF<|Dd aF<|Dd (by exact aB rfl rfl vN rfl (hrd))<|Dd aF<|Dd dY<|Dd dY<|Dd aS<|Zz<|Rg<|Dd aF<|Dd (by exact cH rfl rfl rfl (show IntKind.i64.wrap ((i:Int)+1)=((i+1:Nat):Int)by rw [iU (by omega) (by omega)];omega))<|Da ?_;exact⟨i+1,by omega,by omega,(cA.wk (Ea<|Eb<|Eb<|trivial) (Hc (aE _ _ rfl rfl rfl)<|Hc (aC _ _)<|Hc (aI _ _ _)<|Hc (aG _ _)<|trivial) ⟨rfl,rfl,rfl,rfl,trivial⟩)⟩
 have hq:i=N+1:=by have h:=aAf hc2;rw [W8] at h;split at h;exact absurd rfl h;omega
 have hk1:W8 i N=1:=aAg (by omega);rw [hk1];have hp1:=uC d hs hoff k 0 0 1 false [] 0 (by omega) (by omega);have hp0:=uC d hs hoff k 0 0 0 false [] 0 (by omega) (by omega);have hrd0:=xT hs hoff (n:=0) (by omega);refine bI<|Sq<|Sr<|Dd aF<|Dd (by exact eC rfl rfl rfl (show IntKind.i64.wrap ((i:Int) - 1)=(N:Int)by rw [iU (by omega) (by omega)];omega))<|Dd aS<|Zz<|Sr<|Dd aF<|Dd hU<|Zz ?_;refine Cn ?_ ?_<;>intro hc3
 ·cases hc3
 refine aK<|Sq<|Sr<|Dd aF<|Dd dX<|Zz ?_;refine Cn ?_ ?_<;>intro hc4
 ·(have h:=aAe hc4;omega)
 have hkq:IntKind.i64.wrap (((N:Int) - 2).tdiv 2)=(k:Int):=by
  rw [Int.tdiv_eq_ediv_of_nonneg (by omega),iU (by omega) (by omega),hk];omega
 refine aK<|Sr<|Dd aF<|Dd aF<|Dd (by exact eC rfl rfl rfl (iU (by omega) (by omega)))<|Dd (by exact oH rfl rfl rfl (by decide) hkq)<|Dd (by exact kT (id:=1101) fR rfl rfl)<|Dd (PI Z9)<|Dd (by exact gR (id:=1100) rfl rfl rfl rfl rfl)<|Dd aS<|Zz<|Sq ?_;refine gA.ent (E':=[(0,.ref 1000 0 0 0),(6,.ref 1100 0 0 0)]) (H':=sH d (bV k 0 0 false) (bB [] 0)) (cA.wk (Ea<|Ea<|trivial) (Hc (aE _ _ rfl rfl rfl)<|Hc (aC _ _)<|Hc (aI _ _ _)<|Hc (aG _ _)<|Hc (bG rfl rfl)<|Hc (aR _ _ _)<|trivial) ⟨rfl,rfl,rfl,rfl,trivial⟩) ?_;obtain ⟨h1,hh1⟩:∃ b,b=jS k 1 (bM d 1):=⟨_,rfl⟩;obtain ⟨h0,hh0⟩:∃ b,b=jS k 0 (bM d 0):=⟨_,rfl⟩;rw [← hh1] at hp1;rw [← hh0] at hp0;have hHe:hd=(h1||h0):=by rw [hH,rT,pY,← hh1,← hh0]
 have hAe:a=if h1 then pV (bM d 1)else if h0 then pV (bM d 0)else 0:=by rw [hA,pI,pY,← hh1,← hh0]
 have hNe:n=if h1 then pU (bM d 1)else if h0 then pU (bM d 0)else 0:=by rw [hNn,pH,pY,← hh1,← hh0]
 have hld:=UY d hs hoff k a n false hbd.1 hbd.2 (by omega);refine Rg<|Dd aF<|Dd (by exact aB rfl rfl call42 rfl (hp1))<|Dd aF<|Dd dY<|Dd dY<|Dd (by exact cC (id:=7) rfl PN rfl rfl)<|Uu (pS sizeOf70)<|Da ?_;refine oU (fun(q:Nat×Nat)=>([(0,.ref 1000 0 0 0),(6,.ref 1100 0 0 0),(7,.ref 7 0 0 0),(8,bv hd)],(7,pBx q.1 q.2)::sH d (bV k 0 0 false) (bB [] 0))) (fun q=>hd=true→q.1=a∧q.2=n) ?_ ?_
 ·refine Sr<|Dd aF<|Dd A2<|Zz ?_;refine Cn ?_ ?_<;>intro hc5
  ·have e1:h1=false:=by have h:=hc5;simpa using h
   refine Rg<|Dd aF<|Dd (by exact aB rfl rfl call42 rfl (iL hp0 _ ⟨rfl,rfl,rfl,rfl,rfl,rfl,trivial⟩ (by simp;rfl)))<|Dd aF<|Dd dY<|Dd dY<|Uu (pS sizeOf70)<|Da ?_;refine⟨(pV (bM d 0),pU (bM d 0)),fun hh=>?_,?_⟩
   ·rw [e1] at hHe hAe hNe;rw [hHe] at hh;have e0:h0=true:=hh;rw [e0] at hAe hNe;exact⟨hAe.symm,hNe.symm⟩
   rw [show hd=h0 by rw [hHe,e1];rfl];exact(cA.wk (Ea<|Ea<|Ea<|Eb<|trivial) (Hb<|Hc (aE _ _ rfl rfl rfl)<|Hc (aC _ _)<|Hc (aI _ _ _)<|Hc (aG _ _)<|Hc (bG rfl rfl)<|Hc (aR _ _ _)<|trivial) ⟨rfl,rfl,rfl,rfl,trivial⟩)
  have e1:h1=true:=by have h:=hc5;simpa using h
  refine aK ?_;refine⟨(pV (bM d 1),pU (bM d 1)),fun hh=>?_,?_⟩
  ·rw [e1] at hAe hNe;exact⟨hAe.symm,hNe.symm⟩
  rw [show hd=h1 by rw [hHe,e1];rfl];exact(cA.wk (Ea<|Ea<|Ea<|Eb<|trivial) (Hb<|Hc (aE _ _ rfl rfl rfl)<|Hc (aC _ _)<|Hc (aI _ _ _)<|Hc (aG _ _)<|Hc (bG rfl rfl)<|Hc (aR _ _ _)<|trivial) ⟨rfl,rfl,rfl,rfl,trivial⟩)
 rintro⟨a',n'⟩ hq0;have hq0:hd=true→a'=a∧n'=n:=hq0;refine Sr<|Dd aF<|Dd (by exact aB rfl rfl vN rfl (hrd0 _ ⟨rfl,rfl,rfl,rfl,trivial⟩))<|Dd aF<|Dd dY<|Dd dY<|Dd aS<|Da ?_;refine oU (fun(_:Unit)=>([(0,.ref 1000 0 0 0),(6,.ref 1100 0 0 0),(7,.ref 7 0 0 0),(8,bv hd),(9,sv (bM d 0))],(7,pBx a n)::sH d (bV k 0 0 false) (bB [] 0))) (fun _=>True) ?_ ?_
 ·refine Sr<|Dd aF<|Dd A2<|Zz ?_;refine Cn ?_ ?_<;>intro hc6
  ·have e1:hd=false:=by have h:=hc6;simpa using h
   rw [hHe,aBE] at e1;have ha0:a=0:=by rw [hAe,e1.1,e1.2];rfl
   have hn0:n=0:=by rw [hNe,e1.1,e1.2];rfl
   rw [ha0,hn0];refine Rg<|Dd (PI OU)<|Uu (pS sizeOf70)<|Zz ?_;exact⟨(),trivial,(cA.wk (Ea<|Ea<|Ea<|Eb<|Eb<|trivial) (Hb<|Hc (aE _ _ rfl rfl rfl)<|Hc (aC _ _)<|Hc (aI _ _ _)<|Hc (aG _ _)<|Hc (bG rfl rfl)<|Hc (aR _ _ _)<|trivial) ⟨rfl,rfl,rfl,rfl,trivial⟩)⟩
  have e1:hd=true:=by have h:=hc6;simpa using h
  obtain ⟨rfl,rfl⟩:=hq0 e1;refine aK ?_;exact⟨(),trivial,(cA.wk (Ea<|Ea<|Ea<|Eb<|Eb<|trivial) (Hb<|Hc (aE _ _ rfl rfl rfl)<|Hc (aC _ _)<|Hc (aI _ _ _)<|Hc (aG _ _)<|Hc (bG rfl rfl)<|Hc (aR _ _ _)<|trivial) ⟨rfl,rfl,rfl,rfl,trivial⟩)⟩
 rintro _ -;clear hHe hAe hNe hq0 hp1 hp0 hh1 hh0 hA hNn hH;refine oU (fun(q:bP×Nat)=>([(6,.ref 1100 0 0 0),(8,bv hd)],sH d (bV k a n false) (bB q.1 q.2))) (fun q=>jT d k=false∧dT q.1 q.2∧fI q.1∧q.1.length≤46*n∧∀ x,cW q.1 x=HZ d k a n x) ?_ ?_
 ·refine Sr<|Dd aF<|Dd (UZ cX sizeOf70)<|Dd fF<|Dd (dO mF)<|Uu (by exact KQ rfl sizeOf70 rfl rfl rfl rfl rfl rfl rfl (by simp only [aAk,List.length_nil];omega) (by simp only [Zl,encStr];rfl) (by simp only [Zl,encStr];rfl))<|Zz<|Sq ?_;refine gA.ent (E':=[(0,.ref 1000 0 0 0),(6,.ref 1100 0 0 0),(8,bv hd),(9,sv (bM d 0))]) (H':=sH d (bV k a n false) (bB [] 0)) (cA.wk (Ea<|Ea<|Eb<|Eb<|trivial) (Hc (aE _ _ rfl rfl rfl)<|Hc (aC _ _)<|Hc (aI _ _ _)<|Hc (aG _ _)<|Hc (bG rfl rfl)<|Hc (aR _ _ _)<|trivial) ⟨rfl,rfl,rfl,rfl,trivial⟩) ?_;obtain ⟨ok,hok⟩:∃ ok,ok=sO d k a n:=⟨_,rfl⟩;rw [← hok] at hld hbad;clear hok;cases hd with
  | true =>
   refine Rg<|Dd aF<|Dd A2<|Dd aF<|Fo<|Fo<|Fo<|Dd fV<|Dd aF<|On aF ?_;refine MJ rfl rfl rfl (by rfl) rfl (aB rfl rfl call44 rfl hld) ?_;rintro _ _ ⟨rfl,l,c,q1,q2,q3,q4,rfl⟩;refine On A2<|Dd fV<|Zz ?_;refine Cn ?_ ?_<;>intro hc7
   ·have hok:ok=false:=by have h:=hc7;simpa using h
    refine Sr<|Dd aS<|Dd aS<|Zz<|aM ?_;refine fZ (H':=(aU d)) (.inr rfl) rfl (aJ rfl) (aJ rfl) (Fin.wk (by(simp;done)) (Hc (aE _ _ rfl rfl rfl)<|Hc (aC _ _)<|Hc (aI _ _ _)<|Hc (aG _ _)<|trivial) ⟨rfl,rfl,rfl,rfl,trivial⟩) ?_;exact .inl ⟨by rw [hbad,hok];rfl,rfl,rfl⟩
   have hok:ok=true:=by have h:=hc7;simpa using h
   refine aK ?_;exact⟨(l,c),⟨by rw [hbad,hok];rfl,q1,q2,q3,q4 hok⟩,(cA.wk (Ea<|Eb<|trivial) (Hc (aE _ _ rfl rfl rfl)<|Hc (aC _ _)<|Hc (aI _ _ _)<|Hc (aG _ _)<|Hc (bG rfl rfl)<|Hc (aR _ _ _)<|trivial) ⟨rfl,rfl,rfl,rfl,trivial⟩)⟩
  | false =>
   cases g69:(!decide (bM d 0=ofL (zB 64)))with
   | true =>
    have hbt:jT d k=true:=by
     rw [hbad,show decide (bM d 0=zS)=false by rw [Bool.not_eq_true'] at g69;exact g69];rfl
    refine Rg<|Dd aF<|Dd A2<|Dd aF<|On aF<|On (by exact aB rfl rfl pN rfl (oS _))<|On QA<|Dd fV<|Dd aF<|Fa<|Fa<|Fa<|Dd WC<|Zz ?_;refine Cn ?_ ?_<;>intro hc8
    ·refine Sr<|Dd aS<|Dd aS<|Zz<|aM ?_;refine fZ (H':=(aU d)) (.inr rfl) rfl (aJ rfl) (aJ rfl) (Fin.wk (by(simp;done)) (Hc (aE _ _ rfl rfl rfl)<|Hc (aC _ _)<|Hc (aI _ _ _)<|Hc (aG _ _)<|trivial) ⟨rfl,rfl,rfl,rfl,trivial⟩) ?_;exact .inl ⟨hbt,rfl,rfl⟩
    ((cases hc8;done))
   | false =>
    have hz:decide (bM d 0=zS)=true:=by rw [Bool.not_eq_false'] at g69;exact g69
    rw [hz] at hbad;refine Rg<|Dd aF<|Dd A2<|Dd aF<|On aF<|On (by exact aB rfl rfl pN rfl (oS _))<|On QA<|Dd fV<|Dd aF<|Oa aF ?_;refine MJ rfl rfl rfl (by assumption) rfl (aB rfl rfl call44 rfl hld) ?_;rintro _ _ ⟨rfl,l,c,q1,q2,q3,q4,rfl⟩;refine Oa A2<|Dd NI<|Zz ?_;refine Cn ?_ ?_<;>intro hc9
    ·have hok:ok=false:=by have h:=hc9;simpa using h
     refine Sr<|Dd aS<|Dd aS<|Zz<|aM ?_;refine fZ (H':=(aU d)) (.inr rfl) rfl (aJ rfl) (aJ rfl) (Fin.wk (by(simp;done)) (Hc (aE _ _ rfl rfl rfl)<|Hc (aC _ _)<|Hc (aI _ _ _)<|Hc (aG _ _)<|trivial) ⟨rfl,rfl,rfl,rfl,trivial⟩) ?_;exact .inl ⟨by rw [hbad,hok];rfl,rfl,rfl⟩
    have hok:ok=true:=by have h:=hc9;simpa using h
    refine aK ?_;exact⟨(l,c),⟨by rw [hbad,hok];rfl,q1,q2,q3,q4 hok⟩,(cA.wk (Ea<|Eb<|trivial) (Hc (aE _ _ rfl rfl rfl)<|Hc (aC _ _)<|Hc (aI _ _ _)<|Hc (aG _ _)<|Hc (bG rfl rfl)<|Hc (aR _ _ _)<|trivial) ⟨rfl,rfl,rfl,rfl,trivial⟩)⟩
 rintro⟨l,c⟩ ⟨hbf,q1,q2,q3,q4⟩;have hl0:([[PV.int .i64 1],[PV.int .i64 0]]:List (List PV))[0]?=some [PV.int .i64 1]:=rfl;have hl1:([[PV.int .i64 1],[PV.int .i64 0]]:List (List PV))[1]?=some [PV.int .i64 0]:=rfl;have hr1:=B9 h.inv hoff k a n 1 false hd l c (by decide) (by omega) (by omega) (by omega);have hon:=W3 (place:=1) (a:=a) (n:=n) (hd:=hd) h (by omega) (by omega) (by omega);obtain ⟨x,hx⟩:∃ x,x=mL d 1 a n hd:=⟨_,rfl⟩;rw [← hx] at hr1 hon ⊢;obtain ⟨y,hy⟩:∃ y,y=mL x.2 0 a n hd:=⟨_,rfl⟩;rw [← hy];refine Sq<|Sr<|Dd (by exact bJ [[.int .i64 1],[.int .i64 0]] rfl MY rfl rfl rfl rfl rfl (by simp))<|Dd (mZ O9)<|Dd aF<|Zz<|aO ?_;refine bL (σ:=Nat) (fun i=>([(6,.ref 1100 0 0 0),(8,bv hd),(76,.pv (.sl [[.int .i64 1],[.int .i64 0]])),(77,iv 2),(78,iv (i:Int))],sH (stD d x.2 y.2 i) (bV k a n false) (bB l c))) (fun i=>i≤2∧(0 < i→x.1=0)∧(1 < i→y.1=0)) (fun i=>2 - i) 0 ⟨by omega,fun h=>absurd h (Nat.lt_irrefl _),fun h=>absurd h (by omega)⟩ ?_ ?_
 ·exact(cA.wk (Ea<|Eb<|Eb<|Eb<|Eb<|trivial) (Hc (aE _ _ rfl rfl rfl)<|Hc (aC _ _)<|Hc (aI _ _ _)<|Hc (aG _ _)<|Hc (bG rfl rfl)<|Hc (aR _ _ _)<|trivial) ⟨rfl,rfl,rfl,rfl,trivial⟩)
 rintro i ⟨hi2,hx0,hy0⟩;have h3:i=0∨i=1∨i=2:=by omega
 rcases h3 with rfl|rfl|rfl
 ·refine Sr<|Dd dX<|Zz<|Sq ?_;refine Cn ?_ ?_<;>intro hc10
  ·refine aK<|Sq<|aO<|Sr<|Dd (by exact bX (m:=0) rfl MY rfl rfl (by decide) rfl rfl rfl)<|Dd (qC aQ)<|Dd aS<|Zz<|Sr<|Dd aF<|Dd aF<|Dd aF<|Dd (by exact aB rfl rfl call45 rfl (hr1))<|Dd aS<|Zz<|Sr<|Dd aF<|Dd wB<|Zz ?_;refine Cn ?_ ?_<;>intro hc11
   ·have he:¬ x.1=0:=by have h:=hc11;simpa using h
    refine Sr<|Dd aF<|Dd aS<|Dd aS<|Zz<|aM ?_;refine fZ (H':=(aU x.2)) (.inr rfl) rfl (aJ rfl) (aJ rfl) (Fin.wk (by(simp;done)) (Hc (aE _ _ rfl rfl rfl)<|Hc (aC _ _)<|Hc (aI _ _ _)<|Hc (aG _ _)<|trivial) ⟨rfl,rfl,rfl,rfl,trivial⟩) ?_;exact .inr (.inl ⟨hbf,he,rfl,rfl⟩)
   have he:x.1=0:=by have h:=hc11;simpa using h
   have hb:(false||!decide (x.1=0))=false:=by rw [he];rfl
   rw [hb];refine aK<|Rg<|Dd pE<|Dd aF<|Zz ?_;refine⟨1,⟨by omega,fun _=>he,fun h=>absurd h (by omega)⟩,by omega,?_⟩;exact(cA.wk (Ea<|Eb<|Eb<|Eb<|Eb<|trivial) (Hc (aE _ _ rfl rfl rfl)<|Hc (aC _ _)<|Hc (aI _ _ _)<|Hc (aG _ _)<|Hc (bG rfl rfl)<|Hc (aR _ _ _)<|trivial) ⟨rfl,rfl,rfl,rfl,trivial⟩)
  cases hc10
 ·have he0:=hx0 (by omega);have hon:=hon he0;have hr0:=B9 hon.inv hon.off k a n 0 false hd l c (by decide) (by have:=hon.inv.n;omega) (by omega) (by omega);rw [← hy] at hr0;refine Sr<|Dd dX<|Zz<|Sq ?_;refine Cn ?_ ?_<;>intro hc12
  ·refine aK<|Sq<|aO<|Sr<|Dd (by exact bX (m:=1) rfl MY rfl rfl (by decide) rfl rfl rfl)<|Dd (qC aQ)<|Dd aS<|Zz<|Sr<|Dd aF<|Dd aF<|Dd aF<|Dd (by exact aB rfl rfl call45 rfl (hr0))<|Dd aS<|Zz<|Sr<|Dd aF<|Dd wB<|Zz ?_;refine Cn ?_ ?_<;>intro hc13
   ·have he:¬ y.1=0:=by have h:=hc13;simpa using h
    refine Sr<|Dd aF<|Dd aS<|Dd aS<|Zz<|aM ?_;refine fZ (H':=(aU y.2)) (.inr rfl) rfl (aJ rfl) (aJ rfl) (Fin.wk (by(simp;done)) (Hc (aE _ _ rfl rfl rfl)<|Hc (aC _ _)<|Hc (aI _ _ _)<|Hc (aG _ _)<|trivial) ⟨rfl,rfl,rfl,rfl,trivial⟩) ?_;exact .inr (.inr (.inl ⟨hbf,he0,he,rfl,rfl⟩))
   have he:y.1=0:=by have h:=hc13;simpa using h
   have hb:(false||!decide (y.1=0))=false:=by rw [he];rfl
   rw [hb];refine aK<|Rg<|Dd pE<|Dd aF<|Zz ?_;refine⟨2,⟨by omega,fun _=>he0,fun _=>he⟩,by omega,?_⟩;exact(cA.wk (Ea<|Eb<|Eb<|Eb<|Eb<|trivial) (Hc (aE _ _ rfl rfl rfl)<|Hc (aC _ _)<|Hc (aI _ _ _)<|Hc (aG _ _)<|Hc (bG rfl rfl)<|Hc (aR _ _ _)<|trivial) ⟨rfl,rfl,rfl,rfl,trivial⟩)
  cases hc12
 have he0:=hx0 (by omega);have he1:=hy0 (by omega);refine Sr<|Dd dX<|Zz<|Sq ?_;refine Cn ?_ ?_<;>intro hc14
 ·cases hc14
 refine bI<|Sr<|Dd aF<|Dd aS<|Dd aS<|Zz<|aM ?_;refine fZ (H':=(sH y.2 (bV k a n false) (bB l c))) (.inr rfl) rfl (aJ rfl) (aJ rfl) (Fin.wk (by(simp;rfl)) (Hc (aE _ _ rfl rfl rfl)<|Hc (aC _ _)<|Hc (aI _ _ _)<|Hc (aG _ _)<|Hc (bG rfl rfl)<|Hc (aR _ _ _)<|trivial) ⟨rfl,rfl,rfl,rfl,trivial⟩) ?_;exact .inr (.inr (.inr ⟨hbf,he0,he1,rfl,l,c,q1,q2,q3,q4,rfl⟩))
end Go.Proofs.YtmkgeogoojcciaaGreatDoor
section
namespace Go.Abs
theorem bW.eqv {P:Program} {N:Nat} {o:Oper} {E:bH} {H H':aA} {v v':AV} (h:bW P N o E H v H') (e:v=v'):bW P N o E H v' H':=e▸h
end Go.Abs
namespace Go.Proofs.YtmkgeogoojcciaaGreatDoor
open Go.Proofs.Tryz
open Go.Abs Go.Lib
theorem NY (H:aA):aH Tryz.prog 19 [.pv .nilp] H (fun r H'=>r=.pv (aW [])∧H'=H):=by
 refine Pu ?_;refine Bd func19 rfl ntmps19<|Sr<|Dd aS<|Zz<|Sq<|Sr<|Dd aF<|Dd (by exact iW rfl cP rfl rfl)<|Zz ?_;refine Cn ?_ ?_<;>intro hc1
 ·exact Sr<|Dd aS<|Zz<|aM<|Rt<|Qq
 cases hc1
theorem JV (d:DSt) (k a n:Nat) (b:Bool) (l:bP) (c:Nat) (key:ByteArray) :
  aH Tryz.prog 24 [.ref 1100 0 0 0,sv key] (sH d (bV k a n b) (bB l c)) (fun r H'=>r=.tup [sv (dJ l key),bv (cW l key).isSome]∧H'=sH d (bV k a n b) (bB l c)):=by
 have hr:(.tup [((mE (GZ (bR l)) key).getD (sv sNil)),.pv (.bool (mE (GZ (bR l)) key).isSome)]:AV)=.tup [sv (dJ l key),bv (cW l key).isSome]:=by
  rw [EB,wC]
 refine Bd func24 rfl ntmps24<|Sr<|Dd aS<|Dd aS<|Zz<|Sq<|Sr<|Dd aF<|Dd (by exact cG rfl cP rfl rfl rfl rfl)<|Zz ?_;refine Cn ?_ ?_<;>intro hc1
 ·cases hc1
 refine aK<|Sr<|Dd aF<|Dd fF<|Dd (dO sS)<|Dd (eA bS)<|Dd aF<|Dd (by exact bW.eqv (G5 (κ:=fR) (k:=key) (l:=bR l) rfl aV aL rfl rfl rfl rfl rfl fE (.inl rfl)) hr)<|Dd aF<|Dd dY<|Dd dY<|Dd aS<|Dd aS<|Zz<|Sr<|Dd aF<|Dd aF<|Dd aS<|Dd aS<|Zz<|aM ?_;refine fZ (H':=(sH d (bV k a n b) (bB l c))) (.inr rfl) rfl (aJ rfl) (aJ rfl) (Fin.wk (by(simp;done)) (Hc (aE _ _ rfl rfl rfl)<|Hc (aC _ _)<|Hc (aI _ _ _)<|Hc (aG _ _)<|Hc (bG rfl rfl)<|Hc (aR _ _ _)<|trivial) ⟨rfl,rfl,rfl,rfl,rfl,rfl,trivial⟩) ?_;exact Qq
theorem LV (d:DSt) (k a n:Nat) (b:Bool) (l:bP) (c:Nat) (hst:dT l c) (hl:l.length < 1099511627776) :
  aH Tryz.prog 19 [.ref 1100 0 0 0] (sH d (bV k a n b) (bB l c)) (fun r H'=>r=.pv (aW (cT l))∧H'=sH d (bV k a n b) (bB l c)):=by
 have hcl:bF ((951,TQ 1101)::sH d (bV k a n b) (bB l c)):=bF.app (D:=[(951,TQ 1101)]) (lQ.spec ⟨by
  intro r hr x hx;simp only [bx,aAl] at hr;subst hr;rw [aAl] at hx;subst hx;exact .mp rfl,trivial⟩) (qW _ _ _ _ _ _ _)
 have hso:=DL (L:=l.map Prod.fst) (by rw [aAi];exact hl) aAG ((951,TQ 1101)::sH d (bV k a n b) (bB l c)) (LU 1101 l c _ hl hst rfl rfl (by decide)) rfl rfl rfl rfl hcl (by simp;rfl);change aH _ _ _ _ fun r H'=>r=.pv (aW (cT l))∧H'=_ at hso;refine Bd func19 rfl ntmps19<|Sr<|Dd aS<|Zz<|Sq<|Sr<|Dd aF<|Dd (by exact cG rfl cP rfl rfl rfl rfl)<|Zz ?_;refine Cn ?_ ?_<;>intro hc1
 ·cases hc1
 refine aK<|Sr<|Dd aF<|Dd fF<|Dd (dO sS)<|Dd (eA bS)<|Dd (by exact aB rfl rfl aAS rfl (LS 1101 _ rfl rfl))<|Dd (by exact aB rfl rfl FD rfl (hso))<|Dd aS<|Zz<|aM ?_;refine bD (H':=(sH d (bV k a n b) (bB l c))) (.inr rfl) rfl (aJ rfl) (Fin.wk (by(simp;done)) (Hc (aE _ _ rfl rfl rfl)<|Hc (aC _ _)<|Hc (aI _ _ _)<|Hc (aG _ _)<|Hc (bG rfl rfl)<|Hc (aR _ _ _)<|trivial) ⟨rfl,rfl,rfl,rfl,rfl,rfl,trivial⟩) ?_;exact Qq
end Go.Proofs.YtmkgeogoojcciaaGreatDoor
end
namespace Go.Proofs.YtmkgeogoojcciaaGreatDoor
open Go.Proofs.Tryz
open Go.Abs Go.Lib
theorem rA {d:DSt} {N k a n:Nat} {C:CT} (hc:Calm d N) (hI:SInv d.cells k a n C) (hN:4≤N) (hk:k=(N - 2) / 2) :
  aH Tryz.prog 12 [.ref 1000 0 0 0] (aU d) (fun r H'=>r=.tup [.ref 1100 0 0 0,iv 0]∧∃ l c,dT l c∧fI l∧l.length≤46*n∧(∀ x,cW l x=C x)∧H'=sH d (bV k a n false) (bB l c)):=by
 have hn2:=hc.inv.ok.n2;have hcn:=hc.inv.n;obtain ⟨o1,o2,o3,o4,o5,o6,o7⟩:=OO hc hI (by omega);have ho:=LG hc.on hN k a n (rT d k) hk o1.symm o2.symm rfl;have hb:jT d k=false:=by
  rw [jT,o1,o2,o4];rcases o3 with o3|o3
  ·rw [o3];rfl
  rw [o3.1,o3.2,decide_eq_true rfl];rfl
 have r1:mL d 1 a n (rT d k)=(0,d):=by rw [mL,aAh o6]
 have r0:mL d 0 a n (rT d k)=(0,d):=by rw [mL,aAh o7]
 rw [hb,r1,r0] at ho;refine ho.mono ?_;rintro r H' (⟨h,_⟩|⟨_,h,_⟩|⟨_,_,h,_⟩|⟨_,_,_,rfl,l,c,q1,q2,q3,q4,rfl⟩)
 ·cases h
 ·exact absurd rfl h
 ·exact absurd rfl h
 exact⟨rfl,l,c,q1,q2,q3,fun x=>by rw [q4,o5],rfl⟩
theorem pZ {s:ByteArray} (h:eT s=true):s.size≤200:=by rw [eT,aAr,aAp] at h;have:=h.2;omega
theorem pQ {l2:bP} {P:List ByteArray} (hw:bK l2 P=0) (hl:l2.length≤1000) (hP:P.length≤1000):(bE l2 (fP P)).length < 100000000:=by
 obtain ⟨k1,k2⟩:=oD hw;have hD:=vD P;have h:=mN (l:=l2) (P:=fP P) (M:=20000) (by decide) (by decide) (fun p hp=>by
  have:=k1 p hp;have:=pZ this.1;omega) (fun s hs=>by
  have:=pZ (k2 s (rG.1 hs));omega) (by omega)
 have h8:(2*l2.length+2+(fP P).length)*(20000+22)≤3002*20022:=Nat.mul_le_mul (by omega) (by omega);omega
theorem IL {cells:List ByteArray} {k a n:Nat} {C:CT} (hI:SInv cells k a n C) (hk:k < 4000) {l:bP} (hn:fI l) (hl:∀ x,cW l x=C x):(bE l []).length < 100000000000:=by
 have hw:=hI.wrong hn hl;have hlen:=hI.len hn hl;have hnk:=hI.nk;obtain ⟨k1,k2⟩:=oD hw;have h:=mN (l:=l) (P:=[]) (M:=20000) (by decide) (by decide) (fun p hp=>by
  have:=k1 p hp;have:=pZ this.1;omega) (fun s hs=>by cases hs) (by rw [List.length_nil];omega)
 have h8:(2*l.length+2+([]:List ByteArray).length)*(20000+22)≤400000*20022:=Nat.mul_le_mul (by rw [List.length_nil];omega) (by omega);omega
def BX (k n:Nat) (l2:bP) (P:List ByteArray):Int:=if yE k n false l2 P = -1 then 0 else yE k n false l2 P
theorem HD {C:CT} {l2:bP} {D:List ByteArray} (h:l2.length+D.length=0):rN C l2 D=C:=by have h1:l2=[]:=List.length_eq_zero_iff.1 (by omega);have h2:D=[]:=List.length_eq_zero_iff.1 (by omega);subst h1 h2;funext x;rw [rN,aAg aAy];show ((none:Option ByteArray).orElse fun _=>C x)=C x;rfl
theorem kH (k n:Nat) (l2:bP) (P:List ByteArray) :
  (yE k n false l2 P=0∧bK l2 P=0∧l2.length+(fP P).length=0)∨(yE k n false l2 P = -1∧bK l2 P=0∧0 < l2.length+(fP P).length∧n+cZ (bE l2 (fP P))≤k) ∨
  (yE k n false l2 P=21∧bK l2 P=0∧0 < l2.length+(fP P).length∧k < n+cZ (bE l2 (fP P)))∨(yE k n false l2 P=bK l2 P∧¬ bK l2 P=0):=by
 have e:yE k n false l2 P=if ¬ bK l2 P=0 then bK l2 P else if l2.length+(fP P).length=0 then 0 else if k < n+cZ (bE l2 (fP P))then 21 else -1:=aAg Bool.false_ne_true
 rw [e];by_cases h1:bK l2 P=0
 ·rw [aAg (fun h=>h h1)];by_cases h2:l2.length+(fP P).length=0
  ·rw [aAh h2];exact .inl ⟨rfl,h1,h2⟩
  rw [aAg h2];by_cases h3:k < n+cZ (bE l2 (fP P))
  ·rw [aAh h3];exact .inr (.inr (.inl ⟨rfl,h1,by omega,h3⟩))
  rw [aAg h3];exact .inr (.inl ⟨rfl,h1,by omega,by omega⟩)
 rw [aAh h1];exact .inr (.inr (.inr ⟨rfl,h1⟩))
structure St (N k:Nat) (tl:List ByteArray) (d:DSt) (a n:Nat) (l:bP) (c:Nat) (C:CT):Prop where
 calm:Calm d N
 inv:SInv d.cells k a n C
 st:dT l c
 nd:fI l
 kv:∀ x,cW l x=C x
 tl:d.cells.drop (2*k+2)=tl
theorem XV {cells S:List ByteArray} {p k:Nat} {x y:ByteArray} (h:p+S.length≤2*k+2):(((lJ cells p S).set 1 x).set 0 y).drop (2*k+2)=cells.drop (2*k+2):=by refine List.ext_getElem? fun j=>?_;rw [List.getElem?_drop,List.getElem?_drop,List.getElem?_set_ne (by omega),List.getElem?_set_ne (by omega),jF,aAg (by omega)]
theorem P7 {N k:Nat} {tl:List ByteArray} {d:DSt} {a n:Nat} {l l':bP} {c c':Nat} {C:CT} (h:St N k tl d a n l c C) (hk:k < 4000) {l2:bP} {P:List ByteArray} (hn2:fI l2) (hw:bK l2 P=0) (h0:0 < l2.length+(fP P).length) (hfit:n+cZ (bE l2 (fP P))≤k) (q1:dT l' c') (q2:fI l') (q4:∀ x,cW l' x=rN (cW l) l2 (fP P) x) :
  (jR d k a n (bE l2 (fP P))).1=0∧St N k tl (jR d k a n (bE l2 (fP P))).2 a (n+cZ (bE l2 (fP P))) l' c' (rN C l2 (fP P)):=by
 have hkn:=h.inv.kn;have hcn:=h.calm.inv.n;have hak:a*k≤k:=by
  have:=h.inv.a2;rcases(show a=0∨a=1 by omega)with e|e<;>subst e<;>omega
 obtain ⟨a1,a2,a3⟩:=oA h.calm (k:=k) (a:=a) (cn:=n) (t:=bE l2 (fP P)) (by omega) (by have:=h.calm.inv.ok.n2;omega) h.inv.a2 hfit;have hw2:bK l2 (fP P)=0:=by
  obtain ⟨k1,k2⟩:=oD hw;exact zP (fun p hp=>⟨(k1 p hp).1,fun hm=>(k1 p hp).2.1 (rG.1 hm),(k1 p hp).2.2⟩) (fun s hs=>k2 s (rG.1 hs))
 refine⟨a1,a2,?_,q1,q2,fun x=>?_,?_⟩
 ·rw [a3];exact QE h.inv hn2 (AP P) h0 hw2 hfit (by omega)
 ·rw [q4,rN,rN,h.kv]
 rw [a3,XV (by rw [dG];omega)];exact h.tl
theorem mU {N k:Nat} {tl:List ByteArray} {d:DSt} {a n:Nat} {l:bP} {c:Nat} {C:CT} (h:St N k tl d a n l c C) (hk:k < 4000) (l2:bP) (c2:Nat) (P:List ByteArray) (hst2:dT l2 c2) (hnd2:fI l2) (hl2:l2.length≤1000) (hP:P.length≤1000) :
  aH Tryz.prog 14 [.ref 1100 0 0 0,.mp 950 0,.pv (aW P)] ((950,bB l2 c2)::sH d (bV k a n false) (bB l c)) (fun r H'=>r=iv (BX k n l2 P)∧∃ d' n' l' c',St N k tl d' a n' l' c' (if BX k n l2 P=0 then rN C l2 (fP P)else C)∧n'=(if yE k n false l2 P = -1 then n+cZ (bE l2 (fP P))else n)∧H'=(950,bB l2 c2)::sH d' (bV k a n' false) (bB l' c')):=by
 have hcm:=C9 h.calm.inv k a n false l c l2 c2 P hk h.inv.a2 h.inv.nk (by omega) h.st h.nd hst2 hnd2 (by omega) (by omega) (fun hw=>pQ hw hl2 hP);refine hcm.mono ?_;have hcs:=kH k n l2 P;rintro r H' (⟨h1,rfl,rfl⟩|⟨h1,h2,rfl,rfl⟩|⟨h1,h2,rfl,l',c',q1,q2,q3,q4,rfl⟩)
 ·have hE:BX k n l2 P=yE k n false l2 P:=aAg h1;rw [hE,aAg h1];refine⟨rfl,d,n,l,c,?_,rfl,rfl⟩;rcases hcs with⟨e1,e2,e3⟩|⟨e1,_⟩|⟨e1,_⟩|⟨e1,e2⟩
  ·rw [aAh e1,HD e3];exact h
  ·exact absurd e1 h1
  ·rw [aAg (by rw [e1];decide)];exact h
  rw [aAg (by rw [e1];exact e2)];exact h
 ·exfalso;rcases hcs with⟨e1,_⟩|⟨e1,e2,e3,e4⟩|⟨e1,_⟩|⟨e1,e2⟩
  ·rw [h1] at e1;cases e1
  ·exact h2 (oA h.calm (k:=k) (a:=a) (cn:=n) (t:=bE l2 (fP P)) (by have:=h.inv.kn;have:=h.calm.inv.n;omega) (by have:=h.calm.inv.ok.n2;have:=h.calm.inv.n;omega) h.inv.a2 e4).1
  ·rw [h1] at e1;cases e1
  rw [h1] at e1;have:=eB l2 P;omega
 have hE:BX k n l2 P=0:=aAh h1;rw [hE,aAh rfl,aAh h1];rcases hcs with⟨e1,_⟩|⟨e1,e2,e3,e4⟩|⟨e1,_⟩|⟨e1,e2⟩
 ·rw [h1] at e1;cases e1
 ·exact⟨rfl,_,_,l',c',(P7 h hk hnd2 e2 e3 e4 q1 q2 q4).2,rfl,rfl⟩
 ·rw [h1] at e1;cases e1
 rw [h1] at e1;have:=eB l2 P;omega
theorem E4 {N k:Nat} {tl:List ByteArray} {d:DSt} {a n:Nat} {l:bP} {c:Nat} {C:CT} (h:St N k tl d a n l c C) (hk:k < 4000) (P:List ByteArray) (hP:P.length≤1000) :
  aH Tryz.prog 14 [.ref 1100 0 0 0,.pv .nilm,.pv (aW P)] (sH d (bV k a n false) (bB l c)) (fun r H'=>r=iv (BX k n [] P)∧∃ d' n' l' c',St N k tl d' a n' l' c' (if BX k n [] P=0 then rN C [] (fP P)else C)∧n'=(if yE k n false [] P = -1 then n+cZ (bE [] (fP P))else n)∧H'=sH d' (bV k a n' false) (bB l' c')):=by
 have hcm:=OJ h.calm.inv k a n false l c P hk h.inv.a2 h.inv.nk (by omega) h.st h.nd (by omega) (fun hw=>pQ hw (by decide) hP);refine hcm.mono ?_;have hcs:=kH k n [] P;rintro r H' (⟨h1,rfl,rfl⟩|⟨h1,h2,rfl,rfl⟩|⟨h1,h2,rfl,l',c',q1,q2,q3,q4,rfl⟩)
 ·have hE:BX k n [] P=yE k n false [] P:=aAg h1;rw [hE,aAg h1];refine⟨rfl,d,n,l,c,?_,rfl,rfl⟩;rcases hcs with⟨e1,e2,e3⟩|⟨e1,_⟩|⟨e1,_⟩|⟨e1,e2⟩
  ·rw [aAh e1,HD e3];exact h
  ·exact absurd e1 h1
  ·rw [aAg (by rw [e1];decide)];exact h
  rw [aAg (by rw [e1];exact e2)];exact h
 ·exfalso;rcases hcs with⟨e1,_⟩|⟨e1,e2,e3,e4⟩|⟨e1,_⟩|⟨e1,e2⟩
  ·rw [h1] at e1;cases e1
  ·exact h2 (oA h.calm (k:=k) (a:=a) (cn:=n) (t:=bE [] (fP P)) (by have:=h.inv.kn;have:=h.calm.inv.n;omega) (by have:=h.calm.inv.ok.n2;have:=h.calm.inv.n;omega) h.inv.a2 e4).1
  ·rw [h1] at e1;cases e1
  rw [h1] at e1;have:=eB [] P;omega
 have hE:BX k n [] P=0:=aAh h1;rw [hE,aAh rfl,aAh h1];rcases hcs with⟨e1,_⟩|⟨e1,e2,e3,e4⟩|⟨e1,_⟩|⟨e1,e2⟩
 ·rw [h1] at e1;cases e1
 ·exact⟨rfl,_,_,l',c',(P7 h hk zI e2 e3 e4 q1 q2 q4).2,rfl,rfl⟩
 ·rw [h1] at e1;cases e1
 rw [h1] at e1;have:=eB [] P;omega
def WA (k:Nat) (l:bP):Int:=if k < cZ (cE l)then 21 else 0
theorem yS {N k:Nat} {tl:List ByteArray} {d:DSt} {a n:Nat} {l:bP} {c:Nat} {C:CT} (h:St N k tl d a n l c C) (hk:k < 4000) :
  aH Tryz.prog 21 [.ref 1100 0 0 0] (sH d (bV k a n false) (bB l c)) (fun r H'=>r=iv (WA k l)∧∃ d' a' n',St N k tl d' a' n' l c C∧(WA k l=0→d'.cells=kI k (cE l) tl)∧H'=sH d' (bV k a' n' false) (bB l c)):=by
 have hkn:=h.inv.kn;have hcn:=h.calm.inv.n;have hlen:=h.inv.len h.nd h.kv;have hnk:=h.inv.nk;have hsc:=F0 h.calm.inv k a n l c hk (by omega) h.inv.a2 h.inv.nk (by omega) h.st (by omega) (IL h.inv hk h.nd h.kv);refine hsc.mono ?_;rintro r H' (⟨h1,rfl,rfl⟩|⟨h1,rfl,a',n',q1,q2,q3,rfl⟩)
 ·have hE:WA k l=21:=aAh h1;rw [hE];exact⟨rfl,d,a,n,h,fun e=>(by cases e),rfl⟩
 have hE:WA k l=0:=aAg (by omega);obtain ⟨s1,s2,s3⟩:=HM h.calm (k:=k) (a:=a) (w:=cE l) (by omega) (by have:=h.calm.inv.ok.n2;omega) h.inv.a2 h1;obtain ⟨rfl,rfl⟩:=q3 s1;rw [hE,s1];have htl:(kI k (cE l) tl).drop (2*k+2)=tl:=by
  have e1:kI k (cE l) tl=(hS 0 0 (cZ (cE l))::hS 1 0 (cZ (cE l))::(jY 2 (cE l) (cZ (cE l))++(zR (k - cZ (cE l))++zR k)))++tl:=by rw [kI];simp only [List.cons_append,List.append_assoc]
  rw [e1];exact List.drop_left' (by rw [aAk,aAk,aAj,dG,aAj,List.length_replicate,List.length_replicate];omega)
 rw [h.tl] at s3;have hiv:=IM h.inv h.nd h.kv h1 (by omega);rw [h.tl] at hiv;exact⟨rfl,_,0,cZ (cE l),⟨s2,by rw [s3];exact hiv,h.st,h.nd,h.kv,by rw [s3,htl]⟩,fun _=>s3,rfl⟩
theorem WV {N:Nat} (h1:4≤N) (h2:N≤8000) {l:bP} {c:Nat} (q1:dT l c) (q2:fI l) (q3:∀ x,cW l x=none):St N ((N - 2) / 2) ((nC N).cells.drop (2*((N - 2) / 2)+2)) (nC N) 0 0 l c (fun _=>none) :=⟨qO (by omega) h2,tV h1,q1,q2,q3,rfl⟩
end Go.Proofs.YtmkgeogoojcciaaGreatDoor
namespace Go.Abs
section
section
variable {P:Program} {N:Nat} {o:Oper} {E:bH} {H:aA} {T:TypeId} {x y:Operand}
theorem jI {e:TypeId} {kk:IntKind} {n:Int} {m sz cnt i k k2:Nat} {rows:List (List PV)} (ho:o.op=.indexAddr T x y) (hT:P.underlying T=some (.array cnt e)) (hs:∀ w,(sizeOf e).run P w=.ok sz w)
  (hx:aN E x=some (.pad rows i k)) (hy:aN E y=some (.pv (.int kk n))) (h0:0≤n) (hm:n.toNat=m) (hi:m < cnt) (hk:k+m*sz=k2):bW P N o E H (.pad rows i k2) H :=
 .of_run fun a w I ι hr he=>by
  have h:=aD he hx;have hn:=(aD he hy).int_inv;generalize hc:a.eval x=c at h;subst hk;cases h with
  | pad b off cap sz1 h0' hsz hlen cs hb hcc hp =>
   refine⟨.pointer (some ⟨b,off+i*sz1+(k+m*sz),none⟩),?_,.pad b off cap sz1 h0' hsz hlen cs hb hcc hp⟩;simp only [execOp,ho,hc,hn];have h5:n < (cnt:Int):=by omega
   simp [Instr.indexAt,run_underlying hT,Instr.sureAddr,asIntOf,h0,h5,hs,hm,Addr.add_lit,Nat.add_assoc]
end
end
end Go.Abs
namespace Go.Proofs.YtmkgeogoojcciaaGreatDoor
open Go.Proofs.Tryz
open Go.Abs Go.Lib
structure GOp where
 kind:Int
 put:List (ByteArray×ByteArray)
 drop:List ByteArray
 a:Int
 b:Int
 c:Int
def vA (p:ByteArray×ByteArray):List PV:=[.str p.1,.str p.2]
def UB (l:List (ByteArray×ByteArray)):PV:=.sl (l.map vA)
def uZ (o:GOp):List PV:=[.int .i64 o.kind,UB o.put,aW o.drop,.int .i64 o.a,.int .i64 o.b,.int .i64 o.c]
def lH (l:List GOp):PV:=.sl (l.map uZ)
theorem GM (l:bP):2*(cT l).length=(gX l).length:=(gT (fun x=>x) (dJ l) (cT l)).symm
theorem Fin.stK {G0 H1 H':aA} {id g n:Nat} {ob:Ob} (l:List ByteArray) (hH:H1.get id=some ob) (hg:ob.g=g) (hps:ob.rows=cY l) (hn:n=l.length) (hno:H'.get id=none) (hHO:FI H1 H' H') (hk:PK H' H1 G0) :
  Fin G0 H1 (.osl id g 0 n) H' (.pv (aW l)):=by
 subst hg hn;exact Fin.fz (id:=id) (ob:=ob) (l.map encStr) hH (hps.trans (nO l)) (.osl (lZ encStr l)) hno hHO hk
theorem Q0 (key value:ByteArray) (H:aA) (h:H.get 950=none):aH Tryz.prog 23 [sv key,sv value] H (fun r H'=>r=.mp 950 0∧H'=(950,bB (eG [(key,value)]).1 (eG [(key,value)]).2)::H):=by refine Bd func23 rfl ntmps23<|Sr<|Dd aS<|Zz<|Sr<|Dd (by exact kT (id:=950) fR rfl h)<|Dd aF<|Dd aF<|Uu (by exact FJ (κ:=fR) (.inr rfl) aV aL rfl rfl rfl rfl rfl rfl rfl rfl)<|Dd aF<|Dd aS<|Zz<|aM ?_;refine bD (H':=((950,bB (eG [(key,value)]).1 (eG [(key,value)]).2)::H)) (.inr rfl) rfl (aJ rfl) (Fin.get' (fun j=>iG _ _ _ _ j)) ?_;exact Qq
theorem Q7 (l:List (ByteArray×ByteArray)) (H:aA) (h:H.get 950=none) (hl:l.length < 1099511627776):aH Tryz.prog 15 [.pv (UB l)] H (fun r H'=>r=.mp 950 0∧H'=(950,bB (eG l).1 (eG l).2)::H):=by
 have hml:(l.map vA).length=l.length:=aAi _;refine Bd func15 rfl ntmps15<|Sr<|Dd aS<|Zz<|Sr<|Dd (by exact kT (id:=950) fR rfl h)<|Dd aS<|Zz<|Sq<|Sr<|Dd aS<|Zz<|aO ?_;refine bL (σ:=Nat) (fun k=>([(0,.pv (UB l)),(3,.mp 950 0),(4,iv (k:Int))],(950,bB (eG (l.take k)).1 (eG (l.take k)).2)::H)) (fun k=>k≤l.length) (fun k=>l.length - k) 0 (aAz _) ?_ ?_
 ·exact E0
 intro k hk;refine Sq<|Sr<|Dd aF<|Dd aF<|Dd (mZ nH)<|Dd dX<|Zz ?_;refine Cn ?_ ?_<;>intro hc1
 ·have hlt:k < l.length:=by have:=aAe hc1;omega
  obtain ⟨p,hp⟩:=aZ hlt;have hi:=dW (f:=vA) hp;have hnx:eG (l.take (k+1))=(gY (eG (l.take k)).1 p.1 p.2 (eG (l.take k)).2,oL (eG (l.take k)).1 p.1 (eG (l.take k)).2):=by rw [dK hp];exact IW _ _ _
  refine aK<|Sq<|aO<|bO follows<|Cs (fun _ _=>aF)<|Cs (fun _ _=>aF)<|Cs (fun _ _=>aF)<|Cs (fun _ _=>(FF UA))<|Cs (fun H1 hH=>by exact jI rfl nG sizeOf9 rfl rfl (by omega) (by exact aAt _) (by decide) rfl)<|Cs (fun _ _=>(qC aX))<|Cs (fun _ _=>aF)<|Cs (fun _ _=>aF)<|Cs (fun _ _=>(FF UA))<|Cs (fun H1 hH=>by exact jI rfl nG sizeOf9 rfl rfl (by omega) (by exact aAt _) (by decide) rfl)<|Cs (fun _ _=>(qC aX)) ?_;refine cD (r:=⟨_,none,[_]⟩) (DStep.plain rfl (fun H1 hH=>by exact kV (κ:=fR) (l:=bR (eG (l.take k)).1) (.inl rfl) aV aL rfl ((hH _ rfl).trans rfl) rfl rfl rfl rfl rfl (rD _ _ _ _) (uX _ _ _))) rfl ?_;refine dC<|Kr<|Rg<|Dd aF<|Dd pE<|Da ?_;refine⟨k+1,by omega,by omega,?_⟩;rw [hnx];exact cA.get' ⟨⟨_,rfl,rfl⟩,⟨_,rfl,rfl⟩,⟨_,rfl,rfl⟩,trivial⟩ (fun j=>iG _ _ _ _ j)
 have hge:k=l.length:=by have:=aAf hc1;omega
 subst hge;rw [List.take_length];refine bI<|Sr<|Dd aF<|Dd aS<|Zz<|aM ?_;refine bD (H':=((950,bB (eG l).1 (eG l).2)::H)) (.inr rfl) rfl (aJ rfl) Fin.refl ?_;exact Qq
theorem AM (d:DSt) (k a n:Nat) (b:Bool) (l:bP) (c:Nat) (hst:dT l c) (hnd:fI l) (hl:l.length < 1000000000) :
  aH Tryz.prog 18 [.ref 1100 0 0 0] (sH d (bV k a n b) (bB l c)) (fun r H'=>r=.pv (aW (gX l))∧H'=sH d (bV k a n b) (bB l c)):=by
 have hks:=LV d k a n b l c hst (by omega);have hsl:=iV l;have hml:((cT l).map encStr).length=(cT l).length:=aAi _;have hT:∀ i,i≤(cT l).length→(((cT l).take i).flatMap fun x=>[x,dJ l x]).length=2*i:=fun i hi=>by rw [gT,aAw];omega
 refine Bd func18 rfl ntmps18<|Sr<|Dd aS<|Zz<|Sr<|Dd aF<|Dd (by exact aB rfl rfl aA1 rfl (hks))<|Dd aS<|Zz<|Sr<|Dd (by exact mD (id:=905) (sz:=1) (ty:=9) rfl rfl rfl)<|Zz<|Sq<|Sr<|Dd aS<|Zz<|aO ?_;refine bL (σ:=Nat) (fun i=>([(0,.ref 1100 0 0 0),(3,.pv (aW (cT l))),(4,.osl 905 i 0 (2*i)),(5,iv (i:Int))],(905,⟨i,1,9,cY (((cT l).take i).flatMap fun x=>[x,dJ l x])⟩)::sH d (bV k a n b) (bB l c))) (fun i=>i≤(cT l).length) (fun i=>(cT l).length - i) 0 (aAz _) ?_ ?_
 ·exact(cA.wk (Ea<|Eb<|Ea<|Eb<|trivial) (Hc (gL _ _)<|Hc (aE _ _ rfl rfl rfl)<|Hc (aC _ _)<|Hc (aI _ _ _)<|Hc (aG _ _)<|Hc (by(simp;exact⟨rfl,rfl⟩))<|Hc (aR _ _ _)<|trivial) ⟨rfl,rfl,rfl,rfl,rfl,rfl,trivial⟩)
 intro i hi;have hTi:=hT i hi;refine Sq<|Sr<|Dd aF<|Dd aF<|Dd (mZ aP)<|Dd dX<|Zz ?_;refine Cn ?_ ?_<;>intro hc1
 ·have hlt:i < (cT l).length:=by have:=aAe hc1;omega
  obtain ⟨s,hs⟩:=aZ hlt;have his:=dW (f:=encStr) hs;have hin:(cW l s).isSome=true:=by
   cases e:cW l s with
   | some v=>rfl
   | none=>exact absurd (lS.1 (aAs hs)) (gI.1 e)
  have hg:=JV d k a n b l c s;rw [hin] at hg;have hnx:((cT l).take (i+1)).flatMap (fun x=>[x,dJ l x])=(((cT l).take i).flatMap fun x=>[x,dJ l x])++[s,dJ l s]:=by rw [dK hs,List.flatMap_append];rfl
  refine aK<|Sq<|aO<|Sr<|Dd aF<|Dd aF<|Dd aF<|Dd (FF cJ)<|Dd (qC aX)<|Dd (by exact aB rfl rfl aAY rfl (iL hg _ ⟨rfl,rfl,rfl,rfl,rfl,rfl,trivial⟩ (by simp;rfl)))<|Dd aF<|Dd dY<|Dd dY<|Dd aS<|Dd aS<|Zz<|Sq<|Sr<|Dd aF<|Dd A2<|Zz ?_;refine Cn ?_ ?_<;>intro hc2
  ·cases hc2
  refine aK<|Rg<|Dd aF<|Dd aF<|Dd aF<|Dd (FF cJ)<|Dd (qC aX)<|Dd aF<|Dd (by exact bJ [[.str s],[.str (dJ l s)]] rfl cJ rfl rfl rfl rfl rfl (tQ s (dJ l s)))<|Dd (by exact fQ (k:=2*(i+1)) (ps:=[[.str s],[.str (dJ l s)]]) rfl cJ PH rfl rfl rfl rfl rfl ((fU _).trans hTi) rfl (tQ _ _) (m:=2) rfl (by omega) (by omega) (yI _ [s,dJ l s]))<|Dd aS<|Zz<|Rg<|Dd aF<|Dd pE<|Da ?_;refine⟨i+1,by omega,by omega,?_⟩;rw [hnx];exact(cA.wk (Ea<|Eb<|Ea<|Eb<|trivial) (Hc (gL _ _)<|Hc (aE _ _ rfl rfl rfl)<|Hc (aC _ _)<|Hc (aI _ _ _)<|Hc (aG _ _)<|Hc (by(simp;exact⟨rfl,rfl⟩))<|Hc (aR _ _ _)<|trivial) ⟨rfl,rfl,rfl,rfl,rfl,rfl,trivial⟩)
 have hge:i=(cT l).length:=by have:=aAf hc1;omega
 subst hge;rw [List.take_length] at hTi ⊢;refine bI<|Sr<|Dd aF<|Dd aS<|Zz<|aM ?_;have hkl:((cT l).flatMap fun x=>[x,dJ l x])=gX l:=rfl;refine bD (H':=(sH d (bV k a n b) (bB l c))) (.inr rfl) rfl (aJ rfl) (Fin.stK (gX l) rfl rfl rfl (GM l) rfl ⟨⟨_,rfl,rfl⟩,(by exact aE _ _ rfl rfl rfl),⟨_,rfl,rfl⟩,(by exact aC _ _),⟨_,rfl,rfl⟩,(by exact aI _ _ _),⟨_,rfl,rfl⟩,(by exact aG _ _),⟨_,rfl,rfl⟩,(by(simp;exact⟨rfl,rfl⟩)),⟨_,rfl,rfl⟩,(by exact aR _ _ _),trivial⟩ ⟨rfl,rfl,rfl,rfl,rfl,rfl,trivial⟩) ?_;exact Qq
theorem M6 (a b:List ByteArray) (H:aA) (ha:a.length < 1000000000) (hb:b.length < 1000000000):aH Tryz.prog 54 [.pv (aW a),.pv (aW b)] H (fun r H'=>r=bv (decide (a=b))∧H'=H):=by
 refine Pu ?_;have hma:(a.map encStr).length=a.length:=aAi _;have hmb:(b.map encStr).length=b.length:=aAi _;refine Bd func54 rfl ntmps54<|Sr<|Dd aS<|Zz<|Sq<|Sr<|Dd aF<|Dd (mZ aP)<|Dd aF<|Dd (mZ aP)<|Dd wB<|Zz ?_;refine Cn ?_ ?_<;>intro hc1
 ·have hq:¬ a.length=b.length:=by have h:=hc1;simp at h;omega
  have hf:decide (a=b)=false:=decide_eq_false fun e=>hq (by rw [e]);rw [hf];exact Sr<|Dd aS<|Zz<|aM<|Rt<|Qq
 have hq:a.length=b.length:=by have h:=hc1;simp at h;omega
 refine aK<|Sq<|Sr<|Dd aS<|Zz<|aO ?_;refine bL (σ:=Nat) (fun k=>([(0,.pv (aW a)),(1,.pv (aW b)),(5,iv (k:Int))],[])) (fun k=>k≤a.length∧a.take k=b.take k) (fun k=>a.length - k) 0 ⟨aAz _,rfl⟩ ?_ ?_
 ·exact Wk
 rintro k ⟨hk,hs⟩;refine Sq<|Sr<|Dd aF<|Dd aF<|Dd (mZ aP)<|Dd dX<|Zz ?_;refine Cn ?_ ?_<;>intro hc2
 ·have hlt:k < a.length:=by have:=aAe hc2;omega
  obtain ⟨x,hx⟩:=aZ hlt;obtain ⟨y,hy⟩:=aZ (l:=b) (k:=k) (by omega);have hix:=dW (f:=encStr) hx;have hiy:=dW (f:=encStr) hy;refine aK<|Sq<|aO<|Sq<|bO follows<|Cq aF<|Cq aF<|Cq (FF cJ)<|Cq (qC aX)<|Cq aF<|Cq aF<|Cq (FF cJ)<|Cq (qC aX)<|Cq QA<|dC<|Kr ?_;refine Cn ?_ ?_<;>intro hc3
  ·have hne:¬ x=y:=by have h:=hc3;simpa using h
   have hf:decide (a=b)=false:=decide_eq_false fun e=>hne (by rw [e,hy] at hx;cases hx;rfl);rw [hf];exact Sr<|Dd aS<|Zz<|aM<|Rt<|Qq
  have he:x=y:=by have h:=hc3;simpa using h
  refine aK<|Rg<|Dd aF<|Dd pE<|Da ?_;refine⟨k+1,⟨by omega,?_⟩,by omega,Wk⟩;rw [dK hx,dK hy,hs,he]
 have hge:k=a.length:=by have:=aAf hc2;omega
 have ht:decide (a=b)=true:=decide_eq_true (by
  rw [← List.take_length (l:=a),← hge,hs,hge,hq,List.take_length])
 rw [ht];exact bI<|Sr<|Dd aS<|Zz<|aM<|Rt<|Qq
theorem yT (a b:List ByteArray) (H:aA) (ha:a.length < 1000000000) (hb:b.length < 1000000000):aH Tryz.prog 17 [.pv (aW a),.pv (aW b)] H (fun r H'=>r=bv (decide (a=b))∧H'=H):=by refine Pu ?_;exact Bd func17 rfl ntmps17<|Sr<|Dd aS<|Zz<|Sr<|Dd aF<|Dd aF<|Dd (by exact aB rfl rfl call54 rfl (M6 a b _ ha hb))<|Dd aS<|Zz<|aM<|Rt<|Qq
def RY (p:ByteArray×ByteArray):Bool:=decide (p.1.size+p.2.size≤600)
def RZ (s:ByteArray):Bool:=decide (s.size≤600)
def EV (x:GOp):Bool:=(decide (x.put.length≤6)&&decide (x.drop.length≤6))&&(x.put.all RY&&x.drop.all RZ)
def xE (l:List GOp):Bool:=l.all EV&&decide (l.length≤12)
theorem FA {α:Type} {l:List α} {p:α→Bool} {i:Nat} {x:α} (h:l[i]?=some x) (hp:p x=false):l.all p=false:=by rw [Bool.eq_false_iff];intro ha;rw [List.all_eq_true.1 ha x (aAs h)] at hp;cases hp
theorem KI {α:Type} {l:List α} {p:α→Bool} (h:∀ i x,i < l.length→l[i]?=some x→p x=true):l.all p=true:=List.all_eq_true.2 fun x hx=>by
 obtain ⟨i,hi⟩:=aBD.1 hx;exact h i x (aAm.1 hi).1 hi
theorem YV (l:List GOp) (H:aA) (hl:l.length < 1099511627776) (hs:∀ x∈l,x.put.length < 1099511627776∧x.drop.length < 1099511627776∧(∀ p∈x.put,p.1.size < 1099511627776∧p.2.size < 1099511627776)) :
  aH Tryz.prog 11 [.pv (lH l)] H (fun r H'=>r=bv (xE l)∧H'=H):=by
 refine Pu ?_;have hml:(l.map uZ).length=l.length:=aAi _;refine Bd func11 rfl ntmps11<|Sr<|Dd aS<|Zz<|Sq<|Sr<|Dd aS<|Zz<|aO ?_;refine bL (σ:=Nat) (fun i=>([(0,.pv (lH l)),(3,iv (i:Int))],[])) (fun i=>i≤l.length∧∀ j x,j < i→l[j]?=some x→EV x=true) (fun i=>l.length - i) 0 ⟨aAz _,fun j x hj=>absurd hj (Nat.not_lt_zero _)⟩ ?_ ?_
 ·exact Wk
 rintro i ⟨hi,hall⟩;refine Sq<|Sr<|Dd aF<|Dd aF<|Dd (mZ nI)<|Dd dX<|Zz ?_;refine Cn ?_ ?_<;>intro hc1
 ·have hlt:i < l.length:=by have:=aAe hc1;omega
  obtain ⟨x,hx⟩:=aZ hlt;have hix:=dW (f:=uZ) hx;obtain ⟨s1,s2,s3⟩:=hs x (aAs hx);have hmp:(x.put.map vA).length=x.put.length:=aAi _;have hmd:(x.drop.map encStr).length=x.drop.length:=aAi _;have bad:EV x=false→xE l=false:=fun h=>by rw [xE,FA hx h];rfl
  have hO:EV x=((decide (x.put.length≤6)&&decide (x.drop.length≤6))&&(x.put.all RY&&x.drop.all RZ)):=rfl;refine aK<|Sq<|aO<|Sq<|Sq ?_;refine cV (t:=27) (n:=17) (X:=decide ((6:Int) < ((x.put.map vA).length:Int))||decide ((6:Int) < ((x.drop.map encStr).length:Int))) ?_ ?_
  ·all_goals refine Dd aF ?_
   all_goals refine Dd aF<|Dd (by exact bX rfl FX rfl rfl (by omega) (by exact aAt _) hix rfl)<|Dd (XG AC)<|Dd (qC AU)<|Dd (mZ nH)<|Dd BR<|Dm ?_
   all_goals refine Sp 19 (fun h19=>?_) fun h19=>?_
   all_goals try contradiction
   all_goals first|refine Fo<|Fo<|Fo<|Fo<|Fo<|Fo<|Fo ?_|refine On aF<|On aF<|On (by exact bX rfl FX rfl rfl (by omega) (by exact aAt _) hix rfl)<|On (XG ER)<|On (qC cQ)<|On (mZ aP)<|On BR ?_
   all_goals refine Dd fV<|Zz ?_
   all_goals(exact⟨⟨_,rfl,by(rw [h19];rfl)⟩,rfl,rfl,rfl⟩)
  refine Cn ?_ ?_<;>intro hc2
  ·have hq:6 < x.put.length∨6 < x.drop.length:=by have h:=hc2;rw [Bool.or_eq_true,aAp,aAp] at h;omega
   have hf:EV x=false:=by
    rw [hO];rcases hq with hq|hq
    ·rw [decide_eq_false (show ¬ x.put.length≤6 by omega)];rfl
    rw [decide_eq_false (show ¬ x.drop.length≤6 by omega),Bool.and_false];rfl
   rw [bad hf];exact Sr<|Dd aS<|Zz<|aM<|Rt<|Qq
  have hq:x.put.length≤6∧x.drop.length≤6:=by have h:=hc2;rw [aBE,aAq,aAq] at h;omega
  rw [decide_eq_true hq.1,decide_eq_true hq.2] at hO;refine aK<|Sq<|Sr<|Dd aS<|Zz<|aO ?_;refine bL (σ:=Nat) (fun k=>([(0,.pv (lH l)),(3,iv (i:Int)),(4,iv (k:Int))],[])) (fun k=>k≤x.put.length∧∀ j p,j < k→x.put[j]?=some p→RY p=true) (fun k=>x.put.length - k) 0 ⟨aAz _,fun j p hj=>absurd hj (Nat.not_lt_zero _)⟩ ?_ ?_
  ·exact Wk
  rintro k ⟨hk,hpk⟩;refine Sq<|Sr<|Dd aF<|Dd aF<|Dd aF<|Dd (by exact bX rfl FX rfl rfl (by omega) (by exact aAt _) hix rfl)<|Dd (XG AC)<|Dd (qC AU)<|Dd (mZ nH)<|Dd dX<|Zz ?_;refine Cn ?_ ?_<;>intro hc3
  ·have hltk:k < x.put.length:=by have:=aAe hc3;omega
   obtain ⟨p,hp⟩:=aZ hltk;have hip:=dW (f:=vA) hp;obtain ⟨t1,t2⟩:=s3 p (aAs hp);refine aK<|Sq<|aO<|Sq<|bO follows<|Cq aF<|Cq aF<|Cq (by exact bX rfl FX rfl rfl (by omega) (by exact aAt _) hix rfl)<|Cq (XG AC)<|Cq (qC AU)<|Cq aF<|Cq (by exact bX rfl UA rfl rfl (by omega) (by exact aAt _) hip rfl)<|Cq (by exact jI rfl nG sizeOf9 rfl rfl (by omega) (by exact aAt _) (by decide) rfl)<|Cq (qC aX)<|Cq (BP aL)<|Cq aF<|Cq aF<|Cq (by exact bX rfl FX rfl rfl (by omega) (by exact aAt _) hix rfl)<|Cq (XG AC)<|Cq (qC AU)<|Cq aF<|Cq (by exact bX rfl UA rfl rfl (by omega) (by exact aAt _) hip rfl)<|Cq (by exact jI rfl nG sizeOf9 rfl rfl (by omega) (by exact aAt _) (by decide) rfl)<|Cq (qC aX)<|Cq (BP aL) ?_;refine Cq pE<|Cq BR<|dC<|Kr ?_;refine Cn ?_ ?_<;>intro hc4
   ·have hq2:¬ p.1.size+p.2.size≤600:=by have:=aAe hc4;omega
    have hf:EV x=false:=by rw [hO,FA hp (show RY p=false from decide_eq_false hq2)];rfl
    rw [bad hf];exact Sr<|Dd aS<|Zz<|aM<|Rt<|Qq
   have hq2:p.1.size+p.2.size≤600:=by have:=aAf hc4;omega
   refine aK<|Rg<|Dd aF<|Dd pE<|Da ?_;refine⟨k+1,⟨by omega,fun j q hj hq=>?_⟩,by omega,Wk⟩;rcases Nat.lt_succ_iff_lt_or_eq.1 hj with h1|rfl
   ·exact hpk j q h1 hq
   rw [hp] at hq;cases hq;exact decide_eq_true hq2
  have hgek:k=x.put.length:=by have:=aAf hc3;omega
  have hP:x.put.all RY=true:=KI fun j p hj hp=>hpk j p (by omega) hp;rw [hP] at hO;refine bI<|Sr<|Dd aS<|Zz<|aO ?_;refine bL (σ:=Nat) (fun k=>([(0,.pv (lH l)),(3,iv (i:Int)),(5,iv (k:Int))],[])) (fun k=>k≤x.drop.length∧∀ j p,j < k→x.drop[j]?=some p→RZ p=true) (fun k=>x.drop.length - k) 0 ⟨aAz _,fun j p hj=>absurd hj (Nat.not_lt_zero _)⟩ ?_ ?_
  ·exact Wk
  rintro m ⟨hm,hdk⟩;refine Sq<|Sr<|Dd aF<|Dd aF<|Dd aF<|Dd (by exact bX rfl FX rfl rfl (by omega) (by exact aAt _) hix rfl)<|Dd (XG ER)<|Dd (qC cQ)<|Dd (mZ aP)<|Dd dX<|Zz ?_;refine Cn ?_ ?_<;>intro hc5
  ·have hltm:m < x.drop.length:=by have:=aAe hc5;omega
   obtain ⟨s,hs2⟩:=aZ hltm;have hisd:=dW (f:=encStr) hs2;refine aK<|Sq<|aO<|Sr<|Dd aF<|Dd aF<|Dd (by exact bX rfl FX rfl rfl (by omega) (by exact aAt _) hix rfl)<|Dd (XG ER)<|Dd (qC cQ)<|Dd aF<|Dd (by exact bX rfl cJ rfl rfl (by omega) (by exact aAt _) hisd rfl)<|Dd (qC aX)<|Dd (BP aL)<|Dd BR<|Zz ?_;refine Cn ?_ ?_<;>intro hc6
   ·have hq2:¬ s.size≤600:=by have:=aAe hc6;omega
    have hf:EV x=false:=by rw [hO,FA hs2 (show RZ s=false from decide_eq_false hq2)];rfl
    rw [bad hf];exact Sr<|Dd aS<|Zz<|aM<|Rt<|Qq
   have hq2:s.size≤600:=by have:=aAf hc6;omega
   refine aK<|Rg<|Dd aF<|Dd pE<|Da ?_;refine⟨m+1,⟨by omega,fun j q hj hq=>?_⟩,by omega,Wk⟩;rcases Nat.lt_succ_iff_lt_or_eq.1 hj with h1|rfl
   ·exact hdk j q h1 hq
   rw [hs2] at hq;cases hq;exact decide_eq_true hq2
  have hgem:m=x.drop.length:=by have:=aAf hc5;omega
  have hDD:x.drop.all RZ=true:=KI fun j p hj hp=>hdk j p (by omega) hp;rw [hDD] at hO;refine bI<|Rg<|Dd aF<|Dd pE<|Da ?_;refine⟨i+1,⟨by omega,fun j y hj hy=>?_⟩,by omega,Wk⟩;rcases Nat.lt_succ_iff_lt_or_eq.1 hj with h1|rfl
  ·exact hall j y h1 hy
  rw [hx] at hy;cases hy;exact hO
 have hge:i=l.length:=by have:=aAf hc1;omega
 have hA:l.all EV=true:=KI fun j x hj hx=>hall j x (by omega) hx;have hG:xE l=decide (((l.map uZ).length:Int)≤12):=by
  rw [xE,hA,Bool.true_and,hml];exact decide_eq_decide.2 (by omega)
 rw [hG];exact bI<|Sr<|Dd aF<|Dd (mZ nI)<|Dd le'<|Dd aS<|Zz<|aM<|Rt<|Qq
end Go.Proofs.YtmkgeogoojcciaaGreatDoor
namespace Go.Abs
theorem gK {P:Program} {G0:aA} {N:Nat} {ops:Array Oper} {K:bH→aA→Prop} {l:List Oper} {E E':bH} {H H':aA} (he:cA G0 E H E' H') (h:AL P G0 N ops K l E' H'):AL P G0 N ops K l E H :=fun G hG a w hs ro hro Q hq=>h G hG a w (he G hG N a w hs) ro hro Q hq
def D5 (T:Nat) (ops:List Oper) (rs:List Rec):Bool :=(uJ 0 ops&&uH ops (OW ops []) 0 [] (List.zipWith Ent2.mk (ops.take T) rs))&&(List.range ops.length).all fun j=>Nat.blt j T||(List.range j).all fun i=>((OW ops []).getD j 0).testBit i
theorem S4 {F:Fence} {nn:Nat} {P:Program} {ops:Array Oper} {Q:Exit→Act→World→Prop} {T:Nat} (hedge:∀ j o,ops.toList[j]?=some o→∀ e∈o.after.toList,Region.binds .any e=true→e.on < j) (htail:∀ (j:Nat),T≤j→j < ops.size→∀ i,i < j→X2 ops.toList i j) :
  ∀ (fuel j:Nat) (listed:Array Bool) (a:Act) (w:World),T≤j→listed.size=ops.size→(∀ i,i < ops.size→listed.getD i false=decide (i < j))→ops.size - j≤fuel→wpListIn F nn P ops Q (ops.toList.drop j) a w→wpAnyIn F nn P .any ops Q fuel listed a w:=by
 intro fuel;have rdy:∀ (j:Nat) (listed:Array Bool),T≤j→listed.size=ops.size→(∀ i,i < ops.size→listed.getD i false=decide (i < j))→(∀ i∈Region.ready .any ops listed,i=j∧i < ops.size)∧(j < ops.size→j∈Region.ready .any ops listed):=by
  intro j listed hj hsz hli;constructor
  ·intro i hi;have hi1:=List.mem_filter.1 hi;have hilt:i < ops.size:=List.mem_range.1 hi1.1;have hi':i < listed.size:=by omega
   have ho:ops[i]?=some ops[i]:=Array.getElem?_eq_getElem hilt;have hi2:=hi1.2;simp only [ho,Option.map_some,Option.getD_some,aAr] at hi2;obtain ⟨hnl,hpreds⟩:=hi2;have hnl':listed.getD i false=false:=by
    simp [Array.getD,hi'] at hnl ⊢;exact hnl
   rw [hli i hilt] at hnl';have hge:j≤i:=by have:=aAf hnl';omega
   refine⟨Classical.byContradiction fun hne=>?_,hilt⟩;have h1:=htail i (by omega) hilt j (by omega) (fun q=>decide (q < j)&&decide (q < ops.size)) (fun q o hq hS e he hb=>by
    have h2:=hedge q o hq e he hb;simp only [aAr,aAp] at hS ⊢;omega) ops[i] (by simp [ho]) (fun e he hb=>by
    have h2:=(Array.all_eq_true'.1 hpreds) e (by simpa using he);have h3:listed.getD e.on false=true:=by simpa [hb] using h2
    have h4:=hedge i ops[i] (by simp [ho]) e he hb;rw [hli e.on (by omega)] at h3;simp only [aAr,aAp];exact⟨aAe h3,by omega⟩)
   simp at h1
  intro hjs;have ho:ops[j]?=some ops[j]:=Array.getElem?_eq_getElem hjs;have hj':j < listed.size:=by omega
  refine List.mem_filter.2 ⟨List.mem_range.2 hjs,?_⟩;have hn:listed.getD j false=false:=by rw [hli j hjs];exact decide_eq_false (Nat.lt_irrefl _)
  have hn':listed.getD j true=false:=by
   simp [Array.getD,hj'] at hn ⊢;exact hn
  simp only [hn',Bool.not_false,Bool.true_and,ho,Option.map_some,Option.getD_some];rw [Array.all_eq_true'];intro e he;cases hb:Region.binds .any e with
  | false=>simp
  | true =>
   have hon:=hedge j ops[j] (by simp [ho]) e (by simpa using he) hb;simp only [Bool.not_true,Bool.false_or];rw [hli e.on (by omega)];exact decide_eq_true hon
 induction fuel with
 | zero =>
  intro j listed a w hj hsz hli hf h;obtain ⟨r1,r2⟩:=rdy j listed hj hsz hli;have hd:ops.toList.drop j=[]:=List.drop_eq_nil_of_le (by rw [Array.length_toList];omega);rw [hd] at h;refine⟨?_,h⟩;cases hr:Region.ready .any ops listed with
  | nil=>rfl
  | cons i r =>
   have:=r1 i (by rw [hr];exact List.mem_cons_self);omega
 | succ fuel ih =>
  intro j listed a w hj hsz hli hf h;obtain ⟨r1,r2⟩:=rdy j listed hj hsz hli;refine⟨fun hnil=>?_,fun i hi=>?_⟩
  ·have hd:ops.toList.drop j=[]:=List.drop_eq_nil_of_le (by
    rw [Array.length_toList];refine Classical.byContradiction fun hno=>?_;have:=r2 (by omega);rw [hnil] at this;cases this)
   rw [hd] at h;exact h
  obtain ⟨rfl,hilt⟩:=r1 i hi;have ho:ops[i]?=some ops[i]:=Array.getElem?_eq_getElem hilt;have hdr:ops.toList.drop i=ops[i]::ops.toList.drop (i+1):=by
   rw [List.drop_eq_getElem_cons (by simpa using hilt)];simp
  rw [hdr] at h;have hi':i < listed.size:=by omega
  have hlist:∀ q,(listed.setIfInBounds i true).getD q false=if q=i then true else listed.getD q false:=by
   intro q;by_cases e:q=i
   ·subst e;simp [Array.getD,hi']
   simp only [Array.getD_eq_getD_getElem?,Array.getElem?_setIfInBounds_ne (Ne.symm e),e,if_false]
  have next:∀ a w,wpListIn F nn P ops Q (ops.toList.drop (i+1)) a w→wpAnyIn F nn P .any ops Q fuel (listed.setIfInBounds i true) a w:=fun a w hh =>
   ih (i+1) _ a w (by omega) (by simp [hsz]) (fun q hq=>by
    rw [hlist];by_cases e:q=i
    ·subst e;rw [aAh rfl];exact(decide_eq_true (by omega)).symm
    rw [aAg e,hli q hq];exact decide_eq_decide.2 (by omega)) (by omega) hh
  unfold wpOpIn;simp only [ho];unfold wpListIn at h
  split
  ·next hw =>
   rw [aAh hw] at h;exact Oper.wpIn_mono next h
  next hw =>
  rw [aAg hw] at h;exact⟨h.1,next _ _ h.2⟩
theorem O2 {P:Program} {G0:aA} {N id:Nat} {Q:Exit→bH→aA→Prop} {ops:Array Oper} {E E':bH} {H H':aA} {rs:List Rec} (T:Nat) (hm:P.follows .mixedOrders=true) (hT:T≤ops.size) (hc:DChain P N ops.toList (ops.toList.take T) E H rs E' H') (hok:D5 T ops.toList rs=true)
  (hB:AL P G0 N ops (fun E H=>Q .normal E H) (ops.toList.drop T) E' H'):gA P G0 N (.region id ops true) Q E H:=by
 intro G hG a w hs ro hro;have hnd0:ro=none∨ops.toList.all Oper.noDefer=true:=hro;refine wpIn_region_any hm ?_;obtain ⟨hlen,hst,hE',hH'⟩:=hc.spec;obtain ⟨l,hl⟩:∃ l,l=List.zipWith Ent2.mk (ops.toList.take T) rs:=⟨_,rfl⟩;rw [← hl] at hst hE' hH';simp only [D5,aAr,← hl] at hok;obtain ⟨⟨hok1,hok2⟩,hok3⟩:=hok;have hTl:(ops.toList.take T).length=T:=by rw [aAw,Array.length_toList];omega
 rw [hTl] at hE' hH';have hndB:ro=none∨(ops.toList.drop T).all Oper.noDefer=true:=hnd0.imp (fun h=>h) fun h=>List.all_eq_true.2 fun x hx=>List.all_eq_true.1 h x (List.mem_of_mem_drop hx);have hll:l.length=T:=by rw [hl,List.length_zipWith,hlen,hTl];omega
 have hlo:∀ (i:Nat) (x:Ent2),l[i]?=some x→ops.toList[i]?=some x.o:=by
  intro i x hx;have hiT:i < T:=by have:=(aAm.1 hx).1;omega
  rw [hl,List.getElem?_zipWith,List.getElem?_take_of_lt hiT] at hx;cases e1:ops.toList[i]? with
  | none=>simp [e1] at hx
  | some o =>
   cases e2:rs[i]? with
   | none=>simp [e1,e2] at hx
   | some r=>simp [e1,e2] at hx;rw [← hx]
 have hedge:=uI ops.toList 0 hok1;have hbef:∀ (i j:Nat) (x y:Ent2),i < j→l[i]?=some x→l[j]?=some y→fG ops.toList x y=true→X2 ops.toList i j:=fun i j x y hij hx hy hcl =>
  wM ops.toList [] [] rfl rfl (by simp) j i (uG l [] hok2 i j hij (aAz _) x y hx hy hcl)
 have htail:∀ (j:Nat),T≤j→j < ops.size→∀ i,i < j→X2 ops.toList i j:=by
  intro j hj hjs i hi;have h1:=List.all_eq_true.1 hok3 j (List.mem_range.2 (by rw [Array.length_toList];exact hjs));rw [Bool.or_eq_true] at h1;rcases h1 with h1|h1
  ·rw [Nat.blt_eq] at h1;omega
  exact wM ops.toList [] [] rfl rfl (by simp) j i (List.all_eq_true.1 h1 i (List.mem_range.2 hi))
 have hedge0:∀ j o,ops.toList[j]?=some o→∀ e∈o.after.toList,Region.binds .any e=true→e.on < j:=fun j o h e he hb=>by have:=hedge j o h e he hb;omega
 have fin:∀ (fuel:Nat) (listed:Array Bool) (a:Act) (w:World) (E1:bH) (H1:aA),listed.size=ops.size→ops.size≤T+fuel→(∀ j,T≤j→listed.getD j false=false)→(∀ i,i < T→listed.getD i false=true)→St G N E1 H1 a w→(∀ t,E1.get t=sC E l (fun i=>listed.getD i false) T t)→(∀ j,H1.get j=sB H l (fun i=>listed.getD i false) T j) →
   wpAnyIn (RF ro) 0 P .any ops (fun e a w=>∃ E H,Q e E H∧St G N E H a w) fuel listed a w:=by
  intro fuel listed a w E1 H1 hsz hfu hnoB hall hst1 hE1 hH1;refine S4 hedge0 htail fuel T listed a w (aAo _) hsz (fun i hi=>?_) (by omega) ?_
  ·by_cases h:i < T
   ·rw [hall i h,decide_eq_true h]
   rw [hnoB i (by omega),decide_eq_false h]
  refine hB G hG a w (cA.get (G0:=G0) (fun t=>?_) (fun j=>?_) G hG N a w hst1) ro hndB _ (fun E H a w hK hst=>⟨E,H,hK,hst⟩)
  ·rw [hE' t,hE1 t];exact(jX (E:=E) T T (aAo _) (fun j x hj _=>⟨fun hlt=>hall j hlt,fun h1 h2=>by omega⟩)).symm
  rw [hH' j,hH1 j];exact(jW (H:=H) T T (aAo _) (fun i x hi _=>⟨fun hlt=>hall i hlt,fun h1 h2=>by omega⟩)).symm
 have cnt:∀ (fuel:Nat) (listed:Array Bool),listed.size=ops.size→(∀ j,T≤j→listed.getD j false=false)→((List.range ops.size).filter fun i=>!listed.getD i true).length≤fuel→ops.size≤T+fuel:=by
  intro fuel listed hsz hnoB hcnt;have h1:(List.range' T (ops.size - T)).length≤((List.range ops.size).filter fun i=>!listed.getD i true).length:=by
   refine List.Nodup.length_le_of_subset List.nodup_range' fun j hj=>?_;rw [List.mem_range'_1] at hj;have hjl:j < listed.size:=by omega
   have h2:=hnoB j (by omega);refine List.mem_filter.2 ⟨List.mem_range.2 (by omega),?_⟩;simp [Array.getD,hjl] at h2 ⊢;exact h2
  rw [List.length_range'] at h1;omega
 have main:∀ (fuel:Nat) (listed:Array Bool) (a:Act) (w:World) (E1:bH) (H1:aA),listed.size=ops.size→((List.range ops.size).filter fun i=>!listed.getD i true).length≤fuel →
   A1 ops.toList (fun i=>listed.getD i false)→(∀ j,T≤j→listed.getD j false=false)→St G N E1 H1 a w→(∀ t,E1.get t=sC E l (fun i=>listed.getD i false) T t)→(∀ j,H1.get j=sB H l (fun i=>listed.getD i false) T j) →
   wpAnyIn (RF ro) 0 P .any ops (fun e a w=>∃ E H,Q e E H∧St G N E H a w) fuel listed a w:=by
  intro fuel
  induction fuel with
  | zero =>
   intro listed a w E1 H1 hsz hcnt hdown hnoB hst1 hE1 hH1;have hall:∀ i,i < T→listed.getD i false=true:=by
    intro i hi;have hnil:=List.eq_nil_of_length_eq_zero (Nat.le_zero.1 hcnt);have:=List.filter_eq_nil_iff.1 hnil i (List.mem_range.2 (by omega));have hi':i < listed.size:=by omega
    simp [Array.getD,hi'] at this ⊢;exact this
   exact fin 0 listed a w E1 H1 hsz (cnt 0 listed hsz hnoB hcnt) hnoB hall hst1 hE1 hH1
  | succ fuel ih =>
   intro listed a w E1 H1 hsz hcnt hdown hnoB hst1 hE1 hH1;by_cases hallT:∀ i,i < T→listed.getD i false=true
   ·exact fin _ listed a w E1 H1 hsz (cnt _ listed hsz hnoB hcnt) hnoB hallT hst1 hE1 hH1
   refine⟨fun hnil=>?_,fun i hi=>?_⟩
   ·-- nothing is left
    exfalso;have hall:∀ i,i < ops.size→listed.getD i false=true:=by
     intro i
     induction i using Nat.strongRecOn with
     | _ i ihi =>
      intro hi;refine Classical.byContradiction fun hno=>?_;have hi':i < listed.size:=by omega
      have hno':listed.getD i true=false:=by
       simp [Array.getD,hi'] at hno ⊢;exact hno
      have hlt:i < ops.toList.length:=by simpa using hi
      have hr:i∈Region.ready .any ops listed:=by
       unfold Region.ready;refine List.mem_filter.2 ⟨List.mem_range.2 hi,?_⟩;have ho:ops[i]?=some ops[i]:=Array.getElem?_eq_getElem hi;simp only [hno',Bool.not_false,Bool.true_and,ho,Option.map_some,Option.getD_some];rw [Array.all_eq_true'];intro e he;cases hb:Region.binds .any e with
       | false=>simp
       | true =>
        have hon:=hedge i ops[i] (by simp [ho]) e (by simpa using he) hb;simp only [Bool.not_true,Bool.false_or];exact ihi e.on (by omega) (by omega)
      rw [hnil] at hr;cases hr
    exact hallT fun i hi=>hall i (by omega)
   have hi1:=List.mem_filter.1 hi;have hilt:i < ops.size:=List.mem_range.1 hi1.1;have hi':i < listed.size:=by omega
   have ho:ops[i]?=some ops[i]:=Array.getElem?_eq_getElem hilt;have hi2:=hi1.2;simp only [ho,Option.map_some,Option.getD_some,aAr] at hi2;obtain ⟨hnl,hpreds⟩:=hi2;have hnl':listed.getD i false=false:=by
    simp [Array.getD,hi'] at hnl ⊢;exact hnl
   have hpre:∀ e∈(ops[i]).after.toList,Region.binds .any e=true→listed.getD e.on false=true:=by
    intro e he hb;have:=(Array.all_eq_true'.1 hpreds) e (by simpa using he)
    simpa [hb] using this
   have hiT:i < T:=by
    refine Classical.byContradiction fun hno=>hallT fun q hq=>?_;exact htail i (by omega) hilt q (by omega) _ hdown ops[i] (by simp [ho]) hpre
   have hil:i < l.length:=by omega
   obtain ⟨x,hx⟩:∃ x,l[i]?=some x:=⟨_,aAn hil⟩;have hxo:x.o=ops[i]:=by
    have:=hlo i x hx;simp [ho] at this;exact this.symm
   obtain ⟨hdok,Ek,Hk,hEk,hHk,hdst⟩:=hst i x hx;have hbefore:∀ (j:Nat) (y:Ent2),j < i→l[j]?=some y→fG ops.toList y x=true→listed.getD j false=true:=by
    intro j y hj hy hcl;exact hbef j i y x hj hy hx hcl _ hdown ops[i] (by simp [ho]) hpre
   have hbehind:∀ (j:Nat) (y:Ent2),i < j→l[j]?=some y→fG ops.toList x y=true→listed.getD j false=false:=by
    intro j y hj hy hcl;cases hjl:listed.getD j false with
    | false=>rfl
    | true =>
     have hjlt:j < l.length:=(aAm.1 hy).1;have hjo:ops.toList[j]?=some y.o:=hlo j y hy;have:=hbef i j x y hj hx hy hcl _ hdown y.o hjo (fun e he hb=>hdown j y.o hjo hjl e he hb);rw [hnl'] at this;cases this
   have agreeE:∀ t,(∀ (j:Nat) (y:Ent2),l[j]?=some y→y.o.dst=some t→(j < i→fG ops.toList y x=true)∧(i < j→fG ops.toList x y=true))→E1.get t=Ek.get t:=by
    intro t ht;rw [hE1 t,hEk t];refine jX (E:=E) T i (by omega) (fun j y hj hd=>⟨fun hlt=>hbefore j y hlt hj ((ht j y hj hd).1 hlt),fun h1 h2=>?_⟩);by_cases e:j=i
    ·subst e;exact hnl'
    exact hbehind j y (by omega) hj ((ht j y hj hd).2 (by omega))
   have agreeH:∀ k,(∀ (j:Nat) (y:Ent2),l[j]?=some y→(y.r.W.get k).isSome=true→(j < i→fG ops.toList y x=true)∧(i < j→fG ops.toList x y=true))→H1.get k=Hk.get k:=by
    intro k hk;rw [hH1 k,hHk k];refine jW (H:=H) T i (by omega) (fun j y hj hd=>⟨fun hlt=>hbefore j y hlt hj ((hk j y hj hd).1 hlt),fun h1 h2=>?_⟩);by_cases e:j=i
    ·subst e;exact hnl'
    exact hbehind j y (by omega) hj ((hk j y hj hd).2 (by omega))
   have hlooks:∀ t,t∈eS ops.toList x.o→E1.get t=Ek.get t:=fun t ht =>
    agreeE t fun j y hj hd=>⟨fun _=>pD hd ht,fun _=>pC hd ht⟩
   have hreads:∀ k,oJ x.r.R k=true→H1.get k=Hk.get k:=fun k hk =>
    agreeH k fun j y hj hd=>⟨fun _=>DA hd hk,fun _=>DB hd hk⟩
   have hlist:∀ j,(listed.setIfInBounds i true).getD j false=if j=i then true else listed.getD j false:=by
    intro j;by_cases e:j=i
    ·subst e;simp [Array.getD,hi']
    simp only [Array.getD_eq_getD_getElem?,Array.getElem?_setIfInBounds_ne (Ne.symm e),e,if_false]
   have hdown':A1 ops.toList (fun j=>(listed.setIfInBounds i true).getD j false):=by
    intro j o hj hjl e he hb;simp only [hlist] at hjl ⊢;by_cases ej:j=i
    ·subst ej;have:o=ops[j]:=by simp [ho] at hj;exact hj.symm
     subst this;have:=hpre e he hb;simp [this]
    simp only [ej,if_false] at hjl;have:=hdown j o hj hjl e he hb;simp only at this;simp [this]
   have hcnt':((List.range ops.size).filter fun j=>!(listed.setIfInBounds i true).getD j true).length≤fuel:=by
    have hlist':∀ j,(listed.setIfInBounds i true).getD j true=if j=i then true else listed.getD j true:=by
     intro j;by_cases e:j=i
     ·subst e;simp [Array.getD,hi']
     simp only [Array.getD_eq_getD_getElem?,Array.getElem?_setIfInBounds_ne (Ne.symm e),e,if_false]
    have h1:((List.range ops.size).filter fun j=>!(listed.setIfInBounds i true).getD j true)=((List.range ops.size).filter fun j=>!listed.getD j true).filter fun j=>j != i:=by
     rw [List.filter_filter];refine List.filter_congr fun j _=>?_;rw [hlist'];by_cases e:j=i<;>simp [e]
    rw [h1];have h2:=List.length_filter_lt_length_iff_exists (p:=fun j=>j != i) (l:=(List.range ops.size).filter fun j=>!listed.getD j true) |>.2 ⟨i,List.mem_filter.2 ⟨hi1.1,by simpa using hnl⟩,by simp⟩;omega
   have next:∀ (r:AV) (a':Act) (w':World),r=x.r.v→St G N (kC E1 x.o.dst x.r.v) (x.r.W++H1) a' w'→wpAnyIn (RF ro) 0 P .any ops (fun e a w=>∃ E H,Q e E H∧St G N E H a w) fuel (listed.setIfInBounds i true) a' w':=by
    intro r a' w' _ hst';refine ih _ a' w' _ _ (by simp [hsz]) hcnt' hdown' (fun j hj=>by rw [hlist,aAg (by omega)];exact hnoB j hj) hst' (fun t=>?_) (fun k=>?_)
    ·-- slots
     by_cases hd:x.o.dst=some t
     ·have e1:bH.get (kC E1 x.o.dst x.r.v) t=some x.r.v:=by rw [hd];simp [kC,bH.get_cons_same]
      rw [e1];have e2:=jX (E:=E) (l:=l) (S:=fun j=>(listed.setIfInBounds i true).getD j false) (t:=t) T (i+1) (by omega) (fun j y hj hyd=>⟨fun hlt=>?_,fun h1 h2=>?_⟩)
      ·rw [e2,sC,hx];simp [hd]
      ·simp only [hlist];by_cases ej:j=i
       ·simp [ej]
       simp only [ej,if_false];exact hbefore j y (by omega) hj (kL hyd hd)
      simp only [hlist];rw [aAg (by omega)];exact hbehind j y (by omega) hj (kL hd hyd)
     have e1:bH.get (kC E1 x.o.dst x.r.v) t=E1.get t:=by
      cases hdd:x.o.dst with
      | none=>rfl
      | some d=>exact bH.get_cons_other _ _ (fun e=>hd (by rw [hdd,e]))
     rw [e1,hE1 t];have:∀ n,sC E l (fun i=>listed.getD i false) n t=sC E l (fun j=>(listed.setIfInBounds i true).getD j false) n t:=by
      intro n
      induction n with
      | zero=>rfl
      | succ n ihn =>
       rw [sC,sC];cases hn:l[n]? with
       | none=>exact ihn
       | some y =>
        simp only;by_cases en:n=i
        ·subst en;rw [hx] at hn;cases hn;rw [aAg (fun h=>hd h.2),aAg (fun h=>hd h.2)];exact ihn
        have hS:(listed.setIfInBounds i true).getD n false=listed.getD n false:=by rw [hlist,aAg en]
        rw [hS,ihn]
     exact this _
    rw [uV];by_cases hd:(x.r.W.get k).isSome=true
    ·obtain ⟨ob,hob⟩:=Option.isSome_iff_exists.1 hd;rw [hob];have e2:=jW (H:=H) (l:=l) (S:=fun j=>(listed.setIfInBounds i true).getD j false) (id:=k) T (i+1) (by omega) (fun j y hj hyd=>⟨fun hlt=>?_,fun h1 h2=>?_⟩)
     ·rw [e2,sB,hx];simp [hob]
     ·simp only [hlist];by_cases ej:j=i
      ·simp [ej]
      simp only [ej,if_false];exact hbefore j y (by omega) hj (rH hyd hd)
     simp only [hlist];rw [aAg (by omega)];exact hbehind j y (by omega) hj (rH hd hyd)
    have hnone:x.r.W.get k=none:=by simpa using hd
    rw [hnone];simp only;rw [hH1 k];have:∀ n,sB H l (fun i=>listed.getD i false) n k=sB H l (fun j=>(listed.setIfInBounds i true).getD j false) n k:=by
     intro n
     induction n with
     | zero=>rfl
     | succ n ihn =>
      rw [sB,sB];cases hn:l[n]? with
      | none=>exact ihn
      | some y =>
       simp only;by_cases en:n=i
       ·subst en;rw [hx] at hn;cases hn;rw [aAg (fun h=>hd h.2),aAg (fun h=>hd h.2)];exact ihn
       have hS:(listed.setIfInBounds i true).getD n false=listed.getD n false:=by rw [hlist,aAg en]
       rw [hS,ihn]
    exact this _
   unfold wpOpIn;simp only [ho];rw [hxo] at hdst hlooks hdok;rw [hxo] at next;have hgE:∀ (j:Nat) (want:Bool) (t:Tmp) (b:Bool),(ops[i]).guard=some (j,want)→gU ops.toList j=some t→Ek.get t=some (.pv (.bool b))→yielded ops a.tmps j=some b:=by
    intro j want t b hg hj hb;have hmem:t∈eS ops.toList ops[i]:=by simp [eS,hg,hj]
    exact lK (E:=E1) hj ((hlooks t hmem).trans hb) hst1.rel.choose_spec.choose_spec.2.2
   have hnd:ro=none∨(ops[i]).noDefer=true:=hnd0.imp (fun h=>h) fun h=>List.all_eq_true.1 h _ (by simp);cases hdst with
   | plain hg h =>
    have hw:Region.wanted ops[i] (yielded ops a.tmps)=true:=by simp [Region.wanted,hg]
    simp only [hw,if_true];refine hst1.op hdok ((h H1 hreads).restr hlooks) ?_ hnd;rintro r H2 a' w' ⟨rfl,rfl⟩ hs';exact next _ a' w' rfl hs'
   | on j want t b hg hj hb hw h =>
    have hy:=hgE j want t b hg hj hb;have hw:Region.wanted ops[i] (yielded ops a.tmps)=true:=by simp [Region.wanted,hg,hy,hw]
    simp only [hw,if_true];refine hst1.op hdok ((h H1 hreads).restr hlooks) ?_ hnd;rintro r H2 a' w' ⟨rfl,rfl⟩ hs';exact next _ a' w' rfl hs'
   | off j want t x' hg hj hb hw hv hW =>
    have hmem:t∈eS ops.toList ops[i]:=by simp [eS,hg,hj]
    have hw:Region.wanted ops[i] (yielded ops a.tmps)=false :=
     wG (E:=E1) hg hj ((hlooks t hmem).trans hb) hw hst1.rel.choose_spec.choose_spec.2.2
    simp only [hw,Bool.false_eq_true,if_false];refine⟨fun _ _=>trivial,?_⟩;refine next (.tup []) _ w hv.symm ?_;obtain ⟨I,ι,hr,hst2,he⟩:=hst1.rel;rw [hv,hW];refine⟨?_,?_,I,ι,hr,hst2,fT.put hr (Step.refl _ _ _ _) he fT.skip (by rw [hst1.size];exact hdok)⟩
    ·rw [gG];exact hst1.defers
    have:=hst1.size;cases (ops[i]).dst<;>simpa [Act.put] using this
 have hs':St G N E H a {w with drawn:=w.drawn+1}:=by
  obtain ⟨I,ι,hr,hst2,he⟩:=hs.rel;obtain ⟨k2,k3⟩:=hr.drawn (w':={w with drawn:=w.drawn+1}) rfl rfl rfl rfl;exact⟨hs.defers,hs.size,I,ι,k2,hst2.trans k3,fun t v ht=>let ⟨c,h1,h2⟩:=he t v ht;⟨c,h1,h2.mono hr k3⟩⟩
 refine main ops.size (Array.replicate ops.size false) a _ E H (by simp) (by
  have:=List.length_filter_le (fun i=>!(Array.replicate ops.size false).getD i true) (List.range ops.size)
  simpa using this) (fun j o hj hjl=>by simp [Array.getD] at hjl) (fun j _=>by simp [Array.getD]) hs' (fun t=>?_) (fun k=>?_)
 ·have:∀ n,sC E l (fun i=>(Array.replicate ops.size false).getD i false) n t=E.get t:=by
   intro n
   induction n with
   | zero=>rfl
   | succ n ihn =>
    rw [sC];cases l[n]? with
    | none=>exact ihn
    | some y =>
     have hf:(Array.replicate ops.size false).getD n false=false:=by simp [Array.getD]
     simp only [hf,Bool.false_eq_true,false_and,if_false];exact ihn
  exact(this _).symm
 have:∀ n,sB H l (fun i=>(Array.replicate ops.size false).getD i false) n k=H.get k:=by
  intro n
  induction n with
  | zero=>rfl
  | succ n ihn =>
   rw [sB];cases l[n]? with
   | none=>exact ihn
   | some y =>
    have hf:(Array.replicate ops.size false).getD n false=false:=by simp [Array.getD]
    simp only [hf,Bool.false_eq_true,false_and,if_false];exact ihn
 exact(this _).symm
theorem KC {P:Program} {G0:aA} {N id:Nat} {Q:Exit→bH→aA→Prop} {ops:Array Oper} {E:bH} {H:aA} (T:Nat) (hm:P.follows .mixedOrders=true) (hT:T≤ops.size)
  (h:DC P N ops.toList (ops.toList.take T) E H (fun rs E' H'=>D5 T ops.toList rs=true∧AL P G0 N ops (fun E H=>Q .normal E H) (ops.toList.drop T) E' H')):gA P G0 N (.region id ops true) Q E H:=by
 obtain ⟨rs,E',H',h1,h2,h3⟩:=h;exact O2 T hm hT h1 h2 h3
end Go.Abs
namespace Go.Proofs.YtmkgeogoojcciaaGreatDoor
open Go.Proofs.Tryz
open Go.Abs Go.Lib
def YM (x:GOp):Prop:=x.put.length < 1000000000∧x.drop.length < 1000000000∧∀ p∈x.put,p.1.size < 1099511627776∧p.2.size < 1099511627776
theorem N5 {l:List GOp} (h:xE l=true):l.length≤12∧∀ x∈l,x.put.length≤6∧x.drop.length≤6∧(∀ p∈x.put,p.1.size+p.2.size≤600)∧∀ s∈x.drop,s.size≤600:=by rw [xE,aAr,aAp] at h;refine⟨h.2,fun x hx=>?_⟩;have h1:=List.all_eq_true.1 h.1 x hx;rw [EV] at h1;simp only [aAr,aAp] at h1;exact⟨h1.1.1,h1.1.2,fun p hp=>aAe (List.all_eq_true.1 h1.2.1 p hp),fun s hs=>aAe (List.all_eq_true.1 h1.2.2 s hs)⟩
end Go.Proofs.YtmkgeogoojcciaaGreatDoor
