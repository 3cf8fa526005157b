/-
  Parts of the proof: rules of an abstract program logic, contracts of functions, plain laws. Conditions: each theorem's own.
-/
import Derived.Test.YtmkgeogoojcciaaGreatDoorKS3M7
set_option linter.unusedVariables false
set_option linter.unusedSimpArgs false
set_option maxRecDepth 100000
set_option maxHeartbeats 8000000
namespace Go.Proofs
theorem WT:type_of% Tryz.call24:=Tryz.call24
theorem WR:type_of% Tryz.call51:=Tryz.call51
theorem WQ:type_of% Tryz.call52:=Tryz.call52
theorem PS:type_of% Tryz.func14:=Tryz.func14
theorem wR:type_of% Tryz.isAgg35:=Tryz.isAgg35
theorem LE:type_of% Tryz.ntmps14:=Tryz.ntmps14
theorem fL:type_of% Tryz.underlying25:=Tryz.underlying25
theorem lE:type_of% Tryz.underlying66:=Tryz.underlying66
end Go.Proofs
namespace Go.Proofs.YtmkgeogoojcciaaGreatDoor
open Go.Proofs.Tryz
open Go.Abs Go.Lib
def SX (i:Nat):Nat:=if i=950 then 1101 else if i=1101 then 950 else i
theorem P8 (i:Nat):SX (SX i)=i:=by
 unfold SX
 repeat' split
 all_goals omega
theorem zY (ρ:Nat→Nat) (l:bN) (c:Nat):iA ρ (bH l c)=bH l c:=by
 show (⟨0,0,c,(eY eT (bM l)).map (gP ρ)⟩:Ob)=⟨0,0,c,eY eT (bM l)⟩;have:∀ r∈eY eT (bM l),gP ρ r=r:=by
  intro r hr;obtain ⟨p,hp,rfl⟩:=List.mem_map.1 hr;obtain ⟨q,_,rfl⟩:=List.mem_map.1 hp;rfl
 rw [List.map_congr_left this,List.map_id']
theorem MN (l:bN) (c:Nat):iN SX [(950,bH l c)]=[(1101,bH l c)]:=by show [(SX 950,iA SX (bH l c))]=_;rw [zY];rfl
theorem P6 (l:bN) (c:Nat) (P:List ByteArray) (hst:dL l c) (hl:l.length < 1099511627776) (hP:P.length < 1099511627776) (hsz:(a8 l P).length < 35184372088832) (H:aA) (h:H.get 1101=some (bH l c)) :
  aI Tryz.prog 50 [.mp 1101 0,.pv (aW P)] H (fun r H'=>r=sv (ofL (a8 l P))∧H'=H):=by
 have h1:=aI.ren (ρ:=SX) P8 (GN l c P hst hl hP hsz) (args':=[.mp 1101 0,.pv (aW P)]) (H':=[(1101,bH l c)]) (r':=sv (ofL (a8 l P))) (H1':=[(1101,bH l c)]) rfl (MN l c) rfl (MN l c);refine aI.frameS h1 (fun j o ho=>?_) (bB.ofL ⟨aS _ _ _,trivial⟩) (by simp;rfl);simp only [aA.get] at ho;cases e:Nat.beq 1101 j with
 | true =>
  rw [e] at ho;cases ho;rw [← Nat.eq_of_beq_eq_true e];exact h
 | false=>rw [e] at ho;cases ho
theorem MJ {d:DSt} {N m:Nat} (h:DInv d N m) (k a n:Nat) (l:bN) (c:Nat) (hk:k < 4000) (hkN:2*k+2≤N) (ha:a < 2) (hn:n≤k) (hm:m≤10) (hst:dL l c) (hl:l.length < 1099511627776) (hsz:(a8 l []).length < 100000000000) :
  aI Tryz.prog 21 [.ref 1100 0 0 0] (sH d (bZ k a n false) (bH l c)) (fun r H'=>(k < cM (bW l)∧r=iv 21∧H'=sH d (bZ k a n false) (bH l c))∨(cM (bW l)≤k∧r=iv (GT d k a (bW l)).1∧∃ a' n',a' < 2∧n'≤k∧((GT d k a (bW l)).1=0→a'=0∧n'=cM (bW l))∧H'=sH (GT d k a (bW l)).2 (bZ k a' n' (!decide ((GT d k a (bW l)).1=0))) (bH l c))):=by
 have htx:=fun H hH=>P6 l c [] hst hl (by decide) (by omega) H hH;have hml:(bM l).length=l.length:=XB _;have hW:bW l=if l.length=0 then[] else a8 l []:=rfl
 have hwl:(bW l).length < 100000000000:=by
  rw [hW]
  split
  ·decide
  exact hsz
 refine Bd func21 rfl ntmps21<|Sr<|Dd aQ<|Zz<|Sq<|aN<|Sr<|Dd aE<|Dd (by exact cJ rfl fL rfl rfl rfl rfl)<|Da ?_;refine Cn ?_ ?_<;>intro hc1
 ·cases hc1
 refine Sr<|Dd aE<|Dd eU<|Dd (dK i6)<|Dd (eC cZ)<|Da ?_;refine Cn ?_ ?_<;>intro hc2
 ·cases hc2
 refine aH<|Sr<|Da ?_;refine kQ (fun(_:Unit)=>([(0,.ref 1100 0 0 0),(2,iv 0),(3,sv (ofL (bW l)))],sH d (bZ k a n false) (bH l c))) (fun _=>True) ?_ ?_
 ·refine Sr<|Dd aE<|Dd eU<|Dd (dK qA)<|Dd (eC bO)<|Dd (by exact tU (κ:=eT) (l:=bM l) rfl aU rfl rfl rfl rfl)<|Dd yS<|Zz ?_;refine Cn ?_ ?_<;>intro hc3
  ·have hq:¬ l.length=0:=by have:=W7 hc3;omega
   rw [hW,W9 hq];refine Rg<|Dd aE<|Dd eU<|Dd (dK qA)<|Dd (eC bO)<|Dd (by exact aB rfl rfl sE rfl (htx _ rfl))<|Da ?_;exact⟨(),trivial,(bX.wk (Ea<|Eb<|Eb<|trivial) (Hc (aF _ _ rfl rfl rfl)<|Hc (aC _ _)<|Hc (aL _ _ _)<|Hc (aK _ _)<|Hc (bA rfl rfl)<|Hc (aS _ _ _)<|trivial) ⟨rfl,rfl,rfl,rfl,rfl,rfl,trivial⟩)⟩
  have hq:l.length=0:=by have:=W8 hc3;omega
  rw [hW,XA hq];refine aH ?_;exact⟨(),trivial,(bX.wk (Ea<|Eb<|Eb<|trivial) (Hc (aF _ _ rfl rfl rfl)<|Hc (aC _ _)<|Hc (aL _ _ _)<|Hc (aK _ _)<|Hc (bA rfl rfl)<|Hc (aS _ _ _)<|trivial) ⟨rfl,rfl,rfl,rfl,rfl,rfl,trivial⟩)⟩
 rintro _ -;obtain ⟨w,hw⟩:∃ w,w=bW l:=⟨_,rfl⟩;rw [← hw] at hwl ⊢;clear hW htx;have hcn:=fun H=>wI w (by omega) H;refine Sq<|Sq<|bK follows<|Cq aE<|Cq (by exact aB rfl rfl WR rfl (hcn _))<|Cq aE<|Cq eU<|Cq (dK qB)<|Cq (eC aT)<|Cq yS<|cQ<|Kr ?_;refine Cn ?_ ?_<;>intro hc4
 ·have hq:k < cM w:=by have:=W7 hc4;omega
  refine Sr<|Dd aQ<|Zz<|aM ?_;refine a7 (H':=(sH d (bZ k a n false) (bH l c))) (.inr rfl) rfl (aG rfl) (Fin.wk (by(simp;done)) (Hc (aF _ _ rfl rfl rfl)<|Hc (aC _ _)<|Hc (aL _ _ _)<|Hc (aK _ _)<|Hc (bA rfl rfl)<|Hc (aS _ _ _)<|trivial) ⟨rfl,rfl,rfl,rfl,rfl,rfl,trivial⟩) ?_;exact .inl ⟨hq,rfl,rfl⟩
 have hq:cM w≤k:=by have:=W8 hc4;omega
 refine aH<|aN ?_;refine KY (fun(d1:DSt) (a1 n1 m1:Nat)=>([(0,.ref 1100 0 0 0),(3,sv (ofL w))],sH d1 (bZ k a1 n1 false) (bH l c))) (fun d1 a1 n1 m1=>DInv d1 N m1∧a1 < 2∧n1≤k∧(m1≤10∨(a1=1∧m1≤10010))∧GT d k a w=GT d1 k a1 w) (fun d1 a1 n1 m1=>1 - a1) d a n m ⟨h,ha,hn,.inl hm,rfl⟩ ?_ ?_
 ·exact(bX.wk (Ea<|Eb<|trivial) (Hc (aF _ _ rfl rfl rfl)<|Hc (aC _ _)<|Hc (aL _ _ _)<|Hc (aK _ _)<|Hc (bA rfl rfl)<|Hc (aS _ _ _)<|trivial) ⟨rfl,rfl,rfl,rfl,rfl,rfl,trivial⟩)
 rintro d1 a1 n1 m1 ⟨hi,ha1,hn1,hm1,hsc⟩;rw [hsc];have hwl2:w.length < 100000000:=by rw [cM] at hq;omega
 have hadd:=O8 hi k a1 n1 (1 - a1) 0 false l c w hwl2 (by omega) (by omega) (by omega) (by omega);have hai:=O9 hi k (1 - a1) 0 w (by omega);rw [XT] at hadd;obtain ⟨x,hx⟩:∃ x,x=iO d1 k (1 - a1) 0 w:=⟨_,rfl⟩;rw [← hx] at hadd hai;have hR:BR d1 k a1 w=if x.1=0 then iP x.2 (2+a1*k+0) (zR (k - 0))else x:=by rw [BR,← hx]
 have hS:GT d1 k a1 w=if a1=1 then(if(BR d1 k a1 w).1=0 then iP (BR d1 k a1 w).2 (2+0*k+cM w) (zR (k - cM w))else BR d1 k a1 w)else if(BR d1 k a1 w).1=0 then GT (BR d1 k a1 w).2 k 1 w else BR d1 k a1 w:=by
  rcases(show a1=0∨a1=1 by omega)with e|e<;>subst e<;>rfl
 have hcl:=DO hai k (1 - a1) (cM w) a1 0 false l c (by omega) ha1 (XS _) (by omega);have hyi:=jW hai (2+a1*k+0) (zR (k - 0)) (by rw [List.length_replicate];omega);rw [List.length_replicate] at hyi;obtain ⟨y,hy⟩:∃ y,y=iP x.2 (2+a1*k+0) (zR (k - 0)):=⟨_,rfl⟩;rw [← hy] at hcl hyi hR;have hcl2:=DO hyi k (1 - a1) (cM w) 0 (cM w) false l c (by omega) (by omega) hq (by omega);obtain ⟨z,hz⟩:∃ z,z=iP y.2 (2+0*k+cM w) (zR (k - cM w)):=⟨_,rfl⟩;rw [← hz] at hcl2;clear hx hsc;refine aN<|Sr<|Dd aE<|Dd eU<|Dd (dK kL)<|Dd (dK qD)<|Dd (eC aT)<|Dd aQ<|Zz<|Sr<|Dd aE<|Dd aE<|Dd (by exact dM rfl rfl rfl (show IntKind.i64.wrap (1 - (a1:Int))=((1 - a1:Nat):Int)by rw [g9 (by omega) (by omega)];omega))<|Dd (LK KR)<|Dd aE<|Dd (by exact aB rfl rfl WQ rfl (hadd))<|Dd aQ<|Zz<|Sq<|Sr<|Dd aE<|Dd gA<|Zz ?_;refine Cn ?_ ?_<;>intro hc5
 ·have e0:x.1=0:=W7 hc5;rw [XA e0] at hR ⊢;rw [hR] at hS;refine Rg<|Dd aE<|Dd aE<|Dd (by exact aB rfl rfl call56 rfl (hcl))<|Dd aQ<|Zz<|Sq<|Sr<|Dd aE<|Dd rG<|Zz ?_;refine Cn ?_ ?_<;>intro hc6
  ·have e1:¬ y.1=0:=by have h:=hc6;simpa using h
   have hS2:GT d1 k a1 w=y:=by
    rw [hS,W9 e1,W9 e1,ite_self]
   rw [hS2];refine Sr<|Dd aE<|Dd aQ<|Zz<|aM ?_;refine a7 (H':=(sH y.2 (bZ k (1 - a1) (cM w) (false||!decide (y.1=0))) (bH l c))) (.inr rfl) rfl (aG rfl) (Fin.wk (by(simp;done)) (Hc (aF _ _ rfl rfl rfl)<|Hc (aC _ _)<|Hc (aL _ _ _)<|Hc (aK _ _)<|Hc (bA rfl rfl)<|Hc (aS _ _ _)<|trivial) ⟨rfl,rfl,rfl,rfl,rfl,rfl,trivial⟩) ?_;exact .inr ⟨hq,rfl,1 - a1,cM w,by omega,hq,fun h=>absurd h e1,rfl⟩
  have e1:y.1=0:=by have h:=hc6;simpa using h
  rw [XA e1,XA e1,← hz] at hS;have hb:(false||!decide (y.1=0))=false:=by rw [e1];rfl
  rw [hb];refine aH<|Sr<|Dd aE<|Dd gA<|Zz ?_;refine Cn ?_ ?_<;>intro hc7
  ·have e2:a1=1:=by have:=W7 hc7;omega
   rw [XA e2] at hS;rw [hS];refine Sr<|Dd aE<|Dd aE<|Dd eU<|Dd (dK kL)<|Dd (dK k9)<|Dd (eC aT)<|Dd (by exact aB rfl rfl call56 rfl (hcl2))<|Dd aQ<|Zz<|aM ?_;refine a7 (H':=(sH z.2 (bZ k (1 - a1) (cM w) (false||!decide (z.1=0))) (bH l c))) (.inr rfl) rfl (aG rfl) (Fin.wk (by(simp;done)) (Hc (aF _ _ rfl rfl rfl)<|Hc (aC _ _)<|Hc (aL _ _ _)<|Hc (aK _ _)<|Hc (bA rfl rfl)<|Hc (aS _ _ _)<|trivial) ⟨rfl,rfl,rfl,rfl,rfl,rfl,trivial⟩) ?_;exact .inr ⟨hq,rfl,1 - a1,cM w,by omega,hq,fun _=>⟨by omega,rfl⟩,rfl⟩
  have e2:¬ a1=1:=by have:=W8 hc7;omega
  rw [W9 e2] at hS;have e3:a1=0:=by omega
  subst e3;refine aH ?_;exact⟨y.2,1,cM w,_,⟨hyi,by omega,hq,.inr ⟨rfl,by omega⟩,hS⟩,by omega,(bX.wk (Ea<|Eb<|trivial) (Hc (aF _ _ rfl rfl rfl)<|Hc (aC _ _)<|Hc (aL _ _ _)<|Hc (aK _ _)<|Hc (bA rfl rfl)<|Hc (aS _ _ _)<|trivial) ⟨rfl,rfl,rfl,rfl,rfl,rfl,trivial⟩)⟩
 have e0:¬ x.1=0:=W8 hc5;rw [W9 e0] at hR ⊢;rw [hR] at hS;have hS2:GT d1 k a1 w=x:=by
  rw [hS,W9 e0,W9 e0,ite_self]
 rw [hS2];have hd0:decide (x.1=0)=false:=decide_eq_false e0;refine aH<|Sq<|Sr<|Dd aE<|Dd rG<|Zz ?_;refine Cn ?_ ?_<;>intro hc8
 ·refine Sr<|Dd aE<|Dd aQ<|Zz<|aM ?_;refine a7 (H':=(sH x.2 (bZ k a1 n1 (!decide (x.1=0))) (bH l c))) (.inr rfl) rfl (aG rfl) (by rw [hd0];exact(Fin.wk (by(simp;done)) (Hc (aF _ _ rfl rfl rfl)<|Hc (aC _ _)<|Hc (aL _ _ _)<|Hc (aK _ _)<|Hc (bA rfl rfl)<|Hc (aS _ _ _)<|trivial) ⟨rfl,rfl,rfl,rfl,rfl,rfl,trivial⟩)) ?_;exact .inr ⟨hq,rfl,a1,n1,ha1,hn1,fun h=>absurd h e0,rfl⟩
 (have h:=hc8;simp [e0] at h)
end Go.Proofs.YtmkgeogoojcciaaGreatDoor
namespace Go.Proofs.YtmkgeogoojcciaaGreatDoor
open Go.Proofs.Tryz
open Go.Abs
theorem GQ {F:FuncId} {caps:List AV} {L:List ByteArray} (hL:L.length < 1099511627776) (hE:∀ (args:Array Value) (w:World),(callFunc F args).run Tryz.prog w=.ok (.enter F args) w) (K:aA) (hS:wT F caps (fun M=>M.Perm L) K) (k2:K.get 942=none) (k4:K.get 944=none) (k5:K.get 945=none) (k6:K.get 946=none) (hc:bB K) (hcap:Clo K (.clo F caps)) :
  aI Tryz.prog 48 [.clo F caps] K (fun r H'=>r=.osl 945 L.length 0 L.length∧H'=(945,⟨L.length,1,9,dB (cH L)⟩)::K):=by
 refine Bd func48 rfl ntmps48<|Sr<|Dd aQ<|Zz<|Sr<|Dm ?_;refine fR rfl rfl (aB rfl rfl call95 rfl (DN hE K hS k2 k4 k5 k6 hc hcap)) ?_;rintro r H' ⟨M,hperm,rfl,rfl⟩;have hMl:M.length < 4611686018427387904:=by rw [hperm.length_eq];omega
 have hSo:=u3 hperm;have hln:M.length=L.length:=hperm.length_eq;refine Dd aQ<|Zz<|Sr<|Dd aE<|Dd (by exact aB rfl rfl call96 rfl (x6 M rfl rfl hMl))<|Zz<|Sr<|Dd aE<|Dd aQ<|Zz<|aM ?_;refine a7 (H':=((945,⟨M.length,1,9,dB (cH M)⟩)::K)) (.inr rfl) rfl (aG rfl) (Fin.get' (fun j=>gL _ _ _ _ j)) ?_;exact⟨by rw [hln],by rw [hSo,hln]⟩
end Go.Proofs.YtmkgeogoojcciaaGreatDoor
namespace Go.Proofs.YtmkgeogoojcciaaGreatDoor
open Go.Proofs.Tryz
open Go.Abs Go.Lib
structure OnD (d:DSt) (n:Nat):Prop where
 inv:DInv d n 0
 off:d.off=false
structure wX (d:DSt) (n:Nat):Prop where
 inv:DInv d n 0
 off:d.off=true
 na:∀ a w b,d.arm≠.on a w b
theorem OnD.q {d:DSt} {n:Nat} (h:OnD d n):d.q=[]:=List.length_eq_zero_iff.1 (Nat.le_zero.1 h.inv.q)
theorem Calm.on {d:DSt} {n:Nat} (h:Calm d n):OnD d n:=⟨h.inv,h.off⟩
def R6 (cells:List ByteArray) (p:Nat) (L c':List ByteArray):Prop:=∃ m,m≤L.length∧(c'=jX cells p (L.take m)∨∃ t j,L[m]?=some t∧1≤j∧j≤64∧c'=(jX cells p (L.take m)).set (p+m) (nB (t.extract 0 j) ((cells[p+m]?).getD ⟨#[]⟩)))
theorem G4:∀ (L:List ByteArray) (p:Nat),(qN p L).length=L.length
 | [],_=>rfl
 | t::r,p=>by rw [qN,XD,G4 r,XD]
theorem CF:∀ (L:List ByteArray) (p m:Nat),(qN p L).take m=qN p (L.take m)
 | [],p,m=>by rw [qN,List.take_nil,List.take_nil];rfl
 | t::r,p,0=>rfl
 | t::r,p,m+1=>by rw [qN,List.take_succ_cons,CF r,List.take_succ_cons,qN]
theorem G5:∀ (L:List ByteArray) (p m:Nat),(qN p L)[m]?=(L[m]?).map fun t=>(p+m,t)
 | [],p,m=>rfl
 | t::r,p,0=>rfl
 | t::r,p,m+1=>by
  rw [qN,List.getElem?_cons_succ,List.getElem?_cons_succ,G5 r];congr 1;funext x;rw [Nat.add_assoc,Nat.add_comm 1 m]
theorem y6 {cells:List ByteArray} {s:DSt} {place:Nat} {L:List ByteArray} {i:Nat} (hi:i≤L.length) (hq:s.q=qN place (L.take i)) (hc:s.cells=cells) (w b:Int):R6 cells place L (lX s w b):=by
 have hqm:∀ m,m≤i→s.q.take m=qN place (L.take m):=fun m hm=>by rw [hq,CF,List.take_take,Nat.min_eq_left hm]
 have hql:s.q.length=i:=by rw [hq,G4,XP];omega
 obtain ⟨m,hM⟩:∃ m,m=wD s w:=⟨_,rfl⟩;have hmi:m≤i:=by rw [hM,wD];omega
 rw [lX,← hM,hqm m hmi,uI,hc];refine⟨m,by omega,?_⟩;cases e:s.q[m]? with
 | none=>exact .inl rfl
 | some p =>
  rw [hq,G5] at e;rw [BY];by_cases hb:0 < b
  ·rw [XA hb];by_cases hmi2:m < i
   ·rw [List.getElem?_take_of_lt hmi2] at e;cases e2:L[m]? with
    | none=>rw [e2] at e;cases e
    | some t =>
     rw [e2] at e;cases e;refine .inr ⟨t,(min b 64).toNat,rfl,by omega,by omega,?_⟩;show (jX cells place (List.take m L)).set (place+m) (nB (t.extract 0 (min b 64).toNat) (((jX cells place (List.take m L))[place+m]?).getD ⟨#[]⟩))=_;rw [iB,XP,W9 (by omega)]
   rw [List.getElem?_eq_none (by rw [XP];omega)] at e;cases e
  rw [W9 hb];exact .inl rfl
theorem y7 {s:DSt} {n m:Nat} (h:DInv s n m) (ho:s.off=false) (w b:Int):wX (jV s w b) n:=by have hi:=rL h w b;rw [jV,W9 (by rw [ho];decide)] at hi ⊢;exact⟨⟨hi.ok,hi.arm,hi.n,XS _⟩,rfl,fun a w b e=>(y8 e).elim⟩
theorem DK {s:DSt} {n m:Nat} (h:DInv s n m) (ho:s.off=false):(dY s=0∧(dF s).off=false∧(dF s).q=s.q∧(dF s).cells=s.cells)∨(dY s=22∧∃ w b,dF s=jV s w b):=by
 unfold dY dF;cases e:s.arm with
 | never=>exact .inl ⟨rfl,ho,rfl,rfl⟩
 | off a w b=>exact .inl ⟨rfl,ho,rfl,rfl⟩
 | on a w b =>
  by_cases ha:0 < a
  ·refine .inl ?_;simp only [XA ha];exact⟨trivial,ho,trivial,trivial⟩
  refine .inr ?_;simp only [W9 ha];exact⟨trivial,w,b,rfl⟩
theorem LV {d:DSt} {n:Nat} (h:OnD d n) {place:Nat} {L:List ByteArray} (hp:place+L.length≤n) (hs:∀ t∈L,t.size=64) (hm:L.length≤1048575):∀ i,i≤L.length →
  ((l9 d place L i).1=0∧(l9 d place L i).2.off=false∧(l9 d place L i).2.q=qN place (L.take i)∧(l9 d place L i).2.cells=d.cells)∨((l9 d place L i).1=22∧wX (l9 d place L i).2 n∧R6 d.cells place L (l9 d place L i).2.cells)
 | 0,_=>.inl ⟨rfl,h.off,by rw [List.take_zero,qN];exact h.q,rfl⟩
 | i+1,hi=>by
  have hinv:=oM h.inv place L i (by omega);rcases LV h hp hs hm i (by omega)with⟨h1,h2,h3,h4⟩|⟨h1,h2,h3⟩
  ·obtain ⟨t,ht⟩:=aY (l:=L) (k:=i) (by omega);have hz:=hs t (XL ht);have hD:L.getD i sNil=t:=by rw [List.getD_eq_getElem?_getD,ht];rfl
   have hq:qN place (L.take (i+1))=qN place (L.take i)++[(place+i,t)]:=by
    rw [cY ht,zZ,XP,Nat.min_eq_left (by omega)];rfl
   obtain ⟨s,hS⟩:∃ s,s=(l9 d place L i).2:=⟨_,rfl⟩;rw [← hS] at h2 h3 h4 hinv;have sc:eR s ((place+i:Nat):Int)=true:=by
    rw [iX];exact decide_eq_true (by have:=hinv.n;omega)
   have wi:=yQ hinv (by omega) ((place+i:Nat):Int) t;have w1:gM s ((place+i:Nat):Int) t=dY (iS s (place+i) t):=by rw [gM,h2,W9 (by decide),sc,decide_eq_true hz,XA (show (true&&true)=true from rfl),XM]
   have w2:iG s ((place+i:Nat):Int) t=dF (iS s (place+i) t):=by rw [iG,h2,W9 (by decide),sc,decide_eq_true hz,XA (show (true&&true)=true from rfl),XM]
   rw [l9,XA h1,hD,hq,← hS,w1,w2];have hqS:(iS s (place+i) t).q=qN place (L.take (i+1)):=by
    rw [hq,← h3];rfl
   have hok:DInv (iS s (place+i) t) n (0+i+1):=⟨sJ hinv.ok (by have:=hinv.n;omega) hz (by have:=hinv.q;omega),hinv.arm,hinv.n,by show (s.q++[(place+i,t)]).length≤_;rw [XC,List.length_singleton];have:=hinv.q;omega⟩;rcases DK hok h2 with⟨c1,c2,c3,c4⟩|⟨c1,w,b,c2⟩
   ·exact .inl ⟨c1,c2,by rw [c3,hqS,hq],by rw [c4];exact h4⟩
   refine .inr ⟨c1,?_,?_⟩
   ·rw [c2];exact y7 hok h2 w b
   rw [c2,jV,W9 (by show ¬ s.off=true;rw [h2];decide)];exact y6 hi hqS h4 w b
  rw [l9,W9 (by rw [h1];decide)];exact .inr ⟨h1,h2,h3⟩
theorem LW {d:DSt} {n:Nat} (h:OnD d n) {place:Nat} {L:List ByteArray} (hp:place+L.length≤n) (hs:∀ t∈L,t.size=64) (hm:L.length≤1048575) :
  ((iP d place L).1=0∧OnD (iP d place L).2 n∧(iP d place L).2.cells=jX d.cells place L)∨((iP d place L).1=22∧wX (iP d place L).2 n∧R6 d.cells place L (iP d place L).2.cells):=by
 have hi:=jW h.inv place L (by omega);have hk:=oM h.inv place L L.length (by omega);rcases LV h hp hs hm L.length (XH _)with⟨h1,h2,h3,h4⟩|⟨h1,h2,h3⟩
 ·rw [List.take_length] at h3;rw [iP,XA h1] at hi ⊢;obtain ⟨s,hS⟩:∃ s,s=(l9 d place L L.length).2:=⟨_,rfl⟩;rw [← hS] at h2 h3 h4 hk hi ⊢;have e1:lA s=dY s:=by rw [lA,h2,W9 (by decide)]
  rcases DK hk h2 with⟨c1,c2,c3,c4⟩|⟨c1,w,b,c2⟩
  ·have e2:iH s=sX (dF s):=by rw [iH,h2,W9 (by decide),XA c1]
   rw [e2] at hi;refine .inl ⟨by rw [e1];exact c1,?_,?_⟩
   ·show OnD (iH s) n;rw [e2];exact⟨⟨hi.ok,hi.arm,hi.n,XS _⟩,c2⟩
   show (iH s).cells=_;rw [e2];show cF (dF s).cells (dF s).q=_;rw [c3,c4,h3,h4,uI]
  have e2:iH s=jV s w b:=by rw [iH,h2,W9 (by decide),W9 (by rw [c1];decide),c2]
  refine .inr ⟨by rw [e1];exact c1,?_,?_⟩
  ·show wX (iH s) n;rw [e2];exact y7 hk h2 w b
  show R6 _ _ _ (iH s).cells;rw [e2,jV,W9 (by rw [h2];decide)];exact y6 (XH _) (by rw [List.take_length];exact h3) h4 w b
 rw [iP,W9 (by rw [h1];decide)];exact .inr ⟨h1,h2,h3⟩
abbrev T8 (P:List ByteArray):Ob:=bx 1 31 [.pv (aW P)]
theorem xX (P:List ByteArray) (H:aA) (h1:H.get 951=none) :
  aI Tryz.prog 49 [.pv (aW P)] H (fun r H'=>r=.clo 97 [.ref 951 0 0 0]∧H'=(951,T8 P)::H):=by
 refine Bd func49 rfl ntmps49<|Sr<|Dd (by exact fY (id:=951) rfl rfl rfl rfl h1)<|Dd aQ<|Zz<|Sr<|Dd (by exact eK rfl rfl)<|Dd aQ<|Zz<|aM ?_;refine a7 (H':=((951,T8 P)::H)) (.inr rfl) rfl (aG rfl) Fin.refl ?_;exact Qq
def LG (i:Nat):Nat:=if i=901 then 945 else if i=945 then 901 else i
theorem P9 (i:Nat):LG (LG i)=i:=by
 unfold LG
 repeat' split
 all_goals omega
theorem MM (ρ:Nat→Nat) (l:List ByteArray):(g6 l).map (gP ρ)=g6 l:=by
 have:∀ r∈g6 l,gP ρ r=r:=by
  intro r hr;obtain ⟨s,_,rfl⟩:=List.mem_map.1 hr;rfl
 rw [List.map_congr_left this,List.map_id']
abbrev cO (g:Nat) (l:List ByteArray):Ob:=⟨g,1,9,g6 l⟩
theorem EV (ρ:Nat→Nat) (g:Nat) (l:List ByteArray):iA ρ (cO g l)=cO g l:=by show (⟨g,1,9,(g6 l).map (gP ρ)⟩:Ob)=_;rw [MM]
theorem KM (id g:Nat) (l:List ByteArray):bB [(id,cO g l)]:=bB.of (fun p hp=>by
 rw [XE] at hp;subst hp;exact L5 _ _)
theorem wJ (L:List ByteArray) (g:Nat) (H:aA) (h1:H.get 945=some (cO g L)) (hl:L.length < 1099511627776) :
  aI Tryz.prog 47 [.osl 945 g 0 L.length] H (fun r H'=>r=.osl 945 g 0 (bV L).length∧H'=[(945,cO g (bV L++List.replicate (L.length - (bV L).length) sNil)),(945,cO g L)]++H):=by
 have h0:=zF L g [(901,cO g L)] rfl hl;have e1:iN LG [(901,cO g L)]=[(945,cO g L)]:=by
  show [(LG 901,iA LG (cO g L))]=_;rw [EV];rfl
 have e2:iN LG [(901,cO g (bV L++List.replicate (L.length - (bV L).length) sNil)),(901,cO g L)]=[(945,cO g (bV L++List.replicate (L.length - (bV L).length) sNil)),(945,cO g L)]:=by
  show [(LG 901,iA LG (cO g (bV L++List.replicate (L.length - (bV L).length) sNil))),(LG 901,iA LG (cO g L))]=_;rw [EV,EV];rfl
 have h2:=aI.ren (ρ:=LG) P9 h0 (args':=[.osl 945 g 0 L.length]) (r':=.osl 945 g 0 (bV L).length) rfl e1 rfl e2;refine h2.frame (zO h1) (KM _ _ _) (by simp;rfl) (fun id h=>.inl ?_);simp only [aA.get] at h ⊢;cases e:Nat.beq 945 id with
 | true=>rfl
 | false=>rw [e] at h;cases h
def fH (P:List ByteArray):List ByteArray:=bV (cH P)
def uT (k n:Nat) (b:Bool) (l2:bN) (P:List ByteArray):Int:=if b then 12 else if ¬ bG l2 P=0 then bG l2 P else if l2.length+(fH P).length=0 then 0 else if k < n+cM (a8 l2 (fH P))then 21 else -1
theorem eZ (l2:bN) (P:List ByteArray):bG l2 P=0∨bG l2 P=1∨bG l2 P=2:=by
 rw [bG]
 split
 ·exact .inr (.inl rfl)
 split
 ·exact .inr (.inr rfl)
 exact .inl rfl
theorem rX (P:List ByteArray):(fH P).length≤P.length:=by have h1:=yV (cH P);rw [eF] at h1;exact h1
theorem oY {P:List ByteArray} {x:ByteArray}:x∈fH P↔x∈P:=oG.trans (pR P).mem_iff
theorem wM (P:List ByteArray):xP (fH P):=rW (x7 P)
theorem OF (P R:List ByteArray):(((bV (cH P)++R).map encStr).take (0+(bV (cH P)).length)).drop 0=(fH P).map encStr:=by rw [List.drop_zero,XT,List.map_append];exact List.take_left' (XB _)
theorem KF {d:DSt} {N m:Nat} (h:DInv d N m) (k a n:Nat) (b:Bool) (l:bN) (c:Nat) (l2:bN) (c2:Nat) (P:List ByteArray) (hk:k < 4000) (ha:a < 2) (hn:n≤k) (hm:m≤10) (hst:dL l c) (hnd:eV l) (hst2:dL l2 c2) (hnd2:eV l2) (hl2:l2.length < 1000000) (hP:P.length < 1000000) (hsz:bG l2 P=0→(a8 l2 (fH P)).length < 100000000) :
  aI Tryz.prog 14 [.ref 1100 0 0 0,.mp 950 0,.pv (aW P)] ((950,bH l2 c2)::sH d (bZ k a n b) (bH l c)) (fun r H'=>(¬ uT k n b l2 P = -1∧r=iv (uT k n b l2 P)∧H'=(950,bH l2 c2)::sH d (bZ k a n b) (bH l c)) ∨
   (uT k n b l2 P = -1∧¬ (iO d k a n (a8 l2 (fH P))).1=0∧r=iv (iO d k a n (a8 l2 (fH P))).1∧H'=(950,bH l2 c2)::sH (iO d k a n (a8 l2 (fH P))).2 (bZ k a n true) (bH l c)) ∨
   (uT k n b l2 P = -1∧(iO d k a n (a8 l2 (fH P))).1=0∧r=iv 0∧∃ l' c',dL l' c'∧eV l'∧l'.length≤l.length+l2.length∧(∀ x,cI l' x=oF (cI l) l2 (fH P) x)∧H'=(950,bH l2 c2)::sH (iO d k a n (a8 l2 (fH P))).2 (bZ k a (n+cM (a8 l2 (fH P))) false) (bH l' c'))):=by
 have hR:uT k n b l2 P=if b then 12 else if ¬ bG l2 P=0 then bG l2 P else if l2.length+(fH P).length=0 then 0 else if k < n+cM (a8 l2 (fH P))then 21 else -1:=rfl
 have hwr:=fun H hH=>GM l2 c2 P hst2 (by omega) (by omega) H hH;have hrange:=eZ l2 P;have hDl:=rX P;cases b with
 | true =>
  rw [XA rfl] at hR;rw [hR];refine Bd PS rfl LE<|Sr<|Dd aQ<|Zz<|Sq<|aN<|Sr<|Dd aE<|Dd (by exact cJ rfl fL rfl rfl rfl rfl)<|Da ?_;refine Cn ?_ ?_<;>intro hc1
  ·cases hc1
  refine Sr<|Dd aE<|Dd eU<|Dd (dK i6)<|Dd (eC cZ)<|Da ?_;refine Cn ?_ ?_<;>intro hc2
  ·refine Sr<|Dd aQ<|Zz<|aM ?_;refine a7 (H':=((950,bH l2 c2)::sH d (bZ k a n true) (bH l c))) (.inr rfl) rfl (aG rfl) (Fin.wk (by(simp;done)) (Hc (aS _ _ _)<|Hc (aF _ _ rfl rfl rfl)<|Hc (aC _ _)<|Hc (aL _ _ _)<|Hc (aK _ _)<|Hc (by(simp;exact⟨rfl,rfl⟩))<|Hc (aS _ _ _)<|trivial) ⟨rfl,rfl,rfl,rfl,rfl,rfl,rfl,trivial⟩) ?_;exact .inl ⟨by decide,rfl,rfl⟩
  cases hc2
 | false =>
  rw [W9 (by decide)] at hR;refine Bd PS rfl LE<|Sr<|Dd aQ<|Zz<|Sq<|aN<|Sr<|Dd aE<|Dd (by exact cJ rfl fL rfl rfl rfl rfl)<|Da ?_;refine Cn ?_ ?_<;>intro hc1
  ·cases hc1
  refine Sr<|Dd aE<|Dd eU<|Dd (dK i6)<|Dd (eC cZ)<|Da ?_;refine Cn ?_ ?_<;>intro hc2
  ·cases hc2
  refine aH<|Sq<|Sr<|Dd aE<|Dd aE<|Dd (by exact aB rfl rfl sF rfl (hwr _ rfl))<|Dd aQ<|Zz<|Sr<|Dd aE<|Dd rG<|Zz ?_;refine Cn ?_ ?_<;>intro hc3
  ·have hq:¬ bG l2 P=0:=by have h:=hc3;simpa using h
   rw [XA hq] at hR;rw [hR];refine Sr<|Dd aE<|Dd aQ<|Zz<|aM ?_;refine a7 (H':=((950,bH l2 c2)::sH d (bZ k a n false) (bH l c))) (.inr rfl) rfl (aG rfl) (Fin.wk (by(simp;done)) (Hc (aS _ _ _)<|Hc (aF _ _ rfl rfl rfl)<|Hc (aC _ _)<|Hc (aL _ _ _)<|Hc (aK _ _)<|Hc (by(simp;exact⟨rfl,rfl⟩))<|Hc (aS _ _ _)<|trivial) ⟨rfl,rfl,rfl,rfl,rfl,rfl,rfl,trivial⟩) ?_;exact .inl ⟨by omega,rfl,rfl⟩
  have hq:bG l2 P=0:=by have h:=hc3;simpa using h
  rw [W9 (fun h=>h hq)] at hR;have hsz:=hsz hq;have hso:=GQ (L:=P) (by omega) call97 ((951,T8 P)::(950,bH l2 c2)::sH d (bZ k a n false) (bH l c)) (xY P _ (by omega) rfl) rfl rfl rfl rfl (bB.ofL ⟨(by(simp;done)),(by exact aS _ _ _),(by exact aF _ _ rfl rfl rfl),(by exact aC _ _),(by exact aL _ _ _),(by exact aK _ _),(by(simp;exact⟨rfl,rfl⟩)),(by exact aS _ _ _),trivial⟩) (by simp;rfl);refine aH<|Sr<|Dd aE<|Dd (by exact aB rfl rfl call49 rfl (xX P _ rfl))<|Dd (by exact aB rfl rfl BN rfl (hso))<|Dd (by exact aB rfl rfl WS rfl ((by have h:=wJ (cH P) P.length ((945,cO P.length (cH P))::(951,T8 P)::(950,bH l2 c2)::sH d (bZ k a n false) (bH l c)) rfl (by rw [eF];omega);rw [eF] at h;exact h)))<|Dd aQ<|Zz<|Sq<|Sq ?_;refine fJ.ent (bX.fzG (id:=945) (E':=[(0,.ref 1100 0 0 0),(1,.mp 950 0),(2,.pv (aW (fH P)))]) (H':=(950,bH l2 c2)::sH d (bZ k a n false) (bH l c)) ((bV (cH P)++List.replicate (P.length - (bV (cH P)).length) sNil).map encStr) rfl (by rw [List.map_map];rfl) ?_ rfl ?_ ?_) ?_
  ·intro p hp;simp only [XN,XR,or_false] at hp;rcases hp with rfl|rfl|rfl
   ·exact⟨_,rfl,.same (by simp;rfl)⟩
   ·exact⟨_,rfl,.same (by simp;rfl)⟩
   exact⟨_,rfl,.osl (OF P _)⟩
  ·exact⟨⟨_,rfl,rfl,rfl,rfl,cP (aS _ _ _)⟩,⟨_,rfl,rfl,rfl,rfl,cP (aF _ _ rfl rfl rfl)⟩,⟨_,rfl,rfl,rfl,rfl,cP (aC _ _)⟩,⟨_,rfl,rfl,rfl,rfl,cP (aL _ _ _)⟩,⟨_,rfl,rfl,rfl,rfl,cP (aK _ _)⟩,⟨_,rfl,rfl,rfl,rfl,cP (bA rfl rfl)⟩,⟨_,rfl,rfl,rfl,rfl,cP (aS _ _ _)⟩,trivial⟩
  ·exact⟨rfl,rfl,rfl,rfl,rfl,rfl,rfl,trivial⟩
  have hinc:=wM P;obtain ⟨D,hD⟩:∃ D,D=fH P:=⟨_,rfl⟩;rw [← hD] at hR hsz hDl ⊢;have hmp:(bM l2).length=l2.length:=XB _;have hmd:(D.map encStr).length=D.length:=XB _;have htx:=fun H hH=>L1 l2 c2 D hst2 (by omega) (by omega) (by omega) H hH;obtain ⟨t,ht⟩:∃ t,t=a8 l2 D:=⟨_,rfl⟩;rw [← ht] at hR hsz htx ⊢;have hcn:=fun H=>wI t (by omega) H;refine Rg<|Dd aE<|Dd (by exact tU (κ:=eT) (l:=bM l2) rfl aU rfl rfl rfl rfl)<|Dd aE<|Dd (kZ aP)<|Dd (by exact cA rfl rfl rfl (g9 (by omega) (by omega)))<|Dd gA<|Zz ?_;refine Cn ?_ ?_<;>intro hc4
  ·have hq2:l2.length+D.length=0:=by have:=W7 hc4;omega
   rw [XA hq2] at hR;rw [hR];refine Sr<|Dd aQ<|Zz<|aM ?_;refine a7 (H':=((950,bH l2 c2)::sH d (bZ k a n false) (bH l c))) (.inr rfl) rfl (aG rfl) (Fin.wk (by(simp;done)) (Hc (aS _ _ _)<|Hc (aF _ _ rfl rfl rfl)<|Hc (aC _ _)<|Hc (aL _ _ _)<|Hc (aK _ _)<|Hc (by(simp;exact⟨rfl,rfl⟩))<|Hc (aS _ _ _)<|trivial) ⟨rfl,rfl,rfl,rfl,rfl,rfl,rfl,trivial⟩) ?_;exact .inl ⟨by decide,rfl,rfl⟩
  have hq2:¬ l2.length+D.length=0:=by have:=W8 hc4;omega
  rw [W9 hq2] at hR;refine aH<|Sr<|Dd aE<|Dd aE<|Dd (by exact aB rfl rfl sE rfl (htx _ rfl))<|Dd aQ<|Zz<|Sq<|Sq<|bK follows<|Cq aE<|Cq (by exact aB rfl rfl WR rfl (hcn _))<|Cq aE<|Cq eU<|Cq (dK qB)<|Cq (eC aT)<|Cq aE<|Cq eU<|Cq (dK kL)<|Cq (dK k9)<|Cq (eC aT)<|Cq (by exact dM rfl rfl rfl (g9 (by omega) (by omega)))<|Cq yS<|cQ<|Kr ?_;refine Cn ?_ ?_<;>intro hc5
  ·have hq3:k < n+cM t:=by have:=W7 hc5;omega
   rw [XA hq3] at hR;rw [hR];refine Sr<|Dd aQ<|Zz<|aM ?_;refine a7 (H':=((950,bH l2 c2)::sH d (bZ k a n false) (bH l c))) (.inr rfl) rfl (aG rfl) (Fin.wk (by(simp;done)) (Hc (aS _ _ _)<|Hc (aF _ _ rfl rfl rfl)<|Hc (aC _ _)<|Hc (aL _ _ _)<|Hc (aK _ _)<|Hc (by(simp;exact⟨rfl,rfl⟩))<|Hc (aS _ _ _)<|trivial) ⟨rfl,rfl,rfl,rfl,rfl,rfl,rfl,trivial⟩) ?_;exact .inl ⟨by decide,rfl,rfl⟩
  have hq3:¬ k < n+cM t:=by have:=W8 hc5;omega
  rw [W9 hq3] at hR;rw [hR];have hadd:=O8 h k a n a n false l c t hsz (by omega) ha hk (by omega);obtain ⟨x,hx⟩:∃ x,x=iO d k a n t:=⟨_,rfl⟩;rw [← hx] at hadd ⊢;clear hx;refine aH<|Sq<|Sr<|Dd aE<|Dd aE<|Dd eU<|Dd (dK kL)<|Dd (Q0 cK sizeOf70)<|Dd aE<|Dd (by exact aB rfl rfl WQ rfl (fM hadd _ ⟨rfl,rfl,rfl,rfl,rfl,rfl,trivial⟩ (by simp;rfl)))<|Dd aQ<|Zz<|Sr<|Dd aE<|Dd rG<|Zz ?_;refine Cn ?_ ?_<;>intro hc6
  ·have e0:¬ x.1=0:=by have h:=hc6;simpa using h
   rw [W9 e0];refine Sr<|Dd aE<|Dd aQ<|Zz<|aM ?_;refine a7 (H':=((950,bH l2 c2)::sH x.2 (bZ k a n true) (bH l c))) (.inr rfl) rfl (aG rfl) (Fin.wk (by(simp;done)) (Hc (aS _ _ _)<|Hc (aF _ _ rfl rfl rfl)<|Hc (aC _ _)<|Hc (aL _ _ _)<|Hc (aK _ _)<|Hc (by(simp;exact⟨rfl,rfl⟩))<|Hc (aS _ _ _)<|trivial) ⟨rfl,rfl,rfl,rfl,rfl,rfl,rfl,trivial⟩) ?_;exact .inr (.inl ⟨rfl,e0,rfl,rfl⟩)
  have e0:x.1=0:=by have h:=hc6;simpa using h
  rw [XA e0];refine aH<|Sr<|Dd aE<|Dd eU<|Dd (dK qA)<|Dd (eC bO)<|Dd aE<|Dm ?_;refine fR rfl rfl (aB rfl rfl WP rfl (O2 l l2 c c2 D _ (by omega) (by omega) hst2 rfl rfl rfl (bB.ofL ⟨(by exact aF _ _ rfl rfl rfl),(by exact aC _ _),(by exact aL _ _ _),(by exact aK _ _),(by(simp;exact⟨rfl,rfl⟩)),(by exact aS _ _ _),(by exact aS _ _ _),(by exact aF _ _ rfl rfl rfl),(by exact aC _ _),(by exact aL _ _ _),(by exact aK _ _),(by(simp;exact⟨rfl,rfl⟩)),(by exact aS _ _ _),trivial⟩))) ?_;rintro r H' ⟨rfl,ps,hps,rfl⟩;obtain ⟨q1,q2,q3,q4⟩:=wQ (D:=D) hst hnd hnd2 hps;refine Zz<|Sr<|Dd aQ<|Zz<|aM ?_;refine a7 (H':=((950,bH l2 c2)::sH x.2 (bZ k a (n+cM t) false) (bH (j0 (fF l c ps).1 D) (fF l c ps).2))) (.inr rfl) rfl (aG rfl) (Fin.wk (by(simp;done)) (Hc (aS _ _ _)<|Hc (aF _ _ rfl rfl rfl)<|Hc (aC _ _)<|Hc (aL _ _ _)<|Hc (aK _ _)<|Hc (by(simp;exact⟨rfl,rfl⟩))<|Hc (aS _ _ _)<|trivial) ⟨rfl,rfl,rfl,rfl,rfl,rfl,rfl,trivial⟩) ?_;exact .inr (.inr ⟨rfl,e0,rfl,_,_,q1,q2,q3,q4,rfl⟩)
theorem KG {d:DSt} {N m:Nat} (h:DInv d N m) (k a n:Nat) (b:Bool) (l:bN) (c:Nat) (P:List ByteArray) (hk:k < 4000) (ha:a < 2) (hn:n≤k) (hm:m≤10) (hst:dL l c) (hnd:eV l) (hP:P.length < 1000000) (hsz:bG ([]:bN) P=0→(a8 ([]:bN) (fH P)).length < 100000000) :
  aI Tryz.prog 14 [.ref 1100 0 0 0,.pv .nilm,.pv (aW P)] (sH d (bZ k a n b) (bH l c)) (fun r H'=>(¬ uT k n b ([]:bN) P = -1∧r=iv (uT k n b ([]:bN) P)∧H'=sH d (bZ k a n b) (bH l c)) ∨
   (uT k n b ([]:bN) P = -1∧¬ (iO d k a n (a8 ([]:bN) (fH P))).1=0∧r=iv (iO d k a n (a8 ([]:bN) (fH P))).1∧H'=sH (iO d k a n (a8 ([]:bN) (fH P))).2 (bZ k a n true) (bH l c)) ∨
   (uT k n b ([]:bN) P = -1∧(iO d k a n (a8 ([]:bN) (fH P))).1=0∧r=iv 0∧∃ l' c',dL l' c'∧eV l'∧l'.length≤l.length+([]:bN).length∧(∀ x,cI l' x=oF (cI l) ([]:bN) (fH P) x)∧H'=sH (iO d k a n (a8 ([]:bN) (fH P))).2 (bZ k a (n+cM (a8 ([]:bN) (fH P))) false) (bH l' c'))):=by
 have hR:uT k n b ([]:bN) P=if b then 12 else if ¬ bG ([]:bN) P=0 then bG ([]:bN) P else if([]:bN).length+(fH P).length=0 then 0 else if k < n+cM (a8 ([]:bN) (fH P))then 21 else -1:=rfl
 have hwr:=fun H=>LU P (by omega) H;have hrange:=eZ ([]:bN) P;have hDl:=rX P;cases b with
 | true =>
  rw [XA rfl] at hR;rw [hR];refine Bd PS rfl LE<|Sr<|Dd aQ<|Zz<|Sq<|aN<|Sr<|Dd aE<|Dd (by exact cJ rfl fL rfl rfl rfl rfl)<|Da ?_;refine Cn ?_ ?_<;>intro hc1
  ·cases hc1
  refine Sr<|Dd aE<|Dd eU<|Dd (dK i6)<|Dd (eC cZ)<|Da ?_;refine Cn ?_ ?_<;>intro hc2
  ·refine Sr<|Dd aQ<|Zz<|aM ?_;refine a7 (H':=(sH d (bZ k a n true) (bH l c))) (.inr rfl) rfl (aG rfl) (Fin.wk (by(simp;done)) (Hc (aF _ _ rfl rfl rfl)<|Hc (aC _ _)<|Hc (aL _ _ _)<|Hc (aK _ _)<|Hc (by(simp;exact⟨rfl,rfl⟩))<|Hc (aS _ _ _)<|trivial) ⟨rfl,rfl,rfl,rfl,rfl,rfl,trivial⟩) ?_;exact .inl ⟨by decide,rfl,rfl⟩
  cases hc2
 | false =>
  rw [W9 (by decide)] at hR;refine Bd PS rfl LE<|Sr<|Dd aQ<|Zz<|Sq<|aN<|Sr<|Dd aE<|Dd (by exact cJ rfl fL rfl rfl rfl rfl)<|Da ?_;refine Cn ?_ ?_<;>intro hc1
  ·cases hc1
  refine Sr<|Dd aE<|Dd eU<|Dd (dK i6)<|Dd (eC cZ)<|Da ?_;refine Cn ?_ ?_<;>intro hc2
  ·cases hc2
  refine aH<|Sq<|Sr<|Dd aE<|Dd aE<|Dd (by exact aB rfl rfl sF rfl (hwr _))<|Dd aQ<|Zz<|Sr<|Dd aE<|Dd rG<|Zz ?_;refine Cn ?_ ?_<;>intro hc3
  ·have hq:¬ bG ([]:bN) P=0:=by have h:=hc3;simpa using h
   rw [XA hq] at hR;rw [hR];refine Sr<|Dd aE<|Dd aQ<|Zz<|aM ?_;refine a7 (H':=(sH d (bZ k a n false) (bH l c))) (.inr rfl) rfl (aG rfl) (Fin.wk (by(simp;done)) (Hc (aF _ _ rfl rfl rfl)<|Hc (aC _ _)<|Hc (aL _ _ _)<|Hc (aK _ _)<|Hc (by(simp;exact⟨rfl,rfl⟩))<|Hc (aS _ _ _)<|trivial) ⟨rfl,rfl,rfl,rfl,rfl,rfl,trivial⟩) ?_;exact .inl ⟨by omega,rfl,rfl⟩
  have hq:bG ([]:bN) P=0:=by have h:=hc3;simpa using h
  rw [W9 (fun h=>h hq)] at hR;have hsz:=hsz hq;have hso:=GQ (L:=P) (by omega) call97 ((951,T8 P)::sH d (bZ k a n false) (bH l c)) (xY P _ (by omega) rfl) rfl rfl rfl rfl (bB.ofL ⟨(by(simp;done)),(by exact aF _ _ rfl rfl rfl),(by exact aC _ _),(by exact aL _ _ _),(by exact aK _ _),(by(simp;exact⟨rfl,rfl⟩)),(by exact aS _ _ _),trivial⟩) (by simp;rfl);refine aH<|Sr<|Dd aE<|Dd (by exact aB rfl rfl call49 rfl (xX P _ rfl))<|Dd (by exact aB rfl rfl BN rfl (hso))<|Dd (by exact aB rfl rfl WS rfl ((by have h:=wJ (cH P) P.length ((945,cO P.length (cH P))::(951,T8 P)::sH d (bZ k a n false) (bH l c)) rfl (by rw [eF];omega);rw [eF] at h;exact h)))<|Dd aQ<|Zz<|Sq<|Sq ?_;refine fJ.ent (bX.fzG (id:=945) (E':=[(0,.ref 1100 0 0 0),(1,.pv .nilm),(2,.pv (aW (fH P)))]) (H':=sH d (bZ k a n false) (bH l c)) ((bV (cH P)++List.replicate (P.length - (bV (cH P)).length) sNil).map encStr) rfl (by rw [List.map_map];rfl) ?_ rfl ?_ ?_) ?_
  ·intro p hp;simp only [XN,XR,or_false] at hp;rcases hp with rfl|rfl|rfl
   ·exact⟨_,rfl,.same (by simp;rfl)⟩
   ·exact⟨_,rfl,.same (by simp)⟩
   exact⟨_,rfl,.osl (OF P _)⟩
  ·exact⟨⟨_,rfl,rfl,rfl,rfl,cP (aF _ _ rfl rfl rfl)⟩,⟨_,rfl,rfl,rfl,rfl,cP (aC _ _)⟩,⟨_,rfl,rfl,rfl,rfl,cP (aL _ _ _)⟩,⟨_,rfl,rfl,rfl,rfl,cP (aK _ _)⟩,⟨_,rfl,rfl,rfl,rfl,cP (bA rfl rfl)⟩,⟨_,rfl,rfl,rfl,rfl,cP (aS _ _ _)⟩,trivial⟩
  ·exact⟨rfl,rfl,rfl,rfl,rfl,rfl,trivial⟩
  have hinc:=wM P;obtain ⟨D,hD⟩:∃ D,D=fH P:=⟨_,rfl⟩;rw [← hD] at hR hsz hDl ⊢;have hmp:([]:bN).length=0:=rfl;have hmd:(D.map encStr).length=D.length:=XB _;have htx:=fun H=>P7 D (by omega) (by omega) H;obtain ⟨t,ht⟩:∃ t,t=a8 ([]:bN) D:=⟨_,rfl⟩;rw [← ht] at hR hsz htx ⊢;have hcn:=fun H=>wI t (by omega) H;refine Rg<|Dd aE<|Dd (by exact SH rfl aU rfl)<|Dd aE<|Dd (kZ aP)<|Dd (by exact cA rfl rfl rfl (g9 (by omega) (by omega)))<|Dd gA<|Zz ?_;refine Cn ?_ ?_<;>intro hc4
  ·have hq2:([]:bN).length+D.length=0:=by have:=W7 hc4;omega
   rw [XA hq2] at hR;rw [hR];refine Sr<|Dd aQ<|Zz<|aM ?_;refine a7 (H':=(sH d (bZ k a n false) (bH l c))) (.inr rfl) rfl (aG rfl) (Fin.wk (by(simp;done)) (Hc (aF _ _ rfl rfl rfl)<|Hc (aC _ _)<|Hc (aL _ _ _)<|Hc (aK _ _)<|Hc (by(simp;exact⟨rfl,rfl⟩))<|Hc (aS _ _ _)<|trivial) ⟨rfl,rfl,rfl,rfl,rfl,rfl,trivial⟩) ?_;exact .inl ⟨by decide,rfl,rfl⟩
  have hq2:¬ ([]:bN).length+D.length=0:=by have:=W8 hc4;omega
  rw [W9 hq2] at hR;refine aH<|Sr<|Dd aE<|Dd aE<|Dd (by exact aB rfl rfl sE rfl (htx _))<|Dd aQ<|Zz<|Sq<|Sq<|bK follows<|Cq aE<|Cq (by exact aB rfl rfl WR rfl (hcn _))<|Cq aE<|Cq eU<|Cq (dK qB)<|Cq (eC aT)<|Cq aE<|Cq eU<|Cq (dK kL)<|Cq (dK k9)<|Cq (eC aT)<|Cq (by exact dM rfl rfl rfl (g9 (by omega) (by omega)))<|Cq yS<|cQ<|Kr ?_;refine Cn ?_ ?_<;>intro hc5
  ·have hq3:k < n+cM t:=by have:=W7 hc5;omega
   rw [XA hq3] at hR;rw [hR];refine Sr<|Dd aQ<|Zz<|aM ?_;refine a7 (H':=(sH d (bZ k a n false) (bH l c))) (.inr rfl) rfl (aG rfl) (Fin.wk (by(simp;done)) (Hc (aF _ _ rfl rfl rfl)<|Hc (aC _ _)<|Hc (aL _ _ _)<|Hc (aK _ _)<|Hc (by(simp;exact⟨rfl,rfl⟩))<|Hc (aS _ _ _)<|trivial) ⟨rfl,rfl,rfl,rfl,rfl,rfl,trivial⟩) ?_;exact .inl ⟨by decide,rfl,rfl⟩
  have hq3:¬ k < n+cM t:=by have:=W8 hc5;omega
  rw [W9 hq3] at hR;rw [hR];have hadd:=O8 h k a n a n false l c t hsz (by omega) ha hk (by omega);obtain ⟨x,hx⟩:∃ x,x=iO d k a n t:=⟨_,rfl⟩;rw [← hx] at hadd ⊢;clear hx;refine aH<|Sq<|Sr<|Dd aE<|Dd aE<|Dd eU<|Dd (dK kL)<|Dd (Q0 cK sizeOf70)<|Dd aE<|Dd (by exact aB rfl rfl WQ rfl (fM hadd _ ⟨rfl,rfl,rfl,rfl,rfl,rfl,trivial⟩ (by simp;rfl)))<|Dd aQ<|Zz<|Sr<|Dd aE<|Dd rG<|Zz ?_;refine Cn ?_ ?_<;>intro hc6
  ·have e0:¬ x.1=0:=by have h:=hc6;simpa using h
   rw [W9 e0];refine Sr<|Dd aE<|Dd aQ<|Zz<|aM ?_;refine a7 (H':=(sH x.2 (bZ k a n true) (bH l c))) (.inr rfl) rfl (aG rfl) (Fin.wk (by(simp;done)) (Hc (aF _ _ rfl rfl rfl)<|Hc (aC _ _)<|Hc (aL _ _ _)<|Hc (aK _ _)<|Hc (by(simp;exact⟨rfl,rfl⟩))<|Hc (aS _ _ _)<|trivial) ⟨rfl,rfl,rfl,rfl,rfl,rfl,trivial⟩) ?_;exact .inr (.inl ⟨rfl,e0,rfl,rfl⟩)
  have e0:x.1=0:=by have h:=hc6;simpa using h
  rw [XA e0];refine aH<|Sr<|Dd aE<|Dd eU<|Dd (dK qA)<|Dd (eC bO)<|Dd aE<|Dm ?_;refine fR rfl rfl (aB rfl rfl WP rfl (O1 l c D _ (by omega) rfl rfl (bB.ofL ⟨(by exact aF _ _ rfl rfl rfl),(by exact aC _ _),(by exact aL _ _ _),(by exact aK _ _),(by(simp;exact⟨rfl,rfl⟩)),(by exact aS _ _ _),(by exact aF _ _ rfl rfl rfl),(by exact aC _ _),(by exact aL _ _ _),(by exact aK _ _),(by(simp;exact⟨rfl,rfl⟩)),(by exact aS _ _ _),trivial⟩))) ?_;rintro r H' ⟨rfl,rfl⟩;obtain ⟨q1,q2,q3,q4⟩:=wQ (put:=[]) (ps:=[]) (D:=D) hst hnd vK (List.Perm.refl _);refine Zz<|Sr<|Dd aQ<|Zz<|aM ?_;refine a7 (H':=(sH x.2 (bZ k a (n+cM t) false) (bH (j0 l D) c))) (.inr rfl) rfl (aG rfl) (Fin.wk (by(simp;done)) (Hc (aF _ _ rfl rfl rfl)<|Hc (aC _ _)<|Hc (aL _ _ _)<|Hc (aK _ _)<|Hc (by(simp;exact⟨rfl,rfl⟩))<|Hc (aS _ _ _)<|trivial) ⟨rfl,rfl,rfl,rfl,rfl,rfl,trivial⟩) ?_;exact .inr (.inr ⟨rfl,e0,rfl,_,_,q1,q2,q3,q4,rfl⟩)
abbrev VG (l:List UInt8) (g:Nat) (u:Bool):Ob:=mX (.osl 2002 g 0 l.length) u
abbrev VF (l:List UInt8) (g:Nat):Ob:=⟨g,1,5,bD l⟩
theorem P1 {g g':Nat} {l l':List UInt8} {u u':Bool} {id:Nat} (h:(aA.get (D3 g l u) id).isSome=true):(aA.get (D3 g' l' u') id).isSome=true:=by
 simp only [D3,aA.get] at h ⊢;cases e1:Nat.beq 2001 id with
 | true=>rfl
 | false =>
  cases e2:Nat.beq 2002 id with
  | true=>rfl
  | false=>rw [e1,e2] at h;cases h
theorem LQ {g:Nat} {l:List UInt8} {u u':Bool} {id:Nat} (h:(aA.get (KU g l u) id).isSome=true):(aA.get (D3 g l u) id).isSome=true:=by
 simp only [KU,D3,aA.get] at h ⊢;cases e1:Nat.beq 2001 id with
 | true=>rfl
 | false =>
  cases e2:Nat.beq 2002 id with
  | true=>rfl
  | false=>rw [e1,e2] at h;cases h
theorem LP {H:aA} {g:Nat} {l:List UInt8} {u:Bool} (h1:H.get 2001=some (VG l g u)) (h2:H.get 2002=some (VF l g)):Sub (D3 g l u) H:=by
 intro j o h;simp only [D3,aA.get] at h;cases e1:Nat.beq 2001 j with
 | true =>
  rw [e1] at h;cases h;rw [← Nat.eq_of_beq_eq_true e1];exact h1
 | false =>
  rw [e1] at h;cases e2:Nat.beq 2002 j with
  | true =>
   rw [e2] at h;cases h;rw [← Nat.eq_of_beq_eq_true e2];exact h2
  | false=>rw [e2] at h;cases h
theorem UG {H:aA} {g:Nat} {l:List UInt8} {u:Bool} (s:ByteArray) (h1:H.get 2001=some (VG l g u)) (h2:H.get 2002=some (VF l g)) (hl:l.length+s.size < 70368744177664):aI Tryz.prog 86 [.ref 2001 0 0 0,sv s] H (fun r H'=>r=.tup [iv (s.size:Int),.pv FI]∧H'=D3 (g+1) (l++s.data.toList) true++H) :=aI.frame (pC g l u s hl) (LP h1 h2) (bB.ofL ⟨(by exact l5 rfl rfl),(by exact o8 _ _),trivial⟩) (by simp;rfl) (fun id h=>.inl (P1 h))
theorem SS {H:aA} {g:Nat} {l:List UInt8} {u:Bool} (h1:H.get 2001=some (VG l g u)) (h2:H.get 2002=some (VF l g)) (hl:l.length < 70368744177664):aI Tryz.prog 88 [.ref 2001 0 0 0] H (fun r H'=>r=sv ⟨l.toArray⟩∧H'=KU g l u++H) :=aI.frame (R9 g l u hl) (LP h1 h2) (bB.ofL ⟨(by exact l5 rfl rfl),(by exact o8 _ _),trivial⟩) (by simp;rfl) (fun id h=>.inl (LQ (u':=u) h))
def CU (d:DSt) (k a i:Nat):List UInt8:=(List.range i).flatMap fun i=>(NB d k a i).data.toList
theorem yN (d:DSt) (k a i:Nat):CU d k a (i+1)=CU d k a i++(NB d k a i).data.toList:=by rw [CU,List.range_succ,List.flatMap_append,List.flatMap_cons,List.flatMap_nil,List.append_nil];rfl
theorem yH (place:Nat) (t:ByteArray) (ht:t.size=64):(CK place t).size≤46:=by
 rw [CK]
 split
 ·exact XS _
 next hb =>
 split
 ·rw [yI] at hb;simp only [Bool.not_eq_true,XX,XJ] at hb;rw [MX,ByteArray.size_extract];omega
 exact XS _
theorem CS {d:DSt} (hs:DOk d) {k a:Nat} (n:Nat) (hp:∀ i,i < n→2+a*k+i < d.cells.length):∀ i,i≤n→(CU d k a i).length≤46*i
 | 0,_=>XH _
 | i+1,hi=>by
  have h1:=CS hs n hp i (by omega);have h2:=yH (2+a*k+i) (bS d (2+a*k+i)) (kW hs (hp i (by omega)));rw [yN,XC,cR,NB];omega
theorem uX:∀ (n:Nat) (t:List UInt8) (acc:List ByteArray),((eO n t acc).1.map ByteArray.size).sum≤(acc.map ByteArray.size).sum+t.length
 | 0,t,acc=>Nat.le_add_right _ _
 | n+1,t,acc=>by
  rw [eO]
  split
  ·exact Nat.le_add_right _ _
  split
  ·exact XS _
  have h1:=uX n ((tZ t).drop (HX t)) (acc++[ofL ((tZ t).take (HX t))]);have h2:=(F3 t).2;rw [List.map_append,List.sum_append,List.map_cons,List.map_nil,List.sum_cons,List.sum_nil,bR,XP,XQ] at h1;omega
theorem EK (t:List UInt8):((dR t).1.map ByteArray.size).sum≤t.length:=by have:=uX t.length t [];rw [List.map_nil,List.sum_nil,XT] at this;exact this
theorem B1 (L:List ByteArray) (j:Nat):((L.take j).map ByteArray.size).sum≤(L.map ByteArray.size).sum:=by
 have h:L.map ByteArray.size=(L.take j).map ByteArray.size++(L.drop j).map ByteArray.size:=by rw [← List.map_append,List.take_append_drop]
 rw [h,List.sum_append];omega
def M5 (o:Bool) (L:List ByteArray) (j:Nat):Bool:=o&&(L.take j).all fun c=>jN c.data.toList
theorem M4 {o:Bool} {L:List ByteArray} {j:Nat} {t:ByteArray} (h:L[j]?=some t):M5 o L (j+1)=(M5 o L j&&jN t.data.toList):=by rw [M5,M5,cY h,List.all_append,List.all_cons,List.all_nil,Bool.and_true,Bool.and_assoc]
abbrev UB (L:List ByteArray) (j:Nat):CT:=m7 ((L.take j).map fun c=>c.data.toList)
theorem OA {L:List ByteArray} {j:Nat} {t:ByteArray} (h:L[j]?=some t):UB L (j+1)=TR (UB L j) t.data.toList:=by rw [UB,cY h,List.map_append];exact qG _ _
theorem QZ (d:DSt) (hs:DOk d) (hoff:d.off=false) (k a n:Nat) (b:Bool) (ha:a < 2) (hn:n≤k) (hk:2*k+2≤d.cells.length) :
  aI Tryz.prog 44 [.ref 1100 0 0 0] (sH d (bZ k a n b) (bH [] 0)) (fun r H'=>r=bv (vR d k a n)∧∃ l c,dL l c∧eV l∧l.length≤46*n∧(vR d k a n=true→∀ x,cI l x=SK d k a n x)∧H'=sH d (bZ k a n b) (bH l c)):=by
 have hn2:=hs.n2;have hak:a*k≤k:=by
  rcases(show a=0∨a=1 by omega)with e|e<;>subst e<;>omega
 have hplace:∀ i,i < n→2+a*k+i < d.cells.length:=fun i hi=>by omega
 have hTl:=CS (k:=k) (a:=a) hs n hplace;have hTn:NA d k a n=CU d k a n:=rfl;have hok:vR d k a n=(CV d k a n&&((dR (NA d k a n)).2&&(dR (NA d k a n)).1.all fun c=>jN c.data.toList)):=rfl;have hC:SK d k a n=m7 ((dR (NA d k a n)).1.map fun c=>c.data.toList):=rfl;refine Bd func44 rfl ntmps44<|Sr<|Dd aQ<|Zz<|Sr<|Dd (by exact b8 (id:=2001) rfl LN rfl rfl)<|Zz<|Sq<|Sr<|Dd aE<|Dd eU<|Dd (dK kL)<|Dd (dK k9)<|Dd (eC aT)<|Dd aE<|Zz<|aN ?_;refine fJ.ent (E':=[(0,.ref 1100 0 0 0),(3,.ref 2001 0 0 0),(14,iv (n:Int)),(15,iv 0)]) (H':=(2002,⟨0,1,5,[]⟩)::(2001,mX (.osl 2002 0 0 0) false)::sH d (bZ k a n b) (bH [] 0)) (bX.nz 2002 1 5 rfl rfl ⟨⟨_,rfl,(by exact Nz.same (by(simp;rfl)))⟩,⟨_,rfl,(by exact Nz.same (by(simp;rfl)))⟩,⟨_,rfl,(by exact Nz.same (by(simp;done)))⟩,⟨_,rfl,(by exact Nz.same (by(simp;done)))⟩,trivial⟩ ⟨⟨_,rfl,rfl,rfl,rfl,(by exact .inr ⟨_,_,rfl,rfl,(by repeat(first|exact trivial|refine⟨(by first|exact Nz.own|exact Nz.same (by(simp;done))),?_⟩))⟩)⟩,⟨_,rfl,rfl,rfl,rfl,(by exact .inl ⟨rfl,(by exact aF _ _ rfl rfl rfl)⟩)⟩,⟨_,rfl,rfl,rfl,rfl,(by exact .inl ⟨rfl,(by exact aC _ _)⟩)⟩,⟨_,rfl,rfl,rfl,rfl,(by exact .inl ⟨rfl,(by exact aL _ _ _)⟩)⟩,⟨_,rfl,rfl,rfl,rfl,(by exact .inl ⟨rfl,(by exact aK _ _)⟩)⟩,⟨_,rfl,rfl,rfl,rfl,(by exact .inl ⟨rfl,(by exact bA rfl rfl)⟩)⟩,⟨_,rfl,rfl,rfl,rfl,(by exact .inl ⟨rfl,(by exact aS _ _ _)⟩)⟩,trivial⟩ ⟨rfl,rfl,rfl,rfl,rfl,rfl,trivial⟩) ?_;refine tD (fun(i g:Nat) (u:Bool)=>([(0,.ref 1100 0 0 0),(3,.ref 2001 0 0 0),(14,iv (n:Int)),(15,iv (i:Int))],(2001,VG (CU d k a i) g u)::(2002,VF (CU d k a i) g)::sH d (bZ k a n b) (bH [] 0))) (fun i g u=>i≤n∧∀ j,j < i→¬ NB d k a j=sNil) (fun i g u=>n - i) 0 0 false ⟨XS _,fun j hj=>absurd hj (Nat.not_lt_zero _)⟩ ?_ ?_
 ·exact(bX.wk (Ea<|Ea<|Eb<|Eb<|trivial) (Hc (l5 rfl rfl)<|Hc (aC _ _)<|Hc (aF _ _ rfl rfl rfl)<|Hc (aC _ _)<|Hc (aL _ _ _)<|Hc (aK _ _)<|Hc (bA rfl rfl)<|Hc (aS _ _ _)<|trivial) ⟨rfl,rfl,rfl,rfl,rfl,rfl,trivial⟩)
 rintro i g u ⟨hi,hz⟩;have hTi:=hTl i hi;have hpl:=vC d k a n a i b [] 0 (by omega) (by omega) (by omega);refine Sr<|Dd dN<|Zz<|Sq ?_;refine Cn ?_ ?_<;>intro hc1
 ·have hlt:i < n:=by have:=W7 hc1;omega
  have hpc:=QI d hs hoff k a n (2+a*k+i) b [] 0 (hplace i hlt);have hps:=yH (2+a*k+i) (bS d (2+a*k+i)) (kW hs (hplace i hlt));have hnx:=yN d k a i;have hPi:NB d k a i=CK (2+a*k+i) (bS d (2+a*k+i)):=rfl;rw [← hPi] at hpc hps;obtain ⟨p,hp⟩:∃ p,p=NB d k a i:=⟨_,rfl⟩;rw [← hp] at hpc hps hnx;refine aH<|Sq<|aN<|Sr<|Dd aE<|Dd aQ<|Zz<|Sr<|Dd aE<|Dd aE<|Dd aE<|Dd eU<|Dd (dK kL)<|Dd (dK qD)<|Dd (eC aT)<|Dd aE<|Dd (by exact aB rfl rfl WN rfl (iT hpl _ ⟨rfl,rfl,rfl,rfl,rfl,rfl,trivial⟩ (by simp;rfl)))<|Dd (by exact aB rfl rfl call84 rfl (iT hpc _ ⟨rfl,rfl,rfl,rfl,rfl,rfl,trivial⟩ (by simp;rfl)))<|Dd aQ<|Zz<|Sq<|Sr<|Dd aE<|Dd S3<|Zz ?_;refine Cn ?_ ?_<;>intro hc2
  ·have hq:p=sNil:=W7 hc2;have hf:vR d k a n=false:=by
    have:CV d k a n=false:=by
     rw [Bool.eq_false_iff];intro h;have:=List.all_eq_true.1 h i (List.mem_range.2 hlt);rw [← hp,hq,decide_eq_true rfl] at this;cases this
    rw [hok,this];rfl
   refine Sr<|Dd aQ<|Zz<|aM ?_;refine a7 (H':=(sH d (bZ k a n b) (bH [] 0))) (.inr rfl) rfl (aG rfl) (Fin.wk (by(simp;done)) (Hc (aF _ _ rfl rfl rfl)<|Hc (aC _ _)<|Hc (aL _ _ _)<|Hc (aK _ _)<|Hc (bA rfl rfl)<|Hc (aS _ _ _)<|trivial) ⟨rfl,rfl,rfl,rfl,rfl,rfl,trivial⟩) ?_;exact⟨by rw [hf],[],0,FH,vK,XS _,fun h=>(by rw [hf] at h;cases h),rfl⟩
  have hq:¬ p=sNil:=W8 hc2;refine aH<|Rg<|Dd aE<|Dd (by exact aB rfl rfl call86 rfl (UG p rfl rfl (by omega)))<|Zz<|Rg<|Dd mC<|Dd aE<|Zz ?_;refine⟨i+1,g+1,true,⟨by omega,fun j hj=>?_⟩,by omega,?_⟩
  ·rcases Nat.lt_succ_iff_lt_or_eq.1 hj with h1|rfl
   ·exact hz j h1
   rw [← hp];exact hq
  rw [hnx];exact(bX.wk (Ea<|Ea<|Eb<|Eb<|trivial) (Hc (l5 rfl rfl)<|Hc (aC _ _)<|Hc (aF _ _ rfl rfl rfl)<|Hc (aC _ _)<|Hc (aL _ _ _)<|Hc (aK _ _)<|Hc (bA rfl rfl)<|Hc (aS _ _ _)<|trivial) ⟨rfl,rfl,rfl,rfl,rfl,rfl,trivial⟩)
 have hge:i=n:=by have:=W8 hc1;omega
 subst hge;have hall:CV d k a i=true:=List.all_eq_true.2 fun j hj=>by
  rw [decide_eq_false (hz j (List.mem_range.1 hj))];rfl
 rw [hall,Bool.true_and,hTn] at hok;rw [hTn] at hC;obtain ⟨T,hT⟩:∃ T,T=CU d k a i:=⟨_,rfl⟩;rw [← hT] at hok hC hTi ⊢;have hspl:=fun H=>B8 T H (by omega);have hsum:=EK T;have hL1:=pN T.length T [];rw [List.length_nil,XT] at hL1;change (dR T).1.length≤T.length at hL1;obtain ⟨L,hL⟩:∃ L,L=(dR T).1:=⟨_,rfl⟩;obtain ⟨o,ho⟩:∃ o,o=(dR T).2:=⟨_,rfl⟩;rw [← hL,← ho] at hok;rw [← hL] at hC hsum hL1;simp only [← hL,← ho] at hspl;have hml:(L.map encStr).length=L.length:=XB _;have hTo:(⟨T.toArray⟩:ByteArray)=ofL T:=rfl;refine bE<|Sr<|Dd (by exact aB rfl rfl call88 rfl (SS rfl rfl (by omega)))<|Dd (by exact aB rfl rfl call87 rfl (hspl _))<|Dd aE<|Dd dO<|Dd dO<|Dd aQ<|Dd aQ<|Zz<|Sq<|Sr<|Dd aE<|Dd (kZ aP)<|Dd aE<|Zz<|aN ?_;refine tD (fun(j:Nat) (l:bN) (c:Nat)=>([(0,.ref 1100 0 0 0),(7,bv (M5 o L j)),(38,.pv (aW L)),(39,iv ((L.map encStr).length:Int)),(40,iv (j:Int))],sH d (bZ k a i b) (bH l c))) (fun j l c=>j≤L.length∧dL l c∧eV l∧l.length≤((L.take j).map ByteArray.size).sum∧(M5 o L j=true→∀ x,cI l x=UB L j x)) (fun j l c=>L.length - j) 0 [] 0 ⟨XS _,FH,vK,XS _,fun _ x=>rfl⟩ ?_ ?_
 ·rw [show M5 o L 0=o by rw [M5,List.take_zero];exact Bool.and_true o];exact(bX.wk (Ea<|Eb<|Eb<|Eb<|Eb<|trivial) (Hc (aF _ _ rfl rfl rfl)<|Hc (aC _ _)<|Hc (aL _ _ _)<|Hc (aK _ _)<|Hc (bA rfl rfl)<|Hc (aS _ _ _)<|trivial) ⟨rfl,rfl,rfl,rfl,rfl,rfl,trivial⟩)
 rintro j l c ⟨hj,hst,hnd,hll,hct⟩;have hsj:=B1 L j;refine Sr<|Dd dN<|Zz<|Sq ?_;refine Cn ?_ ?_<;>intro hc3
 ·have hlt:j < L.length:=by have:=W7 hc3;omega
  obtain ⟨t,ht⟩:=aY hlt;have hit:=dC (f:=encStr) ht;have hsz:((L.take (j+1)).map ByteArray.size).sum=((L.take j).map ByteArray.size).sum+t.size:=by rw [cY ht,List.map_append,List.sum_append];rfl
  have hsj2:=B1 L (j+1);have hnx:=M4 (o:=o) ht;have hcx:=OA ht;have hrp:=I7 d k a i b l c t.data.toList hst hnd (by rw [cR];omega);rw [FE,cR] at hrp;obtain ⟨oj,hoj⟩:∃ oj,oj=M5 o L j:=⟨_,rfl⟩;rw [← hoj] at hnx hct ⊢;clear hoj;cases oj
  ·refine aH<|Sq<|aN<|Sr<|Dd (BT b5)<|Dd (mB aV)<|Dd aQ<|Zz<|Rg<|Dd aE<|Dd aE<|Fo<|Fo<|Fo<|Fo<|Fo<|Fo<|Dd dW<|Dd aQ<|Zz<|Rg<|Dd mC<|Dd aE<|Zz ?_;refine⟨j+1,l,c,⟨by omega,hst,hnd,by omega,fun h=>(by rw [hnx] at h;cases h)⟩,by omega,?_⟩;rw [hnx];exact(bX.wk (Ea<|Eb<|Eb<|Eb<|Eb<|trivial) (Hc (aF _ _ rfl rfl rfl)<|Hc (aC _ _)<|Hc (aL _ _ _)<|Hc (aK _ _)<|Hc (bA rfl rfl)<|Hc (aS _ _ _)<|trivial) ⟨rfl,rfl,rfl,rfl,rfl,rfl,trivial⟩)
  refine aH<|Sq<|aN<|Sr<|Dd (BT b5)<|Dd (mB aV)<|Dd aQ<|Zz<|Rg<|Dd aE<|Dd aE<|On aE<|On eU<|On (dK qA)<|On (eC bO)<|On aE ?_;refine IE rfl rfl rfl rfl rfl (aB rfl rfl call89 rfl hrp) ?_;rintro _ _ ⟨rfl,l2,c2,q1,q2,q3,q4,rfl⟩;refine Dd dW<|Dd aQ<|Zz<|Rg<|Dd mC<|Dd aE<|Zz ?_;refine⟨j+1,l2,c2,⟨by omega,q1,q2,by omega,fun h x=>?_⟩,by omega,?_⟩
  ·rw [hnx,Bool.true_and] at h;rw [q4 h x,hcx,TR,oF,oF,hct rfl x]
  rw [hnx,Bool.true_and];exact(bX.wk (Ea<|Eb<|Eb<|Eb<|Eb<|trivial) (Hc (aF _ _ rfl rfl rfl)<|Hc (aC _ _)<|Hc (aL _ _ _)<|Hc (aK _ _)<|Hc (bA rfl rfl)<|Hc (aS _ _ _)<|trivial) ⟨rfl,rfl,rfl,rfl,rfl,rfl,trivial⟩)
 have hge:j=L.length:=by have:=W8 hc3;omega
 subst hge;have hoke:vR d k a i=M5 o L L.length:=by rw [hok,M5,List.take_length]
 have hCe:SK d k a i=UB L L.length:=by rw [hC,UB,List.take_length]
 rw [List.take_length] at hll;refine bE<|Sr<|Dd aE<|Dd aQ<|Zz<|aM ?_;refine a7 (H':=(sH d (bZ k a i b) (bH l c))) (.inr rfl) rfl (aG rfl) (Fin.wk (by(simp;done)) (Hc (aF _ _ rfl rfl rfl)<|Hc (aC _ _)<|Hc (aL _ _ _)<|Hc (aK _ _)<|Hc (bA rfl rfl)<|Hc (aS _ _ _)<|trivial) ⟨rfl,rfl,rfl,rfl,rfl,rfl,trivial⟩) ?_;exact⟨by rw [hoke],l,c,hst,hnd,by omega,fun h=>by rw [hCe];exact hct (by rw [← hoke];exact h),rfl⟩
theorem tQ {k place:Nat} {t:ByteArray} (h:jU k place t=true):nR t < 2∧nQ t≤k∧hS place (nR t) (nQ t)=t:=by rw [jU] at h;simp only [XK,XI] at h;exact⟨h.2.1.1,h.2.1.2,h.2.2⟩
def pH (d:DSt) (k:Nat):Bool:=(!HB d k&&!decide (bS d 0=zS))||!vR d k (SF d k) (SE d k)
theorem JT (d:DSt) (k:Nat):SF d k < 2∧SE d k≤k:=by
 rw [SF,SE];cases h1:uD d k with
 | true =>
  rw [XA rfl,XA rfl];rw [uD] at h1;have:=tQ h1;exact⟨this.1,this.2.1⟩
 | false =>
  rw [W9 Bool.false_ne_true,W9 Bool.false_ne_true];cases h0:jU k 0 (bS d 0)with
  | true =>
   rw [XA rfl,XA rfl];have:=tQ h0;exact⟨this.1,this.2.1⟩
  | false =>
   rw [W9 Bool.false_ne_true,W9 Bool.false_ne_true];exact⟨by omega,by omega⟩
theorem D9 (place:Nat) {a n:Nat} (hd:Bool) (ha:a < 10) (hn:n < 10000000):(nK place a n hd).size=64:=by
 cases hd
 ·show zS.size=64;rw [bR,zB,List.length_replicate]
 exact AX place ha hn
theorem VR:zS.size=64:=by rw [bR,zB,List.length_replicate]
theorem S5 {d:DSt} {N place a n:Nat} {hd:Bool} (h:OnD d N) (hp:place < N) (ha:a < 10) (hn:n < 10000000) (h0:(r9 d place a n hd).1=0):OnD (r9 d place a n hd).2 N:=by
 rw [r9] at h0 ⊢;by_cases e:bS d place=nK place a n hd
 ·rw [XA e] at h0 ⊢;exact h
 rw [W9 e] at h0 ⊢;have w1:=LW h (place:=place) (L:=[zS]) (by rw [List.length_singleton];omega) (fun t ht=>by rw [XE.1 ht];exact VR) (by rw [List.length_singleton];omega);by_cases e2:(iP d place [zS]).1=0∧hd=true
 ·rw [XA e2] at h0 ⊢;rcases w1 with⟨q1,q2,q3⟩|⟨q1,q2,q3⟩
  ·have w2:=LW q2 (place:=place) (L:=[nK place a n hd]) (by rw [List.length_singleton];omega) (fun t ht=>by rw [XE.1 ht];exact D9 place hd ha hn) (by rw [List.length_singleton];omega);rcases w2 with⟨p1,p2,p3⟩|⟨p1,p2,p3⟩
   ·exact p2
   rw [p1] at h0;cases h0
  rw [q1] at e2;cases e2.1
 rw [W9 e2] at h0 ⊢;rcases w1 with⟨q1,q2,q3⟩|⟨q1,q2,q3⟩
 ·exact q2
 rw [q1] at h0;cases h0
def TA (i N:Nat):Int:=if i≤N then 0 else 1
abbrev WI (a n:Nat):Ob:=bx 2 70 [iv (a:Int),iv (n:Int)]
theorem QK {d:DSt} {N:Nat} (h:OnD d N) (hN:4≤N) (k a n:Nat) (hd:Bool) (hk:k=(N - 2) / 2) (hA:a=SF d k) (hNn:n=SE d k) (hH:hd=HB d k) :
  aI Tryz.prog 12 [.ref 1000 0 0 0] (aZ d) (fun r H'=>(pH d k=true∧r=.tup [.pv .nilp,iv 23]∧H'=aZ d) ∨
   (pH d k=false∧¬ (r9 d 1 a n hd).1=0∧r=.tup [.pv .nilp,iv (r9 d 1 a n hd).1]∧H'=aZ (r9 d 1 a n hd).2) ∨
   (pH d k=false∧(r9 d 1 a n hd).1=0∧¬ (r9 (r9 d 1 a n hd).2 0 a n hd).1=0∧r=.tup [.pv .nilp,iv (r9 (r9 d 1 a n hd).2 0 a n hd).1]∧H'=aZ (r9 (r9 d 1 a n hd).2 0 a n hd).2) ∨
   (pH d k=false∧(r9 d 1 a n hd).1=0∧(r9 (r9 d 1 a n hd).2 0 a n hd).1=0∧r=.tup [.ref 1100 0 0 0,iv 0]∧∃ l c,dL l c∧eV l∧l.length≤46*n∧(∀ x,cI l x=SK d k a n x)∧H'=sH (r9 (r9 d 1 a n hd).2 0 a n hd).2 (bZ k a n false) (bH l c))):=by
 have hs:=h.inv.ok;have hoff:=h.off;have hcn:=h.inv.n;have hn2:=hs.n2;have hbd:=JT d k;rw [← hA,← hNn] at hbd;have hbad:pH d k=((!hd&&!decide (bS d 0=zS))||!vR d k a n):=by rw [pH,← hA,← hNn,← hH]
 have hrE:∀ i:Nat,mU d (i:Int)=if i < N then 0 else 1:=fun i=>by
  rw [mU,hoff,W9 (by decide),iX,hcn];by_cases e:i < N
  ·rw [XA (decide_eq_true e),XA e]
  rw [W9 (by rw [decide_eq_false e];decide),W9 e]
 refine Bd func12 rfl ntmps12<|Sr<|Dd aQ<|Dd aQ<|Zz<|Sq<|Sr<|Dd aE<|Dd (by exact cJ rfl iM rfl rfl rfl rfl)<|Zz ?_;refine Cn ?_ ?_<;>intro hc1
 ·cases hc1
 refine aH<|Sr<|Dd aQ<|Zz<|Sr<|Dd aQ<|Zz<|Sq<|aN ?_;refine bI (σ:=Nat) (fun i=>([(0,.ref 1000 0 0 0),(4,iv (i:Int)),(5,iv (TA i N))],aZ d)) (fun i=>i≤N+1) (fun i=>N+1 - i) 0 (XS _) ?_ ?_
 ·rw [show TA 0 N=0 from XA (XS _)];exact(bX.wk (Ea<|Eb<|Eb<|trivial) (Hc (aF _ _ rfl rfl rfl)<|Hc (aC _ _)<|Hc (aL _ _ _)<|Hc (aK _ _)<|trivial) ⟨rfl,rfl,rfl,rfl,trivial⟩)
 intro i hi;have hrd:=MO d (i:Int) hs;rw [hrE i] at hrd;refine Sq<|Sr<|Dd aE<|Dd gA<|Zz ?_;refine Cn ?_ ?_<;>intro hc2
 ·have hq:i≤N:=by have h:=W7 hc2;rw [TA] at h;split at h;exact(by assumption);cases h
  have hnx:TA (i+1) N=if i < N then 0 else 1:=by
   rw [TA];by_cases e:i < N
   ·rw [XA e,XA (by omega)]
   rw [W9 e,W9 (by omega)]
  rw [← hnx] at hrd;refine aH<|Sq<|aN<|Rg<|Dd aE<|Dd aE<|Dd (by exact aB rfl rfl sG rfl (hrd))<|Dd aE<|Dd dO<|Dd dO<|Dd aQ<|Zz<|Rg<|Dd aE<|Dd (by exact cA rfl rfl rfl (show IntKind.i64.wrap ((i:Int)+1)=((i+1:Nat):Int)by rw [g9 (by omega) (by omega)];omega))<|Da ?_;exact⟨i+1,by omega,by omega,(bX.wk (Ea<|Eb<|Eb<|trivial) (Hc (aF _ _ rfl rfl rfl)<|Hc (aC _ _)<|Hc (aL _ _ _)<|Hc (aK _ _)<|trivial) ⟨rfl,rfl,rfl,rfl,trivial⟩)⟩
 have hq:i=N+1:=by have h:=W8 hc2;rw [TA] at h;split at h;exact absurd rfl h;omega
 have hk1:TA i N=1:=W9 (by omega);rw [hk1];have hp1:=q0 d hs hoff k 0 0 1 false [] 0 (by omega) (by omega);have hp0:=q0 d hs hoff k 0 0 0 false [] 0 (by omega) (by omega);have hrd0:=uH hs hoff (n:=0) (by omega);refine bE<|Sq<|Sr<|Dd aE<|Dd (by exact dM rfl rfl rfl (show IntKind.i64.wrap ((i:Int) - 1)=(N:Int)by rw [g9 (by omega) (by omega)];omega))<|Dd aQ<|Zz<|Sr<|Dd aE<|Dd gA<|Zz ?_;refine Cn ?_ ?_<;>intro hc3
 ·cases hc3
 refine aH<|Sq<|Sr<|Dd aE<|Dd dN<|Zz ?_;refine Cn ?_ ?_<;>intro hc4
 ·(have h:=W7 hc4;omega)
 have hkq:IntKind.i64.wrap (((N:Int) - 2).tdiv 2)=(k:Int):=by
  rw [Int.tdiv_eq_ediv_of_nonneg (by omega),g9 (by omega) (by omega),hk];omega
 refine aH<|Sr<|Dd aE<|Dd aE<|Dd (by exact dM rfl rfl rfl (g9 (by omega) (by omega)))<|Dd (by exact mJ rfl rfl rfl (by decide) hkq)<|Dd (by exact gY (id:=1101) eT rfl rfl)<|Dd (LK V4)<|Dd (by exact fY (id:=1100) rfl rfl rfl rfl rfl)<|Dd aQ<|Zz<|Sq ?_;refine fJ.ent (E':=[(0,.ref 1000 0 0 0),(6,.ref 1100 0 0 0)]) (H':=sH d (bZ k 0 0 false) (bH [] 0)) (bX.wk (Ea<|Ea<|trivial) (Hc (aF _ _ rfl rfl rfl)<|Hc (aC _ _)<|Hc (aL _ _ _)<|Hc (aK _ _)<|Hc (bA rfl rfl)<|Hc (aS _ _ _)<|trivial) ⟨rfl,rfl,rfl,rfl,trivial⟩) ?_;obtain ⟨h1,hh1⟩:∃ b,b=jU k 1 (bS d 1):=⟨_,rfl⟩;obtain ⟨h0,hh0⟩:∃ b,b=jU k 0 (bS d 0):=⟨_,rfl⟩;rw [← hh1] at hp1;rw [← hh0] at hp0;have hHe:hd=(h1||h0):=by rw [hH,HB,uD,← hh1,← hh0]
 have hAe:a=if h1 then nR (bS d 1)else if h0 then nR (bS d 0)else 0:=by rw [hA,SF,uD,← hh1,← hh0]
 have hNe:n=if h1 then nQ (bS d 1)else if h0 then nQ (bS d 0)else 0:=by rw [hNn,SE,uD,← hh1,← hh0]
 have hld:=QZ d hs hoff k a n false hbd.1 hbd.2 (by omega);refine Rg<|Dd aE<|Dd (by exact aB rfl rfl call42 rfl (hp1))<|Dd aE<|Dd dO<|Dd dO<|Dd (by exact b8 (id:=7) rfl LO rfl rfl)<|Uu (pF sizeOf70)<|Da ?_;refine kQ (fun(q:Nat×Nat)=>([(0,.ref 1000 0 0 0),(6,.ref 1100 0 0 0),(7,.ref 7 0 0 0),(8,bv hd)],(7,WI q.1 q.2)::sH d (bZ k 0 0 false) (bH [] 0))) (fun q=>hd=true→q.1=a∧q.2=n) ?_ ?_
 ·refine Sr<|Dd aE<|Dd sA<|Zz ?_;refine Cn ?_ ?_<;>intro hc5
  ·have e1:h1=false:=by have h:=hc5;simpa using h
   refine Rg<|Dd aE<|Dd (by exact aB rfl rfl call42 rfl (iT hp0 _ ⟨rfl,rfl,rfl,rfl,rfl,rfl,trivial⟩ (by simp;rfl)))<|Dd aE<|Dd dO<|Dd dO<|Uu (pF sizeOf70)<|Da ?_;refine⟨(nR (bS d 0),nQ (bS d 0)),fun hh=>?_,?_⟩
   ·rw [e1] at hHe hAe hNe;rw [hHe] at hh;have e0:h0=true:=hh;rw [e0] at hAe hNe;exact⟨hAe.symm,hNe.symm⟩
   rw [show hd=h0 by rw [hHe,e1];rfl];exact(bX.wk (Ea<|Ea<|Ea<|Eb<|trivial) (Hb<|Hc (aF _ _ rfl rfl rfl)<|Hc (aC _ _)<|Hc (aL _ _ _)<|Hc (aK _ _)<|Hc (bA rfl rfl)<|Hc (aS _ _ _)<|trivial) ⟨rfl,rfl,rfl,rfl,trivial⟩)
  have e1:h1=true:=by have h:=hc5;simpa using h
  refine aH ?_;refine⟨(nR (bS d 1),nQ (bS d 1)),fun hh=>?_,?_⟩
  ·rw [e1] at hAe hNe;exact⟨hAe.symm,hNe.symm⟩
  rw [show hd=h1 by rw [hHe,e1];rfl];exact(bX.wk (Ea<|Ea<|Ea<|Eb<|trivial) (Hb<|Hc (aF _ _ rfl rfl rfl)<|Hc (aC _ _)<|Hc (aL _ _ _)<|Hc (aK _ _)<|Hc (bA rfl rfl)<|Hc (aS _ _ _)<|trivial) ⟨rfl,rfl,rfl,rfl,trivial⟩)
 rintro⟨a',n'⟩ hq0;have hq0:hd=true→a'=a∧n'=n:=hq0;refine Sr<|Dd aE<|Dd (by exact aB rfl rfl sG rfl (hrd0 _ ⟨rfl,rfl,rfl,rfl,trivial⟩))<|Dd aE<|Dd dO<|Dd dO<|Dd aQ<|Da ?_;refine kQ (fun(_:Unit)=>([(0,.ref 1000 0 0 0),(6,.ref 1100 0 0 0),(7,.ref 7 0 0 0),(8,bv hd),(9,sv (bS d 0))],(7,WI a n)::sH d (bZ k 0 0 false) (bH [] 0))) (fun _=>True) ?_ ?_
 ·refine Sr<|Dd aE<|Dd sA<|Zz ?_;refine Cn ?_ ?_<;>intro hc6
  ·have e1:hd=false:=by have h:=hc6;simpa using h
   rw [hHe,XX] at e1;have ha0:a=0:=by rw [hAe,e1.1,e1.2];rfl
   have hn0:n=0:=by rw [hNe,e1.1,e1.2];rfl
   rw [ha0,hn0];refine Rg<|Dd (LK KR)<|Uu (pF sizeOf70)<|Zz ?_;exact⟨(),trivial,(bX.wk (Ea<|Ea<|Ea<|Eb<|Eb<|trivial) (Hb<|Hc (aF _ _ rfl rfl rfl)<|Hc (aC _ _)<|Hc (aL _ _ _)<|Hc (aK _ _)<|Hc (bA rfl rfl)<|Hc (aS _ _ _)<|trivial) ⟨rfl,rfl,rfl,rfl,trivial⟩)⟩
  have e1:hd=true:=by have h:=hc6;simpa using h
  obtain ⟨rfl,rfl⟩:=hq0 e1;refine aH ?_;exact⟨(),trivial,(bX.wk (Ea<|Ea<|Ea<|Eb<|Eb<|trivial) (Hb<|Hc (aF _ _ rfl rfl rfl)<|Hc (aC _ _)<|Hc (aL _ _ _)<|Hc (aK _ _)<|Hc (bA rfl rfl)<|Hc (aS _ _ _)<|trivial) ⟨rfl,rfl,rfl,rfl,trivial⟩)⟩
 rintro _ -;clear hHe hAe hNe hq0 hp1 hp0 hh1 hh0 hA hNn hH;refine kQ (fun(q:bN×Nat)=>([(6,.ref 1100 0 0 0),(8,bv hd)],sH d (bZ k a n false) (bH q.1 q.2))) (fun q=>pH d k=false∧dL q.1 q.2∧eV q.1∧q.1.length≤46*n∧∀ x,cI q.1 x=SK d k a n x) ?_ ?_
 ·refine Sr<|Dd aE<|Dd (Q0 cK sizeOf70)<|Dd eU<|Dd (dK kL)<|Uu (by exact GK rfl sizeOf70 rfl rfl rfl rfl rfl rfl rfl (by simp only [XD,List.length_nil];omega) (by simp only [Zl,encStr];rfl) (by simp only [Zl,encStr];rfl))<|Zz<|Sq ?_;refine fJ.ent (E':=[(0,.ref 1000 0 0 0),(6,.ref 1100 0 0 0),(8,bv hd),(9,sv (bS d 0))]) (H':=sH d (bZ k a n false) (bH [] 0)) (bX.wk (Ea<|Ea<|Eb<|Eb<|trivial) (Hc (aF _ _ rfl rfl rfl)<|Hc (aC _ _)<|Hc (aL _ _ _)<|Hc (aK _ _)<|Hc (bA rfl rfl)<|Hc (aS _ _ _)<|trivial) ⟨rfl,rfl,rfl,rfl,trivial⟩) ?_;obtain ⟨ok,hok⟩:∃ ok,ok=vR d k a n:=⟨_,rfl⟩;rw [← hok] at hld hbad;clear hok;cases hd with
  | true =>
   refine Rg<|Dd aE<|Dd sA<|Dd aE<|Fo<|Fo<|Fo<|Dd dW<|Dd aE<|On aE ?_;refine IE rfl rfl rfl (by rfl) rfl (aB rfl rfl call44 rfl hld) ?_;rintro _ _ ⟨rfl,l,c,q1,q2,q3,q4,rfl⟩;refine On sA<|Dd dW<|Zz ?_;refine Cn ?_ ?_<;>intro hc7
   ·have hok:ok=false:=by have h:=hc7;simpa using h
    refine Sr<|Dd aQ<|Dd aQ<|Zz<|aM ?_;refine fI (H':=(aZ d)) (.inr rfl) rfl (aG rfl) (aG rfl) (Fin.wk (by(simp;done)) (Hc (aF _ _ rfl rfl rfl)<|Hc (aC _ _)<|Hc (aL _ _ _)<|Hc (aK _ _)<|trivial) ⟨rfl,rfl,rfl,rfl,trivial⟩) ?_;exact .inl ⟨by rw [hbad,hok];rfl,rfl,rfl⟩
   have hok:ok=true:=by have h:=hc7;simpa using h
   refine aH ?_;exact⟨(l,c),⟨by rw [hbad,hok];rfl,q1,q2,q3,q4 hok⟩,(bX.wk (Ea<|Eb<|trivial) (Hc (aF _ _ rfl rfl rfl)<|Hc (aC _ _)<|Hc (aL _ _ _)<|Hc (aK _ _)<|Hc (bA rfl rfl)<|Hc (aS _ _ _)<|trivial) ⟨rfl,rfl,rfl,rfl,trivial⟩)⟩
  | false =>
   cases g69:(!decide (bS d 0=ofL (zB 64)))with
   | true =>
    have hbt:pH d k=true:=by
     rw [hbad,show decide (bS d 0=zS)=false by rw [Bool.not_eq_true'] at g69;exact g69];rfl
    refine Rg<|Dd aE<|Dd sA<|Dd aE<|On aE<|On (by exact aB rfl rfl nI rfl (mV _))<|On MB<|Dd dW<|Dd aE<|Fa<|Fa<|Fa<|Dd SC<|Zz ?_;refine Cn ?_ ?_<;>intro hc8
    ·refine Sr<|Dd aQ<|Dd aQ<|Zz<|aM ?_;refine fI (H':=(aZ d)) (.inr rfl) rfl (aG rfl) (aG rfl) (Fin.wk (by(simp;done)) (Hc (aF _ _ rfl rfl rfl)<|Hc (aC _ _)<|Hc (aL _ _ _)<|Hc (aK _ _)<|trivial) ⟨rfl,rfl,rfl,rfl,trivial⟩) ?_;exact .inl ⟨hbt,rfl,rfl⟩
    ((cases hc8;done))
   | false =>
    have hz:decide (bS d 0=zS)=true:=by rw [Bool.not_eq_false'] at g69;exact g69
    rw [hz] at hbad;refine Rg<|Dd aE<|Dd sA<|Dd aE<|On aE<|On (by exact aB rfl rfl nI rfl (mV _))<|On MB<|Dd dW<|Dd aE<|Oa aE ?_;refine IE rfl rfl rfl (by assumption) rfl (aB rfl rfl call44 rfl hld) ?_;rintro _ _ ⟨rfl,l,c,q1,q2,q3,q4,rfl⟩;refine Oa sA<|Dd JH<|Zz ?_;refine Cn ?_ ?_<;>intro hc9
    ·have hok:ok=false:=by have h:=hc9;simpa using h
     refine Sr<|Dd aQ<|Dd aQ<|Zz<|aM ?_;refine fI (H':=(aZ d)) (.inr rfl) rfl (aG rfl) (aG rfl) (Fin.wk (by(simp;done)) (Hc (aF _ _ rfl rfl rfl)<|Hc (aC _ _)<|Hc (aL _ _ _)<|Hc (aK _ _)<|trivial) ⟨rfl,rfl,rfl,rfl,trivial⟩) ?_;exact .inl ⟨by rw [hbad,hok];rfl,rfl,rfl⟩
    have hok:ok=true:=by have h:=hc9;simpa using h
    refine aH ?_;exact⟨(l,c),⟨by rw [hbad,hok];rfl,q1,q2,q3,q4 hok⟩,(bX.wk (Ea<|Eb<|trivial) (Hc (aF _ _ rfl rfl rfl)<|Hc (aC _ _)<|Hc (aL _ _ _)<|Hc (aK _ _)<|Hc (bA rfl rfl)<|Hc (aS _ _ _)<|trivial) ⟨rfl,rfl,rfl,rfl,trivial⟩)⟩
 rintro⟨l,c⟩ ⟨hbf,q1,q2,q3,q4⟩;have hl0:([[PV.int .i64 1],[PV.int .i64 0]]:List (List PV))[0]?=some [PV.int .i64 1]:=rfl;have hl1:([[PV.int .i64 1],[PV.int .i64 0]]:List (List PV))[1]?=some [PV.int .i64 0]:=rfl;have hr1:=yA h.inv hoff k a n 1 false hd l c (by decide) (by omega) (by omega) (by omega);have hon:=S5 (place:=1) (a:=a) (n:=n) (hd:=hd) h (by omega) (by omega) (by omega);obtain ⟨x,hx⟩:∃ x,x=r9 d 1 a n hd:=⟨_,rfl⟩;rw [← hx] at hr1 hon ⊢;obtain ⟨y,hy⟩:∃ y,y=r9 x.2 0 a n hd:=⟨_,rfl⟩;rw [← hy];refine Sq<|Sr<|Dd (by exact bF [[.int .i64 1],[.int .i64 0]] rfl IS rfl rfl rfl rfl rfl (by simp))<|Dd (kZ LA)<|Dd aE<|Zz<|aN ?_;refine bI (σ:=Nat) (fun i=>([(6,.ref 1100 0 0 0),(8,bv hd),(76,.pv (.sl [[.int .i64 1],[.int .i64 0]])),(77,iv 2),(78,iv (i:Int))],sH (WF d x.2 y.2 i) (bZ k a n false) (bH l c))) (fun i=>i≤2∧(0 < i→x.1=0)∧(1 < i→y.1=0)) (fun i=>2 - i) 0 ⟨by omega,fun h=>absurd h (Nat.lt_irrefl _),fun h=>absurd h (by omega)⟩ ?_ ?_
 ·exact(bX.wk (Ea<|Eb<|Eb<|Eb<|Eb<|trivial) (Hc (aF _ _ rfl rfl rfl)<|Hc (aC _ _)<|Hc (aL _ _ _)<|Hc (aK _ _)<|Hc (bA rfl rfl)<|Hc (aS _ _ _)<|trivial) ⟨rfl,rfl,rfl,rfl,trivial⟩)
 rintro i ⟨hi2,hx0,hy0⟩;have h3:i=0∨i=1∨i=2:=by omega
 rcases h3 with rfl|rfl|rfl
 ·refine Sr<|Dd dN<|Zz<|Sq ?_;refine Cn ?_ ?_<;>intro hc10
  ·refine aH<|Sq<|aN<|Sr<|Dd (by exact bJ (m:=0) rfl IS rfl rfl (by decide) rfl rfl rfl)<|Dd (mB aT)<|Dd aQ<|Zz<|Sr<|Dd aE<|Dd aE<|Dd aE<|Dd (by exact aB rfl rfl call45 rfl (hr1))<|Dd aQ<|Zz<|Sr<|Dd aE<|Dd rG<|Zz ?_;refine Cn ?_ ?_<;>intro hc11
   ·have he:¬ x.1=0:=by have h:=hc11;simpa using h
    refine Sr<|Dd aE<|Dd aQ<|Dd aQ<|Zz<|aM ?_;refine fI (H':=(aZ x.2)) (.inr rfl) rfl (aG rfl) (aG rfl) (Fin.wk (by(simp;done)) (Hc (aF _ _ rfl rfl rfl)<|Hc (aC _ _)<|Hc (aL _ _ _)<|Hc (aK _ _)<|trivial) ⟨rfl,rfl,rfl,rfl,trivial⟩) ?_;exact .inr (.inl ⟨hbf,he,rfl,rfl⟩)
   have he:x.1=0:=by have h:=hc11;simpa using h
   have hb:(false||!decide (x.1=0))=false:=by rw [he];rfl
   rw [hb];refine aH<|Rg<|Dd mC<|Dd aE<|Zz ?_;refine⟨1,⟨by omega,fun _=>he,fun h=>absurd h (by omega)⟩,by omega,?_⟩;exact(bX.wk (Ea<|Eb<|Eb<|Eb<|Eb<|trivial) (Hc (aF _ _ rfl rfl rfl)<|Hc (aC _ _)<|Hc (aL _ _ _)<|Hc (aK _ _)<|Hc (bA rfl rfl)<|Hc (aS _ _ _)<|trivial) ⟨rfl,rfl,rfl,rfl,trivial⟩)
  cases hc10
 ·have he0:=hx0 (by omega);have hon:=hon he0;have hr0:=yA hon.inv hon.off k a n 0 false hd l c (by decide) (by have:=hon.inv.n;omega) (by omega) (by omega);rw [← hy] at hr0;refine Sr<|Dd dN<|Zz<|Sq ?_;refine Cn ?_ ?_<;>intro hc12
  ·refine aH<|Sq<|aN<|Sr<|Dd (by exact bJ (m:=1) rfl IS rfl rfl (by decide) rfl rfl rfl)<|Dd (mB aT)<|Dd aQ<|Zz<|Sr<|Dd aE<|Dd aE<|Dd aE<|Dd (by exact aB rfl rfl call45 rfl (hr0))<|Dd aQ<|Zz<|Sr<|Dd aE<|Dd rG<|Zz ?_;refine Cn ?_ ?_<;>intro hc13
   ·have he:¬ y.1=0:=by have h:=hc13;simpa using h
    refine Sr<|Dd aE<|Dd aQ<|Dd aQ<|Zz<|aM ?_;refine fI (H':=(aZ y.2)) (.inr rfl) rfl (aG rfl) (aG rfl) (Fin.wk (by(simp;done)) (Hc (aF _ _ rfl rfl rfl)<|Hc (aC _ _)<|Hc (aL _ _ _)<|Hc (aK _ _)<|trivial) ⟨rfl,rfl,rfl,rfl,trivial⟩) ?_;exact .inr (.inr (.inl ⟨hbf,he0,he,rfl,rfl⟩))
   have he:y.1=0:=by have h:=hc13;simpa using h
   have hb:(false||!decide (y.1=0))=false:=by rw [he];rfl
   rw [hb];refine aH<|Rg<|Dd mC<|Dd aE<|Zz ?_;refine⟨2,⟨by omega,fun _=>he0,fun _=>he⟩,by omega,?_⟩;exact(bX.wk (Ea<|Eb<|Eb<|Eb<|Eb<|trivial) (Hc (aF _ _ rfl rfl rfl)<|Hc (aC _ _)<|Hc (aL _ _ _)<|Hc (aK _ _)<|Hc (bA rfl rfl)<|Hc (aS _ _ _)<|trivial) ⟨rfl,rfl,rfl,rfl,trivial⟩)
  cases hc12
 have he0:=hx0 (by omega);have he1:=hy0 (by omega);refine Sr<|Dd dN<|Zz<|Sq ?_;refine Cn ?_ ?_<;>intro hc14
 ·cases hc14
 refine bE<|Sr<|Dd aE<|Dd aQ<|Dd aQ<|Zz<|aM ?_;refine fI (H':=(sH y.2 (bZ k a n false) (bH l c))) (.inr rfl) rfl (aG rfl) (aG rfl) (Fin.wk (by(simp;rfl)) (Hc (aF _ _ rfl rfl rfl)<|Hc (aC _ _)<|Hc (aL _ _ _)<|Hc (aK _ _)<|Hc (bA rfl rfl)<|Hc (aS _ _ _)<|trivial) ⟨rfl,rfl,rfl,rfl,trivial⟩) ?_;exact .inr (.inr (.inr ⟨hbf,he0,he1,rfl,l,c,q1,q2,q3,q4,rfl⟩))
end Go.Proofs.YtmkgeogoojcciaaGreatDoor
section
namespace Go.Abs
theorem bP.eqv {P:Program} {N:Nat} {o:Oper} {E:bC} {H H':aA} {v v':AV} (h:bP P N o E H v H') (e:v=v'):bP P N o E H v' H':=e▸h
end Go.Abs
namespace Go.Proofs.YtmkgeogoojcciaaGreatDoor
open Go.Proofs.Tryz
open Go.Abs Go.Lib
theorem FR (d:DSt) (k a n:Nat) (b:Bool) (l:bN) (c:Nat) (key:ByteArray) :
  aI Tryz.prog 24 [.ref 1100 0 0 0,sv key] (sH d (bZ k a n b) (bH l c)) (fun r H'=>r=.tup [sv (dE l key),bv (cI l key).isSome]∧H'=sH d (bZ k a n b) (bH l c)):=by
 have hr:(.tup [((kK (C7 (bM l)) key).getD (sv sNil)),.pv (.bool (kK (C7 (bM l)) key).isSome)]:AV)=.tup [sv (dE l key),bv (cI l key).isSome]:=by
  rw [AN,sP]
 refine Bd func24 rfl ntmps24<|Sr<|Dd aQ<|Dd aQ<|Zz<|Sq<|Sr<|Dd aE<|Dd (by exact cJ rfl fL rfl rfl rfl rfl)<|Zz ?_;refine Cn ?_ ?_<;>intro hc1
 ·cases hc1
 refine aH<|Sr<|Dd aE<|Dd eU<|Dd (dK qA)<|Dd (eC bO)<|Dd aE<|Dd (by exact bP.eqv (DA (κ:=eT) (k:=key) (l:=bM l) rfl aU aJ rfl rfl rfl rfl rfl eP (.inl rfl)) hr)<|Dd aE<|Dd dO<|Dd dO<|Dd aQ<|Dd aQ<|Zz<|Sr<|Dd aE<|Dd aE<|Dd aQ<|Dd aQ<|Zz<|aM ?_;refine fI (H':=(sH d (bZ k a n b) (bH l c))) (.inr rfl) rfl (aG rfl) (aG rfl) (Fin.wk (by(simp;done)) (Hc (aF _ _ rfl rfl rfl)<|Hc (aC _ _)<|Hc (aL _ _ _)<|Hc (aK _ _)<|Hc (bA rfl rfl)<|Hc (aS _ _ _)<|trivial) ⟨rfl,rfl,rfl,rfl,rfl,rfl,trivial⟩) ?_;exact Qq
theorem HN (d:DSt) (k a n:Nat) (b:Bool) (l:bN) (c:Nat) (hst:dL l c) (hl:l.length < 1099511627776) :
  aI Tryz.prog 19 [.ref 1100 0 0 0] (sH d (bZ k a n b) (bH l c)) (fun r H'=>r=.pv (aW (cG l))∧H'=sH d (bZ k a n b) (bH l c)):=by
 have hcl:bB ((951,PO 1101)::sH d (bZ k a n b) (bH l c)):=bB.app (D:=[(951,PO 1101)]) (j3.spec ⟨by
  intro r hr x hx;simp only [bx,XE] at hr;subst hr;rw [XE] at hx;subst hx;exact .mp rfl,trivial⟩) (oO _ _ _ _ _ _ _)
 have hso:=zQ (L:=l.map Prod.fst) (by rw [XB];exact hl) WB ((951,PO 1101)::sH d (bZ k a n b) (bH l c)) (HM 1101 l c _ hl hst rfl rfl (by decide)) rfl rfl rfl rfl hcl (by simp;rfl);change aI _ _ _ _ fun r H'=>r=.pv (aW (cG l))∧H'=_ at hso;refine Bd func19 rfl ntmps19<|Sr<|Dd aQ<|Zz<|Sq<|Sr<|Dd aE<|Dd (by exact cJ rfl fL rfl rfl rfl rfl)<|Zz ?_;refine Cn ?_ ?_<;>intro hc1
 ·cases hc1
 refine aH<|Sr<|Dd aE<|Dd eU<|Dd (dK qA)<|Dd (eC bO)<|Dd (by exact aB rfl rfl WO rfl (HL 1101 _ rfl rfl))<|Dd (by exact aB rfl rfl BN rfl (hso))<|Dd aQ<|Zz<|aM ?_;refine a7 (H':=(sH d (bZ k a n b) (bH l c))) (.inr rfl) rfl (aG rfl) (Fin.wk (by(simp;done)) (Hc (aF _ _ rfl rfl rfl)<|Hc (aC _ _)<|Hc (aL _ _ _)<|Hc (aK _ _)<|Hc (bA rfl rfl)<|Hc (aS _ _ _)<|trivial) ⟨rfl,rfl,rfl,rfl,rfl,rfl,trivial⟩) ?_;exact Qq
end Go.Proofs.YtmkgeogoojcciaaGreatDoor
end
namespace Go.Proofs.YtmkgeogoojcciaaGreatDoor
open Go.Proofs.Tryz
open Go.Abs Go.Lib
theorem lQ {d:DSt} {N k a n:Nat} {C:CT} (hc:Calm d N) (hI:SInv d.cells k a n C) (hN:4≤N) (hk:k=(N - 2) / 2) :
  aI Tryz.prog 12 [.ref 1000 0 0 0] (aZ d) (fun r H'=>r=.tup [.ref 1100 0 0 0,iv 0]∧∃ l c,dL l c∧eV l∧l.length≤46*n∧(∀ x,cI l x=C x)∧H'=sH d (bZ k a n false) (bH l c)):=by
 have hn2:=hc.inv.ok.n2;have hcn:=hc.inv.n;obtain ⟨o1,o2,o3,o4,o5,o6,o7⟩:=KL hc hI (by omega);have ho:=QK hc.on hN k a n (HB d k) hk o1.symm o2.symm rfl;have hb:pH d k=false:=by
  rw [pH,o1,o2,o4];rcases o3 with o3|o3
  ·rw [o3];rfl
  rw [o3.1,o3.2,decide_eq_true rfl];rfl
 have r1:r9 d 1 a n (HB d k)=(0,d):=by rw [r9,XA o6]
 have r0:r9 d 0 a n (HB d k)=(0,d):=by rw [r9,XA o7]
 rw [hb,r1,r0] at ho;refine ho.mono ?_;rintro r H' (⟨h,_⟩|⟨_,h,_⟩|⟨_,_,h,_⟩|⟨_,_,_,rfl,l,c,q1,q2,q3,q4,rfl⟩)
 ·cases h
 ·exact absurd rfl h
 ·exact absurd rfl h
 exact⟨rfl,l,c,q1,q2,q3,fun x=>by rw [q4,o5],rfl⟩
theorem nU {s:ByteArray} (h:eB s=true):s.size≤200:=by rw [eB,XK,XI] at h;have:=h.2;omega
theorem tI {l2:bN} {P:List ByteArray} (hw:bG l2 P=0) (hl:l2.length≤1000) (hP:P.length≤1000):(a8 l2 (fH P)).length < 100000000:=by
 obtain ⟨k1,k2⟩:=mD hw;have hD:=rX P;have h:=nL (l:=l2) (P:=fH P) (M:=20000) (by decide) (by decide) (fun p hp=>by
  have:=k1 p hp;have:=nU this.1;omega) (fun s hs=>by
  have:=nU (k2 s (oY.1 hs));omega) (by omega)
 have h8:(2*l2.length+2+(fH P).length)*(20000+22)≤3002*20022:=Nat.mul_le_mul (by omega) (by omega);omega
theorem EO {cells:List ByteArray} {k a n:Nat} {C:CT} (hI:SInv cells k a n C) (hk:k < 4000) {l:bN} (hn:eV l) (hl:∀ x,cI l x=C x):(a8 l []).length < 100000000000:=by
 have hw:=hI.wrong hn hl;have hlen:=hI.len hn hl;have hnk:=hI.nk;obtain ⟨k1,k2⟩:=mD hw;have h:=nL (l:=l) (P:=[]) (M:=20000) (by decide) (by decide) (fun p hp=>by
  have:=k1 p hp;have:=nU this.1;omega) (fun s hs=>by cases hs) (by rw [List.length_nil];omega)
 have h8:(2*l.length+2+([]:List ByteArray).length)*(20000+22)≤400000*20022:=Nat.mul_le_mul (by rw [List.length_nil];omega) (by omega);omega
def wL (k n:Nat) (l2:bN) (P:List ByteArray):Int:=if uT k n false l2 P = -1 then 0 else uT k n false l2 P
theorem DJ {C:CT} {l2:bN} {D:List ByteArray} (h:l2.length+D.length=0):oF C l2 D=C:=by have h1:l2=[]:=List.length_eq_zero_iff.1 (by omega);have h2:D=[]:=List.length_eq_zero_iff.1 (by omega);subst h1 h2;funext x;rw [oF,W9 XR];show ((none:Option ByteArray).orElse fun _=>C x)=C x;rfl
theorem lZ (k n:Nat) (l2:bN) (P:List ByteArray) :
  (uT k n false l2 P=0∧bG l2 P=0∧l2.length+(fH P).length=0)∨(uT k n false l2 P = -1∧bG l2 P=0∧0 < l2.length+(fH P).length∧n+cM (a8 l2 (fH P))≤k) ∨
  (uT k n false l2 P=21∧bG l2 P=0∧0 < l2.length+(fH P).length∧k < n+cM (a8 l2 (fH P)))∨(uT k n false l2 P=bG l2 P∧¬ bG l2 P=0):=by
 have e:uT k n false l2 P=if ¬ bG l2 P=0 then bG l2 P else if l2.length+(fH P).length=0 then 0 else if k < n+cM (a8 l2 (fH P))then 21 else -1:=W9 Bool.false_ne_true
 rw [e];by_cases h1:bG l2 P=0
 ·rw [W9 (fun h=>h h1)];by_cases h2:l2.length+(fH P).length=0
  ·rw [XA h2];exact .inl ⟨rfl,h1,h2⟩
  rw [W9 h2];by_cases h3:k < n+cM (a8 l2 (fH P))
  ·rw [XA h3];exact .inr (.inr (.inl ⟨rfl,h1,by omega,h3⟩))
  rw [W9 h3];exact .inr (.inl ⟨rfl,h1,by omega,by omega⟩)
 rw [XA h1];exact .inr (.inr (.inr ⟨rfl,h1⟩))
structure St (N k:Nat) (tl:List ByteArray) (d:DSt) (a n:Nat) (l:bN) (c:Nat) (C:CT):Prop where
 calm:Calm d N
 inv:SInv d.cells k a n C
 st:dL l c
 nd:eV l
 kv:∀ x,cI l x=C x
 tl:d.cells.drop (2*k+2)=tl
theorem TY {cells S:List ByteArray} {p k:Nat} {x y:ByteArray} (h:p+S.length≤2*k+2):(((jX cells p S).set 1 x).set 0 y).drop (2*k+2)=cells.drop (2*k+2):=by refine List.ext_getElem? fun j=>?_;rw [List.getElem?_drop,List.getElem?_drop,List.getElem?_set_ne (by omega),List.getElem?_set_ne (by omega),iB,W9 (by omega)]
theorem L7 {N k:Nat} {tl:List ByteArray} {d:DSt} {a n:Nat} {l l':bN} {c c':Nat} {C:CT} (h:St N k tl d a n l c C) (hk:k < 4000) {l2:bN} {P:List ByteArray} (hn2:eV l2) (hw:bG l2 P=0) (h0:0 < l2.length+(fH P).length) (hfit:n+cM (a8 l2 (fH P))≤k) (q1:dL l' c') (q2:eV l') (q4:∀ x,cI l' x=oF (cI l) l2 (fH P) x) :
  (iO d k a n (a8 l2 (fH P))).1=0∧St N k tl (iO d k a n (a8 l2 (fH P))).2 a (n+cM (a8 l2 (fH P))) l' c' (oF C l2 (fH P)):=by
 have hkn:=h.inv.kn;have hcn:=h.calm.inv.n;have hak:a*k≤k:=by
  have:=h.inv.a2;rcases(show a=0∨a=1 by omega)with e|e<;>subst e<;>omega
 obtain ⟨a1,a2,a3⟩:=rZ h.calm (k:=k) (a:=a) (cn:=n) (t:=a8 l2 (fH P)) (by omega) (by have:=h.calm.inv.ok.n2;omega) h.inv.a2 hfit;have hw2:bG l2 (fH P)=0:=by
  obtain ⟨k1,k2⟩:=mD hw;exact vU (fun p hp=>⟨(k1 p hp).1,fun hm=>(k1 p hp).2.1 (oY.1 hm),(k1 p hp).2.2⟩) (fun s hs=>k2 s (oY.1 hs))
 refine⟨a1,a2,?_,q1,q2,fun x=>?_,?_⟩
 ·rw [a3];exact MF h.inv hn2 (wM P) h0 hw2 hfit (by omega)
 ·rw [q4,oF,oF,h.kv]
 rw [a3,TY (by rw [cV];omega)];exact h.tl
theorem g5 {N k:Nat} {tl:List ByteArray} {d:DSt} {a n:Nat} {l:bN} {c:Nat} {C:CT} (h:St N k tl d a n l c C) (hk:k < 4000) (l2:bN) (c2:Nat) (P:List ByteArray) (hst2:dL l2 c2) (hnd2:eV l2) (hl2:l2.length≤1000) (hP:P.length≤1000) :
  aI Tryz.prog 14 [.ref 1100 0 0 0,.mp 950 0,.pv (aW P)] ((950,bH l2 c2)::sH d (bZ k a n false) (bH l c)) (fun r H'=>r=iv (wL k n l2 P)∧∃ d' n' l' c',St N k tl d' a n' l' c' (if wL k n l2 P=0 then oF C l2 (fH P)else C)∧n'=(if uT k n false l2 P = -1 then n+cM (a8 l2 (fH P))else n)∧H'=(950,bH l2 c2)::sH d' (bZ k a n' false) (bH l' c')):=by
 have hcm:=KF h.calm.inv k a n false l c l2 c2 P hk h.inv.a2 h.inv.nk (by omega) h.st h.nd hst2 hnd2 (by omega) (by omega) (fun hw=>tI hw hl2 hP);refine hcm.mono ?_;have hcs:=lZ k n l2 P;rintro r H' (⟨h1,rfl,rfl⟩|⟨h1,h2,rfl,rfl⟩|⟨h1,h2,rfl,l',c',q1,q2,q3,q4,rfl⟩)
 ·have hE:wL k n l2 P=uT k n false l2 P:=W9 h1;rw [hE,W9 h1];refine⟨rfl,d,n,l,c,?_,rfl,rfl⟩;rcases hcs with⟨e1,e2,e3⟩|⟨e1,_⟩|⟨e1,_⟩|⟨e1,e2⟩
  ·rw [XA e1,DJ e3];exact h
  ·exact absurd e1 h1
  ·rw [W9 (by rw [e1];decide)];exact h
  rw [W9 (by rw [e1];exact e2)];exact h
 ·exfalso;rcases hcs with⟨e1,_⟩|⟨e1,e2,e3,e4⟩|⟨e1,_⟩|⟨e1,e2⟩
  ·rw [h1] at e1;cases e1
  ·exact h2 (rZ h.calm (k:=k) (a:=a) (cn:=n) (t:=a8 l2 (fH P)) (by have:=h.inv.kn;have:=h.calm.inv.n;omega) (by have:=h.calm.inv.ok.n2;have:=h.calm.inv.n;omega) h.inv.a2 e4).1
  ·rw [h1] at e1;cases e1
  rw [h1] at e1;have:=eZ l2 P;omega
 have hE:wL k n l2 P=0:=XA h1;rw [hE,XA rfl,XA h1];rcases hcs with⟨e1,_⟩|⟨e1,e2,e3,e4⟩|⟨e1,_⟩|⟨e1,e2⟩
 ·rw [h1] at e1;cases e1
 ·exact⟨rfl,_,_,l',c',(L7 h hk hnd2 e2 e3 e4 q1 q2 q4).2,rfl,rfl⟩
 ·rw [h1] at e1;cases e1
 rw [h1] at e1;have:=eZ l2 P;omega
theorem BE {N k:Nat} {tl:List ByteArray} {d:DSt} {a n:Nat} {l:bN} {c:Nat} {C:CT} (h:St N k tl d a n l c C) (hk:k < 4000) (P:List ByteArray) (hP:P.length≤1000) :
  aI Tryz.prog 14 [.ref 1100 0 0 0,.pv .nilm,.pv (aW P)] (sH d (bZ k a n false) (bH l c)) (fun r H'=>r=iv (wL k n [] P)∧∃ d' n' l' c',St N k tl d' a n' l' c' (if wL k n [] P=0 then oF C [] (fH P)else C)∧n'=(if uT k n false [] P = -1 then n+cM (a8 [] (fH P))else n)∧H'=sH d' (bZ k a n' false) (bH l' c')):=by
 have hcm:=KG h.calm.inv k a n false l c P hk h.inv.a2 h.inv.nk (by omega) h.st h.nd (by omega) (fun hw=>tI hw (by decide) hP);refine hcm.mono ?_;have hcs:=lZ k n [] P;rintro r H' (⟨h1,rfl,rfl⟩|⟨h1,h2,rfl,rfl⟩|⟨h1,h2,rfl,l',c',q1,q2,q3,q4,rfl⟩)
 ·have hE:wL k n [] P=uT k n false [] P:=W9 h1;rw [hE,W9 h1];refine⟨rfl,d,n,l,c,?_,rfl,rfl⟩;rcases hcs with⟨e1,e2,e3⟩|⟨e1,_⟩|⟨e1,_⟩|⟨e1,e2⟩
  ·rw [XA e1,DJ e3];exact h
  ·exact absurd e1 h1
  ·rw [W9 (by rw [e1];decide)];exact h
  rw [W9 (by rw [e1];exact e2)];exact h
 ·exfalso;rcases hcs with⟨e1,_⟩|⟨e1,e2,e3,e4⟩|⟨e1,_⟩|⟨e1,e2⟩
  ·rw [h1] at e1;cases e1
  ·exact h2 (rZ h.calm (k:=k) (a:=a) (cn:=n) (t:=a8 [] (fH P)) (by have:=h.inv.kn;have:=h.calm.inv.n;omega) (by have:=h.calm.inv.ok.n2;have:=h.calm.inv.n;omega) h.inv.a2 e4).1
  ·rw [h1] at e1;cases e1
  rw [h1] at e1;have:=eZ [] P;omega
 have hE:wL k n [] P=0:=XA h1;rw [hE,XA rfl,XA h1];rcases hcs with⟨e1,_⟩|⟨e1,e2,e3,e4⟩|⟨e1,_⟩|⟨e1,e2⟩
 ·rw [h1] at e1;cases e1
 ·exact⟨rfl,_,_,l',c',(L7 h hk vK e2 e3 e4 q1 q2 q4).2,rfl,rfl⟩
 ·rw [h1] at e1;cases e1
 rw [h1] at e1;have:=eZ [] P;omega
def LH (k:Nat) (l:bN):Int:=if k < cM (bW l)then 21 else 0
theorem mG {N k:Nat} {tl:List ByteArray} {d:DSt} {a n:Nat} {l:bN} {c:Nat} {C:CT} (h:St N k tl d a n l c C) (hk:k < 4000) :
  aI Tryz.prog 21 [.ref 1100 0 0 0] (sH d (bZ k a n false) (bH l c)) (fun r H'=>r=iv (LH k l)∧∃ d' a' n',St N k tl d' a' n' l c C∧(LH k l=0→d'.cells=gR k (bW l) tl)∧H'=sH d' (bZ k a' n' false) (bH l c)):=by
 have hkn:=h.inv.kn;have hcn:=h.calm.inv.n;have hlen:=h.inv.len h.nd h.kv;have hnk:=h.inv.nk;have hsc:=MJ h.calm.inv k a n l c hk (by omega) h.inv.a2 h.inv.nk (by omega) h.st (by omega) (EO h.inv hk h.nd h.kv);refine hsc.mono ?_;rintro r H' (⟨h1,rfl,rfl⟩|⟨h1,rfl,a',n',q1,q2,q3,rfl⟩)
 ·have hE:LH k l=21:=XA h1;rw [hE];exact⟨rfl,d,a,n,h,fun e=>(by cases e),rfl⟩
 have hE:LH k l=0:=W9 (by omega);obtain ⟨s1,s2,s3⟩:=OJ h.calm (k:=k) (a:=a) (w:=bW l) (by omega) (by have:=h.calm.inv.ok.n2;omega) h.inv.a2 h1;obtain ⟨rfl,rfl⟩:=q3 s1;rw [hE,s1];have htl:(gR k (bW l) tl).drop (2*k+2)=tl:=by
  have e1:gR k (bW l) tl=(hS 0 0 (cM (bW l))::hS 1 0 (cM (bW l))::(iW 2 (bW l) (cM (bW l))++(zR (k - cM (bW l))++zR k)))++tl:=by rw [gR];simp only [List.cons_append,List.append_assoc]
  rw [e1];exact List.drop_left' (by rw [XD,XD,XC,cV,XC,List.length_replicate,List.length_replicate];omega)
 rw [h.tl] at s3;have hiv:=EP h.inv h.nd h.kv h1 (by omega);rw [h.tl] at hiv;exact⟨rfl,_,0,cM (bW l),⟨s2,by rw [s3];exact hiv,h.st,h.nd,h.kv,by rw [s3,htl]⟩,fun _=>s3,rfl⟩
theorem EF {N:Nat} (h1:4≤N) (h2:N≤8000) {l:bN} {c:Nat} (q1:dL l c) (q2:eV l) (q3:∀ x,cI l x=none):St N ((N - 2) / 2) ((jK N).cells.drop (2*((N - 2) / 2)+2)) (jK N) 0 0 l c (fun _=>none) :=⟨oH (by omega) h2,nN h1,q1,q2,q3,rfl⟩
end Go.Proofs.YtmkgeogoojcciaaGreatDoor
namespace Go.Abs
section
section
variable {P:Program} {N:Nat} {o:Oper} {E:bC} {H:aA} {T:TypeId} {x y:Operand}
theorem iD {e:TypeId} {kk:IntKind} {n:Int} {m sz cnt i k k2:Nat} {rows:List (List PV)} (ho:o.op=.indexAddr T x y) (hT:P.underlying T=some (.array cnt e)) (hs:∀ w,(sizeOf e).run P w=.ok sz w)
  (hx:aO E x=some (.pad rows i k)) (hy:aO E y=some (.pv (.int kk n))) (h0:0≤n) (hm:n.toNat=m) (hi:m < cnt) (hk:k+m*sz=k2):bP P N o E H (.pad rows i k2) H :=
 .of_run fun a w I ι hr he=>by
  have h:=aD he hx;have hn:=(aD he hy).int_inv;generalize hc:a.eval x=c at h;subst hk;cases h with
  | pad b off cap sz1 h0' hsz hlen cs hb hcc hp =>
   refine⟨.pointer (some ⟨b,off+i*sz1+(k+m*sz),none⟩),?_,.pad b off cap sz1 h0' hsz hlen cs hb hcc hp⟩;simp only [execOp,ho,hc,hn];have h5:n < (cnt:Int):=by omega
   simp [Instr.indexAt,run_underlying hT,Instr.sureAddr,asIntOf,h0,h5,hs,hm,Addr.add_lit,Nat.add_assoc]
end
end
end Go.Abs
namespace Go.Proofs.YtmkgeogoojcciaaGreatDoor
open Go.Proofs.Tryz
open Go.Abs Go.Lib
structure GOp where
 kind:Int
 put:List (ByteArray×ByteArray)
 drop:List ByteArray
 a:Int
 b:Int
 c:Int
def tX (p:ByteArray×ByteArray):List PV:=[.str p.1,.str p.2]
def QB (l:List (ByteArray×ByteArray)):PV:=.sl (l.map tX)
def tW (o:GOp):List PV:=[.int .i64 o.kind,QB o.put,aW o.drop,.int .i64 o.a,.int .i64 o.b,.int .i64 o.c]
def kF (l:List GOp):PV:=.sl (l.map tW)
theorem CW (l:bN):2*(cG l).length=(fG l).length:=(f7 (fun x=>x) (dE l) (cG l)).symm
theorem Fin.stK {G0 H1 H':aA} {id g n:Nat} {ob:Ob} (l:List ByteArray) (hH:H1.get id=some ob) (hg:ob.g=g) (hps:ob.rows=cL l) (hn:n=l.length) (hno:H'.get id=none) (hHO:BS H1 H' H') (hk:LM H' H1 G0) :
  Fin G0 H1 (.osl id g 0 n) H' (.pv (aW l)):=by
 subst hg hn;exact Fin.fz (id:=id) (ob:=ob) (l.map encStr) hH (hps.trans (lL l)) (.osl (kE encStr l)) hno hHO hk
theorem M1 (key value:ByteArray) (H:aA) (h:H.get 950=none):aI Tryz.prog 23 [sv key,sv value] H (fun r H'=>r=.mp 950 0∧H'=(950,bH (dZ [(key,value)]).1 (dZ [(key,value)]).2)::H):=by refine Bd func23 rfl ntmps23<|Sr<|Dd aQ<|Zz<|Sr<|Dd (by exact gY (id:=950) eT rfl h)<|Dd aE<|Dd aE<|Uu (by exact BU (κ:=eT) (.inr rfl) aU aJ rfl rfl rfl rfl rfl rfl rfl rfl)<|Dd aE<|Dd aQ<|Zz<|aM ?_;refine a7 (H':=((950,bH (dZ [(key,value)]).1 (dZ [(key,value)]).2)::H)) (.inr rfl) rfl (aG rfl) (Fin.get' (fun j=>gL _ _ _ _ j)) ?_;exact Qq
theorem M8 (l:List (ByteArray×ByteArray)) (H:aA) (h:H.get 950=none) (hl:l.length < 1099511627776):aI Tryz.prog 15 [.pv (QB l)] H (fun r H'=>r=.mp 950 0∧H'=(950,bH (dZ l).1 (dZ l).2)::H):=by
 have hml:(l.map tX).length=l.length:=XB _;refine Bd func15 rfl ntmps15<|Sr<|Dd aQ<|Zz<|Sr<|Dd (by exact gY (id:=950) eT rfl h)<|Dd aQ<|Zz<|Sq<|Sr<|Dd aQ<|Zz<|aN ?_;refine bI (σ:=Nat) (fun k=>([(0,.pv (QB l)),(3,.mp 950 0),(4,iv (k:Int))],(950,bH (dZ (l.take k)).1 (dZ (l.take k)).2)::H)) (fun k=>k≤l.length) (fun k=>l.length - k) 0 (XS _) ?_ ?_
 ·exact E0
 intro k hk;refine Sq<|Sr<|Dd aE<|Dd aE<|Dd (kZ lF)<|Dd dN<|Zz ?_;refine Cn ?_ ?_<;>intro hc1
 ·have hlt:k < l.length:=by have:=W7 hc1;omega
  obtain ⟨p,hp⟩:=aY hlt;have hi:=dC (f:=tX) hp;have hnx:dZ (l.take (k+1))=(f0 (dZ (l.take k)).1 p.1 p.2 (dZ (l.take k)).2,lV (dZ (l.take k)).1 p.1 (dZ (l.take k)).2):=by rw [cY hp];exact EX _ _ _
  refine aH<|Sq<|aN<|bK follows<|Cs (fun _ _=>aE)<|Cs (fun _ _=>aE)<|Cs (fun _ _=>aE)<|Cs (fun _ _=>(BT QA))<|Cs (fun H1 hH=>by exact iD rfl lE sizeOf9 rfl rfl (by omega) (by exact XM _) (by decide) rfl)<|Cs (fun _ _=>(mB aV))<|Cs (fun _ _=>aE)<|Cs (fun _ _=>aE)<|Cs (fun _ _=>(BT QA))<|Cs (fun H1 hH=>by exact iD rfl lE sizeOf9 rfl rfl (by omega) (by exact XM _) (by decide) rfl)<|Cs (fun _ _=>(mB aV)) ?_;refine bY (r:=⟨_,none,[_]⟩) (DStep.plain rfl (fun H1 hH=>by exact gZ (κ:=eT) (l:=bM (dZ (l.take k)).1) (.inl rfl) aU aJ rfl ((hH _ rfl).trans rfl) rfl rfl rfl rfl rfl (mQ _ _ _ _) (oV _ _ _))) rfl ?_;refine cQ<|Kr<|Rg<|Dd aE<|Dd mC<|Da ?_;refine⟨k+1,by omega,by omega,?_⟩;rw [hnx];exact bX.get' ⟨⟨_,rfl,rfl⟩,⟨_,rfl,rfl⟩,⟨_,rfl,rfl⟩,trivial⟩ (fun j=>gL _ _ _ _ j)
 have hge:k=l.length:=by have:=W8 hc1;omega
 subst hge;rw [List.take_length];refine bE<|Sr<|Dd aE<|Dd aQ<|Zz<|aM ?_;refine a7 (H':=((950,bH (dZ l).1 (dZ l).2)::H)) (.inr rfl) rfl (aG rfl) Fin.refl ?_;exact Qq
theorem F2 (d:DSt) (k a n:Nat) (b:Bool) (l:bN) (c:Nat) (hst:dL l c) (hnd:eV l) (hl:l.length < 1000000000) :
  aI Tryz.prog 18 [.ref 1100 0 0 0] (sH d (bZ k a n b) (bH l c)) (fun r H'=>r=.pv (aW (fG l))∧H'=sH d (bZ k a n b) (bH l c)):=by
 have hks:=HN d k a n b l c hst (by omega);have hsl:=gX l;have hml:((cG l).map encStr).length=(cG l).length:=XB _;have hT:∀ i,i≤(cG l).length→(((cG l).take i).flatMap fun x=>[x,dE l x]).length=2*i:=fun i hi=>by rw [f7,XP];omega
 refine Bd func18 rfl ntmps18<|Sr<|Dd aQ<|Zz<|Sr<|Dd aE<|Dd (by exact aB rfl rfl call19 rfl (hks))<|Dd aQ<|Zz<|Sr<|Dd (by exact kJ (id:=905) (sz:=1) (ty:=9) rfl rfl rfl)<|Zz<|Sq<|Sr<|Dd aQ<|Zz<|aN ?_;refine bI (σ:=Nat) (fun i=>([(0,.ref 1100 0 0 0),(3,.pv (aW (cG l))),(4,.osl 905 i 0 (2*i)),(5,iv (i:Int))],(905,⟨i,1,9,cL (((cG l).take i).flatMap fun x=>[x,dE l x])⟩)::sH d (bZ k a n b) (bH l c))) (fun i=>i≤(cG l).length) (fun i=>(cG l).length - i) 0 (XS _) ?_ ?_
 ·exact(bX.wk (Ea<|Eb<|Ea<|Eb<|trivial) (Hc (fT _ _)<|Hc (aF _ _ rfl rfl rfl)<|Hc (aC _ _)<|Hc (aL _ _ _)<|Hc (aK _ _)<|Hc (by(simp;exact⟨rfl,rfl⟩))<|Hc (aS _ _ _)<|trivial) ⟨rfl,rfl,rfl,rfl,rfl,rfl,trivial⟩)
 intro i hi;have hTi:=hT i hi;refine Sq<|Sr<|Dd aE<|Dd aE<|Dd (kZ aP)<|Dd dN<|Zz ?_;refine Cn ?_ ?_<;>intro hc1
 ·have hlt:i < (cG l).length:=by have:=W7 hc1;omega
  obtain ⟨s,hs⟩:=aY hlt;have his:=dC (f:=encStr) hs;have hin:(cI l s).isSome=true:=by
   cases e:cI l s with
   | some v=>rfl
   | none=>exact absurd (j5.1 (XL hs)) (fQ.1 e)
  have hg:=FR d k a n b l c s;rw [hin] at hg;have hnx:((cG l).take (i+1)).flatMap (fun x=>[x,dE l x])=(((cG l).take i).flatMap fun x=>[x,dE l x])++[s,dE l s]:=by rw [cY hs,List.flatMap_append];rfl
  refine aH<|Sq<|aN<|Sr<|Dd aE<|Dd aE<|Dd aE<|Dd (BT b5)<|Dd (mB aV)<|Dd (by exact aB rfl rfl WT rfl (iT hg _ ⟨rfl,rfl,rfl,rfl,rfl,rfl,trivial⟩ (by simp;rfl)))<|Dd aE<|Dd dO<|Dd dO<|Dd aQ<|Dd aQ<|Zz<|Sq<|Sr<|Dd aE<|Dd sA<|Zz ?_;refine Cn ?_ ?_<;>intro hc2
  ·cases hc2
  refine aH<|Rg<|Dd aE<|Dd aE<|Dd aE<|Dd (BT b5)<|Dd (mB aV)<|Dd aE<|Dd (by exact bF [[.str s],[.str (dE l s)]] rfl b5 rfl rfl rfl rfl rfl (qQ s (dE l s)))<|Dd (by exact fB (k:=2*(i+1)) (ps:=[[.str s],[.str (dE l s)]]) rfl b5 LJ rfl rfl rfl rfl rfl ((fD _).trans hTi) rfl (qQ _ _) (m:=2) rfl (by omega) (by omega) (uW _ [s,dE l s]))<|Dd aQ<|Zz<|Rg<|Dd aE<|Dd mC<|Da ?_;refine⟨i+1,by omega,by omega,?_⟩;rw [hnx];exact(bX.wk (Ea<|Eb<|Ea<|Eb<|trivial) (Hc (fT _ _)<|Hc (aF _ _ rfl rfl rfl)<|Hc (aC _ _)<|Hc (aL _ _ _)<|Hc (aK _ _)<|Hc (by(simp;exact⟨rfl,rfl⟩))<|Hc (aS _ _ _)<|trivial) ⟨rfl,rfl,rfl,rfl,rfl,rfl,trivial⟩)
 have hge:i=(cG l).length:=by have:=W8 hc1;omega
 subst hge;rw [List.take_length] at hTi ⊢;refine bE<|Sr<|Dd aE<|Dd aQ<|Zz<|aM ?_;have hkl:((cG l).flatMap fun x=>[x,dE l x])=fG l:=rfl;refine a7 (H':=(sH d (bZ k a n b) (bH l c))) (.inr rfl) rfl (aG rfl) (Fin.stK (fG l) rfl rfl rfl (CW l) rfl ⟨⟨_,rfl,rfl⟩,(by exact aF _ _ rfl rfl rfl),⟨_,rfl,rfl⟩,(by exact aC _ _),⟨_,rfl,rfl⟩,(by exact aL _ _ _),⟨_,rfl,rfl⟩,(by exact aK _ _),⟨_,rfl,rfl⟩,(by(simp;exact⟨rfl,rfl⟩)),⟨_,rfl,rfl⟩,(by exact aS _ _ _),trivial⟩ ⟨rfl,rfl,rfl,rfl,rfl,rfl,trivial⟩) ?_;exact Qq
theorem IZ (a b:List ByteArray) (H:aA) (ha:a.length < 1000000000) (hb:b.length < 1000000000):aI Tryz.prog 54 [.pv (aW a),.pv (aW b)] H (fun r H'=>r=bv (decide (a=b))∧H'=H):=by
 refine Pu ?_;have hma:(a.map encStr).length=a.length:=XB _;have hmb:(b.map encStr).length=b.length:=XB _;refine Bd func54 rfl ntmps54<|Sr<|Dd aQ<|Zz<|Sq<|Sr<|Dd aE<|Dd (kZ aP)<|Dd aE<|Dd (kZ aP)<|Dd rG<|Zz ?_;refine Cn ?_ ?_<;>intro hc1
 ·have hq:¬ a.length=b.length:=by have h:=hc1;simp at h;omega
  have hf:decide (a=b)=false:=decide_eq_false fun e=>hq (by rw [e]);rw [hf];exact Sr<|Dd aQ<|Zz<|aM<|Rt<|Qq
 have hq:a.length=b.length:=by have h:=hc1;simp at h;omega
 refine aH<|Sq<|Sr<|Dd aQ<|Zz<|aN ?_;refine bI (σ:=Nat) (fun k=>([(0,.pv (aW a)),(1,.pv (aW b)),(5,iv (k:Int))],[])) (fun k=>k≤a.length∧a.take k=b.take k) (fun k=>a.length - k) 0 ⟨XS _,rfl⟩ ?_ ?_
 ·exact Wk
 rintro k ⟨hk,hs⟩;refine Sq<|Sr<|Dd aE<|Dd aE<|Dd (kZ aP)<|Dd dN<|Zz ?_;refine Cn ?_ ?_<;>intro hc2
 ·have hlt:k < a.length:=by have:=W7 hc2;omega
  obtain ⟨x,hx⟩:=aY hlt;obtain ⟨y,hy⟩:=aY (l:=b) (k:=k) (by omega);have hix:=dC (f:=encStr) hx;have hiy:=dC (f:=encStr) hy;refine aH<|Sq<|aN<|Sq<|bK follows<|Cq aE<|Cq aE<|Cq (BT b5)<|Cq (mB aV)<|Cq aE<|Cq aE<|Cq (BT b5)<|Cq (mB aV)<|Cq MB<|cQ<|Kr ?_;refine Cn ?_ ?_<;>intro hc3
  ·have hne:¬ x=y:=by have h:=hc3;simpa using h
   have hf:decide (a=b)=false:=decide_eq_false fun e=>hne (by rw [e,hy] at hx;cases hx;rfl);rw [hf];exact Sr<|Dd aQ<|Zz<|aM<|Rt<|Qq
  have he:x=y:=by have h:=hc3;simpa using h
  refine aH<|Rg<|Dd aE<|Dd mC<|Da ?_;refine⟨k+1,⟨by omega,?_⟩,by omega,Wk⟩;rw [cY hx,cY hy,hs,he]
 have hge:k=a.length:=by have:=W8 hc2;omega
 have ht:decide (a=b)=true:=decide_eq_true (by
  rw [← List.take_length (l:=a),← hge,hs,hge,hq,List.take_length])
 rw [ht];exact bE<|Sr<|Dd aQ<|Zz<|aM<|Rt<|Qq
theorem CC (a b:List ByteArray) (H:aA) (ha:a.length < 1000000000) (hb:b.length < 1000000000):aI Tryz.prog 17 [.pv (aW a),.pv (aW b)] H (fun r H'=>r=bv (decide (a=b))∧H'=H):=by refine Pu ?_;exact Bd func17 rfl ntmps17<|Sr<|Dd aQ<|Zz<|Sr<|Dd aE<|Dd aE<|Dd (by exact aB rfl rfl call54 rfl (IZ a b _ ha hb))<|Dd aQ<|Zz<|aM<|Rt<|Qq
def NW (p:ByteArray×ByteArray):Bool:=decide (p.1.size+p.2.size≤600)
def NX (s:ByteArray):Bool:=decide (s.size≤600)
def A8 (x:GOp):Bool:=(decide (x.put.length≤6)&&decide (x.drop.length≤6))&&(x.put.all NW&&x.drop.all NX)
def pK (l:List GOp):Bool:=l.all A8&&decide (l.length≤12)
theorem BK {α:Type} {l:List α} {p:α→Bool} {i:Nat} {x:α} (h:l[i]?=some x) (hp:p x=false):l.all p=false:=by rw [Bool.eq_false_iff];intro ha;rw [List.all_eq_true.1 ha x (XL h)] at hp;cases hp
theorem GB {α:Type} {l:List α} {p:α→Bool} (h:∀ i x,i < l.length→l[i]?=some x→p x=true):l.all p=true:=List.all_eq_true.2 fun x hx=>by
 obtain ⟨i,hi⟩:=XW.1 hx;exact h i x (XF.1 hi).1 hi
theorem SM (l:List GOp) (H:aA) (hl:l.length < 1099511627776) (hs:∀ x∈l,x.put.length < 1099511627776∧x.drop.length < 1099511627776∧(∀ p∈x.put,p.1.size < 1099511627776∧p.2.size < 1099511627776)) :
  aI Tryz.prog 11 [.pv (kF l)] H (fun r H'=>r=bv (pK l)∧H'=H):=by
 refine Pu ?_;have hml:(l.map tW).length=l.length:=XB _;refine Bd func11 rfl ntmps11<|Sr<|Dd aQ<|Zz<|Sq<|Sr<|Dd aQ<|Zz<|aN ?_;refine bI (σ:=Nat) (fun i=>([(0,.pv (kF l)),(3,iv (i:Int))],[])) (fun i=>i≤l.length∧∀ j x,j < i→l[j]?=some x→A8 x=true) (fun i=>l.length - i) 0 ⟨XS _,fun j x hj=>absurd hj (Nat.not_lt_zero _)⟩ ?_ ?_
 ·exact Wk
 rintro i ⟨hi,hall⟩;refine Sq<|Sr<|Dd aE<|Dd aE<|Dd (kZ lG)<|Dd dN<|Zz ?_;refine Cn ?_ ?_<;>intro hc1
 ·have hlt:i < l.length:=by have:=W7 hc1;omega
  obtain ⟨x,hx⟩:=aY hlt;have hix:=dC (f:=tW) hx;obtain ⟨s1,s2,s3⟩:=hs x (XL hx);have hmp:(x.put.map tX).length=x.put.length:=XB _;have hmd:(x.drop.map encStr).length=x.drop.length:=XB _;have bad:A8 x=false→pK l=false:=fun h=>by rw [pK,BK hx h];rfl
  have hO:A8 x=((decide (x.put.length≤6)&&decide (x.drop.length≤6))&&(x.put.all NW&&x.drop.all NX)):=rfl;refine aH<|Sq<|aN<|Sq<|Sq ?_;refine cX (t:=27) (n:=17) (X:=decide ((6:Int) < ((x.put.map tX).length:Int))||decide ((6:Int) < ((x.drop.map encStr).length:Int))) ?_ ?_
  ·all_goals refine Dd aE ?_
   all_goals refine Dd aE<|Dd (by exact bJ rfl w8 rfl rfl (by omega) (by exact XM _) hix rfl)<|Dd (PP wA)<|Dd (mB wR)<|Dd (kZ lF)<|Dd yS<|Dm ?_
   all_goals refine Sp 19 (fun h19=>?_) fun h19=>?_
   all_goals try contradiction
   all_goals first|refine Fo<|Fo<|Fo<|Fo<|Fo<|Fo<|Fo ?_|refine On aE<|On aE<|On (by exact bJ rfl w8 rfl rfl (by omega) (by exact XM _) hix rfl)<|On (PP A4)<|On (mB cD)<|On (kZ aP)<|On yS ?_
   all_goals refine Dd dW<|Zz ?_
   all_goals(exact⟨⟨_,rfl,by(rw [h19];rfl)⟩,rfl,rfl,rfl⟩)
  refine Cn ?_ ?_<;>intro hc2
  ·have hq:6 < x.put.length∨6 < x.drop.length:=by have h:=hc2;rw [Bool.or_eq_true,XI,XI] at h;omega
   have hf:A8 x=false:=by
    rw [hO];rcases hq with hq|hq
    ·rw [decide_eq_false (show ¬ x.put.length≤6 by omega)];rfl
    rw [decide_eq_false (show ¬ x.drop.length≤6 by omega),Bool.and_false];rfl
   rw [bad hf];exact Sr<|Dd aQ<|Zz<|aM<|Rt<|Qq
  have hq:x.put.length≤6∧x.drop.length≤6:=by have h:=hc2;rw [XX,XJ,XJ] at h;omega
  rw [decide_eq_true hq.1,decide_eq_true hq.2] at hO;refine aH<|Sq<|Sr<|Dd aQ<|Zz<|aN ?_;refine bI (σ:=Nat) (fun k=>([(0,.pv (kF l)),(3,iv (i:Int)),(4,iv (k:Int))],[])) (fun k=>k≤x.put.length∧∀ j p,j < k→x.put[j]?=some p→NW p=true) (fun k=>x.put.length - k) 0 ⟨XS _,fun j p hj=>absurd hj (Nat.not_lt_zero _)⟩ ?_ ?_
  ·exact Wk
  rintro k ⟨hk,hpk⟩;refine Sq<|Sr<|Dd aE<|Dd aE<|Dd aE<|Dd (by exact bJ rfl w8 rfl rfl (by omega) (by exact XM _) hix rfl)<|Dd (PP wA)<|Dd (mB wR)<|Dd (kZ lF)<|Dd dN<|Zz ?_;refine Cn ?_ ?_<;>intro hc3
  ·have hltk:k < x.put.length:=by have:=W7 hc3;omega
   obtain ⟨p,hp⟩:=aY hltk;have hip:=dC (f:=tX) hp;obtain ⟨t1,t2⟩:=s3 p (XL hp);refine aH<|Sq<|aN<|Sq<|bK follows<|Cq aE<|Cq aE<|Cq (by exact bJ rfl w8 rfl rfl (by omega) (by exact XM _) hix rfl)<|Cq (PP wA)<|Cq (mB wR)<|Cq aE<|Cq (by exact bJ rfl QA rfl rfl (by omega) (by exact XM _) hip rfl)<|Cq (by exact iD rfl lE sizeOf9 rfl rfl (by omega) (by exact XM _) (by decide) rfl)<|Cq (mB aV)<|Cq (xO aJ)<|Cq aE<|Cq aE<|Cq (by exact bJ rfl w8 rfl rfl (by omega) (by exact XM _) hix rfl)<|Cq (PP wA)<|Cq (mB wR)<|Cq aE<|Cq (by exact bJ rfl QA rfl rfl (by omega) (by exact XM _) hip rfl)<|Cq (by exact iD rfl lE sizeOf9 rfl rfl (by omega) (by exact XM _) (by decide) rfl)<|Cq (mB aV)<|Cq (xO aJ) ?_;refine Cq mC<|Cq yS<|cQ<|Kr ?_;refine Cn ?_ ?_<;>intro hc4
   ·have hq2:¬ p.1.size+p.2.size≤600:=by have:=W7 hc4;omega
    have hf:A8 x=false:=by rw [hO,BK hp (show NW p=false from decide_eq_false hq2)];rfl
    rw [bad hf];exact Sr<|Dd aQ<|Zz<|aM<|Rt<|Qq
   have hq2:p.1.size+p.2.size≤600:=by have:=W8 hc4;omega
   refine aH<|Rg<|Dd aE<|Dd mC<|Da ?_;refine⟨k+1,⟨by omega,fun j q hj hq=>?_⟩,by omega,Wk⟩;rcases Nat.lt_succ_iff_lt_or_eq.1 hj with h1|rfl
   ·exact hpk j q h1 hq
   rw [hp] at hq;cases hq;exact decide_eq_true hq2
  have hgek:k=x.put.length:=by have:=W8 hc3;omega
  have hP:x.put.all NW=true:=GB fun j p hj hp=>hpk j p (by omega) hp;rw [hP] at hO;refine bE<|Sr<|Dd aQ<|Zz<|aN ?_;refine bI (σ:=Nat) (fun k=>([(0,.pv (kF l)),(3,iv (i:Int)),(5,iv (k:Int))],[])) (fun k=>k≤x.drop.length∧∀ j p,j < k→x.drop[j]?=some p→NX p=true) (fun k=>x.drop.length - k) 0 ⟨XS _,fun j p hj=>absurd hj (Nat.not_lt_zero _)⟩ ?_ ?_
  ·exact Wk
  rintro m ⟨hm,hdk⟩;refine Sq<|Sr<|Dd aE<|Dd aE<|Dd aE<|Dd (by exact bJ rfl w8 rfl rfl (by omega) (by exact XM _) hix rfl)<|Dd (PP A4)<|Dd (mB cD)<|Dd (kZ aP)<|Dd dN<|Zz ?_;refine Cn ?_ ?_<;>intro hc5
  ·have hltm:m < x.drop.length:=by have:=W7 hc5;omega
   obtain ⟨s,hs2⟩:=aY hltm;have hisd:=dC (f:=encStr) hs2;refine aH<|Sq<|aN<|Sr<|Dd aE<|Dd aE<|Dd (by exact bJ rfl w8 rfl rfl (by omega) (by exact XM _) hix rfl)<|Dd (PP A4)<|Dd (mB cD)<|Dd aE<|Dd (by exact bJ rfl b5 rfl rfl (by omega) (by exact XM _) hisd rfl)<|Dd (mB aV)<|Dd (xO aJ)<|Dd yS<|Zz ?_;refine Cn ?_ ?_<;>intro hc6
   ·have hq2:¬ s.size≤600:=by have:=W7 hc6;omega
    have hf:A8 x=false:=by rw [hO,BK hs2 (show NX s=false from decide_eq_false hq2)];rfl
    rw [bad hf];exact Sr<|Dd aQ<|Zz<|aM<|Rt<|Qq
   have hq2:s.size≤600:=by have:=W8 hc6;omega
   refine aH<|Rg<|Dd aE<|Dd mC<|Da ?_;refine⟨m+1,⟨by omega,fun j q hj hq=>?_⟩,by omega,Wk⟩;rcases Nat.lt_succ_iff_lt_or_eq.1 hj with h1|rfl
   ·exact hdk j q h1 hq
   rw [hs2] at hq;cases hq;exact decide_eq_true hq2
  have hgem:m=x.drop.length:=by have:=W8 hc5;omega
  have hDD:x.drop.all NX=true:=GB fun j p hj hp=>hdk j p (by omega) hp;rw [hDD] at hO;refine bE<|Rg<|Dd aE<|Dd mC<|Da ?_;refine⟨i+1,⟨by omega,fun j y hj hy=>?_⟩,by omega,Wk⟩;rcases Nat.lt_succ_iff_lt_or_eq.1 hj with h1|rfl
  ·exact hall j y h1 hy
  rw [hx] at hy;cases hy;exact hO
 have hge:i=l.length:=by have:=W8 hc1;omega
 have hA:l.all A8=true:=GB fun j x hj hx=>hall j x (by omega) hx;have hG:pK l=decide (((l.map tW).length:Int)≤12):=by
  rw [pK,hA,Bool.true_and,hml];exact decide_eq_decide.2 (by omega)
 rw [hG];exact bE<|Sr<|Dd aE<|Dd (kZ lG)<|Dd WJ<|Dd aQ<|Zz<|aM<|Rt<|Qq
end Go.Proofs.YtmkgeogoojcciaaGreatDoor
namespace Go.Abs
theorem jS {P:Program} {G0:aA} {N:Nat} {ops:Array Oper} {K:bC→aA→Prop} {l:List Oper} {E E':bC} {H H':aA} (he:bX G0 E H E' H') (h:AL P G0 N ops K l E' H'):AL P G0 N ops K l E H :=fun G hG a w hs ro hro Q hq=>h G hG a w (he G hG N a w hs) ro hro Q hq
def AI (T:Nat) (ops:List Oper) (rs:List Rec):Bool :=(rD 0 ops&&rB ops (KT ops []) 0 [] (List.zipWith Ent2.mk (ops.take T) rs))&&(List.range ops.length).all fun j=>Nat.blt j T||(List.range j).all fun i=>((KT ops []).getD j 0).testBit i
theorem O3 {F:Fence} {nn:Nat} {P:Program} {ops:Array Oper} {Q:Exit→Act→World→Prop} {T:Nat} (hedge:∀ j o,ops.toList[j]?=some o→∀ e∈o.after.toList,Region.binds .any e=true→e.on < j) (htail:∀ (j:Nat),T≤j→j < ops.size→∀ i,i < j→T6 ops.toList i j) :
  ∀ (fuel j:Nat) (listed:Array Bool) (a:Act) (w:World),T≤j→listed.size=ops.size→(∀ i,i < ops.size→listed.getD i false=decide (i < j))→ops.size - j≤fuel→wpListIn F nn P ops Q (ops.toList.drop j) a w→wpAnyIn F nn P .any ops Q fuel listed a w:=by
 intro fuel;have rdy:∀ (j:Nat) (listed:Array Bool),T≤j→listed.size=ops.size→(∀ i,i < ops.size→listed.getD i false=decide (i < j))→(∀ i∈Region.ready .any ops listed,i=j∧i < ops.size)∧(j < ops.size→j∈Region.ready .any ops listed):=by
  intro j listed hj hsz hli;constructor
  ·intro i hi;have hi1:=List.mem_filter.1 hi;have hilt:i < ops.size:=List.mem_range.1 hi1.1;have hi':i < listed.size:=by omega
   have ho:ops[i]?=some ops[i]:=Array.getElem?_eq_getElem hilt;have hi2:=hi1.2;simp only [ho,Option.map_some,Option.getD_some,XK] at hi2;obtain ⟨hnl,hpreds⟩:=hi2;have hnl':listed.getD i false=false:=by
    simp [Array.getD,hi'] at hnl ⊢;exact hnl
   rw [hli i hilt] at hnl';have hge:j≤i:=by have:=W8 hnl';omega
   refine⟨Classical.byContradiction fun hne=>?_,hilt⟩;have h1:=htail i (by omega) hilt j (by omega) (fun q=>decide (q < j)&&decide (q < ops.size)) (fun q o hq hS e he hb=>by
    have h2:=hedge q o hq e he hb;simp only [XK,XI] at hS ⊢;omega) ops[i] (by simp [ho]) (fun e he hb=>by
    have h2:=(Array.all_eq_true'.1 hpreds) e (by simpa using he);have h3:listed.getD e.on false=true:=by simpa [hb] using h2
    have h4:=hedge i ops[i] (by simp [ho]) e he hb;rw [hli e.on (by omega)] at h3;simp only [XK,XI];exact⟨W7 h3,by omega⟩)
   simp at h1
  intro hjs;have ho:ops[j]?=some ops[j]:=Array.getElem?_eq_getElem hjs;have hj':j < listed.size:=by omega
  refine List.mem_filter.2 ⟨List.mem_range.2 hjs,?_⟩;have hn:listed.getD j false=false:=by rw [hli j hjs];exact decide_eq_false (Nat.lt_irrefl _)
  have hn':listed.getD j true=false:=by
   simp [Array.getD,hj'] at hn ⊢;exact hn
  simp only [hn',Bool.not_false,Bool.true_and,ho,Option.map_some,Option.getD_some];rw [Array.all_eq_true'];intro e he;cases hb:Region.binds .any e with
  | false=>simp
  | true =>
   have hon:=hedge j ops[j] (by simp [ho]) e (by simpa using he) hb;simp only [Bool.not_true,Bool.false_or];rw [hli e.on (by omega)];exact decide_eq_true hon
 induction fuel with
 | zero =>
  intro j listed a w hj hsz hli hf h;obtain ⟨r1,r2⟩:=rdy j listed hj hsz hli;have hd:ops.toList.drop j=[]:=List.drop_eq_nil_of_le (by rw [Array.length_toList];omega);rw [hd] at h;refine⟨?_,h⟩;cases hr:Region.ready .any ops listed with
  | nil=>rfl
  | cons i r =>
   have:=r1 i (by rw [hr];exact List.mem_cons_self);omega
 | succ fuel ih =>
  intro j listed a w hj hsz hli hf h;obtain ⟨r1,r2⟩:=rdy j listed hj hsz hli;refine⟨fun hnil=>?_,fun i hi=>?_⟩
  ·have hd:ops.toList.drop j=[]:=List.drop_eq_nil_of_le (by
    rw [Array.length_toList];refine Classical.byContradiction fun hno=>?_;have:=r2 (by omega);rw [hnil] at this;cases this)
   rw [hd] at h;exact h
  obtain ⟨rfl,hilt⟩:=r1 i hi;have ho:ops[i]?=some ops[i]:=Array.getElem?_eq_getElem hilt;have hdr:ops.toList.drop i=ops[i]::ops.toList.drop (i+1):=by
   rw [List.drop_eq_getElem_cons (by simpa using hilt)];simp
  rw [hdr] at h;have hi':i < listed.size:=by omega
  have hlist:∀ q,(listed.setIfInBounds i true).getD q false=if q=i then true else listed.getD q false:=by
   intro q;by_cases e:q=i
   ·subst e;simp [Array.getD,hi']
   simp only [Array.getD_eq_getD_getElem?,Array.getElem?_setIfInBounds_ne (Ne.symm e),e,if_false]
  have next:∀ a w,wpListIn F nn P ops Q (ops.toList.drop (i+1)) a w→wpAnyIn F nn P .any ops Q fuel (listed.setIfInBounds i true) a w:=fun a w hh =>
   ih (i+1) _ a w (by omega) (by simp [hsz]) (fun q hq=>by
    rw [hlist];by_cases e:q=i
    ·subst e;rw [XA rfl];exact(decide_eq_true (by omega)).symm
    rw [W9 e,hli q hq];exact decide_eq_decide.2 (by omega)) (by omega) hh
  unfold wpOpIn;simp only [ho];unfold wpListIn at h
  split
  ·next hw =>
   rw [XA hw] at h;exact Oper.wpIn_mono next h
  next hw =>
  rw [W9 hw] at h;exact⟨h.1,next _ _ h.2⟩
theorem KZ {P:Program} {G0:aA} {N id:Nat} {Q:Exit→bC→aA→Prop} {ops:Array Oper} {E E':bC} {H H':aA} {rs:List Rec} (T:Nat) (hm:P.follows .mixedOrders=true) (hT:T≤ops.size) (hc:DChain P N ops.toList (ops.toList.take T) E H rs E' H') (hok:AI T ops.toList rs=true)
  (hB:AL P G0 N ops (fun E H=>Q .normal E H) (ops.toList.drop T) E' H'):fJ P G0 N (.region id ops true) Q E H:=by
 intro G hG a w hs ro hro;have hnd0:ro=none∨ops.toList.all Oper.noDefer=true:=hro;refine wpIn_region_any hm ?_;obtain ⟨hlen,hst,hE',hH'⟩:=hc.spec;obtain ⟨l,hl⟩:∃ l,l=List.zipWith Ent2.mk (ops.toList.take T) rs:=⟨_,rfl⟩;rw [← hl] at hst hE' hH';simp only [AI,XK,← hl] at hok;obtain ⟨⟨hok1,hok2⟩,hok3⟩:=hok;have hTl:(ops.toList.take T).length=T:=by rw [XP,Array.length_toList];omega
 rw [hTl] at hE' hH';have hndB:ro=none∨(ops.toList.drop T).all Oper.noDefer=true:=hnd0.imp (fun h=>h) fun h=>List.all_eq_true.2 fun x hx=>List.all_eq_true.1 h x (List.mem_of_mem_drop hx);have hll:l.length=T:=by rw [hl,List.length_zipWith,hlen,hTl];omega
 have hlo:∀ (i:Nat) (x:Ent2),l[i]?=some x→ops.toList[i]?=some x.o:=by
  intro i x hx;have hiT:i < T:=by have:=(XF.1 hx).1;omega
  rw [hl,List.getElem?_zipWith,List.getElem?_take_of_lt hiT] at hx;cases e1:ops.toList[i]? with
  | none=>simp [e1] at hx
  | some o =>
   cases e2:rs[i]? with
   | none=>simp [e1,e2] at hx
   | some r=>simp [e1,e2] at hx;rw [← hx]
 have hedge:=rC ops.toList 0 hok1;have hbef:∀ (i j:Nat) (x y:Ent2),i < j→l[i]?=some x→l[j]?=some y→eQ ops.toList x y=true→T6 ops.toList i j:=fun i j x y hij hx hy hcl =>
  s8 ops.toList [] [] rfl rfl (by simp) j i (rA l [] hok2 i j hij (XS _) x y hx hy hcl)
 have htail:∀ (j:Nat),T≤j→j < ops.size→∀ i,i < j→T6 ops.toList i j:=by
  intro j hj hjs i hi;have h1:=List.all_eq_true.1 hok3 j (List.mem_range.2 (by rw [Array.length_toList];exact hjs));rw [Bool.or_eq_true] at h1;rcases h1 with h1|h1
  ·rw [Nat.blt_eq] at h1;omega
  exact s8 ops.toList [] [] rfl rfl (by simp) j i (List.all_eq_true.1 h1 i (List.mem_range.2 hi))
 have hedge0:∀ j o,ops.toList[j]?=some o→∀ e∈o.after.toList,Region.binds .any e=true→e.on < j:=fun j o h e he hb=>by have:=hedge j o h e he hb;omega
 have fin:∀ (fuel:Nat) (listed:Array Bool) (a:Act) (w:World) (E1:bC) (H1:aA),listed.size=ops.size→ops.size≤T+fuel→(∀ j,T≤j→listed.getD j false=false)→(∀ i,i < T→listed.getD i false=true)→St G N E1 H1 a w→(∀ t,E1.get t=pQ E l (fun i=>listed.getD i false) T t)→(∀ j,H1.get j=pP H l (fun i=>listed.getD i false) T j) →
   wpAnyIn (RF ro) 0 P .any ops (fun e a w=>∃ E H,Q e E H∧St G N E H a w) fuel listed a w:=by
  intro fuel listed a w E1 H1 hsz hfu hnoB hall hst1 hE1 hH1;refine O3 hedge0 htail fuel T listed a w (XH _) hsz (fun i hi=>?_) (by omega) ?_
  ·by_cases h:i < T
   ·rw [hall i h,decide_eq_true h]
   rw [hnoB i (by omega),decide_eq_false h]
  refine hB G hG a w (bX.get (G0:=G0) (fun t=>?_) (fun j=>?_) G hG N a w hst1) ro hndB _ (fun E H a w hK hst=>⟨E,H,hK,hst⟩)
  ·rw [hE' t,hE1 t];exact(iV (E:=E) T T (XH _) (fun j x hj _=>⟨fun hlt=>hall j hlt,fun h1 h2=>by omega⟩)).symm
  rw [hH' j,hH1 j];exact(iU (H:=H) T T (XH _) (fun i x hi _=>⟨fun hlt=>hall i hlt,fun h1 h2=>by omega⟩)).symm
 have cnt:∀ (fuel:Nat) (listed:Array Bool),listed.size=ops.size→(∀ j,T≤j→listed.getD j false=false)→((List.range ops.size).filter fun i=>!listed.getD i true).length≤fuel→ops.size≤T+fuel:=by
  intro fuel listed hsz hnoB hcnt;have h1:(List.range' T (ops.size - T)).length≤((List.range ops.size).filter fun i=>!listed.getD i true).length:=by
   refine List.Nodup.length_le_of_subset List.nodup_range' fun j hj=>?_;rw [List.mem_range'_1] at hj;have hjl:j < listed.size:=by omega
   have h2:=hnoB j (by omega);refine List.mem_filter.2 ⟨List.mem_range.2 (by omega),?_⟩;simp [Array.getD,hjl] at h2 ⊢;exact h2
  rw [List.length_range'] at h1;omega
 have main:∀ (fuel:Nat) (listed:Array Bool) (a:Act) (w:World) (E1:bC) (H1:aA),listed.size=ops.size→((List.range ops.size).filter fun i=>!listed.getD i true).length≤fuel →
   wX ops.toList (fun i=>listed.getD i false)→(∀ j,T≤j→listed.getD j false=false)→St G N E1 H1 a w→(∀ t,E1.get t=pQ E l (fun i=>listed.getD i false) T t)→(∀ j,H1.get j=pP H l (fun i=>listed.getD i false) T j) →
   wpAnyIn (RF ro) 0 P .any ops (fun e a w=>∃ E H,Q e E H∧St G N E H a w) fuel listed a w:=by
  intro fuel
  induction fuel with
  | zero =>
   intro listed a w E1 H1 hsz hcnt hdown hnoB hst1 hE1 hH1;have hall:∀ i,i < T→listed.getD i false=true:=by
    intro i hi;have hnil:=List.eq_nil_of_length_eq_zero (Nat.le_zero.1 hcnt);have:=List.filter_eq_nil_iff.1 hnil i (List.mem_range.2 (by omega));have hi':i < listed.size:=by omega
    simp [Array.getD,hi'] at this ⊢;exact this
   exact fin 0 listed a w E1 H1 hsz (cnt 0 listed hsz hnoB hcnt) hnoB hall hst1 hE1 hH1
  | succ fuel ih =>
   intro listed a w E1 H1 hsz hcnt hdown hnoB hst1 hE1 hH1;by_cases hallT:∀ i,i < T→listed.getD i false=true
   ·exact fin _ listed a w E1 H1 hsz (cnt _ listed hsz hnoB hcnt) hnoB hallT hst1 hE1 hH1
   refine⟨fun hnil=>?_,fun i hi=>?_⟩
   ·-- nothing is left
    exfalso;have hall:∀ i,i < ops.size→listed.getD i false=true:=by
     intro i
     induction i using Nat.strongRecOn with
     | _ i ihi =>
      intro hi;refine Classical.byContradiction fun hno=>?_;have hi':i < listed.size:=by omega
      have hno':listed.getD i true=false:=by
       simp [Array.getD,hi'] at hno ⊢;exact hno
      have hlt:i < ops.toList.length:=by simpa using hi
      have hr:i∈Region.ready .any ops listed:=by
       unfold Region.ready;refine List.mem_filter.2 ⟨List.mem_range.2 hi,?_⟩;have ho:ops[i]?=some ops[i]:=Array.getElem?_eq_getElem hi;simp only [hno',Bool.not_false,Bool.true_and,ho,Option.map_some,Option.getD_some];rw [Array.all_eq_true'];intro e he;cases hb:Region.binds .any e with
       | false=>simp
       | true =>
        have hon:=hedge i ops[i] (by simp [ho]) e (by simpa using he) hb;simp only [Bool.not_true,Bool.false_or];exact ihi e.on (by omega) (by omega)
      rw [hnil] at hr;cases hr
    exact hallT fun i hi=>hall i (by omega)
   have hi1:=List.mem_filter.1 hi;have hilt:i < ops.size:=List.mem_range.1 hi1.1;have hi':i < listed.size:=by omega
   have ho:ops[i]?=some ops[i]:=Array.getElem?_eq_getElem hilt;have hi2:=hi1.2;simp only [ho,Option.map_some,Option.getD_some,XK] at hi2;obtain ⟨hnl,hpreds⟩:=hi2;have hnl':listed.getD i false=false:=by
    simp [Array.getD,hi'] at hnl ⊢;exact hnl
   have hpre:∀ e∈(ops[i]).after.toList,Region.binds .any e=true→listed.getD e.on false=true:=by
    intro e he hb;have:=(Array.all_eq_true'.1 hpreds) e (by simpa using he)
    simpa [hb] using this
   have hiT:i < T:=by
    refine Classical.byContradiction fun hno=>hallT fun q hq=>?_;exact htail i (by omega) hilt q (by omega) _ hdown ops[i] (by simp [ho]) hpre
   have hil:i < l.length:=by omega
   obtain ⟨x,hx⟩:∃ x,l[i]?=some x:=⟨_,XG hil⟩;have hxo:x.o=ops[i]:=by
    have:=hlo i x hx;simp [ho] at this;exact this.symm
   obtain ⟨hdok,Ek,Hk,hEk,hHk,hdst⟩:=hst i x hx;have hbefore:∀ (j:Nat) (y:Ent2),j < i→l[j]?=some y→eQ ops.toList y x=true→listed.getD j false=true:=by
    intro j y hj hy hcl;exact hbef j i y x hj hy hx hcl _ hdown ops[i] (by simp [ho]) hpre
   have hbehind:∀ (j:Nat) (y:Ent2),i < j→l[j]?=some y→eQ ops.toList x y=true→listed.getD j false=false:=by
    intro j y hj hy hcl;cases hjl:listed.getD j false with
    | false=>rfl
    | true =>
     have hjlt:j < l.length:=(XF.1 hy).1;have hjo:ops.toList[j]?=some y.o:=hlo j y hy;have:=hbef i j x y hj hx hy hcl _ hdown y.o hjo (fun e he hb=>hdown j y.o hjo hjl e he hb);rw [hnl'] at this;cases this
   have agreeE:∀ t,(∀ (j:Nat) (y:Ent2),l[j]?=some y→y.o.dst=some t→(j < i→eQ ops.toList y x=true)∧(i < j→eQ ops.toList x y=true))→E1.get t=Ek.get t:=by
    intro t ht;rw [hE1 t,hEk t];refine iV (E:=E) T i (by omega) (fun j y hj hd=>⟨fun hlt=>hbefore j y hlt hj ((ht j y hj hd).1 hlt),fun h1 h2=>?_⟩);by_cases e:j=i
    ·subst e;exact hnl'
    exact hbehind j y (by omega) hj ((ht j y hj hd).2 (by omega))
   have agreeH:∀ k,(∀ (j:Nat) (y:Ent2),l[j]?=some y→(y.r.W.get k).isSome=true→(j < i→eQ ops.toList y x=true)∧(i < j→eQ ops.toList x y=true))→H1.get k=Hk.get k:=by
    intro k hk;rw [hH1 k,hHk k];refine iU (H:=H) T i (by omega) (fun j y hj hd=>⟨fun hlt=>hbefore j y hlt hj ((hk j y hj hd).1 hlt),fun h1 h2=>?_⟩);by_cases e:j=i
    ·subst e;exact hnl'
    exact hbehind j y (by omega) hj ((hk j y hj hd).2 (by omega))
   have hlooks:∀ t,t∈eA ops.toList x.o→E1.get t=Ek.get t:=fun t ht =>
    agreeE t fun j y hj hd=>⟨fun _=>m9 hd ht,fun _=>m8 hd ht⟩
   have hreads:∀ k,mM x.r.R k=true→H1.get k=Hk.get k:=fun k hk =>
    agreeH k fun j y hj hd=>⟨fun _=>zH hd hk,fun _=>zI hd hk⟩
   have hlist:∀ j,(listed.setIfInBounds i true).getD j false=if j=i then true else listed.getD j false:=by
    intro j;by_cases e:j=i
    ·subst e;simp [Array.getD,hi']
    simp only [Array.getD_eq_getD_getElem?,Array.getElem?_setIfInBounds_ne (Ne.symm e),e,if_false]
   have hdown':wX ops.toList (fun j=>(listed.setIfInBounds i true).getD j false):=by
    intro j o hj hjl e he hb;simp only [hlist] at hjl ⊢;by_cases ej:j=i
    ·subst ej;have:o=ops[j]:=by simp [ho] at hj;exact hj.symm
     subst this;have:=hpre e he hb;simp [this]
    simp only [ej,if_false] at hjl;have:=hdown j o hj hjl e he hb;simp only at this;simp [this]
   have hcnt':((List.range ops.size).filter fun j=>!(listed.setIfInBounds i true).getD j true).length≤fuel:=by
    have hlist':∀ j,(listed.setIfInBounds i true).getD j true=if j=i then true else listed.getD j true:=by
     intro j;by_cases e:j=i
     ·subst e;simp [Array.getD,hi']
     simp only [Array.getD_eq_getD_getElem?,Array.getElem?_setIfInBounds_ne (Ne.symm e),e,if_false]
    have h1:((List.range ops.size).filter fun j=>!(listed.setIfInBounds i true).getD j true)=((List.range ops.size).filter fun j=>!listed.getD j true).filter fun j=>j != i:=by
     rw [List.filter_filter];refine List.filter_congr fun j _=>?_;rw [hlist'];by_cases e:j=i<;>simp [e]
    rw [h1];have h2:=List.length_filter_lt_length_iff_exists (p:=fun j=>j != i) (l:=(List.range ops.size).filter fun j=>!listed.getD j true) |>.2 ⟨i,List.mem_filter.2 ⟨hi1.1,by simpa using hnl⟩,by simp⟩;omega
   have next:∀ (r:AV) (a':Act) (w':World),r=x.r.v→St G N (iZ E1 x.o.dst x.r.v) (x.r.W++H1) a' w'→wpAnyIn (RF ro) 0 P .any ops (fun e a w=>∃ E H,Q e E H∧St G N E H a w) fuel (listed.setIfInBounds i true) a' w':=by
    intro r a' w' _ hst';refine ih _ a' w' _ _ (by simp [hsz]) hcnt' hdown' (fun j hj=>by rw [hlist,W9 (by omega)];exact hnoB j hj) hst' (fun t=>?_) (fun k=>?_)
    ·-- slots
     by_cases hd:x.o.dst=some t
     ·have e1:bC.get (iZ E1 x.o.dst x.r.v) t=some x.r.v:=by rw [hd];simp [iZ,bC.get_cons_same]
      rw [e1];have e2:=iV (E:=E) (l:=l) (S:=fun j=>(listed.setIfInBounds i true).getD j false) (t:=t) T (i+1) (by omega) (fun j y hj hyd=>⟨fun hlt=>?_,fun h1 h2=>?_⟩)
      ·rw [e2,pQ,hx];simp [hd]
      ·simp only [hlist];by_cases ej:j=i
       ·simp [ej]
       simp only [ej,if_false];exact hbefore j y (by omega) hj (jB hyd hd)
      simp only [hlist];rw [W9 (by omega)];exact hbehind j y (by omega) hj (jB hd hyd)
     have e1:bC.get (iZ E1 x.o.dst x.r.v) t=E1.get t:=by
      cases hdd:x.o.dst with
      | none=>rfl
      | some d=>exact bC.get_cons_other _ _ (fun e=>hd (by rw [hdd,e]))
     rw [e1,hE1 t];have:∀ n,pQ E l (fun i=>listed.getD i false) n t=pQ E l (fun j=>(listed.setIfInBounds i true).getD j false) n t:=by
      intro n
      induction n with
      | zero=>rfl
      | succ n ihn =>
       rw [pQ,pQ];cases hn:l[n]? with
       | none=>exact ihn
       | some y =>
        simp only;by_cases en:n=i
        ·subst en;rw [hx] at hn;cases hn;rw [W9 (fun h=>hd h.2),W9 (fun h=>hd h.2)];exact ihn
        have hS:(listed.setIfInBounds i true).getD n false=listed.getD n false:=by rw [hlist,W9 en]
        rw [hS,ihn]
     exact this _
    rw [rS];by_cases hd:(x.r.W.get k).isSome=true
    ·obtain ⟨ob,hob⟩:=Option.isSome_iff_exists.1 hd;rw [hob];have e2:=iU (H:=H) (l:=l) (S:=fun j=>(listed.setIfInBounds i true).getD j false) (id:=k) T (i+1) (by omega) (fun j y hj hyd=>⟨fun hlt=>?_,fun h1 h2=>?_⟩)
     ·rw [e2,pP,hx];simp [hob]
     ·simp only [hlist];by_cases ej:j=i
      ·simp [ej]
      simp only [ej,if_false];exact hbefore j y (by omega) hj (oZ hyd hd)
     simp only [hlist];rw [W9 (by omega)];exact hbehind j y (by omega) hj (oZ hd hyd)
    have hnone:x.r.W.get k=none:=by simpa using hd
    rw [hnone];simp only;rw [hH1 k];have:∀ n,pP H l (fun i=>listed.getD i false) n k=pP H l (fun j=>(listed.setIfInBounds i true).getD j false) n k:=by
     intro n
     induction n with
     | zero=>rfl
     | succ n ihn =>
      rw [pP,pP];cases hn:l[n]? with
      | none=>exact ihn
      | some y =>
       simp only;by_cases en:n=i
       ·subst en;rw [hx] at hn;cases hn;rw [W9 (fun h=>hd h.2),W9 (fun h=>hd h.2)];exact ihn
       have hS:(listed.setIfInBounds i true).getD n false=listed.getD n false:=by rw [hlist,W9 en]
       rw [hS,ihn]
    exact this _
   unfold wpOpIn;simp only [ho];rw [hxo] at hdst hlooks hdok;rw [hxo] at next;have hgE:∀ (j:Nat) (want:Bool) (t:Tmp) (b:Bool),(ops[i]).guard=some (j,want)→gB ops.toList j=some t→Ek.get t=some (.pv (.bool b))→yielded ops a.tmps j=some b:=by
    intro j want t b hg hj hb;have hmem:t∈eA ops.toList ops[i]:=by simp [eA,hg,hj]
    exact jY (E:=E1) hj ((hlooks t hmem).trans hb) hst1.rel.choose_spec.choose_spec.2.2
   have hnd:ro=none∨(ops[i]).noDefer=true:=hnd0.imp (fun h=>h) fun h=>List.all_eq_true.1 h _ (by simp);cases hdst with
   | plain hg h =>
    have hw:Region.wanted ops[i] (yielded ops a.tmps)=true:=by simp [Region.wanted,hg]
    simp only [hw,if_true];refine hst1.op hdok ((h H1 hreads).restr hlooks) ?_ hnd;rintro r H2 a' w' ⟨rfl,rfl⟩ hs';exact next _ a' w' rfl hs'
   | on j want t b hg hj hb hw h =>
    have hy:=hgE j want t b hg hj hb;have hw:Region.wanted ops[i] (yielded ops a.tmps)=true:=by simp [Region.wanted,hg,hy,hw]
    simp only [hw,if_true];refine hst1.op hdok ((h H1 hreads).restr hlooks) ?_ hnd;rintro r H2 a' w' ⟨rfl,rfl⟩ hs';exact next _ a' w' rfl hs'
   | off j want t x' hg hj hb hw hv hW =>
    have hmem:t∈eA ops.toList ops[i]:=by simp [eA,hg,hj]
    have hw:Region.wanted ops[i] (yielded ops a.tmps)=false :=
     sT (E:=E1) hg hj ((hlooks t hmem).trans hb) hw hst1.rel.choose_spec.choose_spec.2.2
    simp only [hw,Bool.false_eq_true,if_false];refine⟨fun _ _=>trivial,?_⟩;refine next (.tup []) _ w hv.symm ?_;obtain ⟨I,ι,hr,hst2,he⟩:=hst1.rel;rw [hv,hW];refine⟨?_,?_,I,ι,hr,hst2,fC.put hr (Step.refl _ _ _ _) he fC.skip (by rw [hst1.size];exact hdok)⟩
    ·rw [fN];exact hst1.defers
    have:=hst1.size;cases (ops[i]).dst<;>simpa [Act.put] using this
 have hs':St G N E H a {w with drawn:=w.drawn+1}:=by
  obtain ⟨I,ι,hr,hst2,he⟩:=hs.rel;obtain ⟨k2,k3⟩:=hr.drawn (w':={w with drawn:=w.drawn+1}) rfl rfl rfl rfl;exact⟨hs.defers,hs.size,I,ι,k2,hst2.trans k3,fun t v ht=>let ⟨c,h1,h2⟩:=he t v ht;⟨c,h1,h2.mono hr k3⟩⟩
 refine main ops.size (Array.replicate ops.size false) a _ E H (by simp) (by
  have:=List.length_filter_le (fun i=>!(Array.replicate ops.size false).getD i true) (List.range ops.size)
  simpa using this) (fun j o hj hjl=>by simp [Array.getD] at hjl) (fun j _=>by simp [Array.getD]) hs' (fun t=>?_) (fun k=>?_)
 ·have:∀ n,pQ E l (fun i=>(Array.replicate ops.size false).getD i false) n t=E.get t:=by
   intro n
   induction n with
   | zero=>rfl
   | succ n ihn =>
    rw [pQ];cases l[n]? with
    | none=>exact ihn
    | some y =>
     have hf:(Array.replicate ops.size false).getD n false=false:=by simp [Array.getD]
     simp only [hf,Bool.false_eq_true,false_and,if_false];exact ihn
  exact(this _).symm
 have:∀ n,pP H l (fun i=>(Array.replicate ops.size false).getD i false) n k=H.get k:=by
  intro n
  induction n with
  | zero=>rfl
  | succ n ihn =>
   rw [pP];cases l[n]? with
   | none=>exact ihn
   | some y =>
    have hf:(Array.replicate ops.size false).getD n false=false:=by simp [Array.getD]
    simp only [hf,Bool.false_eq_true,false_and,if_false];exact ihn
 exact(this _).symm
theorem F7 {P:Program} {G0:aA} {N id:Nat} {Q:Exit→bC→aA→Prop} {ops:Array Oper} {E:bC} {H:aA} (T:Nat) (hm:P.follows .mixedOrders=true) (hT:T≤ops.size)
  (h:DC P N ops.toList (ops.toList.take T) E H (fun rs E' H'=>AI T ops.toList rs=true∧AL P G0 N ops (fun E H=>Q .normal E H) (ops.toList.drop T) E' H')):fJ P G0 N (.region id ops true) Q E H:=by
 obtain ⟨rs,E',H',h1,h2,h3⟩:=h;exact KZ T hm hT h1 h2 h3
end Go.Abs
namespace Go.Proofs.YtmkgeogoojcciaaGreatDoor
open Go.Proofs.Tryz
open Go.Abs Go.Lib
def TB (x:GOp):Prop:=x.put.length < 1000000000∧x.drop.length < 1000000000∧∀ p∈x.put,p.1.size < 1099511627776∧p.2.size < 1099511627776
theorem J2 {l:List GOp} (h:pK l=true):l.length≤12∧∀ x∈l,x.put.length≤6∧x.drop.length≤6∧(∀ p∈x.put,p.1.size+p.2.size≤600)∧∀ s∈x.drop,s.size≤600:=by rw [pK,XK,XI] at h;refine⟨h.2,fun x hx=>?_⟩;have h1:=List.all_eq_true.1 h.1 x hx;rw [A8] at h1;simp only [XK,XI] at h1;exact⟨h1.1.1,h1.1.2,fun p hp=>W7 (List.all_eq_true.1 h1.2.1 p hp),fun s hs=>W7 (List.all_eq_true.1 h1.2.2 s hs)⟩
end Go.Proofs.YtmkgeogoojcciaaGreatDoor
namespace Go.Proofs.YtmkgeogoojcciaaGreatDoor
open Go.Proofs.Tryz
open Go.Abs Go.ChangeShapes Go.WideShapes Go.ChangeAt Go.RowKit
theorem own:ownKnob Tryz.prog.godebug=none:=by kernel_rfl
theorem HJ:laidOutB Tryz.prog=true:=by kernel_rfl
theorem EB {H:Type} {l:List (DataW H)} (hk:Rows.uptoSmall H l=true):Rows.uptoBulkAll l≤1048576:=W7 hk
theorem KO {H:Type} {l r:List (DataW H)} {n:Nat} (h:Rows.uptoBulkAll (l++r)≤n):Rows.uptoBulkAll l≤n:=by
 induction l generalizing n with
 | nil=>simp [Rows.uptoBulkAll]
 | cons x l ih =>
  simp only [List.cons_append,Rows.uptoBulkAll] at h ⊢;have:=ih (n:=n - Rows.uptoBulk x) (by omega);omega
def VH (n:Int):Prop:=(Lit.int .i64 n).wf=true
theorem VZ {B n:Nat} {ps:List PV} (h:Sh Tryz.prog B (n+1) 5 ps):∃ i,ps=[.int .u8 i]∧0≤i∧i≤255:=by obtain ⟨i,rfl,hi⟩:=u4 bQ h;exact⟨i,rfl,by simpa [Lit.wf,IntKind.min,IntKind.max,IntKind.signed,IntKind.bits] using hi⟩
theorem TN {B n:Nat} {ps:List PV} (h:Sh Tryz.prog B (n+2) 31 ps):∃ l,ps=[aW l]∧l.length≤B∧∀ s,s∈l→s.size≤B:=by obtain ⟨l,rfl,h1,h2⟩:=zV (f:=encStr) (good:=fun s=>s.size≤B) aP h (fun r hr=>EQ aJ hr);exact⟨l,rfl,h1,h2⟩
theorem MG {P:Program} {B n k:Nat} {t e:TypeId} {ps:List PV} (ht:P.underlying t=some (.array k e)) (h:Sh P B (n+1) t ps):UD (fun t ps=>Sh P B n t ps) P.cellsOf (r5 P e 0 k) ps:=by unfold Sh at h;rw [ht] at h;exact h
def L3 (B:Nat) (p:ByteArray×ByteArray):Prop:=p.1.size≤B∧p.2.size≤B
theorem V1 {B n:Nat} {ps:List PV} (h:Sh Tryz.prog B (n+2) 66 ps):∃ p,ps=tX p∧L3 B p:=by obtain ⟨_,_,rfl,_,h1,_,_,rfl,_,h2,rfl⟩:=MG lE h;obtain ⟨s,rfl,q1⟩:=EQ aJ h1;obtain ⟨t,rfl,q2⟩:=EQ aJ h2;exact⟨(s,t),rfl,q1,q2⟩
theorem U1 {B n:Nat} {ps:List PV} (h:Sh Tryz.prog B (n+3) 35 ps):∃ l,ps=[QB l]∧l.length≤B∧∀ p,p∈l→L3 B p:=by obtain ⟨l,rfl,h1,h2⟩:=zV (f:=tX) (good:=L3 B) lF h (fun r hr=>V1 hr);exact⟨l,rfl,h1,h2⟩
def SV (B:Nat) (o:GOp):Prop:=VH o.kind∧(o.put.length≤B∧∀ p,p∈o.put→L3 B p)∧(o.drop.length≤B∧∀ s,s∈o.drop→s.size≤B)∧VH o.a∧VH o.b∧VH o.c
def B2 (B:Nat) (l:List GOp):Prop:=l.length≤B∧∀ o,o∈l→SV B o
theorem V0 {B n:Nat} {ps:List PV} (h:Sh Tryz.prog B (n+4) 37 ps):∃ o,ps=tW o∧SV B o:=by obtain ⟨_,_,rfl,_,h1,_,_,rfl,_,h2,_,_,rfl,_,h3,_,_,rfl,_,h4,_,_,rfl,_,h5,_,_,rfl,_,h6,rfl⟩:=IU sC h;obtain ⟨k,rfl,q1⟩:=u4 bT h1;obtain ⟨l,rfl,q2⟩:=U1 h2;obtain ⟨d,rfl,q3⟩:=TN h3;obtain ⟨a,rfl,q4⟩:=u4 bT h4;obtain ⟨b,rfl,q5⟩:=u4 bT h5;obtain ⟨c,rfl,q6⟩:=u4 bT h6;exact⟨⟨k,l,d,a,b,c⟩,rfl,q1,q2,q3,q4,q5,q6⟩
theorem SO {B n:Nat} {ps:List PV} (h:Sh Tryz.prog B (n+5) 22 ps):∃ l,ps=[kF l]∧B2 B l:=by obtain ⟨l,rfl,h1,h2⟩:=zV (f:=tW) (good:=SV B) lG h (fun r hr=>V0 hr);exact⟨l,rfl,h1,h2⟩
theorem B2.len {l:List GOp} (h:B2 1048576 l):l.length < 1000000000:=Nat.lt_of_le_of_lt h.1 (by decide)
theorem B2.ok {l:List GOp} (h:B2 1048576 l):∀ x∈l,TB x:=fun x hx=>by
 obtain ⟨_,⟨h1,h2⟩,⟨h3,_⟩,_⟩:=h.2 x hx;exact⟨by omega,by omega,fun p hp=>by have:=h2 p hp;unfold L3 at this;omega⟩
end Go.Proofs.YtmkgeogoojcciaaGreatDoor
