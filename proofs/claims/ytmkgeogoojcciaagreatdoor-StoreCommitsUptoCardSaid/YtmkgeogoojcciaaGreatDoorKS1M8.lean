/-
  Parts of the proof: rules of an abstract program logic, contracts of functions, plain laws. Conditions: each theorem's own.
-/
import Derived.Test.YtmkgeogoojcciaaGreatDoorKS1M7
set_option linter.unusedVariables false
set_option linter.unusedSimpArgs false
set_option maxRecDepth 100000
set_option maxHeartbeats 8000000
namespace Go.Proofs
theorem W1:type_of% Tryz.call19:=Tryz.call19
theorem WZ:type_of% Tryz.call24:=Tryz.call24
theorem WX:type_of% Tryz.call51:=Tryz.call51
theorem WW:type_of% Tryz.call52:=Tryz.call52
theorem PW:type_of% Tryz.func14:=Tryz.func14
theorem jP:type_of% Tryz.isAgg35:=Tryz.isAgg35
theorem LE:type_of% Tryz.ntmps14:=Tryz.ntmps14
theorem fU:type_of% Tryz.underlying25:=Tryz.underlying25
theorem fT:type_of% Tryz.underlying66:=Tryz.underlying66
end Go.Proofs
namespace Go.Proofs.YtmkgeogoojcciaaGreatDoor
open Go.Proofs.Tryz
open Go.Abs Go.Lib
def S3 (i:Nat):Nat:=if i=950 then 1101 else if i=1101 then 950 else i
theorem QB (i:Nat):S3 (S3 i)=i:=by
 unfold S3
 repeat' split
 all_goals omega
theorem AC (ρ:Nat→Nat) (l:bN) (c:Nat):iC ρ (bJ l c)=bJ l c:=by
 show (⟨0,0,c,(fE eE (bL l)).map (gX ρ)⟩:Ob)=⟨0,0,c,fE eE (bL l)⟩;have:∀ r∈fE eE (bL l),gX ρ r=r:=by
  intro r hr;obtain ⟨p,hp,rfl⟩:=List.mem_map.1 hr;obtain ⟨q,_,rfl⟩:=List.mem_map.1 hp;rfl
 rw [List.map_congr_left this,List.map_id']
theorem MP (l:bN) (c:Nat):iS S3 [(950,bJ l c)]=[(1101,bJ l c)]:=by show [(S3 950,iC S3 (bJ l c))]=_;rw [AC];rfl
theorem P9 (l:bN) (c:Nat) (P:List ByteArray) (hst:dR l c) (hl:l.length < 1099511627776) (hP:P.length < 1099511627776) (hsz:(bC l P).length < 35184372088832) (H:aA) (h:H.get 1101=some (bJ l c)) :
  aJ Tryz.prog 50 [.mp 1101 0,.pv (aW P)] H (fun r H'=>r=sv (ofL (bC l P))∧H'=H):=by
 have h1:=aJ.ren (ρ:=S3) QB (GR l c P hst hl hP hsz) (args':=[.mp 1101 0,.pv (aW P)]) (H':=[(1101,bJ l c)]) (r':=sv (ofL (bC l P))) (H1':=[(1101,bJ l c)]) rfl (MP l c) rfl (MP l c);refine aJ.frameS h1 (fun j o ho=>?_) (bF.ofL ⟨aQ _ _ _,trivial⟩) (by simp;rfl);simp only [aA.get] at ho;cases e:Nat.beq 1101 j with
 | true =>
  rw [e] at ho;cases ho;rw [← Nat.eq_of_beq_eq_true e];exact h
 | false=>rw [e] at ho;cases ho
theorem ML {d:DSt} {N m:Nat} (h:DInv d N m) (k a n:Nat) (l:bN) (c:Nat) (hk:k < 4000) (hkN:2*k+2≤N) (ha:a < 2) (hn:n≤k) (hm:m≤10) (hst:dR l c) (hl:l.length < 1099511627776) (hsz:(bC l []).length < 100000000000) :
  aJ Tryz.prog 21 [.ref 1100 0 0 0] (sH d (b7 k a n false) (bJ l c)) (fun r H'=>(k < cT (b8 l)∧r=iv 21∧H'=sH d (b7 k a n false) (bJ l c))∨(cT (b8 l)≤k∧r=iv (GX d k a (b8 l)).1∧∃ a' n',a' < 2∧n'≤k∧((GX d k a (b8 l)).1=0→a'=0∧n'=cT (b8 l))∧H'=sH (GX d k a (b8 l)).2 (b7 k a' n' (!decide ((GX d k a (b8 l)).1=0))) (bJ l c))):=by
 have htx:=fun H hH=>P9 l c [] hst hl (by decide) (by omega) H hH;have hml:(bL l).length=l.length:=XI _;have hW:b8 l=if l.length=0 then[] else bC l []:=rfl
 have hwl:(b8 l).length < 100000000000:=by
  rw [hW]
  split
  ·decide
  exact hsz
 refine Bd func21 rfl ntmps21<|Sr<|Dd aS<|Zz<|Sq<|aM<|Sr<|Dd aE<|Dd (by exact cP rfl fU rfl rfl rfl rfl)<|Da ?_;refine Cn ?_ ?_<;>intro hc1
 ·cases hc1
 refine Sr<|Dd aE<|Dd fA<|Dd (dP jB)<|Dd (eA dC)<|Da ?_;refine Cn ?_ ?_<;>intro hc2
 ·cases hc2
 refine aG<|Sr<|Da ?_;refine kS (fun(_:Unit)=>([(0,.ref 1100 0 0 0),(2,iv 0),(3,sv (ofL (b8 l)))],sH d (b7 k a n false) (bJ l c))) (fun _=>True) ?_ ?_
 ·refine Sr<|Dd aE<|Dd fA<|Dd (dP qB)<|Dd (eA bO)<|Dd (by exact t7 (κ:=eE) (l:=bL l) rfl aT rfl rfl rfl rfl)<|Dd y6<|Zz ?_;refine Cn ?_ ?_<;>intro hc3
  ·have hq:¬ l.length=0:=by have:=XE hc3;omega
   rw [hW,XG hq];refine Rg<|Dd aE<|Dd fA<|Dd (dP qB)<|Dd (eA bO)<|Dd (by exact aB rfl rfl sE rfl (htx _ rfl))<|Da ?_;exact⟨(),trivial,(bY.wk (Ea<|Eb<|Eb<|trivial) (Hc (aF _ _ rfl rfl rfl)<|Hc (aC _ _)<|Hc (aL _ _ _)<|Hc (aK _ _)<|Hc (bD rfl rfl)<|Hc (aQ _ _ _)<|trivial) ⟨rfl,rfl,rfl,rfl,rfl,rfl,trivial⟩)⟩
  have hq:l.length=0:=by have:=XF hc3;omega
  rw [hW,XH hq];refine aG ?_;exact⟨(),trivial,(bY.wk (Ea<|Eb<|Eb<|trivial) (Hc (aF _ _ rfl rfl rfl)<|Hc (aC _ _)<|Hc (aL _ _ _)<|Hc (aK _ _)<|Hc (bD rfl rfl)<|Hc (aQ _ _ _)<|trivial) ⟨rfl,rfl,rfl,rfl,rfl,rfl,trivial⟩)⟩
 rintro _ -;obtain ⟨w,hw⟩:∃ w,w=b8 l:=⟨_,rfl⟩;rw [← hw] at hwl ⊢;clear hW htx;have hcn:=fun H=>wX w (by omega) H;refine Sq<|Sq<|bK follows<|Cq aE<|Cq (by exact aB rfl rfl WX rfl (hcn _))<|Cq aE<|Cq fA<|Cq (dP qC)<|Cq (eA aV)<|Cq y6<|cM<|Kr ?_;refine Cn ?_ ?_<;>intro hc4
 ·have hq:k < cT w:=by have:=XE hc4;omega
  refine Sr<|Dd aS<|Zz<|aN ?_;refine a8 (H':=(sH d (b7 k a n false) (bJ l c))) (.inr rfl) rfl (aH rfl) (Fin.wk (by(simp;done)) (Hc (aF _ _ rfl rfl rfl)<|Hc (aC _ _)<|Hc (aL _ _ _)<|Hc (aK _ _)<|Hc (bD rfl rfl)<|Hc (aQ _ _ _)<|trivial) ⟨rfl,rfl,rfl,rfl,rfl,rfl,trivial⟩) ?_;exact .inl ⟨hq,rfl,rfl⟩
 have hq:cT w≤k:=by have:=XF hc4;omega
 refine aG<|aM ?_;refine KX (fun(d1:DSt) (a1 n1 m1:Nat)=>([(0,.ref 1100 0 0 0),(3,sv (ofL w))],sH d1 (b7 k a1 n1 false) (bJ l c))) (fun d1 a1 n1 m1=>DInv d1 N m1∧a1 < 2∧n1≤k∧(m1≤10∨(a1=1∧m1≤10010))∧GX d k a w=GX d1 k a1 w) (fun d1 a1 n1 m1=>1 - a1) d a n m ⟨h,ha,hn,.inl hm,rfl⟩ ?_ ?_
 ·exact(bY.wk (Ea<|Eb<|trivial) (Hc (aF _ _ rfl rfl rfl)<|Hc (aC _ _)<|Hc (aL _ _ _)<|Hc (aK _ _)<|Hc (bD rfl rfl)<|Hc (aQ _ _ _)<|trivial) ⟨rfl,rfl,rfl,rfl,rfl,rfl,trivial⟩)
 rintro d1 a1 n1 m1 ⟨hi,ha1,hn1,hm1,hsc⟩;rw [hsc];have hwl2:w.length < 100000000:=by rw [cT] at hq;omega
 have hadd:=PC hi k a1 n1 (1 - a1) 0 false l c w hwl2 (by omega) (by omega) (by omega) (by omega);have hai:=PD hi k (1 - a1) 0 w (by omega);rw [X0] at hadd;obtain ⟨x,hx⟩:∃ x,x=iT d1 k (1 - a1) 0 w:=⟨_,rfl⟩;rw [← hx] at hadd hai;have hR:BZ d1 k a1 w=if x.1=0 then iU x.2 (2+a1*k+0) (zR (k - 0))else x:=by rw [BZ,← hx]
 have hS:GX d1 k a1 w=if a1=1 then(if(BZ d1 k a1 w).1=0 then iU (BZ d1 k a1 w).2 (2+0*k+cT w) (zR (k - cT w))else BZ d1 k a1 w)else if(BZ d1 k a1 w).1=0 then GX (BZ d1 k a1 w).2 k 1 w else BZ d1 k a1 w:=by
  rcases(show a1=0∨a1=1 by omega)with e|e<;>subst e<;>rfl
 have hcl:=DV hai k (1 - a1) (cT w) a1 0 false l c (by omega) ha1 (XZ _) (by omega);have hyi:=jZ hai (2+a1*k+0) (zR (k - 0)) (by rw [List.length_replicate];omega);rw [List.length_replicate] at hyi;obtain ⟨y,hy⟩:∃ y,y=iU x.2 (2+a1*k+0) (zR (k - 0)):=⟨_,rfl⟩;rw [← hy] at hcl hyi hR;have hcl2:=DV hyi k (1 - a1) (cT w) 0 (cT w) false l c (by omega) (by omega) hq (by omega);obtain ⟨z,hz⟩:∃ z,z=iU y.2 (2+0*k+cT w) (zR (k - cT w)):=⟨_,rfl⟩;rw [← hz] at hcl2;clear hx hsc;refine aM<|Sr<|Dd aE<|Dd fA<|Dd (dP kN)<|Dd (dP qE)<|Dd (eA aV)<|Dd aS<|Zz<|Sr<|Dd aE<|Dd aE<|Dd (by exact dO rfl rfl rfl (show IntKind.i64.wrap (1 - (a1:Int))=((1 - a1:Nat):Int)by rw [iA (by omega) (by omega)];omega))<|Dd (LI KR)<|Dd aE<|Dd (by exact aB rfl rfl WW rfl (hadd))<|Dd aS<|Zz<|Sq<|Sr<|Dd aE<|Dd hU<|Zz ?_;refine Cn ?_ ?_<;>intro hc5
 ·have e0:x.1=0:=XE hc5;rw [XH e0] at hR ⊢;rw [hR] at hS;refine Rg<|Dd aE<|Dd aE<|Dd (by exact aB rfl rfl call56 rfl (hcl))<|Dd aS<|Zz<|Sq<|Sr<|Dd aE<|Dd pD<|Zz ?_;refine Cn ?_ ?_<;>intro hc6
  ·have e1:¬ y.1=0:=by have h:=hc6;simpa using h
   have hS2:GX d1 k a1 w=y:=by
    rw [hS,XG e1,XG e1,ite_self]
   rw [hS2];refine Sr<|Dd aE<|Dd aS<|Zz<|aN ?_;refine a8 (H':=(sH y.2 (b7 k (1 - a1) (cT w) (false||!decide (y.1=0))) (bJ l c))) (.inr rfl) rfl (aH rfl) (Fin.wk (by(simp;done)) (Hc (aF _ _ rfl rfl rfl)<|Hc (aC _ _)<|Hc (aL _ _ _)<|Hc (aK _ _)<|Hc (bD rfl rfl)<|Hc (aQ _ _ _)<|trivial) ⟨rfl,rfl,rfl,rfl,rfl,rfl,trivial⟩) ?_;exact .inr ⟨hq,rfl,1 - a1,cT w,by omega,hq,fun h=>absurd h e1,rfl⟩
  have e1:y.1=0:=by have h:=hc6;simpa using h
  rw [XH e1,XH e1,← hz] at hS;have hb:(false||!decide (y.1=0))=false:=by rw [e1];rfl
  rw [hb];refine aG<|Sr<|Dd aE<|Dd hU<|Zz ?_;refine Cn ?_ ?_<;>intro hc7
  ·have e2:a1=1:=by have:=XE hc7;omega
   rw [XH e2] at hS;rw [hS];refine Sr<|Dd aE<|Dd aE<|Dd fA<|Dd (dP kN)<|Dd (dP lI)<|Dd (eA aV)<|Dd (by exact aB rfl rfl call56 rfl (hcl2))<|Dd aS<|Zz<|aN ?_;refine a8 (H':=(sH z.2 (b7 k (1 - a1) (cT w) (false||!decide (z.1=0))) (bJ l c))) (.inr rfl) rfl (aH rfl) (Fin.wk (by(simp;done)) (Hc (aF _ _ rfl rfl rfl)<|Hc (aC _ _)<|Hc (aL _ _ _)<|Hc (aK _ _)<|Hc (bD rfl rfl)<|Hc (aQ _ _ _)<|trivial) ⟨rfl,rfl,rfl,rfl,rfl,rfl,trivial⟩) ?_;exact .inr ⟨hq,rfl,1 - a1,cT w,by omega,hq,fun _=>⟨by omega,rfl⟩,rfl⟩
  have e2:¬ a1=1:=by have:=XF hc7;omega
  rw [XG e2] at hS;have e3:a1=0:=by omega
  subst e3;refine aG ?_;exact⟨y.2,1,cT w,_,⟨hyi,by omega,hq,.inr ⟨rfl,by omega⟩,hS⟩,by omega,(bY.wk (Ea<|Eb<|trivial) (Hc (aF _ _ rfl rfl rfl)<|Hc (aC _ _)<|Hc (aL _ _ _)<|Hc (aK _ _)<|Hc (bD rfl rfl)<|Hc (aQ _ _ _)<|trivial) ⟨rfl,rfl,rfl,rfl,rfl,rfl,trivial⟩)⟩
 have e0:¬ x.1=0:=XF hc5;rw [XG e0] at hR ⊢;rw [hR] at hS;have hS2:GX d1 k a1 w=x:=by
  rw [hS,XG e0,XG e0,ite_self]
 rw [hS2];have hd0:decide (x.1=0)=false:=decide_eq_false e0;refine aG<|Sq<|Sr<|Dd aE<|Dd pD<|Zz ?_;refine Cn ?_ ?_<;>intro hc8
 ·refine Sr<|Dd aE<|Dd aS<|Zz<|aN ?_;refine a8 (H':=(sH x.2 (b7 k a1 n1 (!decide (x.1=0))) (bJ l c))) (.inr rfl) rfl (aH rfl) (by rw [hd0];exact(Fin.wk (by(simp;done)) (Hc (aF _ _ rfl rfl rfl)<|Hc (aC _ _)<|Hc (aL _ _ _)<|Hc (aK _ _)<|Hc (bD rfl rfl)<|Hc (aQ _ _ _)<|trivial) ⟨rfl,rfl,rfl,rfl,rfl,rfl,trivial⟩)) ?_;exact .inr ⟨hq,rfl,a1,n1,ha1,hn1,fun h=>absurd h e0,rfl⟩
 (have h:=hc8;simp [e0] at h)
end Go.Proofs.YtmkgeogoojcciaaGreatDoor
namespace Go.Proofs.YtmkgeogoojcciaaGreatDoor
open Go.Proofs.Tryz
open Go.Abs
theorem GU {F:FuncId} {caps:List AV} {L:List ByteArray} (hL:L.length < 1099511627776) (hE:∀ (args:Array Value) (w:World),(callFunc F args).run Tryz.prog w=.ok (.enter F args) w) (K:aA) (hS:xC F caps (fun M=>M.Perm L) K) (k2:K.get 942=none) (k4:K.get 944=none) (k5:K.get 945=none) (k6:K.get 946=none) (hc:bF K) (hcap:Clo K (.clo F caps)) :
  aJ Tryz.prog 48 [.clo F caps] K (fun r H'=>r=.osl 945 L.length 0 L.length∧H'=(945,⟨L.length,1,9,dE (b4 L)⟩)::K):=by
 refine Bd func48 rfl ntmps48<|Sr<|Dd aS<|Zz<|Sr<|Dm ?_;refine iN rfl rfl (aB rfl rfl call95 rfl (DU hE K hS k2 k4 k5 k6 hc hcap)) ?_;rintro r H' ⟨M,hperm,rfl,rfl⟩;have hMl:M.length < 4611686018427387904:=by rw [hperm.length_eq];omega
 have hSo:=nN hperm;have hln:M.length=L.length:=hperm.length_eq;refine Dd aS<|Zz<|Sr<|Dd aE<|Dd (by exact aB rfl rfl call96 rfl (yI M rfl rfl hMl))<|Zz<|Sr<|Dd aE<|Dd aS<|Zz<|aN ?_;refine a8 (H':=((945,⟨M.length,1,9,dE (b4 M)⟩)::K)) (.inr rfl) rfl (aH rfl) (Fin.get' (fun j=>gG _ _ _ _ j)) ?_;exact⟨by rw [hln],by rw [hSo,hln]⟩
end Go.Proofs.YtmkgeogoojcciaaGreatDoor
namespace Go.Proofs.YtmkgeogoojcciaaGreatDoor
open Go.Proofs.Tryz
open Go.Abs Go.Lib
structure OnD (d:DSt) (n:Nat):Prop where
 inv:DInv d n 0
 off:d.off=false
structure xG (d:DSt) (n:Nat):Prop where
 inv:DInv d n 0
 off:d.off=true
 na:∀ a w b,d.arm≠.on a w b
theorem OnD.q {d:DSt} {n:Nat} (h:OnD d n):d.q=[]:=List.length_eq_zero_iff.1 (Nat.le_zero.1 h.inv.q)
theorem Calm.on {d:DSt} {n:Nat} (h:Calm d n):OnD d n:=⟨h.inv,h.off⟩
def SE (cells:List ByteArray) (p:Nat) (L c':List ByteArray):Prop:=∃ m,m≤L.length∧(c'=j1 cells p (L.take m)∨∃ t j,L[m]?=some t∧1≤j∧j≤64∧c'=(j1 cells p (L.take m)).set (p+m) (nD (t.extract 0 j) ((cells[p+m]?).getD ⟨#[]⟩)))
theorem G6:∀ (L:List ByteArray) (p:Nat),(qO p L).length=L.length
 | [],_=>rfl
 | t::r,p=>by rw [qO,XK,G6 r,XK]
theorem CL:∀ (L:List ByteArray) (p m:Nat),(qO p L).take m=qO p (L.take m)
 | [],p,m=>by rw [qO,List.take_nil,List.take_nil];rfl
 | t::r,p,0=>rfl
 | t::r,p,m+1=>by rw [qO,List.take_succ_cons,CL r,List.take_succ_cons,qO]
theorem G7:∀ (L:List ByteArray) (p m:Nat),(qO p L)[m]?=(L[m]?).map fun t=>(p+m,t)
 | [],p,m=>rfl
 | t::r,p,0=>rfl
 | t::r,p,m+1=>by
  rw [qO,List.getElem?_cons_succ,List.getElem?_cons_succ,G7 r];congr 1;funext x;rw [Nat.add_assoc,Nat.add_comm 1 m]
theorem zG {cells:List ByteArray} {s:DSt} {place:Nat} {L:List ByteArray} {i:Nat} (hi:i≤L.length) (hq:s.q=qO place (L.take i)) (hc:s.cells=cells) (w b:Int):SE cells place L (mB s w b):=by
 have hqm:∀ m,m≤i→s.q.take m=qO place (L.take m):=fun m hm=>by rw [hq,CL,List.take_take,Nat.min_eq_left hm]
 have hql:s.q.length=i:=by rw [hq,G6,XW];omega
 obtain ⟨m,hM⟩:∃ m,m=wS s w:=⟨_,rfl⟩;have hmi:m≤i:=by rw [hM,wS];omega
 rw [mB,← hM,hqm m hmi,uS,hc];refine⟨m,by omega,?_⟩;cases e:s.q[m]? with
 | none=>exact .inl rfl
 | some p =>
  rw [hq,G7] at e;rw [B6];by_cases hb:0 < b
  ·rw [XH hb];by_cases hmi2:m < i
   ·rw [List.getElem?_take_of_lt hmi2] at e;cases e2:L[m]? with
    | none=>rw [e2] at e;cases e
    | some t =>
     rw [e2] at e;cases e;refine .inr ⟨t,(min b 64).toNat,rfl,by omega,by omega,?_⟩;show (j1 cells place (List.take m L)).set (place+m) (nD (t.extract 0 (min b 64).toNat) (((j1 cells place (List.take m L))[place+m]?).getD ⟨#[]⟩))=_;rw [iD,XW,XG (by omega)]
   rw [List.getElem?_eq_none (by rw [XW];omega)] at e;cases e
  rw [XG hb];exact .inl rfl
theorem zH {s:DSt} {n m:Nat} (h:DInv s n m) (ho:s.off=false) (w b:Int):xG (jY s w b) n:=by have hi:=rL h w b;rw [jY,XG (by rw [ho];decide)] at hi ⊢;exact⟨⟨hi.ok,hi.arm,hi.n,XZ _⟩,rfl,fun a w b e=>(zI e).elim⟩
theorem DR {s:DSt} {n m:Nat} (h:DInv s n m) (ho:s.off=false):(eC s=0∧(dI s).off=false∧(dI s).q=s.q∧(dI s).cells=s.cells)∨(eC s=22∧∃ w b,dI s=jY s w b):=by
 unfold eC dI;cases e:s.arm with
 | never=>exact .inl ⟨rfl,ho,rfl,rfl⟩
 | off a w b=>exact .inl ⟨rfl,ho,rfl,rfl⟩
 | on a w b =>
  by_cases ha:0 < a
  ·refine .inl ?_;simp only [XH ha];exact⟨trivial,ho,trivial,trivial⟩
  refine .inr ?_;simp only [XG ha];exact⟨trivial,w,b,rfl⟩
theorem LT {d:DSt} {n:Nat} (h:OnD d n) {place:Nat} {L:List ByteArray} (hp:place+L.length≤n) (hs:∀ t∈L,t.size=64) (hm:L.length≤1048575):∀ i,i≤L.length →
  ((mF d place L i).1=0∧(mF d place L i).2.off=false∧(mF d place L i).2.q=qO place (L.take i)∧(mF d place L i).2.cells=d.cells)∨((mF d place L i).1=22∧xG (mF d place L i).2 n∧SE d.cells place L (mF d place L i).2.cells)
 | 0,_=>.inl ⟨rfl,h.off,by rw [List.take_zero,qO];exact h.q,rfl⟩
 | i+1,hi=>by
  have hinv:=oP h.inv place L i (by omega);rcases LT h hp hs hm i (by omega)with⟨h1,h2,h3,h4⟩|⟨h1,h2,h3⟩
  ·obtain ⟨t,ht⟩:=aY (l:=L) (k:=i) (by omega);have hz:=hs t (XS ht);have hD:L.getD i sNil=t:=by rw [List.getD_eq_getElem?_getD,ht];rfl
   have hq:qO place (L.take (i+1))=qO place (L.take i)++[(place+i,t)]:=by
    rw [cR ht,AD,XW,Nat.min_eq_left (by omega)];rfl
   obtain ⟨s,hS⟩:∃ s,s=(mF d place L i).2:=⟨_,rfl⟩;rw [← hS] at h2 h3 h4 hinv;have sc:eZ s ((place+i:Nat):Int)=true:=by
    rw [i7];exact decide_eq_true (by have:=hinv.n;omega)
   have wi:=y0 hinv (by omega) ((place+i:Nat):Int) t;have w1:gV s ((place+i:Nat):Int) t=eC (iW s (place+i) t):=by rw [gV,h2,XG (by decide),sc,decide_eq_true hz,XH (show (true&&true)=true from rfl),XT]
   have w2:iJ s ((place+i:Nat):Int) t=dI (iW s (place+i) t):=by rw [iJ,h2,XG (by decide),sc,decide_eq_true hz,XH (show (true&&true)=true from rfl),XT]
   rw [mF,XH h1,hD,hq,← hS,w1,w2];have hqS:(iW s (place+i) t).q=qO place (L.take (i+1)):=by
    rw [hq,← h3];rfl
   have hok:DInv (iW s (place+i) t) n (0+i+1):=⟨sK hinv.ok (by have:=hinv.n;omega) hz (by have:=hinv.q;omega),hinv.arm,hinv.n,by show (s.q++[(place+i,t)]).length≤_;rw [XJ,List.length_singleton];have:=hinv.q;omega⟩;rcases DR hok h2 with⟨c1,c2,c3,c4⟩|⟨c1,w,b,c2⟩
   ·exact .inl ⟨c1,c2,by rw [c3,hqS,hq],by rw [c4];exact h4⟩
   refine .inr ⟨c1,?_,?_⟩
   ·rw [c2];exact zH hok h2 w b
   rw [c2,jY,XG (by show ¬ s.off=true;rw [h2];decide)];exact zG hi hqS h4 w b
  rw [mF,XG (by rw [h1];decide)];exact .inr ⟨h1,h2,h3⟩
theorem LU {d:DSt} {n:Nat} (h:OnD d n) {place:Nat} {L:List ByteArray} (hp:place+L.length≤n) (hs:∀ t∈L,t.size=64) (hm:L.length≤1048575) :
  ((iU d place L).1=0∧OnD (iU d place L).2 n∧(iU d place L).2.cells=j1 d.cells place L)∨((iU d place L).1=22∧xG (iU d place L).2 n∧SE d.cells place L (iU d place L).2.cells):=by
 have hi:=jZ h.inv place L (by omega);have hk:=oP h.inv place L L.length (by omega);rcases LT h hp hs hm L.length (XO _)with⟨h1,h2,h3,h4⟩|⟨h1,h2,h3⟩
 ·rw [List.take_length] at h3;rw [iU,XH h1] at hi ⊢;obtain ⟨s,hS⟩:∃ s,s=(mF d place L L.length).2:=⟨_,rfl⟩;rw [← hS] at h2 h3 h4 hk hi ⊢;have e1:lJ s=eC s:=by rw [lJ,h2,XG (by decide)]
  rcases DR hk h2 with⟨c1,c2,c3,c4⟩|⟨c1,w,b,c2⟩
  ·have e2:iK s=tD (dI s):=by rw [iK,h2,XG (by decide),XH c1]
   rw [e2] at hi;refine .inl ⟨by rw [e1];exact c1,?_,?_⟩
   ·show OnD (iK s) n;rw [e2];exact⟨⟨hi.ok,hi.arm,hi.n,XZ _⟩,c2⟩
   show (iK s).cells=_;rw [e2];show cK (dI s).cells (dI s).q=_;rw [c3,c4,h3,h4,uS]
  have e2:iK s=jY s w b:=by rw [iK,h2,XG (by decide),XG (by rw [c1];decide),c2]
  refine .inr ⟨by rw [e1];exact c1,?_,?_⟩
  ·show xG (iK s) n;rw [e2];exact zH hk h2 w b
  show SE _ _ _ (iK s).cells;rw [e2,jY,XG (by rw [h2];decide)];exact zG (XO _) (by rw [List.take_length];exact h3) h4 w b
 rw [iU,XG (by rw [h1];decide)];exact .inr ⟨h1,h2,h3⟩
abbrev UA (P:List ByteArray):Ob:=bx 1 31 [.pv (aW P)]
theorem yE (P:List ByteArray) (H:aA) (h1:H.get 951=none) :
  aJ Tryz.prog 49 [.pv (aW P)] H (fun r H'=>r=.clo 97 [.ref 951 0 0 0]∧H'=(951,UA P)::H):=by
 refine Bd func49 rfl ntmps49<|Sr<|Dd (by exact fQ (id:=951) rfl rfl rfl rfl h1)<|Dd aS<|Zz<|Sr<|Dd (by exact eQ rfl rfl)<|Dd aS<|Zz<|aN ?_;refine a8 (H':=((951,UA P)::H)) (.inr rfl) rfl (aH rfl) Fin.refl ?_;exact Qq
def LG (i:Nat):Nat:=if i=901 then 945 else if i=945 then 901 else i
theorem QC (i:Nat):LG (LG i)=i:=by
 unfold LG
 repeat' split
 all_goals omega
theorem MO (ρ:Nat→Nat) (l:List ByteArray):(g9 l).map (gX ρ)=g9 l:=by
 have:∀ r∈g9 l,gX ρ r=r:=by
  intro r hr;obtain ⟨s,_,rfl⟩:=List.mem_map.1 hr;rfl
 rw [List.map_congr_left this,List.map_id']
abbrev cO (g:Nat) (l:List ByteArray):Ob:=⟨g,1,9,g9 l⟩
theorem E5 (ρ:Nat→Nat) (g:Nat) (l:List ByteArray):iC ρ (cO g l)=cO g l:=by show (⟨g,1,9,(g9 l).map (gX ρ)⟩:Ob)=_;rw [MO]
theorem KM (id g:Nat) (l:List ByteArray):bF [(id,cO g l)]:=bF.of (fun p hp=>by
 rw [XL] at hp;subst hp;exact L6 _ _)
theorem wY (L:List ByteArray) (g:Nat) (H:aA) (h1:H.get 945=some (cO g L)) (hl:L.length < 1099511627776) :
  aJ Tryz.prog 47 [.osl 945 g 0 L.length] H (fun r H'=>r=.osl 945 g 0 (bZ L).length∧H'=[(945,cO g (bZ L++List.replicate (L.length - (bZ L).length) sNil)),(945,cO g L)]++H):=by
 have h0:=zN L g [(901,cO g L)] rfl hl;have e1:iS LG [(901,cO g L)]=[(945,cO g L)]:=by
  show [(LG 901,iC LG (cO g L))]=_;rw [E5];rfl
 have e2:iS LG [(901,cO g (bZ L++List.replicate (L.length - (bZ L).length) sNil)),(901,cO g L)]=[(945,cO g (bZ L++List.replicate (L.length - (bZ L).length) sNil)),(945,cO g L)]:=by
  show [(LG 901,iC LG (cO g (bZ L++List.replicate (L.length - (bZ L).length) sNil))),(LG 901,iC LG (cO g L))]=_;rw [E5,E5];rfl
 have h2:=aJ.ren (ρ:=LG) QC h0 (args':=[.osl 945 g 0 L.length]) (r':=.osl 945 g 0 (bZ L).length) rfl e1 rfl e2;refine h2.frame (zX h1) (KM _ _ _) (by simp;rfl) (fun id h=>.inl ?_);simp only [aA.get] at h ⊢;cases e:Nat.beq 945 id with
 | true=>rfl
 | false=>rw [e] at h;cases h
def fP (P:List ByteArray):List ByteArray:=bZ (b4 P)
def vA (k n:Nat) (b:Bool) (l2:bN) (P:List ByteArray):Int:=if b then 12 else if ¬ bH l2 P=0 then bH l2 P else if l2.length+(fP P).length=0 then 0 else if k < n+cT (bC l2 (fP P))then 21 else -1
theorem eM (l2:bN) (P:List ByteArray):bH l2 P=0∨bH l2 P=1∨bH l2 P=2:=by
 rw [bH]
 split
 ·exact .inr (.inl rfl)
 split
 ·exact .inr (.inr rfl)
 exact .inl rfl
theorem rY (P:List ByteArray):(fP P).length≤P.length:=by have h1:=y9 (b4 P);rw [dJ] at h1;exact h1
theorem mW {P:List ByteArray} {x:ByteArray}:x∈fP P↔x∈P:=oL.trans (mI P).mem_iff
theorem w6 (P:List ByteArray):x6 (fP P):=rX (sM P)
theorem OJ (P R:List ByteArray):(((bZ (b4 P)++R).map encStr).take (0+(bZ (b4 P)).length)).drop 0=(fP P).map encStr:=by rw [List.drop_zero,X0,List.map_append];exact List.take_left' (XI _)
theorem KF {d:DSt} {N m:Nat} (h:DInv d N m) (k a n:Nat) (b:Bool) (l:bN) (c:Nat) (l2:bN) (c2:Nat) (P:List ByteArray) (hk:k < 4000) (ha:a < 2) (hn:n≤k) (hm:m≤10) (hst:dR l c) (hnd:fB l) (hst2:dR l2 c2) (hnd2:fB l2) (hl2:l2.length < 1000000) (hP:P.length < 1000000) (hsz:bH l2 P=0→(bC l2 (fP P)).length < 100000000) :
  aJ Tryz.prog 14 [.ref 1100 0 0 0,.mp 950 0,.pv (aW P)] ((950,bJ l2 c2)::sH d (b7 k a n b) (bJ l c)) (fun r H'=>(¬ vA k n b l2 P = -1∧r=iv (vA k n b l2 P)∧H'=(950,bJ l2 c2)::sH d (b7 k a n b) (bJ l c)) ∨
   (vA k n b l2 P = -1∧¬ (iT d k a n (bC l2 (fP P))).1=0∧r=iv (iT d k a n (bC l2 (fP P))).1∧H'=(950,bJ l2 c2)::sH (iT d k a n (bC l2 (fP P))).2 (b7 k a n true) (bJ l c)) ∨
   (vA k n b l2 P = -1∧(iT d k a n (bC l2 (fP P))).1=0∧r=iv 0∧∃ l' c',dR l' c'∧fB l'∧l'.length≤l.length+l2.length∧(∀ x,cS l' x=o9 (cS l) l2 (fP P) x)∧H'=(950,bJ l2 c2)::sH (iT d k a n (bC l2 (fP P))).2 (b7 k a (n+cT (bC l2 (fP P))) false) (bJ l' c'))):=by
 have hR:vA k n b l2 P=if b then 12 else if ¬ bH l2 P=0 then bH l2 P else if l2.length+(fP P).length=0 then 0 else if k < n+cT (bC l2 (fP P))then 21 else -1:=rfl
 have hwr:=fun H hH=>GQ l2 c2 P hst2 (by omega) (by omega) H hH;have hrange:=eM l2 P;have hDl:=rY P;cases b with
 | true =>
  rw [XH rfl] at hR;rw [hR];refine Bd PW rfl LE<|Sr<|Dd aS<|Zz<|Sq<|aM<|Sr<|Dd aE<|Dd (by exact cP rfl fU rfl rfl rfl rfl)<|Da ?_;refine Cn ?_ ?_<;>intro hc1
  ·cases hc1
  refine Sr<|Dd aE<|Dd fA<|Dd (dP jB)<|Dd (eA dC)<|Da ?_;refine Cn ?_ ?_<;>intro hc2
  ·refine Sr<|Dd aS<|Zz<|aN ?_;refine a8 (H':=((950,bJ l2 c2)::sH d (b7 k a n true) (bJ l c))) (.inr rfl) rfl (aH rfl) (Fin.wk (by(simp;done)) (Hc (aQ _ _ _)<|Hc (aF _ _ rfl rfl rfl)<|Hc (aC _ _)<|Hc (aL _ _ _)<|Hc (aK _ _)<|Hc (by(simp;exact⟨rfl,rfl⟩))<|Hc (aQ _ _ _)<|trivial) ⟨rfl,rfl,rfl,rfl,rfl,rfl,rfl,trivial⟩) ?_;exact .inl ⟨by decide,rfl,rfl⟩
  cases hc2
 | false =>
  rw [XG (by decide)] at hR;refine Bd PW rfl LE<|Sr<|Dd aS<|Zz<|Sq<|aM<|Sr<|Dd aE<|Dd (by exact cP rfl fU rfl rfl rfl rfl)<|Da ?_;refine Cn ?_ ?_<;>intro hc1
  ·cases hc1
  refine Sr<|Dd aE<|Dd fA<|Dd (dP jB)<|Dd (eA dC)<|Da ?_;refine Cn ?_ ?_<;>intro hc2
  ·cases hc2
  refine aG<|Sq<|Sr<|Dd aE<|Dd aE<|Dd (by exact aB rfl rfl sF rfl (hwr _ rfl))<|Dd aS<|Zz<|Sr<|Dd aE<|Dd pD<|Zz ?_;refine Cn ?_ ?_<;>intro hc3
  ·have hq:¬ bH l2 P=0:=by have h:=hc3;simpa using h
   rw [XH hq] at hR;rw [hR];refine Sr<|Dd aE<|Dd aS<|Zz<|aN ?_;refine a8 (H':=((950,bJ l2 c2)::sH d (b7 k a n false) (bJ l c))) (.inr rfl) rfl (aH rfl) (Fin.wk (by(simp;done)) (Hc (aQ _ _ _)<|Hc (aF _ _ rfl rfl rfl)<|Hc (aC _ _)<|Hc (aL _ _ _)<|Hc (aK _ _)<|Hc (by(simp;exact⟨rfl,rfl⟩))<|Hc (aQ _ _ _)<|trivial) ⟨rfl,rfl,rfl,rfl,rfl,rfl,rfl,trivial⟩) ?_;exact .inl ⟨by omega,rfl,rfl⟩
  have hq:bH l2 P=0:=by have h:=hc3;simpa using h
  rw [XG (fun h=>h hq)] at hR;have hsz:=hsz hq;have hso:=GU (L:=P) (by omega) call97 ((951,UA P)::(950,bJ l2 c2)::sH d (b7 k a n false) (bJ l c)) (yF P _ (by omega) rfl) rfl rfl rfl rfl (bF.ofL ⟨(by(simp;done)),(by exact aQ _ _ _),(by exact aF _ _ rfl rfl rfl),(by exact aC _ _),(by exact aL _ _ _),(by exact aK _ _),(by(simp;exact⟨rfl,rfl⟩)),(by exact aQ _ _ _),trivial⟩) (by simp;rfl);refine aG<|Sr<|Dd aE<|Dd (by exact aB rfl rfl call49 rfl (yE P _ rfl))<|Dd (by exact aB rfl rfl BW rfl (hso))<|Dd (by exact aB rfl rfl WY rfl ((by have h:=wY (b4 P) P.length ((945,cO P.length (b4 P))::(951,UA P)::(950,bJ l2 c2)::sH d (b7 k a n false) (bJ l c)) rfl (by rw [dJ];omega);rw [dJ] at h;exact h)))<|Dd aS<|Zz<|Sq<|Sq ?_;refine fV.ent (bY.fzG (id:=945) (E':=[(0,.ref 1100 0 0 0),(1,.mp 950 0),(2,.pv (aW (fP P)))]) (H':=(950,bJ l2 c2)::sH d (b7 k a n false) (bJ l c)) ((bZ (b4 P)++List.replicate (P.length - (bZ (b4 P)).length) sNil).map encStr) rfl (by rw [List.map_map];rfl) ?_ rfl ?_ ?_) ?_
  ·intro p hp;simp only [XU,XY,or_false] at hp;rcases hp with rfl|rfl|rfl
   ·exact⟨_,rfl,.same (by simp;rfl)⟩
   ·exact⟨_,rfl,.same (by simp;rfl)⟩
   exact⟨_,rfl,.osl (OJ P _)⟩
  ·exact⟨⟨_,rfl,rfl,rfl,rfl,cB (aQ _ _ _)⟩,⟨_,rfl,rfl,rfl,rfl,cB (aF _ _ rfl rfl rfl)⟩,⟨_,rfl,rfl,rfl,rfl,cB (aC _ _)⟩,⟨_,rfl,rfl,rfl,rfl,cB (aL _ _ _)⟩,⟨_,rfl,rfl,rfl,rfl,cB (aK _ _)⟩,⟨_,rfl,rfl,rfl,rfl,cB (bD rfl rfl)⟩,⟨_,rfl,rfl,rfl,rfl,cB (aQ _ _ _)⟩,trivial⟩
  ·exact⟨rfl,rfl,rfl,rfl,rfl,rfl,rfl,trivial⟩
  have hinc:=w6 P;obtain ⟨D,hD⟩:∃ D,D=fP P:=⟨_,rfl⟩;rw [← hD] at hR hsz hDl ⊢;have hmp:(bL l2).length=l2.length:=XI _;have hmd:(D.map encStr).length=D.length:=XI _;have htx:=fun H hH=>L2 l2 c2 D hst2 (by omega) (by omega) (by omega) H hH;obtain ⟨t,ht⟩:∃ t,t=bC l2 D:=⟨_,rfl⟩;rw [← ht] at hR hsz htx ⊢;have hcn:=fun H=>wX t (by omega) H;refine Rg<|Dd aE<|Dd (by exact t7 (κ:=eE) (l:=bL l2) rfl aT rfl rfl rfl rfl)<|Dd aE<|Dd (j2 aO)<|Dd (by exact cF rfl rfl rfl (iA (by omega) (by omega)))<|Dd hU<|Zz ?_;refine Cn ?_ ?_<;>intro hc4
  ·have hq2:l2.length+D.length=0:=by have:=XE hc4;omega
   rw [XH hq2] at hR;rw [hR];refine Sr<|Dd aS<|Zz<|aN ?_;refine a8 (H':=((950,bJ l2 c2)::sH d (b7 k a n false) (bJ l c))) (.inr rfl) rfl (aH rfl) (Fin.wk (by(simp;done)) (Hc (aQ _ _ _)<|Hc (aF _ _ rfl rfl rfl)<|Hc (aC _ _)<|Hc (aL _ _ _)<|Hc (aK _ _)<|Hc (by(simp;exact⟨rfl,rfl⟩))<|Hc (aQ _ _ _)<|trivial) ⟨rfl,rfl,rfl,rfl,rfl,rfl,rfl,trivial⟩) ?_;exact .inl ⟨by decide,rfl,rfl⟩
  have hq2:¬ l2.length+D.length=0:=by have:=XF hc4;omega
  rw [XG hq2] at hR;refine aG<|Sr<|Dd aE<|Dd aE<|Dd (by exact aB rfl rfl sE rfl (htx _ rfl))<|Dd aS<|Zz<|Sq<|Sq<|bK follows<|Cq aE<|Cq (by exact aB rfl rfl WX rfl (hcn _))<|Cq aE<|Cq fA<|Cq (dP qC)<|Cq (eA aV)<|Cq aE<|Cq fA<|Cq (dP kN)<|Cq (dP lI)<|Cq (eA aV)<|Cq (by exact dO rfl rfl rfl (iA (by omega) (by omega)))<|Cq y6<|cM<|Kr ?_;refine Cn ?_ ?_<;>intro hc5
  ·have hq3:k < n+cT t:=by have:=XE hc5;omega
   rw [XH hq3] at hR;rw [hR];refine Sr<|Dd aS<|Zz<|aN ?_;refine a8 (H':=((950,bJ l2 c2)::sH d (b7 k a n false) (bJ l c))) (.inr rfl) rfl (aH rfl) (Fin.wk (by(simp;done)) (Hc (aQ _ _ _)<|Hc (aF _ _ rfl rfl rfl)<|Hc (aC _ _)<|Hc (aL _ _ _)<|Hc (aK _ _)<|Hc (by(simp;exact⟨rfl,rfl⟩))<|Hc (aQ _ _ _)<|trivial) ⟨rfl,rfl,rfl,rfl,rfl,rfl,rfl,trivial⟩) ?_;exact .inl ⟨by decide,rfl,rfl⟩
  have hq3:¬ k < n+cT t:=by have:=XF hc5;omega
  rw [XG hq3] at hR;rw [hR];have hadd:=PC h k a n a n false l c t hsz (by omega) ha hk (by omega);obtain ⟨x,hx⟩:∃ x,x=iT d k a n t:=⟨_,rfl⟩;rw [← hx] at hadd ⊢;clear hx;refine aG<|Sq<|Sr<|Dd aE<|Dd aE<|Dd fA<|Dd (dP kN)<|Dd (Q5 cQ sizeOf70)<|Dd aE<|Dd (by exact aB rfl rfl WW rfl (fW hadd _ ⟨rfl,rfl,rfl,rfl,rfl,rfl,trivial⟩ (by simp;rfl)))<|Dd aS<|Zz<|Sr<|Dd aE<|Dd pD<|Zz ?_;refine Cn ?_ ?_<;>intro hc6
  ·have e0:¬ x.1=0:=by have h:=hc6;simpa using h
   rw [XG e0];refine Sr<|Dd aE<|Dd aS<|Zz<|aN ?_;refine a8 (H':=((950,bJ l2 c2)::sH x.2 (b7 k a n true) (bJ l c))) (.inr rfl) rfl (aH rfl) (Fin.wk (by(simp;done)) (Hc (aQ _ _ _)<|Hc (aF _ _ rfl rfl rfl)<|Hc (aC _ _)<|Hc (aL _ _ _)<|Hc (aK _ _)<|Hc (by(simp;exact⟨rfl,rfl⟩))<|Hc (aQ _ _ _)<|trivial) ⟨rfl,rfl,rfl,rfl,rfl,rfl,rfl,trivial⟩) ?_;exact .inr (.inl ⟨rfl,e0,rfl,rfl⟩)
  have e0:x.1=0:=by have h:=hc6;simpa using h
  rw [XH e0];refine aG<|Sr<|Dd aE<|Dd fA<|Dd (dP qB)<|Dd (eA bO)<|Dd aE<|Dm ?_;refine iN rfl rfl (aB rfl rfl WV rfl (O6 l l2 c c2 D _ (by omega) (by omega) hst2 rfl rfl rfl (bF.ofL ⟨(by exact aF _ _ rfl rfl rfl),(by exact aC _ _),(by exact aL _ _ _),(by exact aK _ _),(by(simp;exact⟨rfl,rfl⟩)),(by exact aQ _ _ _),(by exact aQ _ _ _),(by exact aF _ _ rfl rfl rfl),(by exact aC _ _),(by exact aL _ _ _),(by exact aK _ _),(by(simp;exact⟨rfl,rfl⟩)),(by exact aQ _ _ _),trivial⟩))) ?_;rintro r H' ⟨rfl,ps,hps,rfl⟩;obtain ⟨q1,q2,q3,q4⟩:=xA (D:=D) hst hnd hnd2 hps;refine Zz<|Sr<|Dd aS<|Zz<|aN ?_;refine a8 (H':=((950,bJ l2 c2)::sH x.2 (b7 k a (n+cT t) false) (bJ (hX (fO l c ps).1 D) (fO l c ps).2))) (.inr rfl) rfl (aH rfl) (Fin.wk (by(simp;done)) (Hc (aQ _ _ _)<|Hc (aF _ _ rfl rfl rfl)<|Hc (aC _ _)<|Hc (aL _ _ _)<|Hc (aK _ _)<|Hc (by(simp;exact⟨rfl,rfl⟩))<|Hc (aQ _ _ _)<|trivial) ⟨rfl,rfl,rfl,rfl,rfl,rfl,rfl,trivial⟩) ?_;exact .inr (.inr ⟨rfl,e0,rfl,_,_,q1,q2,q3,q4,rfl⟩)
theorem KG {d:DSt} {N m:Nat} (h:DInv d N m) (k a n:Nat) (b:Bool) (l:bN) (c:Nat) (P:List ByteArray) (hk:k < 4000) (ha:a < 2) (hn:n≤k) (hm:m≤10) (hst:dR l c) (hnd:fB l) (hP:P.length < 1000000) (hsz:bH ([]:bN) P=0→(bC ([]:bN) (fP P)).length < 100000000) :
  aJ Tryz.prog 14 [.ref 1100 0 0 0,.pv .nilm,.pv (aW P)] (sH d (b7 k a n b) (bJ l c)) (fun r H'=>(¬ vA k n b ([]:bN) P = -1∧r=iv (vA k n b ([]:bN) P)∧H'=sH d (b7 k a n b) (bJ l c)) ∨
   (vA k n b ([]:bN) P = -1∧¬ (iT d k a n (bC ([]:bN) (fP P))).1=0∧r=iv (iT d k a n (bC ([]:bN) (fP P))).1∧H'=sH (iT d k a n (bC ([]:bN) (fP P))).2 (b7 k a n true) (bJ l c)) ∨
   (vA k n b ([]:bN) P = -1∧(iT d k a n (bC ([]:bN) (fP P))).1=0∧r=iv 0∧∃ l' c',dR l' c'∧fB l'∧l'.length≤l.length+([]:bN).length∧(∀ x,cS l' x=o9 (cS l) ([]:bN) (fP P) x)∧H'=sH (iT d k a n (bC ([]:bN) (fP P))).2 (b7 k a (n+cT (bC ([]:bN) (fP P))) false) (bJ l' c'))):=by
 have hR:vA k n b ([]:bN) P=if b then 12 else if ¬ bH ([]:bN) P=0 then bH ([]:bN) P else if([]:bN).length+(fP P).length=0 then 0 else if k < n+cT (bC ([]:bN) (fP P))then 21 else -1:=rfl
 have hwr:=fun H=>LS P (by omega) H;have hrange:=eM ([]:bN) P;have hDl:=rY P;cases b with
 | true =>
  rw [XH rfl] at hR;rw [hR];refine Bd PW rfl LE<|Sr<|Dd aS<|Zz<|Sq<|aM<|Sr<|Dd aE<|Dd (by exact cP rfl fU rfl rfl rfl rfl)<|Da ?_;refine Cn ?_ ?_<;>intro hc1
  ·cases hc1
  refine Sr<|Dd aE<|Dd fA<|Dd (dP jB)<|Dd (eA dC)<|Da ?_;refine Cn ?_ ?_<;>intro hc2
  ·refine Sr<|Dd aS<|Zz<|aN ?_;refine a8 (H':=(sH d (b7 k a n true) (bJ l c))) (.inr rfl) rfl (aH rfl) (Fin.wk (by(simp;done)) (Hc (aF _ _ rfl rfl rfl)<|Hc (aC _ _)<|Hc (aL _ _ _)<|Hc (aK _ _)<|Hc (by(simp;exact⟨rfl,rfl⟩))<|Hc (aQ _ _ _)<|trivial) ⟨rfl,rfl,rfl,rfl,rfl,rfl,trivial⟩) ?_;exact .inl ⟨by decide,rfl,rfl⟩
  cases hc2
 | false =>
  rw [XG (by decide)] at hR;refine Bd PW rfl LE<|Sr<|Dd aS<|Zz<|Sq<|aM<|Sr<|Dd aE<|Dd (by exact cP rfl fU rfl rfl rfl rfl)<|Da ?_;refine Cn ?_ ?_<;>intro hc1
  ·cases hc1
  refine Sr<|Dd aE<|Dd fA<|Dd (dP jB)<|Dd (eA dC)<|Da ?_;refine Cn ?_ ?_<;>intro hc2
  ·cases hc2
  refine aG<|Sq<|Sr<|Dd aE<|Dd aE<|Dd (by exact aB rfl rfl sF rfl (hwr _))<|Dd aS<|Zz<|Sr<|Dd aE<|Dd pD<|Zz ?_;refine Cn ?_ ?_<;>intro hc3
  ·have hq:¬ bH ([]:bN) P=0:=by have h:=hc3;simpa using h
   rw [XH hq] at hR;rw [hR];refine Sr<|Dd aE<|Dd aS<|Zz<|aN ?_;refine a8 (H':=(sH d (b7 k a n false) (bJ l c))) (.inr rfl) rfl (aH rfl) (Fin.wk (by(simp;done)) (Hc (aF _ _ rfl rfl rfl)<|Hc (aC _ _)<|Hc (aL _ _ _)<|Hc (aK _ _)<|Hc (by(simp;exact⟨rfl,rfl⟩))<|Hc (aQ _ _ _)<|trivial) ⟨rfl,rfl,rfl,rfl,rfl,rfl,trivial⟩) ?_;exact .inl ⟨by omega,rfl,rfl⟩
  have hq:bH ([]:bN) P=0:=by have h:=hc3;simpa using h
  rw [XG (fun h=>h hq)] at hR;have hsz:=hsz hq;have hso:=GU (L:=P) (by omega) call97 ((951,UA P)::sH d (b7 k a n false) (bJ l c)) (yF P _ (by omega) rfl) rfl rfl rfl rfl (bF.ofL ⟨(by(simp;done)),(by exact aF _ _ rfl rfl rfl),(by exact aC _ _),(by exact aL _ _ _),(by exact aK _ _),(by(simp;exact⟨rfl,rfl⟩)),(by exact aQ _ _ _),trivial⟩) (by simp;rfl);refine aG<|Sr<|Dd aE<|Dd (by exact aB rfl rfl call49 rfl (yE P _ rfl))<|Dd (by exact aB rfl rfl BW rfl (hso))<|Dd (by exact aB rfl rfl WY rfl ((by have h:=wY (b4 P) P.length ((945,cO P.length (b4 P))::(951,UA P)::sH d (b7 k a n false) (bJ l c)) rfl (by rw [dJ];omega);rw [dJ] at h;exact h)))<|Dd aS<|Zz<|Sq<|Sq ?_;refine fV.ent (bY.fzG (id:=945) (E':=[(0,.ref 1100 0 0 0),(1,.pv .nilm),(2,.pv (aW (fP P)))]) (H':=sH d (b7 k a n false) (bJ l c)) ((bZ (b4 P)++List.replicate (P.length - (bZ (b4 P)).length) sNil).map encStr) rfl (by rw [List.map_map];rfl) ?_ rfl ?_ ?_) ?_
  ·intro p hp;simp only [XU,XY,or_false] at hp;rcases hp with rfl|rfl|rfl
   ·exact⟨_,rfl,.same (by simp;rfl)⟩
   ·exact⟨_,rfl,.same (by simp)⟩
   exact⟨_,rfl,.osl (OJ P _)⟩
  ·exact⟨⟨_,rfl,rfl,rfl,rfl,cB (aF _ _ rfl rfl rfl)⟩,⟨_,rfl,rfl,rfl,rfl,cB (aC _ _)⟩,⟨_,rfl,rfl,rfl,rfl,cB (aL _ _ _)⟩,⟨_,rfl,rfl,rfl,rfl,cB (aK _ _)⟩,⟨_,rfl,rfl,rfl,rfl,cB (bD rfl rfl)⟩,⟨_,rfl,rfl,rfl,rfl,cB (aQ _ _ _)⟩,trivial⟩
  ·exact⟨rfl,rfl,rfl,rfl,rfl,rfl,trivial⟩
  have hinc:=w6 P;obtain ⟨D,hD⟩:∃ D,D=fP P:=⟨_,rfl⟩;rw [← hD] at hR hsz hDl ⊢;have hmp:([]:bN).length=0:=rfl;have hmd:(D.map encStr).length=D.length:=XI _;have htx:=fun H=>QA D (by omega) (by omega) H;obtain ⟨t,ht⟩:∃ t,t=bC ([]:bN) D:=⟨_,rfl⟩;rw [← ht] at hR hsz htx ⊢;have hcn:=fun H=>wX t (by omega) H;refine Rg<|Dd aE<|Dd (by exact SQ rfl aT rfl)<|Dd aE<|Dd (j2 aO)<|Dd (by exact cF rfl rfl rfl (iA (by omega) (by omega)))<|Dd hU<|Zz ?_;refine Cn ?_ ?_<;>intro hc4
  ·have hq2:([]:bN).length+D.length=0:=by have:=XE hc4;omega
   rw [XH hq2] at hR;rw [hR];refine Sr<|Dd aS<|Zz<|aN ?_;refine a8 (H':=(sH d (b7 k a n false) (bJ l c))) (.inr rfl) rfl (aH rfl) (Fin.wk (by(simp;done)) (Hc (aF _ _ rfl rfl rfl)<|Hc (aC _ _)<|Hc (aL _ _ _)<|Hc (aK _ _)<|Hc (by(simp;exact⟨rfl,rfl⟩))<|Hc (aQ _ _ _)<|trivial) ⟨rfl,rfl,rfl,rfl,rfl,rfl,trivial⟩) ?_;exact .inl ⟨by decide,rfl,rfl⟩
  have hq2:¬ ([]:bN).length+D.length=0:=by have:=XF hc4;omega
  rw [XG hq2] at hR;refine aG<|Sr<|Dd aE<|Dd aE<|Dd (by exact aB rfl rfl sE rfl (htx _))<|Dd aS<|Zz<|Sq<|Sq<|bK follows<|Cq aE<|Cq (by exact aB rfl rfl WX rfl (hcn _))<|Cq aE<|Cq fA<|Cq (dP qC)<|Cq (eA aV)<|Cq aE<|Cq fA<|Cq (dP kN)<|Cq (dP lI)<|Cq (eA aV)<|Cq (by exact dO rfl rfl rfl (iA (by omega) (by omega)))<|Cq y6<|cM<|Kr ?_;refine Cn ?_ ?_<;>intro hc5
  ·have hq3:k < n+cT t:=by have:=XE hc5;omega
   rw [XH hq3] at hR;rw [hR];refine Sr<|Dd aS<|Zz<|aN ?_;refine a8 (H':=(sH d (b7 k a n false) (bJ l c))) (.inr rfl) rfl (aH rfl) (Fin.wk (by(simp;done)) (Hc (aF _ _ rfl rfl rfl)<|Hc (aC _ _)<|Hc (aL _ _ _)<|Hc (aK _ _)<|Hc (by(simp;exact⟨rfl,rfl⟩))<|Hc (aQ _ _ _)<|trivial) ⟨rfl,rfl,rfl,rfl,rfl,rfl,trivial⟩) ?_;exact .inl ⟨by decide,rfl,rfl⟩
  have hq3:¬ k < n+cT t:=by have:=XF hc5;omega
  rw [XG hq3] at hR;rw [hR];have hadd:=PC h k a n a n false l c t hsz (by omega) ha hk (by omega);obtain ⟨x,hx⟩:∃ x,x=iT d k a n t:=⟨_,rfl⟩;rw [← hx] at hadd ⊢;clear hx;refine aG<|Sq<|Sr<|Dd aE<|Dd aE<|Dd fA<|Dd (dP kN)<|Dd (Q5 cQ sizeOf70)<|Dd aE<|Dd (by exact aB rfl rfl WW rfl (fW hadd _ ⟨rfl,rfl,rfl,rfl,rfl,rfl,trivial⟩ (by simp;rfl)))<|Dd aS<|Zz<|Sr<|Dd aE<|Dd pD<|Zz ?_;refine Cn ?_ ?_<;>intro hc6
  ·have e0:¬ x.1=0:=by have h:=hc6;simpa using h
   rw [XG e0];refine Sr<|Dd aE<|Dd aS<|Zz<|aN ?_;refine a8 (H':=(sH x.2 (b7 k a n true) (bJ l c))) (.inr rfl) rfl (aH rfl) (Fin.wk (by(simp;done)) (Hc (aF _ _ rfl rfl rfl)<|Hc (aC _ _)<|Hc (aL _ _ _)<|Hc (aK _ _)<|Hc (by(simp;exact⟨rfl,rfl⟩))<|Hc (aQ _ _ _)<|trivial) ⟨rfl,rfl,rfl,rfl,rfl,rfl,trivial⟩) ?_;exact .inr (.inl ⟨rfl,e0,rfl,rfl⟩)
  have e0:x.1=0:=by have h:=hc6;simpa using h
  rw [XH e0];refine aG<|Sr<|Dd aE<|Dd fA<|Dd (dP qB)<|Dd (eA bO)<|Dd aE<|Dm ?_;refine iN rfl rfl (aB rfl rfl WV rfl (O5 l c D _ (by omega) rfl rfl (bF.ofL ⟨(by exact aF _ _ rfl rfl rfl),(by exact aC _ _),(by exact aL _ _ _),(by exact aK _ _),(by(simp;exact⟨rfl,rfl⟩)),(by exact aQ _ _ _),(by exact aF _ _ rfl rfl rfl),(by exact aC _ _),(by exact aL _ _ _),(by exact aK _ _),(by(simp;exact⟨rfl,rfl⟩)),(by exact aQ _ _ _),trivial⟩))) ?_;rintro r H' ⟨rfl,rfl⟩;obtain ⟨q1,q2,q3,q4⟩:=xA (put:=[]) (ps:=[]) (D:=D) hst hnd v8 (List.Perm.refl _);refine Zz<|Sr<|Dd aS<|Zz<|aN ?_;refine a8 (H':=(sH x.2 (b7 k a (n+cT t) false) (bJ (hX l D) c))) (.inr rfl) rfl (aH rfl) (Fin.wk (by(simp;done)) (Hc (aF _ _ rfl rfl rfl)<|Hc (aC _ _)<|Hc (aL _ _ _)<|Hc (aK _ _)<|Hc (by(simp;exact⟨rfl,rfl⟩))<|Hc (aQ _ _ _)<|trivial) ⟨rfl,rfl,rfl,rfl,rfl,rfl,trivial⟩) ?_;exact .inr (.inr ⟨rfl,e0,rfl,_,_,q1,q2,q3,q4,rfl⟩)
abbrev VK (l:List UInt8) (g:Nat) (u:Bool):Ob:=mZ (.osl 2002 g 0 l.length) u
abbrev VJ (l:List UInt8) (g:Nat):Ob:=⟨g,1,5,bG l⟩
theorem P4 {g g':Nat} {l l':List UInt8} {u u':Bool} {id:Nat} (h:(aA.get (EB g l u) id).isSome=true):(aA.get (EB g' l' u') id).isSome=true:=by
 simp only [EB,aA.get] at h ⊢;cases e1:Nat.beq 2001 id with
 | true=>rfl
 | false =>
  cases e2:Nat.beq 2002 id with
  | true=>rfl
  | false=>rw [e1,e2] at h;cases h
theorem LO {g:Nat} {l:List UInt8} {u u':Bool} {id:Nat} (h:(aA.get (KU g l u) id).isSome=true):(aA.get (EB g l u) id).isSome=true:=by
 simp only [KU,EB,aA.get] at h ⊢;cases e1:Nat.beq 2001 id with
 | true=>rfl
 | false =>
  cases e2:Nat.beq 2002 id with
  | true=>rfl
  | false=>rw [e1,e2] at h;cases h
theorem LN {H:aA} {g:Nat} {l:List UInt8} {u:Bool} (h1:H.get 2001=some (VK l g u)) (h2:H.get 2002=some (VJ l g)):Sub (EB g l u) H:=by
 intro j o h;simp only [EB,aA.get] at h;cases e1:Nat.beq 2001 j with
 | true =>
  rw [e1] at h;cases h;rw [← Nat.eq_of_beq_eq_true e1];exact h1
 | false =>
  rw [e1] at h;cases e2:Nat.beq 2002 j with
  | true =>
   rw [e2] at h;cases h;rw [← Nat.eq_of_beq_eq_true e2];exact h2
  | false=>rw [e2] at h;cases h
theorem UI {H:aA} {g:Nat} {l:List UInt8} {u:Bool} (s:ByteArray) (h1:H.get 2001=some (VK l g u)) (h2:H.get 2002=some (VJ l g)) (hl:l.length+s.size < 70368744177664):aJ Tryz.prog 86 [.ref 2001 0 0 0,sv s] H (fun r H'=>r=.tup [iv (s.size:Int),.pv FM]∧H'=EB (g+1) (l++s.data.toList) true++H) :=aJ.frame (pG g l u s hl) (LN h1 h2) (bF.ofL ⟨(by exact mE rfl rfl),(by exact pB _ _),trivial⟩) (by simp;rfl) (fun id h=>.inl (P4 h))
theorem SY {H:aA} {g:Nat} {l:List UInt8} {u:Bool} (h1:H.get 2001=some (VK l g u)) (h2:H.get 2002=some (VJ l g)) (hl:l.length < 70368744177664):aJ Tryz.prog 88 [.ref 2001 0 0 0] H (fun r H'=>r=sv ⟨l.toArray⟩∧H'=KU g l u++H) :=aJ.frame (SH g l u hl) (LN h1 h2) (bF.ofL ⟨(by exact mE rfl rfl),(by exact pB _ _),trivial⟩) (by simp;rfl) (fun id h=>.inl (LO (u':=u) h))
def C2 (d:DSt) (k a i:Nat):List UInt8:=(List.range i).flatMap fun i=>(NH d k a i).data.toList
theorem yX (d:DSt) (k a i:Nat):C2 d k a (i+1)=C2 d k a i++(NH d k a i).data.toList:=by rw [C2,List.range_succ,List.flatMap_append,List.flatMap_cons,List.flatMap_nil,List.append_nil];rfl
theorem yR (place:Nat) (t:ByteArray) (ht:t.size=64):(CR place t).size≤46:=by
 rw [CR]
 split
 ·exact XZ _
 next hb =>
 split
 ·rw [yS] at hb;simp only [Bool.not_eq_true,X4,XQ] at hb;rw [MX,ByteArray.size_extract];omega
 exact XZ _
theorem C1 {d:DSt} (hs:DOk d) {k a:Nat} (n:Nat) (hp:∀ i,i < n→2+a*k+i < d.cells.length):∀ i,i≤n→(C2 d k a i).length≤46*i
 | 0,_=>XO _
 | i+1,hi=>by
  have h1:=C1 hs n hp i (by omega);have h2:=yR (2+a*k+i) (bT d (2+a*k+i)) (lB hs (hp i (by omega)));rw [yX,XJ,dB,NH];omega
theorem vE:∀ (n:Nat) (t:List UInt8) (acc:List ByteArray),((eU n t acc).1.map ByteArray.size).sum≤(acc.map ByteArray.size).sum+t.length
 | 0,t,acc=>Nat.le_add_right _ _
 | n+1,t,acc=>by
  rw [eU]
  split
  ·exact Nat.le_add_right _ _
  split
  ·exact XZ _
  have h1:=vE n ((uC t).drop (HV t)) (acc++[ofL ((uC t).take (HV t))]);have h2:=(F7 t).2;rw [List.map_append,List.sum_append,List.map_cons,List.map_nil,List.sum_cons,List.sum_nil,bS,XW,XX] at h1;omega
theorem EP (t:List UInt8):((dX t).1.map ByteArray.size).sum≤t.length:=by have:=vE t.length t [];rw [List.map_nil,List.sum_nil,X0] at this;exact this
theorem B8 (L:List ByteArray) (j:Nat):((L.take j).map ByteArray.size).sum≤(L.map ByteArray.size).sum:=by
 have h:L.map ByteArray.size=(L.take j).map ByteArray.size++(L.drop j).map ByteArray.size:=by rw [← List.map_append,List.take_append_drop]
 rw [h,List.sum_append];omega
def M7 (o:Bool) (L:List ByteArray) (j:Nat):Bool:=o&&(L.take j).all fun c=>jR c.data.toList
theorem M6 {o:Bool} {L:List ByteArray} {j:Nat} {t:ByteArray} (h:L[j]?=some t):M7 o L (j+1)=(M7 o L j&&jR t.data.toList):=by rw [M7,M7,cR h,List.all_append,List.all_cons,List.all_nil,Bool.and_true,Bool.and_assoc]
abbrev UD (L:List ByteArray) (j:Nat):CT:=m9 ((L.take j).map fun c=>c.data.toList)
theorem OE {L:List ByteArray} {j:Nat} {t:ByteArray} (h:L[j]?=some t):UD L (j+1)=TT (UD L j) t.data.toList:=by rw [UD,cR h,List.map_append];exact qH _ _
theorem Q4 (d:DSt) (hs:DOk d) (hoff:d.off=false) (k a n:Nat) (b:Bool) (ha:a < 2) (hn:n≤k) (hk:2*k+2≤d.cells.length) :
  aJ Tryz.prog 44 [.ref 1100 0 0 0] (sH d (b7 k a n b) (bJ [] 0)) (fun r H'=>r=bv (wD d k a n)∧∃ l c,dR l c∧fB l∧l.length≤46*n∧(wD d k a n=true→∀ x,cS l x=SS d k a n x)∧H'=sH d (b7 k a n b) (bJ l c)):=by
 have hn2:=hs.n2;have hak:a*k≤k:=by
  rcases(show a=0∨a=1 by omega)with e|e<;>subst e<;>omega
 have hplace:∀ i,i < n→2+a*k+i < d.cells.length:=fun i hi=>by omega
 have hTl:=C1 (k:=k) (a:=a) hs n hplace;have hTn:NG d k a n=C2 d k a n:=rfl;have hok:wD d k a n=(C3 d k a n&&((dX (NG d k a n)).2&&(dX (NG d k a n)).1.all fun c=>jR c.data.toList)):=rfl;have hC:SS d k a n=m9 ((dX (NG d k a n)).1.map fun c=>c.data.toList):=rfl;refine Bd func44 rfl ntmps44<|Sr<|Dd aS<|Zz<|Sr<|Dd (by exact cC (id:=2001) rfl LL rfl rfl)<|Zz<|Sq<|Sr<|Dd aE<|Dd fA<|Dd (dP kN)<|Dd (dP lI)<|Dd (eA aV)<|Dd aE<|Zz<|aM ?_;refine fV.ent (E':=[(0,.ref 1100 0 0 0),(3,.ref 2001 0 0 0),(14,iv (n:Int)),(15,iv 0)]) (H':=(2002,⟨0,1,5,[]⟩)::(2001,mZ (.osl 2002 0 0 0) false)::sH d (b7 k a n b) (bJ [] 0)) (bY.nz 2002 1 5 rfl rfl ⟨⟨_,rfl,(by exact Nz.same (by(simp;rfl)))⟩,⟨_,rfl,(by exact Nz.same (by(simp;rfl)))⟩,⟨_,rfl,(by exact Nz.same (by(simp;done)))⟩,⟨_,rfl,(by exact Nz.same (by(simp;done)))⟩,trivial⟩ ⟨⟨_,rfl,rfl,rfl,rfl,(by exact .inr ⟨_,_,rfl,rfl,(by repeat(first|exact trivial|refine⟨(by first|exact Nz.own|exact Nz.same (by(simp;done))),?_⟩))⟩)⟩,⟨_,rfl,rfl,rfl,rfl,(by exact .inl ⟨rfl,(by exact aF _ _ rfl rfl rfl)⟩)⟩,⟨_,rfl,rfl,rfl,rfl,(by exact .inl ⟨rfl,(by exact aC _ _)⟩)⟩,⟨_,rfl,rfl,rfl,rfl,(by exact .inl ⟨rfl,(by exact aL _ _ _)⟩)⟩,⟨_,rfl,rfl,rfl,rfl,(by exact .inl ⟨rfl,(by exact aK _ _)⟩)⟩,⟨_,rfl,rfl,rfl,rfl,(by exact .inl ⟨rfl,(by exact bD rfl rfl)⟩)⟩,⟨_,rfl,rfl,rfl,rfl,(by exact .inl ⟨rfl,(by exact aQ _ _ _)⟩)⟩,trivial⟩ ⟨rfl,rfl,rfl,rfl,rfl,rfl,trivial⟩) ?_;refine tJ (fun(i g:Nat) (u:Bool)=>([(0,.ref 1100 0 0 0),(3,.ref 2001 0 0 0),(14,iv (n:Int)),(15,iv (i:Int))],(2001,VK (C2 d k a i) g u)::(2002,VJ (C2 d k a i) g)::sH d (b7 k a n b) (bJ [] 0))) (fun i g u=>i≤n∧∀ j,j < i→¬ NH d k a j=sNil) (fun i g u=>n - i) 0 0 false ⟨XZ _,fun j hj=>absurd hj (Nat.not_lt_zero _)⟩ ?_ ?_
 ·exact(bY.wk (Ea<|Ea<|Eb<|Eb<|trivial) (Hc (mE rfl rfl)<|Hc (aC _ _)<|Hc (aF _ _ rfl rfl rfl)<|Hc (aC _ _)<|Hc (aL _ _ _)<|Hc (aK _ _)<|Hc (bD rfl rfl)<|Hc (aQ _ _ _)<|trivial) ⟨rfl,rfl,rfl,rfl,rfl,rfl,trivial⟩)
 rintro i g u ⟨hi,hz⟩;have hTi:=hTl i hi;have hpl:=vS d k a n a i b [] 0 (by omega) (by omega) (by omega);refine Sr<|Dd dG<|Zz<|Sq ?_;refine Cn ?_ ?_<;>intro hc1
 ·have hlt:i < n:=by have:=XE hc1;omega
  have hpc:=QK d hs hoff k a n (2+a*k+i) b [] 0 (hplace i hlt);have hps:=yR (2+a*k+i) (bT d (2+a*k+i)) (lB hs (hplace i hlt));have hnx:=yX d k a i;have hPi:NH d k a i=CR (2+a*k+i) (bT d (2+a*k+i)):=rfl;rw [← hPi] at hpc hps;obtain ⟨p,hp⟩:∃ p,p=NH d k a i:=⟨_,rfl⟩;rw [← hp] at hpc hps hnx;refine aG<|Sq<|aM<|Sr<|Dd aE<|Dd aS<|Zz<|Sr<|Dd aE<|Dd aE<|Dd aE<|Dd fA<|Dd (dP kN)<|Dd (dP qE)<|Dd (eA aV)<|Dd aE<|Dd (by exact aB rfl rfl WT rfl (fG hpl _ ⟨rfl,rfl,rfl,rfl,rfl,rfl,trivial⟩ (by simp;rfl)))<|Dd (by exact aB rfl rfl call84 rfl (fG hpc _ ⟨rfl,rfl,rfl,rfl,rfl,rfl,trivial⟩ (by simp;rfl)))<|Dd aS<|Zz<|Sq<|Sr<|Dd aE<|Dd S8<|Zz ?_;refine Cn ?_ ?_<;>intro hc2
  ·have hq:p=sNil:=XE hc2;have hf:wD d k a n=false:=by
    have:C3 d k a n=false:=by
     rw [Bool.eq_false_iff];intro h;have:=List.all_eq_true.1 h i (List.mem_range.2 hlt);rw [← hp,hq,decide_eq_true rfl] at this;cases this
    rw [hok,this];rfl
   refine Sr<|Dd aS<|Zz<|aN ?_;refine a8 (H':=(sH d (b7 k a n b) (bJ [] 0))) (.inr rfl) rfl (aH rfl) (Fin.wk (by(simp;done)) (Hc (aF _ _ rfl rfl rfl)<|Hc (aC _ _)<|Hc (aL _ _ _)<|Hc (aK _ _)<|Hc (bD rfl rfl)<|Hc (aQ _ _ _)<|trivial) ⟨rfl,rfl,rfl,rfl,rfl,rfl,trivial⟩) ?_;exact⟨by rw [hf],[],0,FL,v8,XZ _,fun h=>(by rw [hf] at h;cases h),rfl⟩
  have hq:¬ p=sNil:=XF hc2;refine aG<|Rg<|Dd aE<|Dd (by exact aB rfl rfl call86 rfl (UI p rfl rfl (by omega)))<|Zz<|Rg<|Dd kU<|Dd aE<|Zz ?_;refine⟨i+1,g+1,true,⟨by omega,fun j hj=>?_⟩,by omega,?_⟩
  ·rcases Nat.lt_succ_iff_lt_or_eq.1 hj with h1|rfl
   ·exact hz j h1
   rw [← hp];exact hq
  rw [hnx];exact(bY.wk (Ea<|Ea<|Eb<|Eb<|trivial) (Hc (mE rfl rfl)<|Hc (aC _ _)<|Hc (aF _ _ rfl rfl rfl)<|Hc (aC _ _)<|Hc (aL _ _ _)<|Hc (aK _ _)<|Hc (bD rfl rfl)<|Hc (aQ _ _ _)<|trivial) ⟨rfl,rfl,rfl,rfl,rfl,rfl,trivial⟩)
 have hge:i=n:=by have:=XF hc1;omega
 subst hge;have hall:C3 d k a i=true:=List.all_eq_true.2 fun j hj=>by
  rw [decide_eq_false (hz j (List.mem_range.1 hj))];rfl
 rw [hall,Bool.true_and,hTn] at hok;rw [hTn] at hC;obtain ⟨T,hT⟩:∃ T,T=C2 d k a i:=⟨_,rfl⟩;rw [← hT] at hok hC hTi ⊢;have hspl:=fun H=>CF T H (by omega);have hsum:=EP T;have hL1:=pT T.length T [];rw [List.length_nil,X0] at hL1;change (dX T).1.length≤T.length at hL1;obtain ⟨L,hL⟩:∃ L,L=(dX T).1:=⟨_,rfl⟩;obtain ⟨o,ho⟩:∃ o,o=(dX T).2:=⟨_,rfl⟩;rw [← hL,← ho] at hok;rw [← hL] at hC hsum hL1;simp only [← hL,← ho] at hspl;have hml:(L.map encStr).length=L.length:=XI _;have hTo:(⟨T.toArray⟩:ByteArray)=ofL T:=rfl;refine a6<|Sr<|Dd (by exact aB rfl rfl call88 rfl (SY rfl rfl (by omega)))<|Dd (by exact aB rfl rfl call87 rfl (hspl _))<|Dd aE<|Dd eB<|Dd eB<|Dd aS<|Dd aS<|Zz<|Sq<|Sr<|Dd aE<|Dd (j2 aO)<|Dd aE<|Zz<|aM ?_;refine tJ (fun(j:Nat) (l:bN) (c:Nat)=>([(0,.ref 1100 0 0 0),(7,bv (M7 o L j)),(38,.pv (aW L)),(39,iv ((L.map encStr).length:Int)),(40,iv (j:Int))],sH d (b7 k a i b) (bJ l c))) (fun j l c=>j≤L.length∧dR l c∧fB l∧l.length≤((L.take j).map ByteArray.size).sum∧(M7 o L j=true→∀ x,cS l x=UD L j x)) (fun j l c=>L.length - j) 0 [] 0 ⟨XZ _,FL,v8,XZ _,fun _ x=>rfl⟩ ?_ ?_
 ·rw [show M7 o L 0=o by rw [M7,List.take_zero];exact Bool.and_true o];exact(bY.wk (Ea<|Eb<|Eb<|Eb<|Eb<|trivial) (Hc (aF _ _ rfl rfl rfl)<|Hc (aC _ _)<|Hc (aL _ _ _)<|Hc (aK _ _)<|Hc (bD rfl rfl)<|Hc (aQ _ _ _)<|trivial) ⟨rfl,rfl,rfl,rfl,rfl,rfl,trivial⟩)
 rintro j l c ⟨hj,hst,hnd,hll,hct⟩;have hsj:=B8 L j;refine Sr<|Dd dG<|Zz<|Sq ?_;refine Cn ?_ ?_<;>intro hc3
 ·have hlt:j < L.length:=by have:=XE hc3;omega
  obtain ⟨t,ht⟩:=aY hlt;have hit:=cG (f:=encStr) ht;have hsz:((L.take (j+1)).map ByteArray.size).sum=((L.take j).map ByteArray.size).sum+t.size:=by rw [cR ht,List.map_append,List.sum_append];rfl
  have hsj2:=B8 L (j+1);have hnx:=M6 (o:=o) ht;have hcx:=OE ht;have hrp:=I6 d k a i b l c t.data.toList hst hnd (by rw [dB];omega);rw [FI,dB] at hrp;obtain ⟨oj,hoj⟩:∃ oj,oj=M7 o L j:=⟨_,rfl⟩;rw [← hoj] at hnx hct ⊢;clear hoj;cases oj
  ·refine aG<|Sq<|aM<|Sr<|Dd (B1 bR)<|Dd (kL aU)<|Dd aS<|Zz<|Rg<|Dd aE<|Dd aE<|Fo<|Fo<|Fo<|Fo<|Fo<|Fo<|Dd gO<|Dd aS<|Zz<|Rg<|Dd kU<|Dd aE<|Zz ?_;refine⟨j+1,l,c,⟨by omega,hst,hnd,by omega,fun h=>(by rw [hnx] at h;cases h)⟩,by omega,?_⟩;rw [hnx];exact(bY.wk (Ea<|Eb<|Eb<|Eb<|Eb<|trivial) (Hc (aF _ _ rfl rfl rfl)<|Hc (aC _ _)<|Hc (aL _ _ _)<|Hc (aK _ _)<|Hc (bD rfl rfl)<|Hc (aQ _ _ _)<|trivial) ⟨rfl,rfl,rfl,rfl,rfl,rfl,trivial⟩)
  refine aG<|Sq<|aM<|Sr<|Dd (B1 bR)<|Dd (kL aU)<|Dd aS<|Zz<|Rg<|Dd aE<|Dd aE<|On aE<|On fA<|On (dP qB)<|On (eA bO)<|On aE ?_;refine IC rfl rfl rfl rfl rfl (aB rfl rfl call89 rfl hrp) ?_;rintro _ _ ⟨rfl,l2,c2,q1,q2,q3,q4,rfl⟩;refine Dd gO<|Dd aS<|Zz<|Rg<|Dd kU<|Dd aE<|Zz ?_;refine⟨j+1,l2,c2,⟨by omega,q1,q2,by omega,fun h x=>?_⟩,by omega,?_⟩
  ·rw [hnx,Bool.true_and] at h;rw [q4 h x,hcx,TT,o9,o9,hct rfl x]
  rw [hnx,Bool.true_and];exact(bY.wk (Ea<|Eb<|Eb<|Eb<|Eb<|trivial) (Hc (aF _ _ rfl rfl rfl)<|Hc (aC _ _)<|Hc (aL _ _ _)<|Hc (aK _ _)<|Hc (bD rfl rfl)<|Hc (aQ _ _ _)<|trivial) ⟨rfl,rfl,rfl,rfl,rfl,rfl,trivial⟩)
 have hge:j=L.length:=by have:=XF hc3;omega
 subst hge;have hoke:wD d k a i=M7 o L L.length:=by rw [hok,M7,List.take_length]
 have hCe:SS d k a i=UD L L.length:=by rw [hC,UD,List.take_length]
 rw [List.take_length] at hll;refine a6<|Sr<|Dd aE<|Dd aS<|Zz<|aN ?_;refine a8 (H':=(sH d (b7 k a i b) (bJ l c))) (.inr rfl) rfl (aH rfl) (Fin.wk (by(simp;done)) (Hc (aF _ _ rfl rfl rfl)<|Hc (aC _ _)<|Hc (aL _ _ _)<|Hc (aK _ _)<|Hc (bD rfl rfl)<|Hc (aQ _ _ _)<|trivial) ⟨rfl,rfl,rfl,rfl,rfl,rfl,trivial⟩) ?_;exact⟨by rw [hoke],l,c,hst,hnd,by omega,fun h=>by rw [hCe];exact hct (by rw [← hoke];exact h),rfl⟩
theorem tW {k place:Nat} {t:ByteArray} (h:jX k place t=true):nU t < 2∧nT t≤k∧hS place (nU t) (nT t)=t:=by rw [jX] at h;simp only [XR,XP] at h;exact⟨h.2.1.1,h.2.1.2,h.2.2⟩
def pL (d:DSt) (k:Nat):Bool:=(!HD d k&&!decide (bT d 0=zS))||!wD d k (SO d k) (SN d k)
theorem JQ (d:DSt) (k:Nat):SO d k < 2∧SN d k≤k:=by
 rw [SO,SN];cases h1:uK d k with
 | true =>
  rw [XH rfl,XH rfl];rw [uK] at h1;have:=tW h1;exact⟨this.1,this.2.1⟩
 | false =>
  rw [XG Bool.false_ne_true,XG Bool.false_ne_true];cases h0:jX k 0 (bT d 0)with
  | true =>
   rw [XH rfl,XH rfl];have:=tW h0;exact⟨this.1,this.2.1⟩
  | false =>
   rw [XG Bool.false_ne_true,XG Bool.false_ne_true];exact⟨by omega,by omega⟩
theorem EH (place:Nat) {a n:Nat} (hd:Bool) (ha:a < 10) (hn:n < 10000000):(nL place a n hd).size=64:=by
 cases hd
 ·show zS.size=64;rw [bS,zB,List.length_replicate]
 exact A9 place ha hn
theorem VV:zS.size=64:=by rw [bS,zB,List.length_replicate]
theorem TA {d:DSt} {N place a n:Nat} {hd:Bool} (h:OnD d N) (hp:place < N) (ha:a < 10) (hn:n < 10000000) (h0:(sB d place a n hd).1=0):OnD (sB d place a n hd).2 N:=by
 rw [sB] at h0 ⊢;by_cases e:bT d place=nL place a n hd
 ·rw [XH e] at h0 ⊢;exact h
 rw [XG e] at h0 ⊢;have w1:=LU h (place:=place) (L:=[zS]) (by rw [List.length_singleton];omega) (fun t ht=>by rw [XL.1 ht];exact VV) (by rw [List.length_singleton];omega);by_cases e2:(iU d place [zS]).1=0∧hd=true
 ·rw [XH e2] at h0 ⊢;rcases w1 with⟨q1,q2,q3⟩|⟨q1,q2,q3⟩
  ·have w2:=LU q2 (place:=place) (L:=[nL place a n hd]) (by rw [List.length_singleton];omega) (fun t ht=>by rw [XL.1 ht];exact EH place hd ha hn) (by rw [List.length_singleton];omega);rcases w2 with⟨p1,p2,p3⟩|⟨p1,p2,p3⟩
   ·exact p2
   rw [p1] at h0;cases h0
  rw [q1] at e2;cases e2.1
 rw [XG e2] at h0 ⊢;rcases w1 with⟨q1,q2,q3⟩|⟨q1,q2,q3⟩
 ·exact q2
 rw [q1] at h0;cases h0
def TE (i N:Nat):Int:=if i≤N then 0 else 1
abbrev WN (a n:Nat):Ob:=bx 2 70 [iv (a:Int),iv (n:Int)]
theorem QM {d:DSt} {N:Nat} (h:OnD d N) (hN:4≤N) (k a n:Nat) (hd:Bool) (hk:k=(N - 2) / 2) (hA:a=SO d k) (hNn:n=SN d k) (hH:hd=HD d k) :
  aJ Tryz.prog 12 [.ref 1000 0 0 0] (a7 d) (fun r H'=>(pL d k=true∧r=.tup [.pv .nilp,iv 23]∧H'=a7 d) ∨
   (pL d k=false∧¬ (sB d 1 a n hd).1=0∧r=.tup [.pv .nilp,iv (sB d 1 a n hd).1]∧H'=a7 (sB d 1 a n hd).2) ∨
   (pL d k=false∧(sB d 1 a n hd).1=0∧¬ (sB (sB d 1 a n hd).2 0 a n hd).1=0∧r=.tup [.pv .nilp,iv (sB (sB d 1 a n hd).2 0 a n hd).1]∧H'=a7 (sB (sB d 1 a n hd).2 0 a n hd).2) ∨
   (pL d k=false∧(sB d 1 a n hd).1=0∧(sB (sB d 1 a n hd).2 0 a n hd).1=0∧r=.tup [.ref 1100 0 0 0,iv 0]∧∃ l c,dR l c∧fB l∧l.length≤46*n∧(∀ x,cS l x=SS d k a n x)∧H'=sH (sB (sB d 1 a n hd).2 0 a n hd).2 (b7 k a n false) (bJ l c))):=by
 have hs:=h.inv.ok;have hoff:=h.off;have hcn:=h.inv.n;have hn2:=hs.n2;have hbd:=JQ d k;rw [← hA,← hNn] at hbd;have hbad:pL d k=((!hd&&!decide (bT d 0=zS))||!wD d k a n):=by rw [pL,← hA,← hNn,← hH]
 have hrE:∀ i:Nat,mV d (i:Int)=if i < N then 0 else 1:=fun i=>by
  rw [mV,hoff,XG (by decide),i7,hcn];by_cases e:i < N
  ·rw [XH (decide_eq_true e),XH e]
  rw [XG (by rw [decide_eq_false e];decide),XG e]
 refine Bd func12 rfl ntmps12<|Sr<|Dd aS<|Dd aS<|Zz<|Sq<|Sr<|Dd aE<|Dd (by exact cP rfl iR rfl rfl rfl rfl)<|Zz ?_;refine Cn ?_ ?_<;>intro hc1
 ·cases hc1
 refine aG<|Sr<|Dd aS<|Zz<|Sr<|Dd aS<|Zz<|Sq<|aM ?_;refine bB (σ:=Nat) (fun i=>([(0,.ref 1000 0 0 0),(4,iv (i:Int)),(5,iv (TE i N))],a7 d)) (fun i=>i≤N+1) (fun i=>N+1 - i) 0 (XZ _) ?_ ?_
 ·rw [show TE 0 N=0 from XH (XZ _)];exact(bY.wk (Ea<|Eb<|Eb<|trivial) (Hc (aF _ _ rfl rfl rfl)<|Hc (aC _ _)<|Hc (aL _ _ _)<|Hc (aK _ _)<|trivial) ⟨rfl,rfl,rfl,rfl,trivial⟩)
 intro i hi;have hrd:=MQ d (i:Int) hs;rw [hrE i] at hrd;refine Sq<|Sr<|Dd aE<|Dd hU<|Zz ?_;refine Cn ?_ ?_<;>intro hc2
 ·have hq:i≤N:=by have h:=XE hc2;rw [TE] at h;split at h;exact(by assumption);cases h
  have hnx:TE (i+1) N=if i < N then 0 else 1:=by
   rw [TE];by_cases e:i < N
   ·rw [XH e,XH (by omega)]
   rw [XG e,XG (by omega)]
  rw [← hnx] at hrd;refine aG<|Sq<|aM<|Rg<|Dd aE<|Dd aE<|Dd (by exact aB rfl rfl sG rfl (hrd))<|Dd aE<|Dd eB<|Dd eB<|Dd aS<|Zz<|Rg<|Dd aE<|Dd (by exact cF rfl rfl rfl (show IntKind.i64.wrap ((i:Int)+1)=((i+1:Nat):Int)by rw [iA (by omega) (by omega)];omega))<|Da ?_;exact⟨i+1,by omega,by omega,(bY.wk (Ea<|Eb<|Eb<|trivial) (Hc (aF _ _ rfl rfl rfl)<|Hc (aC _ _)<|Hc (aL _ _ _)<|Hc (aK _ _)<|trivial) ⟨rfl,rfl,rfl,rfl,trivial⟩)⟩
 have hq:i=N+1:=by have h:=XF hc2;rw [TE] at h;split at h;exact absurd rfl h;omega
 have hk1:TE i N=1:=XG (by omega);rw [hk1];have hp1:=q7 d hs hoff k 0 0 1 false [] 0 (by omega) (by omega);have hp0:=q7 d hs hoff k 0 0 0 false [] 0 (by omega) (by omega);have hrd0:=uR hs hoff (n:=0) (by omega);refine a6<|Sq<|Sr<|Dd aE<|Dd (by exact dO rfl rfl rfl (show IntKind.i64.wrap ((i:Int) - 1)=(N:Int)by rw [iA (by omega) (by omega)];omega))<|Dd aS<|Zz<|Sr<|Dd aE<|Dd hU<|Zz ?_;refine Cn ?_ ?_<;>intro hc3
 ·cases hc3
 refine aG<|Sq<|Sr<|Dd aE<|Dd dG<|Zz ?_;refine Cn ?_ ?_<;>intro hc4
 ·(have h:=XE hc4;omega)
 have hkq:IntKind.i64.wrap (((N:Int) - 2).tdiv 2)=(k:Int):=by
  rw [Int.tdiv_eq_ediv_of_nonneg (by omega),iA (by omega) (by omega),hk];omega
 refine aG<|Sr<|Dd aE<|Dd aE<|Dd (by exact dO rfl rfl rfl (iA (by omega) (by omega)))<|Dd (by exact mL rfl rfl rfl (by decide) hkq)<|Dd (by exact g8 (id:=1101) eE rfl rfl)<|Dd (LI V9)<|Dd (by exact fQ (id:=1100) rfl rfl rfl rfl rfl)<|Dd aS<|Zz<|Sq ?_;refine fV.ent (E':=[(0,.ref 1000 0 0 0),(6,.ref 1100 0 0 0)]) (H':=sH d (b7 k 0 0 false) (bJ [] 0)) (bY.wk (Ea<|Ea<|trivial) (Hc (aF _ _ rfl rfl rfl)<|Hc (aC _ _)<|Hc (aL _ _ _)<|Hc (aK _ _)<|Hc (bD rfl rfl)<|Hc (aQ _ _ _)<|trivial) ⟨rfl,rfl,rfl,rfl,trivial⟩) ?_;obtain ⟨h1,hh1⟩:∃ b,b=jX k 1 (bT d 1):=⟨_,rfl⟩;obtain ⟨h0,hh0⟩:∃ b,b=jX k 0 (bT d 0):=⟨_,rfl⟩;rw [← hh1] at hp1;rw [← hh0] at hp0;have hHe:hd=(h1||h0):=by rw [hH,HD,uK,← hh1,← hh0]
 have hAe:a=if h1 then nU (bT d 1)else if h0 then nU (bT d 0)else 0:=by rw [hA,SO,uK,← hh1,← hh0]
 have hNe:n=if h1 then nT (bT d 1)else if h0 then nT (bT d 0)else 0:=by rw [hNn,SN,uK,← hh1,← hh0]
 have hld:=Q4 d hs hoff k a n false hbd.1 hbd.2 (by omega);refine Rg<|Dd aE<|Dd (by exact aB rfl rfl call42 rfl (hp1))<|Dd aE<|Dd eB<|Dd eB<|Dd (by exact cC (id:=7) rfl LM rfl rfl)<|Uu (pK sizeOf70)<|Da ?_;refine kS (fun(q:Nat×Nat)=>([(0,.ref 1000 0 0 0),(6,.ref 1100 0 0 0),(7,.ref 7 0 0 0),(8,bv hd)],(7,WN q.1 q.2)::sH d (b7 k 0 0 false) (bJ [] 0))) (fun q=>hd=true→q.1=a∧q.2=n) ?_ ?_
 ·refine Sr<|Dd aE<|Dd uL<|Zz ?_;refine Cn ?_ ?_<;>intro hc5
  ·have e1:h1=false:=by have h:=hc5;simpa using h
   refine Rg<|Dd aE<|Dd (by exact aB rfl rfl call42 rfl (fG hp0 _ ⟨rfl,rfl,rfl,rfl,rfl,rfl,trivial⟩ (by simp;rfl)))<|Dd aE<|Dd eB<|Dd eB<|Uu (pK sizeOf70)<|Da ?_;refine⟨(nU (bT d 0),nT (bT d 0)),fun hh=>?_,?_⟩
   ·rw [e1] at hHe hAe hNe;rw [hHe] at hh;have e0:h0=true:=hh;rw [e0] at hAe hNe;exact⟨hAe.symm,hNe.symm⟩
   rw [show hd=h0 by rw [hHe,e1];rfl];exact(bY.wk (Ea<|Ea<|Ea<|Eb<|trivial) (Hb<|Hc (aF _ _ rfl rfl rfl)<|Hc (aC _ _)<|Hc (aL _ _ _)<|Hc (aK _ _)<|Hc (bD rfl rfl)<|Hc (aQ _ _ _)<|trivial) ⟨rfl,rfl,rfl,rfl,trivial⟩)
  have e1:h1=true:=by have h:=hc5;simpa using h
  refine aG ?_;refine⟨(nU (bT d 1),nT (bT d 1)),fun hh=>?_,?_⟩
  ·rw [e1] at hAe hNe;exact⟨hAe.symm,hNe.symm⟩
  rw [show hd=h1 by rw [hHe,e1];rfl];exact(bY.wk (Ea<|Ea<|Ea<|Eb<|trivial) (Hb<|Hc (aF _ _ rfl rfl rfl)<|Hc (aC _ _)<|Hc (aL _ _ _)<|Hc (aK _ _)<|Hc (bD rfl rfl)<|Hc (aQ _ _ _)<|trivial) ⟨rfl,rfl,rfl,rfl,trivial⟩)
 rintro⟨a',n'⟩ hq0;have hq0:hd=true→a'=a∧n'=n:=hq0;refine Sr<|Dd aE<|Dd (by exact aB rfl rfl sG rfl (hrd0 _ ⟨rfl,rfl,rfl,rfl,trivial⟩))<|Dd aE<|Dd eB<|Dd eB<|Dd aS<|Da ?_;refine kS (fun(_:Unit)=>([(0,.ref 1000 0 0 0),(6,.ref 1100 0 0 0),(7,.ref 7 0 0 0),(8,bv hd),(9,sv (bT d 0))],(7,WN a n)::sH d (b7 k 0 0 false) (bJ [] 0))) (fun _=>True) ?_ ?_
 ·refine Sr<|Dd aE<|Dd uL<|Zz ?_;refine Cn ?_ ?_<;>intro hc6
  ·have e1:hd=false:=by have h:=hc6;simpa using h
   rw [hHe,X4] at e1;have ha0:a=0:=by rw [hAe,e1.1,e1.2];rfl
   have hn0:n=0:=by rw [hNe,e1.1,e1.2];rfl
   rw [ha0,hn0];refine Rg<|Dd (LI KR)<|Uu (pK sizeOf70)<|Zz ?_;exact⟨(),trivial,(bY.wk (Ea<|Ea<|Ea<|Eb<|Eb<|trivial) (Hb<|Hc (aF _ _ rfl rfl rfl)<|Hc (aC _ _)<|Hc (aL _ _ _)<|Hc (aK _ _)<|Hc (bD rfl rfl)<|Hc (aQ _ _ _)<|trivial) ⟨rfl,rfl,rfl,rfl,trivial⟩)⟩
  have e1:hd=true:=by have h:=hc6;simpa using h
  obtain ⟨rfl,rfl⟩:=hq0 e1;refine aG ?_;exact⟨(),trivial,(bY.wk (Ea<|Ea<|Ea<|Eb<|Eb<|trivial) (Hb<|Hc (aF _ _ rfl rfl rfl)<|Hc (aC _ _)<|Hc (aL _ _ _)<|Hc (aK _ _)<|Hc (bD rfl rfl)<|Hc (aQ _ _ _)<|trivial) ⟨rfl,rfl,rfl,rfl,trivial⟩)⟩
 rintro _ -;clear hHe hAe hNe hq0 hp1 hp0 hh1 hh0 hA hNn hH;refine kS (fun(q:bN×Nat)=>([(6,.ref 1100 0 0 0),(8,bv hd)],sH d (b7 k a n false) (bJ q.1 q.2))) (fun q=>pL d k=false∧dR q.1 q.2∧fB q.1∧q.1.length≤46*n∧∀ x,cS q.1 x=SS d k a n x) ?_ ?_
 ·refine Sr<|Dd aE<|Dd (Q5 cQ sizeOf70)<|Dd fA<|Dd (dP kN)<|Uu (by exact GO rfl sizeOf70 rfl rfl rfl rfl rfl rfl rfl (by simp only [XK,List.length_nil];omega) (by simp only [Zl,encStr];rfl) (by simp only [Zl,encStr];rfl))<|Zz<|Sq ?_;refine fV.ent (E':=[(0,.ref 1000 0 0 0),(6,.ref 1100 0 0 0),(8,bv hd),(9,sv (bT d 0))]) (H':=sH d (b7 k a n false) (bJ [] 0)) (bY.wk (Ea<|Ea<|Eb<|Eb<|trivial) (Hc (aF _ _ rfl rfl rfl)<|Hc (aC _ _)<|Hc (aL _ _ _)<|Hc (aK _ _)<|Hc (bD rfl rfl)<|Hc (aQ _ _ _)<|trivial) ⟨rfl,rfl,rfl,rfl,trivial⟩) ?_;obtain ⟨ok,hok⟩:∃ ok,ok=wD d k a n:=⟨_,rfl⟩;rw [← hok] at hld hbad;clear hok;cases hd with
  | true =>
   refine Rg<|Dd aE<|Dd uL<|Dd aE<|Fo<|Fo<|Fo<|Dd gO<|Dd aE<|On aE ?_;refine IC rfl rfl rfl (by rfl) rfl (aB rfl rfl call44 rfl hld) ?_;rintro _ _ ⟨rfl,l,c,q1,q2,q3,q4,rfl⟩;refine On uL<|Dd gO<|Zz ?_;refine Cn ?_ ?_<;>intro hc7
   ·have hok:ok=false:=by have h:=hc7;simpa using h
    refine Sr<|Dd aS<|Dd aS<|Zz<|aN ?_;refine fR (H':=(a7 d)) (.inr rfl) rfl (aH rfl) (aH rfl) (Fin.wk (by(simp;done)) (Hc (aF _ _ rfl rfl rfl)<|Hc (aC _ _)<|Hc (aL _ _ _)<|Hc (aK _ _)<|trivial) ⟨rfl,rfl,rfl,rfl,trivial⟩) ?_;exact .inl ⟨by rw [hbad,hok];rfl,rfl,rfl⟩
   have hok:ok=true:=by have h:=hc7;simpa using h
   refine aG ?_;exact⟨(l,c),⟨by rw [hbad,hok];rfl,q1,q2,q3,q4 hok⟩,(bY.wk (Ea<|Eb<|trivial) (Hc (aF _ _ rfl rfl rfl)<|Hc (aC _ _)<|Hc (aL _ _ _)<|Hc (aK _ _)<|Hc (bD rfl rfl)<|Hc (aQ _ _ _)<|trivial) ⟨rfl,rfl,rfl,rfl,trivial⟩)⟩
  | false =>
   cases g69:(!decide (bT d 0=ofL (zB 64)))with
   | true =>
    have hbt:pL d k=true:=by
     rw [hbad,show decide (bT d 0=zS)=false by rw [Bool.not_eq_true'] at g69;exact g69];rfl
    refine Rg<|Dd aE<|Dd uL<|Dd aE<|On aE<|On (by exact aB rfl rfl nK rfl (mX _))<|On MD<|Dd gO<|Dd aE<|Fa<|Fa<|Fa<|Dd QJ<|Zz ?_;refine Cn ?_ ?_<;>intro hc8
    ·refine Sr<|Dd aS<|Dd aS<|Zz<|aN ?_;refine fR (H':=(a7 d)) (.inr rfl) rfl (aH rfl) (aH rfl) (Fin.wk (by(simp;done)) (Hc (aF _ _ rfl rfl rfl)<|Hc (aC _ _)<|Hc (aL _ _ _)<|Hc (aK _ _)<|trivial) ⟨rfl,rfl,rfl,rfl,trivial⟩) ?_;exact .inl ⟨hbt,rfl,rfl⟩
    ((cases hc8;done))
   | false =>
    have hz:decide (bT d 0=zS)=true:=by rw [Bool.not_eq_false'] at g69;exact g69
    rw [hz] at hbad;refine Rg<|Dd aE<|Dd uL<|Dd aE<|On aE<|On (by exact aB rfl rfl nK rfl (mX _))<|On MD<|Dd gO<|Dd aE<|Oa aE ?_;refine IC rfl rfl rfl (by assumption) rfl (aB rfl rfl call44 rfl hld) ?_;rintro _ _ ⟨rfl,l,c,q1,q2,q3,q4,rfl⟩;refine Oa uL<|Dd CP<|Zz ?_;refine Cn ?_ ?_<;>intro hc9
    ·have hok:ok=false:=by have h:=hc9;simpa using h
     refine Sr<|Dd aS<|Dd aS<|Zz<|aN ?_;refine fR (H':=(a7 d)) (.inr rfl) rfl (aH rfl) (aH rfl) (Fin.wk (by(simp;done)) (Hc (aF _ _ rfl rfl rfl)<|Hc (aC _ _)<|Hc (aL _ _ _)<|Hc (aK _ _)<|trivial) ⟨rfl,rfl,rfl,rfl,trivial⟩) ?_;exact .inl ⟨by rw [hbad,hok];rfl,rfl,rfl⟩
    have hok:ok=true:=by have h:=hc9;simpa using h
    refine aG ?_;exact⟨(l,c),⟨by rw [hbad,hok];rfl,q1,q2,q3,q4 hok⟩,(bY.wk (Ea<|Eb<|trivial) (Hc (aF _ _ rfl rfl rfl)<|Hc (aC _ _)<|Hc (aL _ _ _)<|Hc (aK _ _)<|Hc (bD rfl rfl)<|Hc (aQ _ _ _)<|trivial) ⟨rfl,rfl,rfl,rfl,trivial⟩)⟩
 rintro⟨l,c⟩ ⟨hbf,q1,q2,q3,q4⟩;have hl0:([[PV.int .i64 1],[PV.int .i64 0]]:List (List PV))[0]?=some [PV.int .i64 1]:=rfl;have hl1:([[PV.int .i64 1],[PV.int .i64 0]]:List (List PV))[1]?=some [PV.int .i64 0]:=rfl;have hr1:=yK h.inv hoff k a n 1 false hd l c (by decide) (by omega) (by omega) (by omega);have hon:=TA (place:=1) (a:=a) (n:=n) (hd:=hd) h (by omega) (by omega) (by omega);obtain ⟨x,hx⟩:∃ x,x=sB d 1 a n hd:=⟨_,rfl⟩;rw [← hx] at hr1 hon ⊢;obtain ⟨y,hy⟩:∃ y,y=sB x.2 0 a n hd:=⟨_,rfl⟩;rw [← hy];refine Sq<|Sr<|Dd (by exact bE [[.int .i64 1],[.int .i64 0]] rfl IQ rfl rfl rfl rfl rfl (by simp))<|Dd (j2 K9)<|Dd aE<|Zz<|aM ?_;refine bB (σ:=Nat) (fun i=>([(6,.ref 1100 0 0 0),(8,bv hd),(76,.pv (.sl [[.int .i64 1],[.int .i64 0]])),(77,iv 2),(78,iv (i:Int))],sH (WK d x.2 y.2 i) (b7 k a n false) (bJ l c))) (fun i=>i≤2∧(0 < i→x.1=0)∧(1 < i→y.1=0)) (fun i=>2 - i) 0 ⟨by omega,fun h=>absurd h (Nat.lt_irrefl _),fun h=>absurd h (by omega)⟩ ?_ ?_
 ·exact(bY.wk (Ea<|Eb<|Eb<|Eb<|Eb<|trivial) (Hc (aF _ _ rfl rfl rfl)<|Hc (aC _ _)<|Hc (aL _ _ _)<|Hc (aK _ _)<|Hc (bD rfl rfl)<|Hc (aQ _ _ _)<|trivial) ⟨rfl,rfl,rfl,rfl,trivial⟩)
 rintro i ⟨hi2,hx0,hy0⟩;have h3:i=0∨i=1∨i=2:=by omega
 rcases h3 with rfl|rfl|rfl
 ·refine Sr<|Dd dG<|Zz<|Sq ?_;refine Cn ?_ ?_<;>intro hc10
  ·refine aG<|Sq<|aM<|Sr<|Dd (by exact aZ (m:=0) rfl IQ rfl rfl (by decide) rfl rfl rfl)<|Dd (kL aV)<|Dd aS<|Zz<|Sr<|Dd aE<|Dd aE<|Dd aE<|Dd (by exact aB rfl rfl call45 rfl (hr1))<|Dd aS<|Zz<|Sr<|Dd aE<|Dd pD<|Zz ?_;refine Cn ?_ ?_<;>intro hc11
   ·have he:¬ x.1=0:=by have h:=hc11;simpa using h
    refine Sr<|Dd aE<|Dd aS<|Dd aS<|Zz<|aN ?_;refine fR (H':=(a7 x.2)) (.inr rfl) rfl (aH rfl) (aH rfl) (Fin.wk (by(simp;done)) (Hc (aF _ _ rfl rfl rfl)<|Hc (aC _ _)<|Hc (aL _ _ _)<|Hc (aK _ _)<|trivial) ⟨rfl,rfl,rfl,rfl,trivial⟩) ?_;exact .inr (.inl ⟨hbf,he,rfl,rfl⟩)
   have he:x.1=0:=by have h:=hc11;simpa using h
   have hb:(false||!decide (x.1=0))=false:=by rw [he];rfl
   rw [hb];refine aG<|Rg<|Dd kU<|Dd aE<|Zz ?_;refine⟨1,⟨by omega,fun _=>he,fun h=>absurd h (by omega)⟩,by omega,?_⟩;exact(bY.wk (Ea<|Eb<|Eb<|Eb<|Eb<|trivial) (Hc (aF _ _ rfl rfl rfl)<|Hc (aC _ _)<|Hc (aL _ _ _)<|Hc (aK _ _)<|Hc (bD rfl rfl)<|Hc (aQ _ _ _)<|trivial) ⟨rfl,rfl,rfl,rfl,trivial⟩)
  cases hc10
 ·have he0:=hx0 (by omega);have hon:=hon he0;have hr0:=yK hon.inv hon.off k a n 0 false hd l c (by decide) (by have:=hon.inv.n;omega) (by omega) (by omega);rw [← hy] at hr0;refine Sr<|Dd dG<|Zz<|Sq ?_;refine Cn ?_ ?_<;>intro hc12
  ·refine aG<|Sq<|aM<|Sr<|Dd (by exact aZ (m:=1) rfl IQ rfl rfl (by decide) rfl rfl rfl)<|Dd (kL aV)<|Dd aS<|Zz<|Sr<|Dd aE<|Dd aE<|Dd aE<|Dd (by exact aB rfl rfl call45 rfl (hr0))<|Dd aS<|Zz<|Sr<|Dd aE<|Dd pD<|Zz ?_;refine Cn ?_ ?_<;>intro hc13
   ·have he:¬ y.1=0:=by have h:=hc13;simpa using h
    refine Sr<|Dd aE<|Dd aS<|Dd aS<|Zz<|aN ?_;refine fR (H':=(a7 y.2)) (.inr rfl) rfl (aH rfl) (aH rfl) (Fin.wk (by(simp;done)) (Hc (aF _ _ rfl rfl rfl)<|Hc (aC _ _)<|Hc (aL _ _ _)<|Hc (aK _ _)<|trivial) ⟨rfl,rfl,rfl,rfl,trivial⟩) ?_;exact .inr (.inr (.inl ⟨hbf,he0,he,rfl,rfl⟩))
   have he:y.1=0:=by have h:=hc13;simpa using h
   have hb:(false||!decide (y.1=0))=false:=by rw [he];rfl
   rw [hb];refine aG<|Rg<|Dd kU<|Dd aE<|Zz ?_;refine⟨2,⟨by omega,fun _=>he0,fun _=>he⟩,by omega,?_⟩;exact(bY.wk (Ea<|Eb<|Eb<|Eb<|Eb<|trivial) (Hc (aF _ _ rfl rfl rfl)<|Hc (aC _ _)<|Hc (aL _ _ _)<|Hc (aK _ _)<|Hc (bD rfl rfl)<|Hc (aQ _ _ _)<|trivial) ⟨rfl,rfl,rfl,rfl,trivial⟩)
  cases hc12
 have he0:=hx0 (by omega);have he1:=hy0 (by omega);refine Sr<|Dd dG<|Zz<|Sq ?_;refine Cn ?_ ?_<;>intro hc14
 ·cases hc14
 refine a6<|Sr<|Dd aE<|Dd aS<|Dd aS<|Zz<|aN ?_;refine fR (H':=(sH y.2 (b7 k a n false) (bJ l c))) (.inr rfl) rfl (aH rfl) (aH rfl) (Fin.wk (by(simp;rfl)) (Hc (aF _ _ rfl rfl rfl)<|Hc (aC _ _)<|Hc (aL _ _ _)<|Hc (aK _ _)<|Hc (bD rfl rfl)<|Hc (aQ _ _ _)<|trivial) ⟨rfl,rfl,rfl,rfl,trivial⟩) ?_;exact .inr (.inr (.inr ⟨hbf,he0,he1,rfl,l,c,q1,q2,q3,q4,rfl⟩))
end Go.Proofs.YtmkgeogoojcciaaGreatDoor
section
namespace Go.Abs
theorem bW.eqv {P:Program} {N:Nat} {o:Oper} {E:bI} {H H':aA} {v v':AV} (h:bW P N o E H v H') (e:v=v'):bW P N o E H v' H':=e▸h
end Go.Abs
namespace Go.Proofs.YtmkgeogoojcciaaGreatDoor
open Go.Proofs.Tryz
open Go.Abs Go.Lib
theorem FU (d:DSt) (k a n:Nat) (b:Bool) (l:bN) (c:Nat) (key:ByteArray) :
  aJ Tryz.prog 24 [.ref 1100 0 0 0,sv key] (sH d (b7 k a n b) (bJ l c)) (fun r H'=>r=.tup [sv (cE l key),bv (cS l key).isSome]∧H'=sH d (b7 k a n b) (bJ l c)):=by
 have hr:(.tup [((kK (DF (bL l)) key).getD (sv sNil)),.pv (.bool (kK (DF (bL l)) key).isSome)]:AV)=.tup [sv (cE l key),bv (cS l key).isSome]:=by
  rw [AW,sU]
 refine Bd func24 rfl ntmps24<|Sr<|Dd aS<|Dd aS<|Zz<|Sq<|Sr<|Dd aE<|Dd (by exact cP rfl fU rfl rfl rfl rfl)<|Zz ?_;refine Cn ?_ ?_<;>intro hc1
 ·cases hc1
 refine aG<|Sr<|Dd aE<|Dd fA<|Dd (dP qB)<|Dd (eA bO)<|Dd aE<|Dd (by exact bW.eqv (DI (κ:=eE) (k:=key) (l:=bL l) rfl aT aI rfl rfl rfl rfl rfl dS (.inl rfl)) hr)<|Dd aE<|Dd eB<|Dd eB<|Dd aS<|Dd aS<|Zz<|Sr<|Dd aE<|Dd aE<|Dd aS<|Dd aS<|Zz<|aN ?_;refine fR (H':=(sH d (b7 k a n b) (bJ l c))) (.inr rfl) rfl (aH rfl) (aH rfl) (Fin.wk (by(simp;done)) (Hc (aF _ _ rfl rfl rfl)<|Hc (aC _ _)<|Hc (aL _ _ _)<|Hc (aK _ _)<|Hc (bD rfl rfl)<|Hc (aQ _ _ _)<|trivial) ⟨rfl,rfl,rfl,rfl,rfl,rfl,trivial⟩) ?_;exact Qq
theorem A5 (d:DSt) (k a n:Nat) (b:Bool) (l:bN) (c:Nat) (hst:dR l c) (hl:l.length < 1099511627776) :
  aJ Tryz.prog 19 [.ref 1100 0 0 0] (sH d (b7 k a n b) (bJ l c)) (fun r H'=>r=.pv (aW (bP l))∧H'=sH d (b7 k a n b) (bJ l c)):=by
 have hcl:bF ((951,PT 1101)::sH d (b7 k a n b) (bJ l c)):=bF.app (D:=[(951,PT 1101)]) (j6.spec ⟨by
  intro r hr x hx;simp only [bx,XL] at hr;subst hr;rw [XL] at hx;subst hx;exact .mp rfl,trivial⟩) (oR _ _ _ _ _ _ _)
 have hso:=z6 (L:=l.map Prod.fst) (by rw [XI];exact hl) WG ((951,PT 1101)::sH d (b7 k a n b) (bJ l c)) (HM 1101 l c _ hl hst rfl rfl (by decide)) rfl rfl rfl rfl hcl (by simp;rfl);change aJ _ _ _ _ fun r H'=>r=.pv (aW (bP l))∧H'=_ at hso;refine Bd func19 rfl ntmps19<|Sr<|Dd aS<|Zz<|Sq<|Sr<|Dd aE<|Dd (by exact cP rfl fU rfl rfl rfl rfl)<|Zz ?_;refine Cn ?_ ?_<;>intro hc1
 ·cases hc1
 refine aG<|Sr<|Dd aE<|Dd fA<|Dd (dP qB)<|Dd (eA bO)<|Dd (by exact aB rfl rfl WU rfl (HL 1101 _ rfl rfl))<|Dd (by exact aB rfl rfl BW rfl (hso))<|Dd aS<|Zz<|aN ?_;refine a8 (H':=(sH d (b7 k a n b) (bJ l c))) (.inr rfl) rfl (aH rfl) (Fin.wk (by(simp;done)) (Hc (aF _ _ rfl rfl rfl)<|Hc (aC _ _)<|Hc (aL _ _ _)<|Hc (aK _ _)<|Hc (bD rfl rfl)<|Hc (aQ _ _ _)<|trivial) ⟨rfl,rfl,rfl,rfl,rfl,rfl,trivial⟩) ?_;exact Qq
end Go.Proofs.YtmkgeogoojcciaaGreatDoor
end
namespace Go.Proofs.YtmkgeogoojcciaaGreatDoor
open Go.Proofs.Tryz
open Go.Abs Go.Lib
theorem oV {d:DSt} {N k a n:Nat} {C:CT} (hc:Calm d N) (hI:SInv d.cells k a n C) (hN:4≤N) (hk:k=(N - 2) / 2) :
  aJ Tryz.prog 12 [.ref 1000 0 0 0] (a7 d) (fun r H'=>r=.tup [.ref 1100 0 0 0,iv 0]∧∃ l c,dR l c∧fB l∧l.length≤46*n∧(∀ x,cS l x=C x)∧H'=sH d (b7 k a n false) (bJ l c)):=by
 have hn2:=hc.inv.ok.n2;have hcn:=hc.inv.n;obtain ⟨o1,o2,o3,o4,o5,o6,o7⟩:=KL hc hI (by omega);have ho:=QM hc.on hN k a n (HD d k) hk o1.symm o2.symm rfl;have hb:pL d k=false:=by
  rw [pL,o1,o2,o4];rcases o3 with o3|o3
  ·rw [o3];rfl
  rw [o3.1,o3.2,decide_eq_true rfl];rfl
 have r1:sB d 1 a n (HD d k)=(0,d):=by rw [sB,XH o6]
 have r0:sB d 0 a n (HD d k)=(0,d):=by rw [sB,XH o7]
 rw [hb,r1,r0] at ho;refine ho.mono ?_;rintro r H' (⟨h,_⟩|⟨_,h,_⟩|⟨_,_,h,_⟩|⟨_,_,_,rfl,l,c,q1,q2,q3,q4,rfl⟩)
 ·cases h
 ·exact absurd rfl h
 ·exact absurd rfl h
 exact⟨rfl,l,c,q1,q2,q3,fun x=>by rw [q4,o5],rfl⟩
theorem nX {s:ByteArray} (h:eJ s=true):s.size≤200:=by rw [eJ,XR,XP] at h;have:=h.2;omega
theorem tQ {l2:bN} {P:List ByteArray} (hw:bH l2 P=0) (hl:l2.length≤1000) (hP:P.length≤1000):(bC l2 (fP P)).length < 100000000:=by
 obtain ⟨k1,k2⟩:=mG hw;have hD:=rY P;have h:=nM (l:=l2) (P:=fP P) (M:=20000) (by decide) (by decide) (fun p hp=>by
  have:=k1 p hp;have:=nX this.1;omega) (fun s hs=>by
  have:=nX (k2 s (mW.1 hs));omega) (by omega)
 have h8:(2*l2.length+2+(fP P).length)*(20000+22)≤3002*20022:=Nat.mul_le_mul (by omega) (by omega);omega
theorem EU {cells:List ByteArray} {k a n:Nat} {C:CT} (hI:SInv cells k a n C) (hk:k < 4000) {l:bN} (hn:fB l) (hl:∀ x,cS l x=C x):(bC l []).length < 100000000000:=by
 have hw:=hI.wrong hn hl;have hlen:=hI.len hn hl;have hnk:=hI.nk;obtain ⟨k1,k2⟩:=mG hw;have h:=nM (l:=l) (P:=[]) (M:=20000) (by decide) (by decide) (fun p hp=>by
  have:=k1 p hp;have:=nX this.1;omega) (fun s hs=>by cases hs) (by rw [List.length_nil];omega)
 have h8:(2*l.length+2+([]:List ByteArray).length)*(20000+22)≤400000*20022:=Nat.mul_le_mul (by rw [List.length_nil];omega) (by omega);omega
def uD (k n:Nat) (l2:bN) (P:List ByteArray):Int:=if vA k n false l2 P = -1 then 0 else vA k n false l2 P
theorem DQ {C:CT} {l2:bN} {D:List ByteArray} (h:l2.length+D.length=0):o9 C l2 D=C:=by have h1:l2=[]:=List.length_eq_zero_iff.1 (by omega);have h2:D=[]:=List.length_eq_zero_iff.1 (by omega);subst h1 h2;funext x;rw [o9,XG XY];show ((none:Option ByteArray).orElse fun _=>C x)=C x;rfl
theorem kF (k n:Nat) (l2:bN) (P:List ByteArray) :
  (vA k n false l2 P=0∧bH l2 P=0∧l2.length+(fP P).length=0)∨(vA k n false l2 P = -1∧bH l2 P=0∧0 < l2.length+(fP P).length∧n+cT (bC l2 (fP P))≤k) ∨
  (vA k n false l2 P=21∧bH l2 P=0∧0 < l2.length+(fP P).length∧k < n+cT (bC l2 (fP P)))∨(vA k n false l2 P=bH l2 P∧¬ bH l2 P=0):=by
 have e:vA k n false l2 P=if ¬ bH l2 P=0 then bH l2 P else if l2.length+(fP P).length=0 then 0 else if k < n+cT (bC l2 (fP P))then 21 else -1:=XG Bool.false_ne_true
 rw [e];by_cases h1:bH l2 P=0
 ·rw [XG (fun h=>h h1)];by_cases h2:l2.length+(fP P).length=0
  ·rw [XH h2];exact .inl ⟨rfl,h1,h2⟩
  rw [XG h2];by_cases h3:k < n+cT (bC l2 (fP P))
  ·rw [XH h3];exact .inr (.inr (.inl ⟨rfl,h1,by omega,h3⟩))
  rw [XG h3];exact .inr (.inl ⟨rfl,h1,by omega,by omega⟩)
 rw [XH h1];exact .inr (.inr (.inr ⟨rfl,h1⟩))
structure St (N k:Nat) (tl:List ByteArray) (d:DSt) (a n:Nat) (l:bN) (c:Nat) (C:CT):Prop where
 calm:Calm d N
 inv:SInv d.cells k a n C
 st:dR l c
 nd:fB l
 kv:∀ x,cS l x=C x
 tl:d.cells.drop (2*k+2)=tl
theorem T0 {cells S:List ByteArray} {p k:Nat} {x y:ByteArray} (h:p+S.length≤2*k+2):(((j1 cells p S).set 1 x).set 0 y).drop (2*k+2)=cells.drop (2*k+2):=by refine List.ext_getElem? fun j=>?_;rw [List.getElem?_drop,List.getElem?_drop,List.getElem?_set_ne (by omega),List.getElem?_set_ne (by omega),iD,XG (by omega)]
theorem L9 {N k:Nat} {tl:List ByteArray} {d:DSt} {a n:Nat} {l l':bN} {c c':Nat} {C:CT} (h:St N k tl d a n l c C) (hk:k < 4000) {l2:bN} {P:List ByteArray} (hn2:fB l2) (hw:bH l2 P=0) (h0:0 < l2.length+(fP P).length) (hfit:n+cT (bC l2 (fP P))≤k) (q1:dR l' c') (q2:fB l') (q4:∀ x,cS l' x=o9 (cS l) l2 (fP P) x) :
  (iT d k a n (bC l2 (fP P))).1=0∧St N k tl (iT d k a n (bC l2 (fP P))).2 a (n+cT (bC l2 (fP P))) l' c' (o9 C l2 (fP P)):=by
 have hkn:=h.inv.kn;have hcn:=h.calm.inv.n;have hak:a*k≤k:=by
  have:=h.inv.a2;rcases(show a=0∨a=1 by omega)with e|e<;>subst e<;>omega
 obtain ⟨a1,a2,a3⟩:=r5 h.calm (k:=k) (a:=a) (cn:=n) (t:=bC l2 (fP P)) (by omega) (by have:=h.calm.inv.ok.n2;omega) h.inv.a2 hfit;have hw2:bH l2 (fP P)=0:=by
  obtain ⟨k1,k2⟩:=mG hw;exact wG (fun p hp=>⟨(k1 p hp).1,fun hm=>(k1 p hp).2.1 (mW.1 hm),(k1 p hp).2.2⟩) (fun s hs=>k2 s (mW.1 hs))
 refine⟨a1,a2,?_,q1,q2,fun x=>?_,?_⟩
 ·rw [a3];exact MH h.inv hn2 (w6 P) h0 hw2 hfit (by omega)
 ·rw [q4,o9,o9,h.kv]
 rw [a3,T0 (by rw [cY];omega)];exact h.tl
theorem jN {N k:Nat} {tl:List ByteArray} {d:DSt} {a n:Nat} {l:bN} {c:Nat} {C:CT} (h:St N k tl d a n l c C) (hk:k < 4000) (l2:bN) (c2:Nat) (P:List ByteArray) (hst2:dR l2 c2) (hnd2:fB l2) (hl2:l2.length≤1000) (hP:P.length≤1000) :
  aJ Tryz.prog 14 [.ref 1100 0 0 0,.mp 950 0,.pv (aW P)] ((950,bJ l2 c2)::sH d (b7 k a n false) (bJ l c)) (fun r H'=>r=iv (uD k n l2 P)∧∃ d' n' l' c',St N k tl d' a n' l' c' (if uD k n l2 P=0 then o9 C l2 (fP P)else C)∧n'=(if vA k n false l2 P = -1 then n+cT (bC l2 (fP P))else n)∧H'=(950,bJ l2 c2)::sH d' (b7 k a n' false) (bJ l' c')):=by
 have hcm:=KF h.calm.inv k a n false l c l2 c2 P hk h.inv.a2 h.inv.nk (by omega) h.st h.nd hst2 hnd2 (by omega) (by omega) (fun hw=>tQ hw hl2 hP);refine hcm.mono ?_;have hcs:=kF k n l2 P;rintro r H' (⟨h1,rfl,rfl⟩|⟨h1,h2,rfl,rfl⟩|⟨h1,h2,rfl,l',c',q1,q2,q3,q4,rfl⟩)
 ·have hE:uD k n l2 P=vA k n false l2 P:=XG h1;rw [hE,XG h1];refine⟨rfl,d,n,l,c,?_,rfl,rfl⟩;rcases hcs with⟨e1,e2,e3⟩|⟨e1,_⟩|⟨e1,_⟩|⟨e1,e2⟩
  ·rw [XH e1,DQ e3];exact h
  ·exact absurd e1 h1
  ·rw [XG (by rw [e1];decide)];exact h
  rw [XG (by rw [e1];exact e2)];exact h
 ·exfalso;rcases hcs with⟨e1,_⟩|⟨e1,e2,e3,e4⟩|⟨e1,_⟩|⟨e1,e2⟩
  ·rw [h1] at e1;cases e1
  ·exact h2 (r5 h.calm (k:=k) (a:=a) (cn:=n) (t:=bC l2 (fP P)) (by have:=h.inv.kn;have:=h.calm.inv.n;omega) (by have:=h.calm.inv.ok.n2;have:=h.calm.inv.n;omega) h.inv.a2 e4).1
  ·rw [h1] at e1;cases e1
  rw [h1] at e1;have:=eM l2 P;omega
 have hE:uD k n l2 P=0:=XH h1;rw [hE,XH rfl,XH h1];rcases hcs with⟨e1,_⟩|⟨e1,e2,e3,e4⟩|⟨e1,_⟩|⟨e1,e2⟩
 ·rw [h1] at e1;cases e1
 ·exact⟨rfl,_,_,l',c',(L9 h hk hnd2 e2 e3 e4 q1 q2 q4).2,rfl,rfl⟩
 ·rw [h1] at e1;cases e1
 rw [h1] at e1;have:=eM l2 P;omega
theorem BN {N k:Nat} {tl:List ByteArray} {d:DSt} {a n:Nat} {l:bN} {c:Nat} {C:CT} (h:St N k tl d a n l c C) (hk:k < 4000) (P:List ByteArray) (hP:P.length≤1000) :
  aJ Tryz.prog 14 [.ref 1100 0 0 0,.pv .nilm,.pv (aW P)] (sH d (b7 k a n false) (bJ l c)) (fun r H'=>r=iv (uD k n [] P)∧∃ d' n' l' c',St N k tl d' a n' l' c' (if uD k n [] P=0 then o9 C [] (fP P)else C)∧n'=(if vA k n false [] P = -1 then n+cT (bC [] (fP P))else n)∧H'=sH d' (b7 k a n' false) (bJ l' c')):=by
 have hcm:=KG h.calm.inv k a n false l c P hk h.inv.a2 h.inv.nk (by omega) h.st h.nd (by omega) (fun hw=>tQ hw (by decide) hP);refine hcm.mono ?_;have hcs:=kF k n [] P;rintro r H' (⟨h1,rfl,rfl⟩|⟨h1,h2,rfl,rfl⟩|⟨h1,h2,rfl,l',c',q1,q2,q3,q4,rfl⟩)
 ·have hE:uD k n [] P=vA k n false [] P:=XG h1;rw [hE,XG h1];refine⟨rfl,d,n,l,c,?_,rfl,rfl⟩;rcases hcs with⟨e1,e2,e3⟩|⟨e1,_⟩|⟨e1,_⟩|⟨e1,e2⟩
  ·rw [XH e1,DQ e3];exact h
  ·exact absurd e1 h1
  ·rw [XG (by rw [e1];decide)];exact h
  rw [XG (by rw [e1];exact e2)];exact h
 ·exfalso;rcases hcs with⟨e1,_⟩|⟨e1,e2,e3,e4⟩|⟨e1,_⟩|⟨e1,e2⟩
  ·rw [h1] at e1;cases e1
  ·exact h2 (r5 h.calm (k:=k) (a:=a) (cn:=n) (t:=bC [] (fP P)) (by have:=h.inv.kn;have:=h.calm.inv.n;omega) (by have:=h.calm.inv.ok.n2;have:=h.calm.inv.n;omega) h.inv.a2 e4).1
  ·rw [h1] at e1;cases e1
  rw [h1] at e1;have:=eM [] P;omega
 have hE:uD k n [] P=0:=XH h1;rw [hE,XH rfl,XH h1];rcases hcs with⟨e1,_⟩|⟨e1,e2,e3,e4⟩|⟨e1,_⟩|⟨e1,e2⟩
 ·rw [h1] at e1;cases e1
 ·exact⟨rfl,_,_,l',c',(L9 h hk v8 e2 e3 e4 q1 q2 q4).2,rfl,rfl⟩
 ·rw [h1] at e1;cases e1
 rw [h1] at e1;have:=eM [] P;omega
def SJ (k:Nat) (l:bN):Int:=if k < cT (b8 l)then 21 else 0
theorem vM {N k:Nat} {tl:List ByteArray} {d:DSt} {a n:Nat} {l:bN} {c:Nat} {C:CT} (h:St N k tl d a n l c C) (hk:k < 4000) :
  aJ Tryz.prog 21 [.ref 1100 0 0 0] (sH d (b7 k a n false) (bJ l c)) (fun r H'=>r=iv (SJ k l)∧∃ d' a' n',St N k tl d' a' n' l c C∧(SJ k l=0→d'.cells=jD k (b8 l) tl)∧H'=sH d' (b7 k a' n' false) (bJ l c)):=by
 have hkn:=h.inv.kn;have hcn:=h.calm.inv.n;have hlen:=h.inv.len h.nd h.kv;have hnk:=h.inv.nk;have hsc:=ML h.calm.inv k a n l c hk (by omega) h.inv.a2 h.inv.nk (by omega) h.st (by omega) (EU h.inv hk h.nd h.kv);refine hsc.mono ?_;rintro r H' (⟨h1,rfl,rfl⟩|⟨h1,rfl,a',n',q1,q2,q3,rfl⟩)
 ·have hE:SJ k l=21:=XH h1;rw [hE];exact⟨rfl,d,a,n,h,fun e=>(by cases e),rfl⟩
 have hE:SJ k l=0:=XG (by omega);obtain ⟨s1,s2,s3⟩:=ON h.calm (k:=k) (a:=a) (w:=b8 l) (by omega) (by have:=h.calm.inv.ok.n2;omega) h.inv.a2 h1;obtain ⟨rfl,rfl⟩:=q3 s1;rw [hE,s1];have htl:(jD k (b8 l) tl).drop (2*k+2)=tl:=by
  have e1:jD k (b8 l) tl=(hS 0 0 (cT (b8 l))::hS 1 0 (cT (b8 l))::(i6 2 (b8 l) (cT (b8 l))++(zR (k - cT (b8 l))++zR k)))++tl:=by rw [jD];simp only [List.cons_append,List.append_assoc]
  rw [e1];exact List.drop_left' (by rw [XK,XK,XJ,cY,XJ,List.length_replicate,List.length_replicate];omega)
 rw [h.tl] at s3;have hiv:=EV h.inv h.nd h.kv h1 (by omega);rw [h.tl] at hiv;exact⟨rfl,_,0,cT (b8 l),⟨s2,by rw [s3];exact hiv,h.st,h.nd,h.kv,by rw [s3,htl]⟩,fun _=>s3,rfl⟩
theorem L7 {N:Nat} (h1:4≤N) (h2:N≤8000) {l:bN} {c:Nat} (q1:dR l c) (q2:fB l) (q3:∀ x,cS l x=none):St N ((N - 2) / 2) ((kV N).cells.drop (2*((N - 2) / 2)+2)) (kV N) 0 0 l c (fun _=>none) :=⟨r4 (by omega) h2,qW h1,q1,q2,q3,rfl⟩
end Go.Proofs.YtmkgeogoojcciaaGreatDoor
namespace Go.Abs
section
section
variable {P:Program} {N:Nat} {o:Oper} {E:bI} {H:aA} {T:TypeId} {x y:Operand}
theorem e8 {e:TypeId} {kk:IntKind} {n:Int} {m sz cnt i k k2:Nat} {rows:List (List PV)} (ho:o.op=.indexAddr T x y) (hT:P.underlying T=some (.array cnt e)) (hs:∀ w,(sizeOf e).run P w=.ok sz w)
  (hx:aP E x=some (.pad rows i k)) (hy:aP E y=some (.pv (.int kk n))) (h0:0≤n) (hm:n.toNat=m) (hi:m < cnt) (hk:k+m*sz=k2):bW P N o E H (.pad rows i k2) H :=
 .of_run fun a w I ι hr he=>by
  have h:=aD he hx;have hn:=(aD he hy).int_inv;generalize hc:a.eval x=c at h;subst hk;cases h with
  | pad b off cap sz1 h0' hsz hlen cs hb hcc hp =>
   refine⟨.pointer (some ⟨b,off+i*sz1+(k+m*sz),none⟩),?_,.pad b off cap sz1 h0' hsz hlen cs hb hcc hp⟩;simp only [execOp,ho,hc,hn];have h5:n < (cnt:Int):=by omega
   simp [Instr.indexAt,run_underlying hT,Instr.sureAddr,asIntOf,h0,h5,hs,hm,Addr.add_lit,Nat.add_assoc]
end
end
end Go.Abs
namespace Go.Proofs.YtmkgeogoojcciaaGreatDoor
open Go.Proofs.Tryz
open Go.Abs Go.Lib
structure GOp where
 kind:Int
 put:List (ByteArray×ByteArray)
 drop:List ByteArray
 a:Int
 b:Int
 c:Int
def oG (p:ByteArray×ByteArray):List PV:=[.str p.1,.str p.2]
def IS (l:List (ByteArray×ByteArray)):PV:=.sl (l.map oG)
def rU (o:GOp):List PV:=[.int .i64 o.kind,IS o.put,aW o.drop,.int .i64 o.a,.int .i64 o.b,.int .i64 o.c]
def pJ (l:List GOp):PV:=.sl (l.map rU)
theorem tZ (l:bN):2*(bP l).length=(cL l).length:=(fN (fun x=>x) (cE l) (bP l)).symm
theorem Fin.stK {G0 H1 H':aA} {id g n:Nat} {ob:Ob} (l:List ByteArray) (hH:H1.get id=some ob) (hg:ob.g=g) (hps:ob.rows=cJ l) (hn:n=l.length) (hno:H'.get id=none) (hHO:B0 H1 H' H') (hk:LK H' H1 G0) :
  Fin G0 H1 (.osl id g 0 n) H' (.pv (aW l)):=by
 subst hg hn;exact Fin.fz (id:=id) (ob:=ob) (l.map encStr) hH (hps.trans (iX l)) (.osl (kI encStr l)) hno hHO hk
theorem M4 (key value:ByteArray) (H:aA) (h:H.get 950=none):aJ Tryz.prog 23 [sv key,sv value] H (fun r H'=>r=.mp 950 0∧H'=(950,bJ (dM [(key,value)]).1 (dM [(key,value)]).2)::H):=by refine Bd func23 rfl ntmps23<|Sr<|Dd aS<|Zz<|Sr<|Dd (by exact g8 (id:=950) eE rfl h)<|Dd aE<|Dd aE<|Uu (by exact B2 (κ:=eE) (.inr rfl) aT aI rfl rfl rfl rfl rfl rfl rfl rfl)<|Dd aE<|Dd aS<|Zz<|aN ?_;refine a8 (H':=((950,bJ (dM [(key,value)]).1 (dM [(key,value)]).2)::H)) (.inr rfl) rfl (aH rfl) (Fin.get' (fun j=>gG _ _ _ _ j)) ?_;exact Qq
theorem ND (l:List (ByteArray×ByteArray)) (H:aA) (h:H.get 950=none) (hl:l.length < 1099511627776):aJ Tryz.prog 15 [.pv (IS l)] H (fun r H'=>r=.mp 950 0∧H'=(950,bJ (dM l).1 (dM l).2)::H):=by
 have hml:(l.map oG).length=l.length:=XI _;refine Bd func15 rfl ntmps15<|Sr<|Dd aS<|Zz<|Sr<|Dd (by exact g8 (id:=950) eE rfl h)<|Dd aS<|Zz<|Sq<|Sr<|Dd aS<|Zz<|aM ?_;refine bB (σ:=Nat) (fun k=>([(0,.pv (IS l)),(3,.mp 950 0),(4,iv (k:Int))],(950,bJ (dM (l.take k)).1 (dM (l.take k)).2)::H)) (fun k=>k≤l.length) (fun k=>l.length - k) 0 (XZ _) ?_ ?_
 ·exact E0
 intro k hk;refine Sq<|Sr<|Dd aE<|Dd aE<|Dd (j2 iQ)<|Dd dG<|Zz ?_;refine Cn ?_ ?_<;>intro hc1
 ·have hlt:k < l.length:=by have:=XE hc1;omega
  obtain ⟨p,hp⟩:=aY hlt;have hi:=cG (f:=oG) hp;have hnx:dM (l.take (k+1))=(fZ (dM (l.take k)).1 p.1 p.2 (dM (l.take k)).2,lG (dM (l.take k)).1 p.1 (dM (l.take k)).2):=by rw [cR hp];exact vR _ _ _
  refine aG<|Sq<|aM<|bK follows<|Cs (fun _ _=>aE)<|Cs (fun _ _=>aE)<|Cs (fun _ _=>aE)<|Cs (fun _ _=>(B1 IR))<|Cs (fun H1 hH=>by exact e8 rfl fT sizeOf9 rfl rfl (by omega) (by exact XT _) (by decide) rfl)<|Cs (fun _ _=>(kL aU))<|Cs (fun _ _=>aE)<|Cs (fun _ _=>aE)<|Cs (fun _ _=>(B1 IR))<|Cs (fun H1 hH=>by exact e8 rfl fT sizeOf9 rfl rfl (by omega) (by exact XT _) (by decide) rfl)<|Cs (fun _ _=>(kL aU)) ?_;refine bU (r:=⟨_,none,[_]⟩) (DStep.plain rfl (fun H1 hH=>by exact f0 (κ:=eE) (l:=bL (dM (l.take k)).1) (.inl rfl) aT aI rfl ((hH _ rfl).trans rfl) rfl rfl rfl rfl rfl (k9 _ _ _ _) (mR _ _ _))) rfl ?_;refine cM<|Kr<|Rg<|Dd aE<|Dd kU<|Da ?_;refine⟨k+1,by omega,by omega,?_⟩;rw [hnx];exact bY.get' ⟨⟨_,rfl,rfl⟩,⟨_,rfl,rfl⟩,⟨_,rfl,rfl⟩,trivial⟩ (fun j=>gG _ _ _ _ j)
 have hge:k=l.length:=by have:=XF hc1;omega
 subst hge;rw [List.take_length];refine a6<|Sr<|Dd aE<|Dd aS<|Zz<|aN ?_;refine a8 (H':=((950,bJ (dM l).1 (dM l).2)::H)) (.inr rfl) rfl (aH rfl) Fin.refl ?_;exact Qq
theorem F5 (d:DSt) (k a n:Nat) (b:Bool) (l:bN) (c:Nat) (hst:dR l c) (hnd:fB l) (hl:l.length < 1000000000) :
  aJ Tryz.prog 18 [.ref 1100 0 0 0] (sH d (b7 k a n b) (bJ l c)) (fun r H'=>r=.pv (aW (cL l))∧H'=sH d (b7 k a n b) (bJ l c)):=by
 have hks:=A5 d k a n b l c hst (by omega);have hsl:=fL l;have hml:((bP l).map encStr).length=(bP l).length:=XI _;have hT:∀ i,i≤(bP l).length→(((bP l).take i).flatMap fun x=>[x,cE l x]).length=2*i:=fun i hi=>by rw [fN,XW];omega
 refine Bd func18 rfl ntmps18<|Sr<|Dd aS<|Zz<|Sr<|Dd aE<|Dd (by exact aB rfl rfl W1 rfl (hks))<|Dd aS<|Zz<|Sr<|Dd (by exact iH (id:=905) (sz:=1) (ty:=9) rfl rfl rfl)<|Zz<|Sq<|Sr<|Dd aS<|Zz<|aM ?_;refine bB (σ:=Nat) (fun i=>([(0,.ref 1100 0 0 0),(3,.pv (aW (bP l))),(4,.osl 905 i 0 (2*i)),(5,iv (i:Int))],(905,⟨i,1,9,cJ (((bP l).take i).flatMap fun x=>[x,cE l x])⟩)::sH d (b7 k a n b) (bJ l c))) (fun i=>i≤(bP l).length) (fun i=>(bP l).length - i) 0 (XZ _) ?_ ?_
 ·exact(bY.wk (Ea<|Eb<|Ea<|Eb<|trivial) (Hc (eY _ _)<|Hc (aF _ _ rfl rfl rfl)<|Hc (aC _ _)<|Hc (aL _ _ _)<|Hc (aK _ _)<|Hc (by(simp;exact⟨rfl,rfl⟩))<|Hc (aQ _ _ _)<|trivial) ⟨rfl,rfl,rfl,rfl,rfl,rfl,trivial⟩)
 intro i hi;have hTi:=hT i hi;refine Sq<|Sr<|Dd aE<|Dd aE<|Dd (j2 aO)<|Dd dG<|Zz ?_;refine Cn ?_ ?_<;>intro hc1
 ·have hlt:i < (bP l).length:=by have:=XE hc1;omega
  obtain ⟨s,hs⟩:=aY hlt;have his:=cG (f:=encStr) hs;have hin:(cS l s).isSome=true:=by
   cases e:cS l s with
   | some v=>rfl
   | none=>exact absurd (j8.1 (XS hs)) (gS.1 e)
  have hg:=FU d k a n b l c s;rw [hin] at hg;have hnx:((bP l).take (i+1)).flatMap (fun x=>[x,cE l x])=(((bP l).take i).flatMap fun x=>[x,cE l x])++[s,cE l s]:=by rw [cR hs,List.flatMap_append];rfl
  refine aG<|Sq<|aM<|Sr<|Dd aE<|Dd aE<|Dd aE<|Dd (B1 bR)<|Dd (kL aU)<|Dd (by exact aB rfl rfl WZ rfl (fG hg _ ⟨rfl,rfl,rfl,rfl,rfl,rfl,trivial⟩ (by simp;rfl)))<|Dd aE<|Dd eB<|Dd eB<|Dd aS<|Dd aS<|Zz<|Sq<|Sr<|Dd aE<|Dd uL<|Zz ?_;refine Cn ?_ ?_<;>intro hc2
  ·cases hc2
  refine aG<|Rg<|Dd aE<|Dd aE<|Dd aE<|Dd (B1 bR)<|Dd (kL aU)<|Dd aE<|Dd (by exact bE [[.str s],[.str (cE l s)]] rfl bR rfl rfl rfl rfl rfl (lT s (cE l s)))<|Dd (by exact dQ (k:=2*(i+1)) (ps:=[[.str s],[.str (cE l s)]]) rfl bR EA rfl rfl rfl rfl rfl ((eL _).trans hTi) rfl (lT _ _) (m:=2) rfl (by omega) (by omega) (pS _ [s,cE l s]))<|Dd aS<|Zz<|Rg<|Dd aE<|Dd kU<|Da ?_;refine⟨i+1,by omega,by omega,?_⟩;rw [hnx];exact(bY.wk (Ea<|Eb<|Ea<|Eb<|trivial) (Hc (eY _ _)<|Hc (aF _ _ rfl rfl rfl)<|Hc (aC _ _)<|Hc (aL _ _ _)<|Hc (aK _ _)<|Hc (by(simp;exact⟨rfl,rfl⟩))<|Hc (aQ _ _ _)<|trivial) ⟨rfl,rfl,rfl,rfl,rfl,rfl,trivial⟩)
 have hge:i=(bP l).length:=by have:=XF hc1;omega
 subst hge;rw [List.take_length] at hTi ⊢;refine a6<|Sr<|Dd aE<|Dd aS<|Zz<|aN ?_;have hkl:((bP l).flatMap fun x=>[x,cE l x])=cL l:=rfl;refine a8 (H':=(sH d (b7 k a n b) (bJ l c))) (.inr rfl) rfl (aH rfl) (Fin.stK (cL l) rfl rfl rfl (tZ l) rfl ⟨⟨_,rfl,rfl⟩,(by exact aF _ _ rfl rfl rfl),⟨_,rfl,rfl⟩,(by exact aC _ _),⟨_,rfl,rfl⟩,(by exact aL _ _ _),⟨_,rfl,rfl⟩,(by exact aK _ _),⟨_,rfl,rfl⟩,(by(simp;exact⟨rfl,rfl⟩)),⟨_,rfl,rfl⟩,(by exact aQ _ _ _),trivial⟩ ⟨rfl,rfl,rfl,rfl,rfl,rfl,trivial⟩) ?_;exact Qq
theorem IY (a b:List ByteArray) (H:aA) (ha:a.length < 1000000000) (hb:b.length < 1000000000):aJ Tryz.prog 54 [.pv (aW a),.pv (aW b)] H (fun r H'=>r=bv (decide (a=b))∧H'=H):=by
 refine Pu ?_;have hma:(a.map encStr).length=a.length:=XI _;have hmb:(b.map encStr).length=b.length:=XI _;refine Bd func54 rfl ntmps54<|Sr<|Dd aS<|Zz<|Sq<|Sr<|Dd aE<|Dd (j2 aO)<|Dd aE<|Dd (j2 aO)<|Dd pD<|Zz ?_;refine Cn ?_ ?_<;>intro hc1
 ·have hq:¬ a.length=b.length:=by have h:=hc1;simp at h;omega
  have hf:decide (a=b)=false:=decide_eq_false fun e=>hq (by rw [e]);rw [hf];exact Sr<|Dd aS<|Zz<|aN<|Rt<|Qq
 have hq:a.length=b.length:=by have h:=hc1;simp at h;omega
 refine aG<|Sq<|Sr<|Dd aS<|Zz<|aM ?_;refine bB (σ:=Nat) (fun k=>([(0,.pv (aW a)),(1,.pv (aW b)),(5,iv (k:Int))],[])) (fun k=>k≤a.length∧a.take k=b.take k) (fun k=>a.length - k) 0 ⟨XZ _,rfl⟩ ?_ ?_
 ·exact Wk
 rintro k ⟨hk,hs⟩;refine Sq<|Sr<|Dd aE<|Dd aE<|Dd (j2 aO)<|Dd dG<|Zz ?_;refine Cn ?_ ?_<;>intro hc2
 ·have hlt:k < a.length:=by have:=XE hc2;omega
  obtain ⟨x,hx⟩:=aY hlt;obtain ⟨y,hy⟩:=aY (l:=b) (k:=k) (by omega);have hix:=cG (f:=encStr) hx;have hiy:=cG (f:=encStr) hy;refine aG<|Sq<|aM<|Sq<|bK follows<|Cq aE<|Cq aE<|Cq (B1 bR)<|Cq (kL aU)<|Cq aE<|Cq aE<|Cq (B1 bR)<|Cq (kL aU)<|Cq MD<|cM<|Kr ?_;refine Cn ?_ ?_<;>intro hc3
  ·have hne:¬ x=y:=by have h:=hc3;simpa using h
   have hf:decide (a=b)=false:=decide_eq_false fun e=>hne (by rw [e,hy] at hx;cases hx;rfl);rw [hf];exact Sr<|Dd aS<|Zz<|aN<|Rt<|Qq
  have he:x=y:=by have h:=hc3;simpa using h
  refine aG<|Rg<|Dd aE<|Dd kU<|Da ?_;refine⟨k+1,⟨by omega,?_⟩,by omega,Wk⟩;rw [cR hx,cR hy,hs,he]
 have hge:k=a.length:=by have:=XF hc2;omega
 have ht:decide (a=b)=true:=decide_eq_true (by
  rw [← List.take_length (l:=a),← hge,hs,hge,hq,List.take_length])
 rw [ht];exact a6<|Sr<|Dd aS<|Zz<|aN<|Rt<|Qq
theorem CI (a b:List ByteArray) (H:aA) (ha:a.length < 1000000000) (hb:b.length < 1000000000):aJ Tryz.prog 17 [.pv (aW a),.pv (aW b)] H (fun r H'=>r=bv (decide (a=b))∧H'=H):=by refine Pu ?_;exact Bd func17 rfl ntmps17<|Sr<|Dd aS<|Zz<|Sr<|Dd aE<|Dd aE<|Dd (by exact aB rfl rfl call54 rfl (IY a b _ ha hb))<|Dd aS<|Zz<|aN<|Rt<|Qq
def N2 (p:ByteArray×ByteArray):Bool:=decide (p.1.size+p.2.size≤600)
def N3 (s:ByteArray):Bool:=decide (s.size≤600)
def BI (x:GOp):Bool:=(decide (x.put.length≤6)&&decide (x.drop.length≤6))&&(x.put.all N2&&x.drop.all N3)
def t8 (l:List GOp):Bool:=l.all BI&&decide (l.length≤12)
theorem BT {α:Type} {l:List α} {p:α→Bool} {i:Nat} {x:α} (h:l[i]?=some x) (hp:p x=false):l.all p=false:=by rw [Bool.eq_false_iff];intro ha;rw [List.all_eq_true.1 ha x (XS h)] at hp;cases hp
theorem GF {α:Type} {l:List α} {p:α→Bool} (h:∀ i x,i < l.length→l[i]?=some x→p x=true):l.all p=true:=List.all_eq_true.2 fun x hx=>by
 obtain ⟨i,hi⟩:=X3.1 hx;exact h i x (XM.1 hi).1 hi
theorem UZ (l:List GOp) (H:aA) (hl:l.length < 1099511627776) (hs:∀ x∈l,x.put.length < 1099511627776∧x.drop.length < 1099511627776∧(∀ p∈x.put,p.1.size < 1099511627776∧p.2.size < 1099511627776)) :
  aJ Tryz.prog 11 [.pv (pJ l)] H (fun r H'=>r=bv (t8 l)∧H'=H):=by
 refine Pu ?_;have hml:(l.map rU).length=l.length:=XI _;refine Bd func11 rfl ntmps11<|Sr<|Dd aS<|Zz<|Sq<|Sr<|Dd aS<|Zz<|aM ?_;refine bB (σ:=Nat) (fun i=>([(0,.pv (pJ l)),(3,iv (i:Int))],[])) (fun i=>i≤l.length∧∀ j x,j < i→l[j]?=some x→BI x=true) (fun i=>l.length - i) 0 ⟨XZ _,fun j x hj=>absurd hj (Nat.not_lt_zero _)⟩ ?_ ?_
 ·exact Wk
 rintro i ⟨hi,hall⟩;refine Sq<|Sr<|Dd aE<|Dd aE<|Dd (j2 lO)<|Dd dG<|Zz ?_;refine Cn ?_ ?_<;>intro hc1
 ·have hlt:i < l.length:=by have:=XE hc1;omega
  obtain ⟨x,hx⟩:=aY hlt;have hix:=cG (f:=rU) hx;obtain ⟨s1,s2,s3⟩:=hs x (XS hx);have hmp:(x.put.map oG).length=x.put.length:=XI _;have hmd:(x.drop.map encStr).length=x.drop.length:=XI _;have bad:BI x=false→t8 l=false:=fun h=>by rw [t8,BT hx h];rfl
  have hO:BI x=((decide (x.put.length≤6)&&decide (x.drop.length≤6))&&(x.put.all N2&&x.drop.all N3)):=rfl;refine aG<|Sq<|aM<|Sq<|Sq ?_;refine dA (t:=27) (n:=17) (X:=decide ((6:Int) < ((x.put.map oG).length:Int))||decide ((6:Int) < ((x.drop.map encStr).length:Int))) ?_ ?_
  ·all_goals refine Dd aE ?_
   all_goals refine Dd aE<|Dd (by exact aZ rfl xL rfl rfl (by omega) (by exact XT _) hix rfl)<|Dd (RM oD)<|Dd (kL jP)<|Dd (j2 iQ)<|Dd y6<|Dm ?_
   all_goals refine Sp 19 (fun h19=>?_) fun h19=>?_
   all_goals try contradiction
   all_goals first|refine Fo<|Fo<|Fo<|Fo<|Fo<|Fo<|Fo ?_|refine On aE<|On aE<|On (by exact aZ rfl xL rfl rfl (by omega) (by exact XT _) hix rfl)<|On (RM sZ)<|On (kL b5)<|On (j2 aO)<|On y6 ?_
   all_goals refine Dd gO<|Zz ?_
   all_goals(exact⟨⟨_,rfl,by(rw [h19];rfl)⟩,rfl,rfl,rfl⟩)
  refine Cn ?_ ?_<;>intro hc2
  ·have hq:6 < x.put.length∨6 < x.drop.length:=by have h:=hc2;rw [Bool.or_eq_true,XP,XP] at h;omega
   have hf:BI x=false:=by
    rw [hO];rcases hq with hq|hq
    ·rw [decide_eq_false (show ¬ x.put.length≤6 by omega)];rfl
    rw [decide_eq_false (show ¬ x.drop.length≤6 by omega),Bool.and_false];rfl
   rw [bad hf];exact Sr<|Dd aS<|Zz<|aN<|Rt<|Qq
  have hq:x.put.length≤6∧x.drop.length≤6:=by have h:=hc2;rw [X4,XQ,XQ] at h;omega
  rw [decide_eq_true hq.1,decide_eq_true hq.2] at hO;refine aG<|Sq<|Sr<|Dd aS<|Zz<|aM ?_;refine bB (σ:=Nat) (fun k=>([(0,.pv (pJ l)),(3,iv (i:Int)),(4,iv (k:Int))],[])) (fun k=>k≤x.put.length∧∀ j p,j < k→x.put[j]?=some p→N2 p=true) (fun k=>x.put.length - k) 0 ⟨XZ _,fun j p hj=>absurd hj (Nat.not_lt_zero _)⟩ ?_ ?_
  ·exact Wk
  rintro k ⟨hk,hpk⟩;refine Sq<|Sr<|Dd aE<|Dd aE<|Dd aE<|Dd (by exact aZ rfl xL rfl rfl (by omega) (by exact XT _) hix rfl)<|Dd (RM oD)<|Dd (kL jP)<|Dd (j2 iQ)<|Dd dG<|Zz ?_;refine Cn ?_ ?_<;>intro hc3
  ·have hltk:k < x.put.length:=by have:=XE hc3;omega
   obtain ⟨p,hp⟩:=aY hltk;have hip:=cG (f:=oG) hp;obtain ⟨t1,t2⟩:=s3 p (XS hp);refine aG<|Sq<|aM<|Sq<|bK follows<|Cq aE<|Cq aE<|Cq (by exact aZ rfl xL rfl rfl (by omega) (by exact XT _) hix rfl)<|Cq (RM oD)<|Cq (kL jP)<|Cq aE<|Cq (by exact aZ rfl IR rfl rfl (by omega) (by exact XT _) hip rfl)<|Cq (by exact e8 rfl fT sizeOf9 rfl rfl (by omega) (by exact XT _) (by decide) rfl)<|Cq (kL aU)<|Cq (x5 aI)<|Cq aE<|Cq aE<|Cq (by exact aZ rfl xL rfl rfl (by omega) (by exact XT _) hix rfl)<|Cq (RM oD)<|Cq (kL jP)<|Cq aE<|Cq (by exact aZ rfl IR rfl rfl (by omega) (by exact XT _) hip rfl)<|Cq (by exact e8 rfl fT sizeOf9 rfl rfl (by omega) (by exact XT _) (by decide) rfl)<|Cq (kL aU)<|Cq (x5 aI) ?_;refine Cq kU<|Cq y6<|cM<|Kr ?_;refine Cn ?_ ?_<;>intro hc4
   ·have hq2:¬ p.1.size+p.2.size≤600:=by have:=XE hc4;omega
    have hf:BI x=false:=by rw [hO,BT hp (show N2 p=false from decide_eq_false hq2)];rfl
    rw [bad hf];exact Sr<|Dd aS<|Zz<|aN<|Rt<|Qq
   have hq2:p.1.size+p.2.size≤600:=by have:=XF hc4;omega
   refine aG<|Rg<|Dd aE<|Dd kU<|Da ?_;refine⟨k+1,⟨by omega,fun j q hj hq=>?_⟩,by omega,Wk⟩;rcases Nat.lt_succ_iff_lt_or_eq.1 hj with h1|rfl
   ·exact hpk j q h1 hq
   rw [hp] at hq;cases hq;exact decide_eq_true hq2
  have hgek:k=x.put.length:=by have:=XF hc3;omega
  have hP:x.put.all N2=true:=GF fun j p hj hp=>hpk j p (by omega) hp;rw [hP] at hO;refine a6<|Sr<|Dd aS<|Zz<|aM ?_;refine bB (σ:=Nat) (fun k=>([(0,.pv (pJ l)),(3,iv (i:Int)),(5,iv (k:Int))],[])) (fun k=>k≤x.drop.length∧∀ j p,j < k→x.drop[j]?=some p→N3 p=true) (fun k=>x.drop.length - k) 0 ⟨XZ _,fun j p hj=>absurd hj (Nat.not_lt_zero _)⟩ ?_ ?_
  ·exact Wk
  rintro m ⟨hm,hdk⟩;refine Sq<|Sr<|Dd aE<|Dd aE<|Dd aE<|Dd (by exact aZ rfl xL rfl rfl (by omega) (by exact XT _) hix rfl)<|Dd (RM sZ)<|Dd (kL b5)<|Dd (j2 aO)<|Dd dG<|Zz ?_;refine Cn ?_ ?_<;>intro hc5
  ·have hltm:m < x.drop.length:=by have:=XE hc5;omega
   obtain ⟨s,hs2⟩:=aY hltm;have hisd:=cG (f:=encStr) hs2;refine aG<|Sq<|aM<|Sr<|Dd aE<|Dd aE<|Dd (by exact aZ rfl xL rfl rfl (by omega) (by exact XT _) hix rfl)<|Dd (RM sZ)<|Dd (kL b5)<|Dd aE<|Dd (by exact aZ rfl bR rfl rfl (by omega) (by exact XT _) hisd rfl)<|Dd (kL aU)<|Dd (x5 aI)<|Dd y6<|Zz ?_;refine Cn ?_ ?_<;>intro hc6
   ·have hq2:¬ s.size≤600:=by have:=XE hc6;omega
    have hf:BI x=false:=by rw [hO,BT hs2 (show N3 s=false from decide_eq_false hq2)];rfl
    rw [bad hf];exact Sr<|Dd aS<|Zz<|aN<|Rt<|Qq
   have hq2:s.size≤600:=by have:=XF hc6;omega
   refine aG<|Rg<|Dd aE<|Dd kU<|Da ?_;refine⟨m+1,⟨by omega,fun j q hj hq=>?_⟩,by omega,Wk⟩;rcases Nat.lt_succ_iff_lt_or_eq.1 hj with h1|rfl
   ·exact hdk j q h1 hq
   rw [hs2] at hq;cases hq;exact decide_eq_true hq2
  have hgem:m=x.drop.length:=by have:=XF hc5;omega
  have hDD:x.drop.all N3=true:=GF fun j p hj hp=>hdk j p (by omega) hp;rw [hDD] at hO;refine a6<|Rg<|Dd aE<|Dd kU<|Da ?_;refine⟨i+1,⟨by omega,fun j y hj hy=>?_⟩,by omega,Wk⟩;rcases Nat.lt_succ_iff_lt_or_eq.1 hj with h1|rfl
  ·exact hall j y h1 hy
  rw [hx] at hy;cases hy;exact hO
 have hge:i=l.length:=by have:=XF hc1;omega
 have hA:l.all BI=true:=GF fun j x hj hx=>hall j x (by omega) hx;have hG:t8 l=decide (((l.map rU).length:Int)≤12):=by
  rw [t8,hA,Bool.true_and,hml];exact decide_eq_decide.2 (by omega)
 rw [hG];exact a6<|Sr<|Dd aE<|Dd (j2 lO)<|Dd WO<|Dd aS<|Zz<|aN<|Rt<|Qq
abbrev WS (x:GOp):AV:=.agg [iv x.kind,.pv (IS x.put),.pv (aW x.drop),iv x.a,iv x.b,iv x.c]
def L0 (K:List ByteArray) (s:ByteArray):Nat:=(K.takeWhile fun x=>j0 x s).length
def FQ (K:List ByteArray) (s:ByteArray):List ByteArray:=K.take (L0 K s)++s::K.drop (L0 K s)
theorem LY {α:Type} {p:α→Bool}:∀ {l:List α} {k:Nat},k≤l.length→(∀ j x,j < k→l[j]?=some x→p x=true)→(k=l.length∨∃ x,l[k]?=some x∧p x=false)→(l.takeWhile p).length=k
 | [],k,hk,_,_=>by
  have:k=0:=by simpa using hk
  subst this;rfl
 | a::l,0,_,_,h=>by
  rcases h with h|⟨x,hx,hp⟩
  ·cases h
  cases hx;rw [List.takeWhile_cons,hp];rfl
 | a::l,k+1,hk,h1,h2=>by
  have ha:=h1 0 a (by omega) rfl;rw [List.takeWhile_cons,ha];show (List.takeWhile p l).length+1=k+1;rw [LY (k:=k) (by simpa using hk) (fun j x hj hx=>h1 (j+1) x (by omega) hx) (by
   rcases h2 with h2|⟨x,hx,hp⟩
   ·exact .inl (by simpa using h2)
   exact .inr ⟨x,hx,hp⟩)]
theorem ER {l:List ByteArray} (h:l.Pairwise (fun a b=>j0 b a=false)):b4 l=l:=by
 have hp:(l.map BY).Pairwise (fun x y=>decide (x≤y)=true):=by
  rw [List.pairwise_map];refine h.imp fun {a b} h2=>decide_eq_true ?_;rw [vI] at h2;exact List.not_lt.1 (XF h2)
 rw [b4,List.mergeSort_of_pairwise hp,AY]
theorem qV {a b c:ByteArray} (h1:j0 b a=false) (h2:j0 c b=false):j0 c a=false:=by
 cases e:j0 c a with
 | false=>rfl
 | true =>
  cases e2:j0 a b with
  | true=>rw [sN e e2] at h2;cases h2
  | false =>
   have:=uP e2 h1;subst this;rw [e] at h2;cases h2
theorem JW (K:List ByteArray) (s:ByteArray):(FQ K s).Perm (K++[s]):=by rw [FQ];refine List.perm_middle.trans ?_;rw [List.take_append_drop];exact(List.perm_append_comm (l₁:=[s]) (l₂:=K))
theorem LZ {α:Type} {p:α→Bool}:∀ (l:List α),(∀ x∈l.take (l.takeWhile p).length,p x=true)∧∀ x,(l.drop (l.takeWhile p).length)[0]?=some x→p x=false
 | []=>⟨fun x hx=>by simp at hx,fun x hx=>by simp at hx⟩
 | a::l=>by
  cases ha:p a with
  | false =>
   rw [List.takeWhile_cons,ha];exact⟨fun x hx=>by simp at hx,fun x hx=>by simp at hx;subst hx;exact ha⟩
  | true =>
   rw [List.takeWhile_cons,ha];obtain ⟨h1,h2⟩:=LZ l (p:=p);refine⟨fun x hx=>?_,h2⟩;have hx:x∈a::l.take (l.takeWhile p).length:=hx;rcases XU.1 hx with rfl|hx
   ·exact ha
   exact h1 x hx
theorem C9 {K:List ByteArray} (h:K.Pairwise (fun a b=>j0 b a=false)) (s:ByteArray):(FQ K s).Pairwise (fun a b=>j0 b a=false):=by
 obtain ⟨h1,h2⟩:=LZ K (p:=fun x=>j0 x s);have hd:∀ x∈K.drop (L0 K s),j0 x s=false:=by
  intro x hx;have hp:=h.sublist (List.drop_sublist (L0 K s) K);cases e:K.drop (L0 K s)with
  | nil=>rw [e] at hx;cases hx
  | cons y r =>
   have hy:j0 y s=false:=h2 y (by show (K.drop (L0 K s))[0]?=_;rw [e];rfl);rw [e] at hx hp;rcases XU.1 hx with rfl|hx
   ·exact hy
   exact qV hy ((List.pairwise_cons.1 hp).1 x hx)
 rw [FQ,List.pairwise_append];refine⟨h.sublist (List.take_sublist _ _),List.pairwise_cons.2 ⟨hd,h.sublist (List.drop_sublist _ _)⟩,fun a ha b hb=>?_⟩;have ha2:j0 a s=true:=h1 a ha;rcases XU.1 hb with rfl|hb
 ·exact uQ ha2
 exact qV (uQ ha2) (hd b hb)
theorem JV (M:List ByteArray) (s:ByteArray):FQ (b4 M) s=b4 (M++[s]):=by rw [← ER (C9 (sM M) s)];exact nN ((JW _ _).trans ((mI M).append_right _))
abbrev VZ (x:GOp):Ob:=bx 6 37 [iv x.kind,.pv (IS x.put),.pv (aW x.drop),iv x.a,iv x.b,iv x.c]
theorem JF {l:bN} {s:List Nat} (hd:s.Nodup) (hb:∀ i,i∈s→i < l.length) (ha:∀ i,i < l.length→i∈s):(iE l s).Perm (l.map Prod.fst):=CO hd (by rw [XI];exact hb) (by rw [XI];exact ha)
theorem QX (was:List ByteArray) (x:GOp) (H:aA) (hw:was.length < 1000000000) (hp:x.put.length < 1000000000) (hdl:x.drop.length < 1000000000) :
  aJ Tryz.prog 16 [.pv (aW was),WS x] H (fun r H'=>r=.pv (aW (BC was x.put x.drop))∧H'=H):=by
 refine Pu ?_;have hmw:(was.map encStr).length=was.length:=XI _;have hmp:(x.put.map oG).length=x.put.length:=XI _;have hmd:(x.drop.map encStr).length=x.drop.length:=XI _;refine Bd func16 rfl ntmps16<|Sr<|Dd (by exact fQ (id:=3) rfl rfl rfl rfl rfl)<|Dd aS<|Zz<|Sr<|Dd (by exact g8 (id:=950) eE rfl rfl)<|Dd aS<|Zz<|Sq<|Sr<|Dd aS<|Zz<|aM ?_;refine bB (σ:=Nat) (fun j=>([(0,.pv (aW was)),(3,.ref 3 0 0 0),(5,.mp 950 0),(6,iv ((2*j:Nat):Int))],[(950,bJ (lF was j).1 (lF was j).2),(3,VZ x)])) (fun j=>2*j≤was.length+1∧(∀ i,i < j→2*i+1 < was.length)) (fun j=>was.length - j) 0 ⟨by omega,fun i hi=>absurd hi (Nat.not_lt_zero _)⟩ ?_ ?_
 ·exact(bY.wk (Eb<|Ea<|Ea<|Eb<|trivial) (Hc (aQ _ _ _)<|Hb<|trivial) trivial)
 rintro j ⟨hj,hjj⟩;have h2j:((2*j:Nat):Int)=2*(j:Int):=by omega
 refine Sq<|Sr<|Dd aE<|Dd (by exact cF rfl rfl rfl (show IntKind.i64.wrap (((2*j:Nat):Int)+1)=((2*j+1:Nat):Int)by rw [iA (by omega) (by omega)];omega))<|Dd aE<|Dd (j2 aO)<|Dd dG<|Zz ?_;refine Cn ?_ ?_<;>intro hc1
 ·have hlt:2*j+1 < was.length:=by have:=XE hc1;omega
  obtain ⟨s,hs⟩:=aY (l:=was) (k:=2*j) (by omega);obtain ⟨t,ht⟩:=aY hlt;have his:=cG (f:=encStr) hs;have hit:=cG (f:=encStr) ht;have hg1:was.getD (2*j) sNil=s:=by rw [List.getD_eq_getElem?_getD,hs];rfl
  have hg2:was.getD (2*j+1) sNil=t:=by rw [List.getD_eq_getElem?_getD,ht];rfl
  have hnx:lF was (j+1)=(fZ (lF was j).1 s t (lF was j).2,lG (lF was j).1 s (lF was j).2):=by rw [lF,hg1,hg2]
  refine aG<|Sq<|aM<|bK follows<|Cs (fun _ _=>aE)<|Cs (fun _ _=>aE)<|Cs (fun _ _=>aE)<|Cs (fun H1 hH=>by exact aZ rfl bR rfl rfl (by omega) (by exact XT _) his rfl)<|Cs (fun _ _=>(kL aU))<|Cs (fun _ _=>aE)<|Cs (fun _ _=>aE)<|Cs (fun H1 hH=>by exact cF rfl rfl rfl (show IntKind.i64.wrap (((2*j:Nat):Int)+1)=((2*j+1:Nat):Int)by rw [iA (by omega) (by omega)];omega))<|Cs (fun H1 hH=>by exact aZ rfl bR rfl rfl (by omega) (by exact XT _) hit rfl)<|Cs (fun _ _=>(kL aU)) ?_;refine bU (r:=⟨_,none,[_]⟩) (DStep.plain rfl (fun H1 hH=>by exact f0 (κ:=eE) (l:=bL (lF was j).1) (.inl rfl) aT aI rfl ((hH _ rfl).trans rfl) rfl rfl rfl rfl rfl (k9 _ _ _ _) (mR _ _ _))) rfl ?_;refine cM<|Kr<|Rg<|Dd aE<|Dd (by exact cF rfl rfl rfl (show IntKind.i64.wrap (((2*j:Nat):Int)+2)=((2*(j+1):Nat):Int)by rw [iA (by omega) (by omega)];omega))<|Da ?_;refine⟨j+1,⟨by omega,fun i hi=>?_⟩,by omega,?_⟩
  ·rcases Nat.lt_succ_iff_lt_or_eq.1 hi with h|rfl
   ·exact hjj i h
   exact hlt
  rw [hnx];exact(bY.wk (Eb<|Ea<|Ea<|Eb<|trivial) (Hc (aQ _ _ _)<|Hb<|trivial) trivial)
 have hge:was.length≤2*j+1:=by have:=XF hc1;omega
 have hjn:j=was.length / 2:=by
  rcases Nat.eq_zero_or_pos j with h0|h0
  ·omega
  have:=hjj (j - 1) (by omega);omega
 subst hjn;obtain ⟨m0,hm0⟩:∃ m,m=lF was (was.length / 2):=⟨_,rfl⟩;have hok0:=nZ was (was.length / 2);have hml0:=uV was (was.length / 2);have hG:BC was x.put x.drop=cL (hX (eV m0 x.put).1 x.drop):=by rw [hm0];rfl
 rw [← hm0] at hok0 hml0;rw [← hm0,hG];clear hG hm0;refine a6<|Sq<|Sr<|Dd aS<|Zz<|aM ?_;refine bB (σ:=Nat) (fun j=>([(3,.ref 3 0 0 0),(5,.mp 950 0),(7,iv (j:Int))],[(950,bJ (eV m0 (x.put.take j)).1 (eV m0 (x.put.take j)).2),(3,VZ x)])) (fun j=>j≤x.put.length) (fun j=>x.put.length - j) 0 (XZ _) ?_ ?_
 ·exact(bY.wk (Ea<|Ea<|Eb<|trivial) (Hc (aQ _ _ _)<|Hb<|trivial) trivial)
 intro j hj;refine Sq<|Sr<|Dd aE<|Dd (dP oD)<|Dd (eA jP)<|Dd (j2 iQ)<|Dd dG<|Zz ?_;refine Cn ?_ ?_<;>intro hc2
 ·have hlt:j < x.put.length:=by have:=XE hc2;omega
  obtain ⟨p,hpp⟩:=aY hlt;have hip:=cG (f:=oG) hpp;have hnx:eV m0 (x.put.take (j+1))=(fZ (eV m0 (x.put.take j)).1 p.1 p.2 (eV m0 (x.put.take j)).2,lG (eV m0 (x.put.take j)).1 p.1 (eV m0 (x.put.take j)).2):=by rw [cR hpp];exact vR _ _ _
  refine aG<|Sq<|aM<|bK follows<|Cs (fun _ _=>aE)<|Cs (fun _ h=>fh oD h)<|Cs (fun _ h=>lh jP h)<|Cs (fun _ _=>aE)<|Cs (fun H1 hH=>by exact aZ rfl IR rfl rfl (by omega) (by exact XT _) hip rfl)<|Cs (fun H1 hH=>by exact e8 rfl fT sizeOf9 rfl rfl (by omega) (by exact XT _) (by decide) rfl)<|Cs (fun _ _=>(kL aU))<|Cs (fun _ h=>fh oD h)<|Cs (fun _ h=>lh jP h)<|Cs (fun _ _=>aE)<|Cs (fun H1 hH=>by exact aZ rfl IR rfl rfl (by omega) (by exact XT _) hip rfl)<|Cs (fun H1 hH=>by exact e8 rfl fT sizeOf9 rfl rfl (by omega) (by exact XT _) (by decide) rfl)<|Cs (fun _ _=>(kL aU)) ?_;refine bU (r:=⟨_,none,[_]⟩) (DStep.plain rfl (fun H1 hH=>by exact f0 (κ:=eE) (l:=bL (eV m0 (x.put.take j)).1) (.inl rfl) aT aI rfl ((hH _ rfl).trans rfl) rfl rfl rfl rfl rfl (k9 _ _ _ _) (mR _ _ _))) rfl ?_;refine cM<|Kr<|Rg<|Dd aE<|Dd kU<|Da ?_;refine⟨j+1,by omega,by omega,?_⟩;rw [hnx];exact(bY.wk (Ea<|Ea<|Eb<|trivial) (Hc (aQ _ _ _)<|Hb<|trivial) trivial)
 have hge2:j=x.put.length:=by have:=XF hc2;omega
 subst hge2;rw [List.take_length];have hok1:=nS x.put m0 hok0.1 hok0.2;have hml1:=sR x.put m0;obtain ⟨m1,hm1⟩:∃ m,m=eV m0 x.put:=⟨_,rfl⟩;rw [← hm1] at hok1 hml1 ⊢;clear hm1;refine a6<|Sq<|Sr<|Dd aS<|Zz<|aM ?_;refine bB (σ:=Nat) (fun j=>([(3,.ref 3 0 0 0),(5,.mp 950 0),(8,iv (j:Int))],[(950,bJ (hX m1.1 (x.drop.take j)) m1.2),(3,VZ x)])) (fun j=>j≤x.drop.length) (fun j=>x.drop.length - j) 0 (XZ _) ?_ ?_
 ·exact(bY.wk (Ea<|Ea<|Eb<|trivial) (Hc (aQ _ _ _)<|Hb<|trivial) trivial)
 intro j hj2;refine Sq<|Sr<|Dd aE<|Dd (dP sZ)<|Dd (eA b5)<|Dd (j2 aO)<|Dd dG<|Zz ?_;refine Cn ?_ ?_<;>intro hc3
 ·have hlt:j < x.drop.length:=by have:=XE hc3;omega
  obtain ⟨s,hs⟩:=aY hlt;have hi:=cG (f:=encStr) hs;refine aG<|Sq<|aM<|Rg<|Dd aE<|Dd (dP sZ)<|Dd (eA b5)<|Dd aE<|Dd (by exact aZ rfl bR rfl rfl (by omega) (by exact XT _) hi rfl)<|Dd (kL aU)<|Uu (by exact wO (κ:=eE) (l:=bL (hX m1.1 (x.drop.take j))) rfl aT aI rfl rfl rfl rfl rfl rfl (u0 s _))<|Zz<|Rg<|Dd aE<|Dd kU<|Da ?_;refine⟨j+1,by omega,by omega,?_⟩;rw [s9 hs];exact(bY.wk (Ea<|Ea<|Eb<|trivial) (Hc (aQ _ _ _)<|Hb<|trivial) trivial)
 have hge3:j=x.drop.length:=by have:=XF hc3;omega
 subst hge3;rw [List.take_length];have hok2:=u7 x.drop _ _ hok1.1 hok1.2;have hml2:=DN x.drop m1.1;obtain ⟨m,hm⟩:∃ m,m=hX m1.1 x.drop:=⟨_,rfl⟩;obtain ⟨c,hc⟩:∃ c,c=m1.2:=⟨_,rfl⟩;rw [← hm,← hc] at hok2;rw [← hm] at hml2 ⊢;rw [← hc];have hst:=hok2.1;have hmlen:m.length < 4000000000:=by omega
 clear hm hc;refine a6<|Sr<|Dd aS<|Zz<|Sq<|Sr<|Dd aE<|Dd (by exact u3 (q:=946) (κ:=eE) (l:=bL m) rfl aT rfl rfl rfl rfl rfl rfl)<|Zz<|aM ?_;refine bB (σ:=List Nat) (fun s=>([(5,.mp 950 0),(9,.pv (aW (b4 (iE m s)))),(67,.it 946 0)],[(946,uZ 950 m c s),(950,bJ m c)])) (fun s=>s.Nodup∧∀ i,i∈s→i < m.length) (fun s=>m.length - s.length) [] ⟨List.nodup_nil,by simp⟩ ?_ ?_
 ·rw [show b4 (iE m [])=[] from List.length_eq_zero_iff.1 (by rw [dJ];rfl)];exact(bY.wk (Ea<|Eb<|Ea<|trivial) (Hc (k8 rfl _ _ _)<|Hc (aQ _ _ _)<|trivial) trivial)
 rintro s ⟨hd,hb⟩;have hsl:s.length≤m.length:=gR _ _ hd hb;refine Sq<|Rg ?_;refine iN rfl rfl (BB (κ:=eE) (l:=bL m) rfl rfl rfl rfl rfl rfl rfl rfl rfl (XO _) (XO _)) ?_;rintro _ _ (⟨rfl,rfl,hn0⟩|⟨hni,hnp,hn1,hn2,rfl,rfl⟩)
 ·refine Dd eB<|Zz<|Sq ?_;refine Cn ?_ ?_<;>intro hc4
  ·cases hc4
  have hall:∀ i,i < m.length→i∈s:=fun i hi=>by
   have hq:(bL m)[i]?=some ((m[i]).1,sv (m[i]).2.1,(m[i]).2.2):=by rw [bL,X2,XN hi];rfl
   have:=hn0 _ (XS hq);obtain ⟨j,hj,e⟩:=List.mem_map.1 this;have e2:gJ m j=gJ m i:=by
    rw [e,gJ,XN hi];rfl
   have:=zZ hst (hb j hj) hi e2
   rwa [this] at hj
  have hK:b4 (iE m s)=bP m:=nN (JF hd hb hall);rw [hK];have hsl2:=fL m;have hmt:((bP m).map encStr).length=(bP m).length:=XI _;have hT:∀ i,i≤(bP m).length→(((bP m).take i).flatMap fun x=>[x,cE m x]).length=2*i:=fun i hi=>by rw [fN,XW];omega
  refine a6<|Sr<|Dd (by exact iH (id:=905) (sz:=1) (ty:=9) rfl rfl rfl)<|Zz<|Sq<|Sr<|Dd aS<|Zz<|aM ?_;refine bB (σ:=Nat) (fun i=>([(5,.mp 950 0),(9,.pv (aW (bP m))),(13,.osl 905 i 0 (2*i)),(14,iv (i:Int))],[(905,⟨i,1,9,cJ (((bP m).take i).flatMap fun x=>[x,cE m x])⟩),(950,bJ m c)])) (fun i=>i≤(bP m).length) (fun i=>(bP m).length - i) 0 (XZ _) ?_ ?_
  ·exact(bY.wk (Ea<|Eb<|Ea<|Eb<|trivial) (Hc (eY _ _)<|Hc (aQ _ _ _)<|trivial) trivial)
  intro i hi;have hTi:=hT i hi;refine Sq<|Sr<|Dd aE<|Dd aE<|Dd (j2 aO)<|Dd dG<|Zz ?_;refine Cn ?_ ?_<;>intro hc5
  ·have hlt:i < (bP m).length:=by have:=XE hc5;omega
   obtain ⟨s,hs⟩:=aY hlt;have his:=cG (f:=encStr) hs;have hnx:((bP m).take (i+1)).flatMap (fun x=>[x,cE m x])=(((bP m).take i).flatMap fun x=>[x,cE m x])++[s,cE m s]:=by rw [cR hs,List.flatMap_append];rfl
   refine aG<|Sq<|aM<|bK follows<|Cs (fun _ _=>aE)<|Cs (fun _ _=>aE)<|Cs (fun _ _=>aE)<|Cs (fun H1 hH=>by exact aZ rfl bR rfl rfl (by omega) (by exact XT _) his rfl)<|Cs (fun _ _=>(kL aU))<|Cs (fun _ _=>aE)<|Cs (fun _ _=>aE)<|Cs (fun _ _=>aE)<|Cs (fun H1 hH=>by exact aZ rfl bR rfl rfl (by omega) (by exact XT _) his rfl)<|Cs (fun _ _=>(kL aU))<|Cs (fun H1 hH=>by exact M1 (l:=m) (k:=s) rfl aT aI rfl ((hH _ rfl).trans rfl) rfl rfl rfl dS (.inl rfl))<|Cs (fun H1 hH=>by exact bE [[.str s],[.str (cE m s)]] rfl bR rfl rfl rfl rfl rfl (lT s (cE m s))) ?_;refine bU (r:=⟨_,none,[_]⟩) (DStep.plain rfl (fun H1 hH=>by exact dQ (k:=2*(i+1)) (ps:=[[.str s],[.str (cE m s)]]) rfl bR EA rfl ((hH _ rfl).trans rfl) rfl rfl rfl ((eL _).trans hTi) rfl (lT _ _) (m:=2) rfl (by omega) (by omega) (pS _ [s,cE m s]))) rfl ?_;refine Cs (fun _ _=>aS)<|cM<|Kr<|Rg<|Dd aE<|Dd kU<|Da ?_;refine⟨i+1,by omega,by omega,?_⟩;rw [hnx];exact(bY.wk (Ea<|Eb<|Ea<|Eb<|trivial) (Hc (eY _ _)<|Hc (aQ _ _ _)<|trivial) trivial)
  have hge:i=(bP m).length:=by have:=XF hc5;omega
  subst hge;rw [List.take_length];refine a6<|Sr<|Dd aE<|Dd aS<|Zz<|aN ?_;refine a8 (H':=[]) (.inr rfl) rfl (aH rfl) (Fin.st1 (cL m) rfl rfl rfl (tZ m)) ?_;exact Qq
 obtain ⟨p,hp,rfl⟩:=oW hn1;have hlt:hni < m.length:=(XM.1 hp).1;have hst2:gJ m hni=p.2.2:=by rw [gJ,hp];rfl
 have hn3:hni∉s:=fun hm=>hn2 (List.mem_map.2 ⟨hni,hm,hst2⟩);have hb2:∀ i,i∈s++[hni]→i < m.length:=fun i hi=>by
  rcases List.mem_append.1 hi with h|h
  ·exact hb i h
  rw [XL] at h;omega
 have hd2:(s++[hni]).Nodup:=List.nodup_append.2 ⟨hd,by simp,fun a ha b hb e=>by rw [XL] at hb;subst hb;subst e;exact hn3 ha⟩;have hlen:=gR _ _ hd2 hb2;rw [XJ,List.length_singleton] at hlen;have hit:uZ 950 m c (s++[hni])=⟨0,0,0,dV (.mp 950 0) c c (s.map (gJ m)++[p.2.2])⟩:=by rw [uZ,List.map_append,List.map_cons,List.map_nil,hst2]
 have hins:FQ (b4 (iE m s)) p.1=b4 (iE m (s++[hni])):=by rw [vT hp,JV]
 have hKl:(b4 (iE m s)).length=s.length:=by rw [dJ,yQ]
 obtain ⟨K,hK⟩:∃ K,K=b4 (iE m s):=⟨_,rfl⟩;rw [← hK] at hins hKl;rw [← hK];have hmK:(K.map encStr).length=K.length:=XI _;have htw:L0 K p.1≤K.length:=(List.takeWhile_sublist _).length_le;refine Dd eB<|Zz<|Sq ?_;refine Cn ?_ ?_<;>intro hc6
 ·refine aG<|aM<|Sr<|Dd (by exact u4 (κ:=eE) (seen:=s.map (gJ m)) (p:=(p.1,sv p.2.1,p.2.2)) (since:=c) rfl rfl rfl rfl rfl rfl rfl rfl rfl hn1)<|Dd eB<|Dd aS<|Zz<|Sr<|Da ?_;refine kS (fun(_:Unit)=>([(5,.mp 950 0),(9,.pv (aW K)),(10,sv p.1),(11,iv (L0 K p.1:Int)),(67,.it 946 0)],[(946,uZ 950 m c (s++[hni])),(950,bJ m c)])) (fun _=>True) ?_ ?_
  ·refine aM ?_;refine bB (σ:=Nat) (fun k=>([(5,.mp 950 0),(9,.pv (aW K)),(10,sv p.1),(11,iv (k:Int)),(67,.it 946 0)],[(946,uZ 950 m c (s++[hni])),(950,bJ m c)])) (fun k=>k≤K.length∧∀ j y,j < k→K[j]?=some y→j0 y p.1=true) (fun k=>K.length - k) 0 ⟨XZ _,fun j y hj=>absurd hj (Nat.not_lt_zero _)⟩ ?_ ?_
   ·exact bY.get' ⟨⟨_,rfl,rfl⟩,⟨_,rfl,rfl⟩,⟨_,rfl,rfl⟩,⟨_,rfl,rfl⟩,⟨_,rfl,rfl⟩,trivial⟩ (fun j=>by rw [hit];exact gG 946 _ (uZ 950 m c s) [(950,bJ m c)] j)
   rintro k ⟨hk,hkk⟩;by_cases hkl:k < K.length
   ·have g76:decide ((k:Int) < ((K.map encStr).length:Int))=true:=decide_eq_true (by omega);obtain ⟨y,hy⟩:=aY hkl;have hiy:=cG (f:=encStr) hy;refine Sq<|Sr<|Dd aE<|Dd aE<|Dd (j2 aO)<|Dd dG<|Dd aE<|Oa aE<|Oa aE<|Oa (by exact aZ rfl bR rfl rfl (by omega) (by exact XT _) hiy rfl)<|Oa (kL aU)<|Oa aE<|Oa (by exact CV rfl rfl rfl)<|Dd QJ<|Zz ?_;refine Cn ?_ ?_<;>intro hc7
    ·have hs:j0 y p.1=true:=hc7;refine aG<|aM<|Rg<|Dd aE<|Dd kU<|Da ?_;refine⟨k+1,⟨by omega,fun j z hj hz=>?_⟩,by omega,(bY.wk (Ea<|Eb<|Eb<|Eb<|Ea<|trivial) (Hc (k8 rfl _ _ _)<|Hc (aQ _ _ _)<|trivial) trivial)⟩;rcases Nat.lt_succ_iff_lt_or_eq.1 hj with h1|rfl
     ·exact hkk j z h1 hz
     rw [hy] at hz;cases hz;exact hs
    have hs:j0 y p.1=false:=hc7;have e:L0 K p.1=k:=LY hk hkk (.inr ⟨y,hy,hs⟩);refine a6 ?_;rw [e];exact⟨(),trivial,(bY.wk (Ea<|Eb<|Eb<|Eb<|Ea<|trivial) (Hc (k8 rfl _ _ _)<|Hc (aQ _ _ _)<|trivial) trivial)⟩
   have g76:decide ((k:Int) < ((K.map encStr).length:Int))=false:=decide_eq_false (by omega);have e:L0 K p.1=k:=LY hk hkk (.inl (by omega));refine Sq<|Sr<|Dd aE<|Dd aE<|Dd (j2 aO)<|Dd dG<|Dd aE<|Fa<|Fa<|Fa<|Fa<|Fa<|Fa<|Dd CP<|Zz ?_;refine Cn ?_ ?_<;>intro hc8
   ·((cases hc8;done))
   refine a6 ?_;rw [e];exact⟨(),trivial,(bY.wk (Ea<|Eb<|Eb<|Eb<|Ea<|trivial) (Hc (k8 rfl _ _ _)<|Hc (aQ _ _ _)<|trivial) trivial)⟩
  rintro _ -;obtain ⟨k,hkd⟩:∃ k,k=L0 K p.1:=⟨_,rfl⟩;have hins2:K.take k++p.1::K.drop k=b4 (iE m (s++[hni])):=by rw [← hins,FQ,hkd]
  rw [← hkd] at htw ⊢;clear hkd;refine Sr<|Dd aE<|Dd (by exact eX (id:=930) rfl bR rfl rfl rfl rfl (show ∀ r∈cJ [p.1],r.length=1 from by intro r hr;rw [XL.1 hr];rfl) rfl)<|Dd aE<|Dd aE<|Dd (by exact fF (l:=k) (h:=(K.map encStr).length) (rows':=(K.drop k).map encStr) rfl bR rfl (dW K) rfl rfl (by omega) (XO _) (by rw [List.take_length,List.map_drop]))<|Dd (by exact dQ (ps:=(K.drop k).map encStr) rfl bR EA rfl rfl rfl rfl rfl rfl rfl (dW _) (m:=(K.drop k).length) (XI _) (by rw [XX];omega) rfl (kH [p.1] _))<|Da ?_;refine fV.ent (bY.fzG (id:=930) (E':=[(5,.mp 950 0),(9,.pv (aW K)),(11,iv (k:Int)),(12,.pv (aW (p.1::K.drop k))),(67,.it 946 0)]) (H':=[(946,uZ 950 m c (s++[hni])),(950,bJ m c)]) ((p.1::K.drop k).map encStr) rfl (iX _) ?_ rfl ?_ ?_) ?_
  ·intro q hq;simp only [XU,XY,or_false] at hq;rcases hq with rfl|rfl|rfl|rfl|rfl
   ·exact⟨_,rfl,.same (by simp;rfl)⟩
   ·exact⟨_,rfl,.same (by simp)⟩
   ·exact⟨_,rfl,.same (by simp)⟩
   ·exact⟨_,rfl,.osl (by rw [X0,List.drop_zero,List.take_of_length_le (by rw [XI,XK];omega)])⟩
   exact⟨_,rfl,.same (by simp;rfl)⟩
  ·exact⟨⟨_,rfl,rfl,rfl,rfl,cB (k8 rfl _ _ _)⟩,⟨_,rfl,rfl,rfl,rfl,cB (aQ _ _ _)⟩,trivial⟩
  ·exact trivial
  refine Rg<|Dd (by exact eX (id:=931) rfl bR rfl rfl rfl rfl (show ∀ r∈cJ [],r.length=1 from by intro r hr;cases hr) rfl)<|Dd aE<|Dd aE<|Dd (by exact fF (l:=0) (h:=k) (rows':=(K.take k).map encStr) rfl bR rfl (dW K) rfl rfl (XZ _) (by omega) (by rw [List.drop_zero,List.map_take]))<|Dd (by exact dQ (ps:=(K.take k).map encStr) rfl bR EA rfl rfl rfl rfl rfl rfl rfl (dW _) (m:=(K.take k).length) (XI _) (by rw [XW];omega) rfl (kH [] _))<|Dd aE<|Dd (by exact dQ (ps:=(p.1::K.drop k).map encStr) rfl bR EA rfl rfl rfl rfl rfl (by rw [eL];show (K.take k).length=0+(K.take k).length;omega) rfl (dW _) (m:=(p.1::K.drop k).length) (XI _) (by rw [XK,XX,XW];omega) rfl (kH _ _))<|Da ?_;refine⟨s++[hni],⟨hd2,hb2⟩,by rw [XJ,List.length_singleton];omega,?_⟩;dsimp only;rw [← hins2];refine bY.fzG (id:=931) ((K.take k++p.1::K.drop k).map encStr) rfl (iX _) ?_ rfl ?_ ?_
  ·intro q hq;simp only [XU,XY,or_false] at hq;rcases hq with rfl|rfl|rfl
   ·exact⟨_,rfl,.same (by simp;rfl)⟩
   ·exact⟨_,rfl,.osl (by rw [X0,List.drop_zero,List.take_of_length_le (by rw [XI,XJ];omega)])⟩
   exact⟨_,rfl,.same (by simp;rfl)⟩
  ·exact⟨⟨_,rfl,rfl,rfl,rfl,cB (k8 rfl _ _ _)⟩,⟨_,rfl,rfl,rfl,rfl,cB (aQ _ _ _)⟩,trivial⟩
  exact trivial
 cases hc6
end Go.Proofs.YtmkgeogoojcciaaGreatDoor
