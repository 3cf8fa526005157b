/-
  Parts of the proof: rules of an abstract program logic, contracts of functions, plain laws. Conditions: each theorem's own.
-/
import Derived.Test.YtmkgeogoojcciaaGreatDoorKS5M6
set_option linter.unusedVariables false
set_option linter.unusedSimpArgs false
set_option maxRecDepth 100000
set_option maxHeartbeats 8000000
namespace Go.Proofs
theorem vM:type_of% Tryz.call46:=Tryz.call46
theorem aAW:type_of% Tryz.call47:=Tryz.call47
theorem vL:type_of% Tryz.call50:=Tryz.call50
theorem aAT:type_of% Tryz.call53:=Tryz.call53
end Go.Proofs
section
namespace Go.Abs
open Go.Lib
theorem qM:∀ (l:List UInt8) (a:Nat),decFrom a l=(decFrom 0 l).map fun n=>a*10 ^ l.length+n
 | [],a=>by simp [decFrom]
 | b::r,a=>by
  rw [decFrom,decFrom];cases h:digitVal b with
  | none=>rfl
  | some d =>
   show decFrom (a*10+d) r=(decFrom (0*10+d) r).map _;rw [qM r (a*10+d),qM r (0*10+d),Option.map_map];congr 1;funext n;show (a*10+d)*10 ^ r.length+n=a*10 ^ (r.length+1)+((0*10+d)*10 ^ r.length+n);rw [Nat.pow_succ];obtain ⟨p,hp⟩:∃ p,p=10 ^ r.length:=⟨_,rfl⟩;rw [← hp,Nat.add_mul,Nat.mul_assoc,Nat.mul_comm 10 p,Nat.zero_mul,aBA];omega
theorem vB (l:List UInt8):∀ z,decFrom 0 (List.replicate z 48++l)=decFrom 0 l
 | 0=>rfl
 | z+1=>by
  have h48:digitVal 48=some 0:=by decide
  rw [List.replicate_succ,List.cons_append,decFrom,h48];exact vB l z
theorem xG (b:List UInt8):∀ (a:List UInt8) (n:Nat),decFrom n (a++b)=(decFrom n a).bind fun x=>decFrom x b
 | [],n=>rfl
 | c::a,n=>by
  rw [List.cons_append,decFrom,decFrom];cases h:digitVal c with
  | none=>rfl
  | some d=>exact xG b a _
theorem O3 {l:List UInt8} {u:Nat} (hne:l≠[]) (hm:∀ b∈l,48≤b.toNat∧b.toNat≤57) (hd:decFrom 0 l=some u):atoi l=some (u:Int):=by
 cases l with
 | nil=>exact absurd rfl hne
 | cons b r =>
  have hb:=hm b List.mem_cons_self;have e2:decNat (b::r)=some u:=by rw [decNat,hd];rfl
  have h43:¬ (b == 43)=true:=fun h=>by rw [beq_iff_eq] at h;rw [h] at hb;exact absurd hb.1 (by decide)
  have h45:¬ (b == 45)=true:=fun h=>by rw [beq_iff_eq] at h;rw [h] at hb;exact absurd hb.1 (by decide)
  rw [atoi,aAg h45,aAg h43,e2];rfl
theorem E8 {l:List UInt8} {u:Nat} (hl:l.length≤18) (hne:l≠[]) (hm:∀ b∈l,48≤b.toNat∧b.toNat≤57) (hd:decFrom 0 l=some u):atoiAll l=.ok (u:Int):=by rw [atoiAll_short _ hl,O3 hne hm hd];rfl
end Go.Abs
namespace Go.Proofs.YtmkgeogoojcciaaGreatDoor
open Go.Proofs.Tryz
open Go.Abs Go.Lib
instance memDecZ (k:ByteArray) (l:List ByteArray):Decidable (k∈l):=decidable_of_iff _ jJ
theorem vE {l:List UInt8} {u:Nat} (hl:l.length≤18) (hne:l≠[]) (hm:∀ b∈l,48≤b.toNat∧b.toNat≤57) (hd:decFrom 0 l=some u):gV (ofL l)=false∧dF (ofL l)=(u:Int):=by
 have h:=E8 hl hne hm hd;constructor
 ·rw [gV,bC,h]
 rw [dF,qP,bC,h]
theorem J3 {n w:Nat} {b:UInt8} (h:b∈dg n w):48≤b.toNat∧b.toNat≤57:=by
 rw [dg] at h;rcases List.mem_append.1 h with h|h
 ·rw [List.eq_of_mem_replicate h];decide
 exact oO n h
theorem WI (n w:Nat):dg n w≠[]:=by rw [dg];intro h;exact oQ n (List.append_eq_nil_iff.1 h).2
theorem J4 (n w:Nat):decFrom 0 (dg n w)=some n:=by rw [dg,vB,mG]
theorem RM (place a n:Nat) (ha:a < 10) (hn:n < 10000000):(hS place a n).extract 16 24=ofL (dg a 1++dg n 7):=kJ (by
 have h8:(dg a 1++dg n 7).length=8:=by rw [aAj,lF (pA a (by omega) (by omega)),lF (pA n (by omega) (by omega))]
 rw [fB,bC,bC,CQ,oW,rL,List.drop_left' (tS _),List.take_left' h8])
theorem RL (place a n:Nat) (ha:a < 10) (hn:n < 10000000):gV ((hS place a n).extract 16 24)=false∧dF ((hS place a n).extract 16 24)=((a*10000000+n:Nat):Int):=by
 have h7:(dg n 7).length=7:=lF (pA n (by omega) (by omega));have h8:(dg a 1++dg n 7).length=8:=by rw [aAj,lF (pA a (by omega) (by omega)),h7]
 rw [RM place a n ha hn];refine vE (by omega) (fun h=>WI a 1 (List.append_eq_nil_iff.1 h).1) (fun b hb=>?_) ?_
 ·rcases List.mem_append.1 hb with h|h
  ·exact J3 h
  exact J3 h
 rw [xG,J4,Option.bind_some,qM,J4,h7];rfl
theorem GU {k place a n:Nat} (ha:a < 2) (hn:n≤k) (hk:k < 10000000):pV (hS place a n)=a∧pU (hS place a n)=n∧jS k place (hS place a n)=true:=by
 obtain ⟨h1,h2⟩:=RL place a n (by omega) (by omega);have hb:mB (hS place a n)=false:=by
  rw [mB,h1,h2,Bool.false_or];exact decide_eq_false (by omega)
 have hu:ND (hS place a n)=a*10000000+n:=by rw [ND,h2,aAt]
 have hA:pV (hS place a n)=a:=by rw [pV,hb,aAg (by decide),hu];omega
 have hN:pU (hS place a n)=n:=by rw [pU,hb,aAg (by decide),hu];omega
 refine⟨hA,hN,?_⟩;rw [jS,hb,hA,hN,decide_eq_true ha,decide_eq_true hn,decide_eq_true rfl];rfl
theorem NG (place:Nat) {p:List UInt8} (h2:p.length≤46):(ofL (eR place p)).extract 16 18=ofL (dg p.length 2)∧(ofL (eR place p)).extract 18 (18+p.length)=ofL p:=by
 have hd:(dg p.length 2).length=2:=lF (pA _ (by omega) (by omega));have e:(eR place p).drop 16=dg p.length 2++(p++zB (48 - (dg p.length 2++p).length)):=by rw [eR,oW,rL,List.drop_left' (tS _),List.append_assoc]
 have e2:(eR place p).drop 18=p++zB (48 - (dg p.length 2++p).length):=by
  rw [show 18=16+2 from rfl,← List.drop_drop,e,List.drop_left' hd]
 constructor
 ·refine kJ ?_;rw [fB,bC,bC,e];exact List.take_left' hd
 refine kJ ?_;rw [fB,bC,bC,e2,show 18+p.length - 18=p.length by omega,List.take_left]
theorem QT {place:Nat} {p:List UInt8} (h1:1≤p.length) (h2:p.length≤46):GC place (ofL (eR place p))=ofL p:=by
 obtain ⟨c1,c2⟩:=NG place h2;have hd:(dg p.length 2).length=2:=lF (pA _ (by omega) (by omega));obtain ⟨n1,n2⟩:=vE (l:=dg p.length 2) (u:=p.length) (by omega) (WI _ _) (fun b=>J3) (J4 _ _);have hb:CI (ofL (eR place p))=false:=by
  rw [CI,c1,n1,n2,Bool.false_or,decide_eq_false (by omega),decide_eq_false (by omega)];rfl
 have hp:QV (ofL (eR place p))=ofL p:=by rw [QV,c1,n2,aAt,c2]
 rw [GC,hb,aAg (by decide),hp,bC,aAh rfl]
theorem GB (t:List UInt8):∀ i,(List.range i).flatMap (fM t)=t.take (46*i)
 | 0=>by rw [List.range_zero,Nat.mul_zero,List.take_zero];rfl
 | i+1=>by
  rw [List.range_succ,List.flatMap_append,GB t i,List.flatMap_cons,List.flatMap_nil,List.append_nil,fM,Nat.mul_succ];exact(List.take_add ..).symm
theorem LF (t:List UInt8):((List.range (cZ t)).map (fM t)).flatten=t:=by rw [← List.flatMap_def,GB,List.take_of_length_le (by rw [cZ];omega)]
theorem GD {t:List UInt8} {i:Nat} (h:i < cZ t):1≤(fM t i).length∧(fM t i).length≤46:=by rw [nS];rw [cZ] at h;omega
theorem dU (x:ByteArray) (L:List ByteArray):aT (x::L)=decDigits x.size++58::(x.data.toList++aT L):=by
 have h1:aT (x::L)=(oG x).data.toList++aT L:=by rw [aT,List.flatMap_cons];rfl
 rw [h1,oG,ByteArray.data_append,Array.toList_append,ByteArray.data_append,Array.toList_append,lV];simp
theorem R5 (n:Nat):(58:UInt8)∉decDigits n:=fun h=>by
 have:=oO n h;exact absurd this.2 (by decide)
theorem OD {x:ByteArray} (L:List ByteArray) (hx:x.size < 1000000000000000000):rW (aT (x::L))=false∧L5 (aT (x::L))=x.size∧xH (aT (x::L))=x.data.toList++aT L:=by
 obtain ⟨e1,e2⟩:=SF (r:=x.data.toList++aT L) (R5 x.size);rw [← dU] at e1 e2;obtain ⟨n1,n2⟩:=vE (l:=decDigits x.size) (u:=x.size) (dS (k:=18) (by omega) (by decide)) (oQ _) (fun b=>oO _) (mG _);have hm:(58:UInt8)∈aT (x::L):=by rw [dU];simp
 have hi:dN (x.size:Int)=ofL (decDigits x.size):=kJ (by rw [bC,lV]);refine⟨?_,?_,e2⟩
 ·rw [rW,e1,e2,n1,n2,decide_eq_true hm,hi,decide_eq_true rfl,decide_eq_false (by omega),decide_eq_false (by rw [aAj,dL];omega)];rfl
 rw [L5,e1,n2,aAt]
theorem rQ:∀ (L acc:List ByteArray),(∀ x∈L,x.size < 1000000000000000000)→fD (aT L).length (aT L) acc=(acc++L,true)
 | [],acc,_=>by rw [List.append_nil];rfl
 | x::L,acc,h=>by
  obtain ⟨h1,h2,h3⟩:=OD L (h x List.mem_cons_self);have hne:aT (x::L)≠[]:=by rw [dU];simp
  rw [wV hne h1,h2,h3,List.drop_left' (dL x),List.take_left' (dL x),JG,rQ L _ (fun y hy=>h y (List.mem_cons_of_mem _ hy)),List.append_assoc];rfl
theorem rR {L:List ByteArray} (h:∀ x∈L,x.size < 1000000000000000000):eF (aT L)=(L,true):=by rw [eF,rQ L [] h,List.nil_append]
theorem GQ (A B:List ByteArray):aT (A++B)=aT A++aT B:=List.flatMap_append
end Go.Proofs.YtmkgeogoojcciaaGreatDoor
end
namespace Go.Proofs.YtmkgeogoojcciaaGreatDoor
open Go.Proofs.Tryz
open Go.Abs
theorem RI (s:ByteArray) (H:aA):aH Tryz.prog 172 [sv s] H (fun r H'=>r=bv false∧H'=H):=by refine Pu ?_;refine Bd func172 rfl ntmps172<|Sr<|Dd aS<|Zz<|Sr<|Dd aF<|Dd aF<|Dd QA<|Dd aS<|Zz<|aM<|Rt ?_;exact⟨by simp,rfl⟩
theorem U0 (s t:ByteArray) (H:aA):aH Tryz.prog 146 [sv s,sv t] H (fun r H'=>r=bv (sE s t)∧H'=H):=by
 refine Pu ?_;refine Bd func146 rfl ntmps146<|Sr<|Dd aS<|Zz<|Sq ?_;refine cV (t:=4) (n:=15) (X:=sE s t) ?_ ?_
 ·all_goals refine Dd aF ?_
  all_goals refine Dd (by exact aB rfl rfl call172 rfl (RI _ _))<|Dm ?_
  all_goals refine Sp 7 (fun h7=>?_) fun h7=>?_
  all_goals try contradiction
  all_goals refine Fo<|Fo<|Fo<|Dd fV<|Dm ?_
  all_goals refine Sp 12 (fun h12=>?_) fun h12=>?_
  all_goals try contradiction
  all_goals refine On aF<|On aF<|On (by exact QY rfl rfl rfl)<|Dd fV<|Da ?_
  all_goals(exact⟨⟨_,rfl,by rfl⟩,rfl,rfl,rfl⟩)
 exact aM<|Rt<|Qq
def eV:List ByteArray→Bool
 | a::b::r=>!sE b a&&eV (b::r)
 | _=>true
theorem DM {a:ByteArray} {l:List ByteArray} (h:eV (a::l)=true):eV l=true:=by
 cases l with
 | nil=>rfl
 | cons b r=>exact(aAr _ _▸h:_∧_).2
theorem tU:∀ (i:Nat) {l:List ByteArray},eV l=true→eV (l.drop i)=true
 | 0,_,h=>h
 | i+1,[],_=>rfl
 | i+1,a::l,h=>tU i (DM h)
theorem II {l:List ByteArray} {k:Nat} {a b:ByteArray} (ha:l[k]?=some a) (hb:l[k+1]?=some b):eV (l.drop k)=(!sE b a&&eV (l.drop (k+1))):=by obtain ⟨h1,e1⟩:=aAm.1 ha;obtain ⟨h2,e2⟩:=aAm.1 hb;rw [List.drop_eq_getElem_cons h1,List.drop_eq_getElem_cons h2,e1,e2];rfl
theorem GS (l:List ByteArray) (H:aA) (hl:l.length < 1099511627776):aH Tryz.prog 119 [.pv (aW l)] H (fun r H'=>r=bv (eV l)∧H'=H):=by
 refine Pu ?_;have hml:(l.map encStr).length=l.length:=aAi _;refine Bd func119 rfl ntmps119<|Sr<|Dd aS<|Zz<|Sq<|Sr<|Dd aF<|Dd (mZ aP)<|Dd (by exact eC rfl rfl rfl (show IntKind.i64.wrap (((l.map encStr).length:Int) - 1)=((l.map encStr).length:Int) - 1 by rw [IntKind.wrap_i64];omega))<|Dd aS<|Zz<|aO ?_;refine bL (σ:=Nat) (fun k=>([(0,.pv (aW l)),(3,iv ((k:Int) - 1))],[])) (fun k=>k≤l.length∧eV (l.drop (k - 1))=true) (fun k=>k) l.length ⟨aAo _,?_⟩ ?_ ?_
 ·have:(l.drop (l.length - 1)).length≤1:=by rw [aAx];omega
  match l.drop (l.length - 1),this with
  | [],_=>rfl
  | [a],_=>rfl
 ·rw [hml];exact Wk
 rintro k ⟨hk,hs⟩;refine Sq<|Sr<|Dd aF<|Dd BR<|Zz ?_;refine Cn ?_ ?_<;>intro hc1
 ·have hlt:2≤k:=by have:=aAe hc1;omega
  obtain ⟨m,rfl⟩:∃ m,k=m+2:=⟨k - 2,by omega⟩;obtain ⟨b,hb⟩:=aZ (l:=l) (k:=m+1) (by omega);obtain ⟨a,ha⟩:=aZ (l:=l) (k:=m) (by omega);have hib:=dW (f:=encStr) hb;have hia:=dW (f:=encStr) ha;have hat:=II ha hb;rw [show m+2 - 1=m+1 by omega] at hs;rw [hs,Bool.and_true] at hat;refine aK<|Sq<|aO<|Sq<|bO follows<|Cq aF<|Cq aF<|Cq (by exact bX (m:=m+1) rfl cJ rfl rfl (by omega) (show (((m+2:Nat):Int) - 1).toNat=m+1 by omega) hib rfl)<|Cq (qC aX)<|Cq aF<|Cq aF<|Cq (by exact eC rfl rfl rfl (show IntKind.i64.wrap ((((m+2:Nat):Int) - 1) - 1)=((m:Nat):Int)by rw [IntKind.wrap_i64];omega))<|Cq (FF cJ)<|Cq (qC aX)<|Cq (by exact aB rfl rfl call146 rfl (U0 b a _))<|dC<|Kr ?_;refine Cn ?_ ?_<;>intro hc2
  ·have hlt2:sE b a=true:=hc2;have h0:eV l=false:=by
    rw [Bool.eq_false_iff];intro h;rw [tU m h,hlt2] at hat;cases hat
   rw [h0];exact Sr<|Dd aS<|Zz<|aM<|Rt<|Qq
  have hlt2:sE b a=false:=hc2;refine aK<|Rg<|Dd aF<|Dd (by exact eC rfl rfl rfl (show IntKind.i64.wrap ((((m+2:Nat):Int) - 1) - 1)=((m+1:Nat):Int) - 1 by rw [IntKind.wrap_i64];omega))<|Da ?_;refine⟨m+1,⟨by omega,?_⟩,by omega,?_⟩
  ·rw [show m+1 - 1=m by omega,hat,hlt2];rfl
  exact Wk
 have hge:k≤1:=by have:=aAf hc1;omega
 have h0:eV l=true:=by rw [show k - 1=0 by omega] at hs;exact hs
 rw [h0];exact bI<|Sr<|Dd aS<|Zz<|aM<|Rt<|Qq
end Go.Proofs.YtmkgeogoojcciaaGreatDoor
section
namespace Go.Proofs.YtmkgeogoojcciaaGreatDoor
open Go.Proofs.Tryz
open Go.Abs
structure M3 where
 k:ByteArray
 b:ByteArray
 o:ByteArray
 t:ByteArray
end Go.Proofs.YtmkgeogoojcciaaGreatDoor
namespace Go.Abs
end Go.Abs
namespace Go.Proofs.YtmkgeogoojcciaaGreatDoor
open Go.Proofs.Tryz
open Go.Abs
end Go.Proofs.YtmkgeogoojcciaaGreatDoor
end
namespace Go.Proofs.YtmkgeogoojcciaaGreatDoor
open Go.Proofs.Tryz
open Go.Abs
theorem N1 (l:List ByteArray) (s:ByteArray) (H:aA) (hl:l.length < 4611686018427387904):aH Tryz.prog 123 [.pv (aW l),sv s] H (fun r H'=>r=iv (RR (fun x=>decide (s=x)) l)∧H'=H):=by
 refine Pu ?_;have hml:(l.map encStr).length=l.length:=aAi _;refine Bd func123 rfl ntmps123<|Sr<|Dd aS<|Zz<|Sq<|Sr<|Dd aF<|Dd (mZ aP)<|Dd aF<|Zz<|aO ?_;refine bL (σ:=Nat) (fun k=>([(0,.pv (aW l)),(1,sv s),(7,iv ((l.map encStr).length:Int)),(8,iv (k:Int))],[])) (fun k=>k≤l.length∧∀ j,j < k→∀ b,l[j]?=some b→decide (s=b)=false) (fun k=>l.length - k) 0 ⟨by omega,by omega⟩ ?_ ?_
 ·exact E0
 rintro k ⟨hk,hno⟩;refine Sr<|Dd dX<|Zz<|Sq ?_;refine Cn ?_ ?_<;>intro hc1
 ·have hlt:k < l.length:=by have:=aAe hc1;omega
  obtain ⟨o,ho⟩:=aZ hlt;have hi:=dW (f:=encStr) ho;refine aK<|Sq<|aO<|Sr<|Dd aF<|Dd aS<|Zz<|Sr<|Dd aF<|Dd aF<|Dd aF<|Dd (FF cJ)<|Dd (qC aX)<|Dd W0<|Zz ?_;refine Cn ?_ ?_<;>intro hc2
  ·refine Sr<|Dd aF<|Dd aS<|Zz<|aM<|Rt ?_;exact⟨by rw [RR,N9 hno ho hc2],rfl⟩
  refine aK<|Rg<|Dd pE<|Dd aF<|Zz ?_;exact⟨k+1,⟨by omega,QS hno ho hc2⟩,by omega,E0⟩
 have hge:k=l.length:=by have:=aAf hc1;omega
 subst hge;refine bI<|Sr<|Dd aS<|Zz<|aM<|Rt ?_;exact⟨by rw [RR,OA hno],rfl⟩
theorem VB (l:List ByteArray) (s:ByteArray):l.any (fun x=>decide (s=x))=VC l s:=by rw [VC];congr 1;funext x;rw [Bool.eq_iff_iff,aAp,aAp];exact eq_comm
theorem EZ (l:List ByteArray) (s:ByteArray) (H:aA) (hl:l.length < 4611686018427387904):aH Tryz.prog 92 [.pv (aW l),sv s] H (fun r H'=>r=bv (VC l s)∧H'=H):=by refine Pu ?_;refine Bd func92 rfl ntmps92<|Sr<|Dd aS<|Zz<|Sr<|Dd aF<|Dd aF<|Dd (by exact aB rfl rfl call123 rfl (N1 l s _ hl))<|Dd RS<|Dd aS<|Zz<|aM<|Rt ?_;exact⟨by rw [RQ,VB],rfl⟩
def m1 (p:M3):ByteArray×Bool:=if p.t=p.o then(p.o,false)else if p.t=p.b then(p.o,false)else if p.o=p.b then(p.t,false)else(p.b,true)
theorem KH (l:List ByteArray) (q:ByteArray→Bool):(List.range l.length).any (fun k=>((l[k]?).map q).getD false)=l.any q:=by
 rw [Bool.eq_iff_iff,List.any_eq_true,List.any_eq_true];constructor
 ·rintro⟨k,hk,h⟩;have hl:=List.mem_range.1 hk;rw [aAn hl] at h;exact⟨_,List.getElem_mem hl,h⟩
 rintro⟨s,hs,h⟩;obtain ⟨k,hk⟩:=aBD.1 hs;exact⟨k,List.mem_range.2 (aAm.1 hk).1,by rw [hk];exact h⟩
theorem C6 (fv:AV) (l:List ByteArray) (q:ByteArray→Bool) (H:aA) (hl:l.length < 4611686018427387904) (hf:∀ s,eU Tryz.prog fv [sv s] H (fun r H'=>r=bv (q s)∧H'=H)) :
  aH Tryz.prog 93 [.pv (aW l),fv] H (fun r H'=>r=bv (l.any q)∧H'=H):=by
 have h:=BW fv l (fun k=>((l[k]?).map q).getD false) (fun _=>H) hl (fun k s hs=>by rw [hs];exact hf s);rw [KH] at h;exact h
def eT (s:ByteArray):Bool:=!decide (s=⟨#[]⟩)&&decide ((s.size:Int)≤200)
theorem LJ (s:ByteArray) (H:aA):aH Tryz.prog 91 [sv s] H (fun r H'=>r=bv (eT s)∧H'=H):=by
 refine Pu ?_;refine Bd func91 rfl ntmps91<|Sr<|Dd aS<|Zz<|Sq ?_;refine cV (t:=2) (n:=9) (X:=eT s) ?_ ?_
 ·all_goals refine Dd aF ?_
  all_goals refine Dd QA<|Dm ?_
  all_goals refine Sp 5 (fun h5=>?_) fun h5=>?_
  all_goals try contradiction
  all_goals first|refine Fo<|Fo<|Fo ?_|refine On aF<|On (BP aL)<|On le' ?_
  all_goals refine Dd fV<|Da ?_
  all_goals(exact⟨⟨_,rfl,by(simp only [eT, *];rfl)⟩,rfl,rfl,rfl⟩)
 exact aM<|Rt<|Qq
def AQ (P:List ByteArray) (p:ByteArray×ByteArray×Nat):Bool:=!eT p.1||VC P p.1
def bigV (p:ByteArray×ByteArray×Nat):Bool:=decide ((20000:Int) < (p.2.1.size:Int))
def bK (l:bP) (P:List ByteArray):Int:=if l.any (AQ P)||P.any (fun s=>!eT s)then 1 else if l.any bigV then 2 else 0
def E7 (l:bP) (s:List Nat):Bool:=s.any fun i=>((l[i]?).map bigV).getD false
theorem OV {l:bP} {s:List Nat} {i:Nat} {p:ByteArray×ByteArray×Nat} (h:l[i]?=some p):E7 l (s++[i])=(E7 l s||bigV p):=by rw [E7,E7,List.any_append,List.any_cons,List.any_nil,Bool.or_false,h];rfl
theorem SO {l:bP} {s:List Nat} (hb:∀ i,i∈s→i < l.length) (ha:∀ i,i < l.length→i∈s):E7 l s=l.any bigV:=by
 rw [Bool.eq_iff_iff,E7,List.any_eq_true,List.any_eq_true];constructor
 ·rintro⟨i,hi,h⟩;rw [aAn (hb i hi)] at h;exact⟨_,List.getElem_mem (hb i hi),h⟩
 rintro⟨p,hp,h⟩;obtain ⟨i,hi⟩:=aBD.1 hp;exact⟨i,ha i (aAm.1 hi).1,by rw [hi];exact h⟩
abbrev X6:Ob:=bx 1 53 [.pv (.fn 91)]
abbrev ZX (l:bP) (c:Nat) (s:List Nat):aA:=[(946,GR 950 l c s),(5,X6),(950,bB l c)]
theorem FK (s:ByteArray) (H:aA) (h5:H.get 5=some X6):aH Tryz.prog 94 [sv s,.ref 5 0 0 0] H (fun r H'=>r=bv (!eT s)∧H'=H):=by refine Bd func94 rfl ntmps94<|Sr<|Dd aS<|Zz<|Sr<|Dd (by exact aY rfl isAgg53 rfl h5 rfl rfl rfl)<|Dd aF<|Dd (by exact gQ rfl rfl rfl ((eU.fn call91 (LJ s H))))<|Dd A2<|Dd aS<|Zz<|aM ?_;refine bD (H':=H) (.inr rfl) rfl (aJ rfl) Fin.refl ?_;exact Qq
theorem T3 (l:bP) (c:Nat) (P:List ByteArray) (hst:dT l c) (hl:l.length < 1099511627776) (hP:P.length < 1099511627776) :
  aH Tryz.prog 46 [.mp 950 0,.pv (aW P)] [(950,bB l c)] (fun r H'=>r=iv (bK l P)∧H'=[(950,bB l c)]):=by
 refine Bd func46 rfl ntmps46<|Sr<|Dd aS<|Zz<|Sr<|Dd (by exact cC (id:=5) rfl YE rfl rfl)<|Uu (pS sizeOf53)<|Zz<|Sr<|Dd aS<|Zz<|Sq<|Sr<|Dd aF<|Dd (by exact EP (q:=946) (κ:=fR) (l:=bR l) rfl aV rfl rfl rfl rfl rfl rfl)<|Zz<|aO ?_;refine bL (σ:=List Nat) (fun s=>([(0,.mp 950 0),(1,.pv (aW P)),(5,.ref 5 0 0 0),(6,bv (E7 l s)),(10,.it 946 0)],ZX l c s)) (fun s=>(s.Nodup∧∀ i,i∈s→i < l.length)∧∀ i,i∈s→∀ p,l[i]?=some p→AQ P p=false) (fun s=>l.length - s.length) [] ⟨⟨List.nodup_nil,by simp⟩,by simp⟩ ?_ ?_
 ·exact(cA.wk (Ea<|Eb<|Ea<|Eb<|Ea<|trivial) (Hc (LZ rfl _ _ _)<|Hb<|Hc (aR _ _ _)<|trivial) ⟨rfl,trivial⟩)
 rintro s ⟨⟨hd,hb⟩,hok⟩;have hsl:s.length≤l.length:=kU _ _ hd hb;have hcf:=fun H (h5:H.get 5=some X6)=>C6 (.clo 94 [.ref 5 0 0 0]) P (fun s=>!eT s) H (by omega) (fun s=>eU.clo call94 (FK s H h5));obtain ⟨ns,hns⟩:∃ b,b=P.any (fun s=>!eT s):=⟨_,rfl⟩;rw [← hns] at hcf;refine Sq<|Rg ?_;refine gJ rfl rfl (JW (κ:=fR) (l:=bR l) rfl rfl rfl rfl rfl rfl rfl rfl rfl (aAo _) (aAo _)) ?_;rintro _ _ (⟨rfl,rfl,hn0⟩|⟨hni,hnp,hn1,hn2,rfl,rfl⟩)
 ·refine Dd dY<|Zz<|Sq ?_;refine Cn ?_ ?_<;>intro hc1
  ·cases hc1
  have hall:∀ i,i < l.length→i∈s:=fun i hi=>by
   have hq:(bR l)[i]?=some ((l[i]).1,sv (l[i]).2.1,(l[i]).2.2):=by rw [bR,aBC,aAn hi];rfl
   have:=hn0 _ (aAs hq);obtain ⟨j,hj,e⟩:=List.mem_map.1 this;have e2:kP l j=kP l i:=by
    rw [e,kP,aAn hi];rfl
   have:=IE hst (hb j hj) hi e2
   rwa [this] at hj
  have hbig:=SO hb hall;have hnb:l.any (AQ P)=false:=by
   rw [Bool.eq_false_iff];intro h;obtain ⟨p,hp,h⟩:=List.any_eq_true.1 h;obtain ⟨i,hi⟩:=aBD.1 hp;rw [hok i (hall i (aAm.1 hi).1) p hi] at h;cases h
  have hV:bK l P=if ns=true then 1 else if l.any bigV=true then 2 else 0:=by rw [bK,hnb,← hns,Bool.false_or]
  rw [hV,hbig];obtain ⟨bg,hbg⟩:∃ b,b=l.any bigV:=⟨_,rfl⟩;rw [← hbg];refine bI<|Sq<|aO<|Sr<|Dd aF<|Dd (by exact fA rfl rfl)<|Dd (by exact aB rfl rfl call93 rfl (hcf _ rfl))<|Da ?_;refine Cn ?_ ?_<;>intro hc2
  ·have hn:ns=true:=hc2;rw [aAh hn];refine Sr<|Dd aS<|Zz<|aM ?_;refine bD (H':=[(950,bB l c)]) (.inr rfl) rfl (aJ rfl) (Fin.wk (by(simp;done)) (Hc (aR _ _ _)<|trivial) ⟨rfl,trivial⟩) ?_;exact Qq
  have hn:¬ ns=true:=by rw [show ns=false from hc2];decide
  rw [aAg hn];refine Sr<|Dd aF<|Da ?_;refine Cn ?_ ?_<;>intro hc3
  ·have hn2:bg=true:=hc3;rw [aAh hn2];refine Sr<|Dd aS<|Zz<|aM ?_;refine bD (H':=[(950,bB l c)]) (.inr rfl) rfl (aJ rfl) (Fin.wk (by(simp;done)) (Hc (aR _ _ _)<|trivial) ⟨rfl,trivial⟩) ?_;exact Qq
  have hn2:¬ bg=true:=by rw [show bg=false from hc3];decide
  rw [aAg hn2];refine aK<|Sr<|Dd aS<|Zz<|aM ?_;refine bD (H':=[(950,bB l c)]) (.inr rfl) rfl (aJ rfl) (Fin.wk (by(simp;done)) (Hc (aR _ _ _)<|trivial) ⟨rfl,trivial⟩) ?_;exact Qq
 obtain ⟨p,hp,rfl⟩:=wD hn1;have hlt:hni < l.length:=(aAm.1 hp).1;have hst2:kP l hni=p.2.2:=by rw [kP,hp];rfl
 have hn3:hni∉s:=fun hm=>hn2 (List.mem_map.2 ⟨hni,hm,hst2⟩);have hb2:∀ i,i∈s++[hni]→i < l.length:=fun i hi=>by
  rcases List.mem_append.1 hi with h|h
  ·exact hb i h
  rw [aAl] at h;omega
 have hd2:(s++[hni]).Nodup:=List.nodup_append.2 ⟨hd,by simp,fun a ha b hb e=>by rw [aAl] at hb;subst hb;subst e;exact hn3 ha⟩;have hlen:=kU _ _ hd2 hb2;rw [aAj,List.length_singleton] at hlen;have hit:GR 950 l c (s++[hni])=⟨0,0,0,eJ (.mp 950 0) c c (s.map (kP l)++[p.2.2])⟩:=by rw [GR,List.map_append,List.map_cons,List.map_nil,hst2]
 have hin:=fun H=>EZ P p.1 H (by omega);have hbg:=OV (s:=s) hp;refine Dd dY<|Zz<|Sq ?_;refine Cn ?_ ?_<;>intro hc4
 ·refine aK<|aO<|Sr<|Dd (by exact EQ (κ:=fR) (seen:=s.map (kP l)) (p:=(p.1,sv p.2.1,p.2.2)) (since:=c) rfl rfl rfl rfl rfl rfl rfl rfl rfl hn1)<|Dd dY<|Dd dY<|Dd aS<|Dd aS<|Zz<|Sq<|Sq ?_;refine gA.ent (E':=[(0,.mp 950 0),(1,.pv (aW P)),(5,.ref 5 0 0 0),(6,bv (E7 l s)),(10,.it 946 0),(7,sv p.1),(8,sv p.2.1)]) (H':=ZX l c (s++[hni])) (cA.get' ⟨⟨_,rfl,rfl⟩,⟨_,rfl,rfl⟩,⟨_,rfl,rfl⟩,⟨_,rfl,rfl⟩,⟨_,rfl,rfl⟩,⟨_,rfl,rfl⟩,⟨_,rfl,rfl⟩,trivial⟩ (fun j=>by rw [ZX,hit];exact iG 946 _ (GR 950 l c s) [(5,X6),(950,bB l c)] j)) ?_;refine cV (t:=24) (n:=10) (X:=AQ P p) ?_ ?_
  ·all_goals refine Dd (eA isAgg53) ?_
   all_goals refine Dd aF<|Dd (by exact gQ rfl rfl rfl ((eU.fn call91 (LJ p.1 _))))<|Dd A2<|Dm ?_
   all_goals refine Sp 20 (fun h20=>?_) fun h20=>?_
   all_goals try contradiction
   all_goals first|refine Fo<|Fo<|Fo ?_|refine On aF<|On aF<|On (by exact aB rfl rfl call92 rfl (hin _)) ?_
   all_goals refine Dd fV<|Zz ?_
   all_goals(exact⟨⟨_,rfl,by(simp only [AQ, *];rfl)⟩,rfl,rfl,rfl⟩)
  refine Cn ?_ ?_<;>intro hc5
  ·have hk2:AQ P p=true:=hc5;have hV:bK l P=1:=by rw [bK,List.any_eq_true.2 ⟨p,aAs hp,hk2⟩];rfl
   rw [hV];refine Sr<|Dd aS<|Zz<|aM ?_;refine bD (H':=[(950,bB l c)]) (.inr rfl) rfl (aJ rfl) (Fin.wk (by(simp;done)) (Hc (aR _ _ _)<|trivial) ⟨rfl,trivial⟩) ?_;exact Qq
  have hk2:AQ P p=false:=hc5;refine aK ?_;refine cV (t:=6) (n:=8) (X:=E7 l s||bigV p) ?_ ?_
  ·all_goals refine Dd aF ?_
   all_goals refine Dm ?_
   all_goals refine Sp 26 (fun h26=>?_) fun h26=>?_
   all_goals try contradiction
   all_goals first|refine Fo<|Fo<|Fo ?_|refine On aF<|On (BP aL)<|On BR ?_
   all_goals refine Dd fV<|Da ?_
   all_goals(exact⟨⟨_,rfl,by rw [h26];rfl⟩,rfl,rfl,rfl⟩)
  refine⟨s++[hni],⟨⟨hd2,hb2⟩,fun i hi q hq=>?_⟩,by rw [aAj,List.length_singleton];omega,?_⟩
  ·rcases List.mem_append.1 hi with h|h
   ·exact hok i h q hq
   rw [aAl] at h;subst h;rw [hp] at hq;cases hq;exact hk2
  rw [hbg];exact(cA.wk (Ea<|Eb<|Ea<|Eb<|Ea<|trivial) (Hc (LZ rfl _ _ _)<|Hb<|Hc (aR _ _ _)<|trivial) ⟨rfl,trivial⟩)
 cases hc4
abbrev jA (l:List ByteArray):List (List AV):=l.map (fun e=>(encStr e).map .pv)
def raw (e:GEdit) (s:ByteArray):Prop:=s=e.id∨s=e.other∨s=e.node∨s=e.obj.id∨s∈e.refs∨s∈e.obj.refs
abbrev dP (l:List ByteArray):List (List AV):=l.map (fun s=>(encStr s).map .pv)
def BQ (l:List ByteArray):Prop:=l.Pairwise (fun a b=>sE a b=true)
end Go.Proofs.YtmkgeogoojcciaaGreatDoor
section
namespace Go.Abs
theorem BL {P:Program} {N:Nat} {o:Oper} {E:bH} {H:aA} {T:TypeId} {t:Tmp} {e:TypeId} {id g off len sz:Nat} {ob:Ob} {row:List AV} {rows':List (List AV)} (ho:o.op=.call {callee:=.builtin .clear,args:=#[.tmp t],argTypes:=#[T]}) (hS:dQ P T e sz) (hZ:fY P e row) (hrow:row.length=sz)
  (hx:E.get t=some (.osl id g off len)) (hH:H.get id=some ob) (hg:ob.g=g) (hosz:ob.sz=sz) (hoff:off≤ob.rows.length) (hrows:ob.rows.take off++(List.replicate len row++ob.rows.drop (off+len))=rows') :
  bW P N o E H .any ((id,⟨g,sz,ob.ty,rows'⟩)::H):=by
 intro a w I ι h1 h2 hr he K Q hkk;obtain ⟨v,hv,hvr⟩:=he t _ hx;obtain ⟨c,h3,h4,h5⟩:=DV hr hvr hH hg;refine NQ (x:=.tmp t) (E:=(t,.osc id g off len c)::E) ho hS hZ hrow (bH.get_cons_same _ _ _) hH hg hosz hoff hrows a w I ι h1 h2 hr (fun u x hu=>?_) K Q hkk;by_cases e:t=u
 ·subst e;rw [bH.get_cons_same] at hu;cases hu;exact⟨v,hv,h5⟩
 rw [bH.get_cons_other _ _ e] at hu;exact he u x hu
end Go.Abs
namespace Go.Proofs.YtmkgeogoojcciaaGreatDoor
open Go.Proofs.Tryz
open Go.Abs
def bZ:List ByteArray→List ByteArray
 | []=>[]
 | [x]=>[x]
 | x::y::r=>if x=y then bZ (y::r)else x::bZ (y::r)
theorem wK:∀ (l:List ByteArray) (x y:ByteArray),bZ (l++[x,y])=bZ (l++[x])++(if x=y then[] else[y])
 | [],x,y=>by
  show (if x=y then bZ [y] else x::bZ [y])=[x]++_;by_cases e:x=y
  ·rw [aAh e,aAh e,e];rfl
  rw [aAg e,aAg e];rfl
 | [a],x,y=>by
  show (if a=x then bZ [x,y] else a::bZ [x,y])=(if a=x then bZ [x] else a::bZ [x])++_;have:=wK [] x y;rw [show bZ [x,y]=bZ ([]++[x,y])from rfl,this]
  split<;>rfl
 | a::b::l,x,y=>by
  have:=wK (b::l) x y;show (if a=b then bZ ((b::l)++[x,y])else a::bZ ((b::l)++[x,y]))=(if a=b then bZ ((b::l)++[x])else a::bZ ((b::l)++[x]))++_;rw [this]
  split<;>rfl
theorem C8 {L:List ByteArray} {k:Nat} {x y:ByteArray} (hk:1≤k) (hx:L[k - 1]?=some x) (hy:L[k]?=some y):bZ (L.take (k+1))=bZ (L.take k)++(if x=y then[] else[y]):=by
 obtain ⟨j,rfl⟩:∃ j,k=j+1:=⟨k - 1,by omega⟩;rw [show j+1 - 1=j by omega] at hx;have h1:L.take (j+1)=L.take j++[x]:=by rw [List.take_add_one,hx];rfl
 have h2:L.take (j+1+1)=L.take j++[x,y]:=by rw [List.take_add_one,h1,hy,List.append_assoc];rfl
 rw [h2,h1,wK]
theorem qN:∀ {l:List ByteArray} {x:ByteArray},x∈bZ l↔x∈l
 | [],x=>Iff.rfl
 | [a],x=>Iff.rfl
 | a::b::l,x=>by
  show x∈(if a=b then bZ (b::l)else a::bZ (b::l))↔_;have ih:=qN (l:=b::l) (x:=x)
  split
  ·next e =>
   rw [ih,e];simp
  rw [aAu,ih,List.mem_cons (a:=x) (b:=a)]
theorem vC:∀ {l:List ByteArray},l.Pairwise (fun a b=>sE b a=false)→BQ (bZ l)
 | [],_=>.nil
 | [a],_=>List.pairwise_singleton _ _
 | a::b::l,h=>by
  have h2:=(List.pairwise_cons.1 h).2;have ih:=vC h2;show BQ (if a=b then bZ (b::l)else a::bZ (b::l))
  split
  ·exact ih
  next e =>
  refine List.pairwise_cons.2 ⟨fun y hy=>?_,ih⟩;have hy2:=qN.1 hy;have hba:sE b a=false:=(List.pairwise_cons.1 h).1 b List.mem_cons_self;have hab:sE a b=true:=by
   cases hc:sE a b with
   | true=>rfl
   | false=>exact absurd (DN hc hba) e
  rcases aAu.1 hy2 with rfl|hy2
  ·exact hab
  have h3:=(List.pairwise_cons.1 h2).1 y hy2;cases hc:sE b y with
  | true=>exact B7 hab hc
  | false=>rw [DN h3 hc];exact hab
theorem CU:∀ (l:List ByteArray),(bZ l).length≤l.length
 | []=>aAo _
 | [a]=>aAo _
 | a::b::l=>by
  have ih:=CU (b::l);show (if a=b then bZ (b::l)else a::bZ (b::l)).length≤(b::l).length+1
  split
  ·omega
  rw [aAk];omega
theorem tT {l:List ByteArray} {i:Nat} {s:ByteArray} (h:l[i]?=some s):(jA l)[i]?=some ((encStr s).map .pv):=by rw [aBC,h];rfl
theorem JM {P L:List ByteArray} {j:Nat} {s:ByteArray} (h:P.length≤j) (hs:L[j]?=some s):(P++L.drop P.length)[j]?=some s:=by rw [List.getElem?_append_right h,List.getElem?_drop,show P.length+(j - P.length)=j by omega];exact hs
theorem JY {H:aA} {id:Nat} {o:Ob} (h:H.get id=some o) (j:Nat):aA.get ((id,o)::H) j=H.get j:=by
 by_cases e:j=id
 ·subst e;rw [get_cons_same,h]
 exact get_cons_other _ _ e
theorem C7 (L:List ByteArray) (g:Nat) (H:aA) (h1:H.get 901=some ⟨g,1,9,jA L⟩) (hl:L.length < 1099511627776) :
  aH Tryz.prog 47 [.osl 901 g 0 L.length] H (fun r H'=>r=.osl 901 g 0 (bZ L).length∧H'=(901,⟨g,1,9,jA (bZ L++List.replicate (L.length - (bZ L).length) sNil)⟩)::H):=by
 refine Bd func47 rfl ntmps47 ?_;refine gA.ent (E':=[(0,.osl 901 g 0 L.length)]) (H':=(901,⟨g,1,9,jA L⟩)::H) (cA.get' ⟨⟨_,rfl,rfl⟩,trivial⟩ (JY h1)) ?_;refine Sr<|Dd aS<|Zz<|Sq<|Sr<|Dd aF<|Dd (by exact dE rfl aP rfl rfl rfl)<|Dd dX<|Zz ?_;refine Cn ?_ ?_<;>intro hc1
 ·have hlt:L.length < 2:=by have:=aAe hc1;omega
  have hc0:bZ L=L:=by
   match L,hlt with
   | [],_=>rfl
   | [a],_=>rfl
  refine Sr<|Dd aF<|Dd aS<|Zz<|aM ?_;refine bD (H':=(901,⟨g,1,9,jA L⟩)::H) (.inr rfl) rfl (aJ rfl) Fin.refl ⟨by rw [hc0],by rw [hc0,Nat.sub_self,List.replicate_zero,List.append_nil]⟩
 have hge:2≤L.length:=by have:=aAf hc1;omega
 refine aK<|Sq<|Sr<|Dd aS<|Zz<|aO ?_;refine bL (σ:=Nat) (fun i=>([(0,.osl 901 g 0 L.length),(3,iv (i:Int))],(901,⟨g,1,9,jA L⟩)::H)) (fun i=>1≤i∧i≤L.length∧bZ (L.take i)=L.take i) (fun i=>L.length - i) 1 ⟨by omega,by omega,by
  obtain ⟨x,hx⟩:=aZ (l:=L) (k:=0) (by omega);rw [List.take_add_one,hx];rfl⟩ ?_ ?_
 ·exact cA.get' ⟨⟨_,rfl,rfl⟩,⟨_,rfl,rfl⟩,trivial⟩ (fun j=>rfl)
 rintro i ⟨hi1,hi2,hi3⟩;refine Sq<|Sr<|Dd aF<|Dd aF<|Dd (by exact dE rfl aP rfl rfl rfl)<|Dd dX<|Zz ?_;refine Cn ?_ ?_<;>intro hc2
 ·have hil:i < L.length:=by have:=aAe hc2;omega
  obtain ⟨y,hy⟩:=aZ hil;obtain ⟨x,hx⟩:=aZ (l:=L) (k:=i - 1) (by omega);have ht:=C8 hi1 hx hy;refine aK<|Sq<|aO<|Sq<|bO follows<|Cq aF<|Cq aF<|Cq (by exact dM rfl cJ rfl rfl rfl rfl rfl (by omega) (by exact aAt _) hil (aBA _))<|Cq (by exact aY rfl aX rfl rfl rfl (tT hy) rfl)<|Cq aF<|Cq aF<|Cq (by exact eC rfl rfl rfl (by exact iU (by omega) (by omega)))<|Cq (by exact dM (m:=i - 1) rfl cJ rfl rfl rfl rfl rfl (by omega) (show ((i:Int) - 1).toNat=i - 1 by omega) (by omega) (aBA _))<|Cq (by exact aY rfl aX rfl rfl rfl (tT hx) rfl)<|Cq W0<|dC<|Kr ?_;refine Cn ?_ ?_<;>intro hc3
  ·have hyx:=aAe hc3;rw [aAh hyx.symm,List.append_nil,hi3] at ht;refine Sr<|Dd aF<|Dd aF<|Dd (by exact fJ (l:=i) (h:=L.length) rfl cJ rfl rfl rfl rfl rfl rfl (by omega) (aAo _) (aBA _) rfl)<|Dd aS<|Zz<|Sq<|Sr<|Dd aS<|Zz<|aO ?_;refine wP (fun(k:Nat) (R:List ByteArray)=>([(0,.osl 901 g 0 L.length),(3,iv (R.length:Int)),(4,.osl 901 g i (L.length - i)),(5,iv (k:Int))],(901,⟨g,1,9,jA (R++L.drop R.length)⟩)::H)) (fun k R=>1≤k∧i+k≤L.length∧R=bZ (L.take (i+k))∧R.length+1≤i+k) (fun k R=>L.length - (i+k)) 1 (L.take i) ⟨by omega,by omega,ht.symm,by rw [aAw];omega⟩ ?_ ?_
   ·have hti:(L.take i).length=i:=by rw [aAw];omega
    rw [hti,List.take_append_drop];exact cA.get' ⟨⟨_,rfl,rfl⟩,⟨_,rfl,rfl⟩,⟨_,rfl,rfl⟩,⟨_,rfl,rfl⟩,trivial⟩ (fun j=>rfl)
   rintro k R ⟨hk1,hk2,hk3,hk4⟩;refine Sq<|Sr<|Dd aF<|Dd aF<|Dd (by exact dE rfl aP rfl rfl rfl)<|Dd dX<|Zz ?_;refine Cn ?_ ?_<;>intro hc4
   ·have hkl:i+k < L.length:=by have:=aAe hc4;omega
    obtain ⟨v,hv⟩:=aZ hkl;obtain ⟨u,hu⟩:=aZ (l:=L) (k:=i+k - 1) (by omega);have ht2:=C8 (by omega) hu hv;have hv2:=tT (JM (P:=R) (by omega) hv);have hu2:=tT (JM (P:=R) (by omega) hu);refine aK<|Sq<|aO<|Sq<|bO follows<|Cq aF<|Cq aF<|Cq (by exact dM (m:=k) rfl cJ rfl rfl rfl rfl rfl (by omega) (aAt _) (by omega) rfl)<|Cq (by exact aY rfl aX rfl rfl rfl hv2 rfl)<|Cq aF<|Cq aF<|Cq (by exact eC rfl rfl rfl (by exact iU (by omega) (by omega)))<|Cq (by exact dM (m:=k - 1) (m2:=i+k - 1) rfl cJ rfl rfl rfl rfl rfl (by omega) (show ((k:Int) - 1).toNat=k - 1 by omega) (by omega) (by omega))<|Cq (by exact aY rfl aX rfl rfl rfl hu2 rfl)<|Cq QA<|dC<|Kr ?_;refine Cn ?_ ?_<;>intro hc5
    ·have hne:¬ u=v:=fun e=>by
      have h:=hc5;rw [e] at h;simp at h
     rw [aAg hne,← hk3] at ht2;have hR0:∃ z,L[R.length]?=some z:=aZ (by omega);obtain ⟨z,hz⟩:=hR0;have hat:(jA (R++L.drop R.length))[R.length]?=some ((encStr z).map .pv):=tT (JM (P:=R) (aAo _) hz);have hset:(jA (R++L.drop R.length)).set R.length [sv v]=jA ((R++[v])++L.drop (R++[v]).length):=by
      have hd:L.drop R.length=z::L.drop (R.length+1):=by
       obtain ⟨p,q⟩:=aAm.1 hz;rw [List.drop_eq_getElem_cons p,q]
      rw [hd,aAj,List.length_singleton,jA,List.map_append,List.map_cons,List.set_append_right _ _ (by rw [aAi];exact aAo _),aAi,Nat.sub_self,List.set_cons_zero,List.append_assoc,jA,List.map_append,List.map_append];rfl
     refine Sr<|Dd aF<|Dd aF<|Dd aF<|Dd aF<|Dd (by exact dM (m:=k) rfl cJ rfl rfl rfl rfl rfl (by omega) (aAt _) (by omega) rfl)<|Dd (by exact aY rfl aX rfl rfl rfl hv2 rfl)<|Dd (by exact dM rfl cJ rfl rfl rfl rfl rfl (by omega) (by exact aAt _) (by omega:R.length < L.length) (aBA _))<|Uu (by exact cN rfl sizeOf9 rfl rfl rfl rfl rfl hat (by simp [encStr]) rfl hset)<|Zz<|Rg<|Dd aF<|Dd pE<|Dd aS<|Zz<|Rg<|Dd aF<|Dd pE<|Da ?_;refine⟨k+1,R++[v],⟨by omega,by omega,ht2.symm,by rw [aAj,List.length_singleton];omega⟩,by omega,?_⟩;rw [show (((R++[v]).length:Nat):Int)=(R.length:Int)+1 by rw [aAj,List.length_singleton];rfl];exact cA.dup ⟨⟨_,rfl,rfl⟩,⟨_,rfl,rfl⟩,⟨_,rfl,rfl⟩,⟨_,rfl,rfl⟩,trivial⟩
    have he:u=v:=by
     have h:=hc5;have h2:v=u:=by simpa using h
     exact h2.symm
    rw [aAh he,List.append_nil,← hk3] at ht2;refine aK<|Rg<|Dd aF<|Dd pE<|Da ?_;refine⟨k+1,R,⟨by omega,by omega,ht2.symm,by omega⟩,by omega,?_⟩;exact cA.get' ⟨⟨_,rfl,rfl⟩,⟨_,rfl,rfl⟩,⟨_,rfl,rfl⟩,⟨_,rfl,rfl⟩,trivial⟩ (fun j=>rfl)
   have hge2:i+k=L.length:=by have:=aAf hc4;omega
   rw [hge2,List.take_length] at hk3;have hRl:R.length≤L.length:=by omega
   have hmix:(jA (R++L.drop R.length)).length=L.length:=by
    rw [aAi,aAj,aAx];omega
   have hcl:(jA (R++L.drop R.length)).take R.length++(List.replicate (L.length - R.length) [sv sNil]++(jA (R++L.drop R.length)).drop (R.length+(L.length - R.length)))=jA (R++List.replicate (L.length - R.length) sNil):=by
    have hd0:(jA (R++L.drop R.length)).drop (R.length+(L.length - R.length))=[]:=List.drop_eq_nil_of_le (by rw [hmix];omega);rw [hd0,List.append_nil,jA,List.map_append,List.take_left' (aAi _),jA,List.map_append,List.map_replicate];rfl
   refine bI<|Sr<|Dd aF<|Dd aF<|Dd (by exact fJ (l:=R.length) (h:=L.length) rfl cJ rfl rfl rfl rfl rfl rfl hRl (aAo _) (aBA _) rfl)<|Uu (by exact BL rfl cJ zo9 rfl rfl rfl rfl rfl (by rw [hmix];exact hRl) hcl)<|Zz<|Sr<|Dd aF<|Dd aF<|Dd (by exact fJ (l:=0) (h:=R.length) rfl cJ rfl rfl rfl rfl rfl rfl (aAz _) hRl (aBA _) rfl)<|Dd aS<|Zz<|aM ?_;refine bD (H':=(901,⟨g,1,9,jA (R++List.replicate (L.length - R.length) sNil)⟩)::H) (.inr rfl) rfl (aJ rfl) (Fin.get' (fun j=>iG _ _ _ _ j)) ⟨by rw [hk3];rfl,by rw [hk3]⟩
  have hyx:=aAf hc3;rw [aAg (fun e=>hyx e.symm),hi3] at ht;refine aK<|Rg<|Dd aF<|Dd pE<|Da ?_;refine⟨i+1,⟨by omega,by omega,?_⟩,by omega,cA.get' ⟨⟨_,rfl,rfl⟩,⟨_,rfl,rfl⟩,trivial⟩ (fun j=>rfl)⟩;rw [ht,List.take_add_one,hy];rfl
 have hge3:i=L.length:=by have:=aAf hc2;omega
 subst hge3;rw [List.take_length] at hi3;refine bI<|Sr<|Dd aF<|Dd aS<|Zz<|aM ?_;refine bD (H':=(901,⟨g,1,9,jA L⟩)::H) (.inr rfl) rfl (aJ rfl) Fin.refl ⟨by rw [hi3],by rw [hi3,Nat.sub_self,List.replicate_zero,List.append_nil]⟩
end Go.Proofs.YtmkgeogoojcciaaGreatDoor
end
namespace Go.Proofs.YtmkgeogoojcciaaGreatDoor
open Go.Proofs.Tryz
open Go.Abs Go.Lib
theorem FY (a b:ByteArray):sE a b=decide (FP a < FP b):=by unfold sE;rw [jN,ByteArray.toList_eq,ByteArray.toList_eq];rfl
theorem FO (l:List UInt8):FP (WE l)=l:=by simp [FP,WE]
theorem B6 (l:List ByteArray):(cU l).Pairwise (fun a b=>sE b a=false):=by unfold cU;rw [List.pairwise_map];refine List.Pairwise.imp (R:=fun(x y:List UInt8)=>decide (x≤y)=true) (fun {x y} h=>?_) (List.pairwise_mergeSort (le:=fun(x y:List UInt8)=>decide (x≤y)) (fun a b c h1 h2=>decide_eq_true (List.le_trans (aAe h1) (aAe h2))) wU _);rw [FY,FO,FO];exact decide_eq_false (List.not_lt.2 (aAe h))
theorem MW {l:List ByteArray} (hn:l.Nodup):BQ (cU l):=by
 have hp:(cU l).Pairwise (fun a b=>a≠b):=(sD l).symm.pairwise hn (fun {a b} h=>h.symm);refine(hp.and (B6 l)).imp fun {a b} h=>?_;obtain ⟨h1,h2⟩:=h;cases hc:sE a b with
 | true=>rfl
 | false=>exact absurd (DN hc h2) h1
theorem zV {l:List ByteArray} (h:BQ l):l.Nodup:=by refine List.Pairwise.imp (fun {a b} h e=>?_) h;subst e;rw [KX] at h;cases h
theorem KY {a b:ByteArray} (h:sE a b=true):sE b a=false:=by
 cases e:sE b a with
 | false=>rfl
 | true=>have:=B7 h e;rw [KX] at this;cases this
theorem MX {l:List ByteArray} (h:BQ l):cU l=l:=by
 have hp:(l.map FP).Pairwise (fun x y=>decide (x≤y)=true):=by
  rw [List.pairwise_map];refine h.imp fun {a b} h=>decide_eq_true ?_;have h2:=KY h;rw [FY] at h2;exact List.not_lt.1 (aAf h2)
 rw [cU,List.mergeSort_of_pairwise hp,LM]
theorem yN:∀ {l:List ByteArray},l.Pairwise (fun a b=>sE b a=false)→eV l=true
 | [],_=>rfl
 | [a],_=>rfl
 | a::b::r,h=>by
  have h1:=(List.pairwise_cons.1 h).1 b List.mem_cons_self;rw [eV,h1,yN (List.pairwise_cons.1 h).2];rfl
theorem VA {l:List ByteArray} (h:BQ l):l.Pairwise (fun a b=>sE b a=false):=h.imp fun {a b} h=>KY h
theorem CV:∀ {l:List ByteArray},l.Nodup→bZ l=l
 | [],_=>rfl
 | [a],_=>rfl
 | a::b::r,h=>by
  have hn:=List.nodup_cons.1 h;have e:¬ a=b:=fun e=>hn.1 (by rw [e];exact List.mem_cons_self);show (if a=b then bZ (b::r)else a::bZ (b::r))=_;rw [aAg e,CV hn.2]
theorem EF {k v:ByteArray} {n:Nat}:∀ {l:bP},fI l→(k,v,n)∈l→cW l k=some v
 | [],_,h=>by cases h
 | (k',a,m)::r,hn,h=>by
  have h2:=List.nodup_cons.1 hn;rw [cW];rcases aAu.1 h with e|h
  ·cases e;rw [aAh rfl]
  rw [aAg (fun e=>h2.1 (by subst e;exact List.mem_map.2 ⟨_,h,rfl⟩))];exact EF h2.2 h
theorem EC {k v:ByteArray}:∀ {l:bP},cW l k=some v→∃ n,(k,v,n)∈l
 | [],h=>by cases h
 | (k',a,m)::r,h=>by
  rw [cW] at h;by_cases e:k'=k
  ·rw [aAh e] at h;cases h;subst e;exact⟨m,List.mem_cons_self⟩
  rw [aAg e] at h;obtain ⟨n,hn⟩:=EC h;exact⟨n,List.mem_cons_of_mem _ hn⟩
theorem CN {a b:bP} (ha:fI a) (hb:fI b) (h:∀ k,cW a k=cW b k):(a.map Prod.fst).Perm (b.map Prod.fst):=(List.perm_ext_iff_of_nodup ha hb).2 fun k=>by
 have h1:=gI (k:=k) (l:=a);have h2:=gI (k:=k) (l:=b);rw [h k] at h1;exact Decidable.not_iff_not.1 (h1.symm.trans h2)
theorem vT {a b:bP} (ha:fI a) (hb:fI b) (h:∀ k,cW a k=cW b k):cT a=cT b:=yO (CN ha hb h)
theorem ED {a b:bP} (ha:fI a) (hb:fI b) (h:∀ k,cW a k=cW b k):a.length=b.length:=by
 have:=(CN ha hb h).length_eq
 rwa [aAi,aAi] at this
theorem MQ {a b:bP} (ha:fI a) (hb:fI b) (h:∀ k,cW a k=cW b k) (P:List ByteArray):cK a P=cK b P:=by
 have hg:(fun x=>[x,dJ a x])=fun x=>[x,dJ b x]:=by
  funext x;rw [mQ,mQ,h]
 have hl:(bR a).length=(bR b).length:=by rw [bR,bR,aAi,aAi,ED ha hb h]
 rw [cK,cK,vT ha hb h,wZ,wZ,hg,hl]
theorem B3 {a b:bP} (ha:fI a) (hb:fI b) (h:∀ k,cW a k=cW b k) (P:List ByteArray):bE a P=bE b P:=by rw [bE,bE,MQ ha hb h]
theorem HS {a b:bP} (h:∀ k,cW a k=cW b k) (q:ByteArray×ByteArray×Nat→Bool) (hq:∀ k v n m,q (k,v,n)=q (k,v,m)) (ha:fI a):a.any q=true→b.any q=true:=by intro h1;obtain ⟨⟨k,v,n⟩,hp,h2⟩:=List.any_eq_true.1 h1;have e:=EF ha hp;rw [h] at e;obtain ⟨m,hm⟩:=EC e;exact List.any_eq_true.2 ⟨_,hm,by rw [hq k v m n];exact h2⟩
theorem MI {a b:bP} (ha:fI a) (hb:fI b) (h:∀ k,cW a k=cW b k) (q:ByteArray×ByteArray×Nat→Bool) (hq:∀ k v n m,q (k,v,n)=q (k,v,m)):a.any q=b.any q :=Bool.eq_iff_iff.2 ⟨HS h q hq ha,HS (fun k=>(h k).symm) q hq hb⟩
theorem H9 {a b:bP} (ha:fI a) (hb:fI b) (h:∀ k,cW a k=cW b k) (P:List ByteArray):bK a P=bK b P:=by rw [bK,bK,MI ha hb h (AQ P) (fun k v n m=>rfl),MI ha hb h bigV (fun k v n m=>rfl)]
def uM (W:List ByteArray):Nat→bP×Nat
 | 0=>([],0)
 | j+1=>(gY (uM W j).1 (W.getD (2*j) sNil) (W.getD (2*j+1) sNil) (uM W j).2,oL (uM W j).1 (W.getD (2*j) sNil) (uM W j).2)
theorem D8 (W:List ByteArray):∀ j,dT (uM W j).1 (uM W j).2∧fI (uM W j).1
 | 0=>⟨⟨List.Pairwise.nil,fun p hp=>(by cases hp)⟩,List.nodup_nil⟩
 | j+1=>⟨EG (D8 W j).1 _ _,EH (D8 W j).2 _ _ _⟩
theorem zO (k v:ByteArray) (c:Nat) (l:bP):l.length≤(gY l k v c).length∧(gY l k v c).length≤l.length+1:=by
 have h:=congrArg List.length (rB k v c l);rw [aAi] at h;rw [h]
 split
 ·rw [aAi];omega
 rw [aAj,aAi,List.length_singleton];omega
theorem D9 (W:List ByteArray):∀ j,(uM W j).1.length≤j
 | 0=>aAo _
 | j+1=>by
  have h1:=D9 W j;have h2:=(zO (W.getD (2*j) sNil) (W.getD (2*j+1) sNil) (uM W j).2 (uM W j).1).2;show (gY (uM W j).1 (W.getD (2*j) sNil) (W.getD (2*j+1) sNil) (uM W j).2).length≤_;omega
theorem EA (F R:List ByteArray):∀ j,2*j≤F.length→uM (F++R) j=uM F j
 | 0,_=>rfl
 | j+1,h=>by
  have h1:(F++R).getD (2*j) sNil=F.getD (2*j) sNil:=by rw [List.getD_eq_getElem?_getD,List.getD_eq_getElem?_getD,List.getElem?_append_left (by omega)]
  have h2:(F++R).getD (2*j+1) sNil=F.getD (2*j+1) sNil:=by rw [List.getD_eq_getElem?_getD,List.getD_eq_getElem?_getD,List.getElem?_append_left (by omega)]
  rw [uM,uM,EA F R j (by omega),h1,h2]
theorem CX (g:ByteArray→ByteArray):∀ (S:List ByteArray) (j:Nat) (s:ByteArray),S[j]?=some s→(S.flatMap fun x=>[x,g x])[2*j]?=some s∧(S.flatMap fun x=>[x,g x])[2*j+1]?=some (g s)
 | [],j,s,h=>by cases h
 | x::r,0,s,h=>by cases h;exact⟨rfl,rfl⟩
 | x::r,j+1,s,h=>CX g r j s h
theorem GI (g:ByteArray→ByteArray) {S:List ByteArray} (hn:S.Nodup):∀ j,j≤S.length→(uM (S.flatMap fun x=>[x,g x]) j).1.map Prod.fst=S.take j∧∀ k,cW (uM (S.flatMap fun x=>[x,g x]) j).1 k=if k∈S.take j then some (g k)else none
 | 0,_=>⟨rfl,fun k=>by rw [List.take_zero,aAg aAy];rfl⟩
 | j+1,h=>by
  obtain ⟨h1,h2⟩:=GI g hn j (by omega);obtain ⟨s,hs⟩:=aZ (l:=S) (k:=j) (by omega);obtain ⟨f1,f2⟩:=CX g S j s hs;have g1:(S.flatMap fun x=>[x,g x]).getD (2*j) sNil=s:=by rw [List.getD_eq_getElem?_getD,f1];rfl
  have g2:(S.flatMap fun x=>[x,g x]).getD (2*j+1) sNil=g s:=by rw [List.getD_eq_getElem?_getD,f2];rfl
  have ht:S.take (j+1)=S.take j++[s]:=dK hs;have hns:s∉S.take j:=fun hm=>by
   have hn2:(S.take (j+1)).Nodup:=hn.sublist (List.take_sublist _ _);rw [ht] at hn2;exact(List.nodup_append.1 hn2).2.2 s hm s (aAl.2 rfl) rfl
  rw [uM,g1,g2,ht];constructor
  ·rw [rB,h2 s,aAg hns,h1];rfl
  intro k;rw [yA,h2 k];by_cases e:s=k
  ·subst e;rw [aAh rfl,aAh (by simp)]
  rw [aAg e];by_cases hk:k∈S.take j
  ·rw [aAh hk,aAh (List.mem_append_left _ hk)]
  rw [aAg hk,aAg (fun hm=>by
   rcases List.mem_append.1 hm with h|h
   ·exact hk h
   rw [aAl] at h;exact e h.symm)]
theorem lS {l:bP} {k:ByteArray}:k∈cT l↔k∈l.map Prod.fst:=(sD _).mem_iff
theorem IC {l:bP} (h:fI l):BQ (cT l):=MW h
theorem NU {l:bP} (h:fI l) (R:List ByteArray):∀ k,cW (uM (((cT l).flatMap fun x=>[x,dJ l x])++R) l.length).1 k=cW l k:=by
 intro k;have hl:=iV l;rw [EA _ _ _ (by rw [gT,hl];omega)];obtain ⟨_,h2⟩:=GI (dJ l) (zV (IC h)) l.length (by omega);rw [h2,List.take_of_length_le (by omega)];by_cases hk:k∈cT l
 ·rw [aAh hk,mQ];cases e:cW l k with
  | some v=>rfl
  | none=>exact absurd (lS.1 hk) (gI.1 e)
 rw [aAg hk];exact(gI.2 (fun h=>hk (lS.2 h))).symm
abbrev A8 (t:List UInt8):List ByteArray:=(eF t).1
abbrev WB (t:List UInt8):Int:=dF ((A8 t).getD 0 sNil)
abbrev K6 (t:List UInt8):Nat:=(WB t).toNat
abbrev fK (t:List UInt8):bP×Nat:=uM ((A8 t).drop 1) (K6 t)
abbrev dI (t:List UInt8):List ByteArray:=(A8 t).drop (2*K6 t+2)
def sK (t:List UInt8):Bool:=!(eF t).2||decide ((A8 t).length=0)
def lC (t:List UInt8):Bool:=((gV ((A8 t).getD 0 sNil)||decide (WB t < 0))||decide ((((A8 t).length / 2:Nat):Int) < WB t))||decide (((A8 t).length:Int) < 2*WB t+2)
def sJ (t:List UInt8):Bool:=((((decide ((fK t).1.length+(dI t).length=0)||!decide (bK (fK t).1 (dI t)=0))||!decide (bE (fK t).1 (dI t)=aT [ofL t]))||!eV (dI t))||decide ((bZ (dI t)).length < (dI t).length))
def lB (t:List UInt8):Bool:=!sK t&&(!lC t&&!sJ t)
theorem kO (l:bP) (P:List ByteArray):cK l P=dN (l.length:Int)::(((cT l).flatMap fun x=>[x,dJ l x])++(dN (P.length:Int)::P)):=by rw [cK,wZ,List.take_length,bR,aAi,aAi,List.cons_append,List.cons_append,List.append_assoc];rfl
theorem oM:∀ {L:List ByteArray} {x:ByteArray},x∈L→x.size≤(aT L).length
 | [],x,h=>by cases h
 | y::L,x,h=>by
  rw [dU,aAj,aAk,aAj,dL];rcases aAu.1 h with rfl|h
  ·omega
  have:=oM h;omega
theorem K5 {l:bP} {P:List ByteArray} (hn:fI l) (hP:BQ P) (h0:0 < l.length+P.length) (hw:bK l P=0) (hsz:(aT (cK l P)).length < 1000000000000) :
  lB (aT (cK l P))=true∧(∀ k,cW (fK (aT (cK l P))).1 k=cW l k)∧dI (aT (cK l P))=P:=by
 have hsp:eF (aT (cK l P))=(cK l P,true):=rR fun x hx=>by have:=oM hx;omega
 have hlen:=qE (cK l P);have hparts:=kO l P;have hll:(cK l P).length=2*l.length+2+P.length:=by
  rw [hparts,aAk,aAj,gT,iV,aAk];omega
 have hD:(cK l P).getD 0 sNil=dN (l.length:Int):=by rw [hparts];rfl
 have hi:dN (l.length:Int)=ofL (decDigits l.length):=kJ (by rw [bC,lV]);obtain ⟨n1,n2⟩:=vE (l:=decDigits l.length) (u:=l.length) (dS (k:=18) (by omega) (by decide)) (oQ _) (fun b=>oO _) (mG _);have hL:A8 (aT (cK l P))=cK l P:=by rw [A8,hsp]
 have hV:WB (aT (cK l P))=(l.length:Int):=by rw [WB,hL,hD,hi,n2]
 have hN:K6 (aT (cK l P))=l.length:=by rw [K6,hV,aAt]
 have hput:∀ k,cW (fK (aT (cK l P))).1 k=cW l k:=by
  rw [fK,hL,hN,hparts,List.drop_succ_cons,List.drop_zero];exact NU hn _
 have hnd:fI (fK (aT (cK l P))).1:=(D8 _ _).2;have hdrop:dI (aT (cK l P))=P:=by
  rw [dI,hL,hN,show cK l P=(dN (l.length:Int)::(((cT l).flatMap fun x=>[x,dJ l x])++[dN (P.length:Int)]))++P by rw [hparts];simp];exact List.drop_left' (by rw [aAk,aAj,gT,iV];rfl)
 refine⟨?_,hput,hdrop⟩;have b1:sK (aT (cK l P))=false:=by
  rw [sK,hL,hsp,hll,decide_eq_false (by omega)];rfl
 have b2:lC (aT (cK l P))=false:=by
  rw [lC,hV,hL,hD,hi,n1,hll,decide_eq_false (by omega),decide_eq_false (by omega),decide_eq_false (by omega)];rfl
 have b3:sJ (aT (cK l P))=false:=by
  rw [sJ,hdrop,H9 hnd hn hput,hw,B3 hnd hn hput,ED hnd hn hput,yN (VA hP),CV (zV hP),decide_eq_false (by omega),decide_eq_true rfl,show bE l P=aT [ofL (aT (cK l P))] from rfl,decide_eq_true rfl,decide_eq_false (by omega)];rfl
 rw [lB,b1,b2,b3];rfl
theorem qF (n:Nat) (h:n < 1000000000000000000):(dN (n:Int)).size≤21:=sR (by omega) (by omega)
theorem xC {M:Nat} (hM:M < 1000000000000000000):∀ (L:List ByteArray),(∀ s∈L,s.size≤M)→(aT L).length≤L.length*(M+22)
 | [],_=>aAz _
 | s::r,h=>by
  have ih:=xC hM r (fun x hx=>h x (List.mem_cons_of_mem _ hx));have hs:=h s List.mem_cons_self;have hd:=dS (k:=18) (u:=s.size) (by omega) (by decide);rw [dU,aAj,aAk,aAj,dL,aAk,Nat.add_mul];omega
theorem yL:∀ (n:Nat) (t:List UInt8) (acc:List ByteArray) (x:ByteArray),x∈(fD n t acc).1→x∈acc∨x.size≤t.length
 | 0,t,acc,x,h=>.inl h
 | n+1,t,acc,x,h=>by
  have hcl:=(J8 t).2;rw [fD] at h
  split at h
  ·exact .inl h
  split at h
  ·cases h
  rcases yL n _ _ x h with h|h
  ·rcases List.mem_append.1 h with h|h
   ·exact .inl h
   rw [aAl.1 h,bU,aAw];exact .inr (by omega)
  rw [aAx] at h;exact .inr (by omega)
theorem DS {t:List UInt8} {x:ByteArray} (h:x∈A8 t):x.size≤t.length:=by
 rcases yL _ _ _ _ h with h|h
 ·cases h
 exact h
theorem GO {k v:ByteArray} {c:Nat} {p:ByteArray×ByteArray×Nat}:∀ {l:bP},p∈gY l k v c→p∈l∨(p.1=k∧p.2.1=v)
 | [],h=>by
  rw [aAl.1 h];exact .inr ⟨rfl,rfl⟩
 | (k',a,n)::r,h=>by
  rw [gY] at h
  split at h
  ·rcases aAu.1 h with h|h
   ·rw [h];exact .inr ⟨rfl,rfl⟩
   exact .inl (List.mem_cons_of_mem _ h)
  rcases aAu.1 h with h|h
  ·rw [h];exact .inl List.mem_cons_self
  rcases GO h with h|h
  ·exact .inl (List.mem_cons_of_mem _ h)
  exact .inr h
theorem CS {W:List ByteArray} {M:Nat} (h:∀ x∈W,x.size≤M) (i:Nat):(W.getD i sNil).size≤M:=by
 rw [List.getD_eq_getElem?_getD];cases e:W[i]? with
 | none=>exact aAz _
 | some x=>exact h x (aAs e)
theorem LK {W:List ByteArray} {M:Nat} (h:∀ x∈W,x.size≤M):∀ (j:Nat) (p:ByteArray×ByteArray×Nat),p∈(uM W j).1→p.1.size≤M∧p.2.1.size≤M
 | 0,p,hp=>by cases hp
 | j+1,p,hp=>by
  rcases GO hp with h1|⟨h1,h2⟩
  ·exact LK h j p h1
  rw [h1,h2];exact⟨CS h _,CS h _⟩
theorem sP {M:Nat} (k:ByteArray):∀ {l:bP},(∀ p∈l,p.2.1.size≤M)→(dJ l k).size≤M
 | [],_=>aAz _
 | (k',a,n)::r,h=>by
  rw [dJ]
  split
  ·exact h _ List.mem_cons_self
  exact sP k fun p hp=>h p (List.mem_cons_of_mem _ hp)
theorem B2 (l:bP) (P:List ByteArray):(cK l P).length=2*l.length+2+P.length:=by rw [kO,aAk,aAj,gT,iV,aAk];omega
theorem mN {l:bP} {P:List ByteArray} {M:Nat} (h21:21≤M) (hM:M < 1000000000) (hl:∀ p∈l,p.1.size≤M∧p.2.1.size≤M) (hP:∀ s∈P,s.size≤M) (hn:2*l.length+2+P.length < 1000000000) :
  (bE l P).length≤(2*l.length+2+P.length)*(M+22)+22:=by
 have h1:(aT (cK l P)).length≤(cK l P).length*(M+22):=by
  refine xC (by omega) _ fun s hs=>?_;rw [kO] at hs;rcases aAu.1 hs with rfl|hs
  ·have:=qF l.length (by omega);omega
  rcases List.mem_append.1 hs with hs|hs
  ·obtain ⟨x,hx,hs⟩:=List.mem_flatMap.1 hs;simp only [aAu,aAy,or_false] at hs;rcases hs with rfl|rfl
   ·obtain ⟨p,hp,rfl⟩:=List.mem_map.1 (lS.1 hx);exact(hl p hp).1
   exact sP x fun p hp=>(hl p hp).2
  rcases aAu.1 hs with rfl|hs
  ·have:=qF P.length (by omega);omega
  exact hP s hs
 rw [B2] at h1;have hb:(2*l.length+2+P.length)*(M+22)≤1000000000*1000000022:=Nat.mul_le_mul (by omega) (by omega);have hd:=dS (k:=19) (u:=(aT (cK l P)).length) (by omega) (by decide);rw [bE,dU,aAj,aAk,aAj,bC,bU];have h0:(aT []).length=0:=rfl;omega
theorem QK {t:List UInt8} (ht:t.length < 1000000) (hb:lC t=false):(bE (fK t).1 (dI t)).length < 35184372088832∧(fK t).1.length≤t.length∧(dI t).length≤t.length:=by
 have h1:=D9 ((A8 t).drop 1) (K6 t);have hlen:(A8 t).length≤t.length:=by
  have go:∀ (n:Nat) (u:List UInt8) (acc:List ByteArray),(fD n u acc).1.length≤acc.length+n:=by
   intro n
   induction n with
   | zero=>intro u acc;exact Nat.le_add_right _ _
   | succ n ih =>
    intro u acc;rw [fD]
    split
    ·exact Nat.le_add_right _ _
    split
    ·exact aAz _
    have:=ih ((xH u).drop (L5 u)) (acc++[ofL ((xH u).take (L5 u))]);rw [aAj,List.length_singleton] at this;omega
  have:=go t.length t [];rw [List.length_nil,aBA] at this;exact this
 rw [lC] at hb;simp only [aBE,aAq] at hb;have h2:K6 t≤(A8 t).length / 2:=by
  have h3:=hb.1.2;have h4:=hb.1.1.2;rw [K6];omega
 have h5:(fK t).1.length≤t.length:=by
  show (uM ((A8 t).drop 1) (K6 t)).1.length≤_;omega
 have h6:(dI t).length≤t.length:=by
  rw [dI,aAx];omega
 refine⟨?_,h5,h6⟩;have h7:=mN (l:=(fK t).1) (P:=dI t) (M:=1000000) (by decide) (by decide) (fun p hp=>by
  have:=LK (W:=(A8 t).drop 1) (M:=t.length) (fun x hx=>DS (List.mem_of_mem_drop hx)) _ p hp;omega) (fun s hs=>by have:=DS (List.mem_of_mem_drop hs);omega) (by omega)
 have h8:(2*(fK t).1.length+2+(dI t).length)*(1000000+22)≤3000002*1000022:=Nat.mul_le_mul (by omega) (by omega);omega
structure Calm (d:DSt) (n:Nat):Prop where
 inv:DInv d n 0
 off:d.off=false
 na:∀ a w b,d.arm≠.on a w b
theorem Calm.q {d:DSt} {n:Nat} (h:Calm d n):d.q=[]:=List.length_eq_zero_iff.1 (Nat.le_zero.1 h.inv.q)
theorem qO {n:Nat} (h1:1≤n) (h2:n≤8000):Calm (nC n) n:=⟨U8 h1 h2,rfl,fun a w b h=>by cases h⟩
theorem C4 {s:DSt} (h:∀ a w b,s.arm≠.on a w b):dR s=s∧eQ s=0:=by
 unfold dR eQ;cases e:s.arm with
 | on a w b=>exact absurd e (h a w b)
 | never=>exact⟨rfl,rfl⟩
 | off a w b=>exact⟨rfl,rfl⟩
def lJ (cells:List ByteArray) (p:Nat):List ByteArray→List ByteArray
 | []=>cells
 | t::r=>lJ (cells.set p t) (p+1) r
def tO (p:Nat):List ByteArray→List (Nat×ByteArray)
 | []=>[]
 | t::r=>(p,t)::tO (p+1) r
theorem DT:∀ (A B:List ByteArray) (p:Nat),tO p (A++B)=tO p A++tO (p+A.length) B
 | [],B,p=>rfl
 | t::A,B,p=>by
  rw [List.cons_append,tO,tO,DT A B (p+1),List.cons_append,aAk,Nat.add_assoc p 1,Nat.add_comm 1 A.length]
theorem xU:∀ (L cells:List ByteArray) (p:Nat),cS cells (tO p L)=lJ cells p L
 | [],_,_=>rfl
 | t::r,cells,p=>xU r (cells.set p t) (p+1)
theorem kS:∀ (L cells:List ByteArray) (p:Nat),(lJ cells p L).length=cells.length
 | [],_,_=>rfl
 | t::r,cells,p=>(kS r (cells.set p t) (p+1)).trans List.length_set
theorem jF:∀ (L cells:List ByteArray) (p j:Nat),(lJ cells p L)[j]?=if p≤j∧j < p+L.length∧j < cells.length then L[j - p]? else cells[j]?
 | [],cells,p,j=>by rw [lJ,aAg (by rw [List.length_nil];omega)]
 | t::r,cells,p,j=>by
  rw [lJ,jF r (cells.set p t) (p+1) j,List.length_set,aAk];by_cases h:p≤j∧j < p+(r.length+1)∧j < cells.length
  ·rw [aAh h];by_cases e:p=j
   ·subst e;rw [aAg (by omega),List.getElem?_set_self h.2.2,Nat.sub_self];rfl
   rw [aAh (by omega),show j - p=(j - (p+1))+1 by omega,List.getElem?_cons_succ]
  rw [aAg h,aAg (by omega)];by_cases e:p=j
  ·subst e;have hl:cells.length≤p:=by omega
   rw [List.getElem?_eq_none (by rw [List.length_set];exact hl),List.getElem?_eq_none hl]
  rw [List.getElem?_set_ne e]
theorem FM {d:DSt} {n:Nat} (h:Calm d n) {place:Nat} {L:List ByteArray} (hp:place+L.length≤n) (hs:∀ t∈L,t.size=64):∀ i,i≤L.length→oC d place L i=(0,{d with q:=tO place (L.take i),gq:=d.gq+i})
 | 0,_=>by
  rw [oC,List.take_zero,tO,← h.q];rfl
 | i+1,hi=>by
  obtain ⟨t,ht⟩:=aZ (l:=L) (k:=i) (by omega);have hz:=hs t (aAs ht);have hD:L.getD i sNil=t:=by rw [List.getD_eq_getElem?_getD,ht];rfl
  have hq:tO place (L.take (i+1))=tO place (L.take i)++[(place+i,t)]:=by
   rw [dK ht,DT,aAw,Nat.min_eq_left (by omega)];rfl
  obtain ⟨s,hS⟩:∃ s,s=({d with q:=tO place (L.take i),gq:=d.gq+i}:DSt):=⟨_,rfl⟩;have so:s.off=false:=by rw [hS];exact h.off
  have sc:eX s ((place+i:Nat):Int)=true:=by
   rw [gM,hS];exact decide_eq_true (by have:=h.inv.n;show place+i < d.cells.length;omega)
  obtain ⟨c1,c2⟩:=C4 (s:=jV s (place+i) t) (by rw [hS];exact h.na);rw [oC,FM h hp hs i (by omega),aAh rfl,hD,hq,← hS];have w1:iI s ((place+i:Nat):Int) t=0:=by rw [iI,so,aAg (by decide),sc,decide_eq_true hz,aAh (show (true&&true)=true from rfl),aAt,c2]
  have w2:jL s ((place+i:Nat):Int) t=jV s (place+i) t:=by rw [jL,so,aAg (by decide),sc,decide_eq_true hz,aAh (show (true&&true)=true from rfl),aAt,c1]
  rw [w1,w2,hS];rfl
theorem PX {d:DSt} {n:Nat} (h:Calm d n) {place:Nat} {L:List ByteArray} (hp:place+L.length≤n) (hs:∀ t∈L,t.size=64):iK d place L=(0,{d with cells:=lJ d.cells place L,q:=[],gq:=d.gq+L.length+1}):=by
 have hk:=FM h hp hs L.length (aAo _);rw [List.take_length] at hk;obtain ⟨s,hS⟩:∃ s,s=({d with q:=tO place L,gq:=d.gq+L.length}:DSt):=⟨_,rfl⟩;have so:s.off=false:=by rw [hS];exact h.off
 obtain ⟨c1,c2⟩:=C4 (s:=s) (by rw [hS];exact h.na);rw [← hS] at hk;have w1:nB s=0:=by rw [nB,so,aAg (by decide),c2]
 have w2:jM s=wJ s:=by rw [jM,so,aAg (by decide),c2,aAh rfl,c1]
 rw [iK,hk,aAh rfl,w1,w2,wJ,hS];show (0,({d with cells:=cS d.cells (tO place L),q:=[],gq:=d.gq+L.length+1}:DSt))=_;rw [xU]
theorem lO {d:DSt} {n:Nat} (h:Calm d n) {place:Nat} {L:List ByteArray} (hp:place+L.length≤n) (hs:∀ t∈L,t.size=64) (hm:L.length≤1048576):(iK d place L).1=0∧Calm (iK d place L).2 n∧(iK d place L).2.cells=lJ d.cells place L:=by have hi:=lI h.inv place L (by omega);rw [PX h hp hs] at hi ⊢;exact⟨rfl,⟨⟨hi.ok,hi.arm,hi.n,aAz _⟩,h.off,h.na⟩,rfl⟩
theorem eL {d:DSt} {n:Nat} (h:Calm d n) (i:Nat):bM d i=(d.cells[i]?).getD ⟨#[]⟩:=by rw [bM,h.q];rfl
theorem EM (place:Nat) {a n:Nat} (ha:a < 10) (hn:n < 10000000):(hS place a n).size=64:=by rw [bU,CQ,B8];rw [aAj,lF (pA a (by omega) (by omega)),lF (pA n (by omega) (by omega))];omega
theorem I4 (place:Nat) {p:List UInt8} (h:p.length≤46):(eR place p).length=64:=by rw [eR,B8];rw [aAj,lF (pA _ (by omega) (by omega))];omega
theorem M2 (fr:Nat) (t:List UInt8) (i:Nat):∀ x∈jY fr t i,x.size=64:=fun x hx=>by
 obtain ⟨j,hj,rfl⟩:=List.mem_map.1 hx;rw [bU,I4 _ (by rw [nS];omega)]
theorem tW {fr:Nat} {t:List UInt8} {i j:Nat} (h:j < i):(jY fr t i)[j]?=some (ofL (eR (fr+j) (fM t j))):=by rw [jY,aBC,List.getElem?_range h];rfl
theorem SK {d:DSt} {n:Nat} (h:Calm d n) (hn:2≤n) {a cn:Nat} (ha:a < 10) (hc:cn < 10000000):(xM d a cn).1=0∧Calm (xM d a cn).2 n∧(xM d a cn).2.cells=(d.cells.set 1 (hS 1 a cn)).set 0 (hS 0 a cn):=by obtain ⟨a1,a2,a3⟩:=lO h (place:=1) (L:=[hS 1 a cn]) (by rw [List.length_singleton];omega) (fun t ht=>by rw [aAl.1 ht];exact EM _ ha hc) (by rw [List.length_singleton];omega);obtain ⟨b1,b2,b3⟩:=lO a2 (place:=0) (L:=[hS 0 a cn]) (by rw [List.length_singleton];omega) (fun t ht=>by rw [aAl.1 ht];exact EM _ ha hc) (by rw [List.length_singleton];omega);rw [xM,aAh a1];exact⟨b1,b2,by rw [b3,a3];rfl⟩
theorem oA {d:DSt} {n:Nat} (h:Calm d n) {k a cn:Nat} {t:List UInt8} (hk:2*k+2≤n) (hn:n≤8000) (ha:a < 2) (hc:cn+cZ t≤k) :
  (jR d k a cn t).1=0∧Calm (jR d k a cn t).2 n∧(jR d k a cn t).2.cells=((lJ d.cells (2+a*k+cn) (jY (2+a*k+cn) t (cZ t))).set 1 (hS 1 a (cn+cZ t))).set 0 (hS 0 a (cn+cZ t)):=by
 have hak:a*k≤k:=by
  rcases(show a=0∨a=1 by omega)with e|e<;>subst e<;>omega
 obtain ⟨a1,a2,a3⟩:=lO h (place:=2+a*k+cn) (L:=jY (2+a*k+cn) t (cZ t)) (by rw [dG];omega) (M2 _ _ _) (by rw [dG];omega);obtain ⟨b1,b2,b3⟩:=SK a2 (a:=a) (cn:=cn+cZ t) (by omega) (by omega) (by omega);rw [jR,aAh a1];exact⟨b1,b2,by rw [b3,a3]⟩
abbrev CT:=ByteArray→Option ByteArray
def rN (C:CT) (l:bP) (D:List ByteArray):CT:=fun x=>if x∈D then none else(cW l x).orElse fun _=>C x
def XO (C:CT) (t:List UInt8):CT:=rN C (fK t).1 (dI t)
def pB (T:List (List UInt8)):CT:=T.foldl XO (fun _=>none)
theorem tE (T:List (List UInt8)) (t:List UInt8):pB (T++[t])=XO (pB T) t:=by rw [pB,List.foldl_append];rfl
theorem SB {C:CT} {l:bP} {D:List ByteArray} {x v:ByteArray} (h:rN C l D x=some v):cW l x=some v∨C x=some v:=by
 rw [rN] at h
 split at h
 ·cases h
 cases e:cW l x with
 | none=>rw [e] at h;exact .inr h
 | some u=>rw [e] at h;exact .inl h
theorem MC (T:List (List UInt8)) {x v:ByteArray}:pB T x=some v→∃ t∈T,cW (fK t).1 x=some v:=by
 have go:∀ (n:Nat) (T:List (List UInt8)),T.length=n→pB T x=some v→∃ t∈T,cW (fK t).1 x=some v:=by
  intro n
  induction n with
  | zero =>
   intro T hT h;rw [List.length_eq_zero_iff.1 hT] at h;cases h
  | succ n ih =>
   intro T hT h;have hne:T≠[]:=fun e=>by rw [e] at hT;cases hT
   have e:T=T.dropLast++[T.getLast hne]:=(List.dropLast_concat_getLast hne).symm;rw [e,tE] at h;rcases SB h with h|h
   ·exact⟨_,List.getLast_mem hne,h⟩
   obtain ⟨t,ht,h2⟩:=ih T.dropLast (by rw [List.length_dropLast];omega) h;exact⟨t,List.dropLast_subset T ht,h2⟩
 exact go T.length T rfl
theorem yU {t:List UInt8} (h:lB t=true):(eF t).2=true∧lC t=false∧0 < (fK t).1.length+(dI t).length∧bK (fK t).1 (dI t)=0:=by rw [lB] at h;simp only [aAr,Bool.not_eq_true'] at h;obtain ⟨h1,h2,h3⟩:=h;rw [sK,aBE] at h1;rw [sJ] at h3;simp only [aBE,aAq,Bool.not_eq_false',aAp] at h3;refine⟨by simpa using h1.1,h2,by have:=h3.1.1.1.1;omega,h3.1.1.1.2⟩
theorem oD {l:bP} {D:List ByteArray} (h:bK l D=0):(∀ p∈l,eT p.1=true∧p.1∉D∧p.2.1.size≤20000)∧∀ s∈D,eT s=true:=by
 rw [bK] at h
 split at h
 ·cases h
 next h1 =>
 split at h
 ·cases h
 next h2 =>
 rw [Bool.not_eq_true,aBE] at h1;constructor
 ·intro p hp;have a1:=List.any_eq_false.1 h1.1 p hp;have a2:=List.any_eq_false.1 (Bool.not_eq_true _▸h2) p hp;rw [AQ] at a1;rw [bigV] at a2;simp only [Bool.not_eq_true,aBE,Bool.not_eq_false',aAq] at a1 a2;refine⟨a1.1,fun hm=>?_,by omega⟩;rw [jJ.2 hm] at a1;cases a1.2
 intro s hs;have a1:=List.any_eq_false.1 h1.2 s hs
 simpa using a1
theorem zP {l:bP} {D:List ByteArray} (h1:∀ p∈l,eT p.1=true∧p.1∉D∧p.2.1.size≤20000) (h2:∀ s∈D,eT s=true):bK l D=0:=by
 have a1:l.any (AQ D)=false:=List.any_eq_false.2 fun p hp=>by
  have:=h1 p hp;rw [AQ,this.1,Bool.not_true,Bool.false_or];exact fun e=>this.2.1 (jJ.1 e)
 have a2:D.any (fun s=>!eT s)=false:=List.any_eq_false.2 fun s hs=>by rw [h2 s hs];decide
 have a3:l.any bigV=false:=List.any_eq_false.2 fun p hp=>by
  have:=(h1 p hp).2.2;rw [bigV];simp only [aAp];omega
 rw [bK,a1,a2,a3];rfl
theorem Y2 {T:List (List UInt8)} (hT:∀ t∈T,lB t=true) {x v:ByteArray} (h:pB T x=some v):eT x=true∧v.size≤20000:=by obtain ⟨t,ht,h2⟩:=MC T h;obtain ⟨n,hn⟩:=EC h2;have:=(oD (yU (hT t ht)).2.2.2).1 _ hn;exact⟨this.1,this.2.2⟩
theorem SA {T:List (List UInt8)} (hT:∀ t∈T,lB t=true) {l:bP} (hn:fI l) (hl:∀ x,cW l x=pB T x):bK l []=0 :=zP (fun⟨x,v,n⟩ hp=>by
  have:=Y2 hT ((hl x).symm.trans (EF hn hp));exact⟨this.1,aAy,this.2⟩) (fun s hs=>by cases hs)
theorem Q6 {α:Type} [DecidableEq α]:∀ {l m:List α},l.Nodup→(∀ x,x∈l→x∈m)→l.length≤m.length
 | [],m,_,_=>aAz _
 | a::l,m,hn,h=>by
  have hn2:=List.nodup_cons.1 hn;have hm:a∈m:=h a List.mem_cons_self;have h2:=Q6 (l:=l) (m:=m.erase a) hn2.2 (fun x hx=>(List.mem_erase_of_ne (fun e=>by subst e;exact hn2.1 hx)).2 (h x (List.mem_cons_of_mem _ hx)));rw [List.length_erase_of_mem hm] at h2;have:=List.length_pos_of_mem hm;rw [aAk];omega
theorem sA:∀ (n:Nat) (t:List UInt8) (acc:List ByteArray),(fD n t acc).1.length≤acc.length+n
 | 0,t,acc=>Nat.le_add_right _ _
 | n+1,t,acc=>by
  rw [fD]
  split
  ·exact Nat.le_add_right _ _
  split
  ·exact aAz _
  have:=sA n ((xH t).drop (L5 t)) (acc++[ofL ((xH t).take (L5 t))]);rw [aAj,List.length_singleton] at this;omega
theorem K7 (t:List UInt8):(A8 t).length≤t.length:=by have:=sA t.length t [];rw [List.length_nil,aBA] at this;exact this
theorem M7 {t:List UInt8} (h:lC t=false):(fK t).1.length≤t.length:=by
 have h1:=D9 ((A8 t).drop 1) (K6 t);have h2:=K7 t;rw [lC] at h;simp only [aBE,aAq] at h;have h3:=h.1.2;have h4:=h.1.1.2;have:K6 t≤(A8 t).length / 2:=by rw [K6];omega
 show (uM ((A8 t).drop 1) (K6 t)).1.length≤_;omega
theorem XN {T:List (List UInt8)} (hT:∀ t∈T,lB t=true) {l:bP} (hn:fI l) (hl:∀ x,cW l x=pB T x):l.length≤(aT (T.map ofL)).length:=by
 have h1:(l.map Prod.fst).length≤(T.flatMap fun t=>(fK t).1.map Prod.fst).length:=Q6 hn (fun x hx=>by
  cases e:cW l x with
  | none=>exact absurd hx (gI.1 e)
  | some v =>
   rw [hl] at e;obtain ⟨t,ht,h2⟩:=MC T e;obtain ⟨n,h3⟩:=EC h2;exact List.mem_flatMap.2 ⟨t,ht,List.mem_map.2 ⟨_,h3,rfl⟩⟩)
 rw [aAi] at h1;refine Nat.le_trans h1 ?_;clear h1 hl hn
 induction T with
 | nil=>exact aAz _
 | cons t T ih =>
  have:=ih (fun t ht=>hT t (List.mem_cons_of_mem _ ht));have h2:=M7 (yU (hT t List.mem_cons_self)).2.1;rw [List.flatMap_cons,aAj,aAi,List.map_cons,dU,aAj,aAk,aAj,bC];omega
structure LogAt (cells:List ByteArray) (fr:Nat) (Q:List (List UInt8)):Prop where
 p:∀ q∈Q,1≤q.length∧q.length≤46
 at':∀ i q,Q[i]?=some q→cells[fr+i]?=some (ofL (eR (fr+i) q))
structure SInv (cells:List ByteArray) (k a n:Nat) (C:CT):Prop where
 k1:1≤k
 kn:2*k+2≤cells.length∧cells.length≤2*k+3
 a2:a < 2
 nk:n≤k
 hd:(cells[1]?=some (hS 1 a n)∧cells[0]?=some (hS 0 a n))∨(cells[1]?=some zS∧cells[0]?=some zS∧a=0∧n=0)
 lg:∃ (Q T:List (List UInt8)),Q.length=n∧LogAt cells (2+a*k) Q∧Q.flatten=aT (T.map ofL)∧(∀ t∈T,lB t=true)∧C=pB T
theorem sW:∀ {Q:List (List UInt8)},(∀ q∈Q,1≤q.length∧q.length≤46)→Q.flatten.length≤46*Q.length
 | [],_=>aAo _
 | q::Q,h=>by
  have:=sW (Q:=Q) (fun q hq=>h q (List.mem_cons_of_mem _ hq));have:=(h q List.mem_cons_self).2;rw [List.flatten_cons,aAj,aAk];omega
theorem SInv.len {cells:List ByteArray} {k a n:Nat} {C:CT} (h:SInv cells k a n C) {l:bP} (hn:fI l) (hl:∀ x,cW l x=C x):l.length≤46*n:=by obtain ⟨Q,T,h1,h2,h3,h4,h5⟩:=h.lg;have:=XN h4 hn (fun x=>by rw [hl,h5]);have:=sW h2.p;rw [h3] at this;omega
theorem SInv.wrong {cells:List ByteArray} {k a n:Nat} {C:CT} (h:SInv cells k a n C) {l:bP} (hn:fI l) (hl:∀ x,cW l x=C x):bK l []=0:=by obtain ⟨Q,T,h1,h2,h3,h4,h5⟩:=h.lg;exact SA h4 hn (fun x=>by rw [hl,h5])
theorem nM {k place:Nat}:jS k place zS=false:=by
 have h:gV (zS.extract 16 24)=true:=by
  have e:(zS.extract 16 24).data.toList=[0,0,0,0,0,0,0,0]:=by
   rw [fB,bC];rfl
  rw [gV,e];rfl
 have hb:mB zS=true:=by rw [mB,h];rfl
 rw [jS,hb];rfl
theorem tV {n:Nat} (h1:4≤n):SInv (nC n).cells ((n - 2) / 2) 0 0 (fun _=>none):=by
 have hl:(nC n).cells.length=n:=by rw [nC,List.length_replicate]
 have hz:∀ i,i < n→(nC n).cells[i]?=some zS:=fun i hi=>by
  show (List.replicate n z64)[i]?=_;rw [List.getElem?_replicate,aAh hi];rfl
 refine⟨by omega,by omega,by omega,by omega,.inr ⟨hz 1 (by omega),hz 0 (by omega),rfl,rfl⟩,[],[],rfl,⟨fun q hq=>(by cases hq),fun i q hq=>(by cases hq)⟩,rfl,fun t ht=>(by cases ht),rfl⟩
theorem QE {cells:List ByteArray} {k a n:Nat} {C:CT} (h:SInv cells k a n C) {l:bP} {D:List ByteArray} (hn:fI l) (hD:BQ D) (h0:0 < l.length+D.length) (hw:bK l D=0) (hc:n+cZ (bE l D)≤k) (hk:k < 5000) :
  SInv (((lJ cells (2+a*k+n) (jY (2+a*k+n) (bE l D) (cZ (bE l D)))).set 1 (hS 1 a (n+cZ (bE l D)))).set 0 (hS 0 a (n+cZ (bE l D)))) k a (n+cZ (bE l D)) (rN C l D):=by
 obtain ⟨Q,T,h1,h2,h3,h4,h5⟩:=h.lg;have hin:=tR (l:=l) (P:=D) (N:=1000000) (by have:=hc;rw [cZ] at this;omega);obtain ⟨r1,r2,r3⟩:=K5 hn hD h0 hw (by omega);obtain ⟨t,ht⟩:∃ t,t=bE l D:=⟨_,rfl⟩;have htj:t=aT [ofL (aT (cK l D))]:=ht;rw [← ht] at hc ⊢;have hak:a*k≤k:=by
  have:=h.a2;rcases(show a=0∨a=1 by omega)with e|e<;>subst e<;>omega
 have hlen:=h.kn;refine⟨h.k1,by rw [List.length_set,List.length_set,kS];exact h.kn,h.a2,hc,.inl ⟨?_,?_⟩,Q++(List.range (cZ t)).map (fM t),T++[aT (cK l D)],?_,⟨?_,?_⟩,?_,?_,?_⟩
 ·rw [List.getElem?_set_ne (by omega),List.getElem?_set_self (by rw [kS];omega)]
 ·rw [List.getElem?_set_self (by rw [List.length_set,kS];omega)]
 ·rw [aAj,aAi,List.length_range,h1]
 ·intro q hq;rcases List.mem_append.1 hq with hq|hq
  ·exact h2.p q hq
  obtain ⟨i,hi,rfl⟩:=List.mem_map.1 hq;exact GD (List.mem_range.1 hi)
 ·intro i q hq;rw [List.getElem?_set_ne (by omega),List.getElem?_set_ne (by omega),jF,dG];by_cases hi:i < n
  ·rw [List.getElem?_append_left (by omega)] at hq;rw [aAg (by omega)];exact h2.at' i q hq
  rw [List.getElem?_append_right (by omega),h1,aBC] at hq;have hi2:i - n < cZ t:=by
   by_cases e:i - n < cZ t
   ·exact e
   rw [List.getElem?_eq_none (by rw [List.length_range];omega)] at hq;cases hq
  rw [List.getElem?_range hi2] at hq;cases hq;rw [aAh (by omega),show 2+a*k+i - (2+a*k+n)=i - n by omega,tW hi2,show 2+a*k+n+(i - n)=2+a*k+i by omega]
 ·rw [List.flatten_append,LF,h3,htj,List.map_append,GQ];rfl
 ·intro u hu;rcases List.mem_append.1 hu with hu|hu
  ·exact h4 u hu
  rw [aAl.1 hu];exact r1
 rw [tE,← h5,XO,r3];funext x;rw [rN,rN,r2]
def gX (l:bP):List ByteArray:=(cT l).flatMap fun k=>[k,dJ l k]
theorem JQ {a b:bP} (ha:fI a) (hb:fI b) (h:∀ k,cW a k=cW b k):gX a=gX b:=by
 have hg:(fun x=>[x,dJ a x])=fun x=>[x,dJ b x]:=by
  funext x;rw [mQ,mQ,h]
 rw [gX,gX,vT ha hb h,hg]
theorem zN (l:bP):(gX l).length=2*l.length:=by rw [gX,gT,iV]
def mA (s:bP×Nat) (ps:List (ByteArray×ByteArray)):bP×Nat:=ps.foldl (fun s p=>(gY s.1 p.1 p.2 s.2,oL s.1 p.1 s.2)) s
theorem IW (s:bP×Nat) (ps:List (ByteArray×ByteArray)) (p:ByteArray×ByteArray):mA s (ps++[p])=(gY (mA s ps).1 p.1 p.2 (mA s ps).2,oL (mA s ps).1 p.1 (mA s ps).2):=by rw [mA,mA,List.foldl_append];rfl
theorem F7:∀ (ps:List (ByteArray×ByteArray)) (s:bP×Nat),dT s.1 s.2→fI s.1→dT (mA s ps).1 (mA s ps).2∧fI (mA s ps).1
 | [],s,h1,h2=>⟨h1,h2⟩
 | p::r,s,h1,h2=>F7 r _ (EG h1 p.1 p.2) (EH h2 p.1 p.2 s.2)
theorem CE:∀ (ps:List (ByteArray×ByteArray)) (s:bP×Nat),(mA s ps).1.length≤s.1.length+ps.length
 | [],s=>aAo _
 | p::r,s=>by
  have h1:=CE r (gY s.1 p.1 p.2 s.2,oL s.1 p.1 s.2);have h2:=(zO p.1 p.2 s.2 s.1).2;rw [aAk];show (mA (gY s.1 p.1 p.2 s.2,oL s.1 p.1 s.2) r).1.length≤_;have h3:(gY s.1 p.1 p.2 s.2,oL s.1 p.1 s.2).1.length=(gY s.1 p.1 p.2 s.2).length:=rfl;omega
def rU:List (ByteArray×ByteArray)→ByteArray→Option ByteArray
 | [],_=>none
 | p::r,k=>(rU r k).orElse fun _=>if p.1=k then some p.2 else none
theorem LB (k:ByteArray):∀ (ps:List (ByteArray×ByteArray)) (s:bP×Nat),cW (mA s ps).1 k=(rU ps k).orElse fun _=>cW s.1 k
 | [],s=>rfl
 | p::r,s=>by
  have h:=LB k r (gY s.1 p.1 p.2 s.2,oL s.1 p.1 s.2);show cW (mA (gY s.1 p.1 p.2 s.2,oL s.1 p.1 s.2) r).1 k=_;rw [h,yA,rU];cases rU r k with
  | some v=>rfl
  | none =>
   show (if p.1=k then some p.2 else cW s.1 k)=((if p.1=k then some p.2 else none).orElse fun _=>cW s.1 k)
   split<;>rfl
abbrev eG (ps:List (ByteArray×ByteArray)):bP×Nat:=mA ([],0) ps
theorem JN (ps:List (ByteArray×ByteArray)) (k:ByteArray):cW (eG ps).1 k=rU ps k:=by rw [eG,LB];show ((rU ps k).orElse fun _=>none)=_;cases rU ps k<;>rfl
theorem JJ:dT ([]:bP) 0:=⟨List.Pairwise.nil,fun p hp=>(by cases hp)⟩
theorem zI:fI ([]:bP):=List.nodup_nil
theorem gS (ps:List (ByteArray×ByteArray)):dT (eG ps).1 (eG ps).2∧fI (eG ps).1:=F7 ps _ JJ zI
theorem qB {ps:List (ByteArray×ByteArray)} {p:ByteArray×ByteArray×Nat} (h:p∈(eG ps).1):(p.1,p.2.1)∈ps:=by
 obtain ⟨k,v,n⟩:=p;have e:=EF (gS ps).2 h;rw [JN] at e;have go:∀ ps:List (ByteArray×ByteArray),rU ps k=some v→(k,v)∈ps:=by
  intro ps
  induction ps with
  | nil=>intro h;cases h
  | cons q r ih =>
   intro h;rw [rU] at h;cases e:rU r k with
   | some u =>
    rw [e] at h;cases h;exact List.mem_cons_of_mem _ (ih e)
   | none =>
    rw [e] at h;by_cases e2:q.1=k
    ·have h:(if q.1=k then some q.2 else none)=some v:=h;rw [aAh e2] at h;cases h;rw [← e2];exact List.mem_cons_self
    have h:(if q.1=k then some q.2 else none)=some v:=h;rw [aAg e2] at h;cases h
 exact go ps e
end Go.Proofs.YtmkgeogoojcciaaGreatDoor
namespace Go.Proofs.YtmkgeogoojcciaaGreatDoor
open Go.Proofs.Tryz
open Go.Abs
theorem iX (l:List ByteArray):∀ r∈l.map encStr,r.length=1:=fun r hr=>by
 obtain ⟨t,_,rfl⟩:=List.mem_map.1 hr;rfl
def XR (l:List ByteArray):Ob:=bx 1 31 [.pv (aW l)]
def X8:Ob:=bx 1 3 [iv 2]
theorem SJ (l:List ByteArray) (H:aA) (h1:H.get 931=none) (h2:H.get 932=none) :
  aH Tryz.prog 118 [.pv (aW l),iv 2] H (fun r H'=>r=.clo 145 [.ref 931 0 0 0,.ref 932 0 0 0]∧H'=(932,X8)::(931,XR l)::H):=by
 have h2':aA.get ((931,XR l)::H) 932=none:=h2;refine Bd func118 rfl ntmps118<|Sr<|Dd (by exact gR (id:=931) rfl rfl rfl rfl h1)<|Dd (by exact gR (id:=932) rfl rfl rfl rfl h2')<|Dd aS<|Zz<|Sq<|Sr<|Dd (eA aQ)<|Dd dX<|Zz ?_;refine Cn ?_ ?_<;>intro hc1
 ·cases hc1
 refine aK<|Sr<|Dd (by exact fA rfl rfl)<|Dd aS<|Zz<|aM ?_;refine bD (H':=((932,X8)::(931,XR l)::H)) (.inr rfl) rfl (aJ rfl) Fin.refl ?_;exact Qq
def xA (l:List ByteArray) (k:Nat):List ByteArray:=(l.drop (2*k)).take 2
theorem NK (l:List ByteArray) (k:Nat):((l.map encStr).drop (2*k)).take 2=(xA l k).map encStr:=by rw [xA,List.map_take,List.map_drop]
theorem UV {n:Nat} (h:2≤n):min (2:Int) (n:Int)=2:=Int.min_eq_left (by omega)
theorem OL (l:List ByteArray) (fv:AV) (Hs:Nat→aA) (m:Nat) (hl:l.length=2*m) (hm:m < 1099511627776) (h1:∀ k,(Hs k).get 931=some (XR l)) (h2:∀ k,(Hs k).get 932=some X8)
  (hy:∀ k,k < m→eU Tryz.prog fv [.pv (aW (xA l k))] (Hs k) (fun r H'=>r=bv true∧H'=Hs (k+1))) :
  aH Tryz.prog 145 [fv,.ref 931 0 0 0,.ref 932 0 0 0] (Hs 0) (fun r H'=>r=.tup []∧H'=Hs m):=by
 have hml:(l.map encStr).length=l.length:=aAi _;refine Bd func145 rfl ntmps145<|Sr<|Dd aS<|Zz<|aO ?_;refine bL (σ:=Nat) (fun k=>([(0,fv),(1,.ref 931 0 0 0),(2,.ref 932 0 0 0),(4,iv ((2*k:Nat):Int))],Hs k)) (fun k=>k≤m) (fun k=>m - k) 0 (aAz _) ?_ ?_
 ·exact E0
 rintro k hkm;refine Sq<|Sr<|Dd aF<|Dd (by exact aY rfl cQ rfl (h1 k) rfl rfl rfl)<|Dd (mZ aP)<|Dd dX<|Zz ?_;refine Cn ?_ ?_<;>intro hc1
 ·have hlt:2*k < l.length:=by have:=aAe hc1;omega
  have hkm2:k < m:=by omega
  have hyk:=hy k hkm2;have hdl:((l.map encStr).drop (2*k)).length=l.length - 2*k:=by rw [aAx,hml]
  refine aK<|Sq<|aO<|Sq<|bO follows<|Cq (by exact aY rfl aQ rfl (h2 k) rfl rfl rfl)<|Cq (by exact aY rfl cQ rfl (h1 k) rfl rfl rfl)<|Cq aF<|Cq (by exact iJ (l:=2*k) (h:=(l.map encStr).length) (rows':=(l.map encStr).drop (2*k)) rfl cJ rfl (iX l) rfl rfl (by omega) (aAo _) (by rw [List.take_length]))<|Cq (mZ aP)<|Cq (by exact xW (r:=2) rfl rfl rfl (by rw [hdl];exact UV (by omega)))<|Cq aS<|dC<|Kr<|Sr<|Dd aF<|Dd (by exact aY rfl cQ rfl (h1 k) rfl rfl rfl)<|Dd aF<|Dd aF<|Dd aF<|Dd (by exact cH rfl rfl rfl (show IntKind.i64.wrap (((2*k:Nat):Int)+2)=((2*k+2:Nat):Int)by rw [IntKind.wrap_i64];omega))<|Dd aF<|Dd aF<|Dd (by exact cH rfl rfl rfl (show IntKind.i64.wrap (((2*k:Nat):Int)+2)=((2*k+2:Nat):Int)by rw [IntKind.wrap_i64];omega)) ?_;refine Dd (by exact PQ (l:=2*k) (h:=2*k+2) (rows':=(xA l k).map encStr) rfl cJ rfl (iX l) rfl rfl rfl (by omega) (by omega) (by intro h;rw [List.map_eq_nil_iff] at h;rw [h] at hlt;exact absurd hlt (Nat.not_lt_zero _)) (by rw [← NK,List.drop_take];congr 1;omega))<|Dd (by exact gQ rfl rfl rfl (hyk))<|Dd A2<|Zz ?_;refine Cn ?_ ?_<;>intro hc2
  ·cases hc2
  refine aK<|Rg<|Dd aF<|Dd (by exact aY rfl aQ rfl (h2 (k+1)) rfl rfl rfl)<|Dd (by exact cH rfl rfl rfl (show IntKind.i64.wrap (((2*k:Nat):Int)+2)=((2*(k+1):Nat):Int)by rw [IntKind.wrap_i64];omega))<|Da ?_;exact⟨k+1,hkm2,by omega,E0⟩
 have hge:l.length≤2*k:=by have:=aAf hc1;omega
 have hkk:k=m:=by omega
 refine bI ?_;rw [← hkk];exact fS (H':=Hs k) (.inl rfl) rfl Fin.refl ⟨rfl,rfl⟩
theorem YI (l:List ByteArray):∀ r∈l.map encStr,r.length=1:=fun r hr=>by
 obtain ⟨t,_,rfl⟩:=List.mem_map.1 hr;rfl
theorem SI (l:List ByteArray) (H:aA) (hc:bF H) (h1:H.get 901=none) (hl:l.length < 1099511627776) :
  aH Tryz.prog 120 [.pv (aW l)] H (fun r H'=>r=.osl 901 1 0 l.length∧H'=(901,⟨1,1,9,jA l⟩)::H):=by
 have hml:(l.map encStr).length=l.length:=aAi _;refine Bd func120 rfl ntmps120<|Sr<|Dd aS<|Zz<|Sq<|Sr<|Dm ?_;refine gJ rfl rfl (I8 rfl aP rfl) ?_;rintro _ H2 ⟨e2,b,rfl,hb⟩;rw [e2];clear e2 H2;refine Zz ?_;refine Cn ?_ ?_<;>intro hc1
 ·have h0:=hb hc1;have h00:l=[]:=List.map_eq_nil_iff.1 h0;subst h00;refine Sr<|Dd (by exact mD (id:=901) (sz:=1) (ty:=9) rfl h1 rfl)<|Zz<|aM ?_;refine bD (H':=((901,⟨1,1,9,[]⟩)::H)) (.inr rfl) rfl (aJ rfl) ((Fin.bump (g:=0) (k:=1) rfl rfl (by decide) rfl rfl rfl).trans (Fin.get' (fun j=>iG _ _ _ _ j))) ?_;exact Qq
 refine aK<|Sr<|Dd (by exact jU (id:=901) rfl cJ rfl rfl rfl rfl (by simp) h1)<|Dd aF<|Dd (by exact fQ rfl cJ PH rfl rfl rfl rfl rfl rfl rfl (YI l) hml (by omega) (aBA _) (show []++(l.map encStr).map (·.map AV.pv)=jA l by rw [List.nil_append,List.map_map];rfl))<|Dd aS<|Zz<|aM ?_;refine bD (H':=((901,⟨1,1,9,jA l⟩)::H)) (.inr rfl) rfl (aJ rfl) (Fin.get' (fun j=>iG _ _ _ _ j)) ?_;exact Qq
end Go.Proofs.YtmkgeogoojcciaaGreatDoor
namespace Go.Proofs.YtmkgeogoojcciaaGreatDoor
open Go.Proofs.Tryz
open Go.Abs Go.Lib
theorem F8:∀ (ps l:bP) (c:Nat),(fX l c ps).1.length≤l.length+ps.length
 | [],l,c=>aAo _
 | (k,v,n)::r,l,c=>by
  have h1:=F8 r (gY l k v c) (oL l k c);have h2:=(zO k v c l).2;show (fX (gY l k v c) (oL l k c) r).1.length≤_;rw [aAk];omega
theorem R8 (P:List ByteArray):∀ l:bP,(lM l P).length≤l.length:=by
 induction P with
 | nil=>exact fun l=>aAo _
 | cons k r ih=>exact fun l=>Nat.le_trans (ih (sQ l k)) (qD k l).length_le
theorem AT {l put ps:bP} {c:Nat} {D:List ByteArray} (hst:dT l c) (hnd:fI l) (hnp:fI put) (hp:ps.Perm put):dT (lM (fX l c ps).1 D) (fX l c ps).2∧fI (lM (fX l c ps).1 D)∧(lM (fX l c ps).1 D).length≤l.length+put.length∧∀ x,cW (lM (fX l c ps).1 D) x=rN (cW l) put D x:=by
 have h1:=LC ps l c hst hnd;have h2:=MA D _ _ h1.1 h1.2;have hnps:fI ps:=(hp.map Prod.fst).nodup_iff.2 hnp;refine⟨h2.1,h2.2,?_,fun x=>?_⟩
 ·have a1:=R8 D (fX l c ps).1;have a2:=F8 ps l c;have a3:=hp.length_eq;omega
 rw [R9 x D _ h1.2,QR x ps l c hnps,RD hp x hnps,rN];by_cases hx:x∈D
 ·rw [aAh (jJ.2 hx),aAh hx]
 rw [aAg (fun h=>hx (jJ.1 h)),aAg hx]
abbrev rE (L:List ByteArray) (t:List UInt8) (u:Nat):bH:=[(0,.mp 1101 0),(1,sv (ofL t)),(5,.pv (aW L)),(7,iv (u:Int)),(9,.ref 9 0 0 0)]
abbrev rK (W:List ByteArray) (j:Nat) (K:aA):aA:=(932,X8)::(931,XR W)::(9,TQ 950)::(950,bB (uM W j).1 (uM W j).2)::K
theorem NJ {W:List ByteArray} {j:Nat} (h:2*j+1 < W.length):((xA W j).map encStr)[0]?=some (encStr (W.getD (2*j) sNil))∧((xA W j).map encStr)[1]?=some (encStr (W.getD (2*j+1) sNil)):=by have h0:W[2*j]?=some (W[2*j]'(by omega)):=aAn (by omega);have h1:W[2*j+1]?=some (W[2*j+1]'h):=aAn h;rw [aBC,aBC,xA,List.getElem?_take_of_lt (by omega),List.getElem?_take_of_lt (by omega),List.getElem?_drop,List.getElem?_drop,List.getD_eq_getElem?_getD,List.getD_eq_getElem?_getD,Nat.add_zero,h0,h1];exact Qq
theorem DI {H:aA} {id:Nat} {o:Ob} (h:H.get id=some o):Sub [(id,o)] H:=by
 intro j o2 ho;simp only [aA.get] at ho;cases e:Nat.beq id j with
 | true =>
  rw [e] at ho;cases ho;rw [← Nat.eq_of_beq_eq_true e];exact h
 | false=>rw [e] at ho;cases ho
theorem CL (id:Nat) (l:bP) (c:Nat):bF [(id,bB l c)]:=bF.of (fun p hp=>by
 rw [aAl] at hp;subst hp;exact aR _ _ _)
theorem KR (l:bP) (c:Nat) (P:List ByteArray) (hst:dT l c) (hl:l.length < 1099511627776) (hP:P.length < 1099511627776) (H:aA) (h:H.get 950=some (bB l c)):aH Tryz.prog 46 [.mp 950 0,.pv (aW P)] H (fun r H'=>r=iv (bK l P)∧H'=H) :=aH.frameS (T3 l c P hst hl hP) (DI h) (CL _ _ _) (by simp;rfl)
theorem P1 (l:bP) (c:Nat) (P:List ByteArray) (hst:dT l c) (hl:l.length < 1099511627776) (hP:P.length < 1099511627776) (hsz:(bE l P).length < 35184372088832) (H:aA) (h:H.get 950=some (bB l c)):aH Tryz.prog 50 [.mp 950 0,.pv (aW P)] H (fun r H'=>r=sv (ofL (bE l P))∧H'=H) :=aH.frameS (KS l c P hst hl hP hsz) (DI h) (CL _ _ _) (by simp;rfl)
theorem HO (H:aA) (l:List ByteArray):∀ r∈(XR l).rows,∀ a∈r,Clo H a:=by intro r hr a ha;simp only [XR,bx,aAl] at hr;subst hr;rw [aAl] at ha;subst ha;exact .pv _
theorem HP (H:aA):∀ r∈X8.rows,∀ a∈r,Clo H a:=by intro r hr a ha;simp only [X8,bx,aAl] at hr;subst hr;rw [aAl] at ha;subst ha;exact .pv _
theorem P5 (H:aA) (l:List ByteArray):∀ r∈jA l,∀ a∈r,Clo H a:=by intro r hr a ha;obtain ⟨s,_,rfl⟩:=List.mem_map.1 hr;obtain ⟨p,_,rfl⟩:=List.mem_map.1 ha;exact .pv _
theorem M9 (d:DSt) (k a n:Nat) (b:Bool) (l:bP) (c:Nat) (t:List UInt8) (hst:dT l c) (hnd:fI l) (ht:t.length < 1000000) :
  aH Tryz.prog 89 [.mp 1101 0,sv (ofL t)] (sH d (bV k a n b) (bB l c)) (fun r H'=>r=bv (lB t)∧∃ l' c',dT l' c'∧fI l'∧l'.length≤l.length+t.length∧(lB t=true→∀ x,cW l' x=rN (cW l) (fK t).1 (dI t) x)∧H'=sH d (bV k a n b) (bB l' c')):=by
 have hspl:=fun H=>FW t H (by omega);have hLl:=K7 t;have hb1:sK t=(!(eF t).2||decide ((A8 t).length=0)):=rfl;have hok:lB t=(!sK t&&(!lC t&&!sJ t)):=rfl;have bad:lB t=false→∃ l' c',dT l' c'∧fI l'∧l'.length≤l.length+t.length∧(lB t=true→∀ x,cW l' x=rN (cW l) (fK t).1 (dI t) x)∧sH d (bV k a n b) (bB l c)=sH d (bV k a n b) (bB l' c'):=fun h=>⟨l,c,hst,hnd,Nat.le_add_right _ _,fun h2=>(by rw [h] at h2;cases h2),rfl⟩;obtain ⟨ok,hokv⟩:∃ ok,ok=(eF t).2:=⟨_,rfl⟩;obtain ⟨L,hL⟩:∃ L,L=A8 t:=⟨_,rfl⟩;have hL2:(eF t).1=L:=hL.symm;rw [← hokv,hL2] at hspl;rw [← hokv,← hL] at hb1;rw [← hL] at hLl;have hml:(L.map encStr).length=L.length:=aAi _;refine Bd func89 rfl ntmps89<|Sr<|Dd aS<|Zz<|Sr<|Dd aF<|Dd (by exact aB rfl rfl call87 rfl (hspl _))<|Dd aF<|Dd dY<|Dd dY<|Dd aS<|Dd aS<|Zz<|Sq<|Sq ?_;refine cV (t:=23) (n:=8) (X:=!ok||decide (((L.map encStr).length:Int)=0)) ?_ ?_
 ·all_goals refine Dd aF ?_
  all_goals refine Dd A2<|Dm ?_
  all_goals refine Sp 19 (fun h19=>?_) fun h19=>?_
  all_goals try contradiction
  all_goals first|refine Fo<|Fo<|Fo ?_|refine On aF<|On (mZ aP)<|On hU ?_
  all_goals refine Dd fV<|Zz ?_
  all_goals(exact⟨⟨_,rfl,by(rw [h19];rfl)⟩,rfl,rfl,rfl⟩)
 refine Cn ?_ ?_<;>intro hc1
 ·have hq:=hc1;have hf:lB t=false:=by
   rw [hok,hb1];have h2:(!ok||decide (L.length=0))=true:=by
    rw [hml] at hq
    rwa [show decide ((L.length:Int)=0)=decide (L.length=0)from decide_eq_decide.2 (by omega)] at hq
   rw [h2];rfl
  refine Sr<|Dd aS<|Zz<|aM ?_;refine bD (H':=(sH d (bV k a n b) (bB l c))) (.inr rfl) rfl (aJ rfl) (Fin.wk (by(simp;done)) (Hc (aE _ _ rfl rfl rfl)<|Hc (aC _ _)<|Hc (aI _ _ _)<|Hc (aG _ _)<|Hc (bG rfl rfl)<|Hc (aR _ _ _)<|trivial) ⟨rfl,rfl,rfl,rfl,rfl,rfl,trivial⟩) ?_;exact⟨by rw [hf],bad hf⟩
 have hq:=hc1;rw [aBE,Bool.not_eq_false',aAq] at hq;have hl0:0 < L.length:=by omega
 have hb1f:sK t=false:=by rw [hb1,hq.1,decide_eq_false (by omega)];rfl
 obtain ⟨x,hx⟩:=aZ hl0;have hix:=dW (f:=encStr) hx;have hgD:L.getD 0 sNil=x:=by rw [List.getD_eq_getElem?_getD,hx];rfl
 have hxs:x.size < 1099511627776:=by have:=DS (t:=t) (x:=x) (by rw [← hL];exact aAs hx);omega
 have hat:=fun H=>yF x hxs H;have hb2:lC t=(((gV x||decide (dF x < 0))||decide (((L.length / 2:Nat):Int) < dF x))||decide ((L.length:Int) < 2*dF x+2)):=by rw [lC,WB,← hL,hgD]
 have hN:K6 t=(dF x).toNat:=by rw [K6,WB,← hL,hgD]
 obtain ⟨v,hv⟩:∃ v,v=dF x:=⟨_,rfl⟩;obtain ⟨e,he⟩:∃ e,e=gV x:=⟨_,rfl⟩;simp only [← hv,← he] at hat hb2 hN;clear hv he;have hquo:IntKind.i64.wrap (((L.map encStr).length:Int).tdiv 2)=((L.length / 2:Nat):Int):=by
  rw [hml,Int.tdiv_eq_ediv_of_nonneg (by omega),iU (by omega) (by omega)];omega
 refine aK<|Sr<|Dd aF<|Dd (by exact bX rfl cJ rfl rfl (by omega) (by exact aAt _) hix rfl)<|Dd (qC aX)<|Dd (by exact aB rfl rfl TU rfl (hat _))<|Dd aF<|Dd dY<|Dd dY<|Dd aS<|Dd aS<|Zz<|Sq<|Sq ?_;refine cV (t:=51) (n:=24) (X:=((e||decide (v < 0))||decide (((L.length / 2:Nat):Int) < v))||decide (((L.map encStr).length:Int) < 2*v+2)) ?_ ?_
 ·all_goals refine Dd aF ?_
  all_goals refine Dd (by exact uF rfl iP rfl)<|Dm ?_
  all_goals refine Sp 33 (fun h33=>?_) fun h33=>?_
  all_goals(try(with_reducible contradiction))
  all_goals first|refine Fo<|Fo ?_|refine On aF<|On dX ?_
  all_goals refine Dd fV<|Dm ?_
  all_goals refine Sp 37 (fun h37=>?_) fun h37=>?_
  all_goals(try(with_reducible contradiction))
  all_goals first|refine Fo<|Fo<|Fo<|Fo<|Fo ?_|refine On aF<|On aF<|On (mZ aP)<|On (by exact oH rfl rfl rfl (by decide) hquo)<|On BR ?_
  all_goals refine Dd fV<|Dm ?_
  all_goals refine Sp 44 (fun h44=>?_) fun h44=>?_
  all_goals(try(with_reducible contradiction))
  all_goals first|refine Fo<|Fo<|Fo<|Fo<|Fo<|Fo ?_|refine On aF<|On (mZ aP)<|On aF<|On (by exact iF rfl rfl rfl (by have q1:=aAf h37;have q2:=aAf h44;exact iU (by omega) (by omega)))<|On (by exact cH rfl rfl rfl (by have q1:=aAf h37;have q2:=aAf h44;exact iU (by omega) (by omega)))<|On dX ?_
  all_goals refine Dd fV<|Zz ?_
  all_goals(exact⟨⟨_,rfl,by first|(rw [h33];rfl)|(rw [h33,h37];rfl)|(rw [h33,h37,h44];rfl)⟩,rfl,rfl,rfl⟩)
 refine Cn ?_ ?_<;>intro hc2
 ·have hq2:=hc2;rw [hml] at hq2;have hf:lB t=false:=by rw [hok,hb2,hq2,hb1f];rfl
  refine Sr<|Dd aS<|Zz<|aM ?_;refine bD (H':=(sH d (bV k a n b) (bB l c))) (.inr rfl) rfl (aJ rfl) (Fin.wk (by(simp;done)) (Hc (aE _ _ rfl rfl rfl)<|Hc (aC _ _)<|Hc (aI _ _ _)<|Hc (aG _ _)<|Hc (bG rfl rfl)<|Hc (aR _ _ _)<|trivial) ⟨rfl,rfl,rfl,rfl,rfl,rfl,trivial⟩) ?_;exact⟨by rw [hf],bad hf⟩
 have hq2:=hc2;rw [hml] at hq2;have hb2f:lC t=false:=hb2.trans hq2;rw [aBE,aBE,aBE,aAq,aAq,aAq] at hq2;obtain ⟨u,rfl⟩:∃ u:Nat,v=(u:Int):=⟨v.toNat,by omega⟩;rw [aAt] at hN;obtain ⟨W,hW⟩:∃ W,W=(L.drop 1).take (2*u):=⟨_,rfl⟩;have hWl:W.length=2*u:=by rw [hW,aAw,aAx];omega
 have hWe:((L.map encStr).take (2*u+1)).drop 1=W.map encStr:=by
  rw [hW,List.map_take,List.map_drop,List.drop_take];rfl
 have hput:fK t=uM W u:=by
  rw [fK,← hL,hN,hW]
  conv=>lhs;rw [← List.take_append_drop (2*u) (L.drop 1)]
  exact EA _ _ u (by rw [aAw,aAx];omega)
 have hdrop:dI t=L.drop (2*u+2):=by rw [dI,← hL,hN]
 have hsm:=QK ht hb2f;have hb3:sJ t=((((decide ((fK t).1.length+(dI t).length=0)||!decide (bK (fK t).1 (dI t)=0))||!decide (bE (fK t).1 (dI t)=aT [ofL t]))||!eV (dI t))||decide ((bZ (dI t)).length < (dI t).length)):=rfl;rw [hput] at hsm hb3 bad ⊢;have hpok:=D8 W u;obtain ⟨D,hD⟩:∃ D,D=dI t:=⟨_,rfl⟩;rw [← hD] at hsm hb3 hdrop bad ⊢;have hDe:((L.map encStr).take (L.map encStr).length).drop (2*u+2)=D.map encStr:=by
  rw [List.take_length,hdrop,List.map_drop]
 clear hix hx hb1 hb2 hspl;refine aK<|Sr<|Dd (by exact kT (id:=950) fR rfl rfl)<|Dd (by exact cC (id:=9) rfl ZW rfl rfl)<|Uu (pS sizeOf33)<|Zz<|Sq<|Sr<|Dd aF<|Dd aF<|Dd (by exact iF rfl rfl rfl (iU (by omega) (by omega)))<|Dd (by exact cH rfl rfl rfl (show IntKind.i64.wrap (2*(u:Int)+1)=((2*u+1:Nat):Int)by rw [iU (by omega) (by omega)];omega))<|Dd (by exact iJ (l:=1) (h:=2*u+1) (rows':=W.map encStr) rfl cJ rfl (iX L) rfl rfl (by omega) (by omega) hWe)<|Dd (by exact aB rfl rfl call118 rfl (SJ W _ rfl rfl))<|Zz<|aO ?_;refine gA.ent (E':=(58,.clo 145 [.ref 931 0 0 0,.ref 932 0 0 0])::rE L t u) (H':=rK W 0 (sH d (bV k a n b) (bB l c))) (cA.wk (Ec (by(simp;exact⟨rfl,rfl⟩))<|Ea<|Eb<|Eb<|Eb<|Ea<|trivial) (Hc (HP _)<|Hc (HO _ _)<|Ha<|Hc (aR _ _ _)<|Hc (aE _ _ rfl rfl rfl)<|Hc (aC _ _)<|Hc (aI _ _ _)<|Hc (aG _ _)<|Hc (bG rfl rfl)<|Hc (aR _ _ _)<|trivial) ⟨rfl,rfl,rfl,rfl,rfl,rfl,trivial⟩) ?_;refine wN (id:=944) (p:=59) (rE L t u) rfl call145 rfl rfl (by simp [rE];exact⟨rfl,rfl,rfl,rfl,rfl⟩) ?_;intro x hx1 hx2 hx3 hx4 hx5 hx6;refine(OL W (.yld 944 0) (fun j=>(944,LR x (rE L t u))::rK W j (sH d (bV k a n b) (bB l c))) u hWl (by omega) (fun j=>rfl) (fun j=>rfl) ?_).mono ?_
 ·intro j hj;obtain ⟨p0,p1⟩:=NJ (W:=W) (j:=j) (by omega);refine .inl ⟨944,0,rfl,?_⟩;refine DF ((10,.pv (aW (xA W j)))::rE L t u) (rK W j (sH d (bV k a n b) (bB l c))) hx1 hx2 hx3 hx4 hx5 hx6 rfl rfl rfl ?_ ?_
  ·refine Rg<|Da ?_;exact E0
  refine aO<|bO follows<|Cs (fun _ h=>lh bS h)<|Cs (fun _ _=>aF)<|Cs (fun H1 hH=>by exact bX rfl cJ rfl rfl (by omega) (by exact aAt _) p0 rfl)<|Cs (fun _ _=>(qC aX))<|Cs (fun _ _=>aF)<|Cs (fun H1 hH=>by exact bX rfl cJ rfl rfl (by omega) (by exact aAt _) p1 rfl)<|Cs (fun _ _=>(qC aX)) ?_;refine cD (r:=⟨_,none,[_]⟩) (DStep.plain rfl (fun H1 hH=>by exact kV (κ:=fR) (l:=bR (uM W j).1) (.inl rfl) aV aL rfl ((hH _ rfl).trans rfl) rfl rfl rfl rfl rfl (rD _ _ _ _) (uX _ _ _))) rfl ?_;refine dC<|Kr ?_;exact⟨rK W (j+1) (sH d (bV k a n b) (bB l c)),(cA.wk trivial (Hc (TJ (by simp [rE];repeat(first|rfl|refine⟨rfl,?_⟩)))<|Hc (HP _)<|Hc (HO _ _)<|Ha<|Hc (aR _ _ _)<|Hc (aE _ _ rfl rfl rfl)<|Hc (aC _ _)<|Hc (aI _ _ _)<|Hc (aG _ _)<|Hc (bG rfl rfl)<|Hc (aR _ _ _)<|trivial) ⟨rfl,rfl,rfl,rfl,rfl,rfl,rfl,rfl,rfl,rfl,rfl,trivial⟩),rfl,rfl⟩
 rintro r H' ⟨rfl,rfl⟩;refine⟨x,_,rfl,by rw [hx1];decide,rfl,fun z=>?_⟩;rw [hx2];obtain ⟨put,cp,hpc⟩:∃ put cp,uM W u=(put,cp):=⟨_,_,rfl⟩;simp only [hpc] at hpok hb3 hsm bad ⊢;refine gA.ent (E':=rE L t u) (H':=(9,TQ 950)::(950,bB put cp)::sH d (bV k a n b) (bB l c)) ?_ ?_
 ·simp only [rK,hpc];exact(cA.wk (Ea<|Eb<|Eb<|Eb<|Ea<|trivial) (Ha<|Hc (aR _ _ _)<|Hc (aE _ _ rfl rfl rfl)<|Hc (aC _ _)<|Hc (aI _ _ _)<|Hc (aG _ _)<|Hc (bG rfl rfl)<|Hc (aR _ _ _)<|trivial) ⟨rfl,rfl,rfl,rfl,rfl,rfl,trivial⟩)
 have hmp:(bR put).length=put.length:=aAi _;have hmd:(D.map encStr).length=D.length:=aAi _;have hwr:=fun H hH=>KR put cp D hpok.1 (by omega) (by omega) H hH;have htx:=fun H hH=>P1 put cp D hpok.1 (by omega) (by omega) hsm.1 H hH;have hso:=fun H=>GS D H (by omega);have hb3:sJ t=((((decide (((bR put).length:Int)+((D.map encStr).length:Int)=0)||!decide (bK put D=0))||!decide (ofL (bE put D)=ofL (aT [ofL t])))||!eV D)||decide (((bZ D).length:Int) < ((D.map encStr).length:Int))):=by
  rw [hb3,show decide (((bR put).length:Int)+((D.map encStr).length:Int)=0)=decide (put.length+D.length=0)from decide_eq_decide.2 (by omega),show decide (((bZ D).length:Int) < ((D.map encStr).length:Int))=decide ((bZ D).length < D.length)from decide_eq_decide.2 (by omega),show decide (ofL (bE put D)=ofL (aT [ofL t]))=decide (bE put D=aT [ofL t])from decide_eq_decide.2 ⟨fun h=>by rw [← bC (bE put D),h,bC],fun h=>by rw [h]⟩]
 rw [hb1f,hb2f,hb3] at hok;have hjs:(aT [ofL t]).length < 35184372088832:=by
  have hd:=dS (k:=18) (u:=t.length) (by omega) (by decide);rw [dU,aAj,aAk,aAj,bC,bU];have h0:(aT []).length=0:=rfl;omega
 have hdropL:D.length≤L.length:=by rw [hdrop,aAx];omega
 cases g78:decide (((bR put).length:Int)+((D.map encStr).length:Int)=0)with
 | true =>
  refine Sr<|Dd aF<|Dd aF<|Dd (by exact iF rfl rfl rfl (iU (by omega) (by omega)))<|Dd (by exact cH rfl rfl rfl (show IntKind.i64.wrap (2*(u:Int)+2)=((2*u+2:Nat):Int)by rw [iU (by omega) (by omega)];omega))<|Dd (by exact iJ (l:=2*u+2) (h:=(L.map encStr).length) (rows':=D.map encStr) rfl cJ rfl (iX L) rfl rfl (by omega) (aAo _) hDe)<|Dd aS<|Zz<|Sq<|Sr<|Dd (eA bS)<|Dd (by exact xD (κ:=fR) (l:=bR put) rfl aV rfl rfl rfl rfl)<|Dd aF<|Dd (mZ aP)<|Dd (by exact cH rfl rfl rfl (iU (by omega) (by omega)))<|Dd hU<|Dd aF<|Fa<|Fa<|Fa<|Fa<|Dd WC<|Dd aF<|Fo<|Fo<|Fo<|Fo<|Fo<|Fo<|Fo<|Dd fV<|Dd aF<|Fo<|Fo<|Fo<|Dd fV<|Dd aF<|Fo<|Fo<|Fo<|Fo<|Fo<|Fo<|Fo<|Dd fV<|Zz ?_;refine Cn ?_ ?_<;>intro hc3
  ·have hf:lB t=false:=by rw [hok,g78];simp
   refine Sr<|Dd aS<|Zz<|aM ?_;refine bD (H':=(sH d (bV k a n b) (bB l c))) (.inr rfl) rfl (aJ rfl) (Fin.wk (by(simp;done)) (Hc (aE _ _ rfl rfl rfl)<|Hc (aC _ _)<|Hc (aI _ _ _)<|Hc (aG _ _)<|Hc (bG rfl rfl)<|Hc (aR _ _ _)<|trivial) ⟨rfl,rfl,rfl,rfl,rfl,rfl,trivial⟩) ?_;exact⟨by rw [hf],bad hf⟩
  ((cases hc3;done))
 | false =>
  cases g84:(!decide (bK put D=0))with
  | true =>
   refine Sr<|Dd aF<|Dd aF<|Dd (by exact iF rfl rfl rfl (iU (by omega) (by omega)))<|Dd (by exact cH rfl rfl rfl (show IntKind.i64.wrap (2*(u:Int)+2)=((2*u+2:Nat):Int)by rw [iU (by omega) (by omega)];omega))<|Dd (by exact iJ (l:=2*u+2) (h:=(L.map encStr).length) (rows':=D.map encStr) rfl cJ rfl (iX L) rfl rfl (by omega) (aAo _) hDe)<|Dd aS<|Zz<|Sq<|Sr<|Dd (eA bS)<|Dd (by exact xD (κ:=fR) (l:=bR put) rfl aV rfl rfl rfl rfl)<|Dd aF<|Dd (mZ aP)<|Dd (by exact cH rfl rfl rfl (iU (by omega) (by omega)))<|Dd hU<|Dd aF<|Oa (eA bS)<|Oa aF<|Oa (by exact aB rfl rfl vM rfl (hwr _ rfl))<|Oa wB<|Dd NI<|Dd aF<|Fa<|Fa<|Fa<|Fa<|Fa<|Fa<|Fa<|Dd WC<|Dd aF<|Fo<|Fo<|Fo<|Dd fV<|Dd aF<|Fo<|Fo<|Fo<|Fo<|Fo<|Fo<|Fo<|Dd fV<|Zz ?_;refine Cn ?_ ?_<;>intro hc4
   ·have hf:lB t=false:=by rw [hok,g78,g84];simp
    refine Sr<|Dd aS<|Zz<|aM ?_;refine bD (H':=(sH d (bV k a n b) (bB l c))) (.inr rfl) rfl (aJ rfl) (Fin.wk (by(simp;done)) (Hc (aE _ _ rfl rfl rfl)<|Hc (aC _ _)<|Hc (aI _ _ _)<|Hc (aG _ _)<|Hc (bG rfl rfl)<|Hc (aR _ _ _)<|trivial) ⟨rfl,rfl,rfl,rfl,rfl,rfl,trivial⟩) ?_;exact⟨by rw [hf],bad hf⟩
   ((cases hc4;done))
  | false =>
   cases g93:(!decide (ofL (bE put D)=ofL (aT [ofL t])))with
   | true =>
    refine Sr<|Dd aF<|Dd aF<|Dd (by exact iF rfl rfl rfl (iU (by omega) (by omega)))<|Dd (by exact cH rfl rfl rfl (show IntKind.i64.wrap (2*(u:Int)+2)=((2*u+2:Nat):Int)by rw [iU (by omega) (by omega)];omega))<|Dd (by exact iJ (l:=2*u+2) (h:=(L.map encStr).length) (rows':=D.map encStr) rfl cJ rfl (iX L) rfl rfl (by omega) (aAo _) hDe)<|Dd aS<|Zz<|Sq<|Sr<|Dd (eA bS)<|Dd (by exact xD (κ:=fR) (l:=bR put) rfl aV rfl rfl rfl rfl)<|Dd aF<|Dd (mZ aP)<|Dd (by exact cH rfl rfl rfl (iU (by omega) (by omega)))<|Dd hU<|Dd aF<|Oa (eA bS)<|Oa aF<|Oa (by exact aB rfl rfl vM rfl (hwr _ rfl))<|Oa wB<|Dd NI<|Dd aF<|Oa (eA bS)<|Oa aF<|Oa (by exact aB rfl rfl vL rfl (htx _ rfl))<|Oa aF<|Oa (by exact bJ [[.str (ofL t)]] rfl cJ rfl rfl rfl rfl rfl (by simp)) ?_;refine Oa (by exact aB rfl rfl pK rfl (lU [ofL t] _ hjs))<|Oa QA<|Dd NI<|Dd aF<|Fa<|Fa<|Fa<|Dd WC<|Dd aF<|Fo<|Fo<|Fo<|Fo<|Fo<|Fo<|Fo<|Dd fV<|Zz ?_;refine Cn ?_ ?_<;>intro hc5
    ·have hf:lB t=false:=by rw [hok,g78,g84,g93];simp
     refine Sr<|Dd aS<|Zz<|aM ?_;refine bD (H':=(sH d (bV k a n b) (bB l c))) (.inr rfl) rfl (aJ rfl) (Fin.wk (by(simp;done)) (Hc (aE _ _ rfl rfl rfl)<|Hc (aC _ _)<|Hc (aI _ _ _)<|Hc (aG _ _)<|Hc (bG rfl rfl)<|Hc (aR _ _ _)<|trivial) ⟨rfl,rfl,rfl,rfl,rfl,rfl,trivial⟩) ?_;exact⟨by rw [hf],bad hf⟩
    ((cases hc5;done))
   | false =>
    cases g98:(!eV D)with
    | true =>
     refine Sr<|Dd aF<|Dd aF<|Dd (by exact iF rfl rfl rfl (iU (by omega) (by omega)))<|Dd (by exact cH rfl rfl rfl (show IntKind.i64.wrap (2*(u:Int)+2)=((2*u+2:Nat):Int)by rw [iU (by omega) (by omega)];omega))<|Dd (by exact iJ (l:=2*u+2) (h:=(L.map encStr).length) (rows':=D.map encStr) rfl cJ rfl (iX L) rfl rfl (by omega) (aAo _) hDe)<|Dd aS<|Zz<|Sq<|Sr<|Dd (eA bS)<|Dd (by exact xD (κ:=fR) (l:=bR put) rfl aV rfl rfl rfl rfl)<|Dd aF<|Dd (mZ aP)<|Dd (by exact cH rfl rfl rfl (iU (by omega) (by omega)))<|Dd hU<|Dd aF<|Oa (eA bS)<|Oa aF<|Oa (by exact aB rfl rfl vM rfl (hwr _ rfl))<|Oa wB<|Dd NI<|Dd aF<|Oa (eA bS)<|Oa aF<|Oa (by exact aB rfl rfl vL rfl (htx _ rfl))<|Oa aF<|Oa (by exact bJ [[.str (ofL t)]] rfl cJ rfl rfl rfl rfl rfl (by simp)) ?_;refine Oa (by exact aB rfl rfl pK rfl (lU [ofL t] _ hjs))<|Oa QA<|Dd NI<|Dd aF<|Oa aF<|Oa (by exact aB rfl rfl call119 rfl (hso _))<|Oa A2<|Dd NI<|Dd aF<|Fa<|Fa<|Fa<|Fa<|Fa<|Fa<|Fa<|Dd WC<|Zz ?_;refine Cn ?_ ?_<;>intro hc6
     ·have hf:lB t=false:=by rw [hok,g78,g84,g93,g98];simp
      refine Sr<|Dd aS<|Zz<|aM ?_;refine bD (H':=(sH d (bV k a n b) (bB l c))) (.inr rfl) rfl (aJ rfl) (Fin.wk (by(simp;done)) (Hc (aE _ _ rfl rfl rfl)<|Hc (aC _ _)<|Hc (aI _ _ _)<|Hc (aG _ _)<|Hc (bG rfl rfl)<|Hc (aR _ _ _)<|trivial) ⟨rfl,rfl,rfl,rfl,rfl,rfl,trivial⟩) ?_;exact⟨by rw [hf],bad hf⟩
     ((cases hc6;done))
    | false =>
     refine Sr<|Dd aF<|Dd aF<|Dd (by exact iF rfl rfl rfl (iU (by omega) (by omega)))<|Dd (by exact cH rfl rfl rfl (show IntKind.i64.wrap (2*(u:Int)+2)=((2*u+2:Nat):Int)by rw [iU (by omega) (by omega)];omega))<|Dd (by exact iJ (l:=2*u+2) (h:=(L.map encStr).length) (rows':=D.map encStr) rfl cJ rfl (iX L) rfl rfl (by omega) (aAo _) hDe)<|Dd aS<|Zz<|Sq<|Sr<|Dd (eA bS)<|Dd (by exact xD (κ:=fR) (l:=bR put) rfl aV rfl rfl rfl rfl)<|Dd aF<|Dd (mZ aP)<|Dd (by exact cH rfl rfl rfl (iU (by omega) (by omega)))<|Dd hU<|Dd aF<|Oa (eA bS)<|Oa aF<|Oa (by exact aB rfl rfl vM rfl (hwr _ rfl))<|Oa wB<|Dd NI<|Dd aF<|Oa (eA bS)<|Oa aF<|Oa (by exact aB rfl rfl vL rfl (htx _ rfl))<|Oa aF<|Oa (by exact bJ [[.str (ofL t)]] rfl cJ rfl rfl rfl rfl rfl (by simp)) ?_;refine Oa (by exact aB rfl rfl pK rfl (lU [ofL t] _ hjs))<|Oa QA<|Dd NI<|Dd aF<|Oa aF<|Oa (by exact aB rfl rfl call119 rfl (hso _))<|Oa A2<|Dd NI<|Dd aF<|Oa aF<|Oa (by exact aB rfl rfl call120 rfl (SI D _ (bF.ofL ⟨(by(simp;rfl)),(by exact aR _ _ _),(by exact aE _ _ rfl rfl rfl),(by exact aC _ _),(by exact aI _ _ _),(by exact aG _ _),(by exact bG rfl rfl),(by exact aR _ _ _),trivial⟩) rfl (by omega)))<|Oa (by exact aB rfl rfl aAW rfl (C7 D 1 _ rfl (by omega)))<|Oa (by exact dE rfl aP rfl rfl rfl)<|Oa aF<|Oa (mZ aP)<|Oa dX<|Dd NI<|Zz ?_;refine Cn ?_ ?_<;>intro hc7
     ·have g106:=hc7;have hf:lB t=false:=by rw [hok,g78,g84,g93,g98,g106];rfl
      refine Sr<|Dd aS<|Zz<|aM ?_;refine bD (H':=(sH d (bV k a n b) (bB l c))) (.inr rfl) rfl (aJ rfl) (Fin.wk (by(simp;done)) (Hc (aE _ _ rfl rfl rfl)<|Hc (aC _ _)<|Hc (aI _ _ _)<|Hc (aG _ _)<|Hc (bG rfl rfl)<|Hc (aR _ _ _)<|trivial) ⟨rfl,rfl,rfl,rfl,rfl,rfl,trivial⟩) ?_;exact⟨by rw [hf],bad hf⟩
     have g106:=hc7;have hf:lB t=true:=by rw [hok,g78,g84,g93,g98,g106];rfl
     rw [hf];refine aK<|Sr<|Dd aF<|Dd (eA bS)<|Dm ?_;refine gJ rfl rfl (aB rfl rfl aAT rfl (S3 l put c cp D _ (by omega) (by omega) hpok.1 rfl rfl rfl (bF.ofL ⟨(by exact aI _ _ _),(by(simp;done)),(by(simp;rfl)),(by exact aR _ _ _),(by exact aE _ _ rfl rfl rfl),(by exact aC _ _),(by exact aI _ _ _),(by exact aG _ _),(by exact bG rfl rfl),(by exact aR _ _ _),trivial⟩))) ?_;rintro r H' ⟨rfl,ps,hps,rfl⟩;obtain ⟨q1,q2,q3,q4⟩:=AT (D:=D) hst hnd hpok.2 hps;refine Zz<|Sr<|Dd aS<|Zz<|aM ?_;refine bD (H':=(sH d (bV k a n b) (bB (lM (fX l c ps).1 D) (fX l c ps).2))) (.inr rfl) rfl (aJ rfl) (Fin.wk (by(simp;done)) (Hc (aE _ _ rfl rfl rfl)<|Hc (aC _ _)<|Hc (aI _ _ _)<|Hc (aG _ _)<|Hc (bG rfl rfl)<|Hc (aR _ _ _)<|trivial) ⟨rfl,rfl,rfl,rfl,rfl,rfl,trivial⟩) ?_;exact⟨rfl,_,_,q1,q2,by omega,fun _=>q4,rfl⟩
def XF:Ob:=⟨0,0,0,eJ (.pv .nilm) 0 0 []⟩
theorem U6 {H:aA}:∀ r∈XF.rows,∀ x∈r,Clo H x:=by intro r hr x hx;simp only [XF,eJ,List.map_nil,aAl] at hr;subst hr;simp only [aAu,aAy,or_false] at hx;rcases hx with rfl|rfl|rfl<;>exact .pv _
abbrev nBx:Ob:=bx 1 33 [.pv .nilm]
theorem PT (P:List ByteArray) (hP:P.length < 1099511627776) (H:aA) :
  aH Tryz.prog 46 [.pv .nilm,.pv (aW P)] H (fun r H'=>r=iv (bK [] P)∧H'=H):=by
 refine Pu ?_;have hcf:=fun H (h5:H.get 5=some X6)=>C6 (.clo 94 [.ref 5 0 0 0]) P (fun s=>!eT s) H (by omega) (fun s=>eU.clo call94 (FK s H h5));have hV:bK [] P=if P.any (fun s=>!eT s)=true then 1 else 0:=by
  rw [bK];show (if(false||P.any fun s=>!eT s)=true then(1:Int)else if false=true then 2 else 0)=_;rw [Bool.false_or];rfl
 rw [hV];obtain ⟨ns,hns⟩:∃ b,b=P.any (fun s=>!eT s):=⟨_,rfl⟩;rw [← hns] at hcf ⊢;refine Bd func46 rfl ntmps46<|Sr<|Dd aS<|Zz<|Sr<|Dd (by exact cC (id:=5) rfl YE rfl rfl)<|Uu (pS sizeOf53)<|Zz<|Sr<|Dd aS<|Zz<|Sq<|Sr<|Dd aF<|Dd (by exact D7 (q:=946) rfl aV rfl rfl)<|Zz<|aO ?_;refine bL (σ:=Unit) (fun _=>([(0,.pv .nilm),(1,.pv (aW P)),(5,.ref 5 0 0 0),(6,bv false),(10,.it 946 0)],[(946,XF),(5,X6)])) (fun _=>True) (fun _=>0) () trivial ?_ ?_
 ·exact(cA.wk (Eb<|Eb<|Ea<|Eb<|Ea<|trivial) (Hc U6<|Hb<|trivial) trivial)
 rintro _ -;refine Sq<|Rg ?_;refine gJ rfl rfl (JL rfl rfl rfl rfl rfl) ?_;rintro _ _ (⟨rfl,rfl,hn0⟩|⟨hni,hnp,hn1,hn2,rfl,rfl⟩)
 ·refine Dd dY<|Zz<|Sq ?_;refine Cn ?_ ?_<;>intro hc1
  ·cases hc1
  refine bI<|Sq<|aO<|Sr<|Dd aF<|Dd (by exact fA rfl rfl)<|Dd (by exact aB rfl rfl call93 rfl (hcf _ rfl))<|Da ?_;refine Cn ?_ ?_<;>intro hc2
  ·have hn:ns=true:=hc2;rw [aAh hn];exact Sr<|Dd aS<|Zz<|aM<|Rt<|Qq
  have hn:¬ ns=true:=by rw [show ns=false from hc2];decide
  rw [aAg hn];refine Sr<|Dd aF<|Da ?_;refine Cn ?_ ?_<;>intro hc3
  ·cases hc3
  exact aK<|Sr<|Dd aS<|Zz<|aM<|Rt<|Qq
 exact hn1.elim
theorem U2 (H:aA) (h1:H.get 951=none) :
  aH Tryz.prog 55 [.pv .nilm] H (fun r H'=>r=.clo 105 [.ref 951 0 0 0]∧H'=(951,nBx)::H):=by
 refine Bd func55 rfl ntmps55<|Sr<|Dd (by exact gR (id:=951) rfl rfl rfl rfl h1)<|Dd aS<|Zz<|Sr<|Dd (by exact fA rfl rfl)<|Dd aS<|Zz<|aM ?_;refine bD (H':=((951,nBx)::H)) (.inr rfl) rfl (aJ rfl) Fin.refl ?_;exact Qq
theorem RE (K:aA) (h1:K.get 951=some nBx):AX 105 [.ref 951 0 0 0] (fun M=>M.Perm []) K:=by
 intro yv Hs hK h6 hcl hf hy0 hy1;have g1:∀ M,(Hs M).get 951=some nBx:=fun M=>hK M _ _ h1;refine Bd func105 rfl ntmps105<|Sr<|Dd (by exact aY rfl bS rfl (g1 []) rfl rfl rfl)<|Dd (by exact D7 (q:=946) rfl aV rfl (h6 []))<|Zz<|aO ?_;refine bL (σ:=Unit) (fun _=>([(0,yv),(5,.it 946 0)],(946,XF)::Hs [])) (fun _=>True) (fun _=>0) () trivial ?_ ?_
 ·exact E0
 rintro _ -;refine Sq<|Rg ?_;refine gJ rfl rfl (JL rfl rfl (get_cons_same _ _ _) rfl rfl) ?_;rintro _ _ (⟨rfl,rfl,hn0⟩|⟨hni,hnp,hn1,hn2,rfl,rfl⟩)
 ·refine Dd dY<|Zz<|Sq ?_;refine Cn ?_ ?_<;>intro hc1
  ·cases hc1
  refine bI ?_;exact fS (H':=Hs []) (.inl rfl) rfl (Fin.pops' [(946,XF)] (by simp) (hcl _) (by simp [h6]) (by simp [h6])) ⟨rfl,[],List.Perm.refl _,rfl⟩
 exact hn1.elim
abbrev tN (g:Nat) (W:List ByteArray):aA:=[(951,nBx),(920,⟨g,1,9,cY W⟩)]
theorem WQ (g:Nat) (W:List ByteArray):bF (tN g W):=bF.of (fun p hp=>by
 simp only [aAu,aAy,or_false] at hp;rcases hp with rfl|rfl
 ·intro r hr x hx;simp only [bx,aAl] at hr;subst hr;rw [aAl] at hx;subst hx;exact .pv _
 exact gL _ _)
theorem T7 (P:List ByteArray) (hP:P.length < 1099511627776) (hsz:(bE [] P).length < 35184372088832) (H:aA) :
  aH Tryz.prog 50 [.pv .nilm,.pv (aW P)] H (fun r H'=>r=sv (ofL (bE [] P))∧H'=H):=by
 refine Pu ?_;have hso:=DL (L:=([]:List ByteArray)) (by decide) aAG (tN 0 [dN 0]) (RE _ rfl) rfl rfl rfl rfl (WQ _ _) (by simp;rfl);have hS:cT []=[]:=List.length_eq_zero_iff.1 (iV []);have hin:=tR hsz;have hpl:(P.map encStr).length=P.length:=aAi _;have hW:cK [] P=[dN 0,dN ((P.map encStr).length:Int)]++P:=by
  rw [cK,hS];rfl
 change aH _ _ _ _ fun r H'=>r=.pv (aW (cT []))∧H'=_ at hso;rw [hS] at hso;refine Bd func50 rfl ntmps50<|Sr<|Dd aS<|Zz<|Sr<|Dd aF<|Dd (by exact WF rfl aV rfl)<|Dd (by exact aB rfl rfl pL rfl (oN 0 (by omega) (by omega) _))<|Dd (by exact jU (id:=920) rfl cJ rfl rfl rfl rfl (show ∀ r∈cY [dN 0],r.length=1 from by intro r hr;rw [aAl.1 hr];rfl) rfl)<|Dd aS<|Zz<|Sq<|Sr<|Dd aF<|Dd (by exact aB rfl rfl aAS rfl (U2 _ rfl))<|Dd (by exact aB rfl rfl FD rfl (hso))<|Dd (mZ aP)<|Dd aF<|Zz<|aO ?_;refine bL (σ:=Unit) (fun _=>([(0,.pv .nilm),(1,.pv (aW P)),(5,.osl 920 0 0 1),(14,.pv (aW [])),(15,iv 0),(16,iv 0)],tN 0 [dN 0])) (fun _=>True) (fun _=>0) () trivial ?_ ?_
 ·exact E0
 rintro _ -;refine Sr<|Dd dX<|Zz<|Sq ?_;refine Cn ?_ ?_<;>intro hc1
 ·(have:=aAe hc1;omega)
 refine bI<|Sr<|Dd aF<|Dd aF<|Dd (mZ aP)<|Dd (by exact aB rfl rfl pL rfl (oN ((P.map encStr).length:Int) (by omega) (by omega) _))<|Dd (by exact bJ [[.str (dN ((P.map encStr).length:Int))]] rfl cJ rfl rfl rfl rfl rfl (by intro r hr;rw [aAl] at hr;subst hr;rfl))<|Dd (by exact fQ (ps:=[[.str (dN ((P.map encStr).length:Int))]]) rfl cJ PH rfl rfl rfl rfl rfl (fU _) rfl (by intro r hr;rw [aAl] at hr;subst hr;rfl) (m:=1) rfl (by omega) rfl (lR _ _))<|Dd aS<|Zz<|Sr<|Dd aF<|Dd aF<|Dd (by exact fQ (ps:=P.map encStr) rfl cJ PH rfl rfl rfl rfl rfl (fU _) rfl (by intro r hr;obtain ⟨q,_,rfl⟩:=List.mem_map.1 hr;rfl) (m:=P.length) hpl (by omega) rfl (yH _ P))<|Dd (by exact aB rfl rfl pK rfl (LX (W:=cK [] P) hin (by rw [hW];rfl) (by rw [hW,aAj];rfl))) ?_;exact Dd (by exact bJ [[.str (ofL (aT (cK [] P)))]] rfl cJ rfl rfl rfl rfl rfl (by intro r hr;rw [aAl] at hr;subst hr;rfl))<|Dd (by exact aB rfl rfl pK rfl (lU [ofL (aT (cK [] P))] _ hsz))<|Dd aS<|Zz<|aM<|Rt<|Qq
theorem VN (l:bP) (c:Nat) (H:aA) (h0:H.get 1101=some (bB l c)) (h6:H.get 946=none) (hcl:bF H) :
  aH Tryz.prog 104 [.mp 1101 0,.pv .nilm] H (fun r H'=>r=.tup []∧H'=H):=by
 refine Bd func104 rfl ntmps104<|Sr<|Dd aF<|Dd (by exact D7 (q:=946) rfl aV rfl h6)<|Zz<|aO ?_;refine bL (σ:=Unit) (fun _=>([(0,.mp 1101 0),(7,.it 946 0)],(946,XF)::H)) (fun _=>True) (fun _=>0) () trivial ?_ ?_
 ·exact E0
 rintro _ -;refine Sq<|Rg ?_;refine gJ rfl rfl (JL rfl rfl (get_cons_same _ _ _) rfl rfl) ?_;rintro _ _ (⟨rfl,rfl,hn0⟩|⟨hni,hnp,hn1,hn2,rfl,rfl⟩)
 ·refine Dd dY<|Zz<|Sq ?_;refine Cn ?_ ?_<;>intro hc1
  ·cases hc1
  refine bI ?_;exact fS (H':=H) (.inl rfl) rfl (Fin.pops' [(946,XF)] (by simp) hcl (by simp [h6]) (by simp [h6])) ⟨rfl,rfl⟩
 exact hn1.elim
theorem S2 (l:bP) (c:Nat) (P:List ByteArray) (H:aA) (hP:P.length < 1099511627776) (h0:H.get 1101=some (bB l c)) (h6:H.get 946=none) (hcl:bF H) :
  aH Tryz.prog 53 [.mp 1101 0,.pv .nilm,.pv (aW P)] H (fun r H'=>r=.tup []∧H'=(1101,bB (lM l P) c)::H):=by
 have hml:(P.map encStr).length=P.length:=aAi _;have hcp:=VN l c H h0 h6 hcl;refine Bd func53 rfl ntmps53<|Sr<|Dd aF<|Dd aF<|Dd (by exact aB rfl rfl call104 rfl (hcp))<|Zz<|Sr<|Dd aF<|Dd (mZ aP)<|Dd aF<|Zz<|aO ?_;refine bL (σ:=Nat) (fun k=>([(0,.mp 1101 0),(11,.pv (aW P)),(12,iv ((P.map encStr).length:Int)),(13,iv (k:Int))],(1101,bB (lM l (P.take k)) c)::H)) (fun k=>k≤P.length) (fun k=>P.length - k) 0 (aAz _) ?_ ?_
 ·exact cA.get' ⟨⟨_,rfl,rfl⟩,⟨_,rfl,rfl⟩,⟨_,rfl,rfl⟩,⟨_,rfl,rfl⟩,trivial⟩ (fun j=>zX h0 j)
 intro k hk;refine Sr<|Dd dX<|Zz<|Sq ?_;refine Cn ?_ ?_<;>intro hc1
 ·have hlt:k < P.length:=by have:=aAe hc1;omega
  obtain ⟨s,hs⟩:=aZ hlt;have hi:=dW (f:=encStr) hs;refine aK<|Sq<|aO<|Sr<|Dd (FF cJ)<|Dd (qC aX)<|Dd aS<|Zz<|Rg<|Dd aF<|Dd aF<|Uu (by exact G6 (κ:=fR) (l:=bR (lM l (P.take k))) rfl aV aL rfl (get_cons_same _ _ _) rfl rfl rfl rfl (EO s _))<|Zz<|Rg<|Dd pE<|Dd aF<|Zz ?_;refine⟨k+1,by omega,by omega,?_⟩;rw [C2 hs];exact cA.get' ⟨⟨_,rfl,rfl⟩,⟨_,rfl,rfl⟩,⟨_,rfl,rfl⟩,⟨_,rfl,by rfl⟩,trivial⟩ (fun j=>iG _ _ _ _ j)
 have hge:k=P.length:=by have:=aAf hc1;omega
 subst hge;rw [List.take_length];refine bI ?_;exact fS (H':=(1101,bB (lM l P) c)::H) (.inl rfl) rfl Fin.refl ⟨rfl,rfl⟩
def JP (d:DSt) (k a i:Nat):ByteArray:=GC (2+a*k+i) (bM d (2+a*k+i))
def uN (d:DSt) (k a n:Nat):Bool:=(List.range n).all fun i=>!decide (JP d k a i=sNil)
def JO (d:DSt) (k a n:Nat):List UInt8:=(List.range n).flatMap fun i=>(JP d k a i).data.toList
def sO (d:DSt) (k a n:Nat):Bool:=uN d k a n&&((eF (JO d k a n)).2&&(eF (JO d k a n)).1.all fun c=>lB c.data.toList)
def HZ (d:DSt) (k a n:Nat):CT:=pB ((eF (JO d k a n)).1.map fun c=>c.data.toList)
def pY (d:DSt) (k:Nat):Bool:=jS k 1 (bM d 1)
def rT (d:DSt) (k:Nat):Bool:=pY d k||jS k 0 (bM d 0)
def pI (d:DSt) (k:Nat):Nat:=if pY d k then pV (bM d 1)else if jS k 0 (bM d 0)then pV (bM d 0)else 0
def pH (d:DSt) (k:Nat):Nat:=if pY d k then pU (bM d 1)else if jS k 0 (bM d 0)then pU (bM d 0)else 0
theorem UR {p:List UInt8} (h:1≤p.length):¬ ofL p=sNil:=fun e=>by
 have:=congrArg ByteArray.size e;rw [bU] at this;have h0:sNil.size=0:=rfl;omega
theorem HN {d:DSt} {N k a n:Nat} {C:CT} (hc:Calm d N) (h:SInv d.cells k a n C) {Q:List (List UInt8)} (h1:Q.length=n) (h2:LogAt d.cells (2+a*k) Q) {i:Nat} {q:List UInt8} (hq:Q[i]?=some q):JP d k a i=ofL q:=by have hp:=h2.p q (aAs hq);rw [JP,eL hc,h2.at' i q hq];exact QT hp.1 hp.2
theorem XD {d:DSt} {N k a n:Nat} {C:CT} (hc:Calm d N) (h:SInv d.cells k a n C) {Q:List (List UInt8)} (h1:Q.length=n) (h2:LogAt d.cells (2+a*k) Q):JO d k a n=Q.flatten:=by
 have go:∀ m,m≤n→(List.range m).flatMap (fun i=>(JP d k a i).data.toList)=(Q.take m).flatten:=by
  intro m
  induction m with
  | zero=>intro _;rfl
  | succ m ih =>
   intro hm;obtain ⟨q,hq⟩:=aZ (l:=Q) (k:=m) (by omega);rw [List.range_succ,List.flatMap_append,ih (by omega),dK hq,List.flatten_append,List.flatMap_cons,List.flatMap_nil,HN hc h h1 h2 hq,bC];rfl
 rw [JO,go n (aAo _),← h1,List.take_length]
theorem OO {d:DSt} {N k a n:Nat} {C:CT} (hc:Calm d N) (h:SInv d.cells k a n C) (hk:k < 10000000) :
  pI d k=a∧pH d k=n∧(rT d k=true∨(rT d k=false∧bM d 0=zS))∧sO d k a n=true∧HZ d k a n=C∧bM d 1=iT 1 a n (rT d k)∧bM d 0=iT 0 a n (rT d k):=by
 obtain ⟨Q,T,h1,h2,h3,h4,h5⟩:=h.lg;have hT:JO d k a n=aT (T.map ofL):=(XD hc h h1 h2).trans h3;have hlen:=sW h2.p;have hnk:=h.nk;have hsp:eF (JO d k a n)=(T.map ofL,true):=by
  rw [hT];refine rR fun x hx=>?_;have:=oM hx;rw [← h3] at this;omega
 have hall:uN d k a n=true:=List.all_eq_true.2 fun i hi=>by
  obtain ⟨q,hq⟩:=aZ (l:=Q) (k:=i) (by have:=List.mem_range.1 hi;omega);have hp:=h2.p q (aAs hq);rw [HN hc h h1 h2 hq,decide_eq_false (UR hp.1)];rfl
 have hok:sO d k a n=true:=by
  rw [sO,hall,hsp];simp only [Bool.true_and];refine List.all_eq_true.2 fun x hx=>?_;obtain ⟨t,ht,rfl⟩:=List.mem_map.1 hx;rw [bC];exact h4 t ht
 have hC:HZ d k a n=C:=by
  rw [HZ,hsp,h5,List.map_map];congr 1;rw [show ((fun c:ByteArray=>c.data.toList)∘ofL)=id from funext fun t=>bC t,List.map_id]
 rcases h.hd with⟨g1,g0⟩|⟨g1,g0,ea,en⟩
 ·have t1:bM d 1=hS 1 a n:=by rw [eL hc,g1];rfl
  have t0:bM d 0=hS 0 a n:=by rw [eL hc,g0];rfl
  obtain ⟨p1,p2,p3⟩:=GU (place:=1) h.a2 h.nk hk;have hh:pY d k=true:=by rw [pY,t1,p3]
  have hH:rT d k=true:=by rw [rT,hh];rfl
  exact⟨by rw [pI,hh,aAh rfl,t1,p1],by rw [pH,hh,aAh rfl,t1,p2],.inl hH,hok,hC,by rw [hH,t1];rfl,by rw [hH,t0];rfl⟩
 have t1:bM d 1=zS:=by rw [eL hc,g1];rfl
 have t0:bM d 0=zS:=by rw [eL hc,g0];rfl
 have hh:pY d k=false:=by rw [pY,t1,nM]
 have hH:rT d k=false:=by rw [rT,hh,t0,nM];rfl
 exact⟨by rw [pI,hh,aAg (by decide),t0,nM,aAg (by decide),ea],by rw [pH,hh,aAg (by decide),t0,nM,aAg (by decide),en],.inr ⟨hH,t0⟩,hok,hC,by rw [hH,t1];rfl,by rw [hH,t0];rfl⟩
def cE (l:bP):List UInt8:=if l.length=0 then[] else bE l []
abbrev zR (n:Nat):List ByteArray:=List.replicate n zS
theorem T1:zS.size=64:=by rw [bU,zB,List.length_replicate]
theorem KO (n:Nat):∀ t∈zR n,t.size=64:=fun t ht=>by rw [List.eq_of_mem_replicate ht,T1]
def FG (d:DSt) (k a:Nat) (w:List UInt8):Int×DSt:=if(jR d k (1 - a) 0 w).1=0 then iK (jR d k (1 - a) 0 w).2 (2+a*k+0) (zR (k - 0))else jR d k (1 - a) 0 w
def X5 (d:DSt) (k:Nat) (w:List UInt8):Int×DSt:=if(FG d k 1 w).1=0 then iK (FG d k 1 w).2 (2+0*k+cZ w) (zR (k - cZ w))else FG d k 1 w
def KZ (d:DSt) (k a:Nat) (w:List UInt8):Int×DSt:=if a=1 then X5 d k w else if(FG d k 0 w).1=0 then X5 (FG d k 0 w).2 k w else FG d k 0 w
def kI (k:Nat) (w:List UInt8) (tl:List ByteArray):List ByteArray:=hS 0 0 (cZ w)::hS 1 0 (cZ w)::(jY 2 w (cZ w)++(zR (k - cZ w)++(zR k++tl)))
theorem HK {d:DSt} {n:Nat} (h:Calm d n) {k a:Nat} {w:List UInt8} (hk:2*k+2≤n) (hn:n≤8000) (ha:a < 2) (hw:cZ w≤k) :
  (FG d k a w).1=0∧Calm (FG d k a w).2 n∧(FG d k a w).2.cells=lJ (((lJ d.cells (2+(1 - a)*k+0) (jY (2+(1 - a)*k+0) w (cZ w))).set 1 (hS 1 (1 - a) (0+cZ w))).set 0 (hS 0 (1 - a) (0+cZ w))) (2+a*k+0) (zR (k - 0)):=by
 have hak:a*k≤k:=by
  rcases(show a=0∨a=1 by omega)with e|e<;>subst e<;>omega
 obtain ⟨a1,a2,a3⟩:=oA h (k:=k) (a:=1 - a) (cn:=0) (t:=w) hk hn (by omega) (by omega);obtain ⟨b1,b2,b3⟩:=lO a2 (place:=2+a*k+0) (L:=zR (k - 0)) (by rw [List.length_replicate];omega) (KO _) (by rw [List.length_replicate];omega);rw [FG,aAh a1];exact⟨b1,b2,by rw [b3,a3]⟩
theorem HL {d:DSt} {n:Nat} (h:Calm d n) {k:Nat} {w:List UInt8} (hk:2*k+2≤n) (hn:n≤8000) (hw:cZ w≤k) :
  (X5 d k w).1=0∧Calm (X5 d k w).2 n∧(X5 d k w).2.cells=kI k w (d.cells.drop (2*k+2)):=by
 obtain ⟨a1,a2,a3⟩:=HK h (k:=k) (a:=1) (w:=w) hk hn (by omega) hw;obtain ⟨b1,b2,b3⟩:=lO a2 (place:=2+0*k+cZ w) (L:=zR (k - cZ w)) (by rw [List.length_replicate];omega) (KO _) (by rw [List.length_replicate];omega);rw [X5,aAh a1];refine⟨b1,b2,?_⟩;have hl:=h.inv.n;rw [b3,a3];refine List.ext_getElem? fun j=>?_;rw [jF,jF,kS,List.length_set,List.length_set,kS,List.length_replicate,List.length_replicate];rw [kI];rcases(show j=0∨j=1∨∃ i,j=i+2 by
  match j with
  | 0=>exact .inl rfl
  | 1=>exact .inr (.inl rfl)
  | i+2=>exact .inr (.inr ⟨i,rfl⟩))with rfl|rfl|⟨i,rfl⟩
 ·rw [aAg (by omega),aAg (by omega),List.getElem?_set_self (by rw [List.length_set,kS];omega)];rw [aBA];rfl
 ·rw [aAg (by omega),aAg (by omega),List.getElem?_set_ne (by omega),List.getElem?_set_self (by rw [kS];omega)];rw [aBA];rfl
 rw [List.getElem?_cons_succ,List.getElem?_cons_succ,List.getElem?_set_ne (by omega),List.getElem?_set_ne (by omega),jF,dG];by_cases h1:i < cZ w
 ·rw [aAg (by omega),aAg (by omega),aAh (by omega),List.getElem?_append_left (by rw [dG];exact h1),tW h1,show i+2 - (2+(1 - 1)*k+0)=i by omega,tW h1,show 2+(1 - 1)*k+0=2 by omega]
 rw [List.getElem?_append_right (by rw [dG];omega),dG];by_cases h2:i < k
 ·rw [aAh (by omega),List.getElem?_append_left (by rw [List.length_replicate];omega),List.getElem?_replicate,List.getElem?_replicate,aAh (by omega),aAh (by omega)]
 rw [aAg (by omega),List.getElem?_append_right (by rw [List.length_replicate];omega),List.length_replicate];by_cases h3:i < 2*k
 ·rw [aAh (by omega),List.getElem?_append_left (by rw [List.length_replicate];omega),List.getElem?_replicate,List.getElem?_replicate,aAh (by omega),aAh (by omega)]
 rw [aAg (by omega),aAg (by omega),List.getElem?_append_right (by rw [List.length_replicate];omega),List.length_replicate,List.getElem?_drop];congr 1;omega
theorem HM {d:DSt} {n:Nat} (h:Calm d n) {k a:Nat} {w:List UInt8} (hk:2*k+2≤n) (hn:n≤8000) (ha:a < 2) (hw:cZ w≤k) :
  (KZ d k a w).1=0∧Calm (KZ d k a w).2 n∧(KZ d k a w).2.cells=kI k w (d.cells.drop (2*k+2)):=by
 rw [KZ];by_cases e:a=1
 ·rw [aAh e];exact HL h hk hn hw
 rw [aAg e];obtain ⟨a1,a2,a3⟩:=HK h (k:=k) (a:=0) (w:=w) hk hn (by omega) hw;rw [aAh a1];obtain ⟨b1,b2,b3⟩:=HL a2 hk hn hw;refine⟨b1,b2,?_⟩;rw [b3];congr 1;rw [a3];have hl:=h.inv.n;refine List.ext_getElem? fun j=>?_;rw [List.getElem?_drop,List.getElem?_drop,jF,List.length_replicate,aAg (by omega),List.getElem?_set_ne (by omega),List.getElem?_set_ne (by omega),jF,dG,aAg (by omega)]
theorem IM {cells:List ByteArray} {k a n:Nat} {C:CT} (h:SInv cells k a n C) {l:bP} (hn:fI l) (hl:∀ x,cW l x=C x) (hw:cZ (cE l)≤k) (hk:k < 5000) :
  SInv (kI k (cE l) (cells.drop (2*k+2))) k 0 (cZ (cE l)) C:=by
 have hkn:=h.kn;have hwr:=h.wrong hn hl;obtain ⟨w,hW⟩:∃ w,w=cE l:=⟨_,rfl⟩;have hlen:(kI k w (cells.drop (2*k+2))).length=cells.length:=by
  rw [← hW] at hw;rw [kI,aAk,aAk,aAj,dG,aAj,aAj,List.length_replicate,List.length_replicate,aAx];omega
 rw [← hW] at hw ⊢;have hat:LogAt (kI k w (cells.drop (2*k+2))) (2+0*k) ((List.range (cZ w)).map (fM w)):=by
  refine⟨fun q hq=>?_,fun i q hq=>?_⟩
  ·obtain ⟨i,hi,rfl⟩:=List.mem_map.1 hq;exact GD (List.mem_range.1 hi)
  rw [aBC] at hq;have hi:i < cZ w:=by
   by_cases e:i < cZ w
   ·exact e
   rw [List.getElem?_eq_none (by rw [List.length_range];omega)] at hq;cases hq
  rw [List.getElem?_range hi] at hq;cases hq;rw [kI,show 2+0*k+i=i+2 by omega,List.getElem?_cons_succ,List.getElem?_cons_succ,List.getElem?_append_left (by rw [dG];exact hi),tW hi,Nat.add_comm i 2]
 refine⟨h.k1,by rw [hlen];exact hkn,by omega,hw,.inl ⟨rfl,rfl⟩,?_⟩;have hfl:((List.range (cZ w)).map (fM w)).flatten=w:=LF w;by_cases h0:l.length=0
 ·have hw0:w=[]:=by rw [hW,cE,aAh h0]
  refine⟨_,[],?_,hat,by rw [hfl,hw0];rfl,fun t ht=>(by cases ht),?_⟩
  ·rw [aAi,List.length_range]
  funext x;rw [← hl,List.length_eq_zero_iff.1 h0];rfl
 have hwt:w=bE l []:=by rw [hW,cE,aAg h0]
 have hin:=tR (l:=l) (P:=[]) (N:=1000000) (by rw [← hwt];have:=hw;rw [cZ] at this;omega);obtain ⟨r1,r2,r3⟩:=K5 hn (P:=[]) List.Pairwise.nil (by omega) hwr (by omega);refine⟨_,[aT (cK l [])],?_,hat,by rw [hfl,hwt];rfl,fun t ht=>by rw [aAl.1 ht];exact r1,?_⟩
 ·rw [aAi,List.length_range]
 funext x;show C x=XO (fun _=>none) (aT (cK l [])) x;rw [XO,r3,rN,aAg aAy,r2,hl];cases C x<;>rfl
end Go.Proofs.YtmkgeogoojcciaaGreatDoor
