/-
  Parts of the proof: rules of an abstract program logic, contracts of functions, plain laws. Conditions: each theorem's own.
-/
import Derived.Test.YtmkgeogoojcciaaGreatDoorKS3M6
set_option linter.unusedVariables false
set_option linter.unusedSimpArgs false
set_option maxRecDepth 100000
set_option maxHeartbeats 8000000
namespace Go.Proofs
theorem sF:type_of% Tryz.call46:=Tryz.call46
theorem WS:type_of% Tryz.call47:=Tryz.call47
theorem sE:type_of% Tryz.call50:=Tryz.call50
theorem WP:type_of% Tryz.call53:=Tryz.call53
end Go.Proofs
section
namespace Go.Abs
open Go.Lib
theorem oD:∀ (l:List UInt8) (a:Nat),decFrom a l=(decFrom 0 l).map fun n=>a*10 ^ l.length+n
 | [],a=>by simp [decFrom]
 | b::r,a=>by
  rw [decFrom,decFrom];cases h:digitVal b with
  | none=>rfl
  | some d =>
   show decFrom (a*10+d) r=(decFrom (0*10+d) r).map _;rw [oD r (a*10+d),oD r (0*10+d),Option.map_map];congr 1;funext n;show (a*10+d)*10 ^ r.length+n=a*10 ^ (r.length+1)+((0*10+d)*10 ^ r.length+n);rw [Nat.pow_succ];obtain ⟨p,hp⟩:∃ p,p=10 ^ r.length:=⟨_,rfl⟩;rw [← hp,Nat.add_mul,Nat.mul_assoc,Nat.mul_comm 10 p,Nat.zero_mul,XT];omega
theorem rV (l:List UInt8):∀ z,decFrom 0 (List.replicate z 48++l)=decFrom 0 l
 | 0=>rfl
 | z+1=>by
  have h48:digitVal 48=some 0:=by decide
  rw [List.replicate_succ,List.cons_append,decFrom,h48];exact rV l z
theorem tY (b:List UInt8):∀ (a:List UInt8) (n:Nat),decFrom n (a++b)=(decFrom n a).bind fun x=>decFrom x b
 | [],n=>rfl
 | c::a,n=>by
  rw [List.cons_append,decFrom,decFrom];cases h:digitVal c with
  | none=>rfl
  | some d=>exact tY b a _
theorem K4 {l:List UInt8} {u:Nat} (hne:l≠[]) (hm:∀ b∈l,48≤b.toNat∧b.toNat≤57) (hd:decFrom 0 l=some u):atoi l=some (u:Int):=by
 cases l with
 | nil=>exact absurd rfl hne
 | cons b r =>
  have hb:=hm b List.mem_cons_self;have e2:decNat (b::r)=some u:=by rw [decNat,hd];rfl
  have h43:¬ (b == 43)=true:=fun h=>by rw [beq_iff_eq] at h;rw [h] at hb;exact absurd hb.1 (by decide)
  have h45:¬ (b == 45)=true:=fun h=>by rw [beq_iff_eq] at h;rw [h] at hb;exact absurd hb.1 (by decide)
  rw [atoi,W9 h45,W9 h43,e2];rfl
theorem BI {l:List UInt8} {u:Nat} (hl:l.length≤18) (hne:l≠[]) (hm:∀ b∈l,48≤b.toNat∧b.toNat≤57) (hd:decFrom 0 l=some u):atoiAll l=.ok (u:Int):=by rw [atoiAll_short _ hl,K4 hne hm hd];rfl
end Go.Abs
namespace Go.Proofs.YtmkgeogoojcciaaGreatDoor
open Go.Proofs.Tryz
open Go.Abs Go.Lib
instance memDecZ (k:ByteArray) (l:List ByteArray):Decidable (k∈l):=decidable_of_iff _ iE
theorem r4 {l:List UInt8} {u:Nat} (hl:l.length≤18) (hne:l≠[]) (hm:∀ b∈l,48≤b.toNat∧b.toNat≤57) (hd:decFrom 0 l=some u):gC (ofL l)=false∧cT (ofL l)=(u:Int):=by
 have h:=BI hl hne hm hd;constructor
 ·rw [gC,a6,h]
 rw [cT,oI,a6,h]
theorem FY {n w:Nat} {b:UInt8} (h:b∈dg n w):48≤b.toNat∧b.toNat≤57:=by
 rw [dg] at h;rcases List.mem_append.1 h with h|h
 ·rw [List.eq_of_mem_replicate h];decide
 exact mR n h
theorem SN (n w:Nat):dg n w≠[]:=by rw [dg];intro h;exact mT n (List.append_eq_nil_iff.1 h).2
theorem FZ (n w:Nat):decFrom 0 (dg n w)=some n:=by rw [dg,rV,kM]
theorem NN (place a n:Nat) (ha:a < 10) (hn:n < 10000000):(hS place a n).extract 16 24=ofL (dg a 1++dg n 7):=i8 (by
 have h8:(dg a 1++dg n 7).length=8:=by rw [XC,jR (m6 a (by omega) (by omega)),jR (m6 n (by omega) (by omega))]
 rw [eN,a6,a6,yR,m0,o9,List.drop_left' (qS _),List.take_left' h8])
theorem NM (place a n:Nat) (ha:a < 10) (hn:n < 10000000):gC ((hS place a n).extract 16 24)=false∧cT ((hS place a n).extract 16 24)=((a*10000000+n:Nat):Int):=by
 have h7:(dg n 7).length=7:=jR (m6 n (by omega) (by omega));have h8:(dg a 1++dg n 7).length=8:=by rw [XC,jR (m6 a (by omega) (by omega)),h7]
 rw [NN place a n ha hn];refine r4 (by omega) (fun h=>SN a 1 (List.append_eq_nil_iff.1 h).1) (fun b hb=>?_) ?_
 ·rcases List.mem_append.1 hb with h|h
  ·exact FY h
  exact FY h
 rw [tY,FZ,Option.bind_some,oD,FZ,h7];rfl
theorem NL {k place a n:Nat} (ha:a < 2) (hn:n≤k) (hk:k < 10000000):nR (hS place a n)=a∧nQ (hS place a n)=n∧jU k place (hS place a n)=true:=by
 obtain ⟨h1,h2⟩:=NM place a n (by omega) (by omega);have hb:kH (hS place a n)=false:=by
  rw [kH,h1,h2,Bool.false_or];exact decide_eq_false (by omega)
 have hu:JB (hS place a n)=a*10000000+n:=by rw [JB,h2,XM]
 have hA:nR (hS place a n)=a:=by rw [nR,hb,W9 (by decide),hu];omega
 have hN:nQ (hS place a n)=n:=by rw [nQ,hb,W9 (by decide),hu];omega
 refine⟨hA,hN,?_⟩;rw [jU,hb,hA,hN,decide_eq_true ha,decide_eq_true hn,decide_eq_true rfl];rfl
theorem JF (place:Nat) {p:List UInt8} (h2:p.length≤46):(ofL (d7 place p)).extract 16 18=ofL (dg p.length 2)∧(ofL (d7 place p)).extract 18 (18+p.length)=ofL p:=by
 have hd:(dg p.length 2).length=2:=jR (m6 _ (by omega) (by omega));have e:(d7 place p).drop 16=dg p.length 2++(p++zB (48 - (dg p.length 2++p).length)):=by rw [d7,m0,o9,List.drop_left' (qS _),List.append_assoc]
 have e2:(d7 place p).drop 18=p++zB (48 - (dg p.length 2++p).length):=by
  rw [show 18=16+2 from rfl,← List.drop_drop,e,List.drop_left' hd]
 constructor
 ·refine i8 ?_;rw [eN,a6,a6,e];exact List.take_left' hd
 refine i8 ?_;rw [eN,a6,a6,e2,show 18+p.length - 18=p.length by omega,List.take_left]
theorem MV {place:Nat} {p:List UInt8} (h1:1≤p.length) (h2:p.length≤46):CK place (ofL (d7 place p))=ofL p:=by
 obtain ⟨c1,c2⟩:=JF place h2;have hd:(dg p.length 2).length=2:=jR (m6 _ (by omega) (by omega));obtain ⟨n1,n2⟩:=r4 (l:=dg p.length 2) (u:=p.length) (by omega) (SN _ _) (fun b=>FY) (FZ _ _);have hb:yI (ofL (d7 place p))=false:=by
  rw [yI,c1,n1,n2,Bool.false_or,decide_eq_false (by omega),decide_eq_false (by omega)];rfl
 have hp:MX (ofL (d7 place p))=ofL p:=by rw [MX,c1,n2,XM,c2]
 rw [CK,hb,W9 (by decide),hp,a6,XA rfl]
theorem CJ (t:List UInt8):∀ i,(List.range i).flatMap (e8 t)=t.take (46*i)
 | 0=>by rw [List.range_zero,Nat.mul_zero,List.take_zero];rfl
 | i+1=>by
  rw [List.range_succ,List.flatMap_append,CJ t i,List.flatMap_cons,List.flatMap_nil,List.append_nil,e8,Nat.mul_succ];exact(List.take_add ..).symm
theorem G9 (t:List UInt8):((List.range (cM t)).map (e8 t)).flatten=t:=by rw [← List.flatMap_def,CJ,List.take_of_length_le (by rw [cM];omega)]
theorem CL {t:List UInt8} {i:Nat} (h:i < cM t):1≤(e8 t i).length∧(e8 t i).length≤46:=by rw [lP];rw [cM] at h;omega
theorem dI (x:ByteArray) (L:List ByteArray):aR (x::L)=decDigits x.size++58::(x.data.toList++aR L):=by
 have h1:aR (x::L)=(mI x).data.toList++aR L:=by rw [aR,List.flatMap_cons];rfl
 rw [h1,mI,ByteArray.data_append,Array.toList_append,ByteArray.data_append,Array.toList_append,j8];simp
theorem N3 (n:Nat):(58:UInt8)∉decDigits n:=fun h=>by
 have:=mR n h;exact absurd this.2 (by decide)
theorem J8 {x:ByteArray} (L:List ByteArray) (hx:x.size < 1000000000000000000):pL (aR (x::L))=false∧HX (aR (x::L))=x.size∧tZ (aR (x::L))=x.data.toList++aR L:=by
 obtain ⟨e1,e2⟩:=OD (r:=x.data.toList++aR L) (N3 x.size);rw [← dI] at e1 e2;obtain ⟨n1,n2⟩:=r4 (l:=decDigits x.size) (u:=x.size) (dG (k:=18) (by omega) (by decide)) (mT _) (fun b=>mR _) (kM _);have hm:(58:UInt8)∈aR (x::L):=by rw [dI];simp
 have hi:dA (x.size:Int)=ofL (decDigits x.size):=i8 (by rw [a6,j8]);refine⟨?_,?_,e2⟩
 ·rw [pL,e1,e2,n1,n2,decide_eq_true hm,hi,decide_eq_true rfl,decide_eq_false (by omega),decide_eq_false (by rw [XC,cR];omega)];rfl
 rw [HX,e1,n2,XM]
theorem pD:∀ (L acc:List ByteArray),(∀ x∈L,x.size < 1000000000000000000)→eO (aR L).length (aR L) acc=(acc++L,true)
 | [],acc,_=>by rw [List.append_nil];rfl
 | x::L,acc,h=>by
  obtain ⟨h1,h2,h3⟩:=J8 L (h x List.mem_cons_self);have hne:aR (x::L)≠[]:=by rw [dI];simp
  rw [tM hne h1,h2,h3,List.drop_left' (cR x),List.take_left' (cR x),FE,pD L _ (fun y hy=>h y (List.mem_cons_of_mem _ hy)),List.append_assoc];rfl
theorem pE {L:List ByteArray} (h:∀ x∈L,x.size < 1000000000000000000):dR (aR L)=(L,true):=by rw [dR,pD L [] h,List.nil_append]
theorem C0 (A B:List ByteArray):aR (A++B)=aR A++aR B:=List.flatMap_append
end Go.Proofs.YtmkgeogoojcciaaGreatDoor
end
namespace Go.Proofs.YtmkgeogoojcciaaGreatDoor
open Go.Proofs.Tryz
open Go.Abs
theorem NI (s:ByteArray) (H:aA):aI Tryz.prog 172 [sv s] H (fun r H'=>r=bv false∧H'=H):=by refine Pu ?_;refine Bd func172 rfl ntmps172<|Sr<|Dd aQ<|Zz<|Sr<|Dd aE<|Dd aE<|Dd MB<|Dd aQ<|Zz<|aM<|Rt ?_;exact⟨by simp,rfl⟩
theorem Q1 (s t:ByteArray) (H:aA):aI Tryz.prog 146 [sv s,sv t] H (fun r H'=>r=bv (pS s t)∧H'=H):=by
 refine Pu ?_;refine Bd func146 rfl ntmps146<|Sr<|Dd aQ<|Zz<|Sq ?_;refine cX (t:=4) (n:=15) (X:=pS s t) ?_ ?_
 ·all_goals refine Dd aE ?_
  all_goals refine Dd (by exact aB rfl rfl call172 rfl (NI _ _))<|Dm ?_
  all_goals refine Sp 7 (fun h7=>?_) fun h7=>?_
  all_goals try contradiction
  all_goals refine Fo<|Fo<|Fo<|Dd dW<|Dm ?_
  all_goals refine Sp 12 (fun h12=>?_) fun h12=>?_
  all_goals try contradiction
  all_goals refine On aE<|On aE<|On (by exact MZ rfl rfl rfl)<|Dd dW<|Da ?_
  all_goals(exact⟨⟨_,rfl,by rfl⟩,rfl,rfl,rfl⟩)
 exact aM<|Rt<|Qq
def eE:List ByteArray→Bool
 | a::b::r=>!pS b a&&eE (b::r)
 | _=>true
theorem zT {a:ByteArray} {l:List ByteArray} (h:eE (a::l)=true):eE l=true:=by
 cases l with
 | nil=>rfl
 | cons b r=>exact(XK _ _▸h:_∧_).2
theorem qU:∀ (i:Nat) {l:List ByteArray},eE l=true→eE (l.drop i)=true
 | 0,_,h=>h
 | i+1,[],_=>rfl
 | i+1,a::l,h=>qU i (zT h)
theorem EL {l:List ByteArray} {k:Nat} {a b:ByteArray} (ha:l[k]?=some a) (hb:l[k+1]?=some b):eE (l.drop k)=(!pS b a&&eE (l.drop (k+1))):=by obtain ⟨h1,e1⟩:=XF.1 ha;obtain ⟨h2,e2⟩:=XF.1 hb;rw [List.drop_eq_getElem_cons h1,List.drop_eq_getElem_cons h2,e1,e2];rfl
theorem C2 (l:List ByteArray) (H:aA) (hl:l.length < 1099511627776):aI Tryz.prog 119 [.pv (aW l)] H (fun r H'=>r=bv (eE l)∧H'=H):=by
 refine Pu ?_;have hml:(l.map encStr).length=l.length:=XB _;refine Bd func119 rfl ntmps119<|Sr<|Dd aQ<|Zz<|Sq<|Sr<|Dd aE<|Dd (kZ aP)<|Dd (by exact dM rfl rfl rfl (show IntKind.i64.wrap (((l.map encStr).length:Int) - 1)=((l.map encStr).length:Int) - 1 by rw [IntKind.wrap_i64];omega))<|Dd aQ<|Zz<|aN ?_;refine bI (σ:=Nat) (fun k=>([(0,.pv (aW l)),(3,iv ((k:Int) - 1))],[])) (fun k=>k≤l.length∧eE (l.drop (k - 1))=true) (fun k=>k) l.length ⟨XH _,?_⟩ ?_ ?_
 ·have:(l.drop (l.length - 1)).length≤1:=by rw [XQ];omega
  match l.drop (l.length - 1),this with
  | [],_=>rfl
  | [a],_=>rfl
 ·rw [hml];exact Wk
 rintro k ⟨hk,hs⟩;refine Sq<|Sr<|Dd aE<|Dd yS<|Zz ?_;refine Cn ?_ ?_<;>intro hc1
 ·have hlt:2≤k:=by have:=W7 hc1;omega
  obtain ⟨m,rfl⟩:∃ m,k=m+2:=⟨k - 2,by omega⟩;obtain ⟨b,hb⟩:=aY (l:=l) (k:=m+1) (by omega);obtain ⟨a,ha⟩:=aY (l:=l) (k:=m) (by omega);have hib:=dC (f:=encStr) hb;have hia:=dC (f:=encStr) ha;have hat:=EL ha hb;rw [show m+2 - 1=m+1 by omega] at hs;rw [hs,Bool.and_true] at hat;refine aH<|Sq<|aN<|Sq<|bK follows<|Cq aE<|Cq aE<|Cq (by exact bJ (m:=m+1) rfl b5 rfl rfl (by omega) (show (((m+2:Nat):Int) - 1).toNat=m+1 by omega) hib rfl)<|Cq (mB aV)<|Cq aE<|Cq aE<|Cq (by exact dM rfl rfl rfl (show IntKind.i64.wrap ((((m+2:Nat):Int) - 1) - 1)=((m:Nat):Int)by rw [IntKind.wrap_i64];omega))<|Cq (BT b5)<|Cq (mB aV)<|Cq (by exact aB rfl rfl call146 rfl (Q1 b a _))<|cQ<|Kr ?_;refine Cn ?_ ?_<;>intro hc2
  ·have hlt2:pS b a=true:=hc2;have h0:eE l=false:=by
    rw [Bool.eq_false_iff];intro h;rw [qU m h,hlt2] at hat;cases hat
   rw [h0];exact Sr<|Dd aQ<|Zz<|aM<|Rt<|Qq
  have hlt2:pS b a=false:=hc2;refine aH<|Rg<|Dd aE<|Dd (by exact dM rfl rfl rfl (show IntKind.i64.wrap ((((m+2:Nat):Int) - 1) - 1)=((m+1:Nat):Int) - 1 by rw [IntKind.wrap_i64];omega))<|Da ?_;refine⟨m+1,⟨by omega,?_⟩,by omega,?_⟩
  ·rw [show m+1 - 1=m by omega,hat,hlt2];rfl
  exact Wk
 have hge:k≤1:=by have:=W8 hc1;omega
 have h0:eE l=true:=by rw [show k - 1=0 by omega] at hs;exact hs
 rw [h0];exact bE<|Sr<|Dd aQ<|Zz<|aM<|Rt<|Qq
end Go.Proofs.YtmkgeogoojcciaaGreatDoor
section
namespace Go.Proofs.YtmkgeogoojcciaaGreatDoor
open Go.Proofs.Tryz
open Go.Abs
structure M3 where
 k:ByteArray
 b:ByteArray
 o:ByteArray
 t:ByteArray
end Go.Proofs.YtmkgeogoojcciaaGreatDoor
namespace Go.Abs
end Go.Abs
namespace Go.Proofs.YtmkgeogoojcciaaGreatDoor
open Go.Proofs.Tryz
open Go.Abs
end Go.Proofs.YtmkgeogoojcciaaGreatDoor
end
namespace Go.Proofs.YtmkgeogoojcciaaGreatDoor
open Go.Proofs.Tryz
open Go.Abs
theorem JY (l:List ByteArray) (s:ByteArray) (H:aA) (hl:l.length < 4611686018427387904):aI Tryz.prog 123 [.pv (aW l),sv s] H (fun r H'=>r=iv (NR (fun x=>decide (s=x)) l)∧H'=H):=by
 refine Pu ?_;have hml:(l.map encStr).length=l.length:=XB _;refine Bd func123 rfl ntmps123<|Sr<|Dd aQ<|Zz<|Sq<|Sr<|Dd aE<|Dd (kZ aP)<|Dd aE<|Zz<|aN ?_;refine bI (σ:=Nat) (fun k=>([(0,.pv (aW l)),(1,sv s),(7,iv ((l.map encStr).length:Int)),(8,iv (k:Int))],[])) (fun k=>k≤l.length∧∀ j,j < k→∀ b,l[j]?=some b→decide (s=b)=false) (fun k=>l.length - k) 0 ⟨by omega,by omega⟩ ?_ ?_
 ·exact E0
 rintro k ⟨hk,hno⟩;refine Sr<|Dd dN<|Zz<|Sq ?_;refine Cn ?_ ?_<;>intro hc1
 ·have hlt:k < l.length:=by have:=W7 hc1;omega
  obtain ⟨o,ho⟩:=aY hlt;have hi:=dC (f:=encStr) ho;refine aH<|Sq<|aN<|Sr<|Dd aE<|Dd aQ<|Zz<|Sr<|Dd aE<|Dd aE<|Dd aE<|Dd (BT b5)<|Dd (mB aV)<|Dd S3<|Zz ?_;refine Cn ?_ ?_<;>intro hc2
  ·refine Sr<|Dd aE<|Dd aQ<|Zz<|aM<|Rt ?_;exact⟨by rw [NR,J4 hno ho hc2],rfl⟩
  refine aH<|Rg<|Dd mC<|Dd aE<|Zz ?_;exact⟨k+1,⟨by omega,MT hno ho hc2⟩,by omega,E0⟩
 have hge:k=l.length:=by have:=W8 hc1;omega
 subst hge;refine bE<|Sr<|Dd aQ<|Zz<|aM<|Rt ?_;exact⟨by rw [NR,J5 hno],rfl⟩
theorem RA (l:List ByteArray) (s:ByteArray):l.any (fun x=>decide (s=x))=RB l s:=by rw [RB];congr 1;funext x;rw [Bool.eq_iff_iff,XI,XI];exact eq_comm
theorem BD (l:List ByteArray) (s:ByteArray) (H:aA) (hl:l.length < 4611686018427387904):aI Tryz.prog 92 [.pv (aW l),sv s] H (fun r H'=>r=bv (RB l s)∧H'=H):=by refine Pu ?_;refine Bd func92 rfl ntmps92<|Sr<|Dd aQ<|Zz<|Sr<|Dd aE<|Dd aE<|Dd (by exact aB rfl rfl call123 rfl (JY l s _ hl))<|Dd RE<|Dd aQ<|Zz<|aM<|Rt ?_;exact⟨by rw [NQ,RA],rfl⟩
def m1 (p:M3):ByteArray×Bool:=if p.t=p.o then(p.o,false)else if p.t=p.b then(p.o,false)else if p.o=p.b then(p.t,false)else(p.b,true)
theorem GA (l:List ByteArray) (q:ByteArray→Bool):(List.range l.length).any (fun k=>((l[k]?).map q).getD false)=l.any q:=by
 rw [Bool.eq_iff_iff,List.any_eq_true,List.any_eq_true];constructor
 ·rintro⟨k,hk,h⟩;have hl:=List.mem_range.1 hk;rw [XG hl] at h;exact⟨_,List.getElem_mem hl,h⟩
 rintro⟨s,hs,h⟩;obtain ⟨k,hk⟩:=XW.1 hs;exact⟨k,List.mem_range.2 (XF.1 hk).1,by rw [hk];exact h⟩
theorem zE (fv:AV) (l:List ByteArray) (q:ByteArray→Bool) (H:aA) (hl:l.length < 4611686018427387904) (hf:∀ s,eD Tryz.prog fv [sv s] H (fun r H'=>r=bv (q s)∧H'=H)) :
  aI Tryz.prog 93 [.pv (aW l),fv] H (fun r H'=>r=bv (l.any q)∧H'=H):=by
 have h:=xU fv l (fun k=>((l[k]?).map q).getD false) (fun _=>H) hl (fun k s hs=>by rw [hs];exact hf s);rw [GA] at h;exact h
def eB (s:ByteArray):Bool:=!decide (s=⟨#[]⟩)&&decide ((s.size:Int)≤200)
theorem HE (s:ByteArray) (H:aA):aI Tryz.prog 91 [sv s] H (fun r H'=>r=bv (eB s)∧H'=H):=by
 refine Pu ?_;refine Bd func91 rfl ntmps91<|Sr<|Dd aQ<|Zz<|Sq ?_;refine cX (t:=2) (n:=9) (X:=eB s) ?_ ?_
 ·all_goals refine Dd aE ?_
  all_goals refine Dd MB<|Dm ?_
  all_goals refine Sp 5 (fun h5=>?_) fun h5=>?_
  all_goals try contradiction
  all_goals first|refine Fo<|Fo<|Fo ?_|refine On aE<|On (xO aJ)<|On WJ ?_
  all_goals refine Dd dW<|Da ?_
  all_goals(exact⟨⟨_,rfl,by(simp only [eB, *];rfl)⟩,rfl,rfl,rfl⟩)
 exact aM<|Rt<|Qq
def wN (P:List ByteArray) (p:ByteArray×ByteArray×Nat):Bool:=!eB p.1||RB P p.1
def bigV (p:ByteArray×ByteArray×Nat):Bool:=decide ((20000:Int) < (p.2.1.size:Int))
def bG (l:bN) (P:List ByteArray):Int:=if l.any (wN P)||P.any (fun s=>!eB s)then 1 else if l.any bigV then 2 else 0
def BH (l:bN) (s:List Nat):Bool:=s.any fun i=>((l[i]?).map bigV).getD false
theorem KS {l:bN} {s:List Nat} {i:Nat} {p:ByteArray×ByteArray×Nat} (h:l[i]?=some p):BH l (s++[i])=(BH l s||bigV p):=by rw [BH,BH,List.any_append,List.any_cons,List.any_nil,Bool.or_false,h];rfl
theorem ON {l:bN} {s:List Nat} (hb:∀ i,i∈s→i < l.length) (ha:∀ i,i < l.length→i∈s):BH l s=l.any bigV:=by
 rw [Bool.eq_iff_iff,BH,List.any_eq_true,List.any_eq_true];constructor
 ·rintro⟨i,hi,h⟩;rw [XG (hb i hi)] at h;exact⟨_,List.getElem_mem (hb i hi),h⟩
 rintro⟨p,hp,h⟩;obtain ⟨i,hi⟩:=XW.1 hp;exact⟨i,ha i (XF.1 hi).1,by rw [hi];exact h⟩
abbrev UA:Ob:=bx 1 53 [.pv (.fn 91)]
abbrev VS (l:bN) (c:Nat) (s:List Nat):aA:=[(946,C1 950 l c s),(5,UA),(950,bH l c)]
theorem BV (s:ByteArray) (H:aA) (h5:H.get 5=some UA):aI Tryz.prog 94 [sv s,.ref 5 0 0 0] H (fun r H'=>r=bv (!eB s)∧H'=H):=by refine Bd func94 rfl ntmps94<|Sr<|Dd aQ<|Zz<|Sr<|Dd (by exact aX rfl isAgg53 rfl h5 rfl rfl rfl)<|Dd aE<|Dd (by exact fX rfl rfl rfl ((eD.fn call91 (HE s H))))<|Dd sA<|Dd aQ<|Zz<|aM ?_;refine a7 (H':=H) (.inr rfl) rfl (aG rfl) Fin.refl ?_;exact Qq
theorem P3 (l:bN) (c:Nat) (P:List ByteArray) (hst:dL l c) (hl:l.length < 1099511627776) (hP:P.length < 1099511627776) :
  aI Tryz.prog 46 [.mp 950 0,.pv (aW P)] [(950,bH l c)] (fun r H'=>r=iv (bG l P)∧H'=[(950,bH l c)]):=by
 refine Bd func46 rfl ntmps46<|Sr<|Dd aQ<|Zz<|Sr<|Dd (by exact b8 (id:=5) rfl UI rfl rfl)<|Uu (pF sizeOf53)<|Zz<|Sr<|Dd aQ<|Zz<|Sq<|Sr<|Dd aE<|Dd (by exact A0 (q:=946) (κ:=eT) (l:=bM l) rfl aU rfl rfl rfl rfl rfl rfl)<|Zz<|aN ?_;refine bI (σ:=List Nat) (fun s=>([(0,.mp 950 0),(1,.pv (aW P)),(5,.ref 5 0 0 0),(6,bv (BH l s)),(10,.it 946 0)],VS l c s)) (fun s=>(s.Nodup∧∀ i,i∈s→i < l.length)∧∀ i,i∈s→∀ p,l[i]?=some p→wN P p=false) (fun s=>l.length - s.length) [] ⟨⟨List.nodup_nil,by simp⟩,by simp⟩ ?_ ?_
 ·exact(bX.wk (Ea<|Eb<|Ea<|Eb<|Ea<|trivial) (Hc (HR rfl _ _ _)<|Hb<|Hc (aS _ _ _)<|trivial) ⟨rfl,trivial⟩)
 rintro s ⟨⟨hd,hb⟩,hok⟩;have hsl:s.length≤l.length:=jH _ _ hd hb;have hcf:=fun H (h5:H.get 5=some UA)=>zE (.clo 94 [.ref 5 0 0 0]) P (fun s=>!eB s) H (by omega) (fun s=>eD.clo call94 (BV s H h5));obtain ⟨ns,hns⟩:∃ b,b=P.any (fun s=>!eB s):=⟨_,rfl⟩;rw [← hns] at hcf;refine Sq<|Rg ?_;refine fR rfl rfl (FS (κ:=eT) (l:=bM l) rfl rfl rfl rfl rfl rfl rfl rfl rfl (XH _) (XH _)) ?_;rintro _ _ (⟨rfl,rfl,hn0⟩|⟨hni,hnp,hn1,hn2,rfl,rfl⟩)
 ·refine Dd dO<|Zz<|Sq ?_;refine Cn ?_ ?_<;>intro hc1
  ·cases hc1
  have hall:∀ i,i < l.length→i∈s:=fun i hi=>by
   have hq:(bM l)[i]?=some ((l[i]).1,sv (l[i]).2.1,(l[i]).2.2):=by rw [bM,XV,XG hi];rfl
   have:=hn0 _ (XL hq);obtain ⟨j,hj,e⟩:=List.mem_map.1 this;have e2:jE l j=jE l i:=by
    rw [e,jE,XG hi];rfl
   have:=EG hst (hb j hj) hi e2
   rwa [this] at hj
  have hbig:=ON hb hall;have hnb:l.any (wN P)=false:=by
   rw [Bool.eq_false_iff];intro h;obtain ⟨p,hp,h⟩:=List.any_eq_true.1 h;obtain ⟨i,hi⟩:=XW.1 hp;rw [hok i (hall i (XF.1 hi).1) p hi] at h;cases h
  have hV:bG l P=if ns=true then 1 else if l.any bigV=true then 2 else 0:=by rw [bG,hnb,← hns,Bool.false_or]
  rw [hV,hbig];obtain ⟨bg,hbg⟩:∃ b,b=l.any bigV:=⟨_,rfl⟩;rw [← hbg];refine bE<|Sq<|aN<|Sr<|Dd aE<|Dd (by exact eK rfl rfl)<|Dd (by exact aB rfl rfl call93 rfl (hcf _ rfl))<|Da ?_;refine Cn ?_ ?_<;>intro hc2
  ·have hn:ns=true:=hc2;rw [XA hn];refine Sr<|Dd aQ<|Zz<|aM ?_;refine a7 (H':=[(950,bH l c)]) (.inr rfl) rfl (aG rfl) (Fin.wk (by(simp;done)) (Hc (aS _ _ _)<|trivial) ⟨rfl,trivial⟩) ?_;exact Qq
  have hn:¬ ns=true:=by rw [show ns=false from hc2];decide
  rw [W9 hn];refine Sr<|Dd aE<|Da ?_;refine Cn ?_ ?_<;>intro hc3
  ·have hn2:bg=true:=hc3;rw [XA hn2];refine Sr<|Dd aQ<|Zz<|aM ?_;refine a7 (H':=[(950,bH l c)]) (.inr rfl) rfl (aG rfl) (Fin.wk (by(simp;done)) (Hc (aS _ _ _)<|trivial) ⟨rfl,trivial⟩) ?_;exact Qq
  have hn2:¬ bg=true:=by rw [show bg=false from hc3];decide
  rw [W9 hn2];refine aH<|Sr<|Dd aQ<|Zz<|aM ?_;refine a7 (H':=[(950,bH l c)]) (.inr rfl) rfl (aG rfl) (Fin.wk (by(simp;done)) (Hc (aS _ _ _)<|trivial) ⟨rfl,trivial⟩) ?_;exact Qq
 obtain ⟨p,hp,rfl⟩:=sQ hn1;have hlt:hni < l.length:=(XF.1 hp).1;have hst2:jE l hni=p.2.2:=by rw [jE,hp];rfl
 have hn3:hni∉s:=fun hm=>hn2 (List.mem_map.2 ⟨hni,hm,hst2⟩);have hb2:∀ i,i∈s++[hni]→i < l.length:=fun i hi=>by
  rcases List.mem_append.1 hi with h|h
  ·exact hb i h
  rw [XE] at h;omega
 have hd2:(s++[hni]).Nodup:=List.nodup_append.2 ⟨hd,by simp,fun a ha b hb e=>by rw [XE] at hb;subst hb;subst e;exact hn3 ha⟩;have hlen:=jH _ _ hd2 hb2;rw [XC,List.length_singleton] at hlen;have hit:C1 950 l c (s++[hni])=⟨0,0,0,dS (.mp 950 0) c c (s.map (jE l)++[p.2.2])⟩:=by rw [C1,List.map_append,List.map_cons,List.map_nil,hst2]
 have hin:=fun H=>BD P p.1 H (by omega);have hbg:=KS (s:=s) hp;refine Dd dO<|Zz<|Sq ?_;refine Cn ?_ ?_<;>intro hc4
 ·refine aH<|aN<|Sr<|Dd (by exact A1 (κ:=eT) (seen:=s.map (jE l)) (p:=(p.1,sv p.2.1,p.2.2)) (since:=c) rfl rfl rfl rfl rfl rfl rfl rfl rfl hn1)<|Dd dO<|Dd dO<|Dd aQ<|Dd aQ<|Zz<|Sq<|Sq ?_;refine fJ.ent (E':=[(0,.mp 950 0),(1,.pv (aW P)),(5,.ref 5 0 0 0),(6,bv (BH l s)),(10,.it 946 0),(7,sv p.1),(8,sv p.2.1)]) (H':=VS l c (s++[hni])) (bX.get' ⟨⟨_,rfl,rfl⟩,⟨_,rfl,rfl⟩,⟨_,rfl,rfl⟩,⟨_,rfl,rfl⟩,⟨_,rfl,rfl⟩,⟨_,rfl,rfl⟩,⟨_,rfl,rfl⟩,trivial⟩ (fun j=>by rw [VS,hit];exact gL 946 _ (C1 950 l c s) [(5,UA),(950,bH l c)] j)) ?_;refine cX (t:=24) (n:=10) (X:=wN P p) ?_ ?_
  ·all_goals refine Dd (eC isAgg53) ?_
   all_goals refine Dd aE<|Dd (by exact fX rfl rfl rfl ((eD.fn call91 (HE p.1 _))))<|Dd sA<|Dm ?_
   all_goals refine Sp 20 (fun h20=>?_) fun h20=>?_
   all_goals try contradiction
   all_goals first|refine Fo<|Fo<|Fo ?_|refine On aE<|On aE<|On (by exact aB rfl rfl call92 rfl (hin _)) ?_
   all_goals refine Dd dW<|Zz ?_
   all_goals(exact⟨⟨_,rfl,by(simp only [wN, *];rfl)⟩,rfl,rfl,rfl⟩)
  refine Cn ?_ ?_<;>intro hc5
  ·have hk2:wN P p=true:=hc5;have hV:bG l P=1:=by rw [bG,List.any_eq_true.2 ⟨p,XL hp,hk2⟩];rfl
   rw [hV];refine Sr<|Dd aQ<|Zz<|aM ?_;refine a7 (H':=[(950,bH l c)]) (.inr rfl) rfl (aG rfl) (Fin.wk (by(simp;done)) (Hc (aS _ _ _)<|trivial) ⟨rfl,trivial⟩) ?_;exact Qq
  have hk2:wN P p=false:=hc5;refine aH ?_;refine cX (t:=6) (n:=8) (X:=BH l s||bigV p) ?_ ?_
  ·all_goals refine Dd aE ?_
   all_goals refine Dm ?_
   all_goals refine Sp 26 (fun h26=>?_) fun h26=>?_
   all_goals try contradiction
   all_goals first|refine Fo<|Fo<|Fo ?_|refine On aE<|On (xO aJ)<|On yS ?_
   all_goals refine Dd dW<|Da ?_
   all_goals(exact⟨⟨_,rfl,by rw [h26];rfl⟩,rfl,rfl,rfl⟩)
  refine⟨s++[hni],⟨⟨hd2,hb2⟩,fun i hi q hq=>?_⟩,by rw [XC,List.length_singleton];omega,?_⟩
  ·rcases List.mem_append.1 hi with h|h
   ·exact hok i h q hq
   rw [XE] at h;subst h;rw [hp] at hq;cases hq;exact hk2
  rw [hbg];exact(bX.wk (Ea<|Eb<|Ea<|Eb<|Ea<|trivial) (Hc (HR rfl _ _ _)<|Hb<|Hc (aS _ _ _)<|trivial) ⟨rfl,trivial⟩)
 cases hc4
abbrev g6 (l:List ByteArray):List (List AV):=l.map (fun e=>(encStr e).map .pv)
def raw (e:GEdit) (s:ByteArray):Prop:=s=e.id∨s=e.other∨s=e.node∨s=e.obj.id∨s∈e.refs∨s∈e.obj.refs
abbrev dB (l:List ByteArray):List (List AV):=l.map (fun s=>(encStr s).map .pv)
theorem yJ {α:Type} [DecidableEq α]:∀ {l s:List α},l.Pairwise (fun a b=>a≠b)→(∀ x,x∈l→x∈s)→l.length≤s.length
 | [],s,_,_=>XS _
 | x::l,s,hp,hs=>by
  obtain ⟨h1,h2⟩:=List.pairwise_cons.1 hp;have hx:=hs x List.mem_cons_self;have h3:=yJ (s:=s.erase x) h2 (fun y hy=>(List.mem_erase_of_ne (fun e=>h1 y hy e.symm)).2 (hs y (List.mem_cons_of_mem _ hy)));rw [List.length_erase_of_mem hx] at h3;have:=List.length_pos_of_mem hx;show l.length+1≤s.length;omega
def xP (l:List ByteArray):Prop:=l.Pairwise (fun a b=>pS a b=true)
end Go.Proofs.YtmkgeogoojcciaaGreatDoor
section
namespace Go.Abs
theorem xL {P:Program} {N:Nat} {o:Oper} {E:bC} {H:aA} {T:TypeId} {t:Tmp} {e:TypeId} {id g off len sz:Nat} {ob:Ob} {row:List AV} {rows':List (List AV)} (ho:o.op=.call {callee:=.builtin .clear,args:=#[.tmp t],argTypes:=#[T]}) (hS:dD P T e sz) (hZ:fS P e row) (hrow:row.length=sz)
  (hx:E.get t=some (.osl id g off len)) (hH:H.get id=some ob) (hg:ob.g=g) (hosz:ob.sz=sz) (hoff:off≤ob.rows.length) (hrows:ob.rows.take off++(List.replicate len row++ob.rows.drop (off+len))=rows') :
  bP P N o E H .any ((id,⟨g,sz,ob.ty,rows'⟩)::H):=by
 intro a w I ι h1 h2 hr he K Q hkk;obtain ⟨v,hv,hvr⟩:=he t _ hx;obtain ⟨c,h3,h4,h5⟩:=z7 hr hvr hH hg;refine JQ (x:=.tmp t) (E:=(t,.osc id g off len c)::E) ho hS hZ hrow (bC.get_cons_same _ _ _) hH hg hosz hoff hrows a w I ι h1 h2 hr (fun u x hu=>?_) K Q hkk;by_cases e:t=u
 ·subst e;rw [bC.get_cons_same] at hu;cases hu;exact⟨v,hv,h5⟩
 rw [bC.get_cons_other _ _ e] at hu;exact he u x hu
end Go.Abs
namespace Go.Proofs.YtmkgeogoojcciaaGreatDoor
open Go.Proofs.Tryz
open Go.Abs
def bV:List ByteArray→List ByteArray
 | []=>[]
 | [x]=>[x]
 | x::y::r=>if x=y then bV (y::r)else x::bV (y::r)
theorem sY:∀ (l:List ByteArray) (x y:ByteArray),bV (l++[x,y])=bV (l++[x])++(if x=y then[] else[y])
 | [],x,y=>by
  show (if x=y then bV [y] else x::bV [y])=[x]++_;by_cases e:x=y
  ·rw [XA e,XA e,e];rfl
  rw [W9 e,W9 e];rfl
 | [a],x,y=>by
  show (if a=x then bV [x,y] else a::bV [x,y])=(if a=x then bV [x] else a::bV [x])++_;have:=sY [] x y;rw [show bV [x,y]=bV ([]++[x,y])from rfl,this]
  split<;>rfl
 | a::b::l,x,y=>by
  have:=sY (b::l) x y;show (if a=b then bV ((b::l)++[x,y])else a::bV ((b::l)++[x,y]))=(if a=b then bV ((b::l)++[x])else a::bV ((b::l)++[x]))++_;rw [this]
  split<;>rfl
theorem zG {L:List ByteArray} {k:Nat} {x y:ByteArray} (hk:1≤k) (hx:L[k - 1]?=some x) (hy:L[k]?=some y):bV (L.take (k+1))=bV (L.take k)++(if x=y then[] else[y]):=by
 obtain ⟨j,rfl⟩:∃ j,k=j+1:=⟨k - 1,by omega⟩;rw [show j+1 - 1=j by omega] at hx;have h1:L.take (j+1)=L.take j++[x]:=by rw [List.take_add_one,hx];rfl
 have h2:L.take (j+1+1)=L.take j++[x,y]:=by rw [List.take_add_one,h1,hy,List.append_assoc];rfl
 rw [h2,h1,sY]
theorem oG:∀ {l:List ByteArray} {x:ByteArray},x∈bV l↔x∈l
 | [],x=>Iff.rfl
 | [a],x=>Iff.rfl
 | a::b::l,x=>by
  show x∈(if a=b then bV (b::l)else a::bV (b::l))↔_;have ih:=oG (l:=b::l) (x:=x)
  split
  ·next e =>
   rw [ih,e];simp
  rw [XN,ih,List.mem_cons (a:=x) (b:=a)]
theorem rW:∀ {l:List ByteArray},l.Pairwise (fun a b=>pS b a=false)→xP (bV l)
 | [],_=>.nil
 | [a],_=>List.pairwise_singleton _ _
 | a::b::l,h=>by
  have h2:=(List.pairwise_cons.1 h).2;have ih:=rW h2;show xP (if a=b then bV (b::l)else a::bV (b::l))
  split
  ·exact ih
  next e =>
  refine List.pairwise_cons.2 ⟨fun y hy=>?_,ih⟩;have hy2:=oG.1 hy;have hba:pS b a=false:=(List.pairwise_cons.1 h).1 b List.mem_cons_self;have hab:pS a b=true:=by
   cases hc:pS a b with
   | true=>rfl
   | false=>exact absurd (zU hc hba) e
  rcases XN.1 hy2 with rfl|hy2
  ·exact hab
  have h3:=(List.pairwise_cons.1 h2).1 y hy2;cases hc:pS b y with
  | true=>exact x8 hab hc
  | false=>rw [zU h3 hc];exact hab
theorem yV:∀ (l:List ByteArray),(bV l).length≤l.length
 | []=>XH _
 | [a]=>XH _
 | a::b::l=>by
  have ih:=yV (b::l);show (if a=b then bV (b::l)else a::bV (b::l)).length≤(b::l).length+1
  split
  ·omega
  rw [XD];omega
theorem qT {l:List ByteArray} {i:Nat} {s:ByteArray} (h:l[i]?=some s):(g6 l)[i]?=some ((encStr s).map .pv):=by rw [XV,h];rfl
theorem FK {P L:List ByteArray} {j:Nat} {s:ByteArray} (h:P.length≤j) (hs:L[j]?=some s):(P++L.drop P.length)[j]?=some s:=by rw [List.getElem?_append_right h,List.getElem?_drop,show P.length+(j - P.length)=j by omega];exact hs
theorem FU {H:aA} {id:Nat} {o:Ob} (h:H.get id=some o) (j:Nat):aA.get ((id,o)::H) j=H.get j:=by
 by_cases e:j=id
 ·subst e;rw [get_cons_same,h]
 exact get_cons_other _ _ e
theorem zF (L:List ByteArray) (g:Nat) (H:aA) (h1:H.get 901=some ⟨g,1,9,g6 L⟩) (hl:L.length < 1099511627776) :
  aI Tryz.prog 47 [.osl 901 g 0 L.length] H (fun r H'=>r=.osl 901 g 0 (bV L).length∧H'=(901,⟨g,1,9,g6 (bV L++List.replicate (L.length - (bV L).length) sNil)⟩)::H):=by
 refine Bd func47 rfl ntmps47 ?_;refine fJ.ent (E':=[(0,.osl 901 g 0 L.length)]) (H':=(901,⟨g,1,9,g6 L⟩)::H) (bX.get' ⟨⟨_,rfl,rfl⟩,trivial⟩ (FU h1)) ?_;refine Sr<|Dd aQ<|Zz<|Sq<|Sr<|Dd aE<|Dd (by exact cS rfl aP rfl rfl rfl)<|Dd dN<|Zz ?_;refine Cn ?_ ?_<;>intro hc1
 ·have hlt:L.length < 2:=by have:=W7 hc1;omega
  have hc0:bV L=L:=by
   match L,hlt with
   | [],_=>rfl
   | [a],_=>rfl
  refine Sr<|Dd aE<|Dd aQ<|Zz<|aM ?_;refine a7 (H':=(901,⟨g,1,9,g6 L⟩)::H) (.inr rfl) rfl (aG rfl) Fin.refl ⟨by rw [hc0],by rw [hc0,Nat.sub_self,List.replicate_zero,List.append_nil]⟩
 have hge:2≤L.length:=by have:=W8 hc1;omega
 refine aH<|Sq<|Sr<|Dd aQ<|Zz<|aN ?_;refine bI (σ:=Nat) (fun i=>([(0,.osl 901 g 0 L.length),(3,iv (i:Int))],(901,⟨g,1,9,g6 L⟩)::H)) (fun i=>1≤i∧i≤L.length∧bV (L.take i)=L.take i) (fun i=>L.length - i) 1 ⟨by omega,by omega,by
  obtain ⟨x,hx⟩:=aY (l:=L) (k:=0) (by omega);rw [List.take_add_one,hx];rfl⟩ ?_ ?_
 ·exact bX.get' ⟨⟨_,rfl,rfl⟩,⟨_,rfl,rfl⟩,trivial⟩ (fun j=>rfl)
 rintro i ⟨hi1,hi2,hi3⟩;refine Sq<|Sr<|Dd aE<|Dd aE<|Dd (by exact cS rfl aP rfl rfl rfl)<|Dd dN<|Zz ?_;refine Cn ?_ ?_<;>intro hc2
 ·have hil:i < L.length:=by have:=W7 hc2;omega
  obtain ⟨y,hy⟩:=aY hil;obtain ⟨x,hx⟩:=aY (l:=L) (k:=i - 1) (by omega);have ht:=zG hi1 hx hy;refine aH<|Sq<|aN<|Sq<|bK follows<|Cq aE<|Cq aE<|Cq (by exact dQ rfl b5 rfl rfl rfl rfl rfl (by omega) (by exact XM _) hil (XT _))<|Cq (by exact aX rfl aV rfl rfl rfl (qT hy) rfl)<|Cq aE<|Cq aE<|Cq (by exact dM rfl rfl rfl (by exact g9 (by omega) (by omega)))<|Cq (by exact dQ (m:=i - 1) rfl b5 rfl rfl rfl rfl rfl (by omega) (show ((i:Int) - 1).toNat=i - 1 by omega) (by omega) (XT _))<|Cq (by exact aX rfl aV rfl rfl rfl (qT hx) rfl)<|Cq S3<|cQ<|Kr ?_;refine Cn ?_ ?_<;>intro hc3
  ·have hyx:=W7 hc3;rw [XA hyx.symm,List.append_nil,hi3] at ht;refine Sr<|Dd aE<|Dd aE<|Dd (by exact eW (l:=i) (h:=L.length) rfl b5 rfl rfl rfl rfl rfl rfl (by omega) (XH _) (XT _) rfl)<|Dd aQ<|Zz<|Sq<|Sr<|Dd aQ<|Zz<|aN ?_;refine tE (fun(k:Nat) (R:List ByteArray)=>([(0,.osl 901 g 0 L.length),(3,iv (R.length:Int)),(4,.osl 901 g i (L.length - i)),(5,iv (k:Int))],(901,⟨g,1,9,g6 (R++L.drop R.length)⟩)::H)) (fun k R=>1≤k∧i+k≤L.length∧R=bV (L.take (i+k))∧R.length+1≤i+k) (fun k R=>L.length - (i+k)) 1 (L.take i) ⟨by omega,by omega,ht.symm,by rw [XP];omega⟩ ?_ ?_
   ·have hti:(L.take i).length=i:=by rw [XP];omega
    rw [hti,List.take_append_drop];exact bX.get' ⟨⟨_,rfl,rfl⟩,⟨_,rfl,rfl⟩,⟨_,rfl,rfl⟩,⟨_,rfl,rfl⟩,trivial⟩ (fun j=>rfl)
   rintro k R ⟨hk1,hk2,hk3,hk4⟩;refine Sq<|Sr<|Dd aE<|Dd aE<|Dd (by exact cS rfl aP rfl rfl rfl)<|Dd dN<|Zz ?_;refine Cn ?_ ?_<;>intro hc4
   ·have hkl:i+k < L.length:=by have:=W7 hc4;omega
    obtain ⟨v,hv⟩:=aY hkl;obtain ⟨u,hu⟩:=aY (l:=L) (k:=i+k - 1) (by omega);have ht2:=zG (by omega) hu hv;have hv2:=qT (FK (P:=R) (by omega) hv);have hu2:=qT (FK (P:=R) (by omega) hu);refine aH<|Sq<|aN<|Sq<|bK follows<|Cq aE<|Cq aE<|Cq (by exact dQ (m:=k) rfl b5 rfl rfl rfl rfl rfl (by omega) (XM _) (by omega) rfl)<|Cq (by exact aX rfl aV rfl rfl rfl hv2 rfl)<|Cq aE<|Cq aE<|Cq (by exact dM rfl rfl rfl (by exact g9 (by omega) (by omega)))<|Cq (by exact dQ (m:=k - 1) (m2:=i+k - 1) rfl b5 rfl rfl rfl rfl rfl (by omega) (show ((k:Int) - 1).toNat=k - 1 by omega) (by omega) (by omega))<|Cq (by exact aX rfl aV rfl rfl rfl hu2 rfl)<|Cq MB<|cQ<|Kr ?_;refine Cn ?_ ?_<;>intro hc5
    ·have hne:¬ u=v:=fun e=>by
      have h:=hc5;rw [e] at h;simp at h
     rw [W9 hne,← hk3] at ht2;have hR0:∃ z,L[R.length]?=some z:=aY (by omega);obtain ⟨z,hz⟩:=hR0;have hat:(g6 (R++L.drop R.length))[R.length]?=some ((encStr z).map .pv):=qT (FK (P:=R) (XH _) hz);have hset:(g6 (R++L.drop R.length)).set R.length [sv v]=g6 ((R++[v])++L.drop (R++[v]).length):=by
      have hd:L.drop R.length=z::L.drop (R.length+1):=by
       obtain ⟨p,q⟩:=XF.1 hz;rw [List.drop_eq_getElem_cons p,q]
      rw [hd,XC,List.length_singleton,g6,List.map_append,List.map_cons,List.set_append_right _ _ (by rw [XB];exact XH _),XB,Nat.sub_self,List.set_cons_zero,List.append_assoc,g6,List.map_append,List.map_append];rfl
     refine Sr<|Dd aE<|Dd aE<|Dd aE<|Dd aE<|Dd (by exact dQ (m:=k) rfl b5 rfl rfl rfl rfl rfl (by omega) (XM _) (by omega) rfl)<|Dd (by exact aX rfl aV rfl rfl rfl hv2 rfl)<|Dd (by exact dQ rfl b5 rfl rfl rfl rfl rfl (by omega) (by exact XM _) (by omega:R.length < L.length) (XT _))<|Uu (by exact cU rfl sizeOf9 rfl rfl rfl rfl rfl hat (by simp [encStr]) rfl hset)<|Zz<|Rg<|Dd aE<|Dd mC<|Dd aQ<|Zz<|Rg<|Dd aE<|Dd mC<|Da ?_;refine⟨k+1,R++[v],⟨by omega,by omega,ht2.symm,by rw [XC,List.length_singleton];omega⟩,by omega,?_⟩;rw [show (((R++[v]).length:Nat):Int)=(R.length:Int)+1 by rw [XC,List.length_singleton];rfl];exact bX.dup ⟨⟨_,rfl,rfl⟩,⟨_,rfl,rfl⟩,⟨_,rfl,rfl⟩,⟨_,rfl,rfl⟩,trivial⟩
    have he:u=v:=by
     have h:=hc5;have h2:v=u:=by simpa using h
     exact h2.symm
    rw [XA he,List.append_nil,← hk3] at ht2;refine aH<|Rg<|Dd aE<|Dd mC<|Da ?_;refine⟨k+1,R,⟨by omega,by omega,ht2.symm,by omega⟩,by omega,?_⟩;exact bX.get' ⟨⟨_,rfl,rfl⟩,⟨_,rfl,rfl⟩,⟨_,rfl,rfl⟩,⟨_,rfl,rfl⟩,trivial⟩ (fun j=>rfl)
   have hge2:i+k=L.length:=by have:=W8 hc4;omega
   rw [hge2,List.take_length] at hk3;have hRl:R.length≤L.length:=by omega
   have hmix:(g6 (R++L.drop R.length)).length=L.length:=by
    rw [XB,XC,XQ];omega
   have hcl:(g6 (R++L.drop R.length)).take R.length++(List.replicate (L.length - R.length) [sv sNil]++(g6 (R++L.drop R.length)).drop (R.length+(L.length - R.length)))=g6 (R++List.replicate (L.length - R.length) sNil):=by
    have hd0:(g6 (R++L.drop R.length)).drop (R.length+(L.length - R.length))=[]:=List.drop_eq_nil_of_le (by rw [hmix];omega);rw [hd0,List.append_nil,g6,List.map_append,List.take_left' (XB _),g6,List.map_append,List.map_replicate];rfl
   refine bE<|Sr<|Dd aE<|Dd aE<|Dd (by exact eW (l:=R.length) (h:=L.length) rfl b5 rfl rfl rfl rfl rfl rfl hRl (XH _) (XT _) rfl)<|Uu (by exact xL rfl b5 WD rfl rfl rfl rfl rfl (by rw [hmix];exact hRl) hcl)<|Zz<|Sr<|Dd aE<|Dd aE<|Dd (by exact eW (l:=0) (h:=R.length) rfl b5 rfl rfl rfl rfl rfl rfl (XS _) hRl (XT _) rfl)<|Dd aQ<|Zz<|aM ?_;refine a7 (H':=(901,⟨g,1,9,g6 (R++List.replicate (L.length - R.length) sNil)⟩)::H) (.inr rfl) rfl (aG rfl) (Fin.get' (fun j=>gL _ _ _ _ j)) ⟨by rw [hk3];rfl,by rw [hk3]⟩
  have hyx:=W8 hc3;rw [W9 (fun e=>hyx e.symm),hi3] at ht;refine aH<|Rg<|Dd aE<|Dd mC<|Da ?_;refine⟨i+1,⟨by omega,by omega,?_⟩,by omega,bX.get' ⟨⟨_,rfl,rfl⟩,⟨_,rfl,rfl⟩,trivial⟩ (fun j=>rfl)⟩;rw [ht,List.take_add_one,hy];rfl
 have hge3:i=L.length:=by have:=W8 hc2;omega
 subst hge3;rw [List.take_length] at hi3;refine bE<|Sr<|Dd aE<|Dd aQ<|Zz<|aM ?_;refine a7 (H':=(901,⟨g,1,9,g6 L⟩)::H) (.inr rfl) rfl (aG rfl) Fin.refl ⟨by rw [hi3],by rw [hi3,Nat.sub_self,List.replicate_zero,List.append_nil]⟩
end Go.Proofs.YtmkgeogoojcciaaGreatDoor
end
namespace Go.Proofs.YtmkgeogoojcciaaGreatDoor
open Go.Proofs.Tryz
open Go.Abs Go.Lib
theorem CA (a b:ByteArray):pS a b=decide (B0 a < B0 b):=by unfold pS;rw [iI,ByteArray.toList_eq,ByteArray.toList_eq];rfl
theorem BZ (l:List UInt8):B0 (SG l)=l:=by simp [B0,SG]
theorem x7 (l:List ByteArray):(cH l).Pairwise (fun a b=>pS b a=false):=by unfold cH;rw [List.pairwise_map];refine List.Pairwise.imp (R:=fun(x y:List UInt8)=>decide (x≤y)=true) (fun {x y} h=>?_) (List.pairwise_mergeSort (le:=fun(x y:List UInt8)=>decide (x≤y)) (fun a b c h1 h2=>decide_eq_true (List.le_trans (W7 h1) (W7 h2))) tL _);rw [CA,BZ,BZ];exact decide_eq_false (List.not_lt.2 (W7 h))
theorem IQ {l:List ByteArray} (hn:l.Nodup):xP (cH l):=by
 have hp:(cH l).Pairwise (fun a b=>a≠b):=(pR l).symm.pairwise hn (fun {a b} h=>h.symm);refine(hp.and (x7 l)).imp fun {a b} h=>?_;obtain ⟨h1,h2⟩:=h;cases hc:pS a b with
 | true=>rfl
 | false=>exact absurd (zU hc h2) h1
theorem vY {l:List ByteArray} (h:xP l):l.Nodup:=by refine List.Pairwise.imp (fun {a b} h e=>?_) h;subst e;rw [GR] at h;cases h
theorem GS {a b:ByteArray} (h:pS a b=true):pS b a=false:=by
 cases e:pS b a with
 | false=>rfl
 | true=>have:=x8 h e;rw [GR] at this;cases this
theorem IR {l:List ByteArray} (h:xP l):cH l=l:=by
 have hp:(l.map B0).Pairwise (fun x y=>decide (x≤y)=true):=by
  rw [List.pairwise_map];refine h.imp fun {a b} h=>decide_eq_true ?_;have h2:=GS h;rw [CA] at h2;exact List.not_lt.1 (W8 h2)
 rw [cH,List.mergeSort_of_pairwise hp,HH]
theorem u0:∀ {l:List ByteArray},l.Pairwise (fun a b=>pS b a=false)→eE l=true
 | [],_=>rfl
 | [a],_=>rfl
 | a::b::r,h=>by
  have h1:=(List.pairwise_cons.1 h).1 b List.mem_cons_self;rw [eE,h1,u0 (List.pairwise_cons.1 h).2];rfl
theorem Q9 {l:List ByteArray} (h:xP l):l.Pairwise (fun a b=>pS b a=false):=h.imp fun {a b} h=>GS h
theorem yW:∀ {l:List ByteArray},l.Nodup→bV l=l
 | [],_=>rfl
 | [a],_=>rfl
 | a::b::r,h=>by
  have hn:=List.nodup_cons.1 h;have e:¬ a=b:=fun e=>hn.1 (by rw [e];exact List.mem_cons_self);show (if a=b then bV (b::r)else a::bV (b::r))=_;rw [W9 e,yW hn.2]
theorem AQ {k v:ByteArray} {n:Nat}:∀ {l:bN},eV l→(k,v,n)∈l→cI l k=some v
 | [],_,h=>by cases h
 | (k',a,m)::r,hn,h=>by
  have h2:=List.nodup_cons.1 hn;rw [cI];rcases XN.1 h with e|h
  ·cases e;rw [XA rfl]
  rw [W9 (fun e=>h2.1 (by subst e;exact List.mem_map.2 ⟨_,h,rfl⟩))];exact AQ h2.2 h
theorem AO {k v:ByteArray}:∀ {l:bN},cI l k=some v→∃ n,(k,v,n)∈l
 | [],h=>by cases h
 | (k',a,m)::r,h=>by
  rw [cI] at h;by_cases e:k'=k
  ·rw [XA e] at h;cases h;subst e;exact⟨m,List.mem_cons_self⟩
  rw [W9 e] at h;obtain ⟨n,hn⟩:=AO h;exact⟨n,List.mem_cons_of_mem _ hn⟩
theorem yO {a b:bN} (ha:eV a) (hb:eV b) (h:∀ k,cI a k=cI b k):(a.map Prod.fst).Perm (b.map Prod.fst):=(List.perm_ext_iff_of_nodup ha hb).2 fun k=>by
 have h1:=fQ (k:=k) (l:=a);have h2:=fQ (k:=k) (l:=b);rw [h k] at h1;exact Decidable.not_iff_not.1 (h1.symm.trans h2)
theorem x4 {a b:bN} (ha:eV a) (hb:eV b) (h:∀ k,cI a k=cI b k):cG a=cG b:=u3 (yO ha hb h)
theorem uO {a b:bN} (ha:eV a) (hb:eV b) (h:∀ k,cI a k=cI b k):a.length=b.length:=by
 have:=(yO ha hb h).length_eq
 rwa [XB,XB] at this
theorem IL {a b:bN} (ha:eV a) (hb:eV b) (h:∀ k,cI a k=cI b k) (P:List ByteArray):b7 a P=b7 b P:=by
 have hg:(fun x=>[x,dE a x])=fun x=>[x,dE b x]:=by
  funext x;rw [oS,oS,h]
 have hl:(bM a).length=(bM b).length:=by rw [bM,bM,XB,XB,uO ha hb h]
 rw [b7,b7,x4 ha hb h,wZ,wZ,hg,hl]
theorem x5 {a b:bN} (ha:eV a) (hb:eV b) (h:∀ k,cI a k=cI b k) (P:List ByteArray):a8 a P=a8 b P:=by rw [a8,a8,IL ha hb h]
theorem DW {a b:bN} (h:∀ k,cI a k=cI b k) (q:ByteArray×ByteArray×Nat→Bool) (hq:∀ k v n m,q (k,v,n)=q (k,v,m)) (ha:eV a):a.any q=true→b.any q=true:=by intro h1;obtain ⟨⟨k,v,n⟩,hp,h2⟩:=List.any_eq_true.1 h1;have e:=AQ ha hp;rw [h] at e;obtain ⟨m,hm⟩:=AO e;exact List.any_eq_true.2 ⟨_,hm,by rw [hq k v m n];exact h2⟩
theorem ID {a b:bN} (ha:eV a) (hb:eV b) (h:∀ k,cI a k=cI b k) (q:ByteArray×ByteArray×Nat→Bool) (hq:∀ k v n m,q (k,v,n)=q (k,v,m)):a.any q=b.any q :=Bool.eq_iff_iff.2 ⟨DW h q hq ha,DW (fun k=>(h k).symm) q hq hb⟩
theorem D8 {a b:bN} (ha:eV a) (hb:eV b) (h:∀ k,cI a k=cI b k) (P:List ByteArray):bG a P=bG b P:=by rw [bG,bG,ID ha hb h (wN P) (fun k v n m=>rfl),ID ha hb h bigV (fun k v n m=>rfl)]
def mA (W:List ByteArray):Nat→bN×Nat
 | 0=>([],0)
 | j+1=>(f0 (mA W j).1 (W.getD (2*j) sNil) (W.getD (2*j+1) sNil) (mA W j).2,lV (mA W j).1 (W.getD (2*j) sNil) (mA W j).2)
theorem vM (W:List ByteArray):∀ j,dL (mA W j).1 (mA W j).2∧eV (mA W j).1
 | 0=>⟨⟨List.Pairwise.nil,fun p hp=>(by cases hp)⟩,List.nodup_nil⟩
 | j+1=>⟨AR (vM W j).1 _ _,AS (vM W j).2 _ _ _⟩
theorem vT (k v:ByteArray) (c:Nat) (l:bN):l.length≤(f0 l k v c).length∧(f0 l k v c).length≤l.length+1:=by
 have h:=congrArg List.length (oT k v c l);rw [XB] at h;rw [h]
 split
 ·rw [XB];omega
 rw [XC,XB,List.length_singleton];omega
theorem uL (W:List ByteArray):∀ j,(mA W j).1.length≤j
 | 0=>XH _
 | j+1=>by
  have h1:=uL W j;have h2:=(vT (W.getD (2*j) sNil) (W.getD (2*j+1) sNil) (mA W j).2 (mA W j).1).2;show (f0 (mA W j).1 (W.getD (2*j) sNil) (W.getD (2*j+1) sNil) (mA W j).2).length≤_;omega
theorem AM (F R:List ByteArray):∀ j,2*j≤F.length→mA (F++R) j=mA F j
 | 0,_=>rfl
 | j+1,h=>by
  have h1:(F++R).getD (2*j) sNil=F.getD (2*j) sNil:=by rw [List.getD_eq_getElem?_getD,List.getD_eq_getElem?_getD,List.getElem?_append_left (by omega)]
  have h2:(F++R).getD (2*j+1) sNil=F.getD (2*j+1) sNil:=by rw [List.getD_eq_getElem?_getD,List.getD_eq_getElem?_getD,List.getElem?_append_left (by omega)]
  rw [mA,mA,AM F R j (by omega),h1,h2]
theorem yY (g:ByteArray→ByteArray):∀ (S:List ByteArray) (j:Nat) (s:ByteArray),S[j]?=some s→(S.flatMap fun x=>[x,g x])[2*j]?=some s∧(S.flatMap fun x=>[x,g x])[2*j+1]?=some (g s)
 | [],j,s,h=>by cases h
 | x::r,0,s,h=>by cases h;exact⟨rfl,rfl⟩
 | x::r,j+1,s,h=>yY g r j s h
theorem CQ (g:ByteArray→ByteArray) {S:List ByteArray} (hn:S.Nodup):∀ j,j≤S.length→(mA (S.flatMap fun x=>[x,g x]) j).1.map Prod.fst=S.take j∧∀ k,cI (mA (S.flatMap fun x=>[x,g x]) j).1 k=if k∈S.take j then some (g k)else none
 | 0,_=>⟨rfl,fun k=>by rw [List.take_zero,W9 XR];rfl⟩
 | j+1,h=>by
  obtain ⟨h1,h2⟩:=CQ g hn j (by omega);obtain ⟨s,hs⟩:=aY (l:=S) (k:=j) (by omega);obtain ⟨f1,f2⟩:=yY g S j s hs;have g1:(S.flatMap fun x=>[x,g x]).getD (2*j) sNil=s:=by rw [List.getD_eq_getElem?_getD,f1];rfl
  have g2:(S.flatMap fun x=>[x,g x]).getD (2*j+1) sNil=g s:=by rw [List.getD_eq_getElem?_getD,f2];rfl
  have ht:S.take (j+1)=S.take j++[s]:=cY hs;have hns:s∉S.take j:=fun hm=>by
   have hn2:(S.take (j+1)).Nodup:=hn.sublist (List.take_sublist _ _);rw [ht] at hn2;exact(List.nodup_append.1 hn2).2.2 s hm s (XE.2 rfl) rfl
  rw [mA,g1,g2,ht];constructor
  ·rw [oT,h2 s,W9 hns,h1];rfl
  intro k;rw [uP,h2 k];by_cases e:s=k
  ·subst e;rw [XA rfl,XA (by simp)]
  rw [W9 e];by_cases hk:k∈S.take j
  ·rw [XA hk,XA (List.mem_append_left _ hk)]
  rw [W9 hk,W9 (fun hm=>by
   rcases List.mem_append.1 hm with h|h
   ·exact hk h
   rw [XE] at h;exact e h.symm)]
theorem j5 {l:bN} {k:ByteArray}:k∈cG l↔k∈l.map Prod.fst:=(pR _).mem_iff
theorem EC {l:bN} (h:eV l):xP (cG l):=IQ h
theorem yL {l:bN} (h:eV l) (R:List ByteArray):∀ k,cI (mA (((cG l).flatMap fun x=>[x,dE l x])++R) l.length).1 k=cI l k:=by
 intro k;have hl:=gX l;rw [AM _ _ _ (by rw [f7,hl];omega)];obtain ⟨_,h2⟩:=CQ (dE l) (vY (EC h)) l.length (by omega);rw [h2,List.take_of_length_le (by omega)];by_cases hk:k∈cG l
 ·rw [XA hk,oS];cases e:cI l k with
  | some v=>rfl
  | none=>exact absurd (j5.1 hk) (fQ.1 e)
 rw [W9 hk];exact(fQ.2 (fun h=>hk (j5.2 h))).symm
abbrev xA (t:List UInt8):List ByteArray:=(dR t).1
abbrev SB (t:List UInt8):Int:=cT ((xA t).getD 0 sNil)
abbrev GX (t:List UInt8):Nat:=(SB t).toNat
abbrev eX (t:List UInt8):bN×Nat:=mA ((xA t).drop 1) (GX t)
abbrev cW (t:List UInt8):List ByteArray:=(xA t).drop (2*GX t+2)
def pY (t:List UInt8):Bool:=!(dR t).2||decide ((xA t).length=0)
def jO (t:List UInt8):Bool:=((gC ((xA t).getD 0 sNil)||decide (SB t < 0))||decide ((((xA t).length / 2:Nat):Int) < SB t))||decide (((xA t).length:Int) < 2*SB t+2)
def pX (t:List UInt8):Bool:=((((decide ((eX t).1.length+(cW t).length=0)||!decide (bG (eX t).1 (cW t)=0))||!decide (a8 (eX t).1 (cW t)=aR [ofL t]))||!eE (cW t))||decide ((bV (cW t)).length < (cW t).length))
def jN (t:List UInt8):Bool:=!pY t&&(!jO t&&!pX t)
theorem jD (l:bN) (P:List ByteArray):b7 l P=dA (l.length:Int)::(((cG l).flatMap fun x=>[x,dE l x])++(dA (P.length:Int)::P)):=by rw [b7,wZ,List.take_length,bM,XB,XB,List.cons_append,List.cons_append,List.append_assoc];rfl
theorem mO:∀ {L:List ByteArray} {x:ByteArray},x∈L→x.size≤(aR L).length
 | [],x,h=>by cases h
 | y::L,x,h=>by
  rw [dI,XC,XD,XC,cR];rcases XN.1 h with rfl|h
  ·omega
  have:=mO h;omega
theorem GW {l:bN} {P:List ByteArray} (hn:eV l) (hP:xP P) (h0:0 < l.length+P.length) (hw:bG l P=0) (hsz:(aR (b7 l P)).length < 1000000000000) :
  jN (aR (b7 l P))=true∧(∀ k,cI (eX (aR (b7 l P))).1 k=cI l k)∧cW (aR (b7 l P))=P:=by
 have hsp:dR (aR (b7 l P))=(b7 l P,true):=pE fun x hx=>by have:=mO hx;omega
 have hlen:=nX (b7 l P);have hparts:=jD l P;have hll:(b7 l P).length=2*l.length+2+P.length:=by
  rw [hparts,XD,XC,f7,gX,XD];omega
 have hD:(b7 l P).getD 0 sNil=dA (l.length:Int):=by rw [hparts];rfl
 have hi:dA (l.length:Int)=ofL (decDigits l.length):=i8 (by rw [a6,j8]);obtain ⟨n1,n2⟩:=r4 (l:=decDigits l.length) (u:=l.length) (dG (k:=18) (by omega) (by decide)) (mT _) (fun b=>mR _) (kM _);have hL:xA (aR (b7 l P))=b7 l P:=by rw [xA,hsp]
 have hV:SB (aR (b7 l P))=(l.length:Int):=by rw [SB,hL,hD,hi,n2]
 have hN:GX (aR (b7 l P))=l.length:=by rw [GX,hV,XM]
 have hput:∀ k,cI (eX (aR (b7 l P))).1 k=cI l k:=by
  rw [eX,hL,hN,hparts,List.drop_succ_cons,List.drop_zero];exact yL hn _
 have hnd:eV (eX (aR (b7 l P))).1:=(vM _ _).2;have hdrop:cW (aR (b7 l P))=P:=by
  rw [cW,hL,hN,show b7 l P=(dA (l.length:Int)::(((cG l).flatMap fun x=>[x,dE l x])++[dA (P.length:Int)]))++P by rw [hparts];simp];exact List.drop_left' (by rw [XD,XC,f7,gX];rfl)
 refine⟨?_,hput,hdrop⟩;have b1:pY (aR (b7 l P))=false:=by
  rw [pY,hL,hsp,hll,decide_eq_false (by omega)];rfl
 have b2:jO (aR (b7 l P))=false:=by
  rw [jO,hV,hL,hD,hi,n1,hll,decide_eq_false (by omega),decide_eq_false (by omega),decide_eq_false (by omega)];rfl
 have b3:pX (aR (b7 l P))=false:=by
  rw [pX,hdrop,D8 hnd hn hput,hw,x5 hnd hn hput,uO hnd hn hput,u0 (Q9 hP),yW (vY hP),decide_eq_false (by omega),decide_eq_true rfl,show a8 l P=aR [ofL (aR (b7 l P))] from rfl,decide_eq_true rfl,decide_eq_false (by omega)];rfl
 rw [jN,b1,b2,b3];rfl
theorem nY (n:Nat) (h:n < 1000000000000000000):(dA (n:Int)).size≤21:=p9 (by omega) (by omega)
theorem tT {M:Nat} (hM:M < 1000000000000000000):∀ (L:List ByteArray),(∀ s∈L,s.size≤M)→(aR L).length≤L.length*(M+22)
 | [],_=>XS _
 | s::r,h=>by
  have ih:=tT hM r (fun x hx=>h x (List.mem_cons_of_mem _ hx));have hs:=h s List.mem_cons_self;have hd:=dG (k:=18) (u:=s.size) (by omega) (by decide);rw [dI,XC,XD,XC,cR,XD,Nat.add_mul];omega
theorem uY:∀ (n:Nat) (t:List UInt8) (acc:List ByteArray) (x:ByteArray),x∈(eO n t acc).1→x∈acc∨x.size≤t.length
 | 0,t,acc,x,h=>.inl h
 | n+1,t,acc,x,h=>by
  have hcl:=(F3 t).2;rw [eO] at h
  split at h
  ·exact .inl h
  split at h
  ·cases h
  rcases uY n _ _ x h with h|h
  ·rcases List.mem_append.1 h with h|h
   ·exact .inl h
   rw [XE.1 h,bR,XP];exact .inr (by omega)
  rw [XQ] at h;exact .inr (by omega)
theorem zX {t:List UInt8} {x:ByteArray} (h:x∈xA t):x.size≤t.length:=by
 rcases uY _ _ _ _ h with h|h
 ·cases h
 exact h
theorem CY {k v:ByteArray} {c:Nat} {p:ByteArray×ByteArray×Nat}:∀ {l:bN},p∈f0 l k v c→p∈l∨(p.1=k∧p.2.1=v)
 | [],h=>by
  rw [XE.1 h];exact .inr ⟨rfl,rfl⟩
 | (k',a,n)::r,h=>by
  rw [f0] at h
  split at h
  ·rcases XN.1 h with h|h
   ·rw [h];exact .inr ⟨rfl,rfl⟩
   exact .inl (List.mem_cons_of_mem _ h)
  rcases XN.1 h with h|h
  ·rw [h];exact .inl List.mem_cons_self
  rcases CY h with h|h
  ·exact .inl (List.mem_cons_of_mem _ h)
  exact .inr h
theorem yU {W:List ByteArray} {M:Nat} (h:∀ x∈W,x.size≤M) (i:Nat):(W.getD i sNil).size≤M:=by
 rw [List.getD_eq_getElem?_getD];cases e:W[i]? with
 | none=>exact XS _
 | some x=>exact h x (XL e)
theorem HF {W:List ByteArray} {M:Nat} (h:∀ x∈W,x.size≤M):∀ (j:Nat) (p:ByteArray×ByteArray×Nat),p∈(mA W j).1→p.1.size≤M∧p.2.1.size≤M
 | 0,p,hp=>by cases hp
 | j+1,p,hp=>by
  rcases CY hp with h1|⟨h1,h2⟩
  ·exact HF h j p h1
  rw [h1,h2];exact⟨yU h _,yU h _⟩
theorem p7 {M:Nat} (k:ByteArray):∀ {l:bN},(∀ p∈l,p.2.1.size≤M)→(dE l k).size≤M
 | [],_=>XS _
 | (k',a,n)::r,h=>by
  rw [dE]
  split
  ·exact h _ List.mem_cons_self
  exact p7 k fun p hp=>h p (List.mem_cons_of_mem _ hp)
theorem xZ (l:bN) (P:List ByteArray):(b7 l P).length=2*l.length+2+P.length:=by rw [jD,XD,XC,f7,gX,XD];omega
theorem nL {l:bN} {P:List ByteArray} {M:Nat} (h21:21≤M) (hM:M < 1000000000) (hl:∀ p∈l,p.1.size≤M∧p.2.1.size≤M) (hP:∀ s∈P,s.size≤M) (hn:2*l.length+2+P.length < 1000000000) :
  (a8 l P).length≤(2*l.length+2+P.length)*(M+22)+22:=by
 have h1:(aR (b7 l P)).length≤(b7 l P).length*(M+22):=by
  refine tT (by omega) _ fun s hs=>?_;rw [jD] at hs;rcases XN.1 hs with rfl|hs
  ·have:=nY l.length (by omega);omega
  rcases List.mem_append.1 hs with hs|hs
  ·obtain ⟨x,hx,hs⟩:=List.mem_flatMap.1 hs;simp only [XN,XR,or_false] at hs;rcases hs with rfl|rfl
   ·obtain ⟨p,hp,rfl⟩:=List.mem_map.1 (j5.1 hx);exact(hl p hp).1
   exact p7 x fun p hp=>(hl p hp).2
  rcases XN.1 hs with rfl|hs
  ·have:=nY P.length (by omega);omega
  exact hP s hs
 rw [xZ] at h1;have hb:(2*l.length+2+P.length)*(M+22)≤1000000000*1000000022:=Nat.mul_le_mul (by omega) (by omega);have hd:=dG (k:=19) (u:=(aR (b7 l P)).length) (by omega) (by decide);rw [a8,dI,XC,XD,XC,a6,bR];have h0:(aR []).length=0:=rfl;omega
theorem ML {t:List UInt8} (ht:t.length < 1000000) (hb:jO t=false):(a8 (eX t).1 (cW t)).length < 35184372088832∧(eX t).1.length≤t.length∧(cW t).length≤t.length:=by
 have h1:=uL ((xA t).drop 1) (GX t);have hlen:(xA t).length≤t.length:=by
  have go:∀ (n:Nat) (u:List UInt8) (acc:List ByteArray),(eO n u acc).1.length≤acc.length+n:=by
   intro n
   induction n with
   | zero=>intro u acc;exact Nat.le_add_right _ _
   | succ n ih =>
    intro u acc;rw [eO]
    split
    ·exact Nat.le_add_right _ _
    split
    ·exact XS _
    have:=ih ((tZ u).drop (HX u)) (acc++[ofL ((tZ u).take (HX u))]);rw [XC,List.length_singleton] at this;omega
  have:=go t.length t [];rw [List.length_nil,XT] at this;exact this
 rw [jO] at hb;simp only [XX,XJ] at hb;have h2:GX t≤(xA t).length / 2:=by
  have h3:=hb.1.2;have h4:=hb.1.1.2;rw [GX];omega
 have h5:(eX t).1.length≤t.length:=by
  show (mA ((xA t).drop 1) (GX t)).1.length≤_;omega
 have h6:(cW t).length≤t.length:=by
  rw [cW,XQ];omega
 refine⟨?_,h5,h6⟩;have h7:=nL (l:=(eX t).1) (P:=cW t) (M:=1000000) (by decide) (by decide) (fun p hp=>by
  have:=HF (W:=(xA t).drop 1) (M:=t.length) (fun x hx=>zX (List.mem_of_mem_drop hx)) _ p hp;omega) (fun s hs=>by have:=zX (List.mem_of_mem_drop hs);omega) (by omega)
 have h8:(2*(eX t).1.length+2+(cW t).length)*(1000000+22)≤3000002*1000022:=Nat.mul_le_mul (by omega) (by omega);omega
structure Calm (d:DSt) (n:Nat):Prop where
 inv:DInv d n 0
 off:d.off=false
 na:∀ a w b,d.arm≠.on a w b
theorem Calm.q {d:DSt} {n:Nat} (h:Calm d n):d.q=[]:=List.length_eq_zero_iff.1 (Nat.le_zero.1 h.inv.q)
theorem oH {n:Nat} (h1:1≤n) (h2:n≤8000):Calm (jK n) n:=⟨Q8 h1 h2,rfl,fun a w b h=>by cases h⟩
theorem zC {s:DSt} (h:∀ a w b,s.arm≠.on a w b):dF s=s∧dY s=0:=by
 unfold dF dY;cases e:s.arm with
 | on a w b=>exact absurd e (h a w b)
 | never=>exact⟨rfl,rfl⟩
 | off a w b=>exact⟨rfl,rfl⟩
def jX (cells:List ByteArray) (p:Nat):List ByteArray→List ByteArray
 | []=>cells
 | t::r=>jX (cells.set p t) (p+1) r
def qN (p:Nat):List ByteArray→List (Nat×ByteArray)
 | []=>[]
 | t::r=>(p,t)::qN (p+1) r
theorem zZ:∀ (A B:List ByteArray) (p:Nat),qN p (A++B)=qN p A++qN (p+A.length) B
 | [],B,p=>rfl
 | t::A,B,p=>by
  rw [List.cons_append,qN,qN,zZ A B (p+1),List.cons_append,XD,Nat.add_assoc p 1,Nat.add_comm 1 A.length]
theorem uI:∀ (L cells:List ByteArray) (p:Nat),cF cells (qN p L)=jX cells p L
 | [],_,_=>rfl
 | t::r,cells,p=>uI r (cells.set p t) (p+1)
theorem jG:∀ (L cells:List ByteArray) (p:Nat),(jX cells p L).length=cells.length
 | [],_,_=>rfl
 | t::r,cells,p=>(jG r (cells.set p t) (p+1)).trans List.length_set
theorem iB:∀ (L cells:List ByteArray) (p j:Nat),(jX cells p L)[j]?=if p≤j∧j < p+L.length∧j < cells.length then L[j - p]? else cells[j]?
 | [],cells,p,j=>by rw [jX,W9 (by rw [List.length_nil];omega)]
 | t::r,cells,p,j=>by
  rw [jX,iB r (cells.set p t) (p+1) j,List.length_set,XD];by_cases h:p≤j∧j < p+(r.length+1)∧j < cells.length
  ·rw [XA h];by_cases e:p=j
   ·subst e;rw [W9 (by omega),List.getElem?_set_self h.2.2,Nat.sub_self];rfl
   rw [XA (by omega),show j - p=(j - (p+1))+1 by omega,List.getElem?_cons_succ]
  rw [W9 h,W9 (by omega)];by_cases e:p=j
  ·subst e;have hl:cells.length≤p:=by omega
   rw [List.getElem?_eq_none (by rw [List.length_set];exact hl),List.getElem?_eq_none hl]
  rw [List.getElem?_set_ne e]
theorem BX {d:DSt} {n:Nat} (h:Calm d n) {place:Nat} {L:List ByteArray} (hp:place+L.length≤n) (hs:∀ t∈L,t.size=64):∀ i,i≤L.length→l9 d place L i=(0,{d with q:=qN place (L.take i),gq:=d.gq+i})
 | 0,_=>by
  rw [l9,List.take_zero,qN,← h.q];rfl
 | i+1,hi=>by
  obtain ⟨t,ht⟩:=aY (l:=L) (k:=i) (by omega);have hz:=hs t (XL ht);have hD:L.getD i sNil=t:=by rw [List.getD_eq_getElem?_getD,ht];rfl
  have hq:qN place (L.take (i+1))=qN place (L.take i)++[(place+i,t)]:=by
   rw [cY ht,zZ,XP,Nat.min_eq_left (by omega)];rfl
  obtain ⟨s,hS⟩:∃ s,s=({d with q:=qN place (L.take i),gq:=d.gq+i}:DSt):=⟨_,rfl⟩;have so:s.off=false:=by rw [hS];exact h.off
  have sc:eR s ((place+i:Nat):Int)=true:=by
   rw [iX,hS];exact decide_eq_true (by have:=h.inv.n;show place+i < d.cells.length;omega)
  obtain ⟨c1,c2⟩:=zC (s:=iS s (place+i) t) (by rw [hS];exact h.na);rw [l9,BX h hp hs i (by omega),XA rfl,hD,hq,← hS];have w1:gM s ((place+i:Nat):Int) t=0:=by rw [gM,so,W9 (by decide),sc,decide_eq_true hz,XA (show (true&&true)=true from rfl),XM,c2]
  have w2:iG s ((place+i:Nat):Int) t=iS s (place+i) t:=by rw [iG,so,W9 (by decide),sc,decide_eq_true hz,XA (show (true&&true)=true from rfl),XM,c1]
  rw [w1,w2,hS];rfl
theorem LX {d:DSt} {n:Nat} (h:Calm d n) {place:Nat} {L:List ByteArray} (hp:place+L.length≤n) (hs:∀ t∈L,t.size=64):iP d place L=(0,{d with cells:=jX d.cells place L,q:=[],gq:=d.gq+L.length+1}):=by
 have hk:=BX h hp hs L.length (XH _);rw [List.take_length] at hk;obtain ⟨s,hS⟩:∃ s,s=({d with q:=qN place L,gq:=d.gq+L.length}:DSt):=⟨_,rfl⟩;have so:s.off=false:=by rw [hS];exact h.off
 obtain ⟨c1,c2⟩:=zC (s:=s) (by rw [hS];exact h.na);rw [← hS] at hk;have w1:lA s=0:=by rw [lA,so,W9 (by decide),c2]
 have w2:iH s=sX s:=by rw [iH,so,W9 (by decide),c2,XA rfl,c1]
 rw [iP,hk,XA rfl,w1,w2,sX,hS];show (0,({d with cells:=cF d.cells (qN place L),q:=[],gq:=d.gq+L.length+1}:DSt))=_;rw [uI]
theorem rY {d:DSt} {n:Nat} (h:Calm d n) {place:Nat} {L:List ByteArray} (hp:place+L.length≤n) (hs:∀ t∈L,t.size=64) (hm:L.length≤1048576):(iP d place L).1=0∧Calm (iP d place L).2 n∧(iP d place L).2.cells=jX d.cells place L:=by have hi:=jW h.inv place L (by omega);rw [LX h hp hs] at hi ⊢;exact⟨rfl,⟨⟨hi.ok,hi.arm,hi.n,XS _⟩,h.off,h.na⟩,rfl⟩
theorem kN {d:DSt} {n:Nat} (h:Calm d n) (i:Nat):bS d i=(d.cells[i]?).getD ⟨#[]⟩:=by rw [bS,h.q];rfl
theorem AX (place:Nat) {a n:Nat} (ha:a < 10) (hn:n < 10000000):(hS place a n).size=64:=by rw [bR,yR,x9];rw [XC,jR (m6 a (by omega) (by omega)),jR (m6 n (by omega) (by omega))];omega
theorem E4 (place:Nat) {p:List UInt8} (h:p.length≤46):(d7 place p).length=64:=by rw [d7,x9];rw [XC,jR (m6 _ (by omega) (by omega))];omega
theorem IW (fr:Nat) (t:List UInt8) (i:Nat):∀ x∈iW fr t i,x.size=64:=fun x hx=>by
 obtain ⟨j,hj,rfl⟩:=List.mem_map.1 hx;rw [bR,E4 _ (by rw [lP];omega)]
theorem qV {fr:Nat} {t:List UInt8} {i j:Nat} (h:j < i):(iW fr t i)[j]?=some (ofL (d7 (fr+j) (e8 t j))):=by rw [iW,XV,List.getElem?_range h];rfl
theorem OI {d:DSt} {n:Nat} (h:Calm d n) (hn:2≤n) {a cn:Nat} (ha:a < 10) (hc:cn < 10000000):(uA d a cn).1=0∧Calm (uA d a cn).2 n∧(uA d a cn).2.cells=(d.cells.set 1 (hS 1 a cn)).set 0 (hS 0 a cn):=by obtain ⟨a1,a2,a3⟩:=rY h (place:=1) (L:=[hS 1 a cn]) (by rw [List.length_singleton];omega) (fun t ht=>by rw [XE.1 ht];exact AX _ ha hc) (by rw [List.length_singleton];omega);obtain ⟨b1,b2,b3⟩:=rY a2 (place:=0) (L:=[hS 0 a cn]) (by rw [List.length_singleton];omega) (fun t ht=>by rw [XE.1 ht];exact AX _ ha hc) (by rw [List.length_singleton];omega);rw [uA,XA a1];exact⟨b1,b2,by rw [b3,a3];rfl⟩
theorem rZ {d:DSt} {n:Nat} (h:Calm d n) {k a cn:Nat} {t:List UInt8} (hk:2*k+2≤n) (hn:n≤8000) (ha:a < 2) (hc:cn+cM t≤k) :
  (iO d k a cn t).1=0∧Calm (iO d k a cn t).2 n∧(iO d k a cn t).2.cells=((jX d.cells (2+a*k+cn) (iW (2+a*k+cn) t (cM t))).set 1 (hS 1 a (cn+cM t))).set 0 (hS 0 a (cn+cM t)):=by
 have hak:a*k≤k:=by
  rcases(show a=0∨a=1 by omega)with e|e<;>subst e<;>omega
 obtain ⟨a1,a2,a3⟩:=rY h (place:=2+a*k+cn) (L:=iW (2+a*k+cn) t (cM t)) (by rw [cV];omega) (IW _ _ _) (by rw [cV];omega);obtain ⟨b1,b2,b3⟩:=OI a2 (a:=a) (cn:=cn+cM t) (by omega) (by omega) (by omega);rw [iO,XA a1];exact⟨b1,b2,by rw [b3,a3]⟩
abbrev CT:=ByteArray→Option ByteArray
def oF (C:CT) (l:bN) (D:List ByteArray):CT:=fun x=>if x∈D then none else(cI l x).orElse fun _=>C x
def TR (C:CT) (t:List UInt8):CT:=oF C (eX t).1 (cW t)
def m7 (T:List (List UInt8)):CT:=T.foldl TR (fun _=>none)
theorem qG (T:List (List UInt8)) (t:List UInt8):m7 (T++[t])=TR (m7 T) t:=by rw [m7,List.foldl_append];rfl
theorem N9 {C:CT} {l:bN} {D:List ByteArray} {x v:ByteArray} (h:oF C l D x=some v):cI l x=some v∨C x=some v:=by
 rw [oF] at h
 split at h
 ·cases h
 cases e:cI l x with
 | none=>rw [e] at h;exact .inr h
 | some u=>rw [e] at h;exact .inl h
theorem H8 (T:List (List UInt8)) {x v:ByteArray}:m7 T x=some v→∃ t∈T,cI (eX t).1 x=some v:=by
 have go:∀ (n:Nat) (T:List (List UInt8)),T.length=n→m7 T x=some v→∃ t∈T,cI (eX t).1 x=some v:=by
  intro n
  induction n with
  | zero =>
   intro T hT h;rw [List.length_eq_zero_iff.1 hT] at h;cases h
  | succ n ih =>
   intro T hT h;have hne:T≠[]:=fun e=>by rw [e] at hT;cases hT
   have e:T=T.dropLast++[T.getLast hne]:=(List.dropLast_concat_getLast hne).symm;rw [e,qG] at h;rcases N9 h with h|h
   ·exact⟨_,List.getLast_mem hne,h⟩
   obtain ⟨t,ht,h2⟩:=ih T.dropLast (by rw [List.length_dropLast];omega) h;exact⟨t,List.dropLast_subset T ht,h2⟩
 exact go T.length T rfl
theorem u7 {t:List UInt8} (h:jN t=true):(dR t).2=true∧jO t=false∧0 < (eX t).1.length+(cW t).length∧bG (eX t).1 (cW t)=0:=by rw [jN] at h;simp only [XK,Bool.not_eq_true'] at h;obtain ⟨h1,h2,h3⟩:=h;rw [pY,XX] at h1;rw [pX] at h3;simp only [XX,XJ,Bool.not_eq_false',XI] at h3;refine⟨by simpa using h1.1,h2,by have:=h3.1.1.1.1;omega,h3.1.1.1.2⟩
theorem mD {l:bN} {D:List ByteArray} (h:bG l D=0):(∀ p∈l,eB p.1=true∧p.1∉D∧p.2.1.size≤20000)∧∀ s∈D,eB s=true:=by
 rw [bG] at h
 split at h
 ·cases h
 next h1 =>
 split at h
 ·cases h
 next h2 =>
 rw [Bool.not_eq_true,XX] at h1;constructor
 ·intro p hp;have a1:=List.any_eq_false.1 h1.1 p hp;have a2:=List.any_eq_false.1 (Bool.not_eq_true _▸h2) p hp;rw [wN] at a1;rw [bigV] at a2;simp only [Bool.not_eq_true,XX,Bool.not_eq_false',XJ] at a1 a2;refine⟨a1.1,fun hm=>?_,by omega⟩;rw [iE.2 hm] at a1;cases a1.2
 intro s hs;have a1:=List.any_eq_false.1 h1.2 s hs
 simpa using a1
theorem vU {l:bN} {D:List ByteArray} (h1:∀ p∈l,eB p.1=true∧p.1∉D∧p.2.1.size≤20000) (h2:∀ s∈D,eB s=true):bG l D=0:=by
 have a1:l.any (wN D)=false:=List.any_eq_false.2 fun p hp=>by
  have:=h1 p hp;rw [wN,this.1,Bool.not_true,Bool.false_or];exact fun e=>this.2.1 (iE.1 e)
 have a2:D.any (fun s=>!eB s)=false:=List.any_eq_false.2 fun s hs=>by rw [h2 s hs];decide
 have a3:l.any bigV=false:=List.any_eq_false.2 fun p hp=>by
  have:=(h1 p hp).2.2;rw [bigV];simp only [XI];omega
 rw [bG,a1,a2,a3];rfl
theorem U2 {T:List (List UInt8)} (hT:∀ t∈T,jN t=true) {x v:ByteArray} (h:m7 T x=some v):eB x=true∧v.size≤20000:=by obtain ⟨t,ht,h2⟩:=H8 T h;obtain ⟨n,hn⟩:=AO h2;have:=(mD (u7 (hT t ht)).2.2.2).1 _ hn;exact⟨this.1,this.2.2⟩
theorem N8 {T:List (List UInt8)} (hT:∀ t∈T,jN t=true) {l:bN} (hn:eV l) (hl:∀ x,cI l x=m7 T x):bG l []=0 :=vU (fun⟨x,v,n⟩ hp=>by
  have:=U2 hT ((hl x).symm.trans (AQ hn hp));exact⟨this.1,XR,this.2⟩) (fun s hs=>by cases hs)
theorem M7 {α:Type} [DecidableEq α]:∀ {l m:List α},l.Nodup→(∀ x,x∈l→x∈m)→l.length≤m.length
 | [],m,_,_=>XS _
 | a::l,m,hn,h=>by
  have hn2:=List.nodup_cons.1 hn;have hm:a∈m:=h a List.mem_cons_self;have h2:=M7 (l:=l) (m:=m.erase a) hn2.2 (fun x hx=>(List.mem_erase_of_ne (fun e=>by subst e;exact hn2.1 hx)).2 (h x (List.mem_cons_of_mem _ hx)));rw [List.length_erase_of_mem hm] at h2;have:=List.length_pos_of_mem hm;rw [XD];omega
theorem pN:∀ (n:Nat) (t:List UInt8) (acc:List ByteArray),(eO n t acc).1.length≤acc.length+n
 | 0,t,acc=>Nat.le_add_right _ _
 | n+1,t,acc=>by
  rw [eO]
  split
  ·exact Nat.le_add_right _ _
  split
  ·exact XS _
  have:=pN n ((tZ t).drop (HX t)) (acc++[ofL ((tZ t).take (HX t))]);rw [XC,List.length_singleton] at this;omega
theorem GY (t:List UInt8):(xA t).length≤t.length:=by have:=pN t.length t [];rw [List.length_nil,XT] at this;exact this
theorem I4 {t:List UInt8} (h:jO t=false):(eX t).1.length≤t.length:=by
 have h1:=uL ((xA t).drop 1) (GX t);have h2:=GY t;rw [jO] at h;simp only [XX,XJ] at h;have h3:=h.1.2;have h4:=h.1.1.2;have:GX t≤(xA t).length / 2:=by rw [GX];omega
 show (mA ((xA t).drop 1) (GX t)).1.length≤_;omega
theorem TQ {T:List (List UInt8)} (hT:∀ t∈T,jN t=true) {l:bN} (hn:eV l) (hl:∀ x,cI l x=m7 T x):l.length≤(aR (T.map ofL)).length:=by
 have h1:(l.map Prod.fst).length≤(T.flatMap fun t=>(eX t).1.map Prod.fst).length:=M7 hn (fun x hx=>by
  cases e:cI l x with
  | none=>exact absurd hx (fQ.1 e)
  | some v =>
   rw [hl] at e;obtain ⟨t,ht,h2⟩:=H8 T e;obtain ⟨n,h3⟩:=AO h2;exact List.mem_flatMap.2 ⟨t,ht,List.mem_map.2 ⟨_,h3,rfl⟩⟩)
 rw [XB] at h1;refine Nat.le_trans h1 ?_;clear h1 hl hn
 induction T with
 | nil=>exact XS _
 | cons t T ih =>
  have:=ih (fun t ht=>hT t (List.mem_cons_of_mem _ ht));have h2:=I4 (u7 (hT t List.mem_cons_self)).2.1;rw [List.flatMap_cons,XC,XB,List.map_cons,dI,XC,XD,XC,a6];omega
structure LogAt (cells:List ByteArray) (fr:Nat) (Q:List (List UInt8)):Prop where
 p:∀ q∈Q,1≤q.length∧q.length≤46
 at':∀ i q,Q[i]?=some q→cells[fr+i]?=some (ofL (d7 (fr+i) q))
structure SInv (cells:List ByteArray) (k a n:Nat) (C:CT):Prop where
 k1:1≤k
 kn:2*k+2≤cells.length∧cells.length≤2*k+3
 a2:a < 2
 nk:n≤k
 hd:(cells[1]?=some (hS 1 a n)∧cells[0]?=some (hS 0 a n))∨(cells[1]?=some zS∧cells[0]?=some zS∧a=0∧n=0)
 lg:∃ (Q T:List (List UInt8)),Q.length=n∧LogAt cells (2+a*k) Q∧Q.flatten=aR (T.map ofL)∧(∀ t∈T,jN t=true)∧C=m7 T
theorem qE:∀ {Q:List (List UInt8)},(∀ q∈Q,1≤q.length∧q.length≤46)→Q.flatten.length≤46*Q.length
 | [],_=>XH _
 | q::Q,h=>by
  have:=qE (Q:=Q) (fun q hq=>h q (List.mem_cons_of_mem _ hq));have:=(h q List.mem_cons_self).2;rw [List.flatten_cons,XC,XD];omega
theorem SInv.len {cells:List ByteArray} {k a n:Nat} {C:CT} (h:SInv cells k a n C) {l:bN} (hn:eV l) (hl:∀ x,cI l x=C x):l.length≤46*n:=by obtain ⟨Q,T,h1,h2,h3,h4,h5⟩:=h.lg;have:=TQ h4 hn (fun x=>by rw [hl,h5]);have:=qE h2.p;rw [h3] at this;omega
theorem SInv.wrong {cells:List ByteArray} {k a n:Nat} {C:CT} (h:SInv cells k a n C) {l:bN} (hn:eV l) (hl:∀ x,cI l x=C x):bG l []=0:=by obtain ⟨Q,T,h1,h2,h3,h4,h5⟩:=h.lg;exact N8 h4 hn (fun x=>by rw [hl,h5])
theorem qO {k place:Nat}:jU k place zS=false:=by
 have h:gC (zS.extract 16 24)=true:=by
  have e:(zS.extract 16 24).data.toList=[0,0,0,0,0,0,0,0]:=by
   rw [eN,a6];rfl
  rw [gC,e];rfl
 have hb:kH zS=true:=by rw [kH,h];rfl
 rw [jU,hb];rfl
theorem nN {n:Nat} (h1:4≤n):SInv (jK n).cells ((n - 2) / 2) 0 0 (fun _=>none):=by
 have hl:(jK n).cells.length=n:=by rw [jK,List.length_replicate]
 have hz:∀ i,i < n→(jK n).cells[i]?=some zS:=fun i hi=>by
  show (List.replicate n z64)[i]?=_;rw [List.getElem?_replicate,XA hi];rfl
 refine⟨by omega,by omega,by omega,by omega,.inr ⟨hz 1 (by omega),hz 0 (by omega),rfl,rfl⟩,[],[],rfl,⟨fun q hq=>(by cases hq),fun i q hq=>(by cases hq)⟩,rfl,fun t ht=>(by cases ht),rfl⟩
theorem MF {cells:List ByteArray} {k a n:Nat} {C:CT} (h:SInv cells k a n C) {l:bN} {D:List ByteArray} (hn:eV l) (hD:xP D) (h0:0 < l.length+D.length) (hw:bG l D=0) (hc:n+cM (a8 l D)≤k) (hk:k < 5000) :
  SInv (((jX cells (2+a*k+n) (iW (2+a*k+n) (a8 l D) (cM (a8 l D)))).set 1 (hS 1 a (n+cM (a8 l D)))).set 0 (hS 0 a (n+cM (a8 l D)))) k a (n+cM (a8 l D)) (oF C l D):=by
 obtain ⟨Q,T,h1,h2,h3,h4,h5⟩:=h.lg;have hin:=qR (l:=l) (P:=D) (N:=1000000) (by have:=hc;rw [cM] at this;omega);obtain ⟨r1,r2,r3⟩:=GW hn hD h0 hw (by omega);obtain ⟨t,ht⟩:∃ t,t=a8 l D:=⟨_,rfl⟩;have htj:t=aR [ofL (aR (b7 l D))]:=ht;rw [← ht] at hc ⊢;have hak:a*k≤k:=by
  have:=h.a2;rcases(show a=0∨a=1 by omega)with e|e<;>subst e<;>omega
 have hlen:=h.kn;refine⟨h.k1,by rw [List.length_set,List.length_set,jG];exact h.kn,h.a2,hc,.inl ⟨?_,?_⟩,Q++(List.range (cM t)).map (e8 t),T++[aR (b7 l D)],?_,⟨?_,?_⟩,?_,?_,?_⟩
 ·rw [List.getElem?_set_ne (by omega),List.getElem?_set_self (by rw [jG];omega)]
 ·rw [List.getElem?_set_self (by rw [List.length_set,jG];omega)]
 ·rw [XC,XB,List.length_range,h1]
 ·intro q hq;rcases List.mem_append.1 hq with hq|hq
  ·exact h2.p q hq
  obtain ⟨i,hi,rfl⟩:=List.mem_map.1 hq;exact CL (List.mem_range.1 hi)
 ·intro i q hq;rw [List.getElem?_set_ne (by omega),List.getElem?_set_ne (by omega),iB,cV];by_cases hi:i < n
  ·rw [List.getElem?_append_left (by omega)] at hq;rw [W9 (by omega)];exact h2.at' i q hq
  rw [List.getElem?_append_right (by omega),h1,XV] at hq;have hi2:i - n < cM t:=by
   by_cases e:i - n < cM t
   ·exact e
   rw [List.getElem?_eq_none (by rw [List.length_range];omega)] at hq;cases hq
  rw [List.getElem?_range hi2] at hq;cases hq;rw [XA (by omega),show 2+a*k+i - (2+a*k+n)=i - n by omega,qV hi2,show 2+a*k+n+(i - n)=2+a*k+i by omega]
 ·rw [List.flatten_append,G9,h3,htj,List.map_append,C0];rfl
 ·intro u hu;rcases List.mem_append.1 hu with hu|hu
  ·exact h4 u hu
  rw [XE.1 hu];exact r1
 rw [qG,← h5,TR,r3];funext x;rw [oF,oF,r2]
def fG (l:bN):List ByteArray:=(cG l).flatMap fun k=>[k,dE l k]
theorem p6 (l:bN):(fG l).length=2*l.length:=by rw [fG,f7,gX]
def kG (s:bN×Nat) (ps:List (ByteArray×ByteArray)):bN×Nat:=ps.foldl (fun s p=>(f0 s.1 p.1 p.2 s.2,lV s.1 p.1 s.2)) s
theorem EX (s:bN×Nat) (ps:List (ByteArray×ByteArray)) (p:ByteArray×ByteArray):kG s (ps++[p])=(f0 (kG s ps).1 p.1 p.2 (kG s ps).2,lV (kG s ps).1 p.1 (kG s ps).2):=by rw [kG,kG,List.foldl_append];rfl
theorem CG:∀ (ps:List (ByteArray×ByteArray)) (s:bN×Nat),dL s.1 s.2→eV s.1→dL (kG s ps).1 (kG s ps).2∧eV (kG s ps).1
 | [],s,h1,h2=>⟨h1,h2⟩
 | p::r,s,h1,h2=>CG r _ (AR h1 p.1 p.2) (AS h2 p.1 p.2 s.2)
theorem yF:∀ (ps:List (ByteArray×ByteArray)) (s:bN×Nat),(kG s ps).1.length≤s.1.length+ps.length
 | [],s=>XH _
 | p::r,s=>by
  have h1:=yF r (f0 s.1 p.1 p.2 s.2,lV s.1 p.1 s.2);have h2:=(vT p.1 p.2 s.2 s.1).2;rw [XD];show (kG (f0 s.1 p.1 p.2 s.2,lV s.1 p.1 s.2) r).1.length≤_;have h3:(f0 s.1 p.1 p.2 s.2,lV s.1 p.1 s.2).1.length=(f0 s.1 p.1 p.2 s.2).length:=rfl;omega
def pI:List (ByteArray×ByteArray)→ByteArray→Option ByteArray
 | [],_=>none
 | p::r,k=>(pI r k).orElse fun _=>if p.1=k then some p.2 else none
theorem G6 (k:ByteArray):∀ (ps:List (ByteArray×ByteArray)) (s:bN×Nat),cI (kG s ps).1 k=(pI ps k).orElse fun _=>cI s.1 k
 | [],s=>rfl
 | p::r,s=>by
  have h:=G6 k r (f0 s.1 p.1 p.2 s.2,lV s.1 p.1 s.2);show cI (kG (f0 s.1 p.1 p.2 s.2,lV s.1 p.1 s.2) r).1 k=_;rw [h,uP,pI];cases pI r k with
  | some v=>rfl
  | none =>
   show (if p.1=k then some p.2 else cI s.1 k)=((if p.1=k then some p.2 else none).orElse fun _=>cI s.1 k)
   split<;>rfl
abbrev dZ (ps:List (ByteArray×ByteArray)):bN×Nat:=kG ([],0) ps
theorem FL (ps:List (ByteArray×ByteArray)) (k:ByteArray):cI (dZ ps).1 k=pI ps k:=by rw [dZ,G6];show ((pI ps k).orElse fun _=>none)=_;cases pI ps k<;>rfl
theorem FH:dL ([]:bN) 0:=⟨List.Pairwise.nil,fun p hp=>(by cases hp)⟩
theorem vK:eV ([]:bN):=List.nodup_nil
theorem fZ (ps:List (ByteArray×ByteArray)):dL (dZ ps).1 (dZ ps).2∧eV (dZ ps).1:=CG ps _ FH vK
theorem rI {ps:List (ByteArray×ByteArray)} {p:ByteArray×ByteArray×Nat} (h:p∈(dZ ps).1):(p.1,p.2.1)∈ps:=by
 obtain ⟨k,v,n⟩:=p;have e:=AQ (fZ ps).2 h;rw [FL] at e;have go:∀ ps:List (ByteArray×ByteArray),pI ps k=some v→(k,v)∈ps:=by
  intro ps
  induction ps with
  | nil=>intro h;cases h
  | cons q r ih =>
   intro h;rw [pI] at h;cases e:pI r k with
   | some u =>
    rw [e] at h;cases h;exact List.mem_cons_of_mem _ (ih e)
   | none =>
    rw [e] at h;by_cases e2:q.1=k
    ·have h:(if q.1=k then some q.2 else none)=some v:=h;rw [XA e2] at h;cases h;rw [← e2];exact List.mem_cons_self
    have h:(if q.1=k then some q.2 else none)=some v:=h;rw [W9 e2] at h;cases h
 exact go ps e
theorem vN {l:bN} (h:eV l) (k:ByteArray):cI (mA (fG l) ((fG l).length / 2)).1 k=cI l k:=by have:=yL h [] k;rw [List.append_nil] at this;rw [p6,Nat.mul_div_cancel_left _ (by decide)];exact this
end Go.Proofs.YtmkgeogoojcciaaGreatDoor
namespace Go.Proofs.YtmkgeogoojcciaaGreatDoor
open Go.Proofs.Tryz
open Go.Abs
theorem g4 (l:List ByteArray):∀ r∈l.map encStr,r.length=1:=fun r hr=>by
 obtain ⟨t,_,rfl⟩:=List.mem_map.1 hr;rfl
def TU (l:List ByteArray):Ob:=bx 1 31 [.pv (aW l)]
def UC:Ob:=bx 1 3 [iv 2]
theorem OH (l:List ByteArray) (H:aA) (h1:H.get 931=none) (h2:H.get 932=none) :
  aI Tryz.prog 118 [.pv (aW l),iv 2] H (fun r H'=>r=.clo 145 [.ref 931 0 0 0,.ref 932 0 0 0]∧H'=(932,UC)::(931,TU l)::H):=by
 have h2':aA.get ((931,TU l)::H) 932=none:=h2;refine Bd func118 rfl ntmps118<|Sr<|Dd (by exact fY (id:=931) rfl rfl rfl rfl h1)<|Dd (by exact fY (id:=932) rfl rfl rfl rfl h2')<|Dd aQ<|Zz<|Sq<|Sr<|Dd (eC aT)<|Dd dN<|Zz ?_;refine Cn ?_ ?_<;>intro hc1
 ·cases hc1
 refine aH<|Sr<|Dd (by exact eK rfl rfl)<|Dd aQ<|Zz<|aM ?_;refine a7 (H':=((932,UC)::(931,TU l)::H)) (.inr rfl) rfl (aG rfl) Fin.refl ?_;exact Qq
def tS (l:List ByteArray) (k:Nat):List ByteArray:=(l.drop (2*k)).take 2
theorem JJ (l:List ByteArray) (k:Nat):((l.map encStr).drop (2*k)).take 2=(tS l k).map encStr:=by rw [tS,List.map_take,List.map_drop]
theorem QW {n:Nat} (h:2≤n):min (2:Int) (n:Int)=2:=Int.min_eq_left (by omega)
theorem KI (l:List ByteArray) (fv:AV) (Hs:Nat→aA) (m:Nat) (hl:l.length=2*m) (hm:m < 1099511627776) (h1:∀ k,(Hs k).get 931=some (TU l)) (h2:∀ k,(Hs k).get 932=some UC)
  (hy:∀ k,k < m→eD Tryz.prog fv [.pv (aW (tS l k))] (Hs k) (fun r H'=>r=bv true∧H'=Hs (k+1))) :
  aI Tryz.prog 145 [fv,.ref 931 0 0 0,.ref 932 0 0 0] (Hs 0) (fun r H'=>r=.tup []∧H'=Hs m):=by
 have hml:(l.map encStr).length=l.length:=XB _;refine Bd func145 rfl ntmps145<|Sr<|Dd aQ<|Zz<|aN ?_;refine bI (σ:=Nat) (fun k=>([(0,fv),(1,.ref 931 0 0 0),(2,.ref 932 0 0 0),(4,iv ((2*k:Nat):Int))],Hs k)) (fun k=>k≤m) (fun k=>m - k) 0 (XS _) ?_ ?_
 ·exact E0
 rintro k hkm;refine Sq<|Sr<|Dd aE<|Dd (by exact aX rfl cD rfl (h1 k) rfl rfl rfl)<|Dd (kZ aP)<|Dd dN<|Zz ?_;refine Cn ?_ ?_<;>intro hc1
 ·have hlt:2*k < l.length:=by have:=W7 hc1;omega
  have hkm2:k < m:=by omega
  have hyk:=hy k hkm2;have hdl:((l.map encStr).drop (2*k)).length=l.length - 2*k:=by rw [XQ,hml]
  refine aH<|Sq<|aN<|Sq<|bK follows<|Cq (by exact aX rfl aT rfl (h2 k) rfl rfl rfl)<|Cq (by exact aX rfl cD rfl (h1 k) rfl rfl rfl)<|Cq aE<|Cq (by exact gN (l:=2*k) (h:=(l.map encStr).length) (rows':=(l.map encStr).drop (2*k)) rfl b5 rfl (g4 l) rfl rfl (by omega) (XH _) (by rw [List.take_length]))<|Cq (kZ aP)<|Cq (by exact uK (r:=2) rfl rfl rfl (by rw [hdl];exact QW (by omega)))<|Cq aQ<|cQ<|Kr<|Sr<|Dd aE<|Dd (by exact aX rfl cD rfl (h1 k) rfl rfl rfl)<|Dd aE<|Dd aE<|Dd aE<|Dd (by exact cA rfl rfl rfl (show IntKind.i64.wrap (((2*k:Nat):Int)+2)=((2*k+2:Nat):Int)by rw [IntKind.wrap_i64];omega))<|Dd aE<|Dd aE<|Dd (by exact cA rfl rfl rfl (show IntKind.i64.wrap (((2*k:Nat):Int)+2)=((2*k+2:Nat):Int)by rw [IntKind.wrap_i64];omega)) ?_;refine Dd (by exact LS (l:=2*k) (h:=2*k+2) (rows':=(tS l k).map encStr) rfl b5 rfl (g4 l) rfl rfl rfl (by omega) (by omega) (by intro h;rw [List.map_eq_nil_iff] at h;rw [h] at hlt;exact absurd hlt (Nat.not_lt_zero _)) (by rw [← JJ,List.drop_take];congr 1;omega))<|Dd (by exact fX rfl rfl rfl (hyk))<|Dd sA<|Zz ?_;refine Cn ?_ ?_<;>intro hc2
  ·cases hc2
  refine aH<|Rg<|Dd aE<|Dd (by exact aX rfl aT rfl (h2 (k+1)) rfl rfl rfl)<|Dd (by exact cA rfl rfl rfl (show IntKind.i64.wrap (((2*k:Nat):Int)+2)=((2*(k+1):Nat):Int)by rw [IntKind.wrap_i64];omega))<|Da ?_;exact⟨k+1,hkm2,by omega,E0⟩
 have hge:l.length≤2*k:=by have:=W8 hc1;omega
 have hkk:k=m:=by omega
 refine bE ?_;rw [← hkk];exact iQ (H':=Hs k) (.inl rfl) rfl Fin.refl ⟨rfl,rfl⟩
theorem UM (l:List ByteArray):∀ r∈l.map encStr,r.length=1:=fun r hr=>by
 obtain ⟨t,_,rfl⟩:=List.mem_map.1 hr;rfl
theorem OG (l:List ByteArray) (H:aA) (hc:bB H) (h1:H.get 901=none) (hl:l.length < 1099511627776) :
  aI Tryz.prog 120 [.pv (aW l)] H (fun r H'=>r=.osl 901 1 0 l.length∧H'=(901,⟨1,1,9,g6 l⟩)::H):=by
 have hml:(l.map encStr).length=l.length:=XB _;refine Bd func120 rfl ntmps120<|Sr<|Dd aQ<|Zz<|Sq<|Sr<|Dm ?_;refine fR rfl rfl (E7 rfl aP rfl) ?_;rintro _ H2 ⟨e2,b,rfl,hb⟩;rw [e2];clear e2 H2;refine Zz ?_;refine Cn ?_ ?_<;>intro hc1
 ·have h0:=hb hc1;have h00:l=[]:=List.map_eq_nil_iff.1 h0;subst h00;refine Sr<|Dd (by exact kJ (id:=901) (sz:=1) (ty:=9) rfl h1 rfl)<|Zz<|aM ?_;refine a7 (H':=((901,⟨1,1,9,[]⟩)::H)) (.inr rfl) rfl (aG rfl) ((Fin.bump (g:=0) (k:=1) rfl rfl (by decide) rfl rfl rfl).trans (Fin.get' (fun j=>gL _ _ _ _ j))) ?_;exact Qq
 refine aH<|Sr<|Dd (by exact iR (id:=901) rfl b5 rfl rfl rfl rfl (by simp) h1)<|Dd aE<|Dd (by exact fB rfl b5 LJ rfl rfl rfl rfl rfl rfl rfl (UM l) hml (by omega) (XT _) (show []++(l.map encStr).map (·.map AV.pv)=g6 l by rw [List.nil_append,List.map_map];rfl))<|Dd aQ<|Zz<|aM ?_;refine a7 (H':=((901,⟨1,1,9,g6 l⟩)::H)) (.inr rfl) rfl (aG rfl) (Fin.get' (fun j=>gL _ _ _ _ j)) ?_;exact Qq
end Go.Proofs.YtmkgeogoojcciaaGreatDoor
namespace Go.Proofs.YtmkgeogoojcciaaGreatDoor
open Go.Proofs.Tryz
open Go.Abs Go.Lib
theorem CH:∀ (ps l:bN) (c:Nat),(fF l c ps).1.length≤l.length+ps.length
 | [],l,c=>XH _
 | (k,v,n)::r,l,c=>by
  have h1:=CH r (f0 l k v c) (lV l k c);have h2:=(vT k v c l).2;show (fF (f0 l k v c) (lV l k c) r).1.length≤_;rw [XD];omega
theorem N6 (P:List ByteArray):∀ l:bN,(j0 l P).length≤l.length:=by
 induction P with
 | nil=>exact fun l=>XH _
 | cons k r ih=>exact fun l=>Nat.le_trans (ih (p8 l k)) (nW k l).length_le
theorem wQ {l put ps:bN} {c:Nat} {D:List ByteArray} (hst:dL l c) (hnd:eV l) (hnp:eV put) (hp:ps.Perm put):dL (j0 (fF l c ps).1 D) (fF l c ps).2∧eV (j0 (fF l c ps).1 D)∧(j0 (fF l c ps).1 D).length≤l.length+put.length∧∀ x,cI (j0 (fF l c ps).1 D) x=oF (cI l) put D x:=by
 have h1:=G7 ps l c hst hnd;have h2:=H6 D _ _ h1.1 h1.2;have hnps:eV ps:=(hp.map Prod.fst).nodup_iff.2 hnp;refine⟨h2.1,h2.2,?_,fun x=>?_⟩
 ·have a1:=N6 D (fF l c ps).1;have a2:=CH ps l c;have a3:=hp.length_eq;omega
 rw [N7 x D _ h1.2,MS x ps l c hnps,NE hp x hnps,oF];by_cases hx:x∈D
 ·rw [XA (iE.2 hx),XA hx]
 rw [W9 (fun h=>hx (iE.1 h)),W9 hx]
abbrev rE (L:List ByteArray) (t:List UInt8) (u:Nat):bC:=[(0,.mp 1101 0),(1,sv (ofL t)),(5,.pv (aW L)),(7,iv (u:Int)),(9,.ref 9 0 0 0)]
abbrev rK (W:List ByteArray) (j:Nat) (K:aA):aA:=(932,UC)::(931,TU W)::(9,PO 950)::(950,bH (mA W j).1 (mA W j).2)::K
theorem JI {W:List ByteArray} {j:Nat} (h:2*j+1 < W.length):((tS W j).map encStr)[0]?=some (encStr (W.getD (2*j) sNil))∧((tS W j).map encStr)[1]?=some (encStr (W.getD (2*j+1) sNil)):=by have h0:W[2*j]?=some (W[2*j]'(by omega)):=XG (by omega);have h1:W[2*j+1]?=some (W[2*j+1]'h):=XG h;rw [XV,XV,tS,List.getElem?_take_of_lt (by omega),List.getElem?_take_of_lt (by omega),List.getElem?_drop,List.getElem?_drop,List.getD_eq_getElem?_getD,List.getD_eq_getElem?_getD,Nat.add_zero,h0,h1];exact Qq
theorem zO {H:aA} {id:Nat} {o:Ob} (h:H.get id=some o):Sub [(id,o)] H:=by
 intro j o2 ho;simp only [aA.get] at ho;cases e:Nat.beq id j with
 | true =>
  rw [e] at ho;cases ho;rw [← Nat.eq_of_beq_eq_true e];exact h
 | false=>rw [e] at ho;cases ho
theorem yM (id:Nat) (l:bN) (c:Nat):bB [(id,bH l c)]:=bB.of (fun p hp=>by
 rw [XE] at hp;subst hp;exact aS _ _ _)
theorem GM (l:bN) (c:Nat) (P:List ByteArray) (hst:dL l c) (hl:l.length < 1099511627776) (hP:P.length < 1099511627776) (H:aA) (h:H.get 950=some (bH l c)):aI Tryz.prog 46 [.mp 950 0,.pv (aW P)] H (fun r H'=>r=iv (bG l P)∧H'=H) :=aI.frameS (P3 l c P hst hl hP) (zO h) (yM _ _ _) (by simp;rfl)
theorem L1 (l:bN) (c:Nat) (P:List ByteArray) (hst:dL l c) (hl:l.length < 1099511627776) (hP:P.length < 1099511627776) (hsz:(a8 l P).length < 35184372088832) (H:aA) (h:H.get 950=some (bH l c)):aI Tryz.prog 50 [.mp 950 0,.pv (aW P)] H (fun r H'=>r=sv (ofL (a8 l P))∧H'=H) :=aI.frameS (GN l c P hst hl hP hsz) (zO h) (yM _ _ _) (by simp;rfl)
theorem DS (H:aA) (l:List ByteArray):∀ r∈(TU l).rows,∀ a∈r,Clo H a:=by intro r hr a ha;simp only [TU,bx,XE] at hr;subst hr;rw [XE] at ha;subst ha;exact .pv _
theorem DT (H:aA):∀ r∈UC.rows,∀ a∈r,Clo H a:=by intro r hr a ha;simp only [UC,bx,XE] at hr;subst hr;rw [XE] at ha;subst ha;exact .pv _
theorem L5 (H:aA) (l:List ByteArray):∀ r∈g6 l,∀ a∈r,Clo H a:=by intro r hr a ha;obtain ⟨s,_,rfl⟩:=List.mem_map.1 hr;obtain ⟨p,_,rfl⟩:=List.mem_map.1 ha;exact .pv _
theorem I7 (d:DSt) (k a n:Nat) (b:Bool) (l:bN) (c:Nat) (t:List UInt8) (hst:dL l c) (hnd:eV l) (ht:t.length < 1000000) :
  aI Tryz.prog 89 [.mp 1101 0,sv (ofL t)] (sH d (bZ k a n b) (bH l c)) (fun r H'=>r=bv (jN t)∧∃ l' c',dL l' c'∧eV l'∧l'.length≤l.length+t.length∧(jN t=true→∀ x,cI l' x=oF (cI l) (eX t).1 (cW t) x)∧H'=sH d (bZ k a n b) (bH l' c')):=by
 have hspl:=fun H=>B8 t H (by omega);have hLl:=GY t;have hb1:pY t=(!(dR t).2||decide ((xA t).length=0)):=rfl;have hok:jN t=(!pY t&&(!jO t&&!pX t)):=rfl;have bad:jN t=false→∃ l' c',dL l' c'∧eV l'∧l'.length≤l.length+t.length∧(jN t=true→∀ x,cI l' x=oF (cI l) (eX t).1 (cW t) x)∧sH d (bZ k a n b) (bH l c)=sH d (bZ k a n b) (bH l' c'):=fun h=>⟨l,c,hst,hnd,Nat.le_add_right _ _,fun h2=>(by rw [h] at h2;cases h2),rfl⟩;obtain ⟨ok,hokv⟩:∃ ok,ok=(dR t).2:=⟨_,rfl⟩;obtain ⟨L,hL⟩:∃ L,L=xA t:=⟨_,rfl⟩;have hL2:(dR t).1=L:=hL.symm;rw [← hokv,hL2] at hspl;rw [← hokv,← hL] at hb1;rw [← hL] at hLl;have hml:(L.map encStr).length=L.length:=XB _;refine Bd func89 rfl ntmps89<|Sr<|Dd aQ<|Zz<|Sr<|Dd aE<|Dd (by exact aB rfl rfl call87 rfl (hspl _))<|Dd aE<|Dd dO<|Dd dO<|Dd aQ<|Dd aQ<|Zz<|Sq<|Sq ?_;refine cX (t:=23) (n:=8) (X:=!ok||decide (((L.map encStr).length:Int)=0)) ?_ ?_
 ·all_goals refine Dd aE ?_
  all_goals refine Dd sA<|Dm ?_
  all_goals refine Sp 19 (fun h19=>?_) fun h19=>?_
  all_goals try contradiction
  all_goals first|refine Fo<|Fo<|Fo ?_|refine On aE<|On (kZ aP)<|On gA ?_
  all_goals refine Dd dW<|Zz ?_
  all_goals(exact⟨⟨_,rfl,by(rw [h19];rfl)⟩,rfl,rfl,rfl⟩)
 refine Cn ?_ ?_<;>intro hc1
 ·have hq:=hc1;have hf:jN t=false:=by
   rw [hok,hb1];have h2:(!ok||decide (L.length=0))=true:=by
    rw [hml] at hq
    rwa [show decide ((L.length:Int)=0)=decide (L.length=0)from decide_eq_decide.2 (by omega)] at hq
   rw [h2];rfl
  refine Sr<|Dd aQ<|Zz<|aM ?_;refine a7 (H':=(sH d (bZ k a n b) (bH l c))) (.inr rfl) rfl (aG rfl) (Fin.wk (by(simp;done)) (Hc (aF _ _ rfl rfl rfl)<|Hc (aC _ _)<|Hc (aL _ _ _)<|Hc (aK _ _)<|Hc (bA rfl rfl)<|Hc (aS _ _ _)<|trivial) ⟨rfl,rfl,rfl,rfl,rfl,rfl,trivial⟩) ?_;exact⟨by rw [hf],bad hf⟩
 have hq:=hc1;rw [XX,Bool.not_eq_false',XJ] at hq;have hl0:0 < L.length:=by omega
 have hb1f:pY t=false:=by rw [hb1,hq.1,decide_eq_false (by omega)];rfl
 obtain ⟨x,hx⟩:=aY hl0;have hix:=dC (f:=encStr) hx;have hgD:L.getD 0 sNil=x:=by rw [List.getD_eq_getElem?_getD,hx];rfl
 have hxs:x.size < 1099511627776:=by have:=zX (t:=t) (x:=x) (by rw [← hL];exact XL hx);omega
 have hat:=fun H=>uU x hxs H;have hb2:jO t=(((gC x||decide (cT x < 0))||decide (((L.length / 2:Nat):Int) < cT x))||decide ((L.length:Int) < 2*cT x+2)):=by rw [jO,SB,← hL,hgD]
 have hN:GX t=(cT x).toNat:=by rw [GX,SB,← hL,hgD]
 obtain ⟨v,hv⟩:∃ v,v=cT x:=⟨_,rfl⟩;obtain ⟨e,he⟩:∃ e,e=gC x:=⟨_,rfl⟩;simp only [← hv,← he] at hat hb2 hN;clear hv he;have hquo:IntKind.i64.wrap (((L.map encStr).length:Int).tdiv 2)=((L.length / 2:Nat):Int):=by
  rw [hml,Int.tdiv_eq_ediv_of_nonneg (by omega),g9 (by omega) (by omega)];omega
 refine aH<|Sr<|Dd aE<|Dd (by exact bJ rfl b5 rfl rfl (by omega) (by exact XM _) hix rfl)<|Dd (mB aV)<|Dd (by exact aB rfl rfl PU rfl (hat _))<|Dd aE<|Dd dO<|Dd dO<|Dd aQ<|Dd aQ<|Zz<|Sq<|Sq ?_;refine cX (t:=51) (n:=24) (X:=((e||decide (v < 0))||decide (((L.length / 2:Nat):Int) < v))||decide (((L.map encStr).length:Int) < 2*v+2)) ?_ ?_
 ·all_goals refine Dd aE ?_
  all_goals refine Dd (by exact q9 rfl gT rfl)<|Dm ?_
  all_goals refine Sp 33 (fun h33=>?_) fun h33=>?_
  all_goals(try(with_reducible contradiction))
  all_goals first|refine Fo<|Fo ?_|refine On aE<|On dN ?_
  all_goals refine Dd dW<|Dm ?_
  all_goals refine Sp 37 (fun h37=>?_) fun h37=>?_
  all_goals(try(with_reducible contradiction))
  all_goals first|refine Fo<|Fo<|Fo<|Fo<|Fo ?_|refine On aE<|On aE<|On (kZ aP)<|On (by exact mJ rfl rfl rfl (by decide) hquo)<|On yS ?_
  all_goals refine Dd dW<|Dm ?_
  all_goals refine Sp 44 (fun h44=>?_) fun h44=>?_
  all_goals(try(with_reducible contradiction))
  all_goals first|refine Fo<|Fo<|Fo<|Fo<|Fo<|Fo ?_|refine On aE<|On (kZ aP)<|On aE<|On (by exact gK rfl rfl rfl (by have q1:=W8 h37;have q2:=W8 h44;exact g9 (by omega) (by omega)))<|On (by exact cA rfl rfl rfl (by have q1:=W8 h37;have q2:=W8 h44;exact g9 (by omega) (by omega)))<|On dN ?_
  all_goals refine Dd dW<|Zz ?_
  all_goals(exact⟨⟨_,rfl,by first|(rw [h33];rfl)|(rw [h33,h37];rfl)|(rw [h33,h37,h44];rfl)⟩,rfl,rfl,rfl⟩)
 refine Cn ?_ ?_<;>intro hc2
 ·have hq2:=hc2;rw [hml] at hq2;have hf:jN t=false:=by rw [hok,hb2,hq2,hb1f];rfl
  refine Sr<|Dd aQ<|Zz<|aM ?_;refine a7 (H':=(sH d (bZ k a n b) (bH l c))) (.inr rfl) rfl (aG rfl) (Fin.wk (by(simp;done)) (Hc (aF _ _ rfl rfl rfl)<|Hc (aC _ _)<|Hc (aL _ _ _)<|Hc (aK _ _)<|Hc (bA rfl rfl)<|Hc (aS _ _ _)<|trivial) ⟨rfl,rfl,rfl,rfl,rfl,rfl,trivial⟩) ?_;exact⟨by rw [hf],bad hf⟩
 have hq2:=hc2;rw [hml] at hq2;have hb2f:jO t=false:=hb2.trans hq2;rw [XX,XX,XX,XJ,XJ,XJ] at hq2;obtain ⟨u,rfl⟩:∃ u:Nat,v=(u:Int):=⟨v.toNat,by omega⟩;rw [XM] at hN;obtain ⟨W,hW⟩:∃ W,W=(L.drop 1).take (2*u):=⟨_,rfl⟩;have hWl:W.length=2*u:=by rw [hW,XP,XQ];omega
 have hWe:((L.map encStr).take (2*u+1)).drop 1=W.map encStr:=by
  rw [hW,List.map_take,List.map_drop,List.drop_take];rfl
 have hput:eX t=mA W u:=by
  rw [eX,← hL,hN,hW]
  conv=>lhs;rw [← List.take_append_drop (2*u) (L.drop 1)]
  exact AM _ _ u (by rw [XP,XQ];omega)
 have hdrop:cW t=L.drop (2*u+2):=by rw [cW,← hL,hN]
 have hsm:=ML ht hb2f;have hb3:pX t=((((decide ((eX t).1.length+(cW t).length=0)||!decide (bG (eX t).1 (cW t)=0))||!decide (a8 (eX t).1 (cW t)=aR [ofL t]))||!eE (cW t))||decide ((bV (cW t)).length < (cW t).length)):=rfl;rw [hput] at hsm hb3 bad ⊢;have hpok:=vM W u;obtain ⟨D,hD⟩:∃ D,D=cW t:=⟨_,rfl⟩;rw [← hD] at hsm hb3 hdrop bad ⊢;have hDe:((L.map encStr).take (L.map encStr).length).drop (2*u+2)=D.map encStr:=by
  rw [List.take_length,hdrop,List.map_drop]
 clear hix hx hb1 hb2 hspl;refine aH<|Sr<|Dd (by exact gY (id:=950) eT rfl rfl)<|Dd (by exact b8 (id:=9) rfl VQ rfl rfl)<|Uu (pF sizeOf33)<|Zz<|Sq<|Sr<|Dd aE<|Dd aE<|Dd (by exact gK rfl rfl rfl (g9 (by omega) (by omega)))<|Dd (by exact cA rfl rfl rfl (show IntKind.i64.wrap (2*(u:Int)+1)=((2*u+1:Nat):Int)by rw [g9 (by omega) (by omega)];omega))<|Dd (by exact gN (l:=1) (h:=2*u+1) (rows':=W.map encStr) rfl b5 rfl (g4 L) rfl rfl (by omega) (by omega) hWe)<|Dd (by exact aB rfl rfl call118 rfl (OH W _ rfl rfl))<|Zz<|aN ?_;refine fJ.ent (E':=(58,.clo 145 [.ref 931 0 0 0,.ref 932 0 0 0])::rE L t u) (H':=rK W 0 (sH d (bZ k a n b) (bH l c))) (bX.wk (Ec (by(simp;exact⟨rfl,rfl⟩))<|Ea<|Eb<|Eb<|Eb<|Ea<|trivial) (Hc (DT _)<|Hc (DS _ _)<|Ha<|Hc (aS _ _ _)<|Hc (aF _ _ rfl rfl rfl)<|Hc (aC _ _)<|Hc (aL _ _ _)<|Hc (aK _ _)<|Hc (bA rfl rfl)<|Hc (aS _ _ _)<|trivial) ⟨rfl,rfl,rfl,rfl,rfl,rfl,trivial⟩) ?_;refine s9 (id:=944) (p:=59) (rE L t u) rfl call145 rfl rfl (by simp [rE];exact⟨rfl,rfl,rfl,rfl,rfl⟩) ?_;intro x hx1 hx2 hx3 hx4 hx5 hx6;refine(KI W (.yld 944 0) (fun j=>(944,LR x (rE L t u))::rK W j (sH d (bZ k a n b) (bH l c))) u hWl (by omega) (fun j=>rfl) (fun j=>rfl) ?_).mono ?_
 ·intro j hj;obtain ⟨p0,p1⟩:=JI (W:=W) (j:=j) (by omega);refine .inl ⟨944,0,rfl,?_⟩;refine zM ((10,.pv (aW (tS W j)))::rE L t u) (rK W j (sH d (bZ k a n b) (bH l c))) hx1 hx2 hx3 hx4 hx5 hx6 rfl rfl rfl ?_ ?_
  ·refine Rg<|Da ?_;exact E0
  refine aN<|bK follows<|Cs (fun _ h=>lh bO h)<|Cs (fun _ _=>aE)<|Cs (fun H1 hH=>by exact bJ rfl b5 rfl rfl (by omega) (by exact XM _) p0 rfl)<|Cs (fun _ _=>(mB aV))<|Cs (fun _ _=>aE)<|Cs (fun H1 hH=>by exact bJ rfl b5 rfl rfl (by omega) (by exact XM _) p1 rfl)<|Cs (fun _ _=>(mB aV)) ?_;refine bY (r:=⟨_,none,[_]⟩) (DStep.plain rfl (fun H1 hH=>by exact gZ (κ:=eT) (l:=bM (mA W j).1) (.inl rfl) aU aJ rfl ((hH _ rfl).trans rfl) rfl rfl rfl rfl rfl (mQ _ _ _ _) (oV _ _ _))) rfl ?_;refine cQ<|Kr ?_;exact⟨rK W (j+1) (sH d (bZ k a n b) (bH l c)),(bX.wk trivial (Hc (PH (by simp [rE];repeat(first|rfl|refine⟨rfl,?_⟩)))<|Hc (DT _)<|Hc (DS _ _)<|Ha<|Hc (aS _ _ _)<|Hc (aF _ _ rfl rfl rfl)<|Hc (aC _ _)<|Hc (aL _ _ _)<|Hc (aK _ _)<|Hc (bA rfl rfl)<|Hc (aS _ _ _)<|trivial) ⟨rfl,rfl,rfl,rfl,rfl,rfl,rfl,rfl,rfl,rfl,rfl,trivial⟩),rfl,rfl⟩
 rintro r H' ⟨rfl,rfl⟩;refine⟨x,_,rfl,by rw [hx1];decide,rfl,fun z=>?_⟩;rw [hx2];obtain ⟨put,cp,hpc⟩:∃ put cp,mA W u=(put,cp):=⟨_,_,rfl⟩;simp only [hpc] at hpok hb3 hsm bad ⊢;refine fJ.ent (E':=rE L t u) (H':=(9,PO 950)::(950,bH put cp)::sH d (bZ k a n b) (bH l c)) ?_ ?_
 ·simp only [rK,hpc];exact(bX.wk (Ea<|Eb<|Eb<|Eb<|Ea<|trivial) (Ha<|Hc (aS _ _ _)<|Hc (aF _ _ rfl rfl rfl)<|Hc (aC _ _)<|Hc (aL _ _ _)<|Hc (aK _ _)<|Hc (bA rfl rfl)<|Hc (aS _ _ _)<|trivial) ⟨rfl,rfl,rfl,rfl,rfl,rfl,trivial⟩)
 have hmp:(bM put).length=put.length:=XB _;have hmd:(D.map encStr).length=D.length:=XB _;have hwr:=fun H hH=>GM put cp D hpok.1 (by omega) (by omega) H hH;have htx:=fun H hH=>L1 put cp D hpok.1 (by omega) (by omega) hsm.1 H hH;have hso:=fun H=>C2 D H (by omega);have hb3:pX t=((((decide (((bM put).length:Int)+((D.map encStr).length:Int)=0)||!decide (bG put D=0))||!decide (ofL (a8 put D)=ofL (aR [ofL t])))||!eE D)||decide (((bV D).length:Int) < ((D.map encStr).length:Int))):=by
  rw [hb3,show decide (((bM put).length:Int)+((D.map encStr).length:Int)=0)=decide (put.length+D.length=0)from decide_eq_decide.2 (by omega),show decide (((bV D).length:Int) < ((D.map encStr).length:Int))=decide ((bV D).length < D.length)from decide_eq_decide.2 (by omega),show decide (ofL (a8 put D)=ofL (aR [ofL t]))=decide (a8 put D=aR [ofL t])from decide_eq_decide.2 ⟨fun h=>by rw [← a6 (a8 put D),h,a6],fun h=>by rw [h]⟩]
 rw [hb1f,hb2f,hb3] at hok;have hjs:(aR [ofL t]).length < 35184372088832:=by
  have hd:=dG (k:=18) (u:=t.length) (by omega) (by decide);rw [dI,XC,XD,XC,a6,bR];have h0:(aR []).length=0:=rfl;omega
 have hdropL:D.length≤L.length:=by rw [hdrop,XQ];omega
 cases g78:decide (((bM put).length:Int)+((D.map encStr).length:Int)=0)with
 | true =>
  refine Sr<|Dd aE<|Dd aE<|Dd (by exact gK rfl rfl rfl (g9 (by omega) (by omega)))<|Dd (by exact cA rfl rfl rfl (show IntKind.i64.wrap (2*(u:Int)+2)=((2*u+2:Nat):Int)by rw [g9 (by omega) (by omega)];omega))<|Dd (by exact gN (l:=2*u+2) (h:=(L.map encStr).length) (rows':=D.map encStr) rfl b5 rfl (g4 L) rfl rfl (by omega) (XH _) hDe)<|Dd aQ<|Zz<|Sq<|Sr<|Dd (eC bO)<|Dd (by exact tU (κ:=eT) (l:=bM put) rfl aU rfl rfl rfl rfl)<|Dd aE<|Dd (kZ aP)<|Dd (by exact cA rfl rfl rfl (g9 (by omega) (by omega)))<|Dd gA<|Dd aE<|Fa<|Fa<|Fa<|Fa<|Dd SC<|Dd aE<|Fo<|Fo<|Fo<|Fo<|Fo<|Fo<|Fo<|Dd dW<|Dd aE<|Fo<|Fo<|Fo<|Dd dW<|Dd aE<|Fo<|Fo<|Fo<|Fo<|Fo<|Fo<|Fo<|Dd dW<|Zz ?_;refine Cn ?_ ?_<;>intro hc3
  ·have hf:jN t=false:=by rw [hok,g78];simp
   refine Sr<|Dd aQ<|Zz<|aM ?_;refine a7 (H':=(sH d (bZ k a n b) (bH l c))) (.inr rfl) rfl (aG rfl) (Fin.wk (by(simp;done)) (Hc (aF _ _ rfl rfl rfl)<|Hc (aC _ _)<|Hc (aL _ _ _)<|Hc (aK _ _)<|Hc (bA rfl rfl)<|Hc (aS _ _ _)<|trivial) ⟨rfl,rfl,rfl,rfl,rfl,rfl,trivial⟩) ?_;exact⟨by rw [hf],bad hf⟩
  ((cases hc3;done))
 | false =>
  cases g84:(!decide (bG put D=0))with
  | true =>
   refine Sr<|Dd aE<|Dd aE<|Dd (by exact gK rfl rfl rfl (g9 (by omega) (by omega)))<|Dd (by exact cA rfl rfl rfl (show IntKind.i64.wrap (2*(u:Int)+2)=((2*u+2:Nat):Int)by rw [g9 (by omega) (by omega)];omega))<|Dd (by exact gN (l:=2*u+2) (h:=(L.map encStr).length) (rows':=D.map encStr) rfl b5 rfl (g4 L) rfl rfl (by omega) (XH _) hDe)<|Dd aQ<|Zz<|Sq<|Sr<|Dd (eC bO)<|Dd (by exact tU (κ:=eT) (l:=bM put) rfl aU rfl rfl rfl rfl)<|Dd aE<|Dd (kZ aP)<|Dd (by exact cA rfl rfl rfl (g9 (by omega) (by omega)))<|Dd gA<|Dd aE<|Oa (eC bO)<|Oa aE<|Oa (by exact aB rfl rfl sF rfl (hwr _ rfl))<|Oa rG<|Dd JH<|Dd aE<|Fa<|Fa<|Fa<|Fa<|Fa<|Fa<|Fa<|Dd SC<|Dd aE<|Fo<|Fo<|Fo<|Dd dW<|Dd aE<|Fo<|Fo<|Fo<|Fo<|Fo<|Fo<|Fo<|Dd dW<|Zz ?_;refine Cn ?_ ?_<;>intro hc4
   ·have hf:jN t=false:=by rw [hok,g78,g84];simp
    refine Sr<|Dd aQ<|Zz<|aM ?_;refine a7 (H':=(sH d (bZ k a n b) (bH l c))) (.inr rfl) rfl (aG rfl) (Fin.wk (by(simp;done)) (Hc (aF _ _ rfl rfl rfl)<|Hc (aC _ _)<|Hc (aL _ _ _)<|Hc (aK _ _)<|Hc (bA rfl rfl)<|Hc (aS _ _ _)<|trivial) ⟨rfl,rfl,rfl,rfl,rfl,rfl,trivial⟩) ?_;exact⟨by rw [hf],bad hf⟩
   ((cases hc4;done))
  | false =>
   cases g93:(!decide (ofL (a8 put D)=ofL (aR [ofL t])))with
   | true =>
    refine Sr<|Dd aE<|Dd aE<|Dd (by exact gK rfl rfl rfl (g9 (by omega) (by omega)))<|Dd (by exact cA rfl rfl rfl (show IntKind.i64.wrap (2*(u:Int)+2)=((2*u+2:Nat):Int)by rw [g9 (by omega) (by omega)];omega))<|Dd (by exact gN (l:=2*u+2) (h:=(L.map encStr).length) (rows':=D.map encStr) rfl b5 rfl (g4 L) rfl rfl (by omega) (XH _) hDe)<|Dd aQ<|Zz<|Sq<|Sr<|Dd (eC bO)<|Dd (by exact tU (κ:=eT) (l:=bM put) rfl aU rfl rfl rfl rfl)<|Dd aE<|Dd (kZ aP)<|Dd (by exact cA rfl rfl rfl (g9 (by omega) (by omega)))<|Dd gA<|Dd aE<|Oa (eC bO)<|Oa aE<|Oa (by exact aB rfl rfl sF rfl (hwr _ rfl))<|Oa rG<|Dd JH<|Dd aE<|Oa (eC bO)<|Oa aE<|Oa (by exact aB rfl rfl sE rfl (htx _ rfl))<|Oa aE<|Oa (by exact bF [[.str (ofL t)]] rfl b5 rfl rfl rfl rfl rfl (by simp)) ?_;refine Oa (by exact aB rfl rfl nF rfl (j7 [ofL t] _ hjs))<|Oa MB<|Dd JH<|Dd aE<|Fa<|Fa<|Fa<|Dd SC<|Dd aE<|Fo<|Fo<|Fo<|Fo<|Fo<|Fo<|Fo<|Dd dW<|Zz ?_;refine Cn ?_ ?_<;>intro hc5
    ·have hf:jN t=false:=by rw [hok,g78,g84,g93];simp
     refine Sr<|Dd aQ<|Zz<|aM ?_;refine a7 (H':=(sH d (bZ k a n b) (bH l c))) (.inr rfl) rfl (aG rfl) (Fin.wk (by(simp;done)) (Hc (aF _ _ rfl rfl rfl)<|Hc (aC _ _)<|Hc (aL _ _ _)<|Hc (aK _ _)<|Hc (bA rfl rfl)<|Hc (aS _ _ _)<|trivial) ⟨rfl,rfl,rfl,rfl,rfl,rfl,trivial⟩) ?_;exact⟨by rw [hf],bad hf⟩
    ((cases hc5;done))
   | false =>
    cases g98:(!eE D)with
    | true =>
     refine Sr<|Dd aE<|Dd aE<|Dd (by exact gK rfl rfl rfl (g9 (by omega) (by omega)))<|Dd (by exact cA rfl rfl rfl (show IntKind.i64.wrap (2*(u:Int)+2)=((2*u+2:Nat):Int)by rw [g9 (by omega) (by omega)];omega))<|Dd (by exact gN (l:=2*u+2) (h:=(L.map encStr).length) (rows':=D.map encStr) rfl b5 rfl (g4 L) rfl rfl (by omega) (XH _) hDe)<|Dd aQ<|Zz<|Sq<|Sr<|Dd (eC bO)<|Dd (by exact tU (κ:=eT) (l:=bM put) rfl aU rfl rfl rfl rfl)<|Dd aE<|Dd (kZ aP)<|Dd (by exact cA rfl rfl rfl (g9 (by omega) (by omega)))<|Dd gA<|Dd aE<|Oa (eC bO)<|Oa aE<|Oa (by exact aB rfl rfl sF rfl (hwr _ rfl))<|Oa rG<|Dd JH<|Dd aE<|Oa (eC bO)<|Oa aE<|Oa (by exact aB rfl rfl sE rfl (htx _ rfl))<|Oa aE<|Oa (by exact bF [[.str (ofL t)]] rfl b5 rfl rfl rfl rfl rfl (by simp)) ?_;refine Oa (by exact aB rfl rfl nF rfl (j7 [ofL t] _ hjs))<|Oa MB<|Dd JH<|Dd aE<|Oa aE<|Oa (by exact aB rfl rfl call119 rfl (hso _))<|Oa sA<|Dd JH<|Dd aE<|Fa<|Fa<|Fa<|Fa<|Fa<|Fa<|Fa<|Dd SC<|Zz ?_;refine Cn ?_ ?_<;>intro hc6
     ·have hf:jN t=false:=by rw [hok,g78,g84,g93,g98];simp
      refine Sr<|Dd aQ<|Zz<|aM ?_;refine a7 (H':=(sH d (bZ k a n b) (bH l c))) (.inr rfl) rfl (aG rfl) (Fin.wk (by(simp;done)) (Hc (aF _ _ rfl rfl rfl)<|Hc (aC _ _)<|Hc (aL _ _ _)<|Hc (aK _ _)<|Hc (bA rfl rfl)<|Hc (aS _ _ _)<|trivial) ⟨rfl,rfl,rfl,rfl,rfl,rfl,trivial⟩) ?_;exact⟨by rw [hf],bad hf⟩
     ((cases hc6;done))
    | false =>
     refine Sr<|Dd aE<|Dd aE<|Dd (by exact gK rfl rfl rfl (g9 (by omega) (by omega)))<|Dd (by exact cA rfl rfl rfl (show IntKind.i64.wrap (2*(u:Int)+2)=((2*u+2:Nat):Int)by rw [g9 (by omega) (by omega)];omega))<|Dd (by exact gN (l:=2*u+2) (h:=(L.map encStr).length) (rows':=D.map encStr) rfl b5 rfl (g4 L) rfl rfl (by omega) (XH _) hDe)<|Dd aQ<|Zz<|Sq<|Sr<|Dd (eC bO)<|Dd (by exact tU (κ:=eT) (l:=bM put) rfl aU rfl rfl rfl rfl)<|Dd aE<|Dd (kZ aP)<|Dd (by exact cA rfl rfl rfl (g9 (by omega) (by omega)))<|Dd gA<|Dd aE<|Oa (eC bO)<|Oa aE<|Oa (by exact aB rfl rfl sF rfl (hwr _ rfl))<|Oa rG<|Dd JH<|Dd aE<|Oa (eC bO)<|Oa aE<|Oa (by exact aB rfl rfl sE rfl (htx _ rfl))<|Oa aE<|Oa (by exact bF [[.str (ofL t)]] rfl b5 rfl rfl rfl rfl rfl (by simp)) ?_;refine Oa (by exact aB rfl rfl nF rfl (j7 [ofL t] _ hjs))<|Oa MB<|Dd JH<|Dd aE<|Oa aE<|Oa (by exact aB rfl rfl call119 rfl (hso _))<|Oa sA<|Dd JH<|Dd aE<|Oa aE<|Oa (by exact aB rfl rfl call120 rfl (OG D _ (bB.ofL ⟨(by(simp;rfl)),(by exact aS _ _ _),(by exact aF _ _ rfl rfl rfl),(by exact aC _ _),(by exact aL _ _ _),(by exact aK _ _),(by exact bA rfl rfl),(by exact aS _ _ _),trivial⟩) rfl (by omega)))<|Oa (by exact aB rfl rfl WS rfl (zF D 1 _ rfl (by omega)))<|Oa (by exact cS rfl aP rfl rfl rfl)<|Oa aE<|Oa (kZ aP)<|Oa dN<|Dd JH<|Zz ?_;refine Cn ?_ ?_<;>intro hc7
     ·have g106:=hc7;have hf:jN t=false:=by rw [hok,g78,g84,g93,g98,g106];rfl
      refine Sr<|Dd aQ<|Zz<|aM ?_;refine a7 (H':=(sH d (bZ k a n b) (bH l c))) (.inr rfl) rfl (aG rfl) (Fin.wk (by(simp;done)) (Hc (aF _ _ rfl rfl rfl)<|Hc (aC _ _)<|Hc (aL _ _ _)<|Hc (aK _ _)<|Hc (bA rfl rfl)<|Hc (aS _ _ _)<|trivial) ⟨rfl,rfl,rfl,rfl,rfl,rfl,trivial⟩) ?_;exact⟨by rw [hf],bad hf⟩
     have g106:=hc7;have hf:jN t=true:=by rw [hok,g78,g84,g93,g98,g106];rfl
     rw [hf];refine aH<|Sr<|Dd aE<|Dd (eC bO)<|Dm ?_;refine fR rfl rfl (aB rfl rfl WP rfl (O2 l put c cp D _ (by omega) (by omega) hpok.1 rfl rfl rfl (bB.ofL ⟨(by exact aL _ _ _),(by(simp;done)),(by(simp;rfl)),(by exact aS _ _ _),(by exact aF _ _ rfl rfl rfl),(by exact aC _ _),(by exact aL _ _ _),(by exact aK _ _),(by exact bA rfl rfl),(by exact aS _ _ _),trivial⟩))) ?_;rintro r H' ⟨rfl,ps,hps,rfl⟩;obtain ⟨q1,q2,q3,q4⟩:=wQ (D:=D) hst hnd hpok.2 hps;refine Zz<|Sr<|Dd aQ<|Zz<|aM ?_;refine a7 (H':=(sH d (bZ k a n b) (bH (j0 (fF l c ps).1 D) (fF l c ps).2))) (.inr rfl) rfl (aG rfl) (Fin.wk (by(simp;done)) (Hc (aF _ _ rfl rfl rfl)<|Hc (aC _ _)<|Hc (aL _ _ _)<|Hc (aK _ _)<|Hc (bA rfl rfl)<|Hc (aS _ _ _)<|trivial) ⟨rfl,rfl,rfl,rfl,rfl,rfl,trivial⟩) ?_;exact⟨rfl,_,_,q1,q2,by omega,fun _=>q4,rfl⟩
def TI:Ob:=⟨0,0,0,dS (.pv .nilm) 0 0 []⟩
theorem Q7 {H:aA}:∀ r∈TI.rows,∀ x∈r,Clo H x:=by intro r hr x hx;simp only [TI,dS,List.map_nil,XE] at hr;subst hr;simp only [XN,XR,or_false] at hx;rcases hx with rfl|rfl|rfl<;>exact .pv _
abbrev nBx:Ob:=bx 1 33 [.pv .nilm]
theorem LU (P:List ByteArray) (hP:P.length < 1099511627776) (H:aA) :
  aI Tryz.prog 46 [.pv .nilm,.pv (aW P)] H (fun r H'=>r=iv (bG [] P)∧H'=H):=by
 refine Pu ?_;have hcf:=fun H (h5:H.get 5=some UA)=>zE (.clo 94 [.ref 5 0 0 0]) P (fun s=>!eB s) H (by omega) (fun s=>eD.clo call94 (BV s H h5));have hV:bG [] P=if P.any (fun s=>!eB s)=true then 1 else 0:=by
  rw [bG];show (if(false||P.any fun s=>!eB s)=true then(1:Int)else if false=true then 2 else 0)=_;rw [Bool.false_or];rfl
 rw [hV];obtain ⟨ns,hns⟩:∃ b,b=P.any (fun s=>!eB s):=⟨_,rfl⟩;rw [← hns] at hcf ⊢;refine Bd func46 rfl ntmps46<|Sr<|Dd aQ<|Zz<|Sr<|Dd (by exact b8 (id:=5) rfl UI rfl rfl)<|Uu (pF sizeOf53)<|Zz<|Sr<|Dd aQ<|Zz<|Sq<|Sr<|Dd aE<|Dd (by exact AK (q:=946) rfl aU rfl rfl)<|Zz<|aN ?_;refine bI (σ:=Unit) (fun _=>([(0,.pv .nilm),(1,.pv (aW P)),(5,.ref 5 0 0 0),(6,bv false),(10,.it 946 0)],[(946,TI),(5,UA)])) (fun _=>True) (fun _=>0) () trivial ?_ ?_
 ·exact(bX.wk (Eb<|Eb<|Ea<|Eb<|Ea<|trivial) (Hc Q7<|Hb<|trivial) trivial)
 rintro _ -;refine Sq<|Rg ?_;refine fR rfl rfl (FJ rfl rfl rfl rfl rfl) ?_;rintro _ _ (⟨rfl,rfl,hn0⟩|⟨hni,hnp,hn1,hn2,rfl,rfl⟩)
 ·refine Dd dO<|Zz<|Sq ?_;refine Cn ?_ ?_<;>intro hc1
  ·cases hc1
  refine bE<|Sq<|aN<|Sr<|Dd aE<|Dd (by exact eK rfl rfl)<|Dd (by exact aB rfl rfl call93 rfl (hcf _ rfl))<|Da ?_;refine Cn ?_ ?_<;>intro hc2
  ·have hn:ns=true:=hc2;rw [XA hn];exact Sr<|Dd aQ<|Zz<|aM<|Rt<|Qq
  have hn:¬ ns=true:=by rw [show ns=false from hc2];decide
  rw [W9 hn];refine Sr<|Dd aE<|Da ?_;refine Cn ?_ ?_<;>intro hc3
  ·cases hc3
  exact aH<|Sr<|Dd aQ<|Zz<|aM<|Rt<|Qq
 exact hn1.elim
theorem Q3 (H:aA) (h1:H.get 951=none) :
  aI Tryz.prog 55 [.pv .nilm] H (fun r H'=>r=.clo 105 [.ref 951 0 0 0]∧H'=(951,nBx)::H):=by
 refine Bd func55 rfl ntmps55<|Sr<|Dd (by exact fY (id:=951) rfl rfl rfl rfl h1)<|Dd aQ<|Zz<|Sr<|Dd (by exact eK rfl rfl)<|Dd aQ<|Zz<|aM ?_;refine a7 (H':=((951,nBx)::H)) (.inr rfl) rfl (aG rfl) Fin.refl ?_;exact Qq
theorem NF (K:aA) (h1:K.get 951=some nBx):wT 105 [.ref 951 0 0 0] (fun M=>M.Perm []) K:=by
 intro yv Hs hK h6 hcl hf hy0 hy1;have g1:∀ M,(Hs M).get 951=some nBx:=fun M=>hK M _ _ h1;refine Bd func105 rfl ntmps105<|Sr<|Dd (by exact aX rfl bO rfl (g1 []) rfl rfl rfl)<|Dd (by exact AK (q:=946) rfl aU rfl (h6 []))<|Zz<|aN ?_;refine bI (σ:=Unit) (fun _=>([(0,yv),(5,.it 946 0)],(946,TI)::Hs [])) (fun _=>True) (fun _=>0) () trivial ?_ ?_
 ·exact E0
 rintro _ -;refine Sq<|Rg ?_;refine fR rfl rfl (FJ rfl rfl (get_cons_same _ _ _) rfl rfl) ?_;rintro _ _ (⟨rfl,rfl,hn0⟩|⟨hni,hnp,hn1,hn2,rfl,rfl⟩)
 ·refine Dd dO<|Zz<|Sq ?_;refine Cn ?_ ?_<;>intro hc1
  ·cases hc1
  refine bE ?_;exact iQ (H':=Hs []) (.inl rfl) rfl (Fin.pops' [(946,TI)] (by simp) (hcl _) (by simp [h6]) (by simp [h6])) ⟨rfl,[],List.Perm.refl _,rfl⟩
 exact hn1.elim
abbrev tN (g:Nat) (W:List ByteArray):aA:=[(951,nBx),(920,⟨g,1,9,cL W⟩)]
theorem ST (g:Nat) (W:List ByteArray):bB (tN g W):=bB.of (fun p hp=>by
 simp only [XN,XR,or_false] at hp;rcases hp with rfl|rfl
 ·intro r hr x hx;simp only [bx,XE] at hr;subst hr;rw [XE] at hx;subst hx;exact .pv _
 exact fT _ _)
theorem P7 (P:List ByteArray) (hP:P.length < 1099511627776) (hsz:(a8 [] P).length < 35184372088832) (H:aA) :
  aI Tryz.prog 50 [.pv .nilm,.pv (aW P)] H (fun r H'=>r=sv (ofL (a8 [] P))∧H'=H):=by
 refine Pu ?_;have hso:=zQ (L:=([]:List ByteArray)) (by decide) WB (tN 0 [dA 0]) (NF _ rfl) rfl rfl rfl rfl (ST _ _) (by simp;rfl);have hS:cG []=[]:=List.length_eq_zero_iff.1 (gX []);have hin:=qR hsz;have hpl:(P.map encStr).length=P.length:=XB _;have hW:b7 [] P=[dA 0,dA ((P.map encStr).length:Int)]++P:=by
  rw [b7,hS];rfl
 change aI _ _ _ _ fun r H'=>r=.pv (aW (cG []))∧H'=_ at hso;rw [hS] at hso;refine Bd func50 rfl ntmps50<|Sr<|Dd aQ<|Zz<|Sr<|Dd aE<|Dd (by exact SH rfl aU rfl)<|Dd (by exact aB rfl rfl nG rfl (mP 0 (by omega) (by omega) _))<|Dd (by exact iR (id:=920) rfl b5 rfl rfl rfl rfl (show ∀ r∈cL [dA 0],r.length=1 from by intro r hr;rw [XE.1 hr];rfl) rfl)<|Dd aQ<|Zz<|Sq<|Sr<|Dd aE<|Dd (by exact aB rfl rfl WO rfl (Q3 _ rfl))<|Dd (by exact aB rfl rfl BN rfl (hso))<|Dd (kZ aP)<|Dd aE<|Zz<|aN ?_;refine bI (σ:=Unit) (fun _=>([(0,.pv .nilm),(1,.pv (aW P)),(5,.osl 920 0 0 1),(14,.pv (aW [])),(15,iv 0),(16,iv 0)],tN 0 [dA 0])) (fun _=>True) (fun _=>0) () trivial ?_ ?_
 ·exact E0
 rintro _ -;refine Sr<|Dd dN<|Zz<|Sq ?_;refine Cn ?_ ?_<;>intro hc1
 ·(have:=W7 hc1;omega)
 refine bE<|Sr<|Dd aE<|Dd aE<|Dd (kZ aP)<|Dd (by exact aB rfl rfl nG rfl (mP ((P.map encStr).length:Int) (by omega) (by omega) _))<|Dd (by exact bF [[.str (dA ((P.map encStr).length:Int))]] rfl b5 rfl rfl rfl rfl rfl (by intro r hr;rw [XE] at hr;subst hr;rfl))<|Dd (by exact fB (ps:=[[.str (dA ((P.map encStr).length:Int))]]) rfl b5 LJ rfl rfl rfl rfl rfl (fD _) rfl (by intro r hr;rw [XE] at hr;subst hr;rfl) (m:=1) rfl (by omega) rfl (j4 _ _))<|Dd aQ<|Zz<|Sr<|Dd aE<|Dd aE<|Dd (by exact fB (ps:=P.map encStr) rfl b5 LJ rfl rfl rfl rfl rfl (fD _) rfl (by intro r hr;obtain ⟨q,_,rfl⟩:=List.mem_map.1 hr;rfl) (m:=P.length) hpl (by omega) rfl (uV _ P))<|Dd (by exact aB rfl rfl nF rfl (HP (W:=b7 [] P) hin (by rw [hW];rfl) (by rw [hW,XC];rfl))) ?_;exact Dd (by exact bF [[.str (ofL (aR (b7 [] P)))]] rfl b5 rfl rfl rfl rfl rfl (by intro r hr;rw [XE] at hr;subst hr;rfl))<|Dd (by exact aB rfl rfl nF rfl (j7 [ofL (aR (b7 [] P))] _ hsz))<|Dd aQ<|Zz<|aM<|Rt<|Qq
theorem RP (l:bN) (c:Nat) (H:aA) (h0:H.get 1101=some (bH l c)) (h6:H.get 946=none) (hcl:bB H) :
  aI Tryz.prog 104 [.mp 1101 0,.pv .nilm] H (fun r H'=>r=.tup []∧H'=H):=by
 refine Bd func104 rfl ntmps104<|Sr<|Dd aE<|Dd (by exact AK (q:=946) rfl aU rfl h6)<|Zz<|aN ?_;refine bI (σ:=Unit) (fun _=>([(0,.mp 1101 0),(7,.it 946 0)],(946,TI)::H)) (fun _=>True) (fun _=>0) () trivial ?_ ?_
 ·exact E0
 rintro _ -;refine Sq<|Rg ?_;refine fR rfl rfl (FJ rfl rfl (get_cons_same _ _ _) rfl rfl) ?_;rintro _ _ (⟨rfl,rfl,hn0⟩|⟨hni,hnp,hn1,hn2,rfl,rfl⟩)
 ·refine Dd dO<|Zz<|Sq ?_;refine Cn ?_ ?_<;>intro hc1
  ·cases hc1
  refine bE ?_;exact iQ (H':=H) (.inl rfl) rfl (Fin.pops' [(946,TI)] (by simp) hcl (by simp [h6]) (by simp [h6])) ⟨rfl,rfl⟩
 exact hn1.elim
theorem O1 (l:bN) (c:Nat) (P:List ByteArray) (H:aA) (hP:P.length < 1099511627776) (h0:H.get 1101=some (bH l c)) (h6:H.get 946=none) (hcl:bB H) :
  aI Tryz.prog 53 [.mp 1101 0,.pv .nilm,.pv (aW P)] H (fun r H'=>r=.tup []∧H'=(1101,bH (j0 l P) c)::H):=by
 have hml:(P.map encStr).length=P.length:=XB _;have hcp:=RP l c H h0 h6 hcl;refine Bd func53 rfl ntmps53<|Sr<|Dd aE<|Dd aE<|Dd (by exact aB rfl rfl call104 rfl (hcp))<|Zz<|Sr<|Dd aE<|Dd (kZ aP)<|Dd aE<|Zz<|aN ?_;refine bI (σ:=Nat) (fun k=>([(0,.mp 1101 0),(11,.pv (aW P)),(12,iv ((P.map encStr).length:Int)),(13,iv (k:Int))],(1101,bH (j0 l (P.take k)) c)::H)) (fun k=>k≤P.length) (fun k=>P.length - k) 0 (XS _) ?_ ?_
 ·exact bX.get' ⟨⟨_,rfl,rfl⟩,⟨_,rfl,rfl⟩,⟨_,rfl,rfl⟩,⟨_,rfl,rfl⟩,trivial⟩ (fun j=>v6 h0 j)
 intro k hk;refine Sr<|Dd dN<|Zz<|Sq ?_;refine Cn ?_ ?_<;>intro hc1
 ·have hlt:k < P.length:=by have:=W7 hc1;omega
  obtain ⟨s,hs⟩:=aY hlt;have hi:=dC (f:=encStr) hs;refine aH<|Sq<|aN<|Sr<|Dd (BT b5)<|Dd (mB aV)<|Dd aQ<|Zz<|Rg<|Dd aE<|Dd aE<|Uu (by exact DB (κ:=eT) (l:=bM (j0 l (P.take k))) rfl aU aJ rfl (get_cons_same _ _ _) rfl rfl rfl rfl (AZ s _))<|Zz<|Rg<|Dd mC<|Dd aE<|Zz ?_;refine⟨k+1,by omega,by omega,?_⟩;rw [y9 hs];exact bX.get' ⟨⟨_,rfl,rfl⟩,⟨_,rfl,rfl⟩,⟨_,rfl,rfl⟩,⟨_,rfl,by rfl⟩,trivial⟩ (fun j=>gL _ _ _ _ j)
 have hge:k=P.length:=by have:=W8 hc1;omega
 subst hge;rw [List.take_length];refine bE ?_;exact iQ (H':=(1101,bH (j0 l P) c)::H) (.inl rfl) rfl Fin.refl ⟨rfl,rfl⟩
def NB (d:DSt) (k a i:Nat):ByteArray:=CK (2+a*k+i) (bS d (2+a*k+i))
def CV (d:DSt) (k a n:Nat):Bool:=(List.range n).all fun i=>!decide (NB d k a i=sNil)
def NA (d:DSt) (k a n:Nat):List UInt8:=(List.range n).flatMap fun i=>(NB d k a i).data.toList
def vR (d:DSt) (k a n:Nat):Bool:=CV d k a n&&((dR (NA d k a n)).2&&(dR (NA d k a n)).1.all fun c=>jN c.data.toList)
def SK (d:DSt) (k a n:Nat):CT:=m7 ((dR (NA d k a n)).1.map fun c=>c.data.toList)
def uD (d:DSt) (k:Nat):Bool:=jU k 1 (bS d 1)
def HB (d:DSt) (k:Nat):Bool:=uD d k||jU k 0 (bS d 0)
def SF (d:DSt) (k:Nat):Nat:=if uD d k then nR (bS d 1)else if jU k 0 (bS d 0)then nR (bS d 0)else 0
def SE (d:DSt) (k:Nat):Nat:=if uD d k then nQ (bS d 1)else if jU k 0 (bS d 0)then nQ (bS d 0)else 0
theorem QS {p:List UInt8} (h:1≤p.length):¬ ofL p=sNil:=fun e=>by
 have:=congrArg ByteArray.size e;rw [bR] at this;have h0:sNil.size=0:=rfl;omega
theorem DR {d:DSt} {N k a n:Nat} {C:CT} (hc:Calm d N) (h:SInv d.cells k a n C) {Q:List (List UInt8)} (h1:Q.length=n) (h2:LogAt d.cells (2+a*k) Q) {i:Nat} {q:List UInt8} (hq:Q[i]?=some q):NB d k a i=ofL q:=by have hp:=h2.p q (XL hq);rw [NB,kN hc,h2.at' i q hq];exact MV hp.1 hp.2
theorem TG {d:DSt} {N k a n:Nat} {C:CT} (hc:Calm d N) (h:SInv d.cells k a n C) {Q:List (List UInt8)} (h1:Q.length=n) (h2:LogAt d.cells (2+a*k) Q):NA d k a n=Q.flatten:=by
 have go:∀ m,m≤n→(List.range m).flatMap (fun i=>(NB d k a i).data.toList)=(Q.take m).flatten:=by
  intro m
  induction m with
  | zero=>intro _;rfl
  | succ m ih =>
   intro hm;obtain ⟨q,hq⟩:=aY (l:=Q) (k:=m) (by omega);rw [List.range_succ,List.flatMap_append,ih (by omega),cY hq,List.flatten_append,List.flatMap_cons,List.flatMap_nil,DR hc h h1 h2 hq,a6];rfl
 rw [NA,go n (XH _),← h1,List.take_length]
theorem KL {d:DSt} {N k a n:Nat} {C:CT} (hc:Calm d N) (h:SInv d.cells k a n C) (hk:k < 10000000) :
  SF d k=a∧SE d k=n∧(HB d k=true∨(HB d k=false∧bS d 0=zS))∧vR d k a n=true∧SK d k a n=C∧bS d 1=nK 1 a n (HB d k)∧bS d 0=nK 0 a n (HB d k):=by
 obtain ⟨Q,T,h1,h2,h3,h4,h5⟩:=h.lg;have hT:NA d k a n=aR (T.map ofL):=(TG hc h h1 h2).trans h3;have hlen:=qE h2.p;have hnk:=h.nk;have hsp:dR (NA d k a n)=(T.map ofL,true):=by
  rw [hT];refine pE fun x hx=>?_;have:=mO hx;rw [← h3] at this;omega
 have hall:CV d k a n=true:=List.all_eq_true.2 fun i hi=>by
  obtain ⟨q,hq⟩:=aY (l:=Q) (k:=i) (by have:=List.mem_range.1 hi;omega);have hp:=h2.p q (XL hq);rw [DR hc h h1 h2 hq,decide_eq_false (QS hp.1)];rfl
 have hok:vR d k a n=true:=by
  rw [vR,hall,hsp];simp only [Bool.true_and];refine List.all_eq_true.2 fun x hx=>?_;obtain ⟨t,ht,rfl⟩:=List.mem_map.1 hx;rw [a6];exact h4 t ht
 have hC:SK d k a n=C:=by
  rw [SK,hsp,h5,List.map_map];congr 1;rw [show ((fun c:ByteArray=>c.data.toList)∘ofL)=id from funext fun t=>a6 t,List.map_id]
 rcases h.hd with⟨g1,g0⟩|⟨g1,g0,ea,en⟩
 ·have t1:bS d 1=hS 1 a n:=by rw [kN hc,g1];rfl
  have t0:bS d 0=hS 0 a n:=by rw [kN hc,g0];rfl
  obtain ⟨p1,p2,p3⟩:=NL (place:=1) h.a2 h.nk hk;have hh:uD d k=true:=by rw [uD,t1,p3]
  have hH:HB d k=true:=by rw [HB,hh];rfl
  exact⟨by rw [SF,hh,XA rfl,t1,p1],by rw [SE,hh,XA rfl,t1,p2],.inl hH,hok,hC,by rw [hH,t1];rfl,by rw [hH,t0];rfl⟩
 have t1:bS d 1=zS:=by rw [kN hc,g1];rfl
 have t0:bS d 0=zS:=by rw [kN hc,g0];rfl
 have hh:uD d k=false:=by rw [uD,t1,qO]
 have hH:HB d k=false:=by rw [HB,hh,t0,qO];rfl
 exact⟨by rw [SF,hh,W9 (by decide),t0,qO,W9 (by decide),ea],by rw [SE,hh,W9 (by decide),t0,qO,W9 (by decide),en],.inr ⟨hH,t0⟩,hok,hC,by rw [hH,t1];rfl,by rw [hH,t0];rfl⟩
def bW (l:bN):List UInt8:=if l.length=0 then[] else a8 l []
abbrev zR (n:Nat):List ByteArray:=List.replicate n zS
theorem P2:zS.size=64:=by rw [bR,zB,List.length_replicate]
theorem GI (n:Nat):∀ t∈zR n,t.size=64:=fun t ht=>by rw [List.eq_of_mem_replicate ht,P2]
def BR (d:DSt) (k a:Nat) (w:List UInt8):Int×DSt:=if(iO d k (1 - a) 0 w).1=0 then iP (iO d k (1 - a) 0 w).2 (2+a*k+0) (zR (k - 0))else iO d k (1 - a) 0 w
def T9 (d:DSt) (k:Nat) (w:List UInt8):Int×DSt:=if(BR d k 1 w).1=0 then iP (BR d k 1 w).2 (2+0*k+cM w) (zR (k - cM w))else BR d k 1 w
def GT (d:DSt) (k a:Nat) (w:List UInt8):Int×DSt:=if a=1 then T9 d k w else if(BR d k 0 w).1=0 then T9 (BR d k 0 w).2 k w else BR d k 0 w
def gR (k:Nat) (w:List UInt8) (tl:List ByteArray):List ByteArray:=hS 0 0 (cM w)::hS 1 0 (cM w)::(iW 2 w (cM w)++(zR (k - cM w)++(zR k++tl)))
theorem DP {d:DSt} {n:Nat} (h:Calm d n) {k a:Nat} {w:List UInt8} (hk:2*k+2≤n) (hn:n≤8000) (ha:a < 2) (hw:cM w≤k) :
  (BR d k a w).1=0∧Calm (BR d k a w).2 n∧(BR d k a w).2.cells=jX (((jX d.cells (2+(1 - a)*k+0) (iW (2+(1 - a)*k+0) w (cM w))).set 1 (hS 1 (1 - a) (0+cM w))).set 0 (hS 0 (1 - a) (0+cM w))) (2+a*k+0) (zR (k - 0)):=by
 have hak:a*k≤k:=by
  rcases(show a=0∨a=1 by omega)with e|e<;>subst e<;>omega
 obtain ⟨a1,a2,a3⟩:=rZ h (k:=k) (a:=1 - a) (cn:=0) (t:=w) hk hn (by omega) (by omega);obtain ⟨b1,b2,b3⟩:=rY a2 (place:=2+a*k+0) (L:=zR (k - 0)) (by rw [List.length_replicate];omega) (GI _) (by rw [List.length_replicate];omega);rw [BR,XA a1];exact⟨b1,b2,by rw [b3,a3]⟩
theorem DQ {d:DSt} {n:Nat} (h:Calm d n) {k:Nat} {w:List UInt8} (hk:2*k+2≤n) (hn:n≤8000) (hw:cM w≤k) :
  (T9 d k w).1=0∧Calm (T9 d k w).2 n∧(T9 d k w).2.cells=gR k w (d.cells.drop (2*k+2)):=by
 obtain ⟨a1,a2,a3⟩:=DP h (k:=k) (a:=1) (w:=w) hk hn (by omega) hw;obtain ⟨b1,b2,b3⟩:=rY a2 (place:=2+0*k+cM w) (L:=zR (k - cM w)) (by rw [List.length_replicate];omega) (GI _) (by rw [List.length_replicate];omega);rw [T9,XA a1];refine⟨b1,b2,?_⟩;have hl:=h.inv.n;rw [b3,a3];refine List.ext_getElem? fun j=>?_;rw [iB,iB,jG,List.length_set,List.length_set,jG,List.length_replicate,List.length_replicate];rw [gR];rcases(show j=0∨j=1∨∃ i,j=i+2 by
  match j with
  | 0=>exact .inl rfl
  | 1=>exact .inr (.inl rfl)
  | i+2=>exact .inr (.inr ⟨i,rfl⟩))with rfl|rfl|⟨i,rfl⟩
 ·rw [W9 (by omega),W9 (by omega),List.getElem?_set_self (by rw [List.length_set,jG];omega)];rw [XT];rfl
 ·rw [W9 (by omega),W9 (by omega),List.getElem?_set_ne (by omega),List.getElem?_set_self (by rw [jG];omega)];rw [XT];rfl
 rw [List.getElem?_cons_succ,List.getElem?_cons_succ,List.getElem?_set_ne (by omega),List.getElem?_set_ne (by omega),iB,cV];by_cases h1:i < cM w
 ·rw [W9 (by omega),W9 (by omega),XA (by omega),List.getElem?_append_left (by rw [cV];exact h1),qV h1,show i+2 - (2+(1 - 1)*k+0)=i by omega,qV h1,show 2+(1 - 1)*k+0=2 by omega]
 rw [List.getElem?_append_right (by rw [cV];omega),cV];by_cases h2:i < k
 ·rw [XA (by omega),List.getElem?_append_left (by rw [List.length_replicate];omega),List.getElem?_replicate,List.getElem?_replicate,XA (by omega),XA (by omega)]
 rw [W9 (by omega),List.getElem?_append_right (by rw [List.length_replicate];omega),List.length_replicate];by_cases h3:i < 2*k
 ·rw [XA (by omega),List.getElem?_append_left (by rw [List.length_replicate];omega),List.getElem?_replicate,List.getElem?_replicate,XA (by omega),XA (by omega)]
 rw [W9 (by omega),W9 (by omega),List.getElem?_append_right (by rw [List.length_replicate];omega),List.length_replicate,List.getElem?_drop];congr 1;omega
theorem OJ {d:DSt} {n:Nat} (h:Calm d n) {k a:Nat} {w:List UInt8} (hk:2*k+2≤n) (hn:n≤8000) (ha:a < 2) (hw:cM w≤k) :
  (GT d k a w).1=0∧Calm (GT d k a w).2 n∧(GT d k a w).2.cells=gR k w (d.cells.drop (2*k+2)):=by
 rw [GT];by_cases e:a=1
 ·rw [XA e];exact DQ h hk hn hw
 rw [W9 e];obtain ⟨a1,a2,a3⟩:=DP h (k:=k) (a:=0) (w:=w) hk hn (by omega) hw;rw [XA a1];obtain ⟨b1,b2,b3⟩:=DQ a2 hk hn hw;refine⟨b1,b2,?_⟩;rw [b3];congr 1;rw [a3];have hl:=h.inv.n;refine List.ext_getElem? fun j=>?_;rw [List.getElem?_drop,List.getElem?_drop,iB,List.length_replicate,W9 (by omega),List.getElem?_set_ne (by omega),List.getElem?_set_ne (by omega),iB,cV,W9 (by omega)]
theorem EP {cells:List ByteArray} {k a n:Nat} {C:CT} (h:SInv cells k a n C) {l:bN} (hn:eV l) (hl:∀ x,cI l x=C x) (hw:cM (bW l)≤k) (hk:k < 5000) :
  SInv (gR k (bW l) (cells.drop (2*k+2))) k 0 (cM (bW l)) C:=by
 have hkn:=h.kn;have hwr:=h.wrong hn hl;obtain ⟨w,hW⟩:∃ w,w=bW l:=⟨_,rfl⟩;have hlen:(gR k w (cells.drop (2*k+2))).length=cells.length:=by
  rw [← hW] at hw;rw [gR,XD,XD,XC,cV,XC,XC,List.length_replicate,List.length_replicate,XQ];omega
 rw [← hW] at hw ⊢;have hat:LogAt (gR k w (cells.drop (2*k+2))) (2+0*k) ((List.range (cM w)).map (e8 w)):=by
  refine⟨fun q hq=>?_,fun i q hq=>?_⟩
  ·obtain ⟨i,hi,rfl⟩:=List.mem_map.1 hq;exact CL (List.mem_range.1 hi)
  rw [XV] at hq;have hi:i < cM w:=by
   by_cases e:i < cM w
   ·exact e
   rw [List.getElem?_eq_none (by rw [List.length_range];omega)] at hq;cases hq
  rw [List.getElem?_range hi] at hq;cases hq;rw [gR,show 2+0*k+i=i+2 by omega,List.getElem?_cons_succ,List.getElem?_cons_succ,List.getElem?_append_left (by rw [cV];exact hi),qV hi,Nat.add_comm i 2]
 refine⟨h.k1,by rw [hlen];exact hkn,by omega,hw,.inl ⟨rfl,rfl⟩,?_⟩;have hfl:((List.range (cM w)).map (e8 w)).flatten=w:=G9 w;by_cases h0:l.length=0
 ·have hw0:w=[]:=by rw [hW,bW,XA h0]
  refine⟨_,[],?_,hat,by rw [hfl,hw0];rfl,fun t ht=>(by cases ht),?_⟩
  ·rw [XB,List.length_range]
  funext x;rw [← hl,List.length_eq_zero_iff.1 h0];rfl
 have hwt:w=a8 l []:=by rw [hW,bW,W9 h0]
 have hin:=qR (l:=l) (P:=[]) (N:=1000000) (by rw [← hwt];have:=hw;rw [cM] at this;omega);obtain ⟨r1,r2,r3⟩:=GW hn (P:=[]) List.Pairwise.nil (by omega) hwr (by omega);refine⟨_,[aR (b7 l [])],?_,hat,by rw [hfl,hwt];rfl,fun t ht=>by rw [XE.1 ht];exact r1,?_⟩
 ·rw [XB,List.length_range]
 funext x;show C x=TR (fun _=>none) (aR (b7 l [])) x;rw [TR,r3,oF,W9 XR,r2,hl];cases C x<;>rfl
end Go.Proofs.YtmkgeogoojcciaaGreatDoor
