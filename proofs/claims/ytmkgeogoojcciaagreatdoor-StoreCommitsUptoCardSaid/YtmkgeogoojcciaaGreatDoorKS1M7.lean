/-
  Parts of the proof: rules of an abstract program logic, contracts of functions, plain laws. Conditions: each theorem's own.
-/
import Derived.Test.YtmkgeogoojcciaaGreatDoorKS1M6
set_option linter.unusedVariables false
set_option linter.unusedSimpArgs false
set_option maxRecDepth 100000
set_option maxHeartbeats 8000000
namespace Go.Proofs
theorem sF:type_of% Tryz.call46:=Tryz.call46
theorem WY:type_of% Tryz.call47:=Tryz.call47
theorem sE:type_of% Tryz.call50:=Tryz.call50
theorem WV:type_of% Tryz.call53:=Tryz.call53
end Go.Proofs
section
namespace Go.Abs
open Go.Lib
theorem oJ:∀ (l:List UInt8) (a:Nat),decFrom a l=(decFrom 0 l).map fun n=>a*10 ^ l.length+n
 | [],a=>by simp [decFrom]
 | b::r,a=>by
  rw [decFrom,decFrom];cases h:digitVal b with
  | none=>rfl
  | some d =>
   show decFrom (a*10+d) r=(decFrom (0*10+d) r).map _;rw [oJ r (a*10+d),oJ r (0*10+d),Option.map_map];congr 1;funext n;show (a*10+d)*10 ^ r.length+n=a*10 ^ (r.length+1)+((0*10+d)*10 ^ r.length+n);rw [Nat.pow_succ];obtain ⟨p,hp⟩:∃ p,p=10 ^ r.length:=⟨_,rfl⟩;rw [← hp,Nat.add_mul,Nat.mul_assoc,Nat.mul_comm 10 p,Nat.zero_mul,X0];omega
theorem rW (l:List UInt8):∀ z,decFrom 0 (List.replicate z 48++l)=decFrom 0 l
 | 0=>rfl
 | z+1=>by
  have h48:digitVal 48=some 0:=by decide
  rw [List.replicate_succ,List.cons_append,decFrom,h48];exact rW l z
theorem uB (b:List UInt8):∀ (a:List UInt8) (n:Nat),decFrom n (a++b)=(decFrom n a).bind fun x=>decFrom x b
 | [],n=>rfl
 | c::a,n=>by
  rw [List.cons_append,decFrom,decFrom];cases h:digitVal c with
  | none=>rfl
  | some d=>exact uB b a _
theorem KZ {l:List UInt8} {u:Nat} (hne:l≠[]) (hm:∀ b∈l,48≤b.toNat∧b.toNat≤57) (hd:decFrom 0 l=some u):atoi l=some (u:Int):=by
 cases l with
 | nil=>exact absurd rfl hne
 | cons b r =>
  have hb:=hm b List.mem_cons_self;have e2:decNat (b::r)=some u:=by rw [decNat,hd];rfl
  have h43:¬ (b == 43)=true:=fun h=>by rw [beq_iff_eq] at h;rw [h] at hb;exact absurd hb.1 (by decide)
  have h45:¬ (b == 45)=true:=fun h=>by rw [beq_iff_eq] at h;rw [h] at hb;exact absurd hb.1 (by decide)
  rw [atoi,XG h45,XG h43,e2];rfl
theorem BR {l:List UInt8} {u:Nat} (hl:l.length≤18) (hne:l≠[]) (hm:∀ b∈l,48≤b.toNat∧b.toNat≤57) (hd:decFrom 0 l=some u):atoiAll l=.ok (u:Int):=by rw [atoiAll_short _ hl,KZ hne hm hd];rfl
end Go.Abs
namespace Go.Proofs.YtmkgeogoojcciaaGreatDoor
open Go.Proofs.Tryz
open Go.Abs Go.Lib
instance memDecZ (k:ByteArray) (l:List ByteArray):Decidable (k∈l):=decidable_of_iff _ gF
theorem r6 {l:List UInt8} {u:Nat} (hl:l.length≤18) (hne:l≠[]) (hm:∀ b∈l,48≤b.toNat∧b.toNat≤57) (hd:decFrom 0 l=some u):gI (ofL l)=false∧cW (ofL l)=(u:Int):=by
 have h:=BR hl hne hm hd;constructor
 ·rw [gI,bA,h]
 rw [cW,oM,bA,h]
theorem F0 {n w:Nat} {b:UInt8} (h:b∈dg n w):48≤b.toNat∧b.toNat≤57:=by
 rw [dg] at h;rcases List.mem_append.1 h with h|h
 ·rw [List.eq_of_mem_replicate h];decide
 exact mS n h
theorem SU (n w:Nat):dg n w≠[]:=by rw [dg];intro h;exact mU n (List.append_eq_nil_iff.1 h).2
theorem F1 (n w:Nat):decFrom 0 (dg n w)=some n:=by rw [dg,rW,kO]
theorem NT (place a n:Nat) (ha:a < 10) (hn:n < 10000000):(hS place a n).extract 16 24=ofL (dg a 1++dg n 7):=jE (by
 have h8:(dg a 1++dg n 7).length=8:=by rw [XJ,jV (m8 a (by omega) (by omega)),jV (m8 n (by omega) (by omega))]
 rw [eT,bA,bA,y5,m5,pC,List.drop_left' (qS _),List.take_left' h8])
theorem NS (place a n:Nat) (ha:a < 10) (hn:n < 10000000):gI ((hS place a n).extract 16 24)=false∧cW ((hS place a n).extract 16 24)=((a*10000000+n:Nat):Int):=by
 have h7:(dg n 7).length=7:=jV (m8 n (by omega) (by omega));have h8:(dg a 1++dg n 7).length=8:=by rw [XJ,jV (m8 a (by omega) (by omega)),h7]
 rw [NT place a n ha hn];refine r6 (by omega) (fun h=>SU a 1 (List.append_eq_nil_iff.1 h).1) (fun b hb=>?_) ?_
 ·rcases List.mem_append.1 hb with h|h
  ·exact F0 h
  exact F0 h
 rw [uB,F1,Option.bind_some,oJ,F1,h7];rfl
theorem NR {k place a n:Nat} (ha:a < 2) (hn:n≤k) (hk:k < 10000000):nU (hS place a n)=a∧nT (hS place a n)=n∧jX k place (hS place a n)=true:=by
 obtain ⟨h1,h2⟩:=NS place a n (by omega) (by omega);have hb:kJ (hS place a n)=false:=by
  rw [kJ,h1,h2,Bool.false_or];exact decide_eq_false (by omega)
 have hu:JA (hS place a n)=a*10000000+n:=by rw [JA,h2,XT]
 have hA:nU (hS place a n)=a:=by rw [nU,hb,XG (by decide),hu];omega
 have hN:nT (hS place a n)=n:=by rw [nT,hb,XG (by decide),hu];omega
 refine⟨hA,hN,?_⟩;rw [jX,hb,hA,hN,decide_eq_true ha,decide_eq_true hn,decide_eq_true rfl];rfl
theorem JE (place:Nat) {p:List UInt8} (h2:p.length≤46):(ofL (eF place p)).extract 16 18=ofL (dg p.length 2)∧(ofL (eF place p)).extract 18 (18+p.length)=ofL p:=by
 have hd:(dg p.length 2).length=2:=jV (m8 _ (by omega) (by omega));have e:(eF place p).drop 16=dg p.length 2++(p++zB (48 - (dg p.length 2++p).length)):=by rw [eF,m5,pC,List.drop_left' (qS _),List.append_assoc]
 have e2:(eF place p).drop 18=p++zB (48 - (dg p.length 2++p).length):=by
  rw [show 18=16+2 from rfl,← List.drop_drop,e,List.drop_left' hd]
 constructor
 ·refine jE ?_;rw [eT,bA,bA,e];exact List.take_left' hd
 refine jE ?_;rw [eT,bA,bA,e2,show 18+p.length - 18=p.length by omega,List.take_left]
theorem MW {place:Nat} {p:List UInt8} (h1:1≤p.length) (h2:p.length≤46):CR place (ofL (eF place p))=ofL p:=by
 obtain ⟨c1,c2⟩:=JE place h2;have hd:(dg p.length 2).length=2:=jV (m8 _ (by omega) (by omega));obtain ⟨n1,n2⟩:=r6 (l:=dg p.length 2) (u:=p.length) (by omega) (SU _ _) (fun b=>F0) (F1 _ _);have hb:yS (ofL (eF place p))=false:=by
  rw [yS,c1,n1,n2,Bool.false_or,decide_eq_false (by omega),decide_eq_false (by omega)];rfl
 have hp:MX (ofL (eF place p))=ofL p:=by rw [MX,c1,n2,XT,c2]
 rw [CR,hb,XG (by decide),hp,bA,XH rfl]
theorem CQ (t:List UInt8):∀ i,(List.range i).flatMap (fH t)=t.take (46*i)
 | 0=>by rw [List.range_zero,Nat.mul_zero,List.take_zero];rfl
 | i+1=>by
  rw [List.range_succ,List.flatMap_append,CQ t i,List.flatMap_cons,List.flatMap_nil,List.append_nil,fH,Nat.mul_succ];exact(List.take_add ..).symm
theorem HA (t:List UInt8):((List.range (cT t)).map (fH t)).flatten=t:=by rw [← List.flatMap_def,CQ,List.take_of_length_le (by rw [cT];omega)]
theorem CS {t:List UInt8} {i:Nat} (h:i < cT t):1≤(fH t i).length∧(fH t i).length≤46:=by rw [lX];rw [cT] at h;omega
theorem dL (x:ByteArray) (L:List ByteArray):aR (x::L)=decDigits x.size++58::(x.data.toList++aR L):=by
 have h1:aR (x::L)=(mK x).data.toList++aR L:=by rw [aR,List.flatMap_cons];rfl
 rw [h1,mK,ByteArray.data_append,Array.toList_append,ByteArray.data_append,Array.toList_append,kD];simp
theorem N9 (n:Nat):(58:UInt8)∉decDigits n:=fun h=>by
 have:=mS n h;exact absurd this.2 (by decide)
theorem J8 {x:ByteArray} (L:List ByteArray) (hx:x.size < 1000000000000000000):pP (aR (x::L))=false∧HV (aR (x::L))=x.size∧uC (aR (x::L))=x.data.toList++aR L:=by
 obtain ⟨e1,e2⟩:=OH (r:=x.data.toList++aR L) (N9 x.size);rw [← dL] at e1 e2;obtain ⟨n1,n2⟩:=r6 (l:=decDigits x.size) (u:=x.size) (dK (k:=18) (by omega) (by decide)) (mU _) (fun b=>mS _) (kO _);have hm:(58:UInt8)∈aR (x::L):=by rw [dL];simp
 have hi:dD (x.size:Int)=ofL (decDigits x.size):=jE (by rw [bA,kD]);refine⟨?_,?_,e2⟩
 ·rw [pP,e1,e2,n1,n2,decide_eq_true hm,hi,decide_eq_true rfl,decide_eq_false (by omega),decide_eq_false (by rw [XJ,dB];omega)];rfl
 rw [HV,e1,n2,XT]
theorem pH:∀ (L acc:List ByteArray),(∀ x∈L,x.size < 1000000000000000000)→eU (aR L).length (aR L) acc=(acc++L,true)
 | [],acc,_=>by rw [List.append_nil];rfl
 | x::L,acc,h=>by
  obtain ⟨h1,h2,h3⟩:=J8 L (h x List.mem_cons_self);have hne:aR (x::L)≠[]:=by rw [dL];simp
  rw [tT hne h1,h2,h3,List.drop_left' (dB x),List.take_left' (dB x),FI,pH L _ (fun y hy=>h y (List.mem_cons_of_mem _ hy)),List.append_assoc];rfl
theorem pI {L:List ByteArray} (h:∀ x∈L,x.size < 1000000000000000000):dX (aR L)=(L,true):=by rw [dX,pH L [] h,List.nil_append]
theorem C7 (A B:List ByteArray):aR (A++B)=aR A++aR B:=List.flatMap_append
end Go.Proofs.YtmkgeogoojcciaaGreatDoor
end
namespace Go.Proofs.YtmkgeogoojcciaaGreatDoor
open Go.Proofs.Tryz
open Go.Abs
theorem NO (s:ByteArray) (H:aA):aJ Tryz.prog 172 [sv s] H (fun r H'=>r=bv false∧H'=H):=by refine Pu ?_;refine Bd func172 rfl ntmps172<|Sr<|Dd aS<|Zz<|Sr<|Dd aE<|Dd aE<|Dd MD<|Dd aS<|Zz<|aN<|Rt ?_;exact⟨by simp,rfl⟩
theorem Q6 (s t:ByteArray) (H:aA):aJ Tryz.prog 146 [sv s,sv t] H (fun r H'=>r=bv (j0 s t)∧H'=H):=by
 refine Pu ?_;refine Bd func146 rfl ntmps146<|Sr<|Dd aS<|Zz<|Sq ?_;refine dA (t:=4) (n:=15) (X:=j0 s t) ?_ ?_
 ·all_goals refine Dd aE ?_
  all_goals refine Dd (by exact aB rfl rfl call172 rfl (NO _ _))<|Dm ?_
  all_goals refine Sp 7 (fun h7=>?_) fun h7=>?_
  all_goals try contradiction
  all_goals refine Fo<|Fo<|Fo<|Dd gO<|Dm ?_
  all_goals refine Sp 12 (fun h12=>?_) fun h12=>?_
  all_goals try contradiction
  all_goals refine On aE<|On aE<|On (by exact CV rfl rfl rfl)<|Dd gO<|Da ?_
  all_goals(exact⟨⟨_,rfl,by rfl⟩,rfl,rfl,rfl⟩)
 exact aN<|Rt<|Qq
def eN:List ByteArray→Bool
 | a::b::r=>!j0 b a&&eN (b::r)
 | _=>true
theorem z7 {a:ByteArray} {l:List ByteArray} (h:eN (a::l)=true):eN l=true:=by
 cases l with
 | nil=>rfl
 | cons b r=>exact(XR _ _▸h:_∧_).2
theorem qU:∀ (i:Nat) {l:List ByteArray},eN l=true→eN (l.drop i)=true
 | 0,_,h=>h
 | i+1,[],_=>rfl
 | i+1,a::l,h=>qU i (z7 h)
theorem EQ {l:List ByteArray} {k:Nat} {a b:ByteArray} (ha:l[k]?=some a) (hb:l[k+1]?=some b):eN (l.drop k)=(!j0 b a&&eN (l.drop (k+1))):=by obtain ⟨h1,e1⟩:=XM.1 ha;obtain ⟨h2,e2⟩:=XM.1 hb;rw [List.drop_eq_getElem_cons h1,List.drop_eq_getElem_cons h2,e1,e2];rfl
theorem C8 (l:List ByteArray) (H:aA) (hl:l.length < 1099511627776):aJ Tryz.prog 119 [.pv (aW l)] H (fun r H'=>r=bv (eN l)∧H'=H):=by
 refine Pu ?_;have hml:(l.map encStr).length=l.length:=XI _;refine Bd func119 rfl ntmps119<|Sr<|Dd aS<|Zz<|Sq<|Sr<|Dd aE<|Dd (j2 aO)<|Dd (by exact dO rfl rfl rfl (show IntKind.i64.wrap (((l.map encStr).length:Int) - 1)=((l.map encStr).length:Int) - 1 by rw [IntKind.wrap_i64];omega))<|Dd aS<|Zz<|aM ?_;refine bB (σ:=Nat) (fun k=>([(0,.pv (aW l)),(3,iv ((k:Int) - 1))],[])) (fun k=>k≤l.length∧eN (l.drop (k - 1))=true) (fun k=>k) l.length ⟨XO _,?_⟩ ?_ ?_
 ·have:(l.drop (l.length - 1)).length≤1:=by rw [XX];omega
  match l.drop (l.length - 1),this with
  | [],_=>rfl
  | [a],_=>rfl
 ·rw [hml];exact Wk
 rintro k ⟨hk,hs⟩;refine Sq<|Sr<|Dd aE<|Dd y6<|Zz ?_;refine Cn ?_ ?_<;>intro hc1
 ·have hlt:2≤k:=by have:=XE hc1;omega
  obtain ⟨m,rfl⟩:∃ m,k=m+2:=⟨k - 2,by omega⟩;obtain ⟨b,hb⟩:=aY (l:=l) (k:=m+1) (by omega);obtain ⟨a,ha⟩:=aY (l:=l) (k:=m) (by omega);have hib:=cG (f:=encStr) hb;have hia:=cG (f:=encStr) ha;have hat:=EQ ha hb;rw [show m+2 - 1=m+1 by omega] at hs;rw [hs,Bool.and_true] at hat;refine aG<|Sq<|aM<|Sq<|bK follows<|Cq aE<|Cq aE<|Cq (by exact aZ (m:=m+1) rfl bR rfl rfl (by omega) (show (((m+2:Nat):Int) - 1).toNat=m+1 by omega) hib rfl)<|Cq (kL aU)<|Cq aE<|Cq aE<|Cq (by exact dO rfl rfl rfl (show IntKind.i64.wrap ((((m+2:Nat):Int) - 1) - 1)=((m:Nat):Int)by rw [IntKind.wrap_i64];omega))<|Cq (B1 bR)<|Cq (kL aU)<|Cq (by exact aB rfl rfl call146 rfl (Q6 b a _))<|cM<|Kr ?_;refine Cn ?_ ?_<;>intro hc2
  ·have hlt2:j0 b a=true:=hc2;have h0:eN l=false:=by
    rw [Bool.eq_false_iff];intro h;rw [qU m h,hlt2] at hat;cases hat
   rw [h0];exact Sr<|Dd aS<|Zz<|aN<|Rt<|Qq
  have hlt2:j0 b a=false:=hc2;refine aG<|Rg<|Dd aE<|Dd (by exact dO rfl rfl rfl (show IntKind.i64.wrap ((((m+2:Nat):Int) - 1) - 1)=((m+1:Nat):Int) - 1 by rw [IntKind.wrap_i64];omega))<|Da ?_;refine⟨m+1,⟨by omega,?_⟩,by omega,?_⟩
  ·rw [show m+1 - 1=m by omega,hat,hlt2];rfl
  exact Wk
 have hge:k≤1:=by have:=XF hc1;omega
 have h0:eN l=true:=by rw [show k - 1=0 by omega] at hs;exact hs
 rw [h0];exact a6<|Sr<|Dd aS<|Zz<|aN<|Rt<|Qq
end Go.Proofs.YtmkgeogoojcciaaGreatDoor
section
namespace Go.Proofs.YtmkgeogoojcciaaGreatDoor
open Go.Proofs.Tryz
open Go.Abs
structure M3 where
 k:ByteArray
 b:ByteArray
 o:ByteArray
 t:ByteArray
end Go.Proofs.YtmkgeogoojcciaaGreatDoor
namespace Go.Abs
end Go.Abs
namespace Go.Proofs.YtmkgeogoojcciaaGreatDoor
open Go.Proofs.Tryz
open Go.Abs
end Go.Proofs.YtmkgeogoojcciaaGreatDoor
end
namespace Go.Proofs.YtmkgeogoojcciaaGreatDoor
open Go.Proofs.Tryz
open Go.Abs
theorem JX (l:List ByteArray) (s:ByteArray) (H:aA) (hl:l.length < 4611686018427387904):aJ Tryz.prog 123 [.pv (aW l),sv s] H (fun r H'=>r=iv (NX (fun x=>decide (s=x)) l)∧H'=H):=by
 refine Pu ?_;have hml:(l.map encStr).length=l.length:=XI _;refine Bd func123 rfl ntmps123<|Sr<|Dd aS<|Zz<|Sq<|Sr<|Dd aE<|Dd (j2 aO)<|Dd aE<|Zz<|aM ?_;refine bB (σ:=Nat) (fun k=>([(0,.pv (aW l)),(1,sv s),(7,iv ((l.map encStr).length:Int)),(8,iv (k:Int))],[])) (fun k=>k≤l.length∧∀ j,j < k→∀ b,l[j]?=some b→decide (s=b)=false) (fun k=>l.length - k) 0 ⟨by omega,by omega⟩ ?_ ?_
 ·exact E0
 rintro k ⟨hk,hno⟩;refine Sr<|Dd dG<|Zz<|Sq ?_;refine Cn ?_ ?_<;>intro hc1
 ·have hlt:k < l.length:=by have:=XE hc1;omega
  obtain ⟨o,ho⟩:=aY hlt;have hi:=cG (f:=encStr) ho;refine aG<|Sq<|aM<|Sr<|Dd aE<|Dd aS<|Zz<|Sr<|Dd aE<|Dd aE<|Dd aE<|Dd (B1 bR)<|Dd (kL aU)<|Dd S8<|Zz ?_;refine Cn ?_ ?_<;>intro hc2
  ·refine Sr<|Dd aE<|Dd aS<|Zz<|aN<|Rt ?_;exact⟨by rw [NX,J3 hno ho hc2],rfl⟩
  refine aG<|Rg<|Dd kU<|Dd aE<|Zz ?_;exact⟨k+1,⟨by omega,MU hno ho hc2⟩,by omega,E0⟩
 have hge:k=l.length:=by have:=XF hc1;omega
 subst hge;refine a6<|Sr<|Dd aS<|Zz<|aN<|Rt ?_;exact⟨by rw [NX,J4 hno],rfl⟩
theorem RG (l:List ByteArray) (s:ByteArray):l.any (fun x=>decide (s=x))=RH l s:=by rw [RH];congr 1;funext x;rw [Bool.eq_iff_iff,XP,XP];exact eq_comm
theorem BM (l:List ByteArray) (s:ByteArray) (H:aA) (hl:l.length < 4611686018427387904):aJ Tryz.prog 92 [.pv (aW l),sv s] H (fun r H'=>r=bv (RH l s)∧H'=H):=by refine Pu ?_;refine Bd func92 rfl ntmps92<|Sr<|Dd aS<|Zz<|Sr<|Dd aE<|Dd aE<|Dd (by exact aB rfl rfl call123 rfl (JX l s _ hl))<|Dd RK<|Dd aS<|Zz<|aN<|Rt ?_;exact⟨by rw [NW,RG],rfl⟩
def m1 (p:M3):ByteArray×Bool:=if p.t=p.o then(p.o,false)else if p.t=p.b then(p.o,false)else if p.o=p.b then(p.t,false)else(p.b,true)
theorem GE (l:List ByteArray) (q:ByteArray→Bool):(List.range l.length).any (fun k=>((l[k]?).map q).getD false)=l.any q:=by
 rw [Bool.eq_iff_iff,List.any_eq_true,List.any_eq_true];constructor
 ·rintro⟨k,hk,h⟩;have hl:=List.mem_range.1 hk;rw [XN hl] at h;exact⟨_,List.getElem_mem hl,h⟩
 rintro⟨s,hs,h⟩;obtain ⟨k,hk⟩:=X3.1 hs;exact⟨k,List.mem_range.2 (XM.1 hk).1,by rw [hk];exact h⟩
theorem zM (fv:AV) (l:List ByteArray) (q:ByteArray→Bool) (H:aA) (hl:l.length < 4611686018427387904) (hf:∀ s,eK Tryz.prog fv [sv s] H (fun r H'=>r=bv (q s)∧H'=H)) :
  aJ Tryz.prog 93 [.pv (aW l),fv] H (fun r H'=>r=bv (l.any q)∧H'=H):=by
 have h:=yB fv l (fun k=>((l[k]?).map q).getD false) (fun _=>H) hl (fun k s hs=>by rw [hs];exact hf s);rw [GE] at h;exact h
def eJ (s:ByteArray):Bool:=!decide (s=⟨#[]⟩)&&decide ((s.size:Int)≤200)
theorem HF (s:ByteArray) (H:aA):aJ Tryz.prog 91 [sv s] H (fun r H'=>r=bv (eJ s)∧H'=H):=by
 refine Pu ?_;refine Bd func91 rfl ntmps91<|Sr<|Dd aS<|Zz<|Sq ?_;refine dA (t:=2) (n:=9) (X:=eJ s) ?_ ?_
 ·all_goals refine Dd aE ?_
  all_goals refine Dd MD<|Dm ?_
  all_goals refine Sp 5 (fun h5=>?_) fun h5=>?_
  all_goals try contradiction
  all_goals first|refine Fo<|Fo<|Fo ?_|refine On aE<|On (x5 aI)<|On WO ?_
  all_goals refine Dd gO<|Da ?_
  all_goals(exact⟨⟨_,rfl,by(simp only [eJ, *];rfl)⟩,rfl,rfl,rfl⟩)
 exact aN<|Rt<|Qq
def w7 (P:List ByteArray) (p:ByteArray×ByteArray×Nat):Bool:=!eJ p.1||RH P p.1
def bigV (p:ByteArray×ByteArray×Nat):Bool:=decide ((20000:Int) < (p.2.1.size:Int))
def bH (l:bN) (P:List ByteArray):Int:=if l.any (w7 P)||P.any (fun s=>!eJ s)then 1 else if l.any bigV then 2 else 0
def BQ (l:bN) (s:List Nat):Bool:=s.any fun i=>((l[i]?).map bigV).getD false
theorem KS {l:bN} {s:List Nat} {i:Nat} {p:ByteArray×ByteArray×Nat} (h:l[i]?=some p):BQ l (s++[i])=(BQ l s||bigV p):=by rw [BQ,BQ,List.any_append,List.any_cons,List.any_nil,Bool.or_false,h];rfl
theorem OR {l:bN} {s:List Nat} (hb:∀ i,i∈s→i < l.length) (ha:∀ i,i < l.length→i∈s):BQ l s=l.any bigV:=by
 rw [Bool.eq_iff_iff,BQ,List.any_eq_true,List.any_eq_true];constructor
 ·rintro⟨i,hi,h⟩;rw [XN (hb i hi)] at h;exact⟨_,List.getElem_mem (hb i hi),h⟩
 rintro⟨p,hp,h⟩;obtain ⟨i,hi⟩:=X3.1 hp;exact⟨i,ha i (XM.1 hi).1,by rw [hi];exact h⟩
abbrev UC:Ob:=bx 1 53 [.pv (.fn 91)]
abbrev VW (l:bN) (c:Nat) (s:List Nat):aA:=[(946,uZ 950 l c s),(5,UC),(950,bJ l c)]
theorem B3 (s:ByteArray) (H:aA) (h5:H.get 5=some UC):aJ Tryz.prog 94 [sv s,.ref 5 0 0 0] H (fun r H'=>r=bv (!eJ s)∧H'=H):=by refine Bd func94 rfl ntmps94<|Sr<|Dd aS<|Zz<|Sr<|Dd (by exact aX rfl isAgg53 rfl h5 rfl rfl rfl)<|Dd aE<|Dd (by exact gD rfl rfl rfl ((eK.fn call91 (HF s H))))<|Dd uL<|Dd aS<|Zz<|aN ?_;refine a8 (H':=H) (.inr rfl) rfl (aH rfl) Fin.refl ?_;exact Qq
theorem P6 (l:bN) (c:Nat) (P:List ByteArray) (hst:dR l c) (hl:l.length < 1099511627776) (hP:P.length < 1099511627776) :
  aJ Tryz.prog 46 [.mp 950 0,.pv (aW P)] [(950,bJ l c)] (fun r H'=>r=iv (bH l P)∧H'=[(950,bJ l c)]):=by
 refine Bd func46 rfl ntmps46<|Sr<|Dd aS<|Zz<|Sr<|Dd (by exact cC (id:=5) rfl UK rfl rfl)<|Uu (pK sizeOf53)<|Zz<|Sr<|Dd aS<|Zz<|Sq<|Sr<|Dd aE<|Dd (by exact u3 (q:=946) (κ:=eE) (l:=bL l) rfl aT rfl rfl rfl rfl rfl rfl)<|Zz<|aM ?_;refine bB (σ:=List Nat) (fun s=>([(0,.mp 950 0),(1,.pv (aW P)),(5,.ref 5 0 0 0),(6,bv (BQ l s)),(10,.it 946 0)],VW l c s)) (fun s=>(s.Nodup∧∀ i,i∈s→i < l.length)∧∀ i,i∈s→∀ p,l[i]?=some p→w7 P p=false) (fun s=>l.length - s.length) [] ⟨⟨List.nodup_nil,by simp⟩,by simp⟩ ?_ ?_
 ·exact(bY.wk (Ea<|Eb<|Ea<|Eb<|Ea<|trivial) (Hc (k8 rfl _ _ _)<|Hb<|Hc (aQ _ _ _)<|trivial) ⟨rfl,trivial⟩)
 rintro s ⟨⟨hd,hb⟩,hok⟩;have hsl:s.length≤l.length:=gR _ _ hd hb;have hcf:=fun H (h5:H.get 5=some UC)=>zM (.clo 94 [.ref 5 0 0 0]) P (fun s=>!eJ s) H (by omega) (fun s=>eK.clo call94 (B3 s H h5));obtain ⟨ns,hns⟩:∃ b,b=P.any (fun s=>!eJ s):=⟨_,rfl⟩;rw [← hns] at hcf;refine Sq<|Rg ?_;refine iN rfl rfl (BB (κ:=eE) (l:=bL l) rfl rfl rfl rfl rfl rfl rfl rfl rfl (XO _) (XO _)) ?_;rintro _ _ (⟨rfl,rfl,hn0⟩|⟨hni,hnp,hn1,hn2,rfl,rfl⟩)
 ·refine Dd eB<|Zz<|Sq ?_;refine Cn ?_ ?_<;>intro hc1
  ·cases hc1
  have hall:∀ i,i < l.length→i∈s:=fun i hi=>by
   have hq:(bL l)[i]?=some ((l[i]).1,sv (l[i]).2.1,(l[i]).2.2):=by rw [bL,X2,XN hi];rfl
   have:=hn0 _ (XS hq);obtain ⟨j,hj,e⟩:=List.mem_map.1 this;have e2:gJ l j=gJ l i:=by
    rw [e,gJ,XN hi];rfl
   have:=zZ hst (hb j hj) hi e2
   rwa [this] at hj
  have hbig:=OR hb hall;have hnb:l.any (w7 P)=false:=by
   rw [Bool.eq_false_iff];intro h;obtain ⟨p,hp,h⟩:=List.any_eq_true.1 h;obtain ⟨i,hi⟩:=X3.1 hp;rw [hok i (hall i (XM.1 hi).1) p hi] at h;cases h
  have hV:bH l P=if ns=true then 1 else if l.any bigV=true then 2 else 0:=by rw [bH,hnb,← hns,Bool.false_or]
  rw [hV,hbig];obtain ⟨bg,hbg⟩:∃ b,b=l.any bigV:=⟨_,rfl⟩;rw [← hbg];refine a6<|Sq<|aM<|Sr<|Dd aE<|Dd (by exact eQ rfl rfl)<|Dd (by exact aB rfl rfl call93 rfl (hcf _ rfl))<|Da ?_;refine Cn ?_ ?_<;>intro hc2
  ·have hn:ns=true:=hc2;rw [XH hn];refine Sr<|Dd aS<|Zz<|aN ?_;refine a8 (H':=[(950,bJ l c)]) (.inr rfl) rfl (aH rfl) (Fin.wk (by(simp;done)) (Hc (aQ _ _ _)<|trivial) ⟨rfl,trivial⟩) ?_;exact Qq
  have hn:¬ ns=true:=by rw [show ns=false from hc2];decide
  rw [XG hn];refine Sr<|Dd aE<|Da ?_;refine Cn ?_ ?_<;>intro hc3
  ·have hn2:bg=true:=hc3;rw [XH hn2];refine Sr<|Dd aS<|Zz<|aN ?_;refine a8 (H':=[(950,bJ l c)]) (.inr rfl) rfl (aH rfl) (Fin.wk (by(simp;done)) (Hc (aQ _ _ _)<|trivial) ⟨rfl,trivial⟩) ?_;exact Qq
  have hn2:¬ bg=true:=by rw [show bg=false from hc3];decide
  rw [XG hn2];refine aG<|Sr<|Dd aS<|Zz<|aN ?_;refine a8 (H':=[(950,bJ l c)]) (.inr rfl) rfl (aH rfl) (Fin.wk (by(simp;done)) (Hc (aQ _ _ _)<|trivial) ⟨rfl,trivial⟩) ?_;exact Qq
 obtain ⟨p,hp,rfl⟩:=oW hn1;have hlt:hni < l.length:=(XM.1 hp).1;have hst2:gJ l hni=p.2.2:=by rw [gJ,hp];rfl
 have hn3:hni∉s:=fun hm=>hn2 (List.mem_map.2 ⟨hni,hm,hst2⟩);have hb2:∀ i,i∈s++[hni]→i < l.length:=fun i hi=>by
  rcases List.mem_append.1 hi with h|h
  ·exact hb i h
  rw [XL] at h;omega
 have hd2:(s++[hni]).Nodup:=List.nodup_append.2 ⟨hd,by simp,fun a ha b hb e=>by rw [XL] at hb;subst hb;subst e;exact hn3 ha⟩;have hlen:=gR _ _ hd2 hb2;rw [XJ,List.length_singleton] at hlen;have hit:uZ 950 l c (s++[hni])=⟨0,0,0,dV (.mp 950 0) c c (s.map (gJ l)++[p.2.2])⟩:=by rw [uZ,List.map_append,List.map_cons,List.map_nil,hst2]
 have hin:=fun H=>BM P p.1 H (by omega);have hbg:=KS (s:=s) hp;refine Dd eB<|Zz<|Sq ?_;refine Cn ?_ ?_<;>intro hc4
 ·refine aG<|aM<|Sr<|Dd (by exact u4 (κ:=eE) (seen:=s.map (gJ l)) (p:=(p.1,sv p.2.1,p.2.2)) (since:=c) rfl rfl rfl rfl rfl rfl rfl rfl rfl hn1)<|Dd eB<|Dd eB<|Dd aS<|Dd aS<|Zz<|Sq<|Sq ?_;refine fV.ent (E':=[(0,.mp 950 0),(1,.pv (aW P)),(5,.ref 5 0 0 0),(6,bv (BQ l s)),(10,.it 946 0),(7,sv p.1),(8,sv p.2.1)]) (H':=VW l c (s++[hni])) (bY.get' ⟨⟨_,rfl,rfl⟩,⟨_,rfl,rfl⟩,⟨_,rfl,rfl⟩,⟨_,rfl,rfl⟩,⟨_,rfl,rfl⟩,⟨_,rfl,rfl⟩,⟨_,rfl,rfl⟩,trivial⟩ (fun j=>by rw [VW,hit];exact gG 946 _ (uZ 950 l c s) [(5,UC),(950,bJ l c)] j)) ?_;refine dA (t:=24) (n:=10) (X:=w7 P p) ?_ ?_
  ·all_goals refine Dd (eA isAgg53) ?_
   all_goals refine Dd aE<|Dd (by exact gD rfl rfl rfl ((eK.fn call91 (HF p.1 _))))<|Dd uL<|Dm ?_
   all_goals refine Sp 20 (fun h20=>?_) fun h20=>?_
   all_goals try contradiction
   all_goals first|refine Fo<|Fo<|Fo ?_|refine On aE<|On aE<|On (by exact aB rfl rfl call92 rfl (hin _)) ?_
   all_goals refine Dd gO<|Zz ?_
   all_goals(exact⟨⟨_,rfl,by(simp only [w7, *];rfl)⟩,rfl,rfl,rfl⟩)
  refine Cn ?_ ?_<;>intro hc5
  ·have hk2:w7 P p=true:=hc5;have hV:bH l P=1:=by rw [bH,List.any_eq_true.2 ⟨p,XS hp,hk2⟩];rfl
   rw [hV];refine Sr<|Dd aS<|Zz<|aN ?_;refine a8 (H':=[(950,bJ l c)]) (.inr rfl) rfl (aH rfl) (Fin.wk (by(simp;done)) (Hc (aQ _ _ _)<|trivial) ⟨rfl,trivial⟩) ?_;exact Qq
  have hk2:w7 P p=false:=hc5;refine aG ?_;refine dA (t:=6) (n:=8) (X:=BQ l s||bigV p) ?_ ?_
  ·all_goals refine Dd aE ?_
   all_goals refine Dm ?_
   all_goals refine Sp 26 (fun h26=>?_) fun h26=>?_
   all_goals try contradiction
   all_goals first|refine Fo<|Fo<|Fo ?_|refine On aE<|On (x5 aI)<|On y6 ?_
   all_goals refine Dd gO<|Da ?_
   all_goals(exact⟨⟨_,rfl,by rw [h26];rfl⟩,rfl,rfl,rfl⟩)
  refine⟨s++[hni],⟨⟨hd2,hb2⟩,fun i hi q hq=>?_⟩,by rw [XJ,List.length_singleton];omega,?_⟩
  ·rcases List.mem_append.1 hi with h|h
   ·exact hok i h q hq
   rw [XL] at h;subst h;rw [hp] at hq;cases hq;exact hk2
  rw [hbg];exact(bY.wk (Ea<|Eb<|Ea<|Eb<|Ea<|trivial) (Hc (k8 rfl _ _ _)<|Hb<|Hc (aQ _ _ _)<|trivial) ⟨rfl,trivial⟩)
 cases hc4
abbrev g9 (l:List ByteArray):List (List AV):=l.map (fun e=>(encStr e).map .pv)
def raw (e:GEdit) (s:ByteArray):Prop:=s=e.id∨s=e.other∨s=e.node∨s=e.obj.id∨s∈e.refs∨s∈e.obj.refs
abbrev dE (l:List ByteArray):List (List AV):=l.map (fun s=>(encStr s).map .pv)
def x6 (l:List ByteArray):Prop:=l.Pairwise (fun a b=>j0 a b=true)
end Go.Proofs.YtmkgeogoojcciaaGreatDoor
section
namespace Go.Abs
theorem xZ {P:Program} {N:Nat} {o:Oper} {E:bI} {H:aA} {T:TypeId} {t:Tmp} {e:TypeId} {id g off len sz:Nat} {ob:Ob} {row:List AV} {rows':List (List AV)} (ho:o.op=.call {callee:=.builtin .clear,args:=#[.tmp t],argTypes:=#[T]}) (hS:dF P T e sz) (hZ:f7 P e row) (hrow:row.length=sz)
  (hx:E.get t=some (.osl id g off len)) (hH:H.get id=some ob) (hg:ob.g=g) (hosz:ob.sz=sz) (hoff:off≤ob.rows.length) (hrows:ob.rows.take off++(List.replicate len row++ob.rows.drop (off+len))=rows') :
  bW P N o E H .any ((id,⟨g,sz,ob.ty,rows'⟩)::H):=by
 intro a w I ι h1 h2 hr he K Q hkk;obtain ⟨v,hv,hvr⟩:=he t _ hx;obtain ⟨c,h3,h4,h5⟩:=AG hr hvr hH hg;refine JN (x:=.tmp t) (E:=(t,.osc id g off len c)::E) ho hS hZ hrow (bI.get_cons_same _ _ _) hH hg hosz hoff hrows a w I ι h1 h2 hr (fun u x hu=>?_) K Q hkk;by_cases e:t=u
 ·subst e;rw [bI.get_cons_same] at hu;cases hu;exact⟨v,hv,h5⟩
 rw [bI.get_cons_other _ _ e] at hu;exact he u x hu
end Go.Abs
namespace Go.Proofs.YtmkgeogoojcciaaGreatDoor
open Go.Proofs.Tryz
open Go.Abs
def bZ:List ByteArray→List ByteArray
 | []=>[]
 | [x]=>[x]
 | x::y::r=>if x=y then bZ (y::r)else x::bZ (y::r)
theorem tE:∀ (l:List ByteArray) (x y:ByteArray),bZ (l++[x,y])=bZ (l++[x])++(if x=y then[] else[y])
 | [],x,y=>by
  show (if x=y then bZ [y] else x::bZ [y])=[x]++_;by_cases e:x=y
  ·rw [XH e,XH e,e];rfl
  rw [XG e,XG e];rfl
 | [a],x,y=>by
  show (if a=x then bZ [x,y] else a::bZ [x,y])=(if a=x then bZ [x] else a::bZ [x])++_;have:=tE [] x y;rw [show bZ [x,y]=bZ ([]++[x,y])from rfl,this]
  split<;>rfl
 | a::b::l,x,y=>by
  have:=tE (b::l) x y;show (if a=b then bZ ((b::l)++[x,y])else a::bZ ((b::l)++[x,y]))=(if a=b then bZ ((b::l)++[x])else a::bZ ((b::l)++[x]))++_;rw [this]
  split<;>rfl
theorem zO {L:List ByteArray} {k:Nat} {x y:ByteArray} (hk:1≤k) (hx:L[k - 1]?=some x) (hy:L[k]?=some y):bZ (L.take (k+1))=bZ (L.take k)++(if x=y then[] else[y]):=by
 obtain ⟨j,rfl⟩:∃ j,k=j+1:=⟨k - 1,by omega⟩;rw [show j+1 - 1=j by omega] at hx;have h1:L.take (j+1)=L.take j++[x]:=by rw [List.take_add_one,hx];rfl
 have h2:L.take (j+1+1)=L.take j++[x,y]:=by rw [List.take_add_one,h1,hy,List.append_assoc];rfl
 rw [h2,h1,tE]
theorem oL:∀ {l:List ByteArray} {x:ByteArray},x∈bZ l↔x∈l
 | [],x=>Iff.rfl
 | [a],x=>Iff.rfl
 | a::b::l,x=>by
  show x∈(if a=b then bZ (b::l)else a::bZ (b::l))↔_;have ih:=oL (l:=b::l) (x:=x)
  split
  ·next e =>
   rw [ih,e];simp
  rw [XU,ih,List.mem_cons (a:=x) (b:=a)]
theorem rX:∀ {l:List ByteArray},l.Pairwise (fun a b=>j0 b a=false)→x6 (bZ l)
 | [],_=>.nil
 | [a],_=>List.pairwise_singleton _ _
 | a::b::l,h=>by
  have h2:=(List.pairwise_cons.1 h).2;have ih:=rX h2;show x6 (if a=b then bZ (b::l)else a::bZ (b::l))
  split
  ·exact ih
  next e =>
  refine List.pairwise_cons.2 ⟨fun y hy=>?_,ih⟩;have hy2:=oL.1 hy;have hba:j0 b a=false:=(List.pairwise_cons.1 h).1 b List.mem_cons_self;have hab:j0 a b=true:=by
   cases hc:j0 a b with
   | true=>rfl
   | false=>exact absurd (uP hc hba) e
  rcases XU.1 hy2 with rfl|hy2
  ·exact hab
  have h3:=(List.pairwise_cons.1 h2).1 y hy2;cases hc:j0 b y with
  | true=>exact sN hab hc
  | false=>rw [uP h3 hc];exact hab
theorem y9:∀ (l:List ByteArray),(bZ l).length≤l.length
 | []=>XO _
 | [a]=>XO _
 | a::b::l=>by
  have ih:=y9 (b::l);show (if a=b then bZ (b::l)else a::bZ (b::l)).length≤(b::l).length+1
  split
  ·omega
  rw [XK];omega
theorem qT {l:List ByteArray} {i:Nat} {s:ByteArray} (h:l[i]?=some s):(g9 l)[i]?=some ((encStr s).map .pv):=by rw [X2,h];rfl
theorem FO {P L:List ByteArray} {j:Nat} {s:ByteArray} (h:P.length≤j) (hs:L[j]?=some s):(P++L.drop P.length)[j]?=some s:=by rw [List.getElem?_append_right h,List.getElem?_drop,show P.length+(j - P.length)=j by omega];exact hs
theorem FW {H:aA} {id:Nat} {o:Ob} (h:H.get id=some o) (j:Nat):aA.get ((id,o)::H) j=H.get j:=by
 by_cases e:j=id
 ·subst e;rw [get_cons_same,h]
 exact get_cons_other _ _ e
theorem zN (L:List ByteArray) (g:Nat) (H:aA) (h1:H.get 901=some ⟨g,1,9,g9 L⟩) (hl:L.length < 1099511627776) :
  aJ Tryz.prog 47 [.osl 901 g 0 L.length] H (fun r H'=>r=.osl 901 g 0 (bZ L).length∧H'=(901,⟨g,1,9,g9 (bZ L++List.replicate (L.length - (bZ L).length) sNil)⟩)::H):=by
 refine Bd func47 rfl ntmps47 ?_;refine fV.ent (E':=[(0,.osl 901 g 0 L.length)]) (H':=(901,⟨g,1,9,g9 L⟩)::H) (bY.get' ⟨⟨_,rfl,rfl⟩,trivial⟩ (FW h1)) ?_;refine Sr<|Dd aS<|Zz<|Sq<|Sr<|Dd aE<|Dd (by exact cV rfl aO rfl rfl rfl)<|Dd dG<|Zz ?_;refine Cn ?_ ?_<;>intro hc1
 ·have hlt:L.length < 2:=by have:=XE hc1;omega
  have hc0:bZ L=L:=by
   match L,hlt with
   | [],_=>rfl
   | [a],_=>rfl
  refine Sr<|Dd aE<|Dd aS<|Zz<|aN ?_;refine a8 (H':=(901,⟨g,1,9,g9 L⟩)::H) (.inr rfl) rfl (aH rfl) Fin.refl ⟨by rw [hc0],by rw [hc0,Nat.sub_self,List.replicate_zero,List.append_nil]⟩
 have hge:2≤L.length:=by have:=XF hc1;omega
 refine aG<|Sq<|Sr<|Dd aS<|Zz<|aM ?_;refine bB (σ:=Nat) (fun i=>([(0,.osl 901 g 0 L.length),(3,iv (i:Int))],(901,⟨g,1,9,g9 L⟩)::H)) (fun i=>1≤i∧i≤L.length∧bZ (L.take i)=L.take i) (fun i=>L.length - i) 1 ⟨by omega,by omega,by
  obtain ⟨x,hx⟩:=aY (l:=L) (k:=0) (by omega);rw [List.take_add_one,hx];rfl⟩ ?_ ?_
 ·exact bY.get' ⟨⟨_,rfl,rfl⟩,⟨_,rfl,rfl⟩,trivial⟩ (fun j=>rfl)
 rintro i ⟨hi1,hi2,hi3⟩;refine Sq<|Sr<|Dd aE<|Dd aE<|Dd (by exact cV rfl aO rfl rfl rfl)<|Dd dG<|Zz ?_;refine Cn ?_ ?_<;>intro hc2
 ·have hil:i < L.length:=by have:=XE hc2;omega
  obtain ⟨y,hy⟩:=aY hil;obtain ⟨x,hx⟩:=aY (l:=L) (k:=i - 1) (by omega);have ht:=zO hi1 hx hy;refine aG<|Sq<|aM<|Sq<|bK follows<|Cq aE<|Cq aE<|Cq (by exact dU rfl bR rfl rfl rfl rfl rfl (by omega) (by exact XT _) hil (X0 _))<|Cq (by exact aX rfl aU rfl rfl rfl (qT hy) rfl)<|Cq aE<|Cq aE<|Cq (by exact dO rfl rfl rfl (by exact iA (by omega) (by omega)))<|Cq (by exact dU (m:=i - 1) rfl bR rfl rfl rfl rfl rfl (by omega) (show ((i:Int) - 1).toNat=i - 1 by omega) (by omega) (X0 _))<|Cq (by exact aX rfl aU rfl rfl rfl (qT hx) rfl)<|Cq S8<|cM<|Kr ?_;refine Cn ?_ ?_<;>intro hc3
  ·have hyx:=XE hc3;rw [XH hyx.symm,List.append_nil,hi3] at ht;refine Sr<|Dd aE<|Dd aE<|Dd (by exact fC (l:=i) (h:=L.length) rfl bR rfl rfl rfl rfl rfl rfl (by omega) (XO _) (X0 _) rfl)<|Dd aS<|Zz<|Sq<|Sr<|Dd aS<|Zz<|aM ?_;refine tL (fun(k:Nat) (R:List ByteArray)=>([(0,.osl 901 g 0 L.length),(3,iv (R.length:Int)),(4,.osl 901 g i (L.length - i)),(5,iv (k:Int))],(901,⟨g,1,9,g9 (R++L.drop R.length)⟩)::H)) (fun k R=>1≤k∧i+k≤L.length∧R=bZ (L.take (i+k))∧R.length+1≤i+k) (fun k R=>L.length - (i+k)) 1 (L.take i) ⟨by omega,by omega,ht.symm,by rw [XW];omega⟩ ?_ ?_
   ·have hti:(L.take i).length=i:=by rw [XW];omega
    rw [hti,List.take_append_drop];exact bY.get' ⟨⟨_,rfl,rfl⟩,⟨_,rfl,rfl⟩,⟨_,rfl,rfl⟩,⟨_,rfl,rfl⟩,trivial⟩ (fun j=>rfl)
   rintro k R ⟨hk1,hk2,hk3,hk4⟩;refine Sq<|Sr<|Dd aE<|Dd aE<|Dd (by exact cV rfl aO rfl rfl rfl)<|Dd dG<|Zz ?_;refine Cn ?_ ?_<;>intro hc4
   ·have hkl:i+k < L.length:=by have:=XE hc4;omega
    obtain ⟨v,hv⟩:=aY hkl;obtain ⟨u,hu⟩:=aY (l:=L) (k:=i+k - 1) (by omega);have ht2:=zO (by omega) hu hv;have hv2:=qT (FO (P:=R) (by omega) hv);have hu2:=qT (FO (P:=R) (by omega) hu);refine aG<|Sq<|aM<|Sq<|bK follows<|Cq aE<|Cq aE<|Cq (by exact dU (m:=k) rfl bR rfl rfl rfl rfl rfl (by omega) (XT _) (by omega) rfl)<|Cq (by exact aX rfl aU rfl rfl rfl hv2 rfl)<|Cq aE<|Cq aE<|Cq (by exact dO rfl rfl rfl (by exact iA (by omega) (by omega)))<|Cq (by exact dU (m:=k - 1) (m2:=i+k - 1) rfl bR rfl rfl rfl rfl rfl (by omega) (show ((k:Int) - 1).toNat=k - 1 by omega) (by omega) (by omega))<|Cq (by exact aX rfl aU rfl rfl rfl hu2 rfl)<|Cq MD<|cM<|Kr ?_;refine Cn ?_ ?_<;>intro hc5
    ·have hne:¬ u=v:=fun e=>by
      have h:=hc5;rw [e] at h;simp at h
     rw [XG hne,← hk3] at ht2;have hR0:∃ z,L[R.length]?=some z:=aY (by omega);obtain ⟨z,hz⟩:=hR0;have hat:(g9 (R++L.drop R.length))[R.length]?=some ((encStr z).map .pv):=qT (FO (P:=R) (XO _) hz);have hset:(g9 (R++L.drop R.length)).set R.length [sv v]=g9 ((R++[v])++L.drop (R++[v]).length):=by
      have hd:L.drop R.length=z::L.drop (R.length+1):=by
       obtain ⟨p,q⟩:=XM.1 hz;rw [List.drop_eq_getElem_cons p,q]
      rw [hd,XJ,List.length_singleton,g9,List.map_append,List.map_cons,List.set_append_right _ _ (by rw [XI];exact XO _),XI,Nat.sub_self,List.set_cons_zero,List.append_assoc,g9,List.map_append,List.map_append];rfl
     refine Sr<|Dd aE<|Dd aE<|Dd aE<|Dd aE<|Dd (by exact dU (m:=k) rfl bR rfl rfl rfl rfl rfl (by omega) (XT _) (by omega) rfl)<|Dd (by exact aX rfl aU rfl rfl rfl hv2 rfl)<|Dd (by exact dU rfl bR rfl rfl rfl rfl rfl (by omega) (by exact XT _) (by omega:R.length < L.length) (X0 _))<|Uu (by exact cX rfl sizeOf9 rfl rfl rfl rfl rfl hat (by simp [encStr]) rfl hset)<|Zz<|Rg<|Dd aE<|Dd kU<|Dd aS<|Zz<|Rg<|Dd aE<|Dd kU<|Da ?_;refine⟨k+1,R++[v],⟨by omega,by omega,ht2.symm,by rw [XJ,List.length_singleton];omega⟩,by omega,?_⟩;rw [show (((R++[v]).length:Nat):Int)=(R.length:Int)+1 by rw [XJ,List.length_singleton];rfl];exact bY.dup ⟨⟨_,rfl,rfl⟩,⟨_,rfl,rfl⟩,⟨_,rfl,rfl⟩,⟨_,rfl,rfl⟩,trivial⟩
    have he:u=v:=by
     have h:=hc5;have h2:v=u:=by simpa using h
     exact h2.symm
    rw [XH he,List.append_nil,← hk3] at ht2;refine aG<|Rg<|Dd aE<|Dd kU<|Da ?_;refine⟨k+1,R,⟨by omega,by omega,ht2.symm,by omega⟩,by omega,?_⟩;exact bY.get' ⟨⟨_,rfl,rfl⟩,⟨_,rfl,rfl⟩,⟨_,rfl,rfl⟩,⟨_,rfl,rfl⟩,trivial⟩ (fun j=>rfl)
   have hge2:i+k=L.length:=by have:=XF hc4;omega
   rw [hge2,List.take_length] at hk3;have hRl:R.length≤L.length:=by omega
   have hmix:(g9 (R++L.drop R.length)).length=L.length:=by
    rw [XI,XJ,XX];omega
   have hcl:(g9 (R++L.drop R.length)).take R.length++(List.replicate (L.length - R.length) [sv sNil]++(g9 (R++L.drop R.length)).drop (R.length+(L.length - R.length)))=g9 (R++List.replicate (L.length - R.length) sNil):=by
    have hd0:(g9 (R++L.drop R.length)).drop (R.length+(L.length - R.length))=[]:=List.drop_eq_nil_of_le (by rw [hmix];omega);rw [hd0,List.append_nil,g9,List.map_append,List.take_left' (XI _),g9,List.map_append,List.map_replicate];rfl
   refine a6<|Sr<|Dd aE<|Dd aE<|Dd (by exact fC (l:=R.length) (h:=L.length) rfl bR rfl rfl rfl rfl rfl rfl hRl (XO _) (X0 _) rfl)<|Uu (by exact xZ rfl bR WI rfl rfl rfl rfl rfl (by rw [hmix];exact hRl) hcl)<|Zz<|Sr<|Dd aE<|Dd aE<|Dd (by exact fC (l:=0) (h:=R.length) rfl bR rfl rfl rfl rfl rfl rfl (XZ _) hRl (X0 _) rfl)<|Dd aS<|Zz<|aN ?_;refine a8 (H':=(901,⟨g,1,9,g9 (R++List.replicate (L.length - R.length) sNil)⟩)::H) (.inr rfl) rfl (aH rfl) (Fin.get' (fun j=>gG _ _ _ _ j)) ⟨by rw [hk3];rfl,by rw [hk3]⟩
  have hyx:=XF hc3;rw [XG (fun e=>hyx e.symm),hi3] at ht;refine aG<|Rg<|Dd aE<|Dd kU<|Da ?_;refine⟨i+1,⟨by omega,by omega,?_⟩,by omega,bY.get' ⟨⟨_,rfl,rfl⟩,⟨_,rfl,rfl⟩,trivial⟩ (fun j=>rfl)⟩;rw [ht,List.take_add_one,hy];rfl
 have hge3:i=L.length:=by have:=XF hc2;omega
 subst hge3;rw [List.take_length] at hi3;refine a6<|Sr<|Dd aE<|Dd aS<|Zz<|aN ?_;refine a8 (H':=(901,⟨g,1,9,g9 L⟩)::H) (.inr rfl) rfl (aH rfl) Fin.refl ⟨by rw [hi3],by rw [hi3,Nat.sub_self,List.replicate_zero,List.append_nil]⟩
end Go.Proofs.YtmkgeogoojcciaaGreatDoor
end
namespace Go.Proofs.YtmkgeogoojcciaaGreatDoor
open Go.Proofs.Tryz
open Go.Abs Go.Lib
theorem vI (a b:ByteArray):j0 a b=decide (BY a < BY b):=by unfold j0;rw [iL,ByteArray.toList_eq,ByteArray.toList_eq];rfl
theorem B7 (l:List UInt8):BY (SP l)=l:=by simp [BY,SP]
theorem sM (l:List ByteArray):(b4 l).Pairwise (fun a b=>j0 b a=false):=by unfold b4;rw [List.pairwise_map];refine List.Pairwise.imp (R:=fun(x y:List UInt8)=>decide (x≤y)=true) (fun {x y} h=>?_) (List.pairwise_mergeSort (le:=fun(x y:List UInt8)=>decide (x≤y)) (fun a b c h1 h2=>decide_eq_true (List.le_trans (XE h1) (XE h2))) tS _);rw [vI,B7,B7];exact decide_eq_false (List.not_lt.2 (XE h))
theorem IO {l:List ByteArray} (hn:l.Nodup):x6 (b4 l):=by
 have hp:(b4 l).Pairwise (fun a b=>a≠b):=(mI l).symm.pairwise hn (fun {a b} h=>h.symm);refine(hp.and (sM l)).imp fun {a b} h=>?_;obtain ⟨h1,h2⟩:=h;cases hc:j0 a b with
 | true=>rfl
 | false=>exact absurd (uP hc h2) h1
theorem wK {l:List ByteArray} (h:x6 l):l.Nodup:=by refine List.Pairwise.imp (fun {a b} h e=>?_) h;subst e;rw [GW] at h;cases h
theorem uQ {a b:ByteArray} (h:j0 a b=true):j0 b a=false:=by
 cases e:j0 b a with
 | false=>rfl
 | true=>have:=sN h e;rw [GW] at this;cases this
theorem IP {l:List ByteArray} (h:x6 l):b4 l=l:=by
 have hp:(l.map BY).Pairwise (fun x y=>decide (x≤y)=true):=by
  rw [List.pairwise_map];refine h.imp fun {a b} h=>decide_eq_true ?_;have h2:=uQ h;rw [vI] at h2;exact List.not_lt.1 (XF h2)
 rw [b4,List.mergeSort_of_pairwise hp,AY]
theorem vH:∀ {l:List ByteArray},l.Pairwise (fun a b=>j0 b a=false)→eN l=true
 | [],_=>rfl
 | [a],_=>rfl
 | a::b::r,h=>by
  have h1:=(List.pairwise_cons.1 h).1 b List.mem_cons_self;rw [eN,h1,vH (List.pairwise_cons.1 h).2];rfl
theorem RE {l:List ByteArray} (h:x6 l):l.Pairwise (fun a b=>j0 b a=false):=h.imp fun {a b} h=>uQ h
theorem zA:∀ {l:List ByteArray},l.Nodup→bZ l=l
 | [],_=>rfl
 | [a],_=>rfl
 | a::b::r,h=>by
  have hn:=List.nodup_cons.1 h;have e:¬ a=b:=fun e=>hn.1 (by rw [e];exact List.mem_cons_self);show (if a=b then bZ (b::r)else a::bZ (b::r))=_;rw [XG e,zA hn.2]
theorem A2 {k v:ByteArray} {n:Nat}:∀ {l:bN},fB l→(k,v,n)∈l→cS l k=some v
 | [],_,h=>by cases h
 | (k',a,m)::r,hn,h=>by
  have h2:=List.nodup_cons.1 hn;rw [cS];rcases XU.1 h with e|h
  ·cases e;rw [XH rfl]
  rw [XG (fun e=>h2.1 (by subst e;exact List.mem_map.2 ⟨_,h,rfl⟩))];exact A2 h2.2 h
theorem AX {k v:ByteArray}:∀ {l:bN},cS l k=some v→∃ n,(k,v,n)∈l
 | [],h=>by cases h
 | (k',a,m)::r,h=>by
  rw [cS] at h;by_cases e:k'=k
  ·rw [XH e] at h;cases h;subst e;exact⟨m,List.mem_cons_self⟩
  rw [XG e] at h;obtain ⟨n,hn⟩:=AX h;exact⟨n,List.mem_cons_of_mem _ hn⟩
theorem yY {a b:bN} (ha:fB a) (hb:fB b) (h:∀ k,cS a k=cS b k):(a.map Prod.fst).Perm (b.map Prod.fst):=(List.perm_ext_iff_of_nodup ha hb).2 fun k=>by
 have h1:=gS (k:=k) (l:=a);have h2:=gS (k:=k) (l:=b);rw [h k] at h1;exact Decidable.not_iff_not.1 (h1.symm.trans h2)
theorem sL {a b:bN} (ha:fB a) (hb:fB b) (h:∀ k,cS a k=cS b k):bP a=bP b:=nN (yY ha hb h)
theorem A0 {a b:bN} (ha:fB a) (hb:fB b) (h:∀ k,cS a k=cS b k):a.length=b.length:=by
 have:=(yY ha hb h).length_eq
 rwa [XI,XI] at this
theorem IJ {a b:bN} (ha:fB a) (hb:fB b) (h:∀ k,cS a k=cS b k) (P:List ByteArray):cA a P=cA b P:=by
 have hg:(fun x=>[x,cE a x])=fun x=>[x,cE b x]:=by
  funext x;rw [kY,kY,h]
 have hl:(bL a).length=(bL b).length:=by rw [bL,bL,XI,XI,A0 ha hb h]
 rw [cA,cA,sL ha hb h,wZ,wZ,hg,hl]
theorem yH {a b:bN} (ha:fB a) (hb:fB b) (h:∀ k,cS a k=cS b k) (P:List ByteArray):bC a P=bC b P:=by rw [bC,bC,IJ ha hb h]
theorem D3 {a b:bN} (h:∀ k,cS a k=cS b k) (q:ByteArray×ByteArray×Nat→Bool) (hq:∀ k v n m,q (k,v,n)=q (k,v,m)) (ha:fB a):a.any q=true→b.any q=true:=by intro h1;obtain ⟨⟨k,v,n⟩,hp,h2⟩:=List.any_eq_true.1 h1;have e:=A2 ha hp;rw [h] at e;obtain ⟨m,hm⟩:=AX e;exact List.any_eq_true.2 ⟨_,hm,by rw [hq k v m n];exact h2⟩
theorem IB {a b:bN} (ha:fB a) (hb:fB b) (h:∀ k,cS a k=cS b k) (q:ByteArray×ByteArray×Nat→Bool) (hq:∀ k v n m,q (k,v,n)=q (k,v,m)):a.any q=b.any q :=Bool.eq_iff_iff.2 ⟨D3 h q hq ha,D3 (fun k=>(h k).symm) q hq hb⟩
theorem EG {a b:bN} (ha:fB a) (hb:fB b) (h:∀ k,cS a k=cS b k) (P:List ByteArray):bH a P=bH b P:=by rw [bH,bH,IB ha hb h (w7 P) (fun k v n m=>rfl),IB ha hb h bigV (fun k v n m=>rfl)]
def lF (W:List ByteArray):Nat→bN×Nat
 | 0=>([],0)
 | j+1=>(fZ (lF W j).1 (W.getD (2*j) sNil) (W.getD (2*j+1) sNil) (lF W j).2,lG (lF W j).1 (W.getD (2*j) sNil) (lF W j).2)
theorem nZ (W:List ByteArray):∀ j,dR (lF W j).1 (lF W j).2∧fB (lF W j).1
 | 0=>⟨⟨List.Pairwise.nil,fun p hp=>(by cases hp)⟩,List.nodup_nil⟩
 | j+1=>⟨A3 (nZ W j).1 _ _,A4 (nZ W j).2 _ _ _⟩
theorem wF (k v:ByteArray) (c:Nat) (l:bN):l.length≤(fZ l k v c).length∧(fZ l k v c).length≤l.length+1:=by
 have h:=congrArg List.length (oX k v c l);rw [XI] at h;rw [h]
 split
 ·rw [XI];omega
 rw [XJ,XI,List.length_singleton];omega
theorem uV (W:List ByteArray):∀ j,(lF W j).1.length≤j
 | 0=>XO _
 | j+1=>by
  have h1:=uV W j;have h2:=(wF (W.getD (2*j) sNil) (W.getD (2*j+1) sNil) (lF W j).2 (lF W j).1).2;show (fZ (lF W j).1 (W.getD (2*j) sNil) (W.getD (2*j+1) sNil) (lF W j).2).length≤_;omega
theorem AU (F R:List ByteArray):∀ j,2*j≤F.length→lF (F++R) j=lF F j
 | 0,_=>rfl
 | j+1,h=>by
  have h1:(F++R).getD (2*j) sNil=F.getD (2*j) sNil:=by rw [List.getD_eq_getElem?_getD,List.getD_eq_getElem?_getD,List.getElem?_append_left (by omega)]
  have h2:(F++R).getD (2*j+1) sNil=F.getD (2*j+1) sNil:=by rw [List.getD_eq_getElem?_getD,List.getD_eq_getElem?_getD,List.getElem?_append_left (by omega)]
  rw [lF,lF,AU F R j (by omega),h1,h2]
theorem zD (g:ByteArray→ByteArray):∀ (S:List ByteArray) (j:Nat) (s:ByteArray),S[j]?=some s→(S.flatMap fun x=>[x,g x])[2*j]?=some s∧(S.flatMap fun x=>[x,g x])[2*j+1]?=some (g s)
 | [],j,s,h=>by cases h
 | x::r,0,s,h=>by cases h;exact⟨rfl,rfl⟩
 | x::r,j+1,s,h=>zD g r j s h
theorem CZ (g:ByteArray→ByteArray) {S:List ByteArray} (hn:S.Nodup):∀ j,j≤S.length→(lF (S.flatMap fun x=>[x,g x]) j).1.map Prod.fst=S.take j∧∀ k,cS (lF (S.flatMap fun x=>[x,g x]) j).1 k=if k∈S.take j then some (g k)else none
 | 0,_=>⟨rfl,fun k=>by rw [List.take_zero,XG XY];rfl⟩
 | j+1,h=>by
  obtain ⟨h1,h2⟩:=CZ g hn j (by omega);obtain ⟨s,hs⟩:=aY (l:=S) (k:=j) (by omega);obtain ⟨f1,f2⟩:=zD g S j s hs;have g1:(S.flatMap fun x=>[x,g x]).getD (2*j) sNil=s:=by rw [List.getD_eq_getElem?_getD,f1];rfl
  have g2:(S.flatMap fun x=>[x,g x]).getD (2*j+1) sNil=g s:=by rw [List.getD_eq_getElem?_getD,f2];rfl
  have ht:S.take (j+1)=S.take j++[s]:=cR hs;have hns:s∉S.take j:=fun hm=>by
   have hn2:(S.take (j+1)).Nodup:=hn.sublist (List.take_sublist _ _);rw [ht] at hn2;exact(List.nodup_append.1 hn2).2.2 s hm s (XL.2 rfl) rfl
  rw [lF,g1,g2,ht];constructor
  ·rw [oX,h2 s,XG hns,h1];rfl
  intro k;rw [uY,h2 k];by_cases e:s=k
  ·subst e;rw [XH rfl,XH (by simp)]
  rw [XG e];by_cases hk:k∈S.take j
  ·rw [XH hk,XH (List.mem_append_left _ hk)]
  rw [XG hk,XG (fun hm=>by
   rcases List.mem_append.1 hm with h|h
   ·exact hk h
   rw [XL] at h;exact e h.symm)]
theorem j8 {l:bN} {k:ByteArray}:k∈bP l↔k∈l.map Prod.fst:=(mI _).mem_iff
theorem vD {l:bN} (h:fB l):x6 (bP l):=IO h
theorem yV {l:bN} (h:fB l) (R:List ByteArray):∀ k,cS (lF (((bP l).flatMap fun x=>[x,cE l x])++R) l.length).1 k=cS l k:=by
 intro k;have hl:=fL l;rw [AU _ _ _ (by rw [fN,hl];omega)];obtain ⟨_,h2⟩:=CZ (cE l) (wK (vD h)) l.length (by omega);rw [h2,List.take_of_length_le (by omega)];by_cases hk:k∈bP l
 ·rw [XH hk,kY];cases e:cS l k with
  | some v=>rfl
  | none=>exact absurd (j8.1 hk) (gS.1 e)
 rw [XG hk];exact(gS.2 (fun h=>hk (j8.2 h))).symm
abbrev xN (t:List UInt8):List ByteArray:=(dX t).1
abbrev SK (t:List UInt8):Int:=cW ((xN t).getD 0 sNil)
abbrev G3 (t:List UInt8):Nat:=(SK t).toNat
abbrev fD (t:List UInt8):bN×Nat:=lF ((xN t).drop 1) (G3 t)
abbrev cZ (t:List UInt8):List ByteArray:=(xN t).drop (2*G3 t+2)
def p5 (t:List UInt8):Bool:=!(dX t).2||decide ((xN t).length=0)
def jS (t:List UInt8):Bool:=((gI ((xN t).getD 0 sNil)||decide (SK t < 0))||decide ((((xN t).length / 2:Nat):Int) < SK t))||decide (((xN t).length:Int) < 2*SK t+2)
def pZ (t:List UInt8):Bool:=((((decide ((fD t).1.length+(cZ t).length=0)||!decide (bH (fD t).1 (cZ t)=0))||!decide (bC (fD t).1 (cZ t)=aR [ofL t]))||!eN (cZ t))||decide ((bZ (cZ t)).length < (cZ t).length))
def jR (t:List UInt8):Bool:=!p5 t&&(!jS t&&!pZ t)
theorem jI (l:bN) (P:List ByteArray):cA l P=dD (l.length:Int)::(((bP l).flatMap fun x=>[x,cE l x])++(dD (P.length:Int)::P)):=by rw [cA,wZ,List.take_length,bL,XI,XI,List.cons_append,List.cons_append,List.append_assoc];rfl
theorem mP:∀ {L:List ByteArray} {x:ByteArray},x∈L→x.size≤(aR L).length
 | [],x,h=>by cases h
 | y::L,x,h=>by
  rw [dL,XJ,XK,XJ,dB];rcases XU.1 h with rfl|h
  ·omega
  have:=mP h;omega
theorem GZ {l:bN} {P:List ByteArray} (hn:fB l) (hP:x6 P) (h0:0 < l.length+P.length) (hw:bH l P=0) (hsz:(aR (cA l P)).length < 1000000000000) :
  jR (aR (cA l P))=true∧(∀ k,cS (fD (aR (cA l P))).1 k=cS l k)∧cZ (aR (cA l P))=P:=by
 have hsp:dX (aR (cA l P))=(cA l P,true):=pI fun x hx=>by have:=mP hx;omega
 have hlen:=oA (cA l P);have hparts:=jI l P;have hll:(cA l P).length=2*l.length+2+P.length:=by
  rw [hparts,XK,XJ,fN,fL,XK];omega
 have hD:(cA l P).getD 0 sNil=dD (l.length:Int):=by rw [hparts];rfl
 have hi:dD (l.length:Int)=ofL (decDigits l.length):=jE (by rw [bA,kD]);obtain ⟨n1,n2⟩:=r6 (l:=decDigits l.length) (u:=l.length) (dK (k:=18) (by omega) (by decide)) (mU _) (fun b=>mS _) (kO _);have hL:xN (aR (cA l P))=cA l P:=by rw [xN,hsp]
 have hV:SK (aR (cA l P))=(l.length:Int):=by rw [SK,hL,hD,hi,n2]
 have hN:G3 (aR (cA l P))=l.length:=by rw [G3,hV,XT]
 have hput:∀ k,cS (fD (aR (cA l P))).1 k=cS l k:=by
  rw [fD,hL,hN,hparts,List.drop_succ_cons,List.drop_zero];exact yV hn _
 have hnd:fB (fD (aR (cA l P))).1:=(nZ _ _).2;have hdrop:cZ (aR (cA l P))=P:=by
  rw [cZ,hL,hN,show cA l P=(dD (l.length:Int)::(((bP l).flatMap fun x=>[x,cE l x])++[dD (P.length:Int)]))++P by rw [hparts];simp];exact List.drop_left' (by rw [XK,XJ,fN,fL];rfl)
 refine⟨?_,hput,hdrop⟩;have b1:p5 (aR (cA l P))=false:=by
  rw [p5,hL,hsp,hll,decide_eq_false (by omega)];rfl
 have b2:jS (aR (cA l P))=false:=by
  rw [jS,hV,hL,hD,hi,n1,hll,decide_eq_false (by omega),decide_eq_false (by omega),decide_eq_false (by omega)];rfl
 have b3:pZ (aR (cA l P))=false:=by
  rw [pZ,hdrop,EG hnd hn hput,hw,yH hnd hn hput,A0 hnd hn hput,vH (RE hP),zA (wK hP),decide_eq_false (by omega),decide_eq_true rfl,show bC l P=aR [ofL (aR (cA l P))] from rfl,decide_eq_true rfl,decide_eq_false (by omega)];rfl
 rw [jR,b1,b2,b3];rfl
theorem oB (n:Nat) (h:n < 1000000000000000000):(dD (n:Int)).size≤21:=qA (by omega) (by omega)
theorem t6 {M:Nat} (hM:M < 1000000000000000000):∀ (L:List ByteArray),(∀ s∈L,s.size≤M)→(aR L).length≤L.length*(M+22)
 | [],_=>XZ _
 | s::r,h=>by
  have ih:=t6 hM r (fun x hx=>h x (List.mem_cons_of_mem _ hx));have hs:=h s List.mem_cons_self;have hd:=dK (k:=18) (u:=s.size) (by omega) (by decide);rw [dL,XJ,XK,XJ,dB,XK,Nat.add_mul];omega
theorem vF:∀ (n:Nat) (t:List UInt8) (acc:List ByteArray) (x:ByteArray),x∈(eU n t acc).1→x∈acc∨x.size≤t.length
 | 0,t,acc,x,h=>.inl h
 | n+1,t,acc,x,h=>by
  have hcl:=(F7 t).2;rw [eU] at h
  split at h
  ·exact .inl h
  split at h
  ·cases h
  rcases vF n _ _ x h with h|h
  ·rcases List.mem_append.1 h with h|h
   ·exact .inl h
   rw [XL.1 h,bS,XW];exact .inr (by omega)
  rw [XX] at h;exact .inr (by omega)
theorem AB {t:List UInt8} {x:ByteArray} (h:x∈xN t):x.size≤t.length:=by
 rcases vF _ _ _ _ h with h|h
 ·cases h
 exact h
theorem C5 {k v:ByteArray} {c:Nat} {p:ByteArray×ByteArray×Nat}:∀ {l:bN},p∈fZ l k v c→p∈l∨(p.1=k∧p.2.1=v)
 | [],h=>by
  rw [XL.1 h];exact .inr ⟨rfl,rfl⟩
 | (k',a,n)::r,h=>by
  rw [fZ] at h
  split at h
  ·rcases XU.1 h with h|h
   ·rw [h];exact .inr ⟨rfl,rfl⟩
   exact .inl (List.mem_cons_of_mem _ h)
  rcases XU.1 h with h|h
  ·rw [h];exact .inl List.mem_cons_self
  rcases C5 h with h|h
  ·exact .inl (List.mem_cons_of_mem _ h)
  exact .inr h
theorem y8 {W:List ByteArray} {M:Nat} (h:∀ x∈W,x.size≤M) (i:Nat):(W.getD i sNil).size≤M:=by
 rw [List.getD_eq_getElem?_getD];cases e:W[i]? with
 | none=>exact XZ _
 | some x=>exact h x (XS e)
theorem HG {W:List ByteArray} {M:Nat} (h:∀ x∈W,x.size≤M):∀ (j:Nat) (p:ByteArray×ByteArray×Nat),p∈(lF W j).1→p.1.size≤M∧p.2.1.size≤M
 | 0,p,hp=>by cases hp
 | j+1,p,hp=>by
  rcases C5 hp with h1|⟨h1,h2⟩
  ·exact HG h j p h1
  rw [h1,h2];exact⟨y8 h _,y8 h _⟩
theorem p8 {M:Nat} (k:ByteArray):∀ {l:bN},(∀ p∈l,p.2.1.size≤M)→(cE l k).size≤M
 | [],_=>XZ _
 | (k',a,n)::r,h=>by
  rw [cE]
  split
  ·exact h _ List.mem_cons_self
  exact p8 k fun p hp=>h p (List.mem_cons_of_mem _ hp)
theorem yG (l:bN) (P:List ByteArray):(cA l P).length=2*l.length+2+P.length:=by rw [jI,XK,XJ,fN,fL,XK];omega
theorem nM {l:bN} {P:List ByteArray} {M:Nat} (h21:21≤M) (hM:M < 1000000000) (hl:∀ p∈l,p.1.size≤M∧p.2.1.size≤M) (hP:∀ s∈P,s.size≤M) (hn:2*l.length+2+P.length < 1000000000) :
  (bC l P).length≤(2*l.length+2+P.length)*(M+22)+22:=by
 have h1:(aR (cA l P)).length≤(cA l P).length*(M+22):=by
  refine t6 (by omega) _ fun s hs=>?_;rw [jI] at hs;rcases XU.1 hs with rfl|hs
  ·have:=oB l.length (by omega);omega
  rcases List.mem_append.1 hs with hs|hs
  ·obtain ⟨x,hx,hs⟩:=List.mem_flatMap.1 hs;simp only [XU,XY,or_false] at hs;rcases hs with rfl|rfl
   ·obtain ⟨p,hp,rfl⟩:=List.mem_map.1 (j8.1 hx);exact(hl p hp).1
   exact p8 x fun p hp=>(hl p hp).2
  rcases XU.1 hs with rfl|hs
  ·have:=oB P.length (by omega);omega
  exact hP s hs
 rw [yG] at h1;have hb:(2*l.length+2+P.length)*(M+22)≤1000000000*1000000022:=Nat.mul_le_mul (by omega) (by omega);have hd:=dK (k:=19) (u:=(aR (cA l P)).length) (by omega) (by decide);rw [bC,dL,XJ,XK,XJ,bA,bS];have h0:(aR []).length=0:=rfl;omega
theorem MN {t:List UInt8} (ht:t.length < 1000000) (hb:jS t=false):(bC (fD t).1 (cZ t)).length < 35184372088832∧(fD t).1.length≤t.length∧(cZ t).length≤t.length:=by
 have h1:=uV ((xN t).drop 1) (G3 t);have hlen:(xN t).length≤t.length:=by
  have go:∀ (n:Nat) (u:List UInt8) (acc:List ByteArray),(eU n u acc).1.length≤acc.length+n:=by
   intro n
   induction n with
   | zero=>intro u acc;exact Nat.le_add_right _ _
   | succ n ih =>
    intro u acc;rw [eU]
    split
    ·exact Nat.le_add_right _ _
    split
    ·exact XZ _
    have:=ih ((uC u).drop (HV u)) (acc++[ofL ((uC u).take (HV u))]);rw [XJ,List.length_singleton] at this;omega
  have:=go t.length t [];rw [List.length_nil,X0] at this;exact this
 rw [jS] at hb;simp only [X4,XQ] at hb;have h2:G3 t≤(xN t).length / 2:=by
  have h3:=hb.1.2;have h4:=hb.1.1.2;rw [G3];omega
 have h5:(fD t).1.length≤t.length:=by
  show (lF ((xN t).drop 1) (G3 t)).1.length≤_;omega
 have h6:(cZ t).length≤t.length:=by
  rw [cZ,XX];omega
 refine⟨?_,h5,h6⟩;have h7:=nM (l:=(fD t).1) (P:=cZ t) (M:=1000000) (by decide) (by decide) (fun p hp=>by
  have:=HG (W:=(xN t).drop 1) (M:=t.length) (fun x hx=>AB (List.mem_of_mem_drop hx)) _ p hp;omega) (fun s hs=>by have:=AB (List.mem_of_mem_drop hs);omega) (by omega)
 have h8:(2*(fD t).1.length+2+(cZ t).length)*(1000000+22)≤3000002*1000022:=Nat.mul_le_mul (by omega) (by omega);omega
structure Calm (d:DSt) (n:Nat):Prop where
 inv:DInv d n 0
 off:d.off=false
 na:∀ a w b,d.arm≠.on a w b
theorem Calm.q {d:DSt} {n:Nat} (h:Calm d n):d.q=[]:=List.length_eq_zero_iff.1 (Nat.le_zero.1 h.inv.q)
theorem r4 {n:Nat} (h1:1≤n) (h2:n≤8000):Calm (kV n) n:=⟨RD h1 h2,rfl,fun a w b h=>by cases h⟩
theorem zK {s:DSt} (h:∀ a w b,s.arm≠.on a w b):dI s=s∧eC s=0:=by
 unfold dI eC;cases e:s.arm with
 | on a w b=>exact absurd e (h a w b)
 | never=>exact⟨rfl,rfl⟩
 | off a w b=>exact⟨rfl,rfl⟩
def j1 (cells:List ByteArray) (p:Nat):List ByteArray→List ByteArray
 | []=>cells
 | t::r=>j1 (cells.set p t) (p+1) r
def qO (p:Nat):List ByteArray→List (Nat×ByteArray)
 | []=>[]
 | t::r=>(p,t)::qO (p+1) r
theorem AD:∀ (A B:List ByteArray) (p:Nat),qO p (A++B)=qO p A++qO (p+A.length) B
 | [],B,p=>rfl
 | t::A,B,p=>by
  rw [List.cons_append,qO,qO,AD A B (p+1),List.cons_append,XK,Nat.add_assoc p 1,Nat.add_comm 1 A.length]
theorem uS:∀ (L cells:List ByteArray) (p:Nat),cK cells (qO p L)=j1 cells p L
 | [],_,_=>rfl
 | t::r,cells,p=>uS r (cells.set p t) (p+1)
theorem jK:∀ (L cells:List ByteArray) (p:Nat),(j1 cells p L).length=cells.length
 | [],_,_=>rfl
 | t::r,cells,p=>(jK r (cells.set p t) (p+1)).trans List.length_set
theorem iD:∀ (L cells:List ByteArray) (p j:Nat),(j1 cells p L)[j]?=if p≤j∧j < p+L.length∧j < cells.length then L[j - p]? else cells[j]?
 | [],cells,p,j=>by rw [j1,XG (by rw [List.length_nil];omega)]
 | t::r,cells,p,j=>by
  rw [j1,iD r (cells.set p t) (p+1) j,List.length_set,XK];by_cases h:p≤j∧j < p+(r.length+1)∧j < cells.length
  ·rw [XH h];by_cases e:p=j
   ·subst e;rw [XG (by omega),List.getElem?_set_self h.2.2,Nat.sub_self];rfl
   rw [XH (by omega),show j - p=(j - (p+1))+1 by omega,List.getElem?_cons_succ]
  rw [XG h,XG (by omega)];by_cases e:p=j
  ·subst e;have hl:cells.length≤p:=by omega
   rw [List.getElem?_eq_none (by rw [List.length_set];exact hl),List.getElem?_eq_none hl]
  rw [List.getElem?_set_ne e]
theorem B5 {d:DSt} {n:Nat} (h:Calm d n) {place:Nat} {L:List ByteArray} (hp:place+L.length≤n) (hs:∀ t∈L,t.size=64):∀ i,i≤L.length→mF d place L i=(0,{d with q:=qO place (L.take i),gq:=d.gq+i})
 | 0,_=>by
  rw [mF,List.take_zero,qO,← h.q];rfl
 | i+1,hi=>by
  obtain ⟨t,ht⟩:=aY (l:=L) (k:=i) (by omega);have hz:=hs t (XS ht);have hD:L.getD i sNil=t:=by rw [List.getD_eq_getElem?_getD,ht];rfl
  have hq:qO place (L.take (i+1))=qO place (L.take i)++[(place+i,t)]:=by
   rw [cR ht,AD,XW,Nat.min_eq_left (by omega)];rfl
  obtain ⟨s,hS⟩:∃ s,s=({d with q:=qO place (L.take i),gq:=d.gq+i}:DSt):=⟨_,rfl⟩;have so:s.off=false:=by rw [hS];exact h.off
  have sc:eZ s ((place+i:Nat):Int)=true:=by
   rw [i7,hS];exact decide_eq_true (by have:=h.inv.n;show place+i < d.cells.length;omega)
  obtain ⟨c1,c2⟩:=zK (s:=iW s (place+i) t) (by rw [hS];exact h.na);rw [mF,B5 h hp hs i (by omega),XH rfl,hD,hq,← hS];have w1:gV s ((place+i:Nat):Int) t=0:=by rw [gV,so,XG (by decide),sc,decide_eq_true hz,XH (show (true&&true)=true from rfl),XT,c2]
  have w2:iJ s ((place+i:Nat):Int) t=iW s (place+i) t:=by rw [iJ,so,XG (by decide),sc,decide_eq_true hz,XH (show (true&&true)=true from rfl),XT,c1]
  rw [w1,w2,hS];rfl
theorem LV {d:DSt} {n:Nat} (h:Calm d n) {place:Nat} {L:List ByteArray} (hp:place+L.length≤n) (hs:∀ t∈L,t.size=64):iU d place L=(0,{d with cells:=j1 d.cells place L,q:=[],gq:=d.gq+L.length+1}):=by
 have hk:=B5 h hp hs L.length (XO _);rw [List.take_length] at hk;obtain ⟨s,hS⟩:∃ s,s=({d with q:=qO place L,gq:=d.gq+L.length}:DSt):=⟨_,rfl⟩;have so:s.off=false:=by rw [hS];exact h.off
 obtain ⟨c1,c2⟩:=zK (s:=s) (by rw [hS];exact h.na);rw [← hS] at hk;have w1:lJ s=0:=by rw [lJ,so,XG (by decide),c2]
 have w2:iK s=tD s:=by rw [iK,so,XG (by decide),c2,XH rfl,c1]
 rw [iU,hk,XH rfl,w1,w2,tD,hS];show (0,({d with cells:=cK d.cells (qO place L),q:=[],gq:=d.gq+L.length+1}:DSt))=_;rw [uS]
theorem rZ {d:DSt} {n:Nat} (h:Calm d n) {place:Nat} {L:List ByteArray} (hp:place+L.length≤n) (hs:∀ t∈L,t.size=64) (hm:L.length≤1048576):(iU d place L).1=0∧Calm (iU d place L).2 n∧(iU d place L).2.cells=j1 d.cells place L:=by have hi:=jZ h.inv place L (by omega);rw [LV h hp hs] at hi ⊢;exact⟨rfl,⟨⟨hi.ok,hi.arm,hi.n,XZ _⟩,h.off,h.na⟩,rfl⟩
theorem kP {d:DSt} {n:Nat} (h:Calm d n) (i:Nat):bT d i=(d.cells[i]?).getD ⟨#[]⟩:=by rw [bT,h.q];rfl
theorem A9 (place:Nat) {a n:Nat} (ha:a < 10) (hn:n < 10000000):(hS place a n).size=64:=by rw [bS,y5,yJ];rw [XJ,jV (m8 a (by omega) (by omega)),jV (m8 n (by omega) (by omega))];omega
theorem E9 (place:Nat) {p:List UInt8} (h:p.length≤46):(eF place p).length=64:=by rw [eF,yJ];rw [XJ,jV (m8 _ (by omega) (by omega))];omega
theorem IW (fr:Nat) (t:List UInt8) (i:Nat):∀ x∈i6 fr t i,x.size=64:=fun x hx=>by
 obtain ⟨j,hj,rfl⟩:=List.mem_map.1 hx;rw [bS,E9 _ (by rw [lX];omega)]
theorem qX {fr:Nat} {t:List UInt8} {i j:Nat} (h:j < i):(i6 fr t i)[j]?=some (ofL (eF (fr+j) (fH t j))):=by rw [i6,X2,List.getElem?_range h];rfl
theorem OM {d:DSt} {n:Nat} (h:Calm d n) (hn:2≤n) {a cn:Nat} (ha:a < 10) (hc:cn < 10000000):(uH d a cn).1=0∧Calm (uH d a cn).2 n∧(uH d a cn).2.cells=(d.cells.set 1 (hS 1 a cn)).set 0 (hS 0 a cn):=by obtain ⟨a1,a2,a3⟩:=rZ h (place:=1) (L:=[hS 1 a cn]) (by rw [List.length_singleton];omega) (fun t ht=>by rw [XL.1 ht];exact A9 _ ha hc) (by rw [List.length_singleton];omega);obtain ⟨b1,b2,b3⟩:=rZ a2 (place:=0) (L:=[hS 0 a cn]) (by rw [List.length_singleton];omega) (fun t ht=>by rw [XL.1 ht];exact A9 _ ha hc) (by rw [List.length_singleton];omega);rw [uH,XH a1];exact⟨b1,b2,by rw [b3,a3];rfl⟩
theorem r5 {d:DSt} {n:Nat} (h:Calm d n) {k a cn:Nat} {t:List UInt8} (hk:2*k+2≤n) (hn:n≤8000) (ha:a < 2) (hc:cn+cT t≤k) :
  (iT d k a cn t).1=0∧Calm (iT d k a cn t).2 n∧(iT d k a cn t).2.cells=((j1 d.cells (2+a*k+cn) (i6 (2+a*k+cn) t (cT t))).set 1 (hS 1 a (cn+cT t))).set 0 (hS 0 a (cn+cT t)):=by
 have hak:a*k≤k:=by
  rcases(show a=0∨a=1 by omega)with e|e<;>subst e<;>omega
 obtain ⟨a1,a2,a3⟩:=rZ h (place:=2+a*k+cn) (L:=i6 (2+a*k+cn) t (cT t)) (by rw [cY];omega) (IW _ _ _) (by rw [cY];omega);obtain ⟨b1,b2,b3⟩:=OM a2 (a:=a) (cn:=cn+cT t) (by omega) (by omega) (by omega);rw [iT,XH a1];exact⟨b1,b2,by rw [b3,a3]⟩
abbrev CT:=ByteArray→Option ByteArray
def o9 (C:CT) (l:bN) (D:List ByteArray):CT:=fun x=>if x∈D then none else(cS l x).orElse fun _=>C x
def TT (C:CT) (t:List UInt8):CT:=o9 C (fD t).1 (cZ t)
def m9 (T:List (List UInt8)):CT:=T.foldl TT (fun _=>none)
theorem qH (T:List (List UInt8)) (t:List UInt8):m9 (T++[t])=TT (m9 T) t:=by rw [m9,List.foldl_append];rfl
theorem OD {C:CT} {l:bN} {D:List ByteArray} {x v:ByteArray} (h:o9 C l D x=some v):cS l x=some v∨C x=some v:=by
 rw [o9] at h
 split at h
 ·cases h
 cases e:cS l x with
 | none=>rw [e] at h;exact .inr h
 | some u=>rw [e] at h;exact .inl h
theorem H5 (T:List (List UInt8)) {x v:ByteArray}:m9 T x=some v→∃ t∈T,cS (fD t).1 x=some v:=by
 have go:∀ (n:Nat) (T:List (List UInt8)),T.length=n→m9 T x=some v→∃ t∈T,cS (fD t).1 x=some v:=by
  intro n
  induction n with
  | zero =>
   intro T hT h;rw [List.length_eq_zero_iff.1 hT] at h;cases h
  | succ n ih =>
   intro T hT h;have hne:T≠[]:=fun e=>by rw [e] at hT;cases hT
   have e:T=T.dropLast++[T.getLast hne]:=(List.dropLast_concat_getLast hne).symm;rw [e,qH] at h;rcases OD h with h|h
   ·exact⟨_,List.getLast_mem hne,h⟩
   obtain ⟨t,ht,h2⟩:=ih T.dropLast (by rw [List.length_dropLast];omega) h;exact⟨t,List.dropLast_subset T ht,h2⟩
 exact go T.length T rfl
theorem vN {t:List UInt8} (h:jR t=true):(dX t).2=true∧jS t=false∧0 < (fD t).1.length+(cZ t).length∧bH (fD t).1 (cZ t)=0:=by rw [jR] at h;simp only [XR,Bool.not_eq_true'] at h;obtain ⟨h1,h2,h3⟩:=h;rw [p5,X4] at h1;rw [pZ] at h3;simp only [X4,XQ,Bool.not_eq_false',XP] at h3;refine⟨by simpa using h1.1,h2,by have:=h3.1.1.1.1;omega,h3.1.1.1.2⟩
theorem mG {l:bN} {D:List ByteArray} (h:bH l D=0):(∀ p∈l,eJ p.1=true∧p.1∉D∧p.2.1.size≤20000)∧∀ s∈D,eJ s=true:=by
 rw [bH] at h
 split at h
 ·cases h
 next h1 =>
 split at h
 ·cases h
 next h2 =>
 rw [Bool.not_eq_true,X4] at h1;constructor
 ·intro p hp;have a1:=List.any_eq_false.1 h1.1 p hp;have a2:=List.any_eq_false.1 (Bool.not_eq_true _▸h2) p hp;rw [w7] at a1;rw [bigV] at a2;simp only [Bool.not_eq_true,X4,Bool.not_eq_false',XQ] at a1 a2;refine⟨a1.1,fun hm=>?_,by omega⟩;rw [gF.2 hm] at a1;cases a1.2
 intro s hs;have a1:=List.any_eq_false.1 h1.2 s hs
 simpa using a1
theorem wG {l:bN} {D:List ByteArray} (h1:∀ p∈l,eJ p.1=true∧p.1∉D∧p.2.1.size≤20000) (h2:∀ s∈D,eJ s=true):bH l D=0:=by
 have a1:l.any (w7 D)=false:=List.any_eq_false.2 fun p hp=>by
  have:=h1 p hp;rw [w7,this.1,Bool.not_true,Bool.false_or];exact fun e=>this.2.1 (gF.1 e)
 have a2:D.any (fun s=>!eJ s)=false:=List.any_eq_false.2 fun s hs=>by rw [h2 s hs];decide
 have a3:l.any bigV=false:=List.any_eq_false.2 fun p hp=>by
  have:=(h1 p hp).2.2;rw [bigV];simp only [XP];omega
 rw [bH,a1,a2,a3];rfl
theorem U6 {T:List (List UInt8)} (hT:∀ t∈T,jR t=true) {x v:ByteArray} (h:m9 T x=some v):eJ x=true∧v.size≤20000:=by obtain ⟨t,ht,h2⟩:=H5 T h;obtain ⟨n,hn⟩:=AX h2;have:=(mG (vN (hT t ht)).2.2.2).1 _ hn;exact⟨this.1,this.2.2⟩
theorem OC {T:List (List UInt8)} (hT:∀ t∈T,jR t=true) {l:bN} (hn:fB l) (hl:∀ x,cS l x=m9 T x):bH l []=0 :=wG (fun⟨x,v,n⟩ hp=>by
  have:=U6 hT ((hl x).symm.trans (A2 hn hp));exact⟨this.1,XY,this.2⟩) (fun s hs=>by cases hs)
theorem NA {α:Type} [DecidableEq α]:∀ {l m:List α},l.Nodup→(∀ x,x∈l→x∈m)→l.length≤m.length
 | [],m,_,_=>XZ _
 | a::l,m,hn,h=>by
  have hn2:=List.nodup_cons.1 hn;have hm:a∈m:=h a List.mem_cons_self;have h2:=NA (l:=l) (m:=m.erase a) hn2.2 (fun x hx=>(List.mem_erase_of_ne (fun e=>by subst e;exact hn2.1 hx)).2 (h x (List.mem_cons_of_mem _ hx)));rw [List.length_erase_of_mem hm] at h2;have:=List.length_pos_of_mem hm;rw [XK];omega
theorem pT:∀ (n:Nat) (t:List UInt8) (acc:List ByteArray),(eU n t acc).1.length≤acc.length+n
 | 0,t,acc=>Nat.le_add_right _ _
 | n+1,t,acc=>by
  rw [eU]
  split
  ·exact Nat.le_add_right _ _
  split
  ·exact XZ _
  have:=pT n ((uC t).drop (HV t)) (acc++[ofL ((uC t).take (HV t))]);rw [XJ,List.length_singleton] at this;omega
theorem G4 (t:List UInt8):(xN t).length≤t.length:=by have:=pT t.length t [];rw [List.length_nil,X0] at this;exact this
theorem IZ {t:List UInt8} (h:jS t=false):(fD t).1.length≤t.length:=by
 have h1:=uV ((xN t).drop 1) (G3 t);have h2:=G4 t;rw [jS] at h;simp only [X4,XQ] at h;have h3:=h.1.2;have h4:=h.1.1.2;have:G3 t≤(xN t).length / 2:=by rw [G3];omega
 show (lF ((xN t).drop 1) (G3 t)).1.length≤_;omega
theorem TS {T:List (List UInt8)} (hT:∀ t∈T,jR t=true) {l:bN} (hn:fB l) (hl:∀ x,cS l x=m9 T x):l.length≤(aR (T.map ofL)).length:=by
 have h1:(l.map Prod.fst).length≤(T.flatMap fun t=>(fD t).1.map Prod.fst).length:=NA hn (fun x hx=>by
  cases e:cS l x with
  | none=>exact absurd hx (gS.1 e)
  | some v =>
   rw [hl] at e;obtain ⟨t,ht,h2⟩:=H5 T e;obtain ⟨n,h3⟩:=AX h2;exact List.mem_flatMap.2 ⟨t,ht,List.mem_map.2 ⟨_,h3,rfl⟩⟩)
 rw [XI] at h1;refine Nat.le_trans h1 ?_;clear h1 hl hn
 induction T with
 | nil=>exact XZ _
 | cons t T ih =>
  have:=ih (fun t ht=>hT t (List.mem_cons_of_mem _ ht));have h2:=IZ (vN (hT t List.mem_cons_self)).2.1;rw [List.flatMap_cons,XJ,XI,List.map_cons,dL,XJ,XK,XJ,bA];omega
structure LogAt (cells:List ByteArray) (fr:Nat) (Q:List (List UInt8)):Prop where
 p:∀ q∈Q,1≤q.length∧q.length≤46
 at':∀ i q,Q[i]?=some q→cells[fr+i]?=some (ofL (eF (fr+i) q))
structure SInv (cells:List ByteArray) (k a n:Nat) (C:CT):Prop where
 k1:1≤k
 kn:2*k+2≤cells.length∧cells.length≤2*k+3
 a2:a < 2
 nk:n≤k
 hd:(cells[1]?=some (hS 1 a n)∧cells[0]?=some (hS 0 a n))∨(cells[1]?=some zS∧cells[0]?=some zS∧a=0∧n=0)
 lg:∃ (Q T:List (List UInt8)),Q.length=n∧LogAt cells (2+a*k) Q∧Q.flatten=aR (T.map ofL)∧(∀ t∈T,jR t=true)∧C=m9 T
theorem qF:∀ {Q:List (List UInt8)},(∀ q∈Q,1≤q.length∧q.length≤46)→Q.flatten.length≤46*Q.length
 | [],_=>XO _
 | q::Q,h=>by
  have:=qF (Q:=Q) (fun q hq=>h q (List.mem_cons_of_mem _ hq));have:=(h q List.mem_cons_self).2;rw [List.flatten_cons,XJ,XK];omega
theorem SInv.len {cells:List ByteArray} {k a n:Nat} {C:CT} (h:SInv cells k a n C) {l:bN} (hn:fB l) (hl:∀ x,cS l x=C x):l.length≤46*n:=by obtain ⟨Q,T,h1,h2,h3,h4,h5⟩:=h.lg;have:=TS h4 hn (fun x=>by rw [hl,h5]);have:=qF h2.p;rw [h3] at this;omega
theorem SInv.wrong {cells:List ByteArray} {k a n:Nat} {C:CT} (h:SInv cells k a n C) {l:bN} (hn:fB l) (hl:∀ x,cS l x=C x):bH l []=0:=by obtain ⟨Q,T,h1,h2,h3,h4,h5⟩:=h.lg;exact OC h4 hn (fun x=>by rw [hl,h5])
theorem qP {k place:Nat}:jX k place zS=false:=by
 have h:gI (zS.extract 16 24)=true:=by
  have e:(zS.extract 16 24).data.toList=[0,0,0,0,0,0,0,0]:=by
   rw [eT,bA];rfl
  rw [gI,e];rfl
 have hb:kJ zS=true:=by rw [kJ,h];rfl
 rw [jX,hb];rfl
theorem qW {n:Nat} (h1:4≤n):SInv (kV n).cells ((n - 2) / 2) 0 0 (fun _=>none):=by
 have hl:(kV n).cells.length=n:=by rw [kV,List.length_replicate]
 have hz:∀ i,i < n→(kV n).cells[i]?=some zS:=fun i hi=>by
  show (List.replicate n z64)[i]?=_;rw [List.getElem?_replicate,XH hi];rfl
 refine⟨by omega,by omega,by omega,by omega,.inr ⟨hz 1 (by omega),hz 0 (by omega),rfl,rfl⟩,[],[],rfl,⟨fun q hq=>(by cases hq),fun i q hq=>(by cases hq)⟩,rfl,fun t ht=>(by cases ht),rfl⟩
theorem MH {cells:List ByteArray} {k a n:Nat} {C:CT} (h:SInv cells k a n C) {l:bN} {D:List ByteArray} (hn:fB l) (hD:x6 D) (h0:0 < l.length+D.length) (hw:bH l D=0) (hc:n+cT (bC l D)≤k) (hk:k < 5000) :
  SInv (((j1 cells (2+a*k+n) (i6 (2+a*k+n) (bC l D) (cT (bC l D)))).set 1 (hS 1 a (n+cT (bC l D)))).set 0 (hS 0 a (n+cT (bC l D)))) k a (n+cT (bC l D)) (o9 C l D):=by
 obtain ⟨Q,T,h1,h2,h3,h4,h5⟩:=h.lg;have hin:=qR (l:=l) (P:=D) (N:=1000000) (by have:=hc;rw [cT] at this;omega);obtain ⟨r1,r2,r3⟩:=GZ hn hD h0 hw (by omega);obtain ⟨t,ht⟩:∃ t,t=bC l D:=⟨_,rfl⟩;have htj:t=aR [ofL (aR (cA l D))]:=ht;rw [← ht] at hc ⊢;have hak:a*k≤k:=by
  have:=h.a2;rcases(show a=0∨a=1 by omega)with e|e<;>subst e<;>omega
 have hlen:=h.kn;refine⟨h.k1,by rw [List.length_set,List.length_set,jK];exact h.kn,h.a2,hc,.inl ⟨?_,?_⟩,Q++(List.range (cT t)).map (fH t),T++[aR (cA l D)],?_,⟨?_,?_⟩,?_,?_,?_⟩
 ·rw [List.getElem?_set_ne (by omega),List.getElem?_set_self (by rw [jK];omega)]
 ·rw [List.getElem?_set_self (by rw [List.length_set,jK];omega)]
 ·rw [XJ,XI,List.length_range,h1]
 ·intro q hq;rcases List.mem_append.1 hq with hq|hq
  ·exact h2.p q hq
  obtain ⟨i,hi,rfl⟩:=List.mem_map.1 hq;exact CS (List.mem_range.1 hi)
 ·intro i q hq;rw [List.getElem?_set_ne (by omega),List.getElem?_set_ne (by omega),iD,cY];by_cases hi:i < n
  ·rw [List.getElem?_append_left (by omega)] at hq;rw [XG (by omega)];exact h2.at' i q hq
  rw [List.getElem?_append_right (by omega),h1,X2] at hq;have hi2:i - n < cT t:=by
   by_cases e:i - n < cT t
   ·exact e
   rw [List.getElem?_eq_none (by rw [List.length_range];omega)] at hq;cases hq
  rw [List.getElem?_range hi2] at hq;cases hq;rw [XH (by omega),show 2+a*k+i - (2+a*k+n)=i - n by omega,qX hi2,show 2+a*k+n+(i - n)=2+a*k+i by omega]
 ·rw [List.flatten_append,HA,h3,htj,List.map_append,C7];rfl
 ·intro u hu;rcases List.mem_append.1 hu with hu|hu
  ·exact h4 u hu
  rw [XL.1 hu];exact r1
 rw [qH,← h5,TT,r3];funext x;rw [o9,o9,r2]
def cL (l:bN):List ByteArray:=(bP l).flatMap fun k=>[k,cE l k]
theorem wE {a b:bN} (ha:fB a) (hb:fB b) (h:∀ k,cS a k=cS b k):cL a=cL b:=by
 have hg:(fun x=>[x,cE a x])=fun x=>[x,cE b x]:=by
  funext x;rw [kY,kY,h]
 rw [cL,cL,sL ha hb h,hg]
theorem kM (l:bN):(cL l).length=2*l.length:=by rw [cL,fN,fL]
def eV (s:bN×Nat) (ps:List (ByteArray×ByteArray)):bN×Nat:=ps.foldl (fun s p=>(fZ s.1 p.1 p.2 s.2,lG s.1 p.1 s.2)) s
theorem vR (s:bN×Nat) (ps:List (ByteArray×ByteArray)) (p:ByteArray×ByteArray):eV s (ps++[p])=(fZ (eV s ps).1 p.1 p.2 (eV s ps).2,lG (eV s ps).1 p.1 (eV s ps).2):=by rw [eV,eV,List.foldl_append];rfl
theorem nS:∀ (ps:List (ByteArray×ByteArray)) (s:bN×Nat),dR s.1 s.2→fB s.1→dR (eV s ps).1 (eV s ps).2∧fB (eV s ps).1
 | [],s,h1,h2=>⟨h1,h2⟩
 | p::r,s,h1,h2=>nS r _ (A3 h1 p.1 p.2) (A4 h2 p.1 p.2 s.2)
theorem sR:∀ (ps:List (ByteArray×ByteArray)) (s:bN×Nat),(eV s ps).1.length≤s.1.length+ps.length
 | [],s=>XO _
 | p::r,s=>by
  have h1:=sR r (fZ s.1 p.1 p.2 s.2,lG s.1 p.1 s.2);have h2:=(wF p.1 p.2 s.2 s.1).2;rw [XK];show (eV (fZ s.1 p.1 p.2 s.2,lG s.1 p.1 s.2) r).1.length≤_;have h3:(fZ s.1 p.1 p.2 s.2,lG s.1 p.1 s.2).1.length=(fZ s.1 p.1 p.2 s.2).length:=rfl;omega
def pM:List (ByteArray×ByteArray)→ByteArray→Option ByteArray
 | [],_=>none
 | p::r,k=>(pM r k).orElse fun _=>if p.1=k then some p.2 else none
theorem AE (k:ByteArray):∀ (ps:List (ByteArray×ByteArray)) (s:bN×Nat),cS (eV s ps).1 k=(pM ps k).orElse fun _=>cS s.1 k
 | [],s=>rfl
 | p::r,s=>by
  have h:=AE k r (fZ s.1 p.1 p.2 s.2,lG s.1 p.1 s.2);show cS (eV (fZ s.1 p.1 p.2 s.2,lG s.1 p.1 s.2) r).1 k=_;rw [h,uY,pM];cases pM r k with
  | some v=>rfl
  | none =>
   show (if p.1=k then some p.2 else cS s.1 k)=((if p.1=k then some p.2 else none).orElse fun _=>cS s.1 k)
   split<;>rfl
abbrev dM (ps:List (ByteArray×ByteArray)):bN×Nat:=eV ([],0) ps
theorem AZ (ps:List (ByteArray×ByteArray)) (k:ByteArray):cS (dM ps).1 k=pM ps k:=by rw [dM,AE];show ((pM ps k).orElse fun _=>none)=_;cases pM ps k<;>rfl
theorem FL:dR ([]:bN) 0:=⟨List.Pairwise.nil,fun p hp=>(by cases hp)⟩
theorem v8:fB ([]:bN):=List.nodup_nil
theorem gE (ps:List (ByteArray×ByteArray)):dR (dM ps).1 (dM ps).2∧fB (dM ps).1:=nS ps _ FL v8
theorem n0 {ps:List (ByteArray×ByteArray)} {p:ByteArray×ByteArray×Nat} (h:p∈(dM ps).1):(p.1,p.2.1)∈ps:=by
 obtain ⟨k,v,n⟩:=p;have e:=A2 (gE ps).2 h;rw [AZ] at e;have go:∀ ps:List (ByteArray×ByteArray),pM ps k=some v→(k,v)∈ps:=by
  intro ps
  induction ps with
  | nil=>intro h;cases h
  | cons q r ih =>
   intro h;rw [pM] at h;cases e:pM r k with
   | some u =>
    rw [e] at h;cases h;exact List.mem_cons_of_mem _ (ih e)
   | none =>
    rw [e] at h;by_cases e2:q.1=k
    ·have h:(if q.1=k then some q.2 else none)=some v:=h;rw [XH e2] at h;cases h;rw [← e2];exact List.mem_cons_self
    have h:(if q.1=k then some q.2 else none)=some v:=h;rw [XG e2] at h;cases h
 exact go ps e
abbrev QZ (was:List ByteArray) (ps:List (ByteArray×ByteArray)) (D:List ByteArray):bN×Nat:=(hX (eV (lF was (was.length / 2)) ps).1 D,(eV (lF was (was.length / 2)) ps).2)
def BC (was:List ByteArray) (ps:List (ByteArray×ByteArray)) (D:List ByteArray):List ByteArray:=cL (QZ was ps D).1
theorem QY (was:List ByteArray) (ps:List (ByteArray×ByteArray)) (D:List ByteArray):dR (QZ was ps D).1 (QZ was ps D).2∧fB (QZ was ps D).1:=by have h1:=nZ was (was.length / 2);have h2:=nS ps _ h1.1 h1.2;exact u7 D _ _ h2.1 h2.2
theorem NC {l:bN} (h:fB l) (k:ByteArray):cS (lF (cL l) ((cL l).length / 2)).1 k=cS l k:=by have:=yV h [] k;rw [List.append_nil] at this;rw [kM,Nat.mul_div_cancel_left _ (by decide)];exact this
theorem NB {l l':bN} {C:CT} {ps:List (ByteArray×ByteArray)} {P D:List ByteArray} (hn:fB l) (hn':fB l') (hl:∀ k,cS l k=C k) (hl':∀ k,cS l' k=o9 C (dM ps).1 D k) (hD:∀ k,k∈D↔k∈P):BC (cL l) ps P=cL l':=by
 refine wE (QY _ _ _).2 hn' fun k=>?_;have h2:=nS ps _ (nZ (cL l) ((cL l).length / 2)).1 (nZ (cL l) ((cL l).length / 2)).2;show cS (hX (eV (lF (cL l) ((cL l).length / 2)) ps).1 P) k=_;rw [F2 k P _ h2.2,AE,NC hn,hl',o9,AZ,hl];by_cases hk:k∈P
 ·rw [XH (gF.2 hk),XH ((hD k).2 hk)]
 rw [XG (fun h=>hk (gF.1 h)),XG (fun h=>hk ((hD k).1 h))]
end Go.Proofs.YtmkgeogoojcciaaGreatDoor
namespace Go.Proofs.YtmkgeogoojcciaaGreatDoor
open Go.Proofs.Tryz
open Go.Abs
theorem dW (l:List ByteArray):∀ r∈l.map encStr,r.length=1:=fun r hr=>by
 obtain ⟨t,_,rfl⟩:=List.mem_map.1 hr;rfl
def TW (l:List ByteArray):Ob:=bx 1 31 [.pv (aW l)]
def UE:Ob:=bx 1 3 [iv 2]
theorem OL (l:List ByteArray) (H:aA) (h1:H.get 931=none) (h2:H.get 932=none) :
  aJ Tryz.prog 118 [.pv (aW l),iv 2] H (fun r H'=>r=.clo 145 [.ref 931 0 0 0,.ref 932 0 0 0]∧H'=(932,UE)::(931,TW l)::H):=by
 have h2':aA.get ((931,TW l)::H) 932=none:=h2;refine Bd func118 rfl ntmps118<|Sr<|Dd (by exact fQ (id:=931) rfl rfl rfl rfl h1)<|Dd (by exact fQ (id:=932) rfl rfl rfl rfl h2')<|Dd aS<|Zz<|Sq<|Sr<|Dd (eA aV)<|Dd dG<|Zz ?_;refine Cn ?_ ?_<;>intro hc1
 ·cases hc1
 refine aG<|Sr<|Dd (by exact eQ rfl rfl)<|Dd aS<|Zz<|aN ?_;refine a8 (H':=((932,UE)::(931,TW l)::H)) (.inr rfl) rfl (aH rfl) Fin.refl ?_;exact Qq
def tY (l:List ByteArray) (k:Nat):List ByteArray:=(l.drop (2*k)).take 2
theorem JH (l:List ByteArray) (k:Nat):((l.map encStr).drop (2*k)).take 2=(tY l k).map encStr:=by rw [tY,List.map_take,List.map_drop]
theorem Q1 {n:Nat} (h:2≤n):min (2:Int) (n:Int)=2:=Int.min_eq_left (by omega)
theorem KI (l:List ByteArray) (fv:AV) (Hs:Nat→aA) (m:Nat) (hl:l.length=2*m) (hm:m < 1099511627776) (h1:∀ k,(Hs k).get 931=some (TW l)) (h2:∀ k,(Hs k).get 932=some UE)
  (hy:∀ k,k < m→eK Tryz.prog fv [.pv (aW (tY l k))] (Hs k) (fun r H'=>r=bv true∧H'=Hs (k+1))) :
  aJ Tryz.prog 145 [fv,.ref 931 0 0 0,.ref 932 0 0 0] (Hs 0) (fun r H'=>r=.tup []∧H'=Hs m):=by
 have hml:(l.map encStr).length=l.length:=XI _;refine Bd func145 rfl ntmps145<|Sr<|Dd aS<|Zz<|aM ?_;refine bB (σ:=Nat) (fun k=>([(0,fv),(1,.ref 931 0 0 0),(2,.ref 932 0 0 0),(4,iv ((2*k:Nat):Int))],Hs k)) (fun k=>k≤m) (fun k=>m - k) 0 (XZ _) ?_ ?_
 ·exact E0
 rintro k hkm;refine Sq<|Sr<|Dd aE<|Dd (by exact aX rfl b5 rfl (h1 k) rfl rfl rfl)<|Dd (j2 aO)<|Dd dG<|Zz ?_;refine Cn ?_ ?_<;>intro hc1
 ·have hlt:2*k < l.length:=by have:=XE hc1;omega
  have hkm2:k < m:=by omega
  have hyk:=hy k hkm2;have hdl:((l.map encStr).drop (2*k)).length=l.length - 2*k:=by rw [XX,hml]
  refine aG<|Sq<|aM<|Sq<|bK follows<|Cq (by exact aX rfl aV rfl (h2 k) rfl rfl rfl)<|Cq (by exact aX rfl b5 rfl (h1 k) rfl rfl rfl)<|Cq aE<|Cq (by exact fF (l:=2*k) (h:=(l.map encStr).length) (rows':=(l.map encStr).drop (2*k)) rfl bR rfl (dW l) rfl rfl (by omega) (XO _) (by rw [List.take_length]))<|Cq (j2 aO)<|Cq (by exact uU (r:=2) rfl rfl rfl (by rw [hdl];exact Q1 (by omega)))<|Cq aS<|cM<|Kr<|Sr<|Dd aE<|Dd (by exact aX rfl b5 rfl (h1 k) rfl rfl rfl)<|Dd aE<|Dd aE<|Dd aE<|Dd (by exact cF rfl rfl rfl (show IntKind.i64.wrap (((2*k:Nat):Int)+2)=((2*k+2:Nat):Int)by rw [IntKind.wrap_i64];omega))<|Dd aE<|Dd aE<|Dd (by exact cF rfl rfl rfl (show IntKind.i64.wrap (((2*k:Nat):Int)+2)=((2*k+2:Nat):Int)by rw [IntKind.wrap_i64];omega)) ?_;refine Dd (by exact LP (l:=2*k) (h:=2*k+2) (rows':=(tY l k).map encStr) rfl bR rfl (dW l) rfl rfl rfl (by omega) (by omega) (by intro h;rw [List.map_eq_nil_iff] at h;rw [h] at hlt;exact absurd hlt (Nat.not_lt_zero _)) (by rw [← JH,List.drop_take];congr 1;omega))<|Dd (by exact gD rfl rfl rfl (hyk))<|Dd uL<|Zz ?_;refine Cn ?_ ?_<;>intro hc2
  ·cases hc2
  refine aG<|Rg<|Dd aE<|Dd (by exact aX rfl aV rfl (h2 (k+1)) rfl rfl rfl)<|Dd (by exact cF rfl rfl rfl (show IntKind.i64.wrap (((2*k:Nat):Int)+2)=((2*(k+1):Nat):Int)by rw [IntKind.wrap_i64];omega))<|Da ?_;exact⟨k+1,hkm2,by omega,E0⟩
 have hge:l.length≤2*k:=by have:=XF hc1;omega
 have hkk:k=m:=by omega
 refine a6 ?_;rw [← hkk];exact iV (H':=Hs k) (.inl rfl) rfl Fin.refl ⟨rfl,rfl⟩
theorem UO (l:List ByteArray):∀ r∈l.map encStr,r.length=1:=fun r hr=>by
 obtain ⟨t,_,rfl⟩:=List.mem_map.1 hr;rfl
theorem OK (l:List ByteArray) (H:aA) (hc:bF H) (h1:H.get 901=none) (hl:l.length < 1099511627776) :
  aJ Tryz.prog 120 [.pv (aW l)] H (fun r H'=>r=.osl 901 1 0 l.length∧H'=(901,⟨1,1,9,g9 l⟩)::H):=by
 have hml:(l.map encStr).length=l.length:=XI _;refine Bd func120 rfl ntmps120<|Sr<|Dd aS<|Zz<|Sq<|Sr<|Dm ?_;refine iN rfl rfl (FB rfl aO rfl) ?_;rintro _ H2 ⟨e2,b,rfl,hb⟩;rw [e2];clear e2 H2;refine Zz ?_;refine Cn ?_ ?_<;>intro hc1
 ·have h0:=hb hc1;have h00:l=[]:=List.map_eq_nil_iff.1 h0;subst h00;refine Sr<|Dd (by exact iH (id:=901) (sz:=1) (ty:=9) rfl h1 rfl)<|Zz<|aN ?_;refine a8 (H':=((901,⟨1,1,9,[]⟩)::H)) (.inr rfl) rfl (aH rfl) ((Fin.bump (g:=0) (k:=1) rfl rfl (by decide) rfl rfl rfl).trans (Fin.get' (fun j=>gG _ _ _ _ j))) ?_;exact Qq
 refine aG<|Sr<|Dd (by exact eX (id:=901) rfl bR rfl rfl rfl rfl (by simp) h1)<|Dd aE<|Dd (by exact dQ rfl bR EA rfl rfl rfl rfl rfl rfl rfl (UO l) hml (by omega) (X0 _) (show []++(l.map encStr).map (·.map AV.pv)=g9 l by rw [List.nil_append,List.map_map];rfl))<|Dd aS<|Zz<|aN ?_;refine a8 (H':=((901,⟨1,1,9,g9 l⟩)::H)) (.inr rfl) rfl (aH rfl) (Fin.get' (fun j=>gG _ _ _ _ j)) ?_;exact Qq
end Go.Proofs.YtmkgeogoojcciaaGreatDoor
namespace Go.Proofs.YtmkgeogoojcciaaGreatDoor
open Go.Proofs.Tryz
open Go.Abs Go.Lib
theorem CM:∀ (ps l:bN) (c:Nat),(fO l c ps).1.length≤l.length+ps.length
 | [],l,c=>XO _
 | (k,v,n)::r,l,c=>by
  have h1:=CM r (fZ l k v c) (lG l k c);have h2:=(wF k v c l).2;show (fO (fZ l k v c) (lG l k c) r).1.length≤_;rw [XK];omega
theorem DN (P:List ByteArray):∀ l:bN,(hX l P).length≤l.length:=by
 induction P with
 | nil=>exact fun l=>XO _
 | cons k r ih=>exact fun l=>Nat.le_trans (ih (p9 l k)) (n7 k l).length_le
theorem xA {l put ps:bN} {c:Nat} {D:List ByteArray} (hst:dR l c) (hnd:fB l) (hnp:fB put) (hp:ps.Perm put):dR (hX (fO l c ps).1 D) (fO l c ps).2∧fB (hX (fO l c ps).1 D)∧(hX (fO l c ps).1 D).length≤l.length+put.length∧∀ x,cS (hX (fO l c ps).1 D) x=o9 (cS l) put D x:=by
 have h1:=G8 ps l c hst hnd;have h2:=u7 D _ _ h1.1 h1.2;have hnps:fB ps:=(hp.map Prod.fst).nodup_iff.2 hnp;refine⟨h2.1,h2.2,?_,fun x=>?_⟩
 ·have a1:=DN D (fO l c ps).1;have a2:=CM ps l c;have a3:=hp.length_eq;omega
 rw [F2 x D _ h1.2,MT x ps l c hnps,NK hp x hnps,o9];by_cases hx:x∈D
 ·rw [XH (gF.2 hx),XH hx]
 rw [XG (fun h=>hx (gF.1 h)),XG hx]
abbrev rE (L:List ByteArray) (t:List UInt8) (u:Nat):bI:=[(0,.mp 1101 0),(1,sv (ofL t)),(5,.pv (aW L)),(7,iv (u:Int)),(9,.ref 9 0 0 0)]
abbrev rK (W:List ByteArray) (j:Nat) (K:aA):aA:=(932,UE)::(931,TW W)::(9,PT 950)::(950,bJ (lF W j).1 (lF W j).2)::K
theorem JG {W:List ByteArray} {j:Nat} (h:2*j+1 < W.length):((tY W j).map encStr)[0]?=some (encStr (W.getD (2*j) sNil))∧((tY W j).map encStr)[1]?=some (encStr (W.getD (2*j+1) sNil)):=by have h0:W[2*j]?=some (W[2*j]'(by omega)):=XN (by omega);have h1:W[2*j+1]?=some (W[2*j+1]'h):=XN h;rw [X2,X2,tY,List.getElem?_take_of_lt (by omega),List.getElem?_take_of_lt (by omega),List.getElem?_drop,List.getElem?_drop,List.getD_eq_getElem?_getD,List.getD_eq_getElem?_getD,Nat.add_zero,h0,h1];exact Qq
theorem zX {H:aA} {id:Nat} {o:Ob} (h:H.get id=some o):Sub [(id,o)] H:=by
 intro j o2 ho;simp only [aA.get] at ho;cases e:Nat.beq id j with
 | true =>
  rw [e] at ho;cases ho;rw [← Nat.eq_of_beq_eq_true e];exact h
 | false=>rw [e] at ho;cases ho
theorem yW (id:Nat) (l:bN) (c:Nat):bF [(id,bJ l c)]:=bF.of (fun p hp=>by
 rw [XL] at hp;subst hp;exact aQ _ _ _)
theorem GQ (l:bN) (c:Nat) (P:List ByteArray) (hst:dR l c) (hl:l.length < 1099511627776) (hP:P.length < 1099511627776) (H:aA) (h:H.get 950=some (bJ l c)):aJ Tryz.prog 46 [.mp 950 0,.pv (aW P)] H (fun r H'=>r=iv (bH l P)∧H'=H) :=aJ.frameS (P6 l c P hst hl hP) (zX h) (yW _ _ _) (by simp;rfl)
theorem L2 (l:bN) (c:Nat) (P:List ByteArray) (hst:dR l c) (hl:l.length < 1099511627776) (hP:P.length < 1099511627776) (hsz:(bC l P).length < 35184372088832) (H:aA) (h:H.get 950=some (bJ l c)):aJ Tryz.prog 50 [.mp 950 0,.pv (aW P)] H (fun r H'=>r=sv (ofL (bC l P))∧H'=H) :=aJ.frameS (GR l c P hst hl hP hsz) (zX h) (yW _ _ _) (by simp;rfl)
theorem DZ (H:aA) (l:List ByteArray):∀ r∈(TW l).rows,∀ a∈r,Clo H a:=by intro r hr a ha;simp only [TW,bx,XL] at hr;subst hr;rw [XL] at ha;subst ha;exact .pv _
theorem D0 (H:aA):∀ r∈UE.rows,∀ a∈r,Clo H a:=by intro r hr a ha;simp only [UE,bx,XL] at hr;subst hr;rw [XL] at ha;subst ha;exact .pv _
theorem L6 (H:aA) (l:List ByteArray):∀ r∈g9 l,∀ a∈r,Clo H a:=by intro r hr a ha;obtain ⟨s,_,rfl⟩:=List.mem_map.1 hr;obtain ⟨p,_,rfl⟩:=List.mem_map.1 ha;exact .pv _
theorem I6 (d:DSt) (k a n:Nat) (b:Bool) (l:bN) (c:Nat) (t:List UInt8) (hst:dR l c) (hnd:fB l) (ht:t.length < 1000000) :
  aJ Tryz.prog 89 [.mp 1101 0,sv (ofL t)] (sH d (b7 k a n b) (bJ l c)) (fun r H'=>r=bv (jR t)∧∃ l' c',dR l' c'∧fB l'∧l'.length≤l.length+t.length∧(jR t=true→∀ x,cS l' x=o9 (cS l) (fD t).1 (cZ t) x)∧H'=sH d (b7 k a n b) (bJ l' c')):=by
 have hspl:=fun H=>CF t H (by omega);have hLl:=G4 t;have hb1:p5 t=(!(dX t).2||decide ((xN t).length=0)):=rfl;have hok:jR t=(!p5 t&&(!jS t&&!pZ t)):=rfl;have bad:jR t=false→∃ l' c',dR l' c'∧fB l'∧l'.length≤l.length+t.length∧(jR t=true→∀ x,cS l' x=o9 (cS l) (fD t).1 (cZ t) x)∧sH d (b7 k a n b) (bJ l c)=sH d (b7 k a n b) (bJ l' c'):=fun h=>⟨l,c,hst,hnd,Nat.le_add_right _ _,fun h2=>(by rw [h] at h2;cases h2),rfl⟩;obtain ⟨ok,hokv⟩:∃ ok,ok=(dX t).2:=⟨_,rfl⟩;obtain ⟨L,hL⟩:∃ L,L=xN t:=⟨_,rfl⟩;have hL2:(dX t).1=L:=hL.symm;rw [← hokv,hL2] at hspl;rw [← hokv,← hL] at hb1;rw [← hL] at hLl;have hml:(L.map encStr).length=L.length:=XI _;refine Bd func89 rfl ntmps89<|Sr<|Dd aS<|Zz<|Sr<|Dd aE<|Dd (by exact aB rfl rfl call87 rfl (hspl _))<|Dd aE<|Dd eB<|Dd eB<|Dd aS<|Dd aS<|Zz<|Sq<|Sq ?_;refine dA (t:=23) (n:=8) (X:=!ok||decide (((L.map encStr).length:Int)=0)) ?_ ?_
 ·all_goals refine Dd aE ?_
  all_goals refine Dd uL<|Dm ?_
  all_goals refine Sp 19 (fun h19=>?_) fun h19=>?_
  all_goals try contradiction
  all_goals first|refine Fo<|Fo<|Fo ?_|refine On aE<|On (j2 aO)<|On hU ?_
  all_goals refine Dd gO<|Zz ?_
  all_goals(exact⟨⟨_,rfl,by(rw [h19];rfl)⟩,rfl,rfl,rfl⟩)
 refine Cn ?_ ?_<;>intro hc1
 ·have hq:=hc1;have hf:jR t=false:=by
   rw [hok,hb1];have h2:(!ok||decide (L.length=0))=true:=by
    rw [hml] at hq
    rwa [show decide ((L.length:Int)=0)=decide (L.length=0)from decide_eq_decide.2 (by omega)] at hq
   rw [h2];rfl
  refine Sr<|Dd aS<|Zz<|aN ?_;refine a8 (H':=(sH d (b7 k a n b) (bJ l c))) (.inr rfl) rfl (aH rfl) (Fin.wk (by(simp;done)) (Hc (aF _ _ rfl rfl rfl)<|Hc (aC _ _)<|Hc (aL _ _ _)<|Hc (aK _ _)<|Hc (bD rfl rfl)<|Hc (aQ _ _ _)<|trivial) ⟨rfl,rfl,rfl,rfl,rfl,rfl,trivial⟩) ?_;exact⟨by rw [hf],bad hf⟩
 have hq:=hc1;rw [X4,Bool.not_eq_false',XQ] at hq;have hl0:0 < L.length:=by omega
 have hb1f:p5 t=false:=by rw [hb1,hq.1,decide_eq_false (by omega)];rfl
 obtain ⟨x,hx⟩:=aY hl0;have hix:=cG (f:=encStr) hx;have hgD:L.getD 0 sNil=x:=by rw [List.getD_eq_getElem?_getD,hx];rfl
 have hxs:x.size < 1099511627776:=by have:=AB (t:=t) (x:=x) (by rw [← hL];exact XS hx);omega
 have hat:=fun H=>vB x hxs H;have hb2:jS t=(((gI x||decide (cW x < 0))||decide (((L.length / 2:Nat):Int) < cW x))||decide ((L.length:Int) < 2*cW x+2)):=by rw [jS,SK,← hL,hgD]
 have hN:G3 t=(cW x).toNat:=by rw [G3,SK,← hL,hgD]
 obtain ⟨v,hv⟩:∃ v,v=cW x:=⟨_,rfl⟩;obtain ⟨e,he⟩:∃ e,e=gI x:=⟨_,rfl⟩;simp only [← hv,← he] at hat hb2 hN;clear hv he;have hquo:IntKind.i64.wrap (((L.map encStr).length:Int).tdiv 2)=((L.length / 2:Nat):Int):=by
  rw [hml,Int.tdiv_eq_ediv_of_nonneg (by omega),iA (by omega) (by omega)];omega
 refine aG<|Sr<|Dd aE<|Dd (by exact aZ rfl bR rfl rfl (by omega) (by exact XT _) hix rfl)<|Dd (kL aU)<|Dd (by exact aB rfl rfl PY rfl (hat _))<|Dd aE<|Dd eB<|Dd eB<|Dd aS<|Dd aS<|Zz<|Sq<|Sq ?_;refine dA (t:=51) (n:=24) (X:=((e||decide (v < 0))||decide (((L.length / 2:Nat):Int) < v))||decide (((L.map encStr).length:Int) < 2*v+2)) ?_ ?_
 ·all_goals refine Dd aE ?_
  all_goals refine Dd (by exact rA rfl g4 rfl)<|Dm ?_
  all_goals refine Sp 33 (fun h33=>?_) fun h33=>?_
  all_goals(try(with_reducible contradiction))
  all_goals first|refine Fo<|Fo ?_|refine On aE<|On dG ?_
  all_goals refine Dd gO<|Dm ?_
  all_goals refine Sp 37 (fun h37=>?_) fun h37=>?_
  all_goals(try(with_reducible contradiction))
  all_goals first|refine Fo<|Fo<|Fo<|Fo<|Fo ?_|refine On aE<|On aE<|On (j2 aO)<|On (by exact mL rfl rfl rfl (by decide) hquo)<|On y6 ?_
  all_goals refine Dd gO<|Dm ?_
  all_goals refine Sp 44 (fun h44=>?_) fun h44=>?_
  all_goals(try(with_reducible contradiction))
  all_goals first|refine Fo<|Fo<|Fo<|Fo<|Fo<|Fo ?_|refine On aE<|On (j2 aO)<|On aE<|On (by exact gU rfl rfl rfl (by have q1:=XF h37;have q2:=XF h44;exact iA (by omega) (by omega)))<|On (by exact cF rfl rfl rfl (by have q1:=XF h37;have q2:=XF h44;exact iA (by omega) (by omega)))<|On dG ?_
  all_goals refine Dd gO<|Zz ?_
  all_goals(exact⟨⟨_,rfl,by first|(rw [h33];rfl)|(rw [h33,h37];rfl)|(rw [h33,h37,h44];rfl)⟩,rfl,rfl,rfl⟩)
 refine Cn ?_ ?_<;>intro hc2
 ·have hq2:=hc2;rw [hml] at hq2;have hf:jR t=false:=by rw [hok,hb2,hq2,hb1f];rfl
  refine Sr<|Dd aS<|Zz<|aN ?_;refine a8 (H':=(sH d (b7 k a n b) (bJ l c))) (.inr rfl) rfl (aH rfl) (Fin.wk (by(simp;done)) (Hc (aF _ _ rfl rfl rfl)<|Hc (aC _ _)<|Hc (aL _ _ _)<|Hc (aK _ _)<|Hc (bD rfl rfl)<|Hc (aQ _ _ _)<|trivial) ⟨rfl,rfl,rfl,rfl,rfl,rfl,trivial⟩) ?_;exact⟨by rw [hf],bad hf⟩
 have hq2:=hc2;rw [hml] at hq2;have hb2f:jS t=false:=hb2.trans hq2;rw [X4,X4,X4,XQ,XQ,XQ] at hq2;obtain ⟨u,rfl⟩:∃ u:Nat,v=(u:Int):=⟨v.toNat,by omega⟩;rw [XT] at hN;obtain ⟨W,hW⟩:∃ W,W=(L.drop 1).take (2*u):=⟨_,rfl⟩;have hWl:W.length=2*u:=by rw [hW,XW,XX];omega
 have hWe:((L.map encStr).take (2*u+1)).drop 1=W.map encStr:=by
  rw [hW,List.map_take,List.map_drop,List.drop_take];rfl
 have hput:fD t=lF W u:=by
  rw [fD,← hL,hN,hW]
  conv=>lhs;rw [← List.take_append_drop (2*u) (L.drop 1)]
  exact AU _ _ u (by rw [XW,XX];omega)
 have hdrop:cZ t=L.drop (2*u+2):=by rw [cZ,← hL,hN]
 have hsm:=MN ht hb2f;have hb3:pZ t=((((decide ((fD t).1.length+(cZ t).length=0)||!decide (bH (fD t).1 (cZ t)=0))||!decide (bC (fD t).1 (cZ t)=aR [ofL t]))||!eN (cZ t))||decide ((bZ (cZ t)).length < (cZ t).length)):=rfl;rw [hput] at hsm hb3 bad ⊢;have hpok:=nZ W u;obtain ⟨D,hD⟩:∃ D,D=cZ t:=⟨_,rfl⟩;rw [← hD] at hsm hb3 hdrop bad ⊢;have hDe:((L.map encStr).take (L.map encStr).length).drop (2*u+2)=D.map encStr:=by
  rw [List.take_length,hdrop,List.map_drop]
 clear hix hx hb1 hb2 hspl;refine aG<|Sr<|Dd (by exact g8 (id:=950) eE rfl rfl)<|Dd (by exact cC (id:=9) rfl VU rfl rfl)<|Uu (pK sizeOf33)<|Zz<|Sq<|Sr<|Dd aE<|Dd aE<|Dd (by exact gU rfl rfl rfl (iA (by omega) (by omega)))<|Dd (by exact cF rfl rfl rfl (show IntKind.i64.wrap (2*(u:Int)+1)=((2*u+1:Nat):Int)by rw [iA (by omega) (by omega)];omega))<|Dd (by exact fF (l:=1) (h:=2*u+1) (rows':=W.map encStr) rfl bR rfl (dW L) rfl rfl (by omega) (by omega) hWe)<|Dd (by exact aB rfl rfl call118 rfl (OL W _ rfl rfl))<|Zz<|aM ?_;refine fV.ent (E':=(58,.clo 145 [.ref 931 0 0 0,.ref 932 0 0 0])::rE L t u) (H':=rK W 0 (sH d (b7 k a n b) (bJ l c))) (bY.wk (Ec (by(simp;exact⟨rfl,rfl⟩))<|Ea<|Eb<|Eb<|Eb<|Ea<|trivial) (Hc (D0 _)<|Hc (DZ _ _)<|Ha<|Hc (aQ _ _ _)<|Hc (aF _ _ rfl rfl rfl)<|Hc (aC _ _)<|Hc (aL _ _ _)<|Hc (aK _ _)<|Hc (bD rfl rfl)<|Hc (aQ _ _ _)<|trivial) ⟨rfl,rfl,rfl,rfl,rfl,rfl,trivial⟩) ?_;refine tI (id:=944) (p:=59) (rE L t u) rfl call145 rfl rfl (by simp [rE];exact⟨rfl,rfl,rfl,rfl,rfl⟩) ?_;intro x hx1 hx2 hx3 hx4 hx5 hx6;refine(KI W (.yld 944 0) (fun j=>(944,LR x (rE L t u))::rK W j (sH d (b7 k a n b) (bJ l c))) u hWl (by omega) (fun j=>rfl) (fun j=>rfl) ?_).mono ?_
 ·intro j hj;obtain ⟨p0,p1⟩:=JG (W:=W) (j:=j) (by omega);refine .inl ⟨944,0,rfl,?_⟩;refine zV ((10,.pv (aW (tY W j)))::rE L t u) (rK W j (sH d (b7 k a n b) (bJ l c))) hx1 hx2 hx3 hx4 hx5 hx6 rfl rfl rfl ?_ ?_
  ·refine Rg<|Da ?_;exact E0
  refine aM<|bK follows<|Cs (fun _ h=>lh bO h)<|Cs (fun _ _=>aE)<|Cs (fun H1 hH=>by exact aZ rfl bR rfl rfl (by omega) (by exact XT _) p0 rfl)<|Cs (fun _ _=>(kL aU))<|Cs (fun _ _=>aE)<|Cs (fun H1 hH=>by exact aZ rfl bR rfl rfl (by omega) (by exact XT _) p1 rfl)<|Cs (fun _ _=>(kL aU)) ?_;refine bU (r:=⟨_,none,[_]⟩) (DStep.plain rfl (fun H1 hH=>by exact f0 (κ:=eE) (l:=bL (lF W j).1) (.inl rfl) aT aI rfl ((hH _ rfl).trans rfl) rfl rfl rfl rfl rfl (k9 _ _ _ _) (mR _ _ _))) rfl ?_;refine cM<|Kr ?_;exact⟨rK W (j+1) (sH d (b7 k a n b) (bJ l c)),(bY.wk trivial (Hc (PM (by simp [rE];repeat(first|rfl|refine⟨rfl,?_⟩)))<|Hc (D0 _)<|Hc (DZ _ _)<|Ha<|Hc (aQ _ _ _)<|Hc (aF _ _ rfl rfl rfl)<|Hc (aC _ _)<|Hc (aL _ _ _)<|Hc (aK _ _)<|Hc (bD rfl rfl)<|Hc (aQ _ _ _)<|trivial) ⟨rfl,rfl,rfl,rfl,rfl,rfl,rfl,rfl,rfl,rfl,rfl,trivial⟩),rfl,rfl⟩
 rintro r H' ⟨rfl,rfl⟩;refine⟨x,_,rfl,by rw [hx1];decide,rfl,fun z=>?_⟩;rw [hx2];obtain ⟨put,cp,hpc⟩:∃ put cp,lF W u=(put,cp):=⟨_,_,rfl⟩;simp only [hpc] at hpok hb3 hsm bad ⊢;refine fV.ent (E':=rE L t u) (H':=(9,PT 950)::(950,bJ put cp)::sH d (b7 k a n b) (bJ l c)) ?_ ?_
 ·simp only [rK,hpc];exact(bY.wk (Ea<|Eb<|Eb<|Eb<|Ea<|trivial) (Ha<|Hc (aQ _ _ _)<|Hc (aF _ _ rfl rfl rfl)<|Hc (aC _ _)<|Hc (aL _ _ _)<|Hc (aK _ _)<|Hc (bD rfl rfl)<|Hc (aQ _ _ _)<|trivial) ⟨rfl,rfl,rfl,rfl,rfl,rfl,trivial⟩)
 have hmp:(bL put).length=put.length:=XI _;have hmd:(D.map encStr).length=D.length:=XI _;have hwr:=fun H hH=>GQ put cp D hpok.1 (by omega) (by omega) H hH;have htx:=fun H hH=>L2 put cp D hpok.1 (by omega) (by omega) hsm.1 H hH;have hso:=fun H=>C8 D H (by omega);have hb3:pZ t=((((decide (((bL put).length:Int)+((D.map encStr).length:Int)=0)||!decide (bH put D=0))||!decide (ofL (bC put D)=ofL (aR [ofL t])))||!eN D)||decide (((bZ D).length:Int) < ((D.map encStr).length:Int))):=by
  rw [hb3,show decide (((bL put).length:Int)+((D.map encStr).length:Int)=0)=decide (put.length+D.length=0)from decide_eq_decide.2 (by omega),show decide (((bZ D).length:Int) < ((D.map encStr).length:Int))=decide ((bZ D).length < D.length)from decide_eq_decide.2 (by omega),show decide (ofL (bC put D)=ofL (aR [ofL t]))=decide (bC put D=aR [ofL t])from decide_eq_decide.2 ⟨fun h=>by rw [← bA (bC put D),h,bA],fun h=>by rw [h]⟩]
 rw [hb1f,hb2f,hb3] at hok;have hjs:(aR [ofL t]).length < 35184372088832:=by
  have hd:=dK (k:=18) (u:=t.length) (by omega) (by decide);rw [dL,XJ,XK,XJ,bA,bS];have h0:(aR []).length=0:=rfl;omega
 have hdropL:D.length≤L.length:=by rw [hdrop,XX];omega
 cases g78:decide (((bL put).length:Int)+((D.map encStr).length:Int)=0)with
 | true =>
  refine Sr<|Dd aE<|Dd aE<|Dd (by exact gU rfl rfl rfl (iA (by omega) (by omega)))<|Dd (by exact cF rfl rfl rfl (show IntKind.i64.wrap (2*(u:Int)+2)=((2*u+2:Nat):Int)by rw [iA (by omega) (by omega)];omega))<|Dd (by exact fF (l:=2*u+2) (h:=(L.map encStr).length) (rows':=D.map encStr) rfl bR rfl (dW L) rfl rfl (by omega) (XO _) hDe)<|Dd aS<|Zz<|Sq<|Sr<|Dd (eA bO)<|Dd (by exact t7 (κ:=eE) (l:=bL put) rfl aT rfl rfl rfl rfl)<|Dd aE<|Dd (j2 aO)<|Dd (by exact cF rfl rfl rfl (iA (by omega) (by omega)))<|Dd hU<|Dd aE<|Fa<|Fa<|Fa<|Fa<|Dd QJ<|Dd aE<|Fo<|Fo<|Fo<|Fo<|Fo<|Fo<|Fo<|Dd gO<|Dd aE<|Fo<|Fo<|Fo<|Dd gO<|Dd aE<|Fo<|Fo<|Fo<|Fo<|Fo<|Fo<|Fo<|Dd gO<|Zz ?_;refine Cn ?_ ?_<;>intro hc3
  ·have hf:jR t=false:=by rw [hok,g78];simp
   refine Sr<|Dd aS<|Zz<|aN ?_;refine a8 (H':=(sH d (b7 k a n b) (bJ l c))) (.inr rfl) rfl (aH rfl) (Fin.wk (by(simp;done)) (Hc (aF _ _ rfl rfl rfl)<|Hc (aC _ _)<|Hc (aL _ _ _)<|Hc (aK _ _)<|Hc (bD rfl rfl)<|Hc (aQ _ _ _)<|trivial) ⟨rfl,rfl,rfl,rfl,rfl,rfl,trivial⟩) ?_;exact⟨by rw [hf],bad hf⟩
  ((cases hc3;done))
 | false =>
  cases g84:(!decide (bH put D=0))with
  | true =>
   refine Sr<|Dd aE<|Dd aE<|Dd (by exact gU rfl rfl rfl (iA (by omega) (by omega)))<|Dd (by exact cF rfl rfl rfl (show IntKind.i64.wrap (2*(u:Int)+2)=((2*u+2:Nat):Int)by rw [iA (by omega) (by omega)];omega))<|Dd (by exact fF (l:=2*u+2) (h:=(L.map encStr).length) (rows':=D.map encStr) rfl bR rfl (dW L) rfl rfl (by omega) (XO _) hDe)<|Dd aS<|Zz<|Sq<|Sr<|Dd (eA bO)<|Dd (by exact t7 (κ:=eE) (l:=bL put) rfl aT rfl rfl rfl rfl)<|Dd aE<|Dd (j2 aO)<|Dd (by exact cF rfl rfl rfl (iA (by omega) (by omega)))<|Dd hU<|Dd aE<|Oa (eA bO)<|Oa aE<|Oa (by exact aB rfl rfl sF rfl (hwr _ rfl))<|Oa pD<|Dd CP<|Dd aE<|Fa<|Fa<|Fa<|Fa<|Fa<|Fa<|Fa<|Dd QJ<|Dd aE<|Fo<|Fo<|Fo<|Dd gO<|Dd aE<|Fo<|Fo<|Fo<|Fo<|Fo<|Fo<|Fo<|Dd gO<|Zz ?_;refine Cn ?_ ?_<;>intro hc4
   ·have hf:jR t=false:=by rw [hok,g78,g84];simp
    refine Sr<|Dd aS<|Zz<|aN ?_;refine a8 (H':=(sH d (b7 k a n b) (bJ l c))) (.inr rfl) rfl (aH rfl) (Fin.wk (by(simp;done)) (Hc (aF _ _ rfl rfl rfl)<|Hc (aC _ _)<|Hc (aL _ _ _)<|Hc (aK _ _)<|Hc (bD rfl rfl)<|Hc (aQ _ _ _)<|trivial) ⟨rfl,rfl,rfl,rfl,rfl,rfl,trivial⟩) ?_;exact⟨by rw [hf],bad hf⟩
   ((cases hc4;done))
  | false =>
   cases g93:(!decide (ofL (bC put D)=ofL (aR [ofL t])))with
   | true =>
    refine Sr<|Dd aE<|Dd aE<|Dd (by exact gU rfl rfl rfl (iA (by omega) (by omega)))<|Dd (by exact cF rfl rfl rfl (show IntKind.i64.wrap (2*(u:Int)+2)=((2*u+2:Nat):Int)by rw [iA (by omega) (by omega)];omega))<|Dd (by exact fF (l:=2*u+2) (h:=(L.map encStr).length) (rows':=D.map encStr) rfl bR rfl (dW L) rfl rfl (by omega) (XO _) hDe)<|Dd aS<|Zz<|Sq<|Sr<|Dd (eA bO)<|Dd (by exact t7 (κ:=eE) (l:=bL put) rfl aT rfl rfl rfl rfl)<|Dd aE<|Dd (j2 aO)<|Dd (by exact cF rfl rfl rfl (iA (by omega) (by omega)))<|Dd hU<|Dd aE<|Oa (eA bO)<|Oa aE<|Oa (by exact aB rfl rfl sF rfl (hwr _ rfl))<|Oa pD<|Dd CP<|Dd aE<|Oa (eA bO)<|Oa aE<|Oa (by exact aB rfl rfl sE rfl (htx _ rfl))<|Oa aE<|Oa (by exact bE [[.str (ofL t)]] rfl bR rfl rfl rfl rfl rfl (by simp)) ?_;refine Oa (by exact aB rfl rfl nH rfl (kC [ofL t] _ hjs))<|Oa MD<|Dd CP<|Dd aE<|Fa<|Fa<|Fa<|Dd QJ<|Dd aE<|Fo<|Fo<|Fo<|Fo<|Fo<|Fo<|Fo<|Dd gO<|Zz ?_;refine Cn ?_ ?_<;>intro hc5
    ·have hf:jR t=false:=by rw [hok,g78,g84,g93];simp
     refine Sr<|Dd aS<|Zz<|aN ?_;refine a8 (H':=(sH d (b7 k a n b) (bJ l c))) (.inr rfl) rfl (aH rfl) (Fin.wk (by(simp;done)) (Hc (aF _ _ rfl rfl rfl)<|Hc (aC _ _)<|Hc (aL _ _ _)<|Hc (aK _ _)<|Hc (bD rfl rfl)<|Hc (aQ _ _ _)<|trivial) ⟨rfl,rfl,rfl,rfl,rfl,rfl,trivial⟩) ?_;exact⟨by rw [hf],bad hf⟩
    ((cases hc5;done))
   | false =>
    cases g98:(!eN D)with
    | true =>
     refine Sr<|Dd aE<|Dd aE<|Dd (by exact gU rfl rfl rfl (iA (by omega) (by omega)))<|Dd (by exact cF rfl rfl rfl (show IntKind.i64.wrap (2*(u:Int)+2)=((2*u+2:Nat):Int)by rw [iA (by omega) (by omega)];omega))<|Dd (by exact fF (l:=2*u+2) (h:=(L.map encStr).length) (rows':=D.map encStr) rfl bR rfl (dW L) rfl rfl (by omega) (XO _) hDe)<|Dd aS<|Zz<|Sq<|Sr<|Dd (eA bO)<|Dd (by exact t7 (κ:=eE) (l:=bL put) rfl aT rfl rfl rfl rfl)<|Dd aE<|Dd (j2 aO)<|Dd (by exact cF rfl rfl rfl (iA (by omega) (by omega)))<|Dd hU<|Dd aE<|Oa (eA bO)<|Oa aE<|Oa (by exact aB rfl rfl sF rfl (hwr _ rfl))<|Oa pD<|Dd CP<|Dd aE<|Oa (eA bO)<|Oa aE<|Oa (by exact aB rfl rfl sE rfl (htx _ rfl))<|Oa aE<|Oa (by exact bE [[.str (ofL t)]] rfl bR rfl rfl rfl rfl rfl (by simp)) ?_;refine Oa (by exact aB rfl rfl nH rfl (kC [ofL t] _ hjs))<|Oa MD<|Dd CP<|Dd aE<|Oa aE<|Oa (by exact aB rfl rfl call119 rfl (hso _))<|Oa uL<|Dd CP<|Dd aE<|Fa<|Fa<|Fa<|Fa<|Fa<|Fa<|Fa<|Dd QJ<|Zz ?_;refine Cn ?_ ?_<;>intro hc6
     ·have hf:jR t=false:=by rw [hok,g78,g84,g93,g98];simp
      refine Sr<|Dd aS<|Zz<|aN ?_;refine a8 (H':=(sH d (b7 k a n b) (bJ l c))) (.inr rfl) rfl (aH rfl) (Fin.wk (by(simp;done)) (Hc (aF _ _ rfl rfl rfl)<|Hc (aC _ _)<|Hc (aL _ _ _)<|Hc (aK _ _)<|Hc (bD rfl rfl)<|Hc (aQ _ _ _)<|trivial) ⟨rfl,rfl,rfl,rfl,rfl,rfl,trivial⟩) ?_;exact⟨by rw [hf],bad hf⟩
     ((cases hc6;done))
    | false =>
     refine Sr<|Dd aE<|Dd aE<|Dd (by exact gU rfl rfl rfl (iA (by omega) (by omega)))<|Dd (by exact cF rfl rfl rfl (show IntKind.i64.wrap (2*(u:Int)+2)=((2*u+2:Nat):Int)by rw [iA (by omega) (by omega)];omega))<|Dd (by exact fF (l:=2*u+2) (h:=(L.map encStr).length) (rows':=D.map encStr) rfl bR rfl (dW L) rfl rfl (by omega) (XO _) hDe)<|Dd aS<|Zz<|Sq<|Sr<|Dd (eA bO)<|Dd (by exact t7 (κ:=eE) (l:=bL put) rfl aT rfl rfl rfl rfl)<|Dd aE<|Dd (j2 aO)<|Dd (by exact cF rfl rfl rfl (iA (by omega) (by omega)))<|Dd hU<|Dd aE<|Oa (eA bO)<|Oa aE<|Oa (by exact aB rfl rfl sF rfl (hwr _ rfl))<|Oa pD<|Dd CP<|Dd aE<|Oa (eA bO)<|Oa aE<|Oa (by exact aB rfl rfl sE rfl (htx _ rfl))<|Oa aE<|Oa (by exact bE [[.str (ofL t)]] rfl bR rfl rfl rfl rfl rfl (by simp)) ?_;refine Oa (by exact aB rfl rfl nH rfl (kC [ofL t] _ hjs))<|Oa MD<|Dd CP<|Dd aE<|Oa aE<|Oa (by exact aB rfl rfl call119 rfl (hso _))<|Oa uL<|Dd CP<|Dd aE<|Oa aE<|Oa (by exact aB rfl rfl call120 rfl (OK D _ (bF.ofL ⟨(by(simp;rfl)),(by exact aQ _ _ _),(by exact aF _ _ rfl rfl rfl),(by exact aC _ _),(by exact aL _ _ _),(by exact aK _ _),(by exact bD rfl rfl),(by exact aQ _ _ _),trivial⟩) rfl (by omega)))<|Oa (by exact aB rfl rfl WY rfl (zN D 1 _ rfl (by omega)))<|Oa (by exact cV rfl aO rfl rfl rfl)<|Oa aE<|Oa (j2 aO)<|Oa dG<|Dd CP<|Zz ?_;refine Cn ?_ ?_<;>intro hc7
     ·have g106:=hc7;have hf:jR t=false:=by rw [hok,g78,g84,g93,g98,g106];rfl
      refine Sr<|Dd aS<|Zz<|aN ?_;refine a8 (H':=(sH d (b7 k a n b) (bJ l c))) (.inr rfl) rfl (aH rfl) (Fin.wk (by(simp;done)) (Hc (aF _ _ rfl rfl rfl)<|Hc (aC _ _)<|Hc (aL _ _ _)<|Hc (aK _ _)<|Hc (bD rfl rfl)<|Hc (aQ _ _ _)<|trivial) ⟨rfl,rfl,rfl,rfl,rfl,rfl,trivial⟩) ?_;exact⟨by rw [hf],bad hf⟩
     have g106:=hc7;have hf:jR t=true:=by rw [hok,g78,g84,g93,g98,g106];rfl
     rw [hf];refine aG<|Sr<|Dd aE<|Dd (eA bO)<|Dm ?_;refine iN rfl rfl (aB rfl rfl WV rfl (O6 l put c cp D _ (by omega) (by omega) hpok.1 rfl rfl rfl (bF.ofL ⟨(by exact aL _ _ _),(by(simp;done)),(by(simp;rfl)),(by exact aQ _ _ _),(by exact aF _ _ rfl rfl rfl),(by exact aC _ _),(by exact aL _ _ _),(by exact aK _ _),(by exact bD rfl rfl),(by exact aQ _ _ _),trivial⟩))) ?_;rintro r H' ⟨rfl,ps,hps,rfl⟩;obtain ⟨q1,q2,q3,q4⟩:=xA (D:=D) hst hnd hpok.2 hps;refine Zz<|Sr<|Dd aS<|Zz<|aN ?_;refine a8 (H':=(sH d (b7 k a n b) (bJ (hX (fO l c ps).1 D) (fO l c ps).2))) (.inr rfl) rfl (aH rfl) (Fin.wk (by(simp;done)) (Hc (aF _ _ rfl rfl rfl)<|Hc (aC _ _)<|Hc (aL _ _ _)<|Hc (aK _ _)<|Hc (bD rfl rfl)<|Hc (aQ _ _ _)<|trivial) ⟨rfl,rfl,rfl,rfl,rfl,rfl,trivial⟩) ?_;exact⟨rfl,_,_,q1,q2,by omega,fun _=>q4,rfl⟩
def TL:Ob:=⟨0,0,0,dV (.pv .nilm) 0 0 []⟩
theorem RC {H:aA}:∀ r∈TL.rows,∀ x∈r,Clo H x:=by intro r hr x hx;simp only [TL,dV,List.map_nil,XL] at hr;subst hr;simp only [XU,XY,or_false] at hx;rcases hx with rfl|rfl|rfl<;>exact .pv _
abbrev nBx:Ob:=bx 1 33 [.pv .nilm]
theorem LS (P:List ByteArray) (hP:P.length < 1099511627776) (H:aA) :
  aJ Tryz.prog 46 [.pv .nilm,.pv (aW P)] H (fun r H'=>r=iv (bH [] P)∧H'=H):=by
 refine Pu ?_;have hcf:=fun H (h5:H.get 5=some UC)=>zM (.clo 94 [.ref 5 0 0 0]) P (fun s=>!eJ s) H (by omega) (fun s=>eK.clo call94 (B3 s H h5));have hV:bH [] P=if P.any (fun s=>!eJ s)=true then 1 else 0:=by
  rw [bH];show (if(false||P.any fun s=>!eJ s)=true then(1:Int)else if false=true then 2 else 0)=_;rw [Bool.false_or];rfl
 rw [hV];obtain ⟨ns,hns⟩:∃ b,b=P.any (fun s=>!eJ s):=⟨_,rfl⟩;rw [← hns] at hcf ⊢;refine Bd func46 rfl ntmps46<|Sr<|Dd aS<|Zz<|Sr<|Dd (by exact cC (id:=5) rfl UK rfl rfl)<|Uu (pK sizeOf53)<|Zz<|Sr<|Dd aS<|Zz<|Sq<|Sr<|Dd aE<|Dd (by exact AT (q:=946) rfl aT rfl rfl)<|Zz<|aM ?_;refine bB (σ:=Unit) (fun _=>([(0,.pv .nilm),(1,.pv (aW P)),(5,.ref 5 0 0 0),(6,bv false),(10,.it 946 0)],[(946,TL),(5,UC)])) (fun _=>True) (fun _=>0) () trivial ?_ ?_
 ·exact(bY.wk (Eb<|Eb<|Ea<|Eb<|Ea<|trivial) (Hc RC<|Hb<|trivial) trivial)
 rintro _ -;refine Sq<|Rg ?_;refine iN rfl rfl (FN rfl rfl rfl rfl rfl) ?_;rintro _ _ (⟨rfl,rfl,hn0⟩|⟨hni,hnp,hn1,hn2,rfl,rfl⟩)
 ·refine Dd eB<|Zz<|Sq ?_;refine Cn ?_ ?_<;>intro hc1
  ·cases hc1
  refine a6<|Sq<|aM<|Sr<|Dd aE<|Dd (by exact eQ rfl rfl)<|Dd (by exact aB rfl rfl call93 rfl (hcf _ rfl))<|Da ?_;refine Cn ?_ ?_<;>intro hc2
  ·have hn:ns=true:=hc2;rw [XH hn];exact Sr<|Dd aS<|Zz<|aN<|Rt<|Qq
  have hn:¬ ns=true:=by rw [show ns=false from hc2];decide
  rw [XG hn];refine Sr<|Dd aE<|Da ?_;refine Cn ?_ ?_<;>intro hc3
  ·cases hc3
  exact aG<|Sr<|Dd aS<|Zz<|aN<|Rt<|Qq
 exact hn1.elim
theorem Q8 (H:aA) (h1:H.get 951=none) :
  aJ Tryz.prog 55 [.pv .nilm] H (fun r H'=>r=.clo 105 [.ref 951 0 0 0]∧H'=(951,nBx)::H):=by
 refine Bd func55 rfl ntmps55<|Sr<|Dd (by exact fQ (id:=951) rfl rfl rfl rfl h1)<|Dd aS<|Zz<|Sr<|Dd (by exact eQ rfl rfl)<|Dd aS<|Zz<|aN ?_;refine a8 (H':=((951,nBx)::H)) (.inr rfl) rfl (aH rfl) Fin.refl ?_;exact Qq
theorem NL (K:aA) (h1:K.get 951=some nBx):xC 105 [.ref 951 0 0 0] (fun M=>M.Perm []) K:=by
 intro yv Hs hK h6 hcl hf hy0 hy1;have g1:∀ M,(Hs M).get 951=some nBx:=fun M=>hK M _ _ h1;refine Bd func105 rfl ntmps105<|Sr<|Dd (by exact aX rfl bO rfl (g1 []) rfl rfl rfl)<|Dd (by exact AT (q:=946) rfl aT rfl (h6 []))<|Zz<|aM ?_;refine bB (σ:=Unit) (fun _=>([(0,yv),(5,.it 946 0)],(946,TL)::Hs [])) (fun _=>True) (fun _=>0) () trivial ?_ ?_
 ·exact E0
 rintro _ -;refine Sq<|Rg ?_;refine iN rfl rfl (FN rfl rfl (get_cons_same _ _ _) rfl rfl) ?_;rintro _ _ (⟨rfl,rfl,hn0⟩|⟨hni,hnp,hn1,hn2,rfl,rfl⟩)
 ·refine Dd eB<|Zz<|Sq ?_;refine Cn ?_ ?_<;>intro hc1
  ·cases hc1
  refine a6 ?_;exact iV (H':=Hs []) (.inl rfl) rfl (Fin.pops' [(946,TL)] (by simp) (hcl _) (by simp [h6]) (by simp [h6])) ⟨rfl,[],List.Perm.refl _,rfl⟩
 exact hn1.elim
abbrev tN (g:Nat) (W:List ByteArray):aA:=[(951,nBx),(920,⟨g,1,9,cJ W⟩)]
theorem SZ (g:Nat) (W:List ByteArray):bF (tN g W):=bF.of (fun p hp=>by
 simp only [XU,XY,or_false] at hp;rcases hp with rfl|rfl
 ·intro r hr x hx;simp only [bx,XL] at hr;subst hr;rw [XL] at hx;subst hx;exact .pv _
 exact eY _ _)
theorem QA (P:List ByteArray) (hP:P.length < 1099511627776) (hsz:(bC [] P).length < 35184372088832) (H:aA) :
  aJ Tryz.prog 50 [.pv .nilm,.pv (aW P)] H (fun r H'=>r=sv (ofL (bC [] P))∧H'=H):=by
 refine Pu ?_;have hso:=z6 (L:=([]:List ByteArray)) (by decide) WG (tN 0 [dD 0]) (NL _ rfl) rfl rfl rfl rfl (SZ _ _) (by simp;rfl);have hS:bP []=[]:=List.length_eq_zero_iff.1 (fL []);have hin:=qR hsz;have hpl:(P.map encStr).length=P.length:=XI _;have hW:cA [] P=[dD 0,dD ((P.map encStr).length:Int)]++P:=by
  rw [cA,hS];rfl
 change aJ _ _ _ _ fun r H'=>r=.pv (aW (bP []))∧H'=_ at hso;rw [hS] at hso;refine Bd func50 rfl ntmps50<|Sr<|Dd aS<|Zz<|Sr<|Dd aE<|Dd (by exact SQ rfl aT rfl)<|Dd (by exact aB rfl rfl nI rfl (mQ 0 (by omega) (by omega) _))<|Dd (by exact eX (id:=920) rfl bR rfl rfl rfl rfl (show ∀ r∈cJ [dD 0],r.length=1 from by intro r hr;rw [XL.1 hr];rfl) rfl)<|Dd aS<|Zz<|Sq<|Sr<|Dd aE<|Dd (by exact aB rfl rfl WU rfl (Q8 _ rfl))<|Dd (by exact aB rfl rfl BW rfl (hso))<|Dd (j2 aO)<|Dd aE<|Zz<|aM ?_;refine bB (σ:=Unit) (fun _=>([(0,.pv .nilm),(1,.pv (aW P)),(5,.osl 920 0 0 1),(14,.pv (aW [])),(15,iv 0),(16,iv 0)],tN 0 [dD 0])) (fun _=>True) (fun _=>0) () trivial ?_ ?_
 ·exact E0
 rintro _ -;refine Sr<|Dd dG<|Zz<|Sq ?_;refine Cn ?_ ?_<;>intro hc1
 ·(have:=XE hc1;omega)
 refine a6<|Sr<|Dd aE<|Dd aE<|Dd (j2 aO)<|Dd (by exact aB rfl rfl nI rfl (mQ ((P.map encStr).length:Int) (by omega) (by omega) _))<|Dd (by exact bE [[.str (dD ((P.map encStr).length:Int))]] rfl bR rfl rfl rfl rfl rfl (by intro r hr;rw [XL] at hr;subst hr;rfl))<|Dd (by exact dQ (ps:=[[.str (dD ((P.map encStr).length:Int))]]) rfl bR EA rfl rfl rfl rfl rfl (eL _) rfl (by intro r hr;rw [XL] at hr;subst hr;rfl) (m:=1) rfl (by omega) rfl (j7 _ _))<|Dd aS<|Zz<|Sr<|Dd aE<|Dd aE<|Dd (by exact dQ (ps:=P.map encStr) rfl bR EA rfl rfl rfl rfl rfl (eL _) rfl (by intro r hr;obtain ⟨q,_,rfl⟩:=List.mem_map.1 hr;rfl) (m:=P.length) hpl (by omega) rfl (kH _ P))<|Dd (by exact aB rfl rfl nH rfl (HO (W:=cA [] P) hin (by rw [hW];rfl) (by rw [hW,XJ];rfl))) ?_;exact Dd (by exact bE [[.str (ofL (aR (cA [] P)))]] rfl bR rfl rfl rfl rfl rfl (by intro r hr;rw [XL] at hr;subst hr;rfl))<|Dd (by exact aB rfl rfl nH rfl (kC [ofL (aR (cA [] P))] _ hsz))<|Dd aS<|Zz<|aN<|Rt<|Qq
theorem RW (l:bN) (c:Nat) (H:aA) (h0:H.get 1101=some (bJ l c)) (h6:H.get 946=none) (hcl:bF H) :
  aJ Tryz.prog 104 [.mp 1101 0,.pv .nilm] H (fun r H'=>r=.tup []∧H'=H):=by
 refine Bd func104 rfl ntmps104<|Sr<|Dd aE<|Dd (by exact AT (q:=946) rfl aT rfl h6)<|Zz<|aM ?_;refine bB (σ:=Unit) (fun _=>([(0,.mp 1101 0),(7,.it 946 0)],(946,TL)::H)) (fun _=>True) (fun _=>0) () trivial ?_ ?_
 ·exact E0
 rintro _ -;refine Sq<|Rg ?_;refine iN rfl rfl (FN rfl rfl (get_cons_same _ _ _) rfl rfl) ?_;rintro _ _ (⟨rfl,rfl,hn0⟩|⟨hni,hnp,hn1,hn2,rfl,rfl⟩)
 ·refine Dd eB<|Zz<|Sq ?_;refine Cn ?_ ?_<;>intro hc1
  ·cases hc1
  refine a6 ?_;exact iV (H':=H) (.inl rfl) rfl (Fin.pops' [(946,TL)] (by simp) hcl (by simp [h6]) (by simp [h6])) ⟨rfl,rfl⟩
 exact hn1.elim
theorem O5 (l:bN) (c:Nat) (P:List ByteArray) (H:aA) (hP:P.length < 1099511627776) (h0:H.get 1101=some (bJ l c)) (h6:H.get 946=none) (hcl:bF H) :
  aJ Tryz.prog 53 [.mp 1101 0,.pv .nilm,.pv (aW P)] H (fun r H'=>r=.tup []∧H'=(1101,bJ (hX l P) c)::H):=by
 have hml:(P.map encStr).length=P.length:=XI _;have hcp:=RW l c H h0 h6 hcl;refine Bd func53 rfl ntmps53<|Sr<|Dd aE<|Dd aE<|Dd (by exact aB rfl rfl call104 rfl (hcp))<|Zz<|Sr<|Dd aE<|Dd (j2 aO)<|Dd aE<|Zz<|aM ?_;refine bB (σ:=Nat) (fun k=>([(0,.mp 1101 0),(11,.pv (aW P)),(12,iv ((P.map encStr).length:Int)),(13,iv (k:Int))],(1101,bJ (hX l (P.take k)) c)::H)) (fun k=>k≤P.length) (fun k=>P.length - k) 0 (XZ _) ?_ ?_
 ·exact bY.get' ⟨⟨_,rfl,rfl⟩,⟨_,rfl,rfl⟩,⟨_,rfl,rfl⟩,⟨_,rfl,rfl⟩,trivial⟩ (fun j=>wM h0 j)
 intro k hk;refine Sr<|Dd dG<|Zz<|Sq ?_;refine Cn ?_ ?_<;>intro hc1
 ·have hlt:k < P.length:=by have:=XE hc1;omega
  obtain ⟨s,hs⟩:=aY hlt;have hi:=cG (f:=encStr) hs;refine aG<|Sq<|aM<|Sr<|Dd (B1 bR)<|Dd (kL aU)<|Dd aS<|Zz<|Rg<|Dd aE<|Dd aE<|Uu (by exact wO (κ:=eE) (l:=bL (hX l (P.take k))) rfl aT aI rfl (get_cons_same _ _ _) rfl rfl rfl rfl (u0 s _))<|Zz<|Rg<|Dd kU<|Dd aE<|Zz ?_;refine⟨k+1,by omega,by omega,?_⟩;rw [s9 hs];exact bY.get' ⟨⟨_,rfl,rfl⟩,⟨_,rfl,rfl⟩,⟨_,rfl,rfl⟩,⟨_,rfl,by rfl⟩,trivial⟩ (fun j=>gG _ _ _ _ j)
 have hge:k=P.length:=by have:=XF hc1;omega
 subst hge;rw [List.take_length];refine a6 ?_;exact iV (H':=(1101,bJ (hX l P) c)::H) (.inl rfl) rfl Fin.refl ⟨rfl,rfl⟩
def NH (d:DSt) (k a i:Nat):ByteArray:=CR (2+a*k+i) (bT d (2+a*k+i))
def C3 (d:DSt) (k a n:Nat):Bool:=(List.range n).all fun i=>!decide (NH d k a i=sNil)
def NG (d:DSt) (k a n:Nat):List UInt8:=(List.range n).flatMap fun i=>(NH d k a i).data.toList
def wD (d:DSt) (k a n:Nat):Bool:=C3 d k a n&&((dX (NG d k a n)).2&&(dX (NG d k a n)).1.all fun c=>jR c.data.toList)
def SS (d:DSt) (k a n:Nat):CT:=m9 ((dX (NG d k a n)).1.map fun c=>c.data.toList)
def uK (d:DSt) (k:Nat):Bool:=jX k 1 (bT d 1)
def HD (d:DSt) (k:Nat):Bool:=uK d k||jX k 0 (bT d 0)
def SO (d:DSt) (k:Nat):Nat:=if uK d k then nU (bT d 1)else if jX k 0 (bT d 0)then nU (bT d 0)else 0
def SN (d:DSt) (k:Nat):Nat:=if uK d k then nT (bT d 1)else if jX k 0 (bT d 0)then nT (bT d 0)else 0
theorem QU {p:List UInt8} (h:1≤p.length):¬ ofL p=sNil:=fun e=>by
 have:=congrArg ByteArray.size e;rw [bS] at this;have h0:sNil.size=0:=rfl;omega
theorem DY {d:DSt} {N k a n:Nat} {C:CT} (hc:Calm d N) (h:SInv d.cells k a n C) {Q:List (List UInt8)} (h1:Q.length=n) (h2:LogAt d.cells (2+a*k) Q) {i:Nat} {q:List UInt8} (hq:Q[i]?=some q):NH d k a i=ofL q:=by have hp:=h2.p q (XS hq);rw [NH,kP hc,h2.at' i q hq];exact MW hp.1 hp.2
theorem TJ {d:DSt} {N k a n:Nat} {C:CT} (hc:Calm d N) (h:SInv d.cells k a n C) {Q:List (List UInt8)} (h1:Q.length=n) (h2:LogAt d.cells (2+a*k) Q):NG d k a n=Q.flatten:=by
 have go:∀ m,m≤n→(List.range m).flatMap (fun i=>(NH d k a i).data.toList)=(Q.take m).flatten:=by
  intro m
  induction m with
  | zero=>intro _;rfl
  | succ m ih =>
   intro hm;obtain ⟨q,hq⟩:=aY (l:=Q) (k:=m) (by omega);rw [List.range_succ,List.flatMap_append,ih (by omega),cR hq,List.flatten_append,List.flatMap_cons,List.flatMap_nil,DY hc h h1 h2 hq,bA];rfl
 rw [NG,go n (XO _),← h1,List.take_length]
theorem KL {d:DSt} {N k a n:Nat} {C:CT} (hc:Calm d N) (h:SInv d.cells k a n C) (hk:k < 10000000) :
  SO d k=a∧SN d k=n∧(HD d k=true∨(HD d k=false∧bT d 0=zS))∧wD d k a n=true∧SS d k a n=C∧bT d 1=nL 1 a n (HD d k)∧bT d 0=nL 0 a n (HD d k):=by
 obtain ⟨Q,T,h1,h2,h3,h4,h5⟩:=h.lg;have hT:NG d k a n=aR (T.map ofL):=(TJ hc h h1 h2).trans h3;have hlen:=qF h2.p;have hnk:=h.nk;have hsp:dX (NG d k a n)=(T.map ofL,true):=by
  rw [hT];refine pI fun x hx=>?_;have:=mP hx;rw [← h3] at this;omega
 have hall:C3 d k a n=true:=List.all_eq_true.2 fun i hi=>by
  obtain ⟨q,hq⟩:=aY (l:=Q) (k:=i) (by have:=List.mem_range.1 hi;omega);have hp:=h2.p q (XS hq);rw [DY hc h h1 h2 hq,decide_eq_false (QU hp.1)];rfl
 have hok:wD d k a n=true:=by
  rw [wD,hall,hsp];simp only [Bool.true_and];refine List.all_eq_true.2 fun x hx=>?_;obtain ⟨t,ht,rfl⟩:=List.mem_map.1 hx;rw [bA];exact h4 t ht
 have hC:SS d k a n=C:=by
  rw [SS,hsp,h5,List.map_map];congr 1;rw [show ((fun c:ByteArray=>c.data.toList)∘ofL)=id from funext fun t=>bA t,List.map_id]
 rcases h.hd with⟨g1,g0⟩|⟨g1,g0,ea,en⟩
 ·have t1:bT d 1=hS 1 a n:=by rw [kP hc,g1];rfl
  have t0:bT d 0=hS 0 a n:=by rw [kP hc,g0];rfl
  obtain ⟨p1,p2,p3⟩:=NR (place:=1) h.a2 h.nk hk;have hh:uK d k=true:=by rw [uK,t1,p3]
  have hH:HD d k=true:=by rw [HD,hh];rfl
  exact⟨by rw [SO,hh,XH rfl,t1,p1],by rw [SN,hh,XH rfl,t1,p2],.inl hH,hok,hC,by rw [hH,t1];rfl,by rw [hH,t0];rfl⟩
 have t1:bT d 1=zS:=by rw [kP hc,g1];rfl
 have t0:bT d 0=zS:=by rw [kP hc,g0];rfl
 have hh:uK d k=false:=by rw [uK,t1,qP]
 have hH:HD d k=false:=by rw [HD,hh,t0,qP];rfl
 exact⟨by rw [SO,hh,XG (by decide),t0,qP,XG (by decide),ea],by rw [SN,hh,XG (by decide),t0,qP,XG (by decide),en],.inr ⟨hH,t0⟩,hok,hC,by rw [hH,t1];rfl,by rw [hH,t0];rfl⟩
def b8 (l:bN):List UInt8:=if l.length=0 then[] else bC l []
abbrev zR (n:Nat):List ByteArray:=List.replicate n zS
theorem P5:zS.size=64:=by rw [bS,zB,List.length_replicate]
theorem GM (n:Nat):∀ t∈zR n,t.size=64:=fun t ht=>by rw [List.eq_of_mem_replicate ht,P5]
def BZ (d:DSt) (k a:Nat) (w:List UInt8):Int×DSt:=if(iT d k (1 - a) 0 w).1=0 then iU (iT d k (1 - a) 0 w).2 (2+a*k+0) (zR (k - 0))else iT d k (1 - a) 0 w
def UB (d:DSt) (k:Nat) (w:List UInt8):Int×DSt:=if(BZ d k 1 w).1=0 then iU (BZ d k 1 w).2 (2+0*k+cT w) (zR (k - cT w))else BZ d k 1 w
def GX (d:DSt) (k a:Nat) (w:List UInt8):Int×DSt:=if a=1 then UB d k w else if(BZ d k 0 w).1=0 then UB (BZ d k 0 w).2 k w else BZ d k 0 w
def jD (k:Nat) (w:List UInt8) (tl:List ByteArray):List ByteArray:=hS 0 0 (cT w)::hS 1 0 (cT w)::(i6 2 w (cT w)++(zR (k - cT w)++(zR k++tl)))
theorem DW {d:DSt} {n:Nat} (h:Calm d n) {k a:Nat} {w:List UInt8} (hk:2*k+2≤n) (hn:n≤8000) (ha:a < 2) (hw:cT w≤k) :
  (BZ d k a w).1=0∧Calm (BZ d k a w).2 n∧(BZ d k a w).2.cells=j1 (((j1 d.cells (2+(1 - a)*k+0) (i6 (2+(1 - a)*k+0) w (cT w))).set 1 (hS 1 (1 - a) (0+cT w))).set 0 (hS 0 (1 - a) (0+cT w))) (2+a*k+0) (zR (k - 0)):=by
 have hak:a*k≤k:=by
  rcases(show a=0∨a=1 by omega)with e|e<;>subst e<;>omega
 obtain ⟨a1,a2,a3⟩:=r5 h (k:=k) (a:=1 - a) (cn:=0) (t:=w) hk hn (by omega) (by omega);obtain ⟨b1,b2,b3⟩:=rZ a2 (place:=2+a*k+0) (L:=zR (k - 0)) (by rw [List.length_replicate];omega) (GM _) (by rw [List.length_replicate];omega);rw [BZ,XH a1];exact⟨b1,b2,by rw [b3,a3]⟩
theorem DX {d:DSt} {n:Nat} (h:Calm d n) {k:Nat} {w:List UInt8} (hk:2*k+2≤n) (hn:n≤8000) (hw:cT w≤k) :
  (UB d k w).1=0∧Calm (UB d k w).2 n∧(UB d k w).2.cells=jD k w (d.cells.drop (2*k+2)):=by
 obtain ⟨a1,a2,a3⟩:=DW h (k:=k) (a:=1) (w:=w) hk hn (by omega) hw;obtain ⟨b1,b2,b3⟩:=rZ a2 (place:=2+0*k+cT w) (L:=zR (k - cT w)) (by rw [List.length_replicate];omega) (GM _) (by rw [List.length_replicate];omega);rw [UB,XH a1];refine⟨b1,b2,?_⟩;have hl:=h.inv.n;rw [b3,a3];refine List.ext_getElem? fun j=>?_;rw [iD,iD,jK,List.length_set,List.length_set,jK,List.length_replicate,List.length_replicate];rw [jD];rcases(show j=0∨j=1∨∃ i,j=i+2 by
  match j with
  | 0=>exact .inl rfl
  | 1=>exact .inr (.inl rfl)
  | i+2=>exact .inr (.inr ⟨i,rfl⟩))with rfl|rfl|⟨i,rfl⟩
 ·rw [XG (by omega),XG (by omega),List.getElem?_set_self (by rw [List.length_set,jK];omega)];rw [X0];rfl
 ·rw [XG (by omega),XG (by omega),List.getElem?_set_ne (by omega),List.getElem?_set_self (by rw [jK];omega)];rw [X0];rfl
 rw [List.getElem?_cons_succ,List.getElem?_cons_succ,List.getElem?_set_ne (by omega),List.getElem?_set_ne (by omega),iD,cY];by_cases h1:i < cT w
 ·rw [XG (by omega),XG (by omega),XH (by omega),List.getElem?_append_left (by rw [cY];exact h1),qX h1,show i+2 - (2+(1 - 1)*k+0)=i by omega,qX h1,show 2+(1 - 1)*k+0=2 by omega]
 rw [List.getElem?_append_right (by rw [cY];omega),cY];by_cases h2:i < k
 ·rw [XH (by omega),List.getElem?_append_left (by rw [List.length_replicate];omega),List.getElem?_replicate,List.getElem?_replicate,XH (by omega),XH (by omega)]
 rw [XG (by omega),List.getElem?_append_right (by rw [List.length_replicate];omega),List.length_replicate];by_cases h3:i < 2*k
 ·rw [XH (by omega),List.getElem?_append_left (by rw [List.length_replicate];omega),List.getElem?_replicate,List.getElem?_replicate,XH (by omega),XH (by omega)]
 rw [XG (by omega),XG (by omega),List.getElem?_append_right (by rw [List.length_replicate];omega),List.length_replicate,List.getElem?_drop];congr 1;omega
theorem ON {d:DSt} {n:Nat} (h:Calm d n) {k a:Nat} {w:List UInt8} (hk:2*k+2≤n) (hn:n≤8000) (ha:a < 2) (hw:cT w≤k) :
  (GX d k a w).1=0∧Calm (GX d k a w).2 n∧(GX d k a w).2.cells=jD k w (d.cells.drop (2*k+2)):=by
 rw [GX];by_cases e:a=1
 ·rw [XH e];exact DX h hk hn hw
 rw [XG e];obtain ⟨a1,a2,a3⟩:=DW h (k:=k) (a:=0) (w:=w) hk hn (by omega) hw;rw [XH a1];obtain ⟨b1,b2,b3⟩:=DX a2 hk hn hw;refine⟨b1,b2,?_⟩;rw [b3];congr 1;rw [a3];have hl:=h.inv.n;refine List.ext_getElem? fun j=>?_;rw [List.getElem?_drop,List.getElem?_drop,iD,List.length_replicate,XG (by omega),List.getElem?_set_ne (by omega),List.getElem?_set_ne (by omega),iD,cY,XG (by omega)]
theorem EV {cells:List ByteArray} {k a n:Nat} {C:CT} (h:SInv cells k a n C) {l:bN} (hn:fB l) (hl:∀ x,cS l x=C x) (hw:cT (b8 l)≤k) (hk:k < 5000) :
  SInv (jD k (b8 l) (cells.drop (2*k+2))) k 0 (cT (b8 l)) C:=by
 have hkn:=h.kn;have hwr:=h.wrong hn hl;obtain ⟨w,hW⟩:∃ w,w=b8 l:=⟨_,rfl⟩;have hlen:(jD k w (cells.drop (2*k+2))).length=cells.length:=by
  rw [← hW] at hw;rw [jD,XK,XK,XJ,cY,XJ,XJ,List.length_replicate,List.length_replicate,XX];omega
 rw [← hW] at hw ⊢;have hat:LogAt (jD k w (cells.drop (2*k+2))) (2+0*k) ((List.range (cT w)).map (fH w)):=by
  refine⟨fun q hq=>?_,fun i q hq=>?_⟩
  ·obtain ⟨i,hi,rfl⟩:=List.mem_map.1 hq;exact CS (List.mem_range.1 hi)
  rw [X2] at hq;have hi:i < cT w:=by
   by_cases e:i < cT w
   ·exact e
   rw [List.getElem?_eq_none (by rw [List.length_range];omega)] at hq;cases hq
  rw [List.getElem?_range hi] at hq;cases hq;rw [jD,show 2+0*k+i=i+2 by omega,List.getElem?_cons_succ,List.getElem?_cons_succ,List.getElem?_append_left (by rw [cY];exact hi),qX hi,Nat.add_comm i 2]
 refine⟨h.k1,by rw [hlen];exact hkn,by omega,hw,.inl ⟨rfl,rfl⟩,?_⟩;have hfl:((List.range (cT w)).map (fH w)).flatten=w:=HA w;by_cases h0:l.length=0
 ·have hw0:w=[]:=by rw [hW,b8,XH h0]
  refine⟨_,[],?_,hat,by rw [hfl,hw0];rfl,fun t ht=>(by cases ht),?_⟩
  ·rw [XI,List.length_range]
  funext x;rw [← hl,List.length_eq_zero_iff.1 h0];rfl
 have hwt:w=bC l []:=by rw [hW,b8,XG h0]
 have hin:=qR (l:=l) (P:=[]) (N:=1000000) (by rw [← hwt];have:=hw;rw [cT] at this;omega);obtain ⟨r1,r2,r3⟩:=GZ hn (P:=[]) List.Pairwise.nil (by omega) hwr (by omega);refine⟨_,[aR (cA l [])],?_,hat,by rw [hfl,hwt];rfl,fun t ht=>by rw [XL.1 ht];exact r1,?_⟩
 ·rw [XI,List.length_range]
 funext x;show C x=TT (fun _=>none) (aR (cA l [])) x;rw [TT,r3,o9,XG XY,r2,hl];cases C x<;>rfl
end Go.Proofs.YtmkgeogoojcciaaGreatDoor
