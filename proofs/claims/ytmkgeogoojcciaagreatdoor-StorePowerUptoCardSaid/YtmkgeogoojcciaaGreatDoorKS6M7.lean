/-
  Parts of the proof: rules of an abstract program logic, contracts of functions, plain laws. Conditions: each theorem's own.
-/
import Derived.Test.YtmkgeogoojcciaaGreatDoorKS6M6
set_option linter.unusedVariables false
set_option linter.unusedSimpArgs false
set_option maxRecDepth 100000
set_option maxHeartbeats 8000000
namespace Go.Proofs
theorem wL:type_of% Tryz.call46:=Tryz.call46
theorem aAm:type_of% Tryz.call47:=Tryz.call47
theorem wK:type_of% Tryz.call50:=Tryz.call50
theorem aAj:type_of% Tryz.call53:=Tryz.call53
end Go.Proofs
section
namespace Go.Abs
open Go.Lib
theorem rP:∀ (l:List UInt8) (a:Nat),decFrom a l=(decFrom 0 l).map fun n=>a*10 ^ l.length+n
 | [],a=>by simp [decFrom]
 | b::r,a=>by
  rw [decFrom,decFrom];cases h:digitVal b with
  | none=>rfl
  | some d =>
   show decFrom (a*10+d) r=(decFrom (0*10+d) r).map _;rw [rP r (a*10+d),rP r (0*10+d),Option.map_map];congr 1;funext n;show (a*10+d)*10 ^ r.length+n=a*10 ^ (r.length+1)+((0*10+d)*10 ^ r.length+n);rw [Nat.pow_succ];obtain ⟨p,hp⟩:∃ p,p=10 ^ r.length:=⟨_,rfl⟩;rw [← hp,Nat.add_mul,Nat.mul_assoc,Nat.mul_comm 10 p,Nat.zero_mul,aBY];omega
theorem vZ (l:List UInt8):∀ z,decFrom 0 (List.replicate z 48++l)=decFrom 0 l
 | 0=>rfl
 | z+1=>by
  have h48:digitVal 48=some 0:=by decide
  rw [List.replicate_succ,List.cons_append,decFrom,h48];exact vZ l z
theorem yK (b:List UInt8):∀ (a:List UInt8) (n:Nat),decFrom n (a++b)=(decFrom n a).bind fun x=>decFrom x b
 | [],n=>rfl
 | c::a,n=>by
  rw [List.cons_append,decFrom,decFrom];cases h:digitVal c with
  | none=>rfl
  | some d=>exact yK b a _
theorem PO {l:List UInt8} {u:Nat} (hne:l≠[]) (hm:∀ b∈l,48≤b.toNat∧b.toNat≤57) (hd:decFrom 0 l=some u):atoi l=some (u:Int):=by
 cases l with
 | nil=>exact absurd rfl hne
 | cons b r =>
  have hb:=hm b List.mem_cons_self;have e2:decNat (b::r)=some u:=by rw [decNat,hd];rfl
  have h43:¬ (b == 43)=true:=fun h=>by rw [beq_iff_eq] at h;rw [h] at hb;exact absurd hb.1 (by decide)
  have h45:¬ (b == 45)=true:=fun h=>by rw [beq_iff_eq] at h;rw [h] at hb;exact absurd hb.1 (by decide)
  rw [atoi,aBE h45,aBE h43,e2];rfl
theorem GA {l:List UInt8} {u:Nat} (hl:l.length≤18) (hne:l≠[]) (hm:∀ b∈l,48≤b.toNat∧b.toNat≤57) (hd:decFrom 0 l=some u):atoiAll l=.ok (u:Int):=by rw [atoiAll_short _ hl,PO hne hm hd];rfl
end Go.Abs
namespace Go.Proofs.YtmkgeogoojcciaaGreatDoor
open Go.Proofs.Tryz
open Go.Abs Go.Lib
instance memDecZ (k:ByteArray) (l:List ByteArray):Decidable (k∈l):=decidable_of_iff _ iG
theorem wD {l:List UInt8} {u:Nat} (hl:l.length≤18) (hne:l≠[]) (hm:∀ b∈l,48≤b.toNat∧b.toNat≤57) (hd:decFrom 0 l=some u):iJ (ofL l)=false∧dP (ofL l)=(u:Int):=by
 have h:=GA hl hne hm hd;constructor
 ·rw [iJ,bC,h]
 rw [dP,rT,bC,h]
theorem BK {n w:Nat} {b:UInt8} (h:b∈dg n w):48≤b.toNat∧b.toNat≤57:=by
 rw [dg] at h;rcases List.mem_append.1 h with h|h
 ·rw [List.eq_of_mem_replicate h];decide
 exact pL n h
theorem W5 (n w:Nat):dg n w≠[]:=by rw [dg];intro h;exact pN n (List.append_eq_nil_iff.1 h).2
theorem KV (n w:Nat):decFrom 0 (dg n w)=some n:=by rw [dg,vZ,mY]
theorem SD (place a n:Nat) (ha:a < 10) (hn:n < 10000000):(hS place a n).extract 16 24=ofL (dg a 1++dg n 7):=lE (by
 have h8:(dg a 1++dg n 7).length=8:=by rw [aBH,jG (mX a (by omega) (by omega)),jG (mX n (by omega) (by omega))]
 rw [eJ,bC,bC,iW,gN,nD,List.drop_left' (lL _),List.take_left' h8])
theorem SC (place a n:Nat) (ha:a < 10) (hn:n < 10000000):iJ ((hS place a n).extract 16 24)=false∧dP ((hS place a n).extract 16 24)=((a*10000000+n:Nat):Int):=by
 have h7:(dg n 7).length=7:=jG (mX n (by omega) (by omega));have h8:(dg a 1++dg n 7).length=8:=by rw [aBH,jG (mX a (by omega) (by omega)),h7]
 rw [SD place a n ha hn];refine wD (by omega) (fun h=>W5 a 1 (List.append_eq_nil_iff.1 h).1) (fun b hb=>?_) ?_
 ·rcases List.mem_append.1 hb with h|h
  ·exact BK h
  exact BK h
 rw [yK,KV,Option.bind_some,rP,KV,h7];rfl
theorem A9 {k place a n:Nat} (ha:a < 2) (hn:n≤k) (hk:k < 10000000):qC (hS place a n)=a∧qB (hS place a n)=n∧jX k place (hS place a n)=true:=by
 obtain ⟨h1,h2⟩:=SC place a n (by omega) (by omega);have hb:mS (hS place a n)=false:=by
  rw [mS,h1,h2,Bool.false_or];exact decide_eq_false (by omega)
 have hu:N3 (hS place a n)=a*10000000+n:=by rw [N3,h2,aBR]
 have hA:qC (hS place a n)=a:=by rw [qC,hb,aBE (by decide),hu];omega
 have hN:qB (hS place a n)=n:=by rw [qB,hb,aBE (by decide),hu];omega
 refine⟨hA,hN,?_⟩;rw [jX,hb,hA,hN,decide_eq_true ha,decide_eq_true hn,decide_eq_true rfl];rfl
theorem N7 (place:Nat) {p:List UInt8} (h2:p.length≤46):(ofL (eR place p)).extract 16 18=ofL (dg p.length 2)∧(ofL (eR place p)).extract 18 (18+p.length)=ofL p:=by
 have hd:(dg p.length 2).length=2:=jG (mX _ (by omega) (by omega));have e:(eR place p).drop 16=dg p.length 2++(p++zB (48 - (dg p.length 2++p).length)):=by rw [eR,gN,nD,List.drop_left' (lL _),List.append_assoc]
 have e2:(eR place p).drop 18=p++zB (48 - (dg p.length 2++p).length):=by
  rw [show 18=16+2 from rfl,← List.drop_drop,e,List.drop_left' hd]
 constructor
 ·refine lE ?_;rw [eJ,bC,bC,e];exact List.take_left' hd
 refine lE ?_;rw [eJ,bC,bC,e2,show 18+p.length - 18=p.length by omega,List.take_left]
theorem RJ {place:Nat} {p:List UInt8} (h1:1≤p.length) (h2:p.length≤46):HI place (ofL (eR place p))=ofL p:=by
 obtain ⟨c1,c2⟩:=N7 place h2;have hd:(dg p.length 2).length=2:=jG (mX _ (by omega) (by omega));obtain ⟨n1,n2⟩:=wD (l:=dg p.length 2) (u:=p.length) (by omega) (W5 _ _) (fun b=>BK) (KV _ _);have hb:DH (ofL (eR place p))=false:=by
  rw [DH,c1,n1,n2,Bool.false_or,decide_eq_false (by omega),decide_eq_false (by omega)];rfl
 have hp:RK (ofL (eR place p))=ofL p:=by rw [RK,c1,n2,aBR,c2]
 rw [HI,hb,aBE (by decide),hp,bC,aBF rfl]
theorem HH (t:List UInt8):∀ i,(List.range i).flatMap (fR t)=t.take (46*i)
 | 0=>by rw [List.range_zero,Nat.mul_zero,List.take_zero];rfl
 | i+1=>by
  rw [List.range_succ,List.flatMap_append,HH t i,List.flatMap_cons,List.flatMap_nil,List.append_nil,fR,Nat.mul_succ];exact(List.take_add ..).symm
theorem EY (t:List UInt8):((List.range (cJ t)).map (fR t)).flatten=t:=by rw [← List.flatMap_def,HH,List.take_of_length_le (by rw [cJ];omega)]
theorem AN {t:List UInt8} {i:Nat} (h:i < cJ t):1≤(fR t i).length∧(fR t i).length≤46:=by rw [oK];rw [cJ] at h;omega
theorem eB (x:ByteArray) (L:List ByteArray):aR (x::L)=decDigits x.size++58::(x.data.toList++aR L):=by
 have h1:aR (x::L)=(pC x).data.toList++aR L:=by rw [aR,List.flatMap_cons];rfl
 rw [h1,pC,ByteArray.data_append,Array.toList_append,ByteArray.data_append,Array.toList_append,mJ];simp
theorem SV (n:Nat):(58:UInt8)∉decDigits n:=fun h=>by
 have:=pL n h;exact absurd this.2 (by decide)
theorem O0 {x:ByteArray} (L:List ByteArray) (hx:x.size < 1000000000000000000):tE (aR (x::L))=false∧MR (aR (x::L))=x.size∧yL (aR (x::L))=x.data.toList++aR L:=by
 obtain ⟨e1,e2⟩:=S3 (r:=x.data.toList++aR L) (SV x.size);rw [← eB] at e1 e2;obtain ⟨n1,n2⟩:=wD (l:=decDigits x.size) (u:=x.size) (eA (k:=18) (by omega) (by decide)) (pN _) (fun b=>pL _) (mY _);have hm:(58:UInt8)∈aR (x::L):=by rw [eB];simp
 have hi:dS (x.size:Int)=ofL (decDigits x.size):=lE (by rw [bC,mJ]);refine⟨?_,?_,e2⟩
 ·rw [tE,e1,e2,n1,n2,decide_eq_true hm,hi,decide_eq_true rfl,decide_eq_false (by omega),decide_eq_false (by rw [aBH,dR];omega)];rfl
 rw [MR,e1,n2,aBR]
theorem sW:∀ (L acc:List ByteArray),(∀ x∈L,x.size < 1000000000000000000)→fO (aR L).length (aR L) acc=(acc++L,true)
 | [],acc,_=>by rw [List.append_nil];rfl
 | x::L,acc,h=>by
  obtain ⟨h1,h2,h3⟩:=O0 L (h x List.mem_cons_self);have hne:aR (x::L)≠[]:=by rw [eB];simp
  rw [xZ hne h1,h2,h3,List.drop_left' (dR x),List.take_left' (dR x),KB,sW L _ (fun y hy=>h y (List.mem_cons_of_mem _ hy)),List.append_assoc];rfl
theorem sX {L:List ByteArray} (h:∀ x∈L,x.size < 1000000000000000000):eQ (aR L)=(L,true):=by rw [eQ,sW L [] h,List.nil_append]
theorem HV (A B:List ByteArray):aR (A++B)=aR A++aR B:=List.flatMap_append
end Go.Proofs.YtmkgeogoojcciaaGreatDoor
end
namespace Go.Proofs.YtmkgeogoojcciaaGreatDoor
open Go.Proofs.Tryz
open Go.Abs
theorem R8 (s:ByteArray) (H:aA):aL Tryz.prog 172 [sv s] H (fun r H'=>r=bv false∧H'=H):=by refine Pu ?_;refine Bd func172 rfl ntmps172<|Sr<|Dd aS<|Zz<|Sr<|Dd aF<|Dd aF<|Dd QX<|Dd aS<|Zz<|aM<|Rt ?_;exact⟨by simp,rfl⟩
theorem VM (s t:ByteArray) (H:aA):aL Tryz.prog 146 [sv s,sv t] H (fun r H'=>r=bv (mQ s t)∧H'=H):=by
 refine Pu ?_;refine Bd func146 rfl ntmps146<|Sr<|Dd aS<|Zz<|Sq ?_;refine dL (t:=4) (n:=15) (X:=mQ s t) ?_ ?_
 ·all_goals refine Dd aF ?_
  all_goals refine Dd (by exact aB rfl rfl call172 rfl (R8 _ _))<|Dm ?_
  all_goals refine Sp 7 (fun h7=>?_) fun h7=>?_
  all_goals try contradiction
  all_goals refine Fo<|Fo<|Fo<|Dd iM<|Dm ?_
  all_goals refine Sp 12 (fun h12=>?_) fun h12=>?_
  all_goals try contradiction
  all_goals refine On aF<|On aF<|On (by exact HL rfl rfl rfl)<|Dd iM<|Da ?_
  all_goals(exact⟨⟨_,rfl,by rfl⟩,rfl,rfl,rfl⟩)
 exact aM<|Rt<|Qq
def fG:List ByteArray→Bool
 | a::b::r=>!mQ b a&&fG (b::r)
 | _=>true
theorem EP {a:ByteArray} {l:List ByteArray} (h:fG (a::l)=true):fG l=true:=by
 cases l with
 | nil=>rfl
 | cons b r=>exact(aBP _ _▸h:_∧_).2
theorem uV:∀ (i:Nat) {l:List ByteArray},fG l=true→fG (l.drop i)=true
 | 0,_,h=>h
 | i+1,[],_=>rfl
 | i+1,a::l,h=>uV i (EP h)
theorem JM {l:List ByteArray} {k:Nat} {a b:ByteArray} (ha:l[k]?=some a) (hb:l[k+1]?=some b):fG (l.drop k)=(!mQ b a&&fG (l.drop (k+1))):=by obtain ⟨h1,e1⟩:=aBK.1 ha;obtain ⟨h2,e2⟩:=aBK.1 hb;rw [List.drop_eq_getElem_cons h1,List.drop_eq_getElem_cons h2,e1,e2];rfl
theorem HW (l:List ByteArray) (H:aA) (hl:l.length < 1099511627776):aL Tryz.prog 119 [.pv (aW l)] H (fun r H'=>r=bv (fG l)∧H'=H):=by
 refine Pu ?_;have hml:(l.map encStr).length=l.length:=aBG _;refine Bd func119 rfl ntmps119<|Sr<|Dd aS<|Zz<|Sq<|Sr<|Dd aF<|Dd (mH aO)<|Dd (by exact eF rfl rfl rfl (show IntKind.i64.wrap (((l.map encStr).length:Int) - 1)=((l.map encStr).length:Int) - 1 by rw [IntKind.wrap_i64];omega))<|Dd aS<|Zz<|aN ?_;refine bJ (σ:=Nat) (fun k=>([(0,.pv (aW l)),(3,iv ((k:Int) - 1))],[])) (fun k=>k≤l.length∧fG (l.drop (k - 1))=true) (fun k=>k) l.length ⟨aBM _,?_⟩ ?_ ?_
 ·have:(l.drop (l.length - 1)).length≤1:=by rw [aBV];omega
  match l.drop (l.length - 1),this with
  | [],_=>rfl
  | [a],_=>rfl
 ·rw [hml];exact Wk
 rintro k ⟨hk,hs⟩;refine Sq<|Sr<|Dd aF<|Dd DU<|Zz ?_;refine Cn ?_ ?_<;>intro hc1
 ·have hlt:2≤k:=by have:=aBC hc1;omega
  obtain ⟨m,rfl⟩:∃ m,k=m+2:=⟨k - 2,by omega⟩;obtain ⟨b,hb⟩:=aZ (l:=l) (k:=m+1) (by omega);obtain ⟨a,ha⟩:=aZ (l:=l) (k:=m) (by omega);have hib:=dI (f:=encStr) hb;have hia:=dI (f:=encStr) ha;have hat:=JM ha hb;rw [show m+2 - 1=m+1 by omega] at hs;rw [hs,Bool.and_true] at hat;refine aG<|Sq<|aN<|Sq<|bR follows<|Cq aF<|Cq aF<|Cq (by exact bN (m:=m+1) rfl bZ rfl rfl (by omega) (show (((m+2:Nat):Int) - 1).toNat=m+1 by omega) hib rfl)<|Cq (nT aV)<|Cq aF<|Cq aF<|Cq (by exact eF rfl rfl rfl (show IntKind.i64.wrap ((((m+2:Nat):Int) - 1) - 1)=((m:Nat):Int)by rw [IntKind.wrap_i64];omega))<|Cq (GJ bZ)<|Cq (nT aV)<|Cq (by exact aB rfl rfl call146 rfl (VM b a _))<|dG<|Kr ?_;refine Cn ?_ ?_<;>intro hc2
  ·have hlt2:mQ b a=true:=hc2;have h0:fG l=false:=by
    rw [Bool.eq_false_iff];intro h;rw [uV m h,hlt2] at hat;cases hat
   rw [h0];exact Sr<|Dd aS<|Zz<|aM<|Rt<|Qq
  have hlt2:mQ b a=false:=hc2;refine aG<|Rg<|Dd aF<|Dd (by exact eF rfl rfl rfl (show IntKind.i64.wrap ((((m+2:Nat):Int) - 1) - 1)=((m+1:Nat):Int) - 1 by rw [IntKind.wrap_i64];omega))<|Da ?_;refine⟨m+1,⟨by omega,?_⟩,by omega,?_⟩
  ·rw [show m+1 - 1=m by omega,hat,hlt2];rfl
  exact Wk
 have hge:k≤1:=by have:=aBD hc1;omega
 have h0:fG l=true:=by rw [show k - 1=0 by omega] at hs;exact hs
 rw [h0];exact bE<|Sr<|Dd aS<|Zz<|aM<|Rt<|Qq
end Go.Proofs.YtmkgeogoojcciaaGreatDoor
section
namespace Go.Proofs.YtmkgeogoojcciaaGreatDoor
open Go.Proofs.Tryz
open Go.Abs
structure M3 where
 k:ByteArray
 b:ByteArray
 o:ByteArray
 t:ByteArray
end Go.Proofs.YtmkgeogoojcciaaGreatDoor
namespace Go.Abs
end Go.Abs
namespace Go.Proofs.YtmkgeogoojcciaaGreatDoor
open Go.Proofs.Tryz
open Go.Abs
end Go.Proofs.YtmkgeogoojcciaaGreatDoor
end
namespace Go.Proofs.YtmkgeogoojcciaaGreatDoor
open Go.Proofs.Tryz
open Go.Abs
theorem OQ (l:List ByteArray) (s:ByteArray) (H:aA) (hl:l.length < 4611686018427387904):aL Tryz.prog 123 [.pv (aW l),sv s] H (fun r H'=>r=iv (SH (fun x=>decide (s=x)) l)∧H'=H):=by
 refine Pu ?_;have hml:(l.map encStr).length=l.length:=aBG _;refine Bd func123 rfl ntmps123<|Sr<|Dd aS<|Zz<|Sq<|Sr<|Dd aF<|Dd (mH aO)<|Dd aF<|Zz<|aN ?_;refine bJ (σ:=Nat) (fun k=>([(0,.pv (aW l)),(1,sv s),(7,iv ((l.map encStr).length:Int)),(8,iv (k:Int))],[])) (fun k=>k≤l.length∧∀ j,j < k→∀ b,l[j]?=some b→decide (s=b)=false) (fun k=>l.length - k) 0 ⟨by omega,by omega⟩ ?_ ?_
 ·exact E0
 rintro k ⟨hk,hno⟩;refine Sr<|Dd dZ<|Zz<|Sq ?_;refine Cn ?_ ?_<;>intro hc1
 ·have hlt:k < l.length:=by have:=aBC hc1;omega
  obtain ⟨o,ho⟩:=aZ hlt;have hi:=dI (f:=encStr) ho;refine aG<|Sq<|aN<|Sr<|Dd aF<|Dd aS<|Zz<|Sr<|Dd aF<|Dd aF<|Dd aF<|Dd (GJ bZ)<|Dd (nT aV)<|Dd XM<|Zz ?_;refine Cn ?_ ?_<;>intro hc2
  ·refine Sr<|Dd aF<|Dd aS<|Zz<|aM<|Rt ?_;exact⟨by rw [SH,OW hno ho hc2],rfl⟩
  refine aG<|Rg<|Dd oE<|Dd aF<|Zz ?_;exact⟨k+1,⟨by omega,RG hno ho hc2⟩,by omega,E0⟩
 have hge:k=l.length:=by have:=aBD hc1;omega
 subst hge;refine bE<|Sr<|Dd aS<|Zz<|aM<|Rt ?_;exact⟨by rw [SH,OX hno],rfl⟩
theorem VW (l:List ByteArray) (s:ByteArray):l.any (fun x=>decide (s=x))=VX l s:=by rw [VX];congr 1;funext x;rw [Bool.eq_iff_iff,aBN,aBN];exact eq_comm
theorem F5 (l:List ByteArray) (s:ByteArray) (H:aA) (hl:l.length < 4611686018427387904):aL Tryz.prog 92 [.pv (aW l),sv s] H (fun r H'=>r=bv (VX l s)∧H'=H):=by refine Pu ?_;refine Bd func92 rfl ntmps92<|Sr<|Dd aS<|Zz<|Sr<|Dd aF<|Dd aF<|Dd (by exact aB rfl rfl call123 rfl (OQ l s _ hl))<|Dd UE<|Dd aS<|Zz<|aM<|Rt ?_;exact⟨by rw [SG,VW],rfl⟩
def m1 (p:M3):ByteArray×Bool:=if p.t=p.o then(p.o,false)else if p.t=p.b then(p.o,false)else if p.o=p.b then(p.t,false)else(p.b,true)
theorem LD (l:List ByteArray) (q:ByteArray→Bool):(List.range l.length).any (fun k=>((l[k]?).map q).getD false)=l.any q:=by
 rw [Bool.eq_iff_iff,List.any_eq_true,List.any_eq_true];constructor
 ·rintro⟨k,hk,h⟩;have hl:=List.mem_range.1 hk;rw [aBL hl] at h;exact⟨_,List.getElem_mem hl,h⟩
 rintro⟨s,hs,h⟩;obtain ⟨k,hk⟩:=aB1.1 hs;exact⟨k,List.mem_range.2 (aBK.1 hk).1,by rw [hk];exact h⟩
theorem D8 (fv:AV) (l:List ByteArray) (q:ByteArray→Bool) (H:aA) (hl:l.length < 4611686018427387904) (hf:∀ s,fD Tryz.prog fv [sv s] H (fun r H'=>r=bv (q s)∧H'=H)) :
  aL Tryz.prog 93 [.pv (aW l),fv] H (fun r H'=>r=bv (l.any q)∧H'=H):=by
 have h:=CV fv l (fun k=>((l[k]?).map q).getD false) (fun _=>H) hl (fun k s hs=>by rw [hs];exact hf s);rw [LD] at h;exact h
def fC (s:ByteArray):Bool:=!decide (s=⟨#[]⟩)&&decide ((s.size:Int)≤200)
theorem L9 (s:ByteArray) (H:aA):aL Tryz.prog 91 [sv s] H (fun r H'=>r=bv (fC s)∧H'=H):=by
 refine Pu ?_;refine Bd func91 rfl ntmps91<|Sr<|Dd aS<|Zz<|Sq ?_;refine dL (t:=2) (n:=9) (X:=fC s) ?_ ?_
 ·all_goals refine Dd aF ?_
  all_goals refine Dd QX<|Dm ?_
  all_goals refine Sp 5 (fun h5=>?_) fun h5=>?_
  all_goals try contradiction
  all_goals first|refine Fo<|Fo<|Fo ?_|refine On aF<|On (CO aI)<|On le' ?_
  all_goals refine Dd iM<|Da ?_
  all_goals(exact⟨⟨_,rfl,by(simp only [fC, *];rfl)⟩,rfl,rfl,rfl⟩)
 exact aM<|Rt<|Qq
def BU (P:List ByteArray) (p:ByteArray×ByteArray×Nat):Bool:=!fC p.1||VX P p.1
def bigV (p:ByteArray×ByteArray×Nat):Bool:=decide ((20000:Int) < (p.2.1.size:Int))
def bO (l:bU) (P:List ByteArray):Int:=if l.any (BU P)||P.any (fun s=>!fC s)then 1 else if l.any bigV then 2 else 0
def F9 (l:bU) (s:List Nat):Bool:=s.any fun i=>((l[i]?).map bigV).getD false
theorem PF {l:bU} {s:List Nat} {i:Nat} {p:ByteArray×ByteArray×Nat} (h:l[i]?=some p):F9 l (s++[i])=(F9 l s||bigV p):=by rw [F9,F9,List.any_append,List.any_cons,List.any_nil,Bool.or_false,h];rfl
theorem TC {l:bU} {s:List Nat} (hb:∀ i,i∈s→i < l.length) (ha:∀ i,i < l.length→i∈s):F9 l s=l.any bigV:=by
 rw [Bool.eq_iff_iff,F9,List.any_eq_true,List.any_eq_true];constructor
 ·rintro⟨i,hi,h⟩;rw [aBL (hb i hi)] at h;exact⟨_,List.getElem_mem (hb i hi),h⟩
 rintro⟨p,hp,h⟩;obtain ⟨i,hi⟩:=aB1.1 hp;exact⟨i,ha i (aBK.1 hi).1,by rw [hi];exact h⟩
abbrev YW:Ob:=bx 1 53 [.pv (.fn 91)]
abbrev wgK (l:bU) (c:Nat) (s:List Nat):aA:=[(946,zG 950 l c s),(5,YW),(950,bK l c)]
theorem GP (s:ByteArray) (H:aA) (h5:H.get 5=some YW):aL Tryz.prog 94 [sv s,.ref 5 0 0 0] H (fun r H'=>r=bv (!fC s)∧H'=H):=by refine Bd func94 rfl ntmps94<|Sr<|Dd aS<|Zz<|Sr<|Dd (by exact aX rfl isAgg53 rfl h5 rfl rfl rfl)<|Dd aF<|Dd (by exact iE rfl rfl rfl ((fD.fn call91 (L9 s H))))<|Dd yE<|Dd aS<|Zz<|aM ?_;refine bF (H':=H) (.inr rfl) rfl (aH rfl) Fin.refl ?_;exact Qq
theorem UO (l:bU) (c:Nat) (P:List ByteArray) (hst:dW l c) (hl:l.length < 1099511627776) (hP:P.length < 1099511627776) :
  aL Tryz.prog 46 [.mp 950 0,.pv (aW P)] [(950,bK l c)] (fun r H'=>r=iv (bO l P)∧H'=[(950,bK l c)]):=by
 refine Bd func46 rfl ntmps46<|Sr<|Dd aS<|Zz<|Sr<|Dd (by exact cR (id:=5) rfl Y5 rfl rfl)<|Uu (sS sizeOf53)<|Zz<|Sr<|Dd aS<|Zz<|Sq<|Sr<|Dd aF<|Dd (by exact zI (q:=946) (κ:=fA) (l:=bS l) rfl aT rfl rfl rfl rfl rfl rfl)<|Zz<|aN ?_;refine bJ (σ:=List Nat) (fun s=>([(0,.mp 950 0),(1,.pv (aW P)),(5,.ref 5 0 0 0),(6,bv (F9 l s)),(10,.it 946 0)],wgK l c s)) (fun s=>(s.Nodup∧∀ i,i∈s→i < l.length)∧∀ i,i∈s→∀ p,l[i]?=some p→BU P p=false) (fun s=>l.length - s.length) [] ⟨⟨List.nodup_nil,by simp⟩,by simp⟩ ?_ ?_
 ·exact(cA.wk (Ea<|Eb<|Ea<|Eb<|Ea<|trivial) (Hc (nL rfl _ _ _)<|Hb<|Hc (aQ _ _ _)<|trivial) ⟨rfl,trivial⟩)
 rintro s ⟨⟨hd,hb⟩,hok⟩;have hsl:s.length≤l.length:=iU _ _ hd hb;have hcf:=fun H (h5:H.get 5=some YW)=>D8 (.clo 94 [.ref 5 0 0 0]) P (fun s=>!fC s) H (by omega) (fun s=>fD.clo call94 (GP s H h5));obtain ⟨ns,hns⟩:∃ b,b=P.any (fun s=>!fC s):=⟨_,rfl⟩;rw [← hns] at hcf;refine Sq<|Rg ?_;refine jA rfl rfl (FV (κ:=fA) (l:=bS l) rfl rfl rfl rfl rfl rfl rfl rfl rfl (aBM _) (aBM _)) ?_;rintro _ _ (⟨rfl,rfl,hn0⟩|⟨hni,hnp,hn1,hn2,rfl,rfl⟩)
 ·refine Dd eP<|Zz<|Sq ?_;refine Cn ?_ ?_<;>intro hc1
  ·cases hc1
  have hall:∀ i,i < l.length→i∈s:=fun i hi=>by
   have hq:(bS l)[i]?=some ((l[i]).1,sv (l[i]).2.1,(l[i]).2.2):=by rw [bS,aB0,aBL hi];rfl
   have:=hn0 _ (aBQ hq);obtain ⟨j,hj,e⟩:=List.mem_map.1 this;have e2:iL l j=iL l i:=by
    rw [e,iL,aBL hi];rfl
   have:=EN hst (hb j hj) hi e2
   rwa [this] at hj
  have hbig:=TC hb hall;have hnb:l.any (BU P)=false:=by
   rw [Bool.eq_false_iff];intro h;obtain ⟨p,hp,h⟩:=List.any_eq_true.1 h;obtain ⟨i,hi⟩:=aB1.1 hp;rw [hok i (hall i (aBK.1 hi).1) p hi] at h;cases h
  have hV:bO l P=if ns=true then 1 else if l.any bigV=true then 2 else 0:=by rw [bO,hnb,← hns,Bool.false_or]
  rw [hV,hbig];obtain ⟨bg,hbg⟩:∃ b,b=l.any bigV:=⟨_,rfl⟩;rw [← hbg];refine bE<|Sq<|aN<|Sr<|Dd aF<|Dd (by exact fK rfl rfl)<|Dd (by exact aB rfl rfl call93 rfl (hcf _ rfl))<|Da ?_;refine Cn ?_ ?_<;>intro hc2
  ·have hn:ns=true:=hc2;rw [aBF hn];refine Sr<|Dd aS<|Zz<|aM ?_;refine bF (H':=[(950,bK l c)]) (.inr rfl) rfl (aH rfl) (Fin.wk (by(simp;done)) (Hc (aQ _ _ _)<|trivial) ⟨rfl,trivial⟩) ?_;exact Qq
  have hn:¬ ns=true:=by rw [show ns=false from hc2];decide
  rw [aBE hn];refine Sr<|Dd aF<|Da ?_;refine Cn ?_ ?_<;>intro hc3
  ·have hn2:bg=true:=hc3;rw [aBF hn2];refine Sr<|Dd aS<|Zz<|aM ?_;refine bF (H':=[(950,bK l c)]) (.inr rfl) rfl (aH rfl) (Fin.wk (by(simp;done)) (Hc (aQ _ _ _)<|trivial) ⟨rfl,trivial⟩) ?_;exact Qq
  have hn2:¬ bg=true:=by rw [show bg=false from hc3];decide
  rw [aBE hn2];refine aG<|Sr<|Dd aS<|Zz<|aM ?_;refine bF (H':=[(950,bK l c)]) (.inr rfl) rfl (aH rfl) (Fin.wk (by(simp;done)) (Hc (aQ _ _ _)<|trivial) ⟨rfl,trivial⟩) ?_;exact Qq
 obtain ⟨p,hp,rfl⟩:=sI hn1;have hlt:hni < l.length:=(aBK.1 hp).1;have hst2:iL l hni=p.2.2:=by rw [iL,hp];rfl
 have hn3:hni∉s:=fun hm=>hn2 (List.mem_map.2 ⟨hni,hm,hst2⟩);have hb2:∀ i,i∈s++[hni]→i < l.length:=fun i hi=>by
  rcases List.mem_append.1 hi with h|h
  ·exact hb i h
  rw [aBJ] at h;omega
 have hd2:(s++[hni]).Nodup:=List.nodup_append.2 ⟨hd,by simp,fun a ha b hb e=>by rw [aBJ] at hb;subst hb;subst e;exact hn3 ha⟩;have hlen:=iU _ _ hd2 hb2;rw [aBH,List.length_singleton] at hlen;have hit:zG 950 l c (s++[hni])=⟨0,0,0,eM (.mp 950 0) c c (s.map (iL l)++[p.2.2])⟩:=by rw [zG,List.map_append,List.map_cons,List.map_nil,hst2]
 have hin:=fun H=>F5 P p.1 H (by omega);have hbg:=PF (s:=s) hp;refine Dd eP<|Zz<|Sq ?_;refine Cn ?_ ?_<;>intro hc4
 ·refine aG<|aN<|Sr<|Dd (by exact zJ (κ:=fA) (seen:=s.map (iL l)) (p:=(p.1,sv p.2.1,p.2.2)) (since:=c) rfl rfl rfl rfl rfl rfl rfl rfl rfl hn1)<|Dd eP<|Dd eP<|Dd aS<|Dd aS<|Zz<|Sq<|Sq ?_;refine gM.ent (E':=[(0,.mp 950 0),(1,.pv (aW P)),(5,.ref 5 0 0 0),(6,bv (F9 l s)),(10,.it 946 0),(7,sv p.1),(8,sv p.2.1)]) (H':=wgK l c (s++[hni])) (cA.get' ⟨⟨_,rfl,rfl⟩,⟨_,rfl,rfl⟩,⟨_,rfl,rfl⟩,⟨_,rfl,rfl⟩,⟨_,rfl,rfl⟩,⟨_,rfl,rfl⟩,⟨_,rfl,rfl⟩,trivial⟩ (fun j=>by rw [wgK,hit];exact iH 946 _ (zG 950 l c s) [(5,YW),(950,bK l c)] j)) ?_;refine dL (t:=24) (n:=10) (X:=BU P p) ?_ ?_
  ·all_goals refine Dd (eG isAgg53) ?_
   all_goals refine Dd aF<|Dd (by exact iE rfl rfl rfl ((fD.fn call91 (L9 p.1 _))))<|Dd yE<|Dm ?_
   all_goals refine Sp 20 (fun h20=>?_) fun h20=>?_
   all_goals try contradiction
   all_goals first|refine Fo<|Fo<|Fo ?_|refine On aF<|On aF<|On (by exact aB rfl rfl call92 rfl (hin _)) ?_
   all_goals refine Dd iM<|Zz ?_
   all_goals(exact⟨⟨_,rfl,by(simp only [BU, *];rfl)⟩,rfl,rfl,rfl⟩)
  refine Cn ?_ ?_<;>intro hc5
  ·have hk2:BU P p=true:=hc5;have hV:bO l P=1:=by rw [bO,List.any_eq_true.2 ⟨p,aBQ hp,hk2⟩];rfl
   rw [hV];refine Sr<|Dd aS<|Zz<|aM ?_;refine bF (H':=[(950,bK l c)]) (.inr rfl) rfl (aH rfl) (Fin.wk (by(simp;done)) (Hc (aQ _ _ _)<|trivial) ⟨rfl,trivial⟩) ?_;exact Qq
  have hk2:BU P p=false:=hc5;refine aG ?_;refine dL (t:=6) (n:=8) (X:=F9 l s||bigV p) ?_ ?_
  ·all_goals refine Dd aF ?_
   all_goals refine Dm ?_
   all_goals refine Sp 26 (fun h26=>?_) fun h26=>?_
   all_goals try contradiction
   all_goals first|refine Fo<|Fo<|Fo ?_|refine On aF<|On (CO aI)<|On DU ?_
   all_goals refine Dd iM<|Da ?_
   all_goals(exact⟨⟨_,rfl,by rw [h26];rfl⟩,rfl,rfl,rfl⟩)
  refine⟨s++[hni],⟨⟨hd2,hb2⟩,fun i hi q hq=>?_⟩,by rw [aBH,List.length_singleton];omega,?_⟩
  ·rcases List.mem_append.1 hi with h|h
   ·exact hok i h q hq
   rw [aBJ] at h;subst h;rw [hp] at hq;cases hq;exact hk2
  rw [hbg];exact(cA.wk (Ea<|Eb<|Ea<|Eb<|Ea<|trivial) (Hc (nL rfl _ _ _)<|Hb<|Hc (aQ _ _ _)<|trivial) ⟨rfl,trivial⟩)
 cases hc4
abbrev jP (l:List ByteArray):List (List AV):=l.map (fun e=>(encStr e).map .pv)
def raw (e:GEdit) (s:ByteArray):Prop:=s=e.id∨s=e.other∨s=e.node∨s=e.obj.id∨s∈e.refs∨s∈e.obj.refs
abbrev dT (l:List ByteArray):List (List AV):=l.map (fun s=>(encStr s).map .pv)
def bB (e:GEdit):GObj:=if e.op=1 then aAJ else e.obj
def A8 (l:List ByteArray):Prop:=l.Pairwise (fun a b=>mQ a b=true)
end Go.Proofs.YtmkgeogoojcciaaGreatDoor
section
namespace Go.Abs
theorem CL {P:Program} {N:Nat} {o:Oper} {E:bH} {H:aA} {T:TypeId} {t:Tmp} {e:TypeId} {id g off len sz:Nat} {ob:Ob} {row:List AV} {rows':List (List AV)} (ho:o.op=.call {callee:=.builtin .clear,args:=#[.tmp t],argTypes:=#[T]}) (hS:dU P T e sz) (hZ:gL P e row) (hrow:row.length=sz)
  (hx:E.get t=some (.osl id g off len)) (hH:H.get id=some ob) (hg:ob.g=g) (hosz:ob.sz=sz) (hoff:off≤ob.rows.length) (hrows:ob.rows.take off++(List.replicate len row++ob.rows.drop (off+len))=rows') :
  cD P N o E H .any ((id,⟨g,sz,ob.ty,rows'⟩)::H):=by
 intro a w I ι h1 h2 hr he K Q hkk;obtain ⟨v,hv,hvr⟩:=he t _ hx;obtain ⟨c,h3,h4,h5⟩:=EZ hr hvr hH hg;refine OG (x:=.tmp t) (E:=(t,.osc id g off len c)::E) ho hS hZ hrow (bH.get_cons_same _ _ _) hH hg hosz hoff hrows a w I ι h1 h2 hr (fun u x hu=>?_) K Q hkk;by_cases e:t=u
 ·subst e;rw [bH.get_cons_same] at hu;cases hu;exact⟨v,hv,h5⟩
 rw [bH.get_cons_other _ _ e] at hu;exact he u x hu
end Go.Abs
namespace Go.Proofs.YtmkgeogoojcciaaGreatDoor
open Go.Proofs.Tryz
open Go.Abs
def cG:List ByteArray→List ByteArray
 | []=>[]
 | [x]=>[x]
 | x::y::r=>if x=y then cG (y::r)else x::cG (y::r)
theorem xN:∀ (l:List ByteArray) (x y:ByteArray),cG (l++[x,y])=cG (l++[x])++(if x=y then[] else[y])
 | [],x,y=>by
  show (if x=y then cG [y] else x::cG [y])=[x]++_;by_cases e:x=y
  ·rw [aBF e,aBF e,e];rfl
  rw [aBE e,aBE e];rfl
 | [a],x,y=>by
  show (if a=x then cG [x,y] else a::cG [x,y])=(if a=x then cG [x] else a::cG [x])++_;have:=xN [] x y;rw [show cG [x,y]=cG ([]++[x,y])from rfl,this]
  split<;>rfl
 | a::b::l,x,y=>by
  have:=xN (b::l) x y;show (if a=b then cG ((b::l)++[x,y])else a::cG ((b::l)++[x,y]))=(if a=b then cG ((b::l)++[x])else a::cG ((b::l)++[x]))++_;rw [this]
  split<;>rfl
theorem EA {L:List ByteArray} {k:Nat} {x y:ByteArray} (hk:1≤k) (hx:L[k - 1]?=some x) (hy:L[k]?=some y):cG (L.take (k+1))=cG (L.take k)++(if x=y then[] else[y]):=by
 obtain ⟨j,rfl⟩:∃ j,k=j+1:=⟨k - 1,by omega⟩;rw [show j+1 - 1=j by omega] at hx;have h1:L.take (j+1)=L.take j++[x]:=by rw [List.take_add_one,hx];rfl
 have h2:L.take (j+1+1)=L.take j++[x,y]:=by rw [List.take_add_one,h1,hy,List.append_assoc];rfl
 rw [h2,h1,xN]
theorem rQ:∀ {l:List ByteArray} {x:ByteArray},x∈cG l↔x∈l
 | [],x=>Iff.rfl
 | [a],x=>Iff.rfl
 | a::b::l,x=>by
  show x∈(if a=b then cG (b::l)else a::cG (b::l))↔_;have ih:=rQ (l:=b::l) (x:=x)
  split
  ·next e =>
   rw [ih,e];simp
  rw [aBS,ih,List.mem_cons (a:=x) (b:=a)]
theorem wA:∀ {l:List ByteArray},l.Pairwise (fun a b=>mQ b a=false)→A8 (cG l)
 | [],_=>.nil
 | [a],_=>List.pairwise_singleton _ _
 | a::b::l,h=>by
  have h2:=(List.pairwise_cons.1 h).2;have ih:=wA h2;show A8 (if a=b then cG (b::l)else a::cG (b::l))
  split
  ·exact ih
  next e =>
  refine List.pairwise_cons.2 ⟨fun y hy=>?_,ih⟩;have hy2:=rQ.1 hy;have hba:mQ b a=false:=(List.pairwise_cons.1 h).1 b List.mem_cons_self;have hab:mQ a b=true:=by
   cases hc:mQ a b with
   | true=>rfl
   | false=>exact absurd (yY hc hba) e
  rcases aBS.1 hy2 with rfl|hy2
  ·exact hab
  have h3:=(List.pairwise_cons.1 h2).1 y hy2;cases hc:mQ b y with
  | true=>exact wT hab hc
  | false=>rw [yY h3 hc];exact hab
theorem DX:∀ (l:List ByteArray),(cG l).length≤l.length
 | []=>aBM _
 | [a]=>aBM _
 | a::b::l=>by
  have ih:=DX (b::l);show (if a=b then cG (b::l)else a::cG (b::l)).length≤(b::l).length+1
  split
  ·omega
  rw [aBI];omega
theorem uU {l:List ByteArray} {i:Nat} {s:ByteArray} (h:l[i]?=some s):(jP l)[i]?=some ((encStr s).map .pv):=by rw [aB0,h];rfl
theorem KJ {P L:List ByteArray} {j:Nat} {s:ByteArray} (h:P.length≤j) (hs:L[j]?=some s):(P++L.drop P.length)[j]?=some s:=by rw [List.getElem?_append_right h,List.getElem?_drop,show P.length+(j - P.length)=j by omega];exact hs
theorem KT {H:aA} {id:Nat} {o:Ob} (h:H.get id=some o) (j:Nat):aA.get ((id,o)::H) j=H.get j:=by
 by_cases e:j=id
 ·subst e;rw [get_cons_same,h]
 exact get_cons_other _ _ e
theorem D9 (L:List ByteArray) (g:Nat) (H:aA) (h1:H.get 901=some ⟨g,1,9,jP L⟩) (hl:L.length < 1099511627776) :
  aL Tryz.prog 47 [.osl 901 g 0 L.length] H (fun r H'=>r=.osl 901 g 0 (cG L).length∧H'=(901,⟨g,1,9,jP (cG L++List.replicate (L.length - (cG L).length) sNil)⟩)::H):=by
 refine Bd func47 rfl ntmps47 ?_;refine gM.ent (E':=[(0,.osl 901 g 0 L.length)]) (H':=(901,⟨g,1,9,jP L⟩)::H) (cA.get' ⟨⟨_,rfl,rfl⟩,trivial⟩ (KT h1)) ?_;refine Sr<|Dd aS<|Zz<|Sq<|Sr<|Dd aF<|Dd (by exact dO rfl aO rfl rfl rfl)<|Dd dZ<|Zz ?_;refine Cn ?_ ?_<;>intro hc1
 ·have hlt:L.length < 2:=by have:=aBC hc1;omega
  have hc0:cG L=L:=by
   match L,hlt with
   | [],_=>rfl
   | [a],_=>rfl
  refine Sr<|Dd aF<|Dd aS<|Zz<|aM ?_;refine bF (H':=(901,⟨g,1,9,jP L⟩)::H) (.inr rfl) rfl (aH rfl) Fin.refl ⟨by rw [hc0],by rw [hc0,Nat.sub_self,List.replicate_zero,List.append_nil]⟩
 have hge:2≤L.length:=by have:=aBD hc1;omega
 refine aG<|Sq<|Sr<|Dd aS<|Zz<|aN ?_;refine bJ (σ:=Nat) (fun i=>([(0,.osl 901 g 0 L.length),(3,iv (i:Int))],(901,⟨g,1,9,jP L⟩)::H)) (fun i=>1≤i∧i≤L.length∧cG (L.take i)=L.take i) (fun i=>L.length - i) 1 ⟨by omega,by omega,by
  obtain ⟨x,hx⟩:=aZ (l:=L) (k:=0) (by omega);rw [List.take_add_one,hx];rfl⟩ ?_ ?_
 ·exact cA.get' ⟨⟨_,rfl,rfl⟩,⟨_,rfl,rfl⟩,trivial⟩ (fun j=>rfl)
 rintro i ⟨hi1,hi2,hi3⟩;refine Sq<|Sr<|Dd aF<|Dd aF<|Dd (by exact dO rfl aO rfl rfl rfl)<|Dd dZ<|Zz ?_;refine Cn ?_ ?_<;>intro hc2
 ·have hil:i < L.length:=by have:=aBC hc2;omega
  obtain ⟨y,hy⟩:=aZ hil;obtain ⟨x,hx⟩:=aZ (l:=L) (k:=i - 1) (by omega);have ht:=EA hi1 hx hy;refine aG<|Sq<|aN<|Sq<|bR follows<|Cq aF<|Cq aF<|Cq (by exact eL rfl bZ rfl rfl rfl rfl rfl (by omega) (by exact aBR _) hil (aBY _))<|Cq (by exact aX rfl aV rfl rfl rfl (uU hy) rfl)<|Cq aF<|Cq aF<|Cq (by exact eF rfl rfl rfl (by exact jS (by omega) (by omega)))<|Cq (by exact eL (m:=i - 1) rfl bZ rfl rfl rfl rfl rfl (by omega) (show ((i:Int) - 1).toNat=i - 1 by omega) (by omega) (aBY _))<|Cq (by exact aX rfl aV rfl rfl rfl (uU hx) rfl)<|Cq XM<|dG<|Kr ?_;refine Cn ?_ ?_<;>intro hc3
  ·have hyx:=aBC hc3;rw [aBF hyx.symm,List.append_nil,hi3] at ht;refine Sr<|Dd aF<|Dd aF<|Dd (by exact fX (l:=i) (h:=L.length) rfl bZ rfl rfl rfl rfl rfl rfl (by omega) (aBM _) (aBY _) rfl)<|Dd aS<|Zz<|Sq<|Sr<|Dd aS<|Zz<|aN ?_;refine xS (fun(k:Nat) (R:List ByteArray)=>([(0,.osl 901 g 0 L.length),(3,iv (R.length:Int)),(4,.osl 901 g i (L.length - i)),(5,iv (k:Int))],(901,⟨g,1,9,jP (R++L.drop R.length)⟩)::H)) (fun k R=>1≤k∧i+k≤L.length∧R=cG (L.take (i+k))∧R.length+1≤i+k) (fun k R=>L.length - (i+k)) 1 (L.take i) ⟨by omega,by omega,ht.symm,by rw [aBU];omega⟩ ?_ ?_
   ·have hti:(L.take i).length=i:=by rw [aBU];omega
    rw [hti,List.take_append_drop];exact cA.get' ⟨⟨_,rfl,rfl⟩,⟨_,rfl,rfl⟩,⟨_,rfl,rfl⟩,⟨_,rfl,rfl⟩,trivial⟩ (fun j=>rfl)
   rintro k R ⟨hk1,hk2,hk3,hk4⟩;refine Sq<|Sr<|Dd aF<|Dd aF<|Dd (by exact dO rfl aO rfl rfl rfl)<|Dd dZ<|Zz ?_;refine Cn ?_ ?_<;>intro hc4
   ·have hkl:i+k < L.length:=by have:=aBC hc4;omega
    obtain ⟨v,hv⟩:=aZ hkl;obtain ⟨u,hu⟩:=aZ (l:=L) (k:=i+k - 1) (by omega);have ht2:=EA (by omega) hu hv;have hv2:=uU (KJ (P:=R) (by omega) hv);have hu2:=uU (KJ (P:=R) (by omega) hu);refine aG<|Sq<|aN<|Sq<|bR follows<|Cq aF<|Cq aF<|Cq (by exact eL (m:=k) rfl bZ rfl rfl rfl rfl rfl (by omega) (aBR _) (by omega) rfl)<|Cq (by exact aX rfl aV rfl rfl rfl hv2 rfl)<|Cq aF<|Cq aF<|Cq (by exact eF rfl rfl rfl (by exact jS (by omega) (by omega)))<|Cq (by exact eL (m:=k - 1) (m2:=i+k - 1) rfl bZ rfl rfl rfl rfl rfl (by omega) (show ((k:Int) - 1).toNat=k - 1 by omega) (by omega) (by omega))<|Cq (by exact aX rfl aV rfl rfl rfl hu2 rfl)<|Cq QX<|dG<|Kr ?_;refine Cn ?_ ?_<;>intro hc5
    ·have hne:¬ u=v:=fun e=>by
      have h:=hc5;rw [e] at h;simp at h
     rw [aBE hne,← hk3] at ht2;have hR0:∃ z,L[R.length]?=some z:=aZ (by omega);obtain ⟨z,hz⟩:=hR0;have hat:(jP (R++L.drop R.length))[R.length]?=some ((encStr z).map .pv):=uU (KJ (P:=R) (aBM _) hz);have hset:(jP (R++L.drop R.length)).set R.length [sv v]=jP ((R++[v])++L.drop (R++[v]).length):=by
      have hd:L.drop R.length=z::L.drop (R.length+1):=by
       obtain ⟨p,q⟩:=aBK.1 hz;rw [List.drop_eq_getElem_cons p,q]
      rw [hd,aBH,List.length_singleton,jP,List.map_append,List.map_cons,List.set_append_right _ _ (by rw [aBG];exact aBM _),aBG,Nat.sub_self,List.set_cons_zero,List.append_assoc,jP,List.map_append,List.map_append];rfl
     refine Sr<|Dd aF<|Dd aF<|Dd aF<|Dd aF<|Dd (by exact eL (m:=k) rfl bZ rfl rfl rfl rfl rfl (by omega) (aBR _) (by omega) rfl)<|Dd (by exact aX rfl aV rfl rfl rfl hv2 rfl)<|Dd (by exact eL rfl bZ rfl rfl rfl rfl rfl (by omega) (by exact aBR _) (by omega:R.length < L.length) (aBY _))<|Uu (by exact cX rfl sizeOf9 rfl rfl rfl rfl rfl hat (by simp [encStr]) rfl hset)<|Zz<|Rg<|Dd aF<|Dd oE<|Dd aS<|Zz<|Rg<|Dd aF<|Dd oE<|Da ?_;refine⟨k+1,R++[v],⟨by omega,by omega,ht2.symm,by rw [aBH,List.length_singleton];omega⟩,by omega,?_⟩;rw [show (((R++[v]).length:Nat):Int)=(R.length:Int)+1 by rw [aBH,List.length_singleton];rfl];exact cA.dup ⟨⟨_,rfl,rfl⟩,⟨_,rfl,rfl⟩,⟨_,rfl,rfl⟩,⟨_,rfl,rfl⟩,trivial⟩
    have he:u=v:=by
     have h:=hc5;have h2:v=u:=by simpa using h
     exact h2.symm
    rw [aBF he,List.append_nil,← hk3] at ht2;refine aG<|Rg<|Dd aF<|Dd oE<|Da ?_;refine⟨k+1,R,⟨by omega,by omega,ht2.symm,by omega⟩,by omega,?_⟩;exact cA.get' ⟨⟨_,rfl,rfl⟩,⟨_,rfl,rfl⟩,⟨_,rfl,rfl⟩,⟨_,rfl,rfl⟩,trivial⟩ (fun j=>rfl)
   have hge2:i+k=L.length:=by have:=aBD hc4;omega
   rw [hge2,List.take_length] at hk3;have hRl:R.length≤L.length:=by omega
   have hmix:(jP (R++L.drop R.length)).length=L.length:=by
    rw [aBG,aBH,aBV];omega
   have hcl:(jP (R++L.drop R.length)).take R.length++(List.replicate (L.length - R.length) [sv sNil]++(jP (R++L.drop R.length)).drop (R.length+(L.length - R.length)))=jP (R++List.replicate (L.length - R.length) sNil):=by
    have hd0:(jP (R++L.drop R.length)).drop (R.length+(L.length - R.length))=[]:=List.drop_eq_nil_of_le (by rw [hmix];omega);rw [hd0,List.append_nil,jP,List.map_append,List.take_left' (aBG _),jP,List.map_append,List.map_replicate];rfl
   refine bE<|Sr<|Dd aF<|Dd aF<|Dd (by exact fX (l:=R.length) (h:=L.length) rfl bZ rfl rfl rfl rfl rfl rfl hRl (aBM _) (aBY _) rfl)<|Uu (by exact CL rfl bZ zo9 rfl rfl rfl rfl rfl (by rw [hmix];exact hRl) hcl)<|Zz<|Sr<|Dd aF<|Dd aF<|Dd (by exact fX (l:=0) (h:=R.length) rfl bZ rfl rfl rfl rfl rfl rfl (aBX _) hRl (aBY _) rfl)<|Dd aS<|Zz<|aM ?_;refine bF (H':=(901,⟨g,1,9,jP (R++List.replicate (L.length - R.length) sNil)⟩)::H) (.inr rfl) rfl (aH rfl) (Fin.get' (fun j=>iH _ _ _ _ j)) ⟨by rw [hk3];rfl,by rw [hk3]⟩
  have hyx:=aBD hc3;rw [aBE (fun e=>hyx e.symm),hi3] at ht;refine aG<|Rg<|Dd aF<|Dd oE<|Da ?_;refine⟨i+1,⟨by omega,by omega,?_⟩,by omega,cA.get' ⟨⟨_,rfl,rfl⟩,⟨_,rfl,rfl⟩,trivial⟩ (fun j=>rfl)⟩;rw [ht,List.take_add_one,hy];rfl
 have hge3:i=L.length:=by have:=aBD hc2;omega
 subst hge3;rw [List.take_length] at hi3;refine bE<|Sr<|Dd aF<|Dd aS<|Zz<|aM ?_;refine bF (H':=(901,⟨g,1,9,jP L⟩)::H) (.inr rfl) rfl (aH rfl) Fin.refl ⟨by rw [hi3],by rw [hi3,Nat.sub_self,List.replicate_zero,List.append_nil]⟩
end Go.Proofs.YtmkgeogoojcciaaGreatDoor
end
namespace Go.Proofs.YtmkgeogoojcciaaGreatDoor
open Go.Proofs.Tryz
open Go.Abs Go.Lib
theorem zY (a b:ByteArray):mQ a b=decide (GK a < GK b):=by unfold mQ;rw [kJ,ByteArray.toList_eq,ByteArray.toList_eq];rfl
theorem GT (l:List UInt8):GK (W1 l)=l:=by simp [GK,W1]
theorem wS (l:List ByteArray):(cH l).Pairwise (fun a b=>mQ b a=false):=by unfold cH;rw [List.pairwise_map];refine List.Pairwise.imp (R:=fun(x y:List UInt8)=>decide (x≤y)=true) (fun {x y} h=>?_) (List.pairwise_mergeSort (le:=fun(x y:List UInt8)=>decide (x≤y)) (fun a b c h1 h2=>decide_eq_true (List.le_trans (aBC h1) (aBC h2))) xY _);rw [zY,GT,GT];exact decide_eq_false (List.not_lt.2 (aBC h))
theorem NM {l:List ByteArray} (hn:l.Nodup):A8 (cH l):=by
 have hp:(cH l).Pairwise (fun a b=>a≠b):=(pA l).symm.pairwise hn (fun {a b} h=>h.symm);refine(hp.and (wS l)).imp fun {a b} h=>?_;obtain ⟨h1,h2⟩:=h;cases hc:mQ a b with
 | true=>rfl
 | false=>exact absurd (yY hc h2) h1
theorem A7 {l:List ByteArray} (h:A8 l):l.Nodup:=by refine List.Pairwise.imp (fun {a b} h e=>?_) h;subst e;rw [LV] at h;cases h
theorem yZ {a b:ByteArray} (h:mQ a b=true):mQ b a=false:=by
 cases e:mQ b a with
 | false=>rfl
 | true=>have:=wT h e;rw [LV] at this;cases this
theorem NN {l:List ByteArray} (h:A8 l):cH l=l:=by
 have hp:(l.map GK).Pairwise (fun x y=>decide (x≤y)=true):=by
  rw [List.pairwise_map];refine h.imp fun {a b} h=>decide_eq_true ?_;have h2:=yZ h;rw [zY] at h2;exact List.not_lt.1 (aBD h2)
 rw [cH,List.mergeSort_of_pairwise hp,FJ]
theorem zX:∀ {l:List ByteArray},l.Pairwise (fun a b=>mQ b a=false)→fG l=true
 | [],_=>rfl
 | [a],_=>rfl
 | a::b::r,h=>by
  have h1:=(List.pairwise_cons.1 h).1 b List.mem_cons_self;rw [fG,h1,zX (List.pairwise_cons.1 h).2];rfl
theorem VV {l:List ByteArray} (h:A8 l):l.Pairwise (fun a b=>mQ b a=false):=h.imp fun {a b} h=>yZ h
theorem DY:∀ {l:List ByteArray},l.Nodup→cG l=l
 | [],_=>rfl
 | [a],_=>rfl
 | a::b::r,h=>by
  have hn:=List.nodup_cons.1 h;have e:¬ a=b:=fun e=>hn.1 (by rw [e];exact List.mem_cons_self);show (if a=b then cG (b::r)else a::cG (b::r))=_;rw [aBE e,DY hn.2]
theorem FN {k v:ByteArray} {n:Nat}:∀ {l:bU},eY l→(k,v,n)∈l→dD l k=some v
 | [],_,h=>by cases h
 | (k',a,m)::r,hn,h=>by
  have h2:=List.nodup_cons.1 hn;rw [dD];rcases aBS.1 h with e|h
  ·cases e;rw [aBF rfl]
  rw [aBE (fun e=>h2.1 (by subst e;exact List.mem_map.2 ⟨_,h,rfl⟩))];exact FN h2.2 h
theorem FI {k v:ByteArray}:∀ {l:bU},dD l k=some v→∃ n,(k,v,n)∈l
 | [],h=>by cases h
 | (k',a,m)::r,h=>by
  rw [dD] at h;by_cases e:k'=k
  ·rw [aBF e] at h;cases h;subst e;exact⟨m,List.mem_cons_self⟩
  rw [aBE e] at h;obtain ⟨n,hn⟩:=FI h;exact⟨n,List.mem_cons_of_mem _ hn⟩
theorem DQ {a b:bU} (ha:eY a) (hb:eY b) (h:∀ k,dD a k=dD b k):(a.map Prod.fst).Perm (b.map Prod.fst):=(List.perm_ext_iff_of_nodup ha hb).2 fun k=>by
 have h1:=iV (k:=k) (l:=a);have h2:=iV (k:=k) (l:=b);rw [h k] at h1;exact Decidable.not_iff_not.1 (h1.symm.trans h2)
theorem wQ {a b:bU} (ha:eY a) (hb:eY b) (h:∀ k,dD a k=dD b k):cF a=cF b:=qP (DQ ha hb h)
theorem FL {a b:bU} (ha:eY a) (hb:eY b) (h:∀ k,dD a k=dD b k):a.length=b.length:=by
 have:=(DQ ha hb h).length_eq
 rwa [aBG,aBG] at this
theorem NG {a b:bU} (ha:eY a) (hb:eY b) (h:∀ k,dD a k=dD b k) (P:List ByteArray):cP a P=cP b P:=by
 have hg:(fun x=>[x,cW a x])=fun x=>[x,cW b x]:=by
  funext x;rw [nJ,nJ,h]
 have hl:(bS a).length=(bS b).length:=by rw [bS,bS,aBG,aBG,FL ha hb h]
 rw [cP,cP,wQ ha hb h,wZ,wZ,hg,hl]
theorem C5 {a b:bU} (ha:eY a) (hb:eY b) (h:∀ k,dD a k=dD b k) (P:List ByteArray):bD a P=bD b P:=by rw [bD,bD,NG ha hb h]
theorem IU {a b:bU} (h:∀ k,dD a k=dD b k) (q:ByteArray×ByteArray×Nat→Bool) (hq:∀ k v n m,q (k,v,n)=q (k,v,m)) (ha:eY a):a.any q=true→b.any q=true:=by intro h1;obtain ⟨⟨k,v,n⟩,hp,h2⟩:=List.any_eq_true.1 h1;have e:=FN ha hp;rw [h] at e;obtain ⟨m,hm⟩:=FI e;exact List.any_eq_true.2 ⟨_,hm,by rw [hq k v m n];exact h2⟩
theorem M5 {a b:bU} (ha:eY a) (hb:eY b) (h:∀ k,dD a k=dD b k) (q:ByteArray×ByteArray×Nat→Bool) (hq:∀ k v n m,q (k,v,n)=q (k,v,m)):a.any q=b.any q :=Bool.eq_iff_iff.2 ⟨IU h q hq ha,IU (fun k=>(h k).symm) q hq hb⟩
theorem JD {a b:bU} (ha:eY a) (hb:eY b) (h:∀ k,dD a k=dD b k) (P:List ByteArray):bO a P=bO b P:=by rw [bO,bO,M5 ha hb h (BU P) (fun k v n m=>rfl),M5 ha hb h bigV (fun k v n m=>rfl)]
def nC (W:List ByteArray):Nat→bU×Nat
 | 0=>([],0)
 | j+1=>(gZ (nC W j).1 (W.getD (2*j) sNil) (W.getD (2*j+1) sNil) (nC W j).2,nU (nC W j).1 (W.getD (2*j) sNil) (nC W j).2)
theorem rD (W:List ByteArray):∀ j,dW (nC W j).1 (nC W j).2∧eY (nC W j).1
 | 0=>⟨⟨List.Pairwise.nil,fun p hp=>(by cases hp)⟩,List.nodup_nil⟩
 | j+1=>⟨FO (rD W j).1 _ _,FP (rD W j).2 _ _ _⟩
theorem A3 (k v:ByteArray) (c:Nat) (l:bU):l.length≤(gZ l k v c).length∧(gZ l k v c).length≤l.length+1:=by
 have h:=congrArg List.length (sJ k v c l);rw [aBG] at h;rw [h]
 split
 ·rw [aBG];omega
 rw [aBH,aBG,List.length_singleton];omega
theorem vM (W:List ByteArray):∀ j,(nC W j).1.length≤j
 | 0=>aBM _
 | j+1=>by
  have h1:=vM W j;have h2:=(A3 (W.getD (2*j) sNil) (W.getD (2*j+1) sNil) (nC W j).2 (nC W j).1).2;show (gZ (nC W j).1 (W.getD (2*j) sNil) (W.getD (2*j+1) sNil) (nC W j).2).length≤_;omega
theorem FF (F R:List ByteArray):∀ j,2*j≤F.length→nC (F++R) j=nC F j
 | 0,_=>rfl
 | j+1,h=>by
  have h1:(F++R).getD (2*j) sNil=F.getD (2*j) sNil:=by rw [List.getD_eq_getElem?_getD,List.getD_eq_getElem?_getD,List.getElem?_append_left (by omega)]
  have h2:(F++R).getD (2*j+1) sNil=F.getD (2*j+1) sNil:=by rw [List.getD_eq_getElem?_getD,List.getD_eq_getElem?_getD,List.getElem?_append_left (by omega)]
  rw [nC,nC,FF F R j (by omega),h1,h2]
theorem D0 (g:ByteArray→ByteArray):∀ (S:List ByteArray) (j:Nat) (s:ByteArray),S[j]?=some s→(S.flatMap fun x=>[x,g x])[2*j]?=some s∧(S.flatMap fun x=>[x,g x])[2*j+1]?=some (g s)
 | [],j,s,h=>by cases h
 | x::r,0,s,h=>by cases h;exact⟨rfl,rfl⟩
 | x::r,j+1,s,h=>D0 g r j s h
theorem HO (g:ByteArray→ByteArray) {S:List ByteArray} (hn:S.Nodup):∀ j,j≤S.length→(nC (S.flatMap fun x=>[x,g x]) j).1.map Prod.fst=S.take j∧∀ k,dD (nC (S.flatMap fun x=>[x,g x]) j).1 k=if k∈S.take j then some (g k)else none
 | 0,_=>⟨rfl,fun k=>by rw [List.take_zero,aBE aBW];rfl⟩
 | j+1,h=>by
  obtain ⟨h1,h2⟩:=HO g hn j (by omega);obtain ⟨s,hs⟩:=aZ (l:=S) (k:=j) (by omega);obtain ⟨f1,f2⟩:=D0 g S j s hs;have g1:(S.flatMap fun x=>[x,g x]).getD (2*j) sNil=s:=by rw [List.getD_eq_getElem?_getD,f1];rfl
  have g2:(S.flatMap fun x=>[x,g x]).getD (2*j+1) sNil=g s:=by rw [List.getD_eq_getElem?_getD,f2];rfl
  have ht:S.take (j+1)=S.take j++[s]:=dK hs;have hns:s∉S.take j:=fun hm=>by
   have hn2:(S.take (j+1)).Nodup:=hn.sublist (List.take_sublist _ _);rw [ht] at hn2;exact(List.nodup_append.1 hn2).2.2 s hm s (aBJ.2 rfl) rfl
  rw [nC,g1,g2,ht];constructor
  ·rw [sJ,h2 s,aBE hns,h1];rfl
  intro k;rw [zF,h2 k];by_cases e:s=k
  ·subst e;rw [aBF rfl,aBF (by simp)]
  rw [aBE e];by_cases hk:k∈S.take j
  ·rw [aBF hk,aBF (List.mem_append_left _ hk)]
  rw [aBE hk,aBE (fun hm=>by
   rcases List.mem_append.1 hm with h|h
   ·exact hk h
   rw [aBJ] at h;exact e h.symm)]
theorem mF {l:bU} {k:ByteArray}:k∈cF l↔k∈l.map Prod.fst:=(pA _).mem_iff
theorem JG {l:bU} (h:eY l):A8 (cF l):=NM h
theorem DN {l:bU} (h:eY l) (R:List ByteArray):∀ k,dD (nC (((cF l).flatMap fun x=>[x,cW l x])++R) l.length).1 k=dD l k:=by
 intro k;have hl:=iA l;rw [FF _ _ _ (by rw [gH,hl];omega)];obtain ⟨_,h2⟩:=HO (cW l) (A7 (JG h)) l.length (by omega);rw [h2,List.take_of_length_le (by omega)];by_cases hk:k∈cF l
 ·rw [aBF hk,nJ];cases e:dD l k with
  | some v=>rfl
  | none=>exact absurd (mF.1 hk) (iV.1 e)
 rw [aBE hk];exact(iV.2 (fun h=>hk (mF.2 h))).symm
abbrev B9 (t:List UInt8):List ByteArray:=(eQ t).1
abbrev WW (t:List UInt8):Int:=dP ((B9 t).getD 0 sNil)
abbrev LX (t:List UInt8):Nat:=(WW t).toNat
abbrev fY (t:List UInt8):bU×Nat:=nC ((B9 t).drop 1) (LX t)
abbrev dQ (t:List UInt8):List ByteArray:=(B9 t).drop (2*LX t+2)
def tR (t:List UInt8):Bool:=!(eQ t).2||decide ((B9 t).length=0)
def lT (t:List UInt8):Bool:=((iJ ((B9 t).getD 0 sNil)||decide (WW t < 0))||decide ((((B9 t).length / 2:Nat):Int) < WW t))||decide (((B9 t).length:Int) < 2*WW t+2)
def tQ (t:List UInt8):Bool:=((((decide ((fY t).1.length+(dQ t).length=0)||!decide (bO (fY t).1 (dQ t)=0))||!decide (bD (fY t).1 (dQ t)=aR [ofL t]))||!fG (dQ t))||decide ((cG (dQ t)).length < (dQ t).length))
def lM (t:List UInt8):Bool:=!tR t&&(!lT t&&!tQ t)
theorem lK (l:bU) (P:List ByteArray):cP l P=dS (l.length:Int)::(((cF l).flatMap fun x=>[x,cW l x])++(dS (P.length:Int)::P)):=by rw [cP,wZ,List.take_length,bS,aBG,aBG,List.cons_append,List.cons_append,List.append_assoc];rfl
theorem pI:∀ {L:List ByteArray} {x:ByteArray},x∈L→x.size≤(aR L).length
 | [],x,h=>by cases h
 | y::L,x,h=>by
  rw [eB,aBH,aBI,aBH,dR];rcases aBS.1 h with rfl|h
  ·omega
  have:=pI h;omega
theorem ES {l:bU} {P:List ByteArray} (hn:eY l) (hP:A8 P) (h0:0 < l.length+P.length) (hw:bO l P=0) (hsz:(aR (cP l P)).length < 1000000000000) :
  lM (aR (cP l P))=true∧(∀ k,dD (fY (aR (cP l P))).1 k=dD l k)∧dQ (aR (cP l P))=P:=by
 have hsp:eQ (aR (cP l P))=(cP l P,true):=sX fun x hx=>by have:=pI hx;omega
 have hlen:=rG (cP l P);have hparts:=lK l P;have hll:(cP l P).length=2*l.length+2+P.length:=by
  rw [hparts,aBI,aBH,gH,iA,aBI];omega
 have hD:(cP l P).getD 0 sNil=dS (l.length:Int):=by rw [hparts];rfl
 have hi:dS (l.length:Int)=ofL (decDigits l.length):=lE (by rw [bC,mJ]);obtain ⟨n1,n2⟩:=wD (l:=decDigits l.length) (u:=l.length) (eA (k:=18) (by omega) (by decide)) (pN _) (fun b=>pL _) (mY _);have hL:B9 (aR (cP l P))=cP l P:=by rw [B9,hsp]
 have hV:WW (aR (cP l P))=(l.length:Int):=by rw [WW,hL,hD,hi,n2]
 have hN:LX (aR (cP l P))=l.length:=by rw [LX,hV,aBR]
 have hput:∀ k,dD (fY (aR (cP l P))).1 k=dD l k:=by
  rw [fY,hL,hN,hparts,List.drop_succ_cons,List.drop_zero];exact DN hn _
 have hnd:eY (fY (aR (cP l P))).1:=(rD _ _).2;have hdrop:dQ (aR (cP l P))=P:=by
  rw [dQ,hL,hN,show cP l P=(dS (l.length:Int)::(((cF l).flatMap fun x=>[x,cW l x])++[dS (P.length:Int)]))++P by rw [hparts];simp];exact List.drop_left' (by rw [aBI,aBH,gH,iA];rfl)
 refine⟨?_,hput,hdrop⟩;have b1:tR (aR (cP l P))=false:=by
  rw [tR,hL,hsp,hll,decide_eq_false (by omega)];rfl
 have b2:lT (aR (cP l P))=false:=by
  rw [lT,hV,hL,hD,hi,n1,hll,decide_eq_false (by omega),decide_eq_false (by omega),decide_eq_false (by omega)];rfl
 have b3:tQ (aR (cP l P))=false:=by
  rw [tQ,hdrop,JD hnd hn hput,hw,C5 hnd hn hput,FL hnd hn hput,zX (VV hP),DY (A7 hP),decide_eq_false (by omega),decide_eq_true rfl,show bD l P=aR [ofL (aR (cP l P))] from rfl,decide_eq_true rfl,decide_eq_false (by omega)];rfl
 rw [lM,b1,b2,b3];rfl
theorem rH (n:Nat) (h:n < 1000000000000000000):(dS (n:Int)).size≤21:=tX (by omega) (by omega)
theorem yG {M:Nat} (hM:M < 1000000000000000000):∀ (L:List ByteArray),(∀ s∈L,s.size≤M)→(aR L).length≤L.length*(M+22)
 | [],_=>aBX _
 | s::r,h=>by
  have ih:=yG hM r (fun x hx=>h x (List.mem_cons_of_mem _ hx));have hs:=h s List.mem_cons_self;have hd:=eA (k:=18) (u:=s.size) (by omega) (by decide);rw [eB,aBH,aBI,aBH,dR,aBI,Nat.add_mul];omega
theorem zV:∀ (n:Nat) (t:List UInt8) (acc:List ByteArray) (x:ByteArray),x∈(fO n t acc).1→x∈acc∨x.size≤t.length
 | 0,t,acc,x,h=>.inl h
 | n+1,t,acc,x,h=>by
  have hcl:=(K6 t).2;rw [fO] at h
  split at h
  ·exact .inl h
  split at h
  ·cases h
  rcases zV n _ _ x h with h|h
  ·rcases List.mem_append.1 h with h|h
   ·exact .inl h
   rw [aBJ.1 h,bY,aBU];exact .inr (by omega)
  rw [aBV] at h;exact .inr (by omega)
theorem ET {t:List UInt8} {x:ByteArray} (h:x∈B9 t):x.size≤t.length:=by
 rcases zV _ _ _ _ h with h|h
 ·cases h
 exact h
theorem HT {k v:ByteArray} {c:Nat} {p:ByteArray×ByteArray×Nat}:∀ {l:bU},p∈gZ l k v c→p∈l∨(p.1=k∧p.2.1=v)
 | [],h=>by
  rw [aBJ.1 h];exact .inr ⟨rfl,rfl⟩
 | (k',a,n)::r,h=>by
  rw [gZ] at h
  split at h
  ·rcases aBS.1 h with h|h
   ·rw [h];exact .inr ⟨rfl,rfl⟩
   exact .inl (List.mem_cons_of_mem _ h)
  rcases aBS.1 h with h|h
  ·rw [h];exact .inl List.mem_cons_self
  rcases HT h with h|h
  ·exact .inl (List.mem_cons_of_mem _ h)
  exact .inr h
theorem DW {W:List ByteArray} {M:Nat} (h:∀ x∈W,x.size≤M) (i:Nat):(W.getD i sNil).size≤M:=by
 rw [List.getD_eq_getElem?_getD];cases e:W[i]? with
 | none=>exact aBX _
 | some x=>exact h x (aBQ e)
theorem MB {W:List ByteArray} {M:Nat} (h:∀ x∈W,x.size≤M):∀ (j:Nat) (p:ByteArray×ByteArray×Nat),p∈(nC W j).1→p.1.size≤M∧p.2.1.size≤M
 | 0,p,hp=>by cases hp
 | j+1,p,hp=>by
  rcases HT hp with h1|⟨h1,h2⟩
  ·exact MB h j p h1
  rw [h1,h2];exact⟨DW h _,DW h _⟩
theorem tV {M:Nat} (k:ByteArray):∀ {l:bU},(∀ p∈l,p.2.1.size≤M)→(cW l k).size≤M
 | [],_=>aBX _
 | (k',a,n)::r,h=>by
  rw [cW]
  split
  ·exact h _ List.mem_cons_self
  exact tV k fun p hp=>h p (List.mem_cons_of_mem _ hp)
theorem C4 (l:bU) (P:List ByteArray):(cP l P).length=2*l.length+2+P.length:=by rw [lK,aBI,aBH,gH,iA,aBI];omega
theorem qN {l:bU} {P:List ByteArray} {M:Nat} (h21:21≤M) (hM:M < 1000000000) (hl:∀ p∈l,p.1.size≤M∧p.2.1.size≤M) (hP:∀ s∈P,s.size≤M) (hn:2*l.length+2+P.length < 1000000000) :
  (bD l P).length≤(2*l.length+2+P.length)*(M+22)+22:=by
 have h1:(aR (cP l P)).length≤(cP l P).length*(M+22):=by
  refine yG (by omega) _ fun s hs=>?_;rw [lK] at hs;rcases aBS.1 hs with rfl|hs
  ·have:=rH l.length (by omega);omega
  rcases List.mem_append.1 hs with hs|hs
  ·obtain ⟨x,hx,hs⟩:=List.mem_flatMap.1 hs;simp only [aBS,aBW,or_false] at hs;rcases hs with rfl|rfl
   ·obtain ⟨p,hp,rfl⟩:=List.mem_map.1 (mF.1 hx);exact(hl p hp).1
   exact tV x fun p hp=>(hl p hp).2
  rcases aBS.1 hs with rfl|hs
  ·have:=rH P.length (by omega);omega
  exact hP s hs
 rw [C4] at h1;have hb:(2*l.length+2+P.length)*(M+22)≤1000000000*1000000022:=Nat.mul_le_mul (by omega) (by omega);have hd:=eA (k:=19) (u:=(aR (cP l P)).length) (by omega) (by decide);rw [bD,eB,aBH,aBI,aBH,bC,bY];have h0:(aR []).length=0:=rfl;omega
theorem Q8 {t:List UInt8} (ht:t.length < 1000000) (hb:lT t=false):(bD (fY t).1 (dQ t)).length < 35184372088832∧(fY t).1.length≤t.length∧(dQ t).length≤t.length:=by
 have h1:=vM ((B9 t).drop 1) (LX t);have hlen:(B9 t).length≤t.length:=by
  have go:∀ (n:Nat) (u:List UInt8) (acc:List ByteArray),(fO n u acc).1.length≤acc.length+n:=by
   intro n
   induction n with
   | zero=>intro u acc;exact Nat.le_add_right _ _
   | succ n ih =>
    intro u acc;rw [fO]
    split
    ·exact Nat.le_add_right _ _
    split
    ·exact aBX _
    have:=ih ((yL u).drop (MR u)) (acc++[ofL ((yL u).take (MR u))]);rw [aBH,List.length_singleton] at this;omega
  have:=go t.length t [];rw [List.length_nil,aBY] at this;exact this
 rw [lT] at hb;simp only [aB2,aBO] at hb;have h2:LX t≤(B9 t).length / 2:=by
  have h3:=hb.1.2;have h4:=hb.1.1.2;rw [LX];omega
 have h5:(fY t).1.length≤t.length:=by
  show (nC ((B9 t).drop 1) (LX t)).1.length≤_;omega
 have h6:(dQ t).length≤t.length:=by
  rw [dQ,aBV];omega
 refine⟨?_,h5,h6⟩;have h7:=qN (l:=(fY t).1) (P:=dQ t) (M:=1000000) (by decide) (by decide) (fun p hp=>by
  have:=MB (W:=(B9 t).drop 1) (M:=t.length) (fun x hx=>ET (List.mem_of_mem_drop hx)) _ p hp;omega) (fun s hs=>by have:=ET (List.mem_of_mem_drop hs);omega) (by omega)
 have h8:(2*(fY t).1.length+2+(dQ t).length)*(1000000+22)≤3000002*1000022:=Nat.mul_le_mul (by omega) (by omega);omega
structure Calm (d:DSt) (n:Nat):Prop where
 inv:DInv d n 0
 off:d.off=false
 na:∀ a w b,d.arm≠.on a w b
theorem Calm.q {d:DSt} {n:Nat} (h:Calm d n):d.q=[]:=List.length_eq_zero_iff.1 (Nat.le_zero.1 h.inv.q)
theorem rS {n:Nat} (h1:1≤n) (h2:n≤8000):Calm (nE n) n:=⟨VT h1 h2,rfl,fun a w b h=>by cases h⟩
theorem D6 {s:DSt} (h:∀ a w b,s.arm≠.on a w b):dX s=s∧eW s=0:=by
 unfold dX eW;cases e:s.arm with
 | on a w b=>exact absurd e (h a w b)
 | never=>exact⟨rfl,rfl⟩
 | off a w b=>exact⟨rfl,rfl⟩
def lY (cells:List ByteArray) (p:Nat):List ByteArray→List ByteArray
 | []=>cells
 | t::r=>lY (cells.set p t) (p+1) r
def uS (p:Nat):List ByteArray→List (Nat×ByteArray)
 | []=>[]
 | t::r=>(p,t)::uS (p+1) r
theorem EV:∀ (A B:List ByteArray) (p:Nat),uS p (A++B)=uS p A++uS (p+A.length) B
 | [],B,p=>rfl
 | t::A,B,p=>by
  rw [List.cons_append,uS,uS,EV A B (p+1),List.cons_append,aBI,Nat.add_assoc p 1,Nat.add_comm 1 A.length]
theorem zC:∀ (L cells:List ByteArray) (p:Nat),dF cells (uS p L)=lY cells p L
 | [],_,_=>rfl
 | t::r,cells,p=>zC r (cells.set p t) (p+1)
theorem fJ:∀ (L cells:List ByteArray) (p:Nat),(lY cells p L).length=cells.length
 | [],_,_=>rfl
 | t::r,cells,p=>(fJ r (cells.set p t) (p+1)).trans List.length_set
theorem dN:∀ (L cells:List ByteArray) (p j:Nat),(lY cells p L)[j]?=if p≤j∧j < p+L.length∧j < cells.length then L[j - p]? else cells[j]?
 | [],cells,p,j=>by rw [lY,aBE (by rw [List.length_nil];omega)]
 | t::r,cells,p,j=>by
  rw [lY,dN r (cells.set p t) (p+1) j,List.length_set,aBI];by_cases h:p≤j∧j < p+(r.length+1)∧j < cells.length
  ·rw [aBF h];by_cases e:p=j
   ·subst e;rw [aBE (by omega),List.getElem?_set_self h.2.2,Nat.sub_self];rfl
   rw [aBF (by omega),show j - p=(j - (p+1))+1 by omega,List.getElem?_cons_succ]
  rw [aBE h,aBE (by omega)];by_cases e:p=j
  ·subst e;have hl:cells.length≤p:=by omega
   rw [List.getElem?_eq_none (by rw [List.length_set];exact hl),List.getElem?_eq_none hl]
  rw [List.getElem?_set_ne e]
theorem GR {d:DSt} {n:Nat} (h:Calm d n) {place:Nat} {L:List ByteArray} (hp:place+L.length≤n) (hs:∀ t∈L,t.size=64):∀ i,i≤L.length→oX d place L i=(0,{d with q:=uS place (L.take i),gq:=d.gq+i})
 | 0,_=>by
  rw [oX,List.take_zero,uS,← h.q];rfl
 | i+1,hi=>by
  obtain ⟨t,ht⟩:=aZ (l:=L) (k:=i) (by omega);have hz:=hs t (aBQ ht);have hD:L.getD i sNil=t:=by rw [List.getD_eq_getElem?_getD,ht];rfl
  have hq:uS place (L.take (i+1))=uS place (L.take i)++[(place+i,t)]:=by
   rw [dK ht,EV,aBU,Nat.min_eq_left (by omega)];rfl
  obtain ⟨s,hS⟩:∃ s,s=({d with q:=uS place (L.take i),gq:=d.gq+i}:DSt):=⟨_,rfl⟩;have so:s.off=false:=by rw [hS];exact h.off
  have sc:fU s ((place+i:Nat):Int)=true:=by
   rw [kW,hS];exact decide_eq_true (by have:=h.inv.n;show place+i < d.cells.length;omega)
  obtain ⟨c1,c2⟩:=D6 (s:=kR s (place+i) t) (by rw [hS];exact h.na);rw [oX,GR h hp hs i (by omega),aBF rfl,hD,hq,← hS];have w1:jC s ((place+i:Nat):Int) t=0:=by rw [jC,so,aBE (by decide),sc,decide_eq_true hz,aBF (show (true&&true)=true from rfl),aBR,c2]
  have w2:kG s ((place+i:Nat):Int) t=kR s (place+i) t:=by rw [kG,so,aBE (by decide),sc,decide_eq_true hz,aBF (show (true&&true)=true from rfl),aBR,c1]
  rw [w1,w2,hS];rfl
theorem QF {d:DSt} {n:Nat} (h:Calm d n) {place:Nat} {L:List ByteArray} (hp:place+L.length≤n) (hs:∀ t∈L,t.size=64):gI d place L=(0,{d with cells:=lY d.cells place L,q:=[],gq:=d.gq+L.length+1}):=by
 have hk:=GR h hp hs L.length (aBM _);rw [List.take_length] at hk;obtain ⟨s,hS⟩:∃ s,s=({d with q:=uS place L,gq:=d.gq+L.length}:DSt):=⟨_,rfl⟩;have so:s.off=false:=by rw [hS];exact h.off
 obtain ⟨c1,c2⟩:=D6 (s:=s) (by rw [hS];exact h.na);rw [← hS] at hk;have w1:nW s=0:=by rw [nW,so,aBE (by decide),c2]
 have w2:kH s=xM s:=by rw [kH,so,aBE (by decide),c2,aBF rfl,c1]
 rw [gI,hk,aBF rfl,w1,w2,xM,hS];show (0,({d with cells:=dF d.cells (uS place L),q:=[],gq:=d.gq+L.length+1}:DSt))=_;rw [zC]
theorem mB {d:DSt} {n:Nat} (h:Calm d n) {place:Nat} {L:List ByteArray} (hp:place+L.length≤n) (hs:∀ t∈L,t.size=64) (hm:L.length≤1048576):(gI d place L).1=0∧Calm (gI d place L).2 n∧(gI d place L).2.cells=lY d.cells place L:=by have hi:=lX h.inv place L (by omega);rw [QF h hp hs] at hi ⊢;exact⟨rfl,⟨⟨hi.ok,hi.arm,hi.n,aBX _⟩,h.off,h.na⟩,rfl⟩
theorem cL {d:DSt} {n:Nat} (h:Calm d n) (i:Nat):bP d i=(d.cells[i]?).getD ⟨#[]⟩:=by rw [bP,h.q];rfl
theorem sL (place:Nat) {a n:Nat} (ha:a < 10) (hn:n < 10000000):(hS place a n).size=64:=by rw [bY,iW,wV];rw [aBH,jG (mX a (by omega) (by omega)),jG (mX n (by omega) (by omega))];omega
theorem J1 (place:Nat) {p:List UInt8} (h:p.length≤46):(eR place p).length=64:=by rw [eR,wV];rw [aBH,jG (mX _ (by omega) (by omega))];omega
theorem wU (fr:Nat) (t:List UInt8) (i:Nat):∀ x∈gR fr t i,x.size=64:=fun x hx=>by
 obtain ⟨j,hj,rfl⟩:=List.mem_map.1 hx;rw [bY,J1 _ (by rw [oK];omega)]
theorem qS {fr:Nat} {t:List UInt8} {i j:Nat} (h:j < i):(gR fr t i)[j]?=some (ofL (eR (fr+j) (fR t j))):=by rw [gR,aB0,List.getElem?_range h];rfl
theorem IL {d:DSt} {n:Nat} (h:Calm d n) (hn:2≤n) {a cn:Nat} (ha:a < 10) (hc:cn < 10000000):(lS d a cn).1=0∧Calm (lS d a cn).2 n∧(lS d a cn).2.cells=(d.cells.set 1 (hS 1 a cn)).set 0 (hS 0 a cn):=by obtain ⟨a1,a2,a3⟩:=mB h (place:=1) (L:=[hS 1 a cn]) (by rw [List.length_singleton];omega) (fun t ht=>by rw [aBJ.1 ht];exact sL _ ha hc) (by rw [List.length_singleton];omega);obtain ⟨b1,b2,b3⟩:=mB a2 (place:=0) (L:=[hS 0 a cn]) (by rw [List.length_singleton];omega) (fun t ht=>by rw [aBJ.1 ht];exact sL _ ha hc) (by rw [List.length_singleton];omega);rw [lS,aBF a1];exact⟨b1,b2,by rw [b3,a3];rfl⟩
theorem wC {d:DSt} {n:Nat} (h:Calm d n) {k a cn:Nat} {t:List UInt8} (hk:2*k+2≤n) (hn:n≤8000) (ha:a < 2) (hc:cn+cJ t≤k) :
  (gK d k a cn t).1=0∧Calm (gK d k a cn t).2 n∧(gK d k a cn t).2.cells=((lY d.cells (2+a*k+cn) (gR (2+a*k+cn) t (cJ t))).set 1 (hS 1 a (cn+cJ t))).set 0 (hS 0 a (cn+cJ t)):=by
 have hak:a*k≤k:=by
  rcases(show a=0∨a=1 by omega)with e|e<;>subst e<;>omega
 obtain ⟨a1,a2,a3⟩:=mB h (place:=2+a*k+cn) (L:=gR (2+a*k+cn) t (cJ t)) (by rw [cQ];omega) (wU _ _ _) (by rw [cQ];omega);obtain ⟨b1,b2,b3⟩:=IL a2 (a:=a) (cn:=cn+cJ t) (by omega) (by omega) (by omega);rw [gK,aBF a1];exact⟨b1,b2,by rw [b3,a3]⟩
abbrev CT:=ByteArray→Option ByteArray
def oU (C:CT) (l:bU) (D:List ByteArray):CT:=fun x=>if x∈D then none else(dD l x).orElse fun _=>C x
def V7 (C:CT) (t:List UInt8):CT:=oU C (fY t).1 (dQ t)
def oV (T:List (List UInt8)):CT:=T.foldl V7 (fun _=>none)
theorem uJ (T:List (List UInt8)) (t:List UInt8):oV (T++[t])=V7 (oV T) t:=by rw [oV,List.foldl_append];rfl
theorem SZ {C:CT} {l:bU} {D:List ByteArray} {x v:ByteArray} (h:oU C l D x=some v):dD l x=some v∨C x=some v:=by
 rw [oU] at h
 split at h
 ·cases h
 cases e:dD l x with
 | none=>rw [e] at h;exact .inr h
 | some u=>rw [e] at h;exact .inl h
theorem MY (T:List (List UInt8)) {x v:ByteArray}:oV T x=some v→∃ t∈T,dD (fY t).1 x=some v:=by
 have go:∀ (n:Nat) (T:List (List UInt8)),T.length=n→oV T x=some v→∃ t∈T,dD (fY t).1 x=some v:=by
  intro n
  induction n with
  | zero =>
   intro T hT h;rw [List.length_eq_zero_iff.1 hT] at h;cases h
  | succ n ih =>
   intro T hT h;have hne:T≠[]:=fun e=>by rw [e] at hT;cases hT
   have e:T=T.dropLast++[T.getLast hne]:=(List.dropLast_concat_getLast hne).symm;rw [e,uJ] at h;rcases SZ h with h|h
   ·exact⟨_,List.getLast_mem hne,h⟩
   obtain ⟨t,ht,h2⟩:=ih T.dropLast (by rw [List.length_dropLast];omega) h;exact⟨t,List.dropLast_subset T ht,h2⟩
 exact go T.length T rfl
theorem AF {t:List UInt8} (h:lM t=true):(eQ t).2=true∧lT t=false∧0 < (fY t).1.length+(dQ t).length∧bO (fY t).1 (dQ t)=0:=by rw [lM] at h;simp only [aBP,Bool.not_eq_true'] at h;obtain ⟨h1,h2,h3⟩:=h;rw [tR,aB2] at h1;rw [tQ] at h3;simp only [aB2,aBO,Bool.not_eq_false',aBN] at h3;refine⟨by simpa using h1.1,h2,by have:=h3.1.1.1.1;omega,h3.1.1.1.2⟩
theorem kQ {l:bU} {D:List ByteArray} (h:bO l D=0):(∀ p∈l,fC p.1=true∧p.1∉D∧p.2.1.size≤20000)∧∀ s∈D,fC s=true:=by
 rw [bO] at h
 split at h
 ·cases h
 next h1 =>
 split at h
 ·cases h
 next h2 =>
 rw [Bool.not_eq_true,aB2] at h1;constructor
 ·intro p hp;have a1:=List.any_eq_false.1 h1.1 p hp;have a2:=List.any_eq_false.1 (Bool.not_eq_true _▸h2) p hp;rw [BU] at a1;rw [bigV] at a2;simp only [Bool.not_eq_true,aB2,Bool.not_eq_false',aBO] at a1 a2;refine⟨a1.1,fun hm=>?_,by omega⟩;rw [iG.2 hm] at a1;cases a1.2
 intro s hs;have a1:=List.any_eq_false.1 h1.2 s hs
 simpa using a1
theorem pH {l:bU} {D:List ByteArray} (h1:∀ p∈l,fC p.1=true∧p.1∉D∧p.2.1.size≤20000) (h2:∀ s∈D,fC s=true):bO l D=0:=by
 have a1:l.any (BU D)=false:=List.any_eq_false.2 fun p hp=>by
  have:=h1 p hp;rw [BU,this.1,Bool.not_true,Bool.false_or];exact fun e=>this.2.1 (iG.1 e)
 have a2:D.any (fun s=>!fC s)=false:=List.any_eq_false.2 fun s hs=>by rw [h2 s hs];decide
 have a3:l.any bigV=false:=List.any_eq_false.2 fun p hp=>by
  have:=(h1 p hp).2.2;rw [bigV];simp only [aBN];omega
 rw [bO,a1,a2,a3];rfl
theorem ZR {T:List (List UInt8)} (hT:∀ t∈T,lM t=true) {x v:ByteArray} (h:oV T x=some v):fC x=true∧v.size≤20000:=by obtain ⟨t,ht,h2⟩:=MY T h;obtain ⟨n,hn⟩:=FI h2;have:=(kQ (AF (hT t ht)).2.2.2).1 _ hn;exact⟨this.1,this.2.2⟩
theorem SY {T:List (List UInt8)} (hT:∀ t∈T,lM t=true) {l:bU} (hn:eY l) (hl:∀ x,dD l x=oV T x):bO l []=0 :=pH (fun⟨x,v,n⟩ hp=>by
  have:=ZR hT ((hl x).symm.trans (FN hn hp));exact⟨this.1,aBW,this.2⟩) (fun s hs=>by cases hs)
theorem RW {α:Type} [DecidableEq α]:∀ {l m:List α},l.Nodup→(∀ x,x∈l→x∈m)→l.length≤m.length
 | [],m,_,_=>aBX _
 | a::l,m,hn,h=>by
  have hn2:=List.nodup_cons.1 hn;have hm:a∈m:=h a List.mem_cons_self;have h2:=RW (l:=l) (m:=m.erase a) hn2.2 (fun x hx=>(List.mem_erase_of_ne (fun e=>by subst e;exact hn2.1 hx)).2 (h x (List.mem_cons_of_mem _ hx)));rw [List.length_erase_of_mem hm] at h2;have:=List.length_pos_of_mem hm;rw [aBI];omega
theorem tI:∀ (n:Nat) (t:List UInt8) (acc:List ByteArray),(fO n t acc).1.length≤acc.length+n
 | 0,t,acc=>Nat.le_add_right _ _
 | n+1,t,acc=>by
  rw [fO]
  split
  ·exact Nat.le_add_right _ _
  split
  ·exact aBX _
  have:=tI n ((yL t).drop (MR t)) (acc++[ofL ((yL t).take (MR t))]);rw [aBH,List.length_singleton] at this;omega
theorem LY (t:List UInt8):(B9 t).length≤t.length:=by have:=tI t.length t [];rw [List.length_nil,aBY] at this;exact this
theorem NX {t:List UInt8} (h:lT t=false):(fY t).1.length≤t.length:=by
 have h1:=vM ((B9 t).drop 1) (LX t);have h2:=LY t;rw [lT] at h;simp only [aB2,aBO] at h;have h3:=h.1.2;have h4:=h.1.1.2;have:LX t≤(B9 t).length / 2:=by rw [LX];omega
 show (nC ((B9 t).drop 1) (LX t)).1.length≤_;omega
theorem YC {T:List (List UInt8)} (hT:∀ t∈T,lM t=true) {l:bU} (hn:eY l) (hl:∀ x,dD l x=oV T x):l.length≤(aR (T.map ofL)).length:=by
 have h1:(l.map Prod.fst).length≤(T.flatMap fun t=>(fY t).1.map Prod.fst).length:=RW hn (fun x hx=>by
  cases e:dD l x with
  | none=>exact absurd hx (iV.1 e)
  | some v =>
   rw [hl] at e;obtain ⟨t,ht,h2⟩:=MY T e;obtain ⟨n,h3⟩:=FI h2;exact List.mem_flatMap.2 ⟨t,ht,List.mem_map.2 ⟨_,h3,rfl⟩⟩)
 rw [aBG] at h1;refine Nat.le_trans h1 ?_;clear h1 hl hn
 induction T with
 | nil=>exact aBX _
 | cons t T ih =>
  have:=ih (fun t ht=>hT t (List.mem_cons_of_mem _ ht));have h2:=NX (AF (hT t List.mem_cons_self)).2.1;rw [List.flatMap_cons,aBH,aBG,List.map_cons,eB,aBH,aBI,aBH,bC];omega
structure LogAt (cells:List ByteArray) (fr:Nat) (Q:List (List UInt8)):Prop where
 p:∀ q∈Q,1≤q.length∧q.length≤46
 at':∀ i q,Q[i]?=some q→cells[fr+i]?=some (ofL (eR (fr+i) q))
structure SInv (cells:List ByteArray) (k a n:Nat) (C:CT):Prop where
 k1:1≤k
 kn:2*k+2≤cells.length∧cells.length≤2*k+3
 a2:a < 2
 nk:n≤k
 hd:(cells[1]?=some (hS 1 a n)∧cells[0]?=some (hS 0 a n))∨(cells[1]?=some zS∧cells[0]?=some zS∧a=0∧n=0)
 lg:∃ (Q T:List (List UInt8)),Q.length=n∧LogAt cells (2+a*k) Q∧Q.flatten=aR (T.map ofL)∧(∀ t∈T,lM t=true)∧C=oV T
theorem uD:∀ {Q:List (List UInt8)},(∀ q∈Q,1≤q.length∧q.length≤46)→Q.flatten.length≤46*Q.length
 | [],_=>aBM _
 | q::Q,h=>by
  have:=uD (Q:=Q) (fun q hq=>h q (List.mem_cons_of_mem _ hq));have:=(h q List.mem_cons_self).2;rw [List.flatten_cons,aBH,aBI];omega
theorem SInv.len {cells:List ByteArray} {k a n:Nat} {C:CT} (h:SInv cells k a n C) {l:bU} (hn:eY l) (hl:∀ x,dD l x=C x):l.length≤46*n:=by obtain ⟨Q,T,h1,h2,h3,h4,h5⟩:=h.lg;have:=YC h4 hn (fun x=>by rw [hl,h5]);have:=uD h2.p;rw [h3] at this;omega
theorem SInv.wrong {cells:List ByteArray} {k a n:Nat} {C:CT} (h:SInv cells k a n C) {l:bU} (hn:eY l) (hl:∀ x,dD l x=C x):bO l []=0:=by obtain ⟨Q,T,h1,h2,h3,h4,h5⟩:=h.lg;exact SY h4 hn (fun x=>by rw [hl,h5])
theorem lI {k place:Nat}:jX k place zS=false:=by
 have h:iJ (zS.extract 16 24)=true:=by
  have e:(zS.extract 16 24).data.toList=[0,0,0,0,0,0,0,0]:=by
   rw [eJ,bC];rfl
  rw [iJ,e];rfl
 have hb:mS zS=true:=by rw [mS,h];rfl
 rw [jX,hb];rfl
theorem qR {n:Nat} (h1:4≤n):SInv (nE n).cells ((n - 2) / 2) 0 0 (fun _=>none):=by
 have hl:(nE n).cells.length=n:=by rw [nE,List.length_replicate]
 have hz:∀ i,i < n→(nE n).cells[i]?=some zS:=fun i hi=>by
  show (List.replicate n z64)[i]?=_;rw [List.getElem?_replicate,aBF hi];rfl
 refine⟨by omega,by omega,by omega,by omega,.inr ⟨hz 1 (by omega),hz 0 (by omega),rfl,rfl⟩,[],[],rfl,⟨fun q hq=>(by cases hq),fun i q hq=>(by cases hq)⟩,rfl,fun t ht=>(by cases ht),rfl⟩
theorem G7 {cells:List ByteArray} {k a n:Nat} {C:CT} (h:SInv cells k a n C) {l:bU} {D:List ByteArray} (hn:eY l) (hD:A8 D) (h0:0 < l.length+D.length) (hw:bO l D=0) (hc:n+cJ (bD l D)≤k) (hk:k < 5000) :
  SInv (((lY cells (2+a*k+n) (gR (2+a*k+n) (bD l D) (cJ (bD l D)))).set 1 (hS 1 a (n+cJ (bD l D)))).set 0 (hS 0 a (n+cJ (bD l D)))) k a (n+cJ (bD l D)) (oU C l D):=by
 obtain ⟨Q,T,h1,h2,h3,h4,h5⟩:=h.lg;have hin:=qO (l:=l) (P:=D) (N:=1000000) (by have:=hc;rw [cJ] at this;omega);obtain ⟨r1,r2,r3⟩:=ES hn hD h0 hw (by omega);obtain ⟨t,ht⟩:∃ t,t=bD l D:=⟨_,rfl⟩;have htj:t=aR [ofL (aR (cP l D))]:=ht;rw [← ht] at hc ⊢;have hak:a*k≤k:=by
  have:=h.a2;rcases(show a=0∨a=1 by omega)with e|e<;>subst e<;>omega
 have hlen:=h.kn;refine⟨h.k1,by rw [List.length_set,List.length_set,fJ];exact h.kn,h.a2,hc,.inl ⟨?_,?_⟩,Q++(List.range (cJ t)).map (fR t),T++[aR (cP l D)],?_,⟨?_,?_⟩,?_,?_,?_⟩
 ·rw [List.getElem?_set_ne (by omega),List.getElem?_set_self (by rw [fJ];omega)]
 ·rw [List.getElem?_set_self (by rw [List.length_set,fJ];omega)]
 ·rw [aBH,aBG,List.length_range,h1]
 ·intro q hq;rcases List.mem_append.1 hq with hq|hq
  ·exact h2.p q hq
  obtain ⟨i,hi,rfl⟩:=List.mem_map.1 hq;exact AN (List.mem_range.1 hi)
 ·intro i q hq;rw [List.getElem?_set_ne (by omega),List.getElem?_set_ne (by omega),dN,cQ];by_cases hi:i < n
  ·rw [List.getElem?_append_left (by omega)] at hq;rw [aBE (by omega)];exact h2.at' i q hq
  rw [List.getElem?_append_right (by omega),h1,aB0] at hq;have hi2:i - n < cJ t:=by
   by_cases e:i - n < cJ t
   ·exact e
   rw [List.getElem?_eq_none (by rw [List.length_range];omega)] at hq;cases hq
  rw [List.getElem?_range hi2] at hq;cases hq;rw [aBF (by omega),show 2+a*k+i - (2+a*k+n)=i - n by omega,qS hi2,show 2+a*k+n+(i - n)=2+a*k+i by omega]
 ·rw [List.flatten_append,EY,h3,htj,List.map_append,HV];rfl
 ·intro u hu;rcases List.mem_append.1 hu with hu|hu
  ·exact h4 u hu
  rw [aBJ.1 hu];exact r1
 rw [uJ,← h5,V7,r3];funext x;rw [oU,oU,r2]
def bT (l:bU):List ByteArray:=(cF l).flatMap fun k=>[k,cW l k]
theorem A2 {a b:bU} (ha:eY a) (hb:eY b) (h:∀ k,dD a k=dD b k):bT a=bT b:=by
 have hg:(fun x=>[x,cW a x])=fun x=>[x,cW b x]:=by
  funext x;rw [nJ,nJ,h]
 rw [bT,bT,wQ ha hb h,hg]
theorem gD (l:bU):(bT l).length=2*l.length:=by rw [bT,gH,iA]
def eZ (s:bU×Nat) (ps:List (ByteArray×ByteArray)):bU×Nat:=ps.foldl (fun s p=>(gZ s.1 p.1 p.2 s.2,nU s.1 p.1 s.2)) s
theorem AJ (s:bU×Nat) (ps:List (ByteArray×ByteArray)) (p:ByteArray×ByteArray):eZ s (ps++[p])=(gZ (eZ s ps).1 p.1 p.2 (eZ s ps).2,nU (eZ s ps).1 p.1 (eZ s ps).2):=by rw [eZ,eZ,List.foldl_append];rfl
theorem qV:∀ (ps:List (ByteArray×ByteArray)) (s:bU×Nat),dW s.1 s.2→eY s.1→dW (eZ s ps).1 (eZ s ps).2∧eY (eZ s ps).1
 | [],s,h1,h2=>⟨h1,h2⟩
 | p::r,s,h1,h2=>qV r _ (FO h1 p.1 p.2) (FP h2 p.1 p.2 s.2)
theorem sB:∀ (ps:List (ByteArray×ByteArray)) (s:bU×Nat),(eZ s ps).1.length≤s.1.length+ps.length
 | [],s=>aBM _
 | p::r,s=>by
  have h1:=sB r (gZ s.1 p.1 p.2 s.2,nU s.1 p.1 s.2);have h2:=(A3 p.1 p.2 s.2 s.1).2;rw [aBI];show (eZ (gZ s.1 p.1 p.2 s.2,nU s.1 p.1 s.2) r).1.length≤_;have h3:(gZ s.1 p.1 p.2 s.2,nU s.1 p.1 s.2).1.length=(gZ s.1 p.1 p.2 s.2).length:=rfl;omega
def sY:List (ByteArray×ByteArray)→ByteArray→Option ByteArray
 | [],_=>none
 | p::r,k=>(sY r k).orElse fun _=>if p.1=k then some p.2 else none
theorem EW (k:ByteArray):∀ (ps:List (ByteArray×ByteArray)) (s:bU×Nat),dD (eZ s ps).1 k=(sY ps k).orElse fun _=>dD s.1 k
 | [],s=>rfl
 | p::r,s=>by
  have h:=EW k r (gZ s.1 p.1 p.2 s.2,nU s.1 p.1 s.2);show dD (eZ (gZ s.1 p.1 p.2 s.2,nU s.1 p.1 s.2) r).1 k=_;rw [h,zF,sY];cases sY r k with
  | some v=>rfl
  | none =>
   show (if p.1=k then some p.2 else dD s.1 k)=((if p.1=k then some p.2 else none).orElse fun _=>dD s.1 k)
   split<;>rfl
abbrev eN (ps:List (ByteArray×ByteArray)):bU×Nat:=eZ ([],0) ps
theorem FK (ps:List (ByteArray×ByteArray)) (k:ByteArray):dD (eN ps).1 k=sY ps k:=by rw [eN,EW];show ((sY ps k).orElse fun _=>none)=_;cases sY ps k<;>rfl
theorem KF:dW ([]:bU) 0:=⟨List.Pairwise.nil,fun p hp=>(by cases hp)⟩
theorem AW:eY ([]:bU):=List.nodup_nil
theorem iF (ps:List (ByteArray×ByteArray)):dW (eN ps).1 (eN ps).2∧eY (eN ps).1:=qV ps _ KF AW
theorem vN {ps:List (ByteArray×ByteArray)} {p:ByteArray×ByteArray×Nat} (h:p∈(eN ps).1):(p.1,p.2.1)∈ps:=by
 obtain ⟨k,v,n⟩:=p;have e:=FN (iF ps).2 h;rw [FK] at e;have go:∀ ps:List (ByteArray×ByteArray),sY ps k=some v→(k,v)∈ps:=by
  intro ps
  induction ps with
  | nil=>intro h;cases h
  | cons q r ih =>
   intro h;rw [sY] at h;cases e:sY r k with
   | some u =>
    rw [e] at h;cases h;exact List.mem_cons_of_mem _ (ih e)
   | none =>
    rw [e] at h;by_cases e2:q.1=k
    ·have h:(if q.1=k then some q.2 else none)=some v:=h;rw [aBF e2] at h;cases h;rw [← e2];exact List.mem_cons_self
    have h:(if q.1=k then some q.2 else none)=some v:=h;rw [aBE e2] at h;cases h
 exact go ps e
abbrev VG (was:List ByteArray) (ps:List (ByteArray×ByteArray)) (D:List ByteArray):bU×Nat:=(jH (eZ (nC was (was.length / 2)) ps).1 D,(eZ (nC was (was.length / 2)) ps).2)
def tY (was:List ByteArray) (ps:List (ByteArray×ByteArray)) (D:List ByteArray):List ByteArray:=bT (VG was ps D).1
theorem VF (was:List ByteArray) (ps:List (ByteArray×ByteArray)) (D:List ByteArray):dW (VG was ps D).1 (VG was ps D).2∧eY (VG was ps D).1:=by have h1:=rD was (was.length / 2);have h2:=qV ps _ h1.1 h1.2;exact zM D _ _ h2.1 h2.2
theorem RY {l:bU} (h:eY l) (k:ByteArray):dD (nC (bT l) ((bT l).length / 2)).1 k=dD l k:=by have:=DN h [] k;rw [List.append_nil] at this;rw [gD,Nat.mul_div_cancel_left _ (by decide)];exact this
theorem RX {l l':bU} {C:CT} {ps:List (ByteArray×ByteArray)} {P D:List ByteArray} (hn:eY l) (hn':eY l') (hl:∀ k,dD l k=C k) (hl':∀ k,dD l' k=oU C (eN ps).1 D k) (hD:∀ k,k∈D↔k∈P):tY (bT l) ps P=bT l':=by
 refine A2 (VF _ _ _).2 hn' fun k=>?_;have h2:=qV ps _ (rD (bT l) ((bT l).length / 2)).1 (rD (bT l) ((bT l).length / 2)).2;show dD (jH (eZ (nC (bT l) ((bT l).length / 2)) ps).1 P) k=_;rw [KW k P _ h2.2,EW,RY hn,hl',oU,FK,hl];by_cases hk:k∈P
 ·rw [aBF (iG.2 hk),aBF ((hD k).2 hk)]
 rw [aBE (fun h=>hk (iG.1 h)),aBE (fun h=>hk ((hD k).1 h))]
end Go.Proofs.YtmkgeogoojcciaaGreatDoor
namespace Go.Proofs.YtmkgeogoojcciaaGreatDoor
open Go.Proofs.Tryz
open Go.Abs
theorem eO (l:List ByteArray):∀ r∈l.map encStr,r.length=1:=fun r hr=>by
 obtain ⟨t,_,rfl⟩:=List.mem_map.1 hr;rfl
def YG (l:List ByteArray):Ob:=bx 1 31 [.pv (aW l)]
def YZ:Ob:=bx 1 3 [iv 2]
theorem S7 (l:List ByteArray) (H:aA) (h1:H.get 931=none) (h2:H.get 932=none) :
  aL Tryz.prog 118 [.pv (aW l),iv 2] H (fun r H'=>r=.clo 145 [.ref 931 0 0 0,.ref 932 0 0 0]∧H'=(932,YZ)::(931,YG l)::H):=by
 have h2':aA.get ((931,YG l)::H) 932=none:=h2;refine Bd func118 rfl ntmps118<|Sr<|Dd (by exact gO (id:=931) rfl rfl rfl rfl h1)<|Dd (by exact gO (id:=932) rfl rfl rfl rfl h2')<|Dd aS<|Zz<|Sq<|Sr<|Dd (eG aU)<|Dd dZ<|Zz ?_;refine Cn ?_ ?_<;>intro hc1
 ·cases hc1
 refine aG<|Sr<|Dd (by exact fK rfl rfl)<|Dd aS<|Zz<|aM ?_;refine bF (H':=((932,YZ)::(931,YG l)::H)) (.inr rfl) rfl (aH rfl) Fin.refl ?_;exact Qq
def yC (l:List ByteArray) (k:Nat):List ByteArray:=(l.drop (2*k)).take 2
theorem OA (l:List ByteArray) (k:Nat):((l.map encStr).drop (2*k)).take 2=(yC l k).map encStr:=by rw [yC,List.map_take,List.map_drop]
theorem VH {n:Nat} (h:2≤n):min (2:Int) (n:Int)=2:=Int.min_eq_left (by omega)
theorem O6 (l:List ByteArray) (fv:AV) (Hs:Nat→aA) (m:Nat) (hl:l.length=2*m) (hm:m < 1099511627776) (h1:∀ k,(Hs k).get 931=some (YG l)) (h2:∀ k,(Hs k).get 932=some YZ)
  (hy:∀ k,k < m→fD Tryz.prog fv [.pv (aW (yC l k))] (Hs k) (fun r H'=>r=bv true∧H'=Hs (k+1))) :
  aL Tryz.prog 145 [fv,.ref 931 0 0 0,.ref 932 0 0 0] (Hs 0) (fun r H'=>r=.tup []∧H'=Hs m):=by
 have hml:(l.map encStr).length=l.length:=aBG _;refine Bd func145 rfl ntmps145<|Sr<|Dd aS<|Zz<|aN ?_;refine bJ (σ:=Nat) (fun k=>([(0,fv),(1,.ref 931 0 0 0),(2,.ref 932 0 0 0),(4,iv ((2*k:Nat):Int))],Hs k)) (fun k=>k≤m) (fun k=>m - k) 0 (aBX _) ?_ ?_
 ·exact E0
 rintro k hkm;refine Sq<|Sr<|Dd aF<|Dd (by exact aX rfl cM rfl (h1 k) rfl rfl rfl)<|Dd (mH aO)<|Dd dZ<|Zz ?_;refine Cn ?_ ?_<;>intro hc1
 ·have hlt:2*k < l.length:=by have:=aBC hc1;omega
  have hkm2:k < m:=by omega
  have hyk:=hy k hkm2;have hdl:((l.map encStr).drop (2*k)).length=l.length - 2*k:=by rw [aBV,hml]
  refine aG<|Sq<|aN<|Sq<|bR follows<|Cq (by exact aX rfl aU rfl (h2 k) rfl rfl rfl)<|Cq (by exact aX rfl cM rfl (h1 k) rfl rfl rfl)<|Cq aF<|Cq (by exact gA (l:=2*k) (h:=(l.map encStr).length) (rows':=(l.map encStr).drop (2*k)) rfl bZ rfl (eO l) rfl rfl (by omega) (aBM _) (by rw [List.take_length]))<|Cq (mH aO)<|Cq (by exact zE (r:=2) rfl rfl rfl (by rw [hdl];exact VH (by omega)))<|Cq aS<|dG<|Kr<|Sr<|Dd aF<|Dd (by exact aX rfl cM rfl (h1 k) rfl rfl rfl)<|Dd aF<|Dd aF<|Dd aF<|Dd (by exact cV rfl rfl rfl (show IntKind.i64.wrap (((2*k:Nat):Int)+2)=((2*k+2:Nat):Int)by rw [IntKind.wrap_i64];omega))<|Dd aF<|Dd aF<|Dd (by exact cV rfl rfl rfl (show IntKind.i64.wrap (((2*k:Nat):Int)+2)=((2*k+2:Nat):Int)by rw [IntKind.wrap_i64];omega)) ?_;refine Dd (by exact QB (l:=2*k) (h:=2*k+2) (rows':=(yC l k).map encStr) rfl bZ rfl (eO l) rfl rfl rfl (by omega) (by omega) (by intro h;rw [List.map_eq_nil_iff] at h;rw [h] at hlt;exact absurd hlt (Nat.not_lt_zero _)) (by rw [← OA,List.drop_take];congr 1;omega))<|Dd (by exact iE rfl rfl rfl (hyk))<|Dd yE<|Zz ?_;refine Cn ?_ ?_<;>intro hc2
  ·cases hc2
  refine aG<|Rg<|Dd aF<|Dd (by exact aX rfl aU rfl (h2 (k+1)) rfl rfl rfl)<|Dd (by exact cV rfl rfl rfl (show IntKind.i64.wrap (((2*k:Nat):Int)+2)=((2*(k+1):Nat):Int)by rw [IntKind.wrap_i64];omega))<|Da ?_;exact⟨k+1,hkm2,by omega,E0⟩
 have hge:l.length≤2*k:=by have:=aBD hc1;omega
 have hkk:k=m:=by omega
 refine bE ?_;rw [← hkk];exact iK (H':=Hs k) (.inl rfl) rfl Fin.refl ⟨rfl,rfl⟩
theorem Y9 (l:List ByteArray):∀ r∈l.map encStr,r.length=1:=fun r hr=>by
 obtain ⟨t,_,rfl⟩:=List.mem_map.1 hr;rfl
theorem S6 (l:List ByteArray) (H:aA) (hc:bM H) (h1:H.get 901=none) (hl:l.length < 1099511627776) :
  aL Tryz.prog 120 [.pv (aW l)] H (fun r H'=>r=.osl 901 1 0 l.length∧H'=(901,⟨1,1,9,jP l⟩)::H):=by
 have hml:(l.map encStr).length=l.length:=aBG _;refine Bd func120 rfl ntmps120<|Sr<|Dd aS<|Zz<|Sq<|Sr<|Dm ?_;refine jA rfl rfl (J4 rfl aO rfl) ?_;rintro _ H2 ⟨e2,b,rfl,hb⟩;rw [e2];clear e2 H2;refine Zz ?_;refine Cn ?_ ?_<;>intro hc1
 ·have h0:=hb hc1;have h00:l=[]:=List.map_eq_nil_iff.1 h0;subst h00;refine Sr<|Dd (by exact kD (id:=901) (sz:=1) (ty:=9) rfl h1 rfl)<|Zz<|aM ?_;refine bF (H':=((901,⟨1,1,9,[]⟩)::H)) (.inr rfl) rfl (aH rfl) ((Fin.bump (g:=0) (k:=1) rfl rfl (by decide) rfl rfl rfl).trans (Fin.get' (fun j=>iH _ _ _ _ j))) ?_;exact Qq
 refine aG<|Sr<|Dd (by exact fS (id:=901) rfl bZ rfl rfl rfl rfl (by simp) h1)<|Dd aF<|Dd (by exact eD rfl bZ I6 rfl rfl rfl rfl rfl rfl rfl (Y9 l) hml (by omega) (aBY _) (show []++(l.map encStr).map (·.map AV.pv)=jP l by rw [List.nil_append,List.map_map];rfl))<|Dd aS<|Zz<|aM ?_;refine bF (H':=((901,⟨1,1,9,jP l⟩)::H)) (.inr rfl) rfl (aH rfl) (Fin.get' (fun j=>iH _ _ _ _ j)) ?_;exact Qq
end Go.Proofs.YtmkgeogoojcciaaGreatDoor
namespace Go.Proofs.YtmkgeogoojcciaaGreatDoor
open Go.Proofs.Tryz
open Go.Abs Go.Lib
theorem HE:∀ (ps l:bU) (c:Nat),(gJ l c ps).1.length≤l.length+ps.length
 | [],l,c=>aBM _
 | (k,v,n)::r,l,c=>by
  have h1:=HE r (gZ l k v c) (nU l k c);have h2:=(A3 k v c l).2;show (gJ (gZ l k v c) (nU l k c) r).1.length≤_;rw [aBI];omega
theorem BL (P:List ByteArray):∀ l:bU,(jH l P).length≤l.length:=by
 induction P with
 | nil=>exact fun l=>aBM _
 | cons k r ih=>exact fun l=>Nat.le_trans (ih (tW l k)) (rF k l).length_le
theorem BX {l put ps:bU} {c:Nat} {D:List ByteArray} (hst:dW l c) (hnd:eY l) (hnp:eY put) (hp:ps.Perm put):dW (jH (gJ l c ps).1 D) (gJ l c ps).2∧eY (jH (gJ l c ps).1 D)∧(jH (gJ l c ps).1 D).length≤l.length+put.length∧∀ x,dD (jH (gJ l c ps).1 D) x=oU (dD l) put D x:=by
 have h1:=L2 ps l c hst hnd;have h2:=zM D _ _ h1.1 h1.2;have hnps:eY ps:=(hp.map Prod.fst).nodup_iff.2 hnp;refine⟨h2.1,h2.2,?_,fun x=>?_⟩
 ·have a1:=BL D (gJ l c ps).1;have a2:=HE ps l c;have a3:=hp.length_eq;omega
 rw [KW x D _ h1.2,RE x ps l c hnps,R4 hp x hnps,oU];by_cases hx:x∈D
 ·rw [aBF (iG.2 hx),aBF hx]
 rw [aBE (fun h=>hx (iG.1 h)),aBE hx]
abbrev rE (L:List ByteArray) (t:List UInt8) (u:Nat):bH:=[(0,.mp 1101 0),(1,sv (ofL t)),(5,.pv (aW L)),(7,iv (u:Int)),(9,.ref 9 0 0 0)]
abbrev rK (W:List ByteArray) (j:Nat) (K:aA):aA:=(932,YZ)::(931,YG W)::(9,UD 950)::(950,bK (nC W j).1 (nC W j).2)::K
theorem N9 {W:List ByteArray} {j:Nat} (h:2*j+1 < W.length):((yC W j).map encStr)[0]?=some (encStr (W.getD (2*j) sNil))∧((yC W j).map encStr)[1]?=some (encStr (W.getD (2*j+1) sNil)):=by have h0:W[2*j]?=some (W[2*j]'(by omega)):=aBL (by omega);have h1:W[2*j+1]?=some (W[2*j+1]'h):=aBL h;rw [aB0,aB0,yC,List.getElem?_take_of_lt (by omega),List.getElem?_take_of_lt (by omega),List.getElem?_drop,List.getElem?_drop,List.getD_eq_getElem?_getD,List.getD_eq_getElem?_getD,Nat.add_zero,h0,h1];exact Qq
theorem EL {H:aA} {id:Nat} {o:Ob} (h:H.get id=some o):Sub [(id,o)] H:=by
 intro j o2 ho;simp only [aA.get] at ho;cases e:Nat.beq id j with
 | true =>
  rw [e] at ho;cases ho;rw [← Nat.eq_of_beq_eq_true e];exact h
 | false=>rw [e] at ho;cases ho
theorem DO (id:Nat) (l:bU) (c:Nat):bM [(id,bK l c)]:=bM.of (fun p hp=>by
 rw [aBJ] at hp;subst hp;exact aQ _ _ _)
theorem LO (l:bU) (c:Nat) (P:List ByteArray) (hst:dW l c) (hl:l.length < 1099511627776) (hP:P.length < 1099511627776) (H:aA) (h:H.get 950=some (bK l c)):aL Tryz.prog 46 [.mp 950 0,.pv (aW P)] H (fun r H'=>r=iv (bO l P)∧H'=H) :=aL.frameS (UO l c P hst hl hP) (EL h) (DO _ _ _) (by simp;rfl)
theorem QM (l:bU) (c:Nat) (P:List ByteArray) (hst:dW l c) (hl:l.length < 1099511627776) (hP:P.length < 1099511627776) (hsz:(bD l P).length < 35184372088832) (H:aA) (h:H.get 950=some (bK l c)):aL Tryz.prog 50 [.mp 950 0,.pv (aW P)] H (fun r H'=>r=sv (ofL (bD l P))∧H'=H) :=aL.frameS (LP l c P hst hl hP hsz) (EL h) (DO _ _ _) (by simp;rfl)
theorem IQ (H:aA) (l:List ByteArray):∀ r∈(YG l).rows,∀ a∈r,Clo H a:=by intro r hr a ha;simp only [YG,bx,aBJ] at hr;subst hr;rw [aBJ] at ha;subst ha;exact .pv _
theorem IR (H:aA):∀ r∈YZ.rows,∀ a∈r,Clo H a:=by intro r hr a ha;simp only [YZ,bx,aBJ] at hr;subst hr;rw [aBJ] at ha;subst ha;exact .pv _
theorem QR (H:aA) (l:List ByteArray):∀ r∈jP l,∀ a∈r,Clo H a:=by intro r hr a ha;obtain ⟨s,_,rfl⟩:=List.mem_map.1 hr;obtain ⟨p,_,rfl⟩:=List.mem_map.1 ha;exact .pv _
theorem NZ (d:DSt) (k a n:Nat) (b:Bool) (l:bU) (c:Nat) (t:List UInt8) (hst:dW l c) (hnd:eY l) (ht:t.length < 1000000) :
  aL Tryz.prog 89 [.mp 1101 0,sv (ofL t)] (sH d (cI k a n b) (bK l c)) (fun r H'=>r=bv (lM t)∧∃ l' c',dW l' c'∧eY l'∧l'.length≤l.length+t.length∧(lM t=true→∀ x,dD l' x=oU (dD l) (fY t).1 (dQ t) x)∧H'=sH d (cI k a n b) (bK l' c')):=by
 have hspl:=fun H=>G4 t H (by omega);have hLl:=LY t;have hb1:tR t=(!(eQ t).2||decide ((B9 t).length=0)):=rfl;have hok:lM t=(!tR t&&(!lT t&&!tQ t)):=rfl;have bad:lM t=false→∃ l' c',dW l' c'∧eY l'∧l'.length≤l.length+t.length∧(lM t=true→∀ x,dD l' x=oU (dD l) (fY t).1 (dQ t) x)∧sH d (cI k a n b) (bK l c)=sH d (cI k a n b) (bK l' c'):=fun h=>⟨l,c,hst,hnd,Nat.le_add_right _ _,fun h2=>(by rw [h] at h2;cases h2),rfl⟩;obtain ⟨ok,hokv⟩:∃ ok,ok=(eQ t).2:=⟨_,rfl⟩;obtain ⟨L,hL⟩:∃ L,L=B9 t:=⟨_,rfl⟩;have hL2:(eQ t).1=L:=hL.symm;rw [← hokv,hL2] at hspl;rw [← hokv,← hL] at hb1;rw [← hL] at hLl;have hml:(L.map encStr).length=L.length:=aBG _;refine Bd func89 rfl ntmps89<|Sr<|Dd aS<|Zz<|Sr<|Dd aF<|Dd (by exact aB rfl rfl call87 rfl (hspl _))<|Dd aF<|Dd eP<|Dd eP<|Dd aS<|Dd aS<|Zz<|Sq<|Sq ?_;refine dL (t:=23) (n:=8) (X:=!ok||decide (((L.map encStr).length:Int)=0)) ?_ ?_
 ·all_goals refine Dd aF ?_
  all_goals refine Dd yE<|Dm ?_
  all_goals refine Sp 19 (fun h19=>?_) fun h19=>?_
  all_goals try contradiction
  all_goals first|refine Fo<|Fo<|Fo ?_|refine On aF<|On (mH aO)<|On iY ?_
  all_goals refine Dd iM<|Zz ?_
  all_goals(exact⟨⟨_,rfl,by(rw [h19];rfl)⟩,rfl,rfl,rfl⟩)
 refine Cn ?_ ?_<;>intro hc1
 ·have hq:=hc1;have hf:lM t=false:=by
   rw [hok,hb1];have h2:(!ok||decide (L.length=0))=true:=by
    rw [hml] at hq
    rwa [show decide ((L.length:Int)=0)=decide (L.length=0)from decide_eq_decide.2 (by omega)] at hq
   rw [h2];rfl
  refine Sr<|Dd aS<|Zz<|aM ?_;refine bF (H':=(sH d (cI k a n b) (bK l c))) (.inr rfl) rfl (aH rfl) (Fin.wk (by(simp;done)) (Hc (aE _ _ rfl rfl rfl)<|Hc (aC _ _)<|Hc (aK _ _ _)<|Hc (aJ _ _)<|Hc (bI rfl rfl)<|Hc (aQ _ _ _)<|trivial) ⟨rfl,rfl,rfl,rfl,rfl,rfl,trivial⟩) ?_;exact⟨by rw [hf],bad hf⟩
 have hq:=hc1;rw [aB2,Bool.not_eq_false',aBO] at hq;have hl0:0 < L.length:=by omega
 have hb1f:tR t=false:=by rw [hb1,hq.1,decide_eq_false (by omega)];rfl
 obtain ⟨x,hx⟩:=aZ hl0;have hix:=dI (f:=encStr) hx;have hgD:L.getD 0 sNil=x:=by rw [List.getD_eq_getElem?_getD,hx];rfl
 have hxs:x.size < 1099511627776:=by have:=ET (t:=t) (x:=x) (by rw [← hL];exact aBQ hx);omega
 have hat:=fun H=>zP x hxs H;have hb2:lT t=(((iJ x||decide (dP x < 0))||decide (((L.length / 2:Nat):Int) < dP x))||decide ((L.length:Int) < 2*dP x+2)):=by rw [lT,WW,← hL,hgD]
 have hN:LX t=(dP x).toNat:=by rw [LX,WW,← hL,hgD]
 obtain ⟨v,hv⟩:∃ v,v=dP x:=⟨_,rfl⟩;obtain ⟨e,he⟩:∃ e,e=iJ x:=⟨_,rfl⟩;simp only [← hv,← he] at hat hb2 hN;clear hv he;have hquo:IntKind.i64.wrap (((L.map encStr).length:Int).tdiv 2)=((L.length / 2:Nat):Int):=by
  rw [hml,Int.tdiv_eq_ediv_of_nonneg (by omega),jS (by omega) (by omega)];omega
 refine aG<|Sr<|Dd aF<|Dd (by exact bN rfl bZ rfl rfl (by omega) (by exact aBR _) hix rfl)<|Dd (nT aV)<|Dd (by exact aB rfl rfl UI rfl (hat _))<|Dd aF<|Dd eP<|Dd eP<|Dd aS<|Dd aS<|Zz<|Sq<|Sq ?_;refine dL (t:=51) (n:=24) (X:=((e||decide (v < 0))||decide (((L.length / 2:Nat):Int) < v))||decide (((L.map encStr).length:Int) < 2*v+2)) ?_ ?_
 ·all_goals refine Dd aF ?_
  all_goals refine Dd (by exact vF rfl jJ rfl)<|Dm ?_
  all_goals refine Sp 33 (fun h33=>?_) fun h33=>?_
  all_goals(try(with_reducible contradiction))
  all_goals first|refine Fo<|Fo ?_|refine On aF<|On dZ ?_
  all_goals refine Dd iM<|Dm ?_
  all_goals refine Sp 37 (fun h37=>?_) fun h37=>?_
  all_goals(try(with_reducible contradiction))
  all_goals first|refine Fo<|Fo<|Fo<|Fo<|Fo ?_|refine On aF<|On aF<|On (mH aO)<|On (by exact pD rfl rfl rfl (by decide) hquo)<|On DU ?_
  all_goals refine Dd iM<|Dm ?_
  all_goals refine Sp 44 (fun h44=>?_) fun h44=>?_
  all_goals(try(with_reducible contradiction))
  all_goals first|refine Fo<|Fo<|Fo<|Fo<|Fo<|Fo ?_|refine On aF<|On (mH aO)<|On aF<|On (by exact jB rfl rfl rfl (by have q1:=aBD h37;have q2:=aBD h44;exact jS (by omega) (by omega)))<|On (by exact cV rfl rfl rfl (by have q1:=aBD h37;have q2:=aBD h44;exact jS (by omega) (by omega)))<|On dZ ?_
  all_goals refine Dd iM<|Zz ?_
  all_goals(exact⟨⟨_,rfl,by first|(rw [h33];rfl)|(rw [h33,h37];rfl)|(rw [h33,h37,h44];rfl)⟩,rfl,rfl,rfl⟩)
 refine Cn ?_ ?_<;>intro hc2
 ·have hq2:=hc2;rw [hml] at hq2;have hf:lM t=false:=by rw [hok,hb2,hq2,hb1f];rfl
  refine Sr<|Dd aS<|Zz<|aM ?_;refine bF (H':=(sH d (cI k a n b) (bK l c))) (.inr rfl) rfl (aH rfl) (Fin.wk (by(simp;done)) (Hc (aE _ _ rfl rfl rfl)<|Hc (aC _ _)<|Hc (aK _ _ _)<|Hc (aJ _ _)<|Hc (bI rfl rfl)<|Hc (aQ _ _ _)<|trivial) ⟨rfl,rfl,rfl,rfl,rfl,rfl,trivial⟩) ?_;exact⟨by rw [hf],bad hf⟩
 have hq2:=hc2;rw [hml] at hq2;have hb2f:lT t=false:=hb2.trans hq2;rw [aB2,aB2,aB2,aBO,aBO,aBO] at hq2;obtain ⟨u,rfl⟩:∃ u:Nat,v=(u:Int):=⟨v.toNat,by omega⟩;rw [aBR] at hN;obtain ⟨W,hW⟩:∃ W,W=(L.drop 1).take (2*u):=⟨_,rfl⟩;have hWl:W.length=2*u:=by rw [hW,aBU,aBV];omega
 have hWe:((L.map encStr).take (2*u+1)).drop 1=W.map encStr:=by
  rw [hW,List.map_take,List.map_drop,List.drop_take];rfl
 have hput:fY t=nC W u:=by
  rw [fY,← hL,hN,hW]
  conv=>lhs;rw [← List.take_append_drop (2*u) (L.drop 1)]
  exact FF _ _ u (by rw [aBU,aBV];omega)
 have hdrop:dQ t=L.drop (2*u+2):=by rw [dQ,← hL,hN]
 have hsm:=Q8 ht hb2f;have hb3:tQ t=((((decide ((fY t).1.length+(dQ t).length=0)||!decide (bO (fY t).1 (dQ t)=0))||!decide (bD (fY t).1 (dQ t)=aR [ofL t]))||!fG (dQ t))||decide ((cG (dQ t)).length < (dQ t).length)):=rfl;rw [hput] at hsm hb3 bad ⊢;have hpok:=rD W u;obtain ⟨D,hD⟩:∃ D,D=dQ t:=⟨_,rfl⟩;rw [← hD] at hsm hb3 hdrop bad ⊢;have hDe:((L.map encStr).take (L.map encStr).length).drop (2*u+2)=D.map encStr:=by
  rw [List.take_length,hdrop,List.map_drop]
 clear hix hx hb1 hb2 hspl;refine aG<|Sr<|Dd (by exact jN (id:=950) fA rfl rfl)<|Dd (by exact cR (id:=9) rfl aAI rfl rfl)<|Uu (sS sizeOf33)<|Zz<|Sq<|Sr<|Dd aF<|Dd aF<|Dd (by exact jB rfl rfl rfl (jS (by omega) (by omega)))<|Dd (by exact cV rfl rfl rfl (show IntKind.i64.wrap (2*(u:Int)+1)=((2*u+1:Nat):Int)by rw [jS (by omega) (by omega)];omega))<|Dd (by exact gA (l:=1) (h:=2*u+1) (rows':=W.map encStr) rfl bZ rfl (eO L) rfl rfl (by omega) (by omega) hWe)<|Dd (by exact aB rfl rfl call118 rfl (S7 W _ rfl rfl))<|Zz<|aN ?_;refine gM.ent (E':=(58,.clo 145 [.ref 931 0 0 0,.ref 932 0 0 0])::rE L t u) (H':=rK W 0 (sH d (cI k a n b) (bK l c))) (cA.wk (Ec (by(simp;exact⟨rfl,rfl⟩))<|Ea<|Eb<|Eb<|Eb<|Ea<|trivial) (Hc (IR _)<|Hc (IQ _ _)<|Ha<|Hc (aQ _ _ _)<|Hc (aE _ _ rfl rfl rfl)<|Hc (aC _ _)<|Hc (aK _ _ _)<|Hc (aJ _ _)<|Hc (bI rfl rfl)<|Hc (aQ _ _ _)<|trivial) ⟨rfl,rfl,rfl,rfl,rfl,rfl,trivial⟩) ?_;refine xQ (id:=944) (p:=59) (rE L t u) rfl call145 rfl rfl (by simp [rE];exact⟨rfl,rfl,rfl,rfl,rfl⟩) ?_;intro x hx1 hx2 hx3 hx4 hx5 hx6;refine(O6 W (.yld 944 0) (fun j=>(944,LR x (rE L t u))::rK W j (sH d (cI k a n b) (bK l c))) u hWl (by omega) (fun j=>rfl) (fun j=>rfl) ?_).mono ?_
 ·intro j hj;obtain ⟨p0,p1⟩:=N9 (W:=W) (j:=j) (by omega);refine .inl ⟨944,0,rfl,?_⟩;refine EH ((10,.pv (aW (yC W j)))::rE L t u) (rK W j (sH d (cI k a n b) (bK l c))) hx1 hx2 hx3 hx4 hx5 hx6 rfl rfl rfl ?_ ?_
  ·refine Rg<|Da ?_;exact E0
  refine aN<|bR follows<|Cs (fun _ h=>lh bW h)<|Cs (fun _ _=>aF)<|Cs (fun H1 hH=>by exact bN rfl bZ rfl rfl (by omega) (by exact aBR _) p0 rfl)<|Cs (fun _ _=>(nT aV))<|Cs (fun _ _=>aF)<|Cs (fun H1 hH=>by exact bN rfl bZ rfl rfl (by omega) (by exact aBR _) p1 rfl)<|Cs (fun _ _=>(nT aV)) ?_;refine cB (r:=⟨_,none,[_]⟩) (DStep.plain rfl (fun H1 hH=>by exact hU (κ:=fA) (l:=bS (nC W j).1) (.inl rfl) aT aI rfl ((hH _ rfl).trans rfl) rfl rfl rfl rfl rfl (nM _ _ _ _) (pK _ _ _))) rfl ?_;refine dG<|Kr ?_;exact⟨rK W (j+1) (sH d (cI k a n b) (bK l c)),(cA.wk trivial (Hc (T8 (by simp [rE];repeat(first|rfl|refine⟨rfl,?_⟩)))<|Hc (IR _)<|Hc (IQ _ _)<|Ha<|Hc (aQ _ _ _)<|Hc (aE _ _ rfl rfl rfl)<|Hc (aC _ _)<|Hc (aK _ _ _)<|Hc (aJ _ _)<|Hc (bI rfl rfl)<|Hc (aQ _ _ _)<|trivial) ⟨rfl,rfl,rfl,rfl,rfl,rfl,rfl,rfl,rfl,rfl,rfl,trivial⟩),rfl,rfl⟩
 rintro r H' ⟨rfl,rfl⟩;refine⟨x,_,rfl,by rw [hx1];decide,rfl,fun z=>?_⟩;rw [hx2];obtain ⟨put,cp,hpc⟩:∃ put cp,nC W u=(put,cp):=⟨_,_,rfl⟩;simp only [hpc] at hpok hb3 hsm bad ⊢;refine gM.ent (E':=rE L t u) (H':=(9,UD 950)::(950,bK put cp)::sH d (cI k a n b) (bK l c)) ?_ ?_
 ·simp only [rK,hpc];exact(cA.wk (Ea<|Eb<|Eb<|Eb<|Ea<|trivial) (Ha<|Hc (aQ _ _ _)<|Hc (aE _ _ rfl rfl rfl)<|Hc (aC _ _)<|Hc (aK _ _ _)<|Hc (aJ _ _)<|Hc (bI rfl rfl)<|Hc (aQ _ _ _)<|trivial) ⟨rfl,rfl,rfl,rfl,rfl,rfl,trivial⟩)
 have hmp:(bS put).length=put.length:=aBG _;have hmd:(D.map encStr).length=D.length:=aBG _;have hwr:=fun H hH=>LO put cp D hpok.1 (by omega) (by omega) H hH;have htx:=fun H hH=>QM put cp D hpok.1 (by omega) (by omega) hsm.1 H hH;have hso:=fun H=>HW D H (by omega);have hb3:tQ t=((((decide (((bS put).length:Int)+((D.map encStr).length:Int)=0)||!decide (bO put D=0))||!decide (ofL (bD put D)=ofL (aR [ofL t])))||!fG D)||decide (((cG D).length:Int) < ((D.map encStr).length:Int))):=by
  rw [hb3,show decide (((bS put).length:Int)+((D.map encStr).length:Int)=0)=decide (put.length+D.length=0)from decide_eq_decide.2 (by omega),show decide (((cG D).length:Int) < ((D.map encStr).length:Int))=decide ((cG D).length < D.length)from decide_eq_decide.2 (by omega),show decide (ofL (bD put D)=ofL (aR [ofL t]))=decide (bD put D=aR [ofL t])from decide_eq_decide.2 ⟨fun h=>by rw [← bC (bD put D),h,bC],fun h=>by rw [h]⟩]
 rw [hb1f,hb2f,hb3] at hok;have hjs:(aR [ofL t]).length < 35184372088832:=by
  have hd:=eA (k:=18) (u:=t.length) (by omega) (by decide);rw [eB,aBH,aBI,aBH,bC,bY];have h0:(aR []).length=0:=rfl;omega
 have hdropL:D.length≤L.length:=by rw [hdrop,aBV];omega
 cases g78:decide (((bS put).length:Int)+((D.map encStr).length:Int)=0)with
 | true =>
  refine Sr<|Dd aF<|Dd aF<|Dd (by exact jB rfl rfl rfl (jS (by omega) (by omega)))<|Dd (by exact cV rfl rfl rfl (show IntKind.i64.wrap (2*(u:Int)+2)=((2*u+2:Nat):Int)by rw [jS (by omega) (by omega)];omega))<|Dd (by exact gA (l:=2*u+2) (h:=(L.map encStr).length) (rows':=D.map encStr) rfl bZ rfl (eO L) rfl rfl (by omega) (aBM _) hDe)<|Dd aS<|Zz<|Sq<|Sr<|Dd (eG bW)<|Dd (by exact yH (κ:=fA) (l:=bS put) rfl aT rfl rfl rfl rfl)<|Dd aF<|Dd (mH aO)<|Dd (by exact cV rfl rfl rfl (jS (by omega) (by omega)))<|Dd iY<|Dd aF<|Fa<|Fa<|Fa<|Fa<|Dd U2<|Dd aF<|Fo<|Fo<|Fo<|Fo<|Fo<|Fo<|Fo<|Dd iM<|Dd aF<|Fo<|Fo<|Fo<|Dd iM<|Dd aF<|Fo<|Fo<|Fo<|Fo<|Fo<|Fo<|Fo<|Dd iM<|Zz ?_;refine Cn ?_ ?_<;>intro hc3
  ·have hf:lM t=false:=by rw [hok,g78];simp
   refine Sr<|Dd aS<|Zz<|aM ?_;refine bF (H':=(sH d (cI k a n b) (bK l c))) (.inr rfl) rfl (aH rfl) (Fin.wk (by(simp;done)) (Hc (aE _ _ rfl rfl rfl)<|Hc (aC _ _)<|Hc (aK _ _ _)<|Hc (aJ _ _)<|Hc (bI rfl rfl)<|Hc (aQ _ _ _)<|trivial) ⟨rfl,rfl,rfl,rfl,rfl,rfl,trivial⟩) ?_;exact⟨by rw [hf],bad hf⟩
  ((cases hc3;done))
 | false =>
  cases g84:(!decide (bO put D=0))with
  | true =>
   refine Sr<|Dd aF<|Dd aF<|Dd (by exact jB rfl rfl rfl (jS (by omega) (by omega)))<|Dd (by exact cV rfl rfl rfl (show IntKind.i64.wrap (2*(u:Int)+2)=((2*u+2:Nat):Int)by rw [jS (by omega) (by omega)];omega))<|Dd (by exact gA (l:=2*u+2) (h:=(L.map encStr).length) (rows':=D.map encStr) rfl bZ rfl (eO L) rfl rfl (by omega) (aBM _) hDe)<|Dd aS<|Zz<|Sq<|Sr<|Dd (eG bW)<|Dd (by exact yH (κ:=fA) (l:=bS put) rfl aT rfl rfl rfl rfl)<|Dd aF<|Dd (mH aO)<|Dd (by exact cV rfl rfl rfl (jS (by omega) (by omega)))<|Dd iY<|Dd aF<|Oa (eG bW)<|Oa aF<|Oa (by exact aB rfl rfl wL rfl (hwr _ rfl))<|Oa uT<|Dd L4<|Dd aF<|Fa<|Fa<|Fa<|Fa<|Fa<|Fa<|Fa<|Dd U2<|Dd aF<|Fo<|Fo<|Fo<|Dd iM<|Dd aF<|Fo<|Fo<|Fo<|Fo<|Fo<|Fo<|Fo<|Dd iM<|Zz ?_;refine Cn ?_ ?_<;>intro hc4
   ·have hf:lM t=false:=by rw [hok,g78,g84];simp
    refine Sr<|Dd aS<|Zz<|aM ?_;refine bF (H':=(sH d (cI k a n b) (bK l c))) (.inr rfl) rfl (aH rfl) (Fin.wk (by(simp;done)) (Hc (aE _ _ rfl rfl rfl)<|Hc (aC _ _)<|Hc (aK _ _ _)<|Hc (aJ _ _)<|Hc (bI rfl rfl)<|Hc (aQ _ _ _)<|trivial) ⟨rfl,rfl,rfl,rfl,rfl,rfl,trivial⟩) ?_;exact⟨by rw [hf],bad hf⟩
   ((cases hc4;done))
  | false =>
   cases g93:(!decide (ofL (bD put D)=ofL (aR [ofL t])))with
   | true =>
    refine Sr<|Dd aF<|Dd aF<|Dd (by exact jB rfl rfl rfl (jS (by omega) (by omega)))<|Dd (by exact cV rfl rfl rfl (show IntKind.i64.wrap (2*(u:Int)+2)=((2*u+2:Nat):Int)by rw [jS (by omega) (by omega)];omega))<|Dd (by exact gA (l:=2*u+2) (h:=(L.map encStr).length) (rows':=D.map encStr) rfl bZ rfl (eO L) rfl rfl (by omega) (aBM _) hDe)<|Dd aS<|Zz<|Sq<|Sr<|Dd (eG bW)<|Dd (by exact yH (κ:=fA) (l:=bS put) rfl aT rfl rfl rfl rfl)<|Dd aF<|Dd (mH aO)<|Dd (by exact cV rfl rfl rfl (jS (by omega) (by omega)))<|Dd iY<|Dd aF<|Oa (eG bW)<|Oa aF<|Oa (by exact aB rfl rfl wL rfl (hwr _ rfl))<|Oa uT<|Dd L4<|Dd aF<|Oa (eG bW)<|Oa aF<|Oa (by exact aB rfl rfl wK rfl (htx _ rfl))<|Oa aF<|Oa (by exact bL [[.str (ofL t)]] rfl bZ rfl rfl rfl rfl rfl (by simp)) ?_;refine Oa (by exact aB rfl rfl qG rfl (mI [ofL t] _ hjs))<|Oa QX<|Dd L4<|Dd aF<|Fa<|Fa<|Fa<|Dd U2<|Dd aF<|Fo<|Fo<|Fo<|Fo<|Fo<|Fo<|Fo<|Dd iM<|Zz ?_;refine Cn ?_ ?_<;>intro hc5
    ·have hf:lM t=false:=by rw [hok,g78,g84,g93];simp
     refine Sr<|Dd aS<|Zz<|aM ?_;refine bF (H':=(sH d (cI k a n b) (bK l c))) (.inr rfl) rfl (aH rfl) (Fin.wk (by(simp;done)) (Hc (aE _ _ rfl rfl rfl)<|Hc (aC _ _)<|Hc (aK _ _ _)<|Hc (aJ _ _)<|Hc (bI rfl rfl)<|Hc (aQ _ _ _)<|trivial) ⟨rfl,rfl,rfl,rfl,rfl,rfl,trivial⟩) ?_;exact⟨by rw [hf],bad hf⟩
    ((cases hc5;done))
   | false =>
    cases g98:(!fG D)with
    | true =>
     refine Sr<|Dd aF<|Dd aF<|Dd (by exact jB rfl rfl rfl (jS (by omega) (by omega)))<|Dd (by exact cV rfl rfl rfl (show IntKind.i64.wrap (2*(u:Int)+2)=((2*u+2:Nat):Int)by rw [jS (by omega) (by omega)];omega))<|Dd (by exact gA (l:=2*u+2) (h:=(L.map encStr).length) (rows':=D.map encStr) rfl bZ rfl (eO L) rfl rfl (by omega) (aBM _) hDe)<|Dd aS<|Zz<|Sq<|Sr<|Dd (eG bW)<|Dd (by exact yH (κ:=fA) (l:=bS put) rfl aT rfl rfl rfl rfl)<|Dd aF<|Dd (mH aO)<|Dd (by exact cV rfl rfl rfl (jS (by omega) (by omega)))<|Dd iY<|Dd aF<|Oa (eG bW)<|Oa aF<|Oa (by exact aB rfl rfl wL rfl (hwr _ rfl))<|Oa uT<|Dd L4<|Dd aF<|Oa (eG bW)<|Oa aF<|Oa (by exact aB rfl rfl wK rfl (htx _ rfl))<|Oa aF<|Oa (by exact bL [[.str (ofL t)]] rfl bZ rfl rfl rfl rfl rfl (by simp)) ?_;refine Oa (by exact aB rfl rfl qG rfl (mI [ofL t] _ hjs))<|Oa QX<|Dd L4<|Dd aF<|Oa aF<|Oa (by exact aB rfl rfl call119 rfl (hso _))<|Oa yE<|Dd L4<|Dd aF<|Fa<|Fa<|Fa<|Fa<|Fa<|Fa<|Fa<|Dd U2<|Zz ?_;refine Cn ?_ ?_<;>intro hc6
     ·have hf:lM t=false:=by rw [hok,g78,g84,g93,g98];simp
      refine Sr<|Dd aS<|Zz<|aM ?_;refine bF (H':=(sH d (cI k a n b) (bK l c))) (.inr rfl) rfl (aH rfl) (Fin.wk (by(simp;done)) (Hc (aE _ _ rfl rfl rfl)<|Hc (aC _ _)<|Hc (aK _ _ _)<|Hc (aJ _ _)<|Hc (bI rfl rfl)<|Hc (aQ _ _ _)<|trivial) ⟨rfl,rfl,rfl,rfl,rfl,rfl,trivial⟩) ?_;exact⟨by rw [hf],bad hf⟩
     ((cases hc6;done))
    | false =>
     refine Sr<|Dd aF<|Dd aF<|Dd (by exact jB rfl rfl rfl (jS (by omega) (by omega)))<|Dd (by exact cV rfl rfl rfl (show IntKind.i64.wrap (2*(u:Int)+2)=((2*u+2:Nat):Int)by rw [jS (by omega) (by omega)];omega))<|Dd (by exact gA (l:=2*u+2) (h:=(L.map encStr).length) (rows':=D.map encStr) rfl bZ rfl (eO L) rfl rfl (by omega) (aBM _) hDe)<|Dd aS<|Zz<|Sq<|Sr<|Dd (eG bW)<|Dd (by exact yH (κ:=fA) (l:=bS put) rfl aT rfl rfl rfl rfl)<|Dd aF<|Dd (mH aO)<|Dd (by exact cV rfl rfl rfl (jS (by omega) (by omega)))<|Dd iY<|Dd aF<|Oa (eG bW)<|Oa aF<|Oa (by exact aB rfl rfl wL rfl (hwr _ rfl))<|Oa uT<|Dd L4<|Dd aF<|Oa (eG bW)<|Oa aF<|Oa (by exact aB rfl rfl wK rfl (htx _ rfl))<|Oa aF<|Oa (by exact bL [[.str (ofL t)]] rfl bZ rfl rfl rfl rfl rfl (by simp)) ?_;refine Oa (by exact aB rfl rfl qG rfl (mI [ofL t] _ hjs))<|Oa QX<|Dd L4<|Dd aF<|Oa aF<|Oa (by exact aB rfl rfl call119 rfl (hso _))<|Oa yE<|Dd L4<|Dd aF<|Oa aF<|Oa (by exact aB rfl rfl call120 rfl (S6 D _ (bM.ofL ⟨(by(simp;rfl)),(by exact aQ _ _ _),(by exact aE _ _ rfl rfl rfl),(by exact aC _ _),(by exact aK _ _ _),(by exact aJ _ _),(by exact bI rfl rfl),(by exact aQ _ _ _),trivial⟩) rfl (by omega)))<|Oa (by exact aB rfl rfl aAm rfl (D9 D 1 _ rfl (by omega)))<|Oa (by exact dO rfl aO rfl rfl rfl)<|Oa aF<|Oa (mH aO)<|Oa dZ<|Dd L4<|Zz ?_;refine Cn ?_ ?_<;>intro hc7
     ·have g106:=hc7;have hf:lM t=false:=by rw [hok,g78,g84,g93,g98,g106];rfl
      refine Sr<|Dd aS<|Zz<|aM ?_;refine bF (H':=(sH d (cI k a n b) (bK l c))) (.inr rfl) rfl (aH rfl) (Fin.wk (by(simp;done)) (Hc (aE _ _ rfl rfl rfl)<|Hc (aC _ _)<|Hc (aK _ _ _)<|Hc (aJ _ _)<|Hc (bI rfl rfl)<|Hc (aQ _ _ _)<|trivial) ⟨rfl,rfl,rfl,rfl,rfl,rfl,trivial⟩) ?_;exact⟨by rw [hf],bad hf⟩
     have g106:=hc7;have hf:lM t=true:=by rw [hok,g78,g84,g93,g98,g106];rfl
     rw [hf];refine aG<|Sr<|Dd aF<|Dd (eG bW)<|Dm ?_;refine jA rfl rfl (aB rfl rfl aAj rfl (TR l put c cp D _ (by omega) (by omega) hpok.1 rfl rfl rfl (bM.ofL ⟨(by exact aK _ _ _),(by(simp;done)),(by(simp;rfl)),(by exact aQ _ _ _),(by exact aE _ _ rfl rfl rfl),(by exact aC _ _),(by exact aK _ _ _),(by exact aJ _ _),(by exact bI rfl rfl),(by exact aQ _ _ _),trivial⟩))) ?_;rintro r H' ⟨rfl,ps,hps,rfl⟩;obtain ⟨q1,q2,q3,q4⟩:=BX (D:=D) hst hnd hpok.2 hps;refine Zz<|Sr<|Dd aS<|Zz<|aM ?_;refine bF (H':=(sH d (cI k a n b) (bK (jH (gJ l c ps).1 D) (gJ l c ps).2))) (.inr rfl) rfl (aH rfl) (Fin.wk (by(simp;done)) (Hc (aE _ _ rfl rfl rfl)<|Hc (aC _ _)<|Hc (aK _ _ _)<|Hc (aJ _ _)<|Hc (bI rfl rfl)<|Hc (aQ _ _ _)<|trivial) ⟨rfl,rfl,rfl,rfl,rfl,rfl,trivial⟩) ?_;exact⟨rfl,_,_,q1,q2,by omega,fun _=>q4,rfl⟩
def X1:Ob:=⟨0,0,0,eM (.pv .nilm) 0 0 []⟩
theorem VS {H:aA}:∀ r∈X1.rows,∀ x∈r,Clo H x:=by intro r hr x hx;simp only [X1,eM,List.map_nil,aBJ] at hr;subst hr;simp only [aBS,aBW,or_false] at hx;rcases hx with rfl|rfl|rfl<;>exact .pv _
abbrev nBx:Ob:=bx 1 33 [.pv .nilm]
theorem QD (P:List ByteArray) (hP:P.length < 1099511627776) (H:aA) :
  aL Tryz.prog 46 [.pv .nilm,.pv (aW P)] H (fun r H'=>r=iv (bO [] P)∧H'=H):=by
 refine Pu ?_;have hcf:=fun H (h5:H.get 5=some YW)=>D8 (.clo 94 [.ref 5 0 0 0]) P (fun s=>!fC s) H (by omega) (fun s=>fD.clo call94 (GP s H h5));have hV:bO [] P=if P.any (fun s=>!fC s)=true then 1 else 0:=by
  rw [bO];show (if(false||P.any fun s=>!fC s)=true then(1:Int)else if false=true then 2 else 0)=_;rw [Bool.false_or];rfl
 rw [hV];obtain ⟨ns,hns⟩:∃ b,b=P.any (fun s=>!fC s):=⟨_,rfl⟩;rw [← hns] at hcf ⊢;refine Bd func46 rfl ntmps46<|Sr<|Dd aS<|Zz<|Sr<|Dd (by exact cR (id:=5) rfl Y5 rfl rfl)<|Uu (sS sizeOf53)<|Zz<|Sr<|Dd aS<|Zz<|Sq<|Sr<|Dd aF<|Dd (by exact FE (q:=946) rfl aT rfl rfl)<|Zz<|aN ?_;refine bJ (σ:=Unit) (fun _=>([(0,.pv .nilm),(1,.pv (aW P)),(5,.ref 5 0 0 0),(6,bv false),(10,.it 946 0)],[(946,X1),(5,YW)])) (fun _=>True) (fun _=>0) () trivial ?_ ?_
 ·exact(cA.wk (Eb<|Eb<|Ea<|Eb<|Ea<|trivial) (Hc VS<|Hb<|trivial) trivial)
 rintro _ -;refine Sq<|Rg ?_;refine jA rfl rfl (KI rfl rfl rfl rfl rfl) ?_;rintro _ _ (⟨rfl,rfl,hn0⟩|⟨hni,hnp,hn1,hn2,rfl,rfl⟩)
 ·refine Dd eP<|Zz<|Sq ?_;refine Cn ?_ ?_<;>intro hc1
  ·cases hc1
  refine bE<|Sq<|aN<|Sr<|Dd aF<|Dd (by exact fK rfl rfl)<|Dd (by exact aB rfl rfl call93 rfl (hcf _ rfl))<|Da ?_;refine Cn ?_ ?_<;>intro hc2
  ·have hn:ns=true:=hc2;rw [aBF hn];exact Sr<|Dd aS<|Zz<|aM<|Rt<|Qq
  have hn:¬ ns=true:=by rw [show ns=false from hc2];decide
  rw [aBE hn];refine Sr<|Dd aF<|Da ?_;refine Cn ?_ ?_<;>intro hc3
  ·cases hc3
  exact aG<|Sr<|Dd aS<|Zz<|aM<|Rt<|Qq
 exact hn1.elim
theorem VO (H:aA) (h1:H.get 951=none) :
  aL Tryz.prog 55 [.pv .nilm] H (fun r H'=>r=.clo 105 [.ref 951 0 0 0]∧H'=(951,nBx)::H):=by
 refine Bd func55 rfl ntmps55<|Sr<|Dd (by exact gO (id:=951) rfl rfl rfl rfl h1)<|Dd aS<|Zz<|Sr<|Dd (by exact fK rfl rfl)<|Dd aS<|Zz<|aM ?_;refine bF (H':=((951,nBx)::H)) (.inr rfl) rfl (aH rfl) Fin.refl ?_;exact Qq
theorem R5 (K:aA) (h1:K.get 951=some nBx):B0 105 [.ref 951 0 0 0] (fun M=>M.Perm []) K:=by
 intro yv Hs hK h6 hcl hf hy0 hy1;have g1:∀ M,(Hs M).get 951=some nBx:=fun M=>hK M _ _ h1;refine Bd func105 rfl ntmps105<|Sr<|Dd (by exact aX rfl bW rfl (g1 []) rfl rfl rfl)<|Dd (by exact FE (q:=946) rfl aT rfl (h6 []))<|Zz<|aN ?_;refine bJ (σ:=Unit) (fun _=>([(0,yv),(5,.it 946 0)],(946,X1)::Hs [])) (fun _=>True) (fun _=>0) () trivial ?_ ?_
 ·exact E0
 rintro _ -;refine Sq<|Rg ?_;refine jA rfl rfl (KI rfl rfl (get_cons_same _ _ _) rfl rfl) ?_;rintro _ _ (⟨rfl,rfl,hn0⟩|⟨hni,hnp,hn1,hn2,rfl,rfl⟩)
 ·refine Dd eP<|Zz<|Sq ?_;refine Cn ?_ ?_<;>intro hc1
  ·cases hc1
  refine bE ?_;exact iK (H':=Hs []) (.inl rfl) rfl (Fin.pops' [(946,X1)] (by simp) (hcl _) (by simp [h6]) (by simp [h6])) ⟨rfl,[],List.Perm.refl _,rfl⟩
 exact hn1.elim
abbrev tN (g:Nat) (W:List ByteArray):aA:=[(951,nBx),(920,⟨g,1,9,dE W⟩)]
theorem XC (g:Nat) (W:List ByteArray):bM (tN g W):=bM.of (fun p hp=>by
 simp only [aBS,aBW,or_false] at hp;rcases hp with rfl|rfl
 ·intro r hr x hx;simp only [bx,aBJ] at hr;subst hr;rw [aBJ] at hx;subst hx;exact .pv _
 exact fT _ _)
theorem US (P:List ByteArray) (hP:P.length < 1099511627776) (hsz:(bD [] P).length < 35184372088832) (H:aA) :
  aL Tryz.prog 50 [.pv .nilm,.pv (aW P)] H (fun r H'=>r=sv (ofL (bD [] P))∧H'=H):=by
 refine Pu ?_;have hso:=EO (L:=([]:List ByteArray)) (by decide) aA3 (tN 0 [dS 0]) (R5 _ rfl) rfl rfl rfl rfl (XC _ _) (by simp;rfl);have hS:cF []=[]:=List.length_eq_zero_iff.1 (iA []);have hin:=qO hsz;have hpl:(P.map encStr).length=P.length:=aBG _;have hW:cP [] P=[dS 0,dS ((P.map encStr).length:Int)]++P:=by
  rw [cP,hS];rfl
 change aL _ _ _ _ fun r H'=>r=.pv (aW (cF []))∧H'=_ at hso;rw [hS] at hso;refine Bd func50 rfl ntmps50<|Sr<|Dd aS<|Zz<|Sr<|Dd aF<|Dd (by exact W2 rfl aT rfl)<|Dd (by exact aB rfl rfl qH rfl (pJ 0 (by omega) (by omega) _))<|Dd (by exact fS (id:=920) rfl bZ rfl rfl rfl rfl (show ∀ r∈dE [dS 0],r.length=1 from by intro r hr;rw [aBJ.1 hr];rfl) rfl)<|Dd aS<|Zz<|Sq<|Sr<|Dd aF<|Dd (by exact aB rfl rfl aAi rfl (VO _ rfl))<|Dd (by exact aB rfl rfl GG rfl (hso))<|Dd (mH aO)<|Dd aF<|Zz<|aN ?_;refine bJ (σ:=Unit) (fun _=>([(0,.pv .nilm),(1,.pv (aW P)),(5,.osl 920 0 0 1),(14,.pv (aW [])),(15,iv 0),(16,iv 0)],tN 0 [dS 0])) (fun _=>True) (fun _=>0) () trivial ?_ ?_
 ·exact E0
 rintro _ -;refine Sr<|Dd dZ<|Zz<|Sq ?_;refine Cn ?_ ?_<;>intro hc1
 ·(have:=aBC hc1;omega)
 refine bE<|Sr<|Dd aF<|Dd aF<|Dd (mH aO)<|Dd (by exact aB rfl rfl qH rfl (pJ ((P.map encStr).length:Int) (by omega) (by omega) _))<|Dd (by exact bL [[.str (dS ((P.map encStr).length:Int))]] rfl bZ rfl rfl rfl rfl rfl (by intro r hr;rw [aBJ] at hr;subst hr;rfl))<|Dd (by exact eD (ps:=[[.str (dS ((P.map encStr).length:Int))]]) rfl bZ I6 rfl rfl rfl rfl rfl (fE _) rfl (by intro r hr;rw [aBJ] at hr;subst hr;rfl) (m:=1) rfl (by omega) rfl (mE _ _))<|Dd aS<|Zz<|Sr<|Dd aF<|Dd aF<|Dd (by exact eD (ps:=P.map encStr) rfl bZ I6 rfl rfl rfl rfl rfl (fE _) rfl (by intro r hr;obtain ⟨q,_,rfl⟩:=List.mem_map.1 hr;rfl) (m:=P.length) hpl (by omega) rfl (mO _ P))<|Dd (by exact aB rfl rfl qG rfl (MJ (W:=cP [] P) hin (by rw [hW];rfl) (by rw [hW,aBH];rfl))) ?_;exact Dd (by exact bL [[.str (ofL (aR (cP [] P)))]] rfl bZ rfl rfl rfl rfl rfl (by intro r hr;rw [aBJ] at hr;subst hr;rfl))<|Dd (by exact aB rfl rfl qG rfl (mI [ofL (aR (cP [] P))] _ hsz))<|Dd aS<|Zz<|aM<|Rt<|Qq
theorem V8 (l:bU) (c:Nat) (H:aA) (h0:H.get 1101=some (bK l c)) (h6:H.get 946=none) (hcl:bM H) :
  aL Tryz.prog 104 [.mp 1101 0,.pv .nilm] H (fun r H'=>r=.tup []∧H'=H):=by
 refine Bd func104 rfl ntmps104<|Sr<|Dd aF<|Dd (by exact FE (q:=946) rfl aT rfl h6)<|Zz<|aN ?_;refine bJ (σ:=Unit) (fun _=>([(0,.mp 1101 0),(7,.it 946 0)],(946,X1)::H)) (fun _=>True) (fun _=>0) () trivial ?_ ?_
 ·exact E0
 rintro _ -;refine Sq<|Rg ?_;refine jA rfl rfl (KI rfl rfl (get_cons_same _ _ _) rfl rfl) ?_;rintro _ _ (⟨rfl,rfl,hn0⟩|⟨hni,hnp,hn1,hn2,rfl,rfl⟩)
 ·refine Dd eP<|Zz<|Sq ?_;refine Cn ?_ ?_<;>intro hc1
  ·cases hc1
  refine bE ?_;exact iK (H':=H) (.inl rfl) rfl (Fin.pops' [(946,X1)] (by simp) hcl (by simp [h6]) (by simp [h6])) ⟨rfl,rfl⟩
 exact hn1.elim
theorem TQ (l:bU) (c:Nat) (P:List ByteArray) (H:aA) (hP:P.length < 1099511627776) (h0:H.get 1101=some (bK l c)) (h6:H.get 946=none) (hcl:bM H) :
  aL Tryz.prog 53 [.mp 1101 0,.pv .nilm,.pv (aW P)] H (fun r H'=>r=.tup []∧H'=(1101,bK (jH l P) c)::H):=by
 have hml:(P.map encStr).length=P.length:=aBG _;have hcp:=V8 l c H h0 h6 hcl;refine Bd func53 rfl ntmps53<|Sr<|Dd aF<|Dd aF<|Dd (by exact aB rfl rfl call104 rfl (hcp))<|Zz<|Sr<|Dd aF<|Dd (mH aO)<|Dd aF<|Zz<|aN ?_;refine bJ (σ:=Nat) (fun k=>([(0,.mp 1101 0),(11,.pv (aW P)),(12,iv ((P.map encStr).length:Int)),(13,iv (k:Int))],(1101,bK (jH l (P.take k)) c)::H)) (fun k=>k≤P.length) (fun k=>P.length - k) 0 (aBX _) ?_ ?_
 ·exact cA.get' ⟨⟨_,rfl,rfl⟩,⟨_,rfl,rfl⟩,⟨_,rfl,rfl⟩,⟨_,rfl,rfl⟩,trivial⟩ (fun j=>BB h0 j)
 intro k hk;refine Sr<|Dd dZ<|Zz<|Sq ?_;refine Cn ?_ ?_<;>intro hc1
 ·have hlt:k < P.length:=by have:=aBC hc1;omega
  obtain ⟨s,hs⟩:=aZ hlt;have hi:=dI (f:=encStr) hs;refine aG<|Sq<|aN<|Sr<|Dd (GJ bZ)<|Dd (nT aV)<|Dd aS<|Zz<|Rg<|Dd aF<|Dd aF<|Uu (by exact BD (κ:=fA) (l:=bS (jH l (P.take k))) rfl aT aI rfl (get_cons_same _ _ _) rfl rfl rfl rfl (zH s _))<|Zz<|Rg<|Dd oE<|Dd aF<|Zz ?_;refine⟨k+1,by omega,by omega,?_⟩;rw [xL hs];exact cA.get' ⟨⟨_,rfl,rfl⟩,⟨_,rfl,rfl⟩,⟨_,rfl,rfl⟩,⟨_,rfl,by rfl⟩,trivial⟩ (fun j=>iH _ _ _ _ j)
 have hge:k=P.length:=by have:=aBD hc1;omega
 subst hge;rw [List.take_length];refine bE ?_;exact iK (H':=(1101,bK (jH l P) c)::H) (.inl rfl) rfl Fin.refl ⟨rfl,rfl⟩
def KL (d:DSt) (k a i:Nat):ByteArray:=HI (2+a*k+i) (bP d (2+a*k+i))
def vO (d:DSt) (k a n:Nat):Bool:=(List.range n).all fun i=>!decide (KL d k a i=sNil)
def KK (d:DSt) (k a n:Nat):List UInt8:=(List.range n).flatMap fun i=>(KL d k a i).data.toList
def tU (d:DSt) (k a n:Nat):Bool:=vO d k a n&&((eQ (KK d k a n)).2&&(eQ (KK d k a n)).1.all fun c=>lM c.data.toList)
def KM (d:DSt) (k a n:Nat):CT:=oV ((eQ (KK d k a n)).1.map fun c=>c.data.toList)
def qD (d:DSt) (k:Nat):Bool:=jX k 1 (bP d 1)
def xC (d:DSt) (k:Nat):Bool:=qD d k||jX k 0 (bP d 0)
def yS (d:DSt) (k:Nat):Nat:=if qD d k then qC (bP d 1)else if jX k 0 (bP d 0)then qC (bP d 0)else 0
def yR (d:DSt) (k:Nat):Nat:=if qD d k then qB (bP d 1)else if jX k 0 (bP d 0)then qB (bP d 0)else 0
theorem VB {p:List UInt8} (h:1≤p.length):¬ ofL p=sNil:=fun e=>by
 have:=congrArg ByteArray.size e;rw [bY] at this;have h0:sNil.size=0:=rfl;omega
theorem IP {d:DSt} {N k a n:Nat} {C:CT} (hc:Calm d N) (h:SInv d.cells k a n C) {Q:List (List UInt8)} (h1:Q.length=n) (h2:LogAt d.cells (2+a*k) Q) {i:Nat} {q:List UInt8} (hq:Q[i]?=some q):KL d k a i=ofL q:=by have hp:=h2.p q (aBQ hq);rw [KL,cL hc,h2.at' i q hq];exact RJ hp.1 hp.2
theorem XZ {d:DSt} {N k a n:Nat} {C:CT} (hc:Calm d N) (h:SInv d.cells k a n C) {Q:List (List UInt8)} (h1:Q.length=n) (h2:LogAt d.cells (2+a*k) Q):KK d k a n=Q.flatten:=by
 have go:∀ m,m≤n→(List.range m).flatMap (fun i=>(KL d k a i).data.toList)=(Q.take m).flatten:=by
  intro m
  induction m with
  | zero=>intro _;rfl
  | succ m ih =>
   intro hm;obtain ⟨q,hq⟩:=aZ (l:=Q) (k:=m) (by omega);rw [List.range_succ,List.flatMap_append,ih (by omega),dK hq,List.flatten_append,List.flatMap_cons,List.flatMap_nil,IP hc h h1 h2 hq,bC];rfl
 rw [KK,go n (aBM _),← h1,List.take_length]
theorem EE {d:DSt} {N k a n:Nat} {C:CT} (hc:Calm d N) (h:SInv d.cells k a n C) (hk:k < 10000000) :
  yS d k=a∧yR d k=n∧(xC d k=true∨(xC d k=false∧bP d 0=zS))∧tU d k a n=true∧KM d k a n=C∧bP d 1=jT 1 a n (xC d k)∧bP d 0=jT 0 a n (xC d k):=by
 obtain ⟨Q,T,h1,h2,h3,h4,h5⟩:=h.lg;have hT:KK d k a n=aR (T.map ofL):=(XZ hc h h1 h2).trans h3;have hlen:=uD h2.p;have hnk:=h.nk;have hsp:eQ (KK d k a n)=(T.map ofL,true):=by
  rw [hT];refine sX fun x hx=>?_;have:=pI hx;rw [← h3] at this;omega
 have hall:vO d k a n=true:=List.all_eq_true.2 fun i hi=>by
  obtain ⟨q,hq⟩:=aZ (l:=Q) (k:=i) (by have:=List.mem_range.1 hi;omega);have hp:=h2.p q (aBQ hq);rw [IP hc h h1 h2 hq,decide_eq_false (VB hp.1)];rfl
 have hok:tU d k a n=true:=by
  rw [tU,hall,hsp];simp only [Bool.true_and];refine List.all_eq_true.2 fun x hx=>?_;obtain ⟨t,ht,rfl⟩:=List.mem_map.1 hx;rw [bC];exact h4 t ht
 have hC:KM d k a n=C:=by
  rw [KM,hsp,h5,List.map_map];congr 1;rw [show ((fun c:ByteArray=>c.data.toList)∘ofL)=id from funext fun t=>bC t,List.map_id]
 rcases h.hd with⟨g1,g0⟩|⟨g1,g0,ea,en⟩
 ·have t1:bP d 1=hS 1 a n:=by rw [cL hc,g1];rfl
  have t0:bP d 0=hS 0 a n:=by rw [cL hc,g0];rfl
  obtain ⟨p1,p2,p3⟩:=A9 (place:=1) h.a2 h.nk hk;have hh:qD d k=true:=by rw [qD,t1,p3]
  have hH:xC d k=true:=by rw [xC,hh];rfl
  exact⟨by rw [yS,hh,aBF rfl,t1,p1],by rw [yR,hh,aBF rfl,t1,p2],.inl hH,hok,hC,by rw [hH,t1];rfl,by rw [hH,t0];rfl⟩
 have t1:bP d 1=zS:=by rw [cL hc,g1];rfl
 have t0:bP d 0=zS:=by rw [cL hc,g0];rfl
 have hh:qD d k=false:=by rw [qD,t1,lI]
 have hH:xC d k=false:=by rw [xC,hh,t0,lI];rfl
 exact⟨by rw [yS,hh,aBE (by decide),t0,lI,aBE (by decide),ea],by rw [yR,hh,aBE (by decide),t0,lI,aBE (by decide),en],.inr ⟨hH,t0⟩,hok,hC,by rw [hH,t1];rfl,by rw [hH,t0];rfl⟩
def bQ (l:bU):List UInt8:=if l.length=0 then[] else bD l []
abbrev zR (n:Nat):List ByteArray:=List.replicate n zS
theorem UN:zS.size=64:=by rw [bY,zB,List.length_replicate]
theorem yW (n:Nat):∀ t∈zR n,t.size=64:=fun t ht=>by rw [List.eq_of_mem_replicate ht,UN]
def C7 (d:DSt) (k a:Nat) (w:List UInt8):Int×DSt:=if(gK d k (1 - a) 0 w).1=0 then gI (gK d k (1 - a) 0 w).2 (2+a*k+0) (zR (k - 0))else gK d k (1 - a) 0 w
def WU (d:DSt) (k:Nat) (w:List UInt8):Int×DSt:=if(C7 d k 1 w).1=0 then gI (C7 d k 1 w).2 (2+0*k+cJ w) (zR (k - cJ w))else C7 d k 1 w
def I4 (d:DSt) (k a:Nat) (w:List UInt8):Int×DSt:=if a=1 then WU d k w else if(C7 d k 0 w).1=0 then WU (C7 d k 0 w).2 k w else C7 d k 0 w
def lD (k:Nat) (w:List UInt8) (tl:List ByteArray):List ByteArray:=hS 0 0 (cJ w)::hS 1 0 (cJ w)::(gR 2 w (cJ w)++(zR (k - cJ w)++(zR k++tl)))
theorem IM {d:DSt} {n:Nat} (h:Calm d n) {k a:Nat} {w:List UInt8} (hk:2*k+2≤n) (hn:n≤8000) (ha:a < 2) (hw:cJ w≤k) :
  (C7 d k a w).1=0∧Calm (C7 d k a w).2 n∧(C7 d k a w).2.cells=lY (((lY d.cells (2+(1 - a)*k+0) (gR (2+(1 - a)*k+0) w (cJ w))).set 1 (hS 1 (1 - a) (0+cJ w))).set 0 (hS 0 (1 - a) (0+cJ w))) (2+a*k+0) (zR (k - 0)):=by
 have hak:a*k≤k:=by
  rcases(show a=0∨a=1 by omega)with e|e<;>subst e<;>omega
 obtain ⟨a1,a2,a3⟩:=wC h (k:=k) (a:=1 - a) (cn:=0) (t:=w) hk hn (by omega) (by omega);obtain ⟨b1,b2,b3⟩:=mB a2 (place:=2+a*k+0) (L:=zR (k - 0)) (by rw [List.length_replicate];omega) (yW _) (by rw [List.length_replicate];omega);rw [C7,aBF a1];exact⟨b1,b2,by rw [b3,a3]⟩
theorem IN {d:DSt} {n:Nat} (h:Calm d n) {k:Nat} {w:List UInt8} (hk:2*k+2≤n) (hn:n≤8000) (hw:cJ w≤k) :
  (WU d k w).1=0∧Calm (WU d k w).2 n∧(WU d k w).2.cells=lD k w (d.cells.drop (2*k+2)):=by
 obtain ⟨a1,a2,a3⟩:=IM h (k:=k) (a:=1) (w:=w) hk hn (by omega) hw;obtain ⟨b1,b2,b3⟩:=mB a2 (place:=2+0*k+cJ w) (L:=zR (k - cJ w)) (by rw [List.length_replicate];omega) (yW _) (by rw [List.length_replicate];omega);rw [WU,aBF a1];refine⟨b1,b2,?_⟩;have hl:=h.inv.n;rw [b3,a3];refine List.ext_getElem? fun j=>?_;rw [dN,dN,fJ,List.length_set,List.length_set,fJ,List.length_replicate,List.length_replicate];rw [lD];rcases(show j=0∨j=1∨∃ i,j=i+2 by
  match j with
  | 0=>exact .inl rfl
  | 1=>exact .inr (.inl rfl)
  | i+2=>exact .inr (.inr ⟨i,rfl⟩))with rfl|rfl|⟨i,rfl⟩
 ·rw [aBE (by omega),aBE (by omega),List.getElem?_set_self (by rw [List.length_set,fJ];omega)];rw [aBY];rfl
 ·rw [aBE (by omega),aBE (by omega),List.getElem?_set_ne (by omega),List.getElem?_set_self (by rw [fJ];omega)];rw [aBY];rfl
 rw [List.getElem?_cons_succ,List.getElem?_cons_succ,List.getElem?_set_ne (by omega),List.getElem?_set_ne (by omega),dN,cQ];by_cases h1:i < cJ w
 ·rw [aBE (by omega),aBE (by omega),aBF (by omega),List.getElem?_append_left (by rw [cQ];exact h1),qS h1,show i+2 - (2+(1 - 1)*k+0)=i by omega,qS h1,show 2+(1 - 1)*k+0=2 by omega]
 rw [List.getElem?_append_right (by rw [cQ];omega),cQ];by_cases h2:i < k
 ·rw [aBF (by omega),List.getElem?_append_left (by rw [List.length_replicate];omega),List.getElem?_replicate,List.getElem?_replicate,aBF (by omega),aBF (by omega)]
 rw [aBE (by omega),List.getElem?_append_right (by rw [List.length_replicate];omega),List.length_replicate];by_cases h3:i < 2*k
 ·rw [aBF (by omega),List.getElem?_append_left (by rw [List.length_replicate];omega),List.getElem?_replicate,List.getElem?_replicate,aBF (by omega),aBF (by omega)]
 rw [aBE (by omega),aBE (by omega),List.getElem?_append_right (by rw [List.length_replicate];omega),List.length_replicate,List.getElem?_drop];congr 1;omega
theorem S8 {d:DSt} {n:Nat} (h:Calm d n) {k a:Nat} {w:List UInt8} (hk:2*k+2≤n) (hn:n≤8000) (ha:a < 2) (hw:cJ w≤k) :
  (I4 d k a w).1=0∧Calm (I4 d k a w).2 n∧(I4 d k a w).2.cells=lD k w (d.cells.drop (2*k+2)):=by
 rw [I4];by_cases e:a=1
 ·rw [aBF e];exact IN h hk hn hw
 rw [aBE e];obtain ⟨a1,a2,a3⟩:=IM h (k:=k) (a:=0) (w:=w) hk hn (by omega) hw;rw [aBF a1];obtain ⟨b1,b2,b3⟩:=IN a2 hk hn hw;refine⟨b1,b2,?_⟩;rw [b3];congr 1;rw [a3];have hl:=h.inv.n;refine List.ext_getElem? fun j=>?_;rw [List.getElem?_drop,List.getElem?_drop,dN,List.length_replicate,aBE (by omega),List.getElem?_set_ne (by omega),List.getElem?_set_ne (by omega),dN,cQ,aBE (by omega)]
theorem JQ {cells:List ByteArray} {k a n:Nat} {C:CT} (h:SInv cells k a n C) {l:bU} (hn:eY l) (hl:∀ x,dD l x=C x) (hw:cJ (bQ l)≤k) (hk:k < 5000) :
  SInv (lD k (bQ l) (cells.drop (2*k+2))) k 0 (cJ (bQ l)) C:=by
 have hkn:=h.kn;have hwr:=h.wrong hn hl;obtain ⟨w,hW⟩:∃ w,w=bQ l:=⟨_,rfl⟩;have hlen:(lD k w (cells.drop (2*k+2))).length=cells.length:=by
  rw [← hW] at hw;rw [lD,aBI,aBI,aBH,cQ,aBH,aBH,List.length_replicate,List.length_replicate,aBV];omega
 rw [← hW] at hw ⊢;have hat:LogAt (lD k w (cells.drop (2*k+2))) (2+0*k) ((List.range (cJ w)).map (fR w)):=by
  refine⟨fun q hq=>?_,fun i q hq=>?_⟩
  ·obtain ⟨i,hi,rfl⟩:=List.mem_map.1 hq;exact AN (List.mem_range.1 hi)
  rw [aB0] at hq;have hi:i < cJ w:=by
   by_cases e:i < cJ w
   ·exact e
   rw [List.getElem?_eq_none (by rw [List.length_range];omega)] at hq;cases hq
  rw [List.getElem?_range hi] at hq;cases hq;rw [lD,show 2+0*k+i=i+2 by omega,List.getElem?_cons_succ,List.getElem?_cons_succ,List.getElem?_append_left (by rw [cQ];exact hi),qS hi,Nat.add_comm i 2]
 refine⟨h.k1,by rw [hlen];exact hkn,by omega,hw,.inl ⟨rfl,rfl⟩,?_⟩;have hfl:((List.range (cJ w)).map (fR w)).flatten=w:=EY w;by_cases h0:l.length=0
 ·have hw0:w=[]:=by rw [hW,bQ,aBF h0]
  refine⟨_,[],?_,hat,by rw [hfl,hw0];rfl,fun t ht=>(by cases ht),?_⟩
  ·rw [aBG,List.length_range]
  funext x;rw [← hl,List.length_eq_zero_iff.1 h0];rfl
 have hwt:w=bD l []:=by rw [hW,bQ,aBE h0]
 have hin:=qO (l:=l) (P:=[]) (N:=1000000) (by rw [← hwt];have:=hw;rw [cJ] at this;omega);obtain ⟨r1,r2,r3⟩:=ES hn (P:=[]) List.Pairwise.nil (by omega) hwr (by omega);refine⟨_,[aR (cP l [])],?_,hat,by rw [hfl,hwt];rfl,fun t ht=>by rw [aBJ.1 ht];exact r1,?_⟩
 ·rw [aBG,List.length_range]
 funext x;show C x=V7 (fun _=>none) (aR (cP l [])) x;rw [V7,r3,oU,aBE aBW,r2,hl];cases C x<;>rfl
end Go.Proofs.YtmkgeogoojcciaaGreatDoor
