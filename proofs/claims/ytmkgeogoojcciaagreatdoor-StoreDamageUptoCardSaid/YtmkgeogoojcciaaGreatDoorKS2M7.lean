/-
  Parts of the proof: rules of an abstract program logic, contracts of functions, plain laws. Conditions: each theorem's own.
-/
import Derived.Test.YtmkgeogoojcciaaGreatDoorKS2M6
set_option linter.unusedVariables false
set_option linter.unusedSimpArgs false
set_option maxRecDepth 100000
set_option maxHeartbeats 8000000
namespace Go.Proofs
theorem sT:type_of% Tryz.call46:=Tryz.call46
theorem XY:type_of% Tryz.call47:=Tryz.call47
theorem sS:type_of% Tryz.call50:=Tryz.call50
theorem XV:type_of% Tryz.call53:=Tryz.call53
end Go.Proofs
section
namespace Go.Abs
open Go.Lib
theorem oQ:∀ (l:List UInt8) (a:Nat),decFrom a l=(decFrom 0 l).map fun n=>a*10 ^ l.length+n
 | [],a=>by simp [decFrom]
 | b::r,a=>by
  rw [decFrom,decFrom];cases h:digitVal b with
  | none=>rfl
  | some d =>
   show decFrom (a*10+d) r=(decFrom (0*10+d) r).map _;rw [oQ r (a*10+d),oQ r (0*10+d),Option.map_map];congr 1;funext n;show (a*10+d)*10 ^ r.length+n=a*10 ^ (r.length+1)+((0*10+d)*10 ^ r.length+n);rw [Nat.pow_succ];obtain ⟨p,hp⟩:∃ p,p=10 ^ r.length:=⟨_,rfl⟩;rw [← hp,Nat.add_mul,Nat.mul_assoc,Nat.mul_comm 10 p,Nat.zero_mul,YZ];omega
theorem sE (l:List UInt8):∀ z,decFrom 0 (List.replicate z 48++l)=decFrom 0 l
 | 0=>rfl
 | z+1=>by
  have h48:digitVal 48=some 0:=by decide
  rw [List.replicate_succ,List.cons_append,decFrom,h48];exact sE l z
theorem uQ (b:List UInt8):∀ (a:List UInt8) (n:Nat),decFrom n (a++b)=(decFrom n a).bind fun x=>decFrom x b
 | [],n=>rfl
 | c::a,n=>by
  rw [List.cons_append,decFrom,decFrom];cases h:digitVal c with
  | none=>rfl
  | some d=>exact uQ b a _
theorem MJ {l:List UInt8} {u:Nat} (hne:l≠[]) (hm:∀ b∈l,48≤b.toNat∧b.toNat≤57) (hd:decFrom 0 l=some u):atoi l=some (u:Int):=by
 cases l with
 | nil=>exact absurd rfl hne
 | cons b r =>
  have hb:=hm b List.mem_cons_self;have e2:decNat (b::r)=some u:=by rw [decNat,hd];rfl
  have h43:¬ (b == 43)=true:=fun h=>by rw [beq_iff_eq] at h;rw [h] at hb;exact absurd hb.1 (by decide)
  have h45:¬ (b == 45)=true:=fun h=>by rw [beq_iff_eq] at h;rw [h] at hb;exact absurd hb.1 (by decide)
  rw [atoi,YF h45,YF h43,e2];rfl
theorem CK {l:List UInt8} {u:Nat} (hl:l.length≤18) (hne:l≠[]) (hm:∀ b∈l,48≤b.toNat∧b.toNat≤57) (hd:decFrom 0 l=some u):atoiAll l=.ok (u:Int):=by rw [atoiAll_short _ hl,MJ hne hm hd];rfl
end Go.Abs
namespace Go.Proofs.YtmkgeogoojcciaaGreatDoor
open Go.Proofs.Tryz
open Go.Abs Go.Lib
instance memDecZ (k:ByteArray) (l:List ByteArray):Decidable (k∈l):=decidable_of_iff _ iK
theorem sK {l:List UInt8} {u:Nat} (hl:l.length≤18) (hne:l≠[]) (hm:∀ b∈l,48≤b.toNat∧b.toNat≤57) (hd:decFrom 0 l=some u):gD (ofL l)=false∧cX (ofL l)=(u:Int):=by
 have h:=CK hl hne hm hd;constructor
 ·rw [gD,a7,h]
 rw [cX,oS,a7,h]
theorem xA {n w:Nat} {b:UInt8} (h:b∈dg n w):48≤b.toNat∧b.toNat≤57:=by
 rw [dg] at h;rcases List.mem_append.1 h with h|h
 ·rw [List.eq_of_mem_replicate h];decide
 exact m9 n h
theorem TS (n w:Nat):dg n w≠[]:=by rw [dg];intro h;exact nB n (List.append_eq_nil_iff.1 h).2
theorem G8 (n w:Nat):decFrom 0 (dg n w)=some n:=by rw [dg,sE,k8]
theorem D8 (place a n:Nat) (ha:a < 10) (hn:n < 10000000):(hS place a n).extract 16 24=ofL (dg a 1++dg n 7):=jJ (by
 have h8:(dg a 1++dg n 7).length=8:=by rw [YI,fL (i6 a (by omega) (by omega)),fL (i6 n (by omega) (by omega))]
 rw [dT,a7,a7,wR,eC,kC,List.drop_left' (jQ _),List.take_left' h8])
theorem OX (place a n:Nat) (ha:a < 10) (hn:n < 10000000):gD ((hS place a n).extract 16 24)=false∧cX ((hS place a n).extract 16 24)=((a*10000000+n:Nat):Int):=by
 have h7:(dg n 7).length=7:=fL (i6 n (by omega) (by omega));have h8:(dg a 1++dg n 7).length=8:=by rw [YI,fL (i6 a (by omega) (by omega)),h7]
 rw [D8 place a n ha hn];refine sK (by omega) (fun h=>TS a 1 (List.append_eq_nil_iff.1 h).1) (fun b hb=>?_) ?_
 ·rcases List.mem_append.1 hb with h|h
  ·exact xA h
  exact xA h
 rw [uQ,G8,Option.bind_some,oQ,G8,h7];rfl
theorem wQ {k place a n:Nat} (ha:a < 2) (hn:n≤k) (hk:k < 10000000):nS (hS place a n)=a∧nR (hS place a n)=n∧gC k place (hS place a n)=true:=by
 obtain ⟨h1,h2⟩:=OX place a n (by omega) (by omega);have hb:kU (hS place a n)=false:=by
  rw [kU,h1,h2,Bool.false_or];exact decide_eq_false (by omega)
 have hu:KL (hS place a n)=a*10000000+n:=by rw [KL,h2,YS]
 have hA:nS (hS place a n)=a:=by rw [nS,hb,YF (by decide),hu];omega
 have hN:nR (hS place a n)=n:=by rw [nR,hb,YF (by decide),hu];omega
 refine⟨hA,hN,?_⟩;rw [gC,hb,hA,hN,decide_eq_true ha,decide_eq_true hn,decide_eq_true rfl];rfl
theorem KO (place:Nat) {p:List UInt8} (h2:p.length≤46):(ofL (dR place p)).extract 16 18=ofL (dg p.length 2)∧(ofL (dR place p)).extract 18 (18+p.length)=ofL p:=by
 have hd:(dg p.length 2).length=2:=fL (i6 _ (by omega) (by omega));have e:(dR place p).drop 16=dg p.length 2++(p++zB (48 - (dg p.length 2++p).length)):=by rw [dR,eC,kC,List.drop_left' (jQ _),List.append_assoc]
 have e2:(dR place p).drop 18=p++zB (48 - (dg p.length 2++p).length):=by
  rw [show 18=16+2 from rfl,← List.drop_drop,e,List.drop_left' hd]
 constructor
 ·refine jJ ?_;rw [dT,a7,a7,e];exact List.take_left' hd
 refine jJ ?_;rw [dT,a7,a7,e2,show 18+p.length - 18=p.length by omega,List.take_left]
theorem N9 {place:Nat} {p:List UInt8} (h1:1≤p.length) (h2:p.length≤46):yB place (ofL (dR place p))=ofL p:=by
 obtain ⟨c1,c2⟩:=KO place h2;have hd:(dg p.length 2).length=2:=fL (i6 _ (by omega) (by omega));obtain ⟨n1,n2⟩:=sK (l:=dg p.length 2) (u:=p.length) (by omega) (TS _ _) (fun b=>xA) (G8 _ _);have hb:vY (ofL (dR place p))=false:=by
  rw [vY,c1,n1,n2,Bool.false_or,decide_eq_false (by omega),decide_eq_false (by omega)];rfl
 have hp:KR (ofL (dR place p))=ofL p:=by rw [KR,c1,n2,YS,c2]
 rw [yB,hb,YF (by decide),hp,a7,YG rfl]
theorem DO (t:List UInt8):∀ i,(List.range i).flatMap (fA t)=t.take (46*i)
 | 0=>by rw [List.range_zero,Nat.mul_zero,List.take_zero];rfl
 | i+1=>by
  rw [List.range_succ,List.flatMap_append,DO t i,List.flatMap_cons,List.flatMap_nil,List.append_nil,fA,Nat.mul_succ];exact(List.take_add ..).symm
theorem IG (t:List UInt8):((List.range (cN t)).map (fA t)).flatten=t:=by rw [← List.flatMap_def,DO,List.take_of_length_le (by rw [cN];omega)]
theorem DP {t:List UInt8} {i:Nat} (h:i < cN t):1≤(fA t i).length∧(fA t i).length≤46:=by rw [mJ];rw [cN] at h;omega
theorem dK (x:ByteArray) (L:List ByteArray):aQ (x::L)=decDigits x.size++58::(x.data.toList++aQ L):=by
 have h1:aQ (x::L)=(mY x).data.toList++aQ L:=by rw [aQ,List.flatMap_cons];rfl
 rw [h1,mY,ByteArray.data_append,Array.toList_append,ByteArray.data_append,Array.toList_append,kN];simp
theorem PD (n:Nat):(58:UInt8)∉decDigits n:=fun h=>by
 have:=m9 n h;exact absurd this.2 (by decide)
theorem LQ {x:ByteArray} (L:List ByteArray) (hx:x.size < 1000000000000000000):pX (aQ (x::L))=false∧JC (aQ (x::L))=x.size∧uR (aQ (x::L))=x.data.toList++aQ L:=by
 obtain ⟨e1,e2⟩:=PO (r:=x.data.toList++aQ L) (PD x.size);rw [← dK] at e1 e2;obtain ⟨n1,n2⟩:=sK (l:=decDigits x.size) (u:=x.size) (dJ (k:=18) (by omega) (by decide)) (nB _) (fun b=>m9 _) (k8 _);have hm:(58:UInt8)∈aQ (x::L):=by rw [dK];simp
 have hi:dE (x.size:Int)=ofL (decDigits x.size):=jJ (by rw [a7,kN]);refine⟨?_,?_,e2⟩
 ·rw [pX,e1,e2,n1,n2,decide_eq_true hm,hi,decide_eq_true rfl,decide_eq_false (by omega),decide_eq_false (by rw [YI,cL];omega)];rfl
 rw [JC,e1,n2,YS]
theorem pQ:∀ (L acc:List ByteArray),(∀ x∈L,x.size < 1000000000000000000)→eS (aQ L).length (aQ L) acc=(acc++L,true)
 | [],acc,_=>by rw [List.append_nil];rfl
 | x::L,acc,h=>by
  obtain ⟨h1,h2,h3⟩:=LQ L (h x List.mem_cons_self);have hne:aQ (x::L)≠[]:=by rw [dK];simp
  rw [uF hne h1,h2,h3,List.drop_left' (cL x),List.take_left' (cL x),GJ,pQ L _ (fun y hy=>h y (List.mem_cons_of_mem _ hy)),List.append_assoc];rfl
theorem pR {L:List ByteArray} (h:∀ x∈L,x.size < 1000000000000000000):dW (aQ L)=(L,true):=by rw [dW,pQ L [] h,List.nil_append]
theorem D4 (A B:List ByteArray):aQ (A++B)=aQ A++aQ B:=List.flatMap_append
end Go.Proofs.YtmkgeogoojcciaaGreatDoor
end
namespace Go.Proofs.YtmkgeogoojcciaaGreatDoor
open Go.Proofs.Tryz
open Go.Abs
theorem OT (s:ByteArray) (H:aA):aJ Tryz.prog 172 [sv s] H (fun r H'=>r=bv false∧H'=H):=by refine Pu ?_;refine Bd func172 rfl ntmps172<|Sr<|Dd aR<|Zz<|Sr<|Dd aF<|Dd aF<|Dd NP<|Dd aR<|Zz<|aM<|Rt ?_;exact⟨by simp,rfl⟩
theorem SA (s t:ByteArray) (H:aA):aJ Tryz.prog 146 [sv s,sv t] H (fun r H'=>r=bv (qA s t)∧H'=H):=by
 refine Pu ?_;refine Bd func146 rfl ntmps146<|Sr<|Dd aR<|Zz<|Sq ?_;refine cR (t:=4) (n:=15) (X:=qA s t) ?_ ?_
 ·all_goals refine Dd aF ?_
  all_goals refine Dd (by exact aB rfl rfl call172 rfl (OT _ _))<|Dm ?_
  all_goals refine Sp 7 (fun h7=>?_) fun h7=>?_
  all_goals try contradiction
  all_goals refine Fo<|Fo<|Fo<|Dd fN<|Dm ?_
  all_goals refine Sp 12 (fun h12=>?_) fun h12=>?_
  all_goals try contradiction
  all_goals refine On aF<|On aF<|On (by exact OC rfl rfl rfl)<|Dd fN<|Da ?_
  all_goals(exact⟨⟨_,rfl,by rfl⟩,rfl,rfl,rfl⟩)
 exact aM<|Rt<|Qq
def eJ:List ByteArray→Bool
 | a::b::r=>!qA b a&&eJ (b::r)
 | _=>true
theorem A2 {a:ByteArray} {l:List ByteArray} (h:eJ (a::l)=true):eJ l=true:=by
 cases l with
 | nil=>rfl
 | cons b r=>exact(YQ _ _▸h:_∧_).2
theorem rA:∀ (i:Nat) {l:List ByteArray},eJ l=true→eJ (l.drop i)=true
 | 0,_,h=>h
 | i+1,[],_=>rfl
 | i+1,a::l,h=>rA i (A2 h)
theorem FR {l:List ByteArray} {k:Nat} {a b:ByteArray} (ha:l[k]?=some a) (hb:l[k+1]?=some b):eJ (l.drop k)=(!qA b a&&eJ (l.drop (k+1))):=by obtain ⟨h1,e1⟩:=YL.1 ha;obtain ⟨h2,e2⟩:=YL.1 hb;rw [List.drop_eq_getElem_cons h1,List.drop_eq_getElem_cons h2,e1,e2];rfl
theorem D6 (l:List ByteArray) (H:aA) (hl:l.length < 1099511627776):aJ Tryz.prog 119 [.pv (aX l)] H (fun r H'=>r=bv (eJ l)∧H'=H):=by
 refine Pu ?_;have hml:(l.map encStr).length=l.length:=YH _;refine Bd func119 rfl ntmps119<|Sr<|Dd aR<|Zz<|Sq<|Sr<|Dd aF<|Dd (mB aP)<|Dd (by exact dS rfl rfl rfl (show IntKind.i64.wrap (((l.map encStr).length:Int) - 1)=((l.map encStr).length:Int) - 1 by rw [IntKind.wrap_i64];omega))<|Dd aR<|Zz<|aO ?_;refine bM (σ:=Nat) (fun k=>([(0,.pv (aX l)),(3,iv ((k:Int) - 1))],[])) (fun k=>k≤l.length∧eJ (l.drop (k - 1))=true) (fun k=>k) l.length ⟨YN _,?_⟩ ?_ ?_
 ·have:(l.drop (l.length - 1)).length≤1:=by rw [YW];omega
  match l.drop (l.length - 1),this with
  | [],_=>rfl
  | [a],_=>rfl
 ·rw [hml];exact Wk
 rintro k ⟨hk,hs⟩;refine Sq<|Sr<|Dd aF<|Dd yR<|Zz ?_;refine Cn ?_ ?_<;>intro hc1
 ·have hlt:2≤k:=by have:=YD hc1;omega
  obtain ⟨m,rfl⟩:∃ m,k=m+2:=⟨k - 2,by omega⟩;obtain ⟨b,hb⟩:=aZ (l:=l) (k:=m+1) (by omega);obtain ⟨a,ha⟩:=aZ (l:=l) (k:=m) (by omega);have hib:=dM (f:=encStr) hb;have hia:=dM (f:=encStr) ha;have hat:=FR ha hb;rw [show m+2 - 1=m+1 by omega] at hs;rw [hs,Bool.and_true] at hat;refine aH<|Sq<|aO<|Sq<|bO follows<|Cq aF<|Cq aF<|Cq (by exact bP (m:=m+1) rfl b8 rfl rfl (by omega) (show (((m+2:Nat):Int) - 1).toNat=m+1 by omega) hib rfl)<|Cq (nL aV)<|Cq aF<|Cq aF<|Cq (by exact dS rfl rfl rfl (show IntKind.i64.wrap ((((m+2:Nat):Int) - 1) - 1)=((m:Nat):Int)by rw [IntKind.wrap_i64];omega))<|Cq (CV b8)<|Cq (nL aV)<|Cq (by exact aB rfl rfl call146 rfl (SA b a _))<|cU<|Kr ?_;refine Cn ?_ ?_<;>intro hc2
  ·have hlt2:qA b a=true:=hc2;have h0:eJ l=false:=by
    rw [Bool.eq_false_iff];intro h;rw [rA m h,hlt2] at hat;cases hat
   rw [h0];exact Sr<|Dd aR<|Zz<|aM<|Rt<|Qq
  have hlt2:qA b a=false:=hc2;refine aH<|Rg<|Dd aF<|Dd (by exact dS rfl rfl rfl (show IntKind.i64.wrap ((((m+2:Nat):Int) - 1) - 1)=((m+1:Nat):Int) - 1 by rw [IntKind.wrap_i64];omega))<|Da ?_;refine⟨m+1,⟨by omega,?_⟩,by omega,?_⟩
  ·rw [show m+1 - 1=m by omega,hat,hlt2];rfl
  exact Wk
 have hge:k≤1:=by have:=YE hc1;omega
 have h0:eJ l=true:=by rw [show k - 1=0 by omega] at hs;exact hs
 rw [h0];exact bI<|Sr<|Dd aR<|Zz<|aM<|Rt<|Qq
end Go.Proofs.YtmkgeogoojcciaaGreatDoor
section
namespace Go.Proofs.YtmkgeogoojcciaaGreatDoor
open Go.Proofs.Tryz
open Go.Abs
structure M3 where
 k:ByteArray
 b:ByteArray
 o:ByteArray
 t:ByteArray
end Go.Proofs.YtmkgeogoojcciaaGreatDoor
namespace Go.Abs
end Go.Abs
namespace Go.Proofs.YtmkgeogoojcciaaGreatDoor
open Go.Proofs.Tryz
open Go.Abs
end Go.Proofs.YtmkgeogoojcciaaGreatDoor
end
namespace Go.Proofs.YtmkgeogoojcciaaGreatDoor
open Go.Proofs.Tryz
open Go.Abs
theorem LD (l:List ByteArray) (s:ByteArray) (H:aA) (hl:l.length < 4611686018427387904):aJ Tryz.prog 123 [.pv (aX l),sv s] H (fun r H'=>r=iv (O1 (fun x=>decide (s=x)) l)∧H'=H):=by
 refine Pu ?_;have hml:(l.map encStr).length=l.length:=YH _;refine Bd func123 rfl ntmps123<|Sr<|Dd aR<|Zz<|Sq<|Sr<|Dd aF<|Dd (mB aP)<|Dd aF<|Zz<|aO ?_;refine bM (σ:=Nat) (fun k=>([(0,.pv (aX l)),(1,sv s),(7,iv ((l.map encStr).length:Int)),(8,iv (k:Int))],[])) (fun k=>k≤l.length∧∀ j,j < k→∀ b,l[j]?=some b→decide (s=b)=false) (fun k=>l.length - k) 0 ⟨by omega,by omega⟩ ?_ ?_
 ·exact E0
 rintro k ⟨hk,hno⟩;refine Sr<|Dd dO<|Zz<|Sq ?_;refine Cn ?_ ?_<;>intro hc1
 ·have hlt:k < l.length:=by have:=YD hc1;omega
  obtain ⟨o,ho⟩:=aZ hlt;have hi:=dM (f:=encStr) ho;refine aH<|Sq<|aO<|Sr<|Dd aF<|Dd aR<|Zz<|Sr<|Dd aF<|Dd aF<|Dd aF<|Dd (CV b8)<|Dd (nL aV)<|Dd T8<|Zz ?_;refine Cn ?_ ?_<;>intro hc2
  ·refine Sr<|Dd aF<|Dd aR<|Zz<|aM<|Rt ?_;exact⟨by rw [O1,LM hno ho hc2],rfl⟩
  refine aH<|Rg<|Dd mU<|Dd aF<|Zz ?_;exact⟨k+1,⟨by omega,N8 hno ho hc2⟩,by omega,E0⟩
 have hge:k=l.length:=by have:=YE hc1;omega
 subst hge;refine bI<|Sr<|Dd aR<|Zz<|aM<|Rt ?_;exact⟨by rw [O1,LN hno],rfl⟩
theorem SK (l:List ByteArray) (s:ByteArray):l.any (fun x=>decide (s=x))=SL l s:=by rw [SL];congr 1;funext x;rw [Bool.eq_iff_iff,YO,YO];exact eq_comm
theorem CF (l:List ByteArray) (s:ByteArray) (H:aA) (hl:l.length < 4611686018427387904):aJ Tryz.prog 92 [.pv (aX l),sv s] H (fun r H'=>r=bv (SL l s)∧H'=H):=by refine Pu ?_;refine Bd func92 rfl ntmps92<|Sr<|Dd aR<|Zz<|Sr<|Dd aF<|Dd aF<|Dd (by exact aB rfl rfl call123 rfl (LD l s _ hl))<|Dd Q1<|Dd aR<|Zz<|aM<|Rt ?_;exact⟨by rw [O0,SK],rfl⟩
def m1 (p:M3):ByteArray×Bool:=if p.t=p.o then(p.o,false)else if p.t=p.b then(p.o,false)else if p.o=p.b then(p.t,false)else(p.b,true)
theorem HI (l:List ByteArray) (q:ByteArray→Bool):(List.range l.length).any (fun k=>((l[k]?).map q).getD false)=l.any q:=by
 rw [Bool.eq_iff_iff,List.any_eq_true,List.any_eq_true];constructor
 ·rintro⟨k,hk,h⟩;have hl:=List.mem_range.1 hk;rw [YM hl] at h;exact⟨_,List.getElem_mem hl,h⟩
 rintro⟨s,hs,h⟩;obtain ⟨k,hk⟩:=Y2.1 hs;exact⟨k,List.mem_range.2 (YL.1 hk).1,by rw [hk];exact h⟩
theorem AO (fv:AV) (l:List ByteArray) (q:ByteArray→Bool) (H:aA) (hl:l.length < 4611686018427387904) (hf:∀ s,eG Tryz.prog fv [sv s] H (fun r H'=>r=bv (q s)∧H'=H)) :
  aJ Tryz.prog 93 [.pv (aX l),fv] H (fun r H'=>r=bv (l.any q)∧H'=H):=by
 have h:=yW fv l (fun k=>((l[k]?).map q).getD false) (fun _=>H) hl (fun k s hs=>by rw [hs];exact hf s);rw [HI] at h;exact h
def eE (s:ByteArray):Bool:=!decide (s=⟨#[]⟩)&&decide ((s.size:Int)≤200)
theorem IL (s:ByteArray) (H:aA):aJ Tryz.prog 91 [sv s] H (fun r H'=>r=bv (eE s)∧H'=H):=by
 refine Pu ?_;refine Bd func91 rfl ntmps91<|Sr<|Dd aR<|Zz<|Sq ?_;refine cR (t:=2) (n:=9) (X:=eE s) ?_ ?_
 ·all_goals refine Dd aF ?_
  all_goals refine Dd NP<|Dm ?_
  all_goals refine Sp 5 (fun h5=>?_) fun h5=>?_
  all_goals try contradiction
  all_goals first|refine Fo<|Fo<|Fo ?_|refine On aF<|On (yO aK)<|On XO ?_
  all_goals refine Dd fN<|Da ?_
  all_goals(exact⟨⟨_,rfl,by(simp only [eE, *];rfl)⟩,rfl,rfl,rfl⟩)
 exact aM<|Rt<|Qq
def xJ (P:List ByteArray) (p:ByteArray×ByteArray×Nat):Bool:=!eE p.1||SL P p.1
def bigV (p:ByteArray×ByteArray×Nat):Bool:=decide ((20000:Int) < (p.2.1.size:Int))
def bH (l:bT) (P:List ByteArray):Int:=if l.any (xJ P)||P.any (fun s=>!eE s)then 1 else if l.any bigV then 2 else 0
def CJ (l:bT) (s:List Nat):Bool:=s.any fun i=>((l[i]?).map bigV).getD false
theorem MB {l:bT} {s:List Nat} {i:Nat} {p:ByteArray×ByteArray×Nat} (h:l[i]?=some p):CJ l (s++[i])=(CJ l s||bigV p):=by rw [CJ,CJ,List.any_append,List.any_cons,List.any_nil,Bool.or_false,h];rfl
theorem P0 {l:bT} {s:List Nat} (hb:∀ i,i∈s→i < l.length) (ha:∀ i,i < l.length→i∈s):CJ l s=l.any bigV:=by
 rw [Bool.eq_iff_iff,CJ,List.any_eq_true,List.any_eq_true];constructor
 ·rintro⟨i,hi,h⟩;rw [YM (hb i hi)] at h;exact⟨_,List.getElem_mem (hb i hi),h⟩
 rintro⟨p,hp,h⟩;obtain ⟨i,hi⟩:=Y2.1 hp;exact⟨i,ha i (YL.1 hi).1,by rw [hi];exact h⟩
abbrev VD:Ob:=bx 1 53 [.pv (.fn 91)]
abbrev WZ (l:bT) (c:Nat) (s:List Nat):aA:=[(946,D5 950 l c s),(5,VD),(950,bJ l c)]
theorem CY (s:ByteArray) (H:aA) (h5:H.get 5=some VD):aJ Tryz.prog 94 [sv s,.ref 5 0 0 0] H (fun r H'=>r=bv (!eE s)∧H'=H):=by refine Bd func94 rfl ntmps94<|Sr<|Dd aR<|Zz<|Sr<|Dd (by exact aW rfl isAgg53 rfl h5 rfl rfl rfl)<|Dd aF<|Dd (by exact f0 rfl rfl rfl ((eG.fn call91 (IL s H))))<|Dd xX<|Dd aR<|Zz<|aM ?_;refine a8 (H':=H) (.inr rfl) rfl (aG rfl) Fin.refl ?_;exact Qq
theorem RD (l:bT) (c:Nat) (P:List ByteArray) (hst:dQ l c) (hl:l.length < 1099511627776) (hP:P.length < 1099511627776) :
  aJ Tryz.prog 46 [.mp 950 0,.pv (aX P)] [(950,bJ l c)] (fun r H'=>r=iv (bH l P)∧H'=[(950,bJ l c)]):=by
 refine Bd func46 rfl ntmps46<|Sr<|Dd aR<|Zz<|Sr<|Dd (by exact bZ (id:=5) rfl VL rfl rfl)<|Uu (oX sizeOf53)<|Zz<|Sr<|Dd aR<|Zz<|Sq<|Sr<|Dd aF<|Dd (by exact B4 (q:=946) (κ:=fF) (l:=bQ l) rfl aU rfl rfl rfl rfl rfl rfl)<|Zz<|aO ?_;refine bM (σ:=List Nat) (fun s=>([(0,.mp 950 0),(1,.pv (aX P)),(5,.ref 5 0 0 0),(6,bv (CJ l s)),(10,.it 946 0)],WZ l c s)) (fun s=>(s.Nodup∧∀ i,i∈s→i < l.length)∧∀ i,i∈s→∀ p,l[i]?=some p→xJ P p=false) (fun s=>l.length - s.length) [] ⟨⟨List.nodup_nil,by simp⟩,by simp⟩ ?_ ?_
 ·exact(bY.wk (Ea<|Eb<|Ea<|Eb<|Ea<|trivial) (Hc (IZ rfl _ _ _)<|Hb<|Hc (aS _ _ _)<|trivial) ⟨rfl,trivial⟩)
 rintro s ⟨⟨hd,hb⟩,hok⟩;have hsl:s.length≤l.length:=jW _ _ hd hb;have hcf:=fun H (h5:H.get 5=some VD)=>AO (.clo 94 [.ref 5 0 0 0]) P (fun s=>!eE s) H (by omega) (fun s=>eG.clo call94 (CY s H h5));obtain ⟨ns,hns⟩:∃ b,b=P.any (fun s=>!eE s):=⟨_,rfl⟩;rw [← hns] at hcf;refine Sq<|Rg ?_;refine iD rfl rfl (GZ (κ:=fF) (l:=bQ l) rfl rfl rfl rfl rfl rfl rfl rfl rfl (YN _) (YN _)) ?_;rintro _ _ (⟨rfl,rfl,hn0⟩|⟨hni,hnp,hn1,hn2,rfl,rfl⟩)
 ·refine Dd dU<|Zz<|Sq ?_;refine Cn ?_ ?_<;>intro hc1
  ·cases hc1
  have hall:∀ i,i < l.length→i∈s:=fun i hi=>by
   have hq:(bQ l)[i]?=some ((l[i]).1,sv (l[i]).2.1,(l[i]).2.2):=by rw [bQ,Y1,YM hi];rfl
   have:=hn0 _ (YR hq);obtain ⟨j,hj,e⟩:=List.mem_map.1 this;have e2:jR l j=jR l i:=by
    rw [e,jR,YM hi];rfl
   have:=FN hst (hb j hj) hi e2
   rwa [this] at hj
  have hbig:=P0 hb hall;have hnb:l.any (xJ P)=false:=by
   rw [Bool.eq_false_iff];intro h;obtain ⟨p,hp,h⟩:=List.any_eq_true.1 h;obtain ⟨i,hi⟩:=Y2.1 hp;rw [hok i (hall i (YL.1 hi).1) p hi] at h;cases h
  have hV:bH l P=if ns=true then 1 else if l.any bigV=true then 2 else 0:=by rw [bH,hnb,← hns,Bool.false_or]
  rw [hV,hbig];obtain ⟨bg,hbg⟩:∃ b,b=l.any bigV:=⟨_,rfl⟩;rw [← hbg];refine bI<|Sq<|aO<|Sr<|Dd aF<|Dd (by exact eO rfl rfl)<|Dd (by exact aB rfl rfl call93 rfl (hcf _ rfl))<|Da ?_;refine Cn ?_ ?_<;>intro hc2
  ·have hn:ns=true:=hc2;rw [YG hn];refine Sr<|Dd aR<|Zz<|aM ?_;refine a8 (H':=[(950,bJ l c)]) (.inr rfl) rfl (aG rfl) (Fin.wk (by(simp;done)) (Hc (aS _ _ _)<|trivial) ⟨rfl,trivial⟩) ?_;exact Qq
  have hn:¬ ns=true:=by rw [show ns=false from hc2];decide
  rw [YF hn];refine Sr<|Dd aF<|Da ?_;refine Cn ?_ ?_<;>intro hc3
  ·have hn2:bg=true:=hc3;rw [YG hn2];refine Sr<|Dd aR<|Zz<|aM ?_;refine a8 (H':=[(950,bJ l c)]) (.inr rfl) rfl (aG rfl) (Fin.wk (by(simp;done)) (Hc (aS _ _ _)<|trivial) ⟨rfl,trivial⟩) ?_;exact Qq
  have hn2:¬ bg=true:=by rw [show bg=false from hc3];decide
  rw [YF hn2];refine aH<|Sr<|Dd aR<|Zz<|aM ?_;refine a8 (H':=[(950,bJ l c)]) (.inr rfl) rfl (aG rfl) (Fin.wk (by(simp;done)) (Hc (aS _ _ _)<|trivial) ⟨rfl,trivial⟩) ?_;exact Qq
 obtain ⟨p,hp,rfl⟩:=tH hn1;have hlt:hni < l.length:=(YL.1 hp).1;have hst2:jR l hni=p.2.2:=by rw [jR,hp];rfl
 have hn3:hni∉s:=fun hm=>hn2 (List.mem_map.2 ⟨hni,hm,hst2⟩);have hb2:∀ i,i∈s++[hni]→i < l.length:=fun i hi=>by
  rcases List.mem_append.1 hi with h|h
  ·exact hb i h
  rw [YK] at h;omega
 have hd2:(s++[hni]).Nodup:=List.nodup_append.2 ⟨hd,by simp,fun a ha b hb e=>by rw [YK] at hb;subst hb;subst e;exact hn3 ha⟩;have hlen:=jW _ _ hd2 hb2;rw [YI,List.length_singleton] at hlen;have hit:D5 950 l c (s++[hni])=⟨0,0,0,dX (.mp 950 0) c c (s.map (jR l)++[p.2.2])⟩:=by rw [D5,List.map_append,List.map_cons,List.map_nil,hst2]
 have hin:=fun H=>CF P p.1 H (by omega);have hbg:=MB (s:=s) hp;refine Dd dU<|Zz<|Sq ?_;refine Cn ?_ ?_<;>intro hc4
 ·refine aH<|aO<|Sr<|Dd (by exact B5 (κ:=fF) (seen:=s.map (jR l)) (p:=(p.1,sv p.2.1,p.2.2)) (since:=c) rfl rfl rfl rfl rfl rfl rfl rfl rfl hn1)<|Dd dU<|Dd dU<|Dd aR<|Dd aR<|Zz<|Sq<|Sq ?_;refine fP.ent (E':=[(0,.mp 950 0),(1,.pv (aX P)),(5,.ref 5 0 0 0),(6,bv (CJ l s)),(10,.it 946 0),(7,sv p.1),(8,sv p.2.1)]) (H':=WZ l c (s++[hni])) (bY.get' ⟨⟨_,rfl,rfl⟩,⟨_,rfl,rfl⟩,⟨_,rfl,rfl⟩,⟨_,rfl,rfl⟩,⟨_,rfl,rfl⟩,⟨_,rfl,rfl⟩,⟨_,rfl,rfl⟩,trivial⟩ (fun j=>by rw [WZ,hit];exact gR 946 _ (D5 950 l c s) [(5,VD),(950,bJ l c)] j)) ?_;refine cR (t:=24) (n:=10) (X:=xJ P p) ?_ ?_
  ·all_goals refine Dd (eF isAgg53) ?_
   all_goals refine Dd aF<|Dd (by exact f0 rfl rfl rfl ((eG.fn call91 (IL p.1 _))))<|Dd xX<|Dm ?_
   all_goals refine Sp 20 (fun h20=>?_) fun h20=>?_
   all_goals try contradiction
   all_goals first|refine Fo<|Fo<|Fo ?_|refine On aF<|On aF<|On (by exact aB rfl rfl call92 rfl (hin _)) ?_
   all_goals refine Dd fN<|Zz ?_
   all_goals(exact⟨⟨_,rfl,by(simp only [xJ, *];rfl)⟩,rfl,rfl,rfl⟩)
  refine Cn ?_ ?_<;>intro hc5
  ·have hk2:xJ P p=true:=hc5;have hV:bH l P=1:=by rw [bH,List.any_eq_true.2 ⟨p,YR hp,hk2⟩];rfl
   rw [hV];refine Sr<|Dd aR<|Zz<|aM ?_;refine a8 (H':=[(950,bJ l c)]) (.inr rfl) rfl (aG rfl) (Fin.wk (by(simp;done)) (Hc (aS _ _ _)<|trivial) ⟨rfl,trivial⟩) ?_;exact Qq
  have hk2:xJ P p=false:=hc5;refine aH ?_;refine cR (t:=6) (n:=8) (X:=CJ l s||bigV p) ?_ ?_
  ·all_goals refine Dd aF ?_
   all_goals refine Dm ?_
   all_goals refine Sp 26 (fun h26=>?_) fun h26=>?_
   all_goals try contradiction
   all_goals first|refine Fo<|Fo<|Fo ?_|refine On aF<|On (yO aK)<|On yR ?_
   all_goals refine Dd fN<|Da ?_
   all_goals(exact⟨⟨_,rfl,by rw [h26];rfl⟩,rfl,rfl,rfl⟩)
  refine⟨s++[hni],⟨⟨hd2,hb2⟩,fun i hi q hq=>?_⟩,by rw [YI,List.length_singleton];omega,?_⟩
  ·rcases List.mem_append.1 hi with h|h
   ·exact hok i h q hq
   rw [YK] at h;subst h;rw [hp] at hq;cases hq;exact hk2
  rw [hbg];exact(bY.wk (Ea<|Eb<|Ea<|Eb<|Ea<|trivial) (Hc (IZ rfl _ _ _)<|Hb<|Hc (aS _ _ _)<|trivial) ⟨rfl,trivial⟩)
 cases hc4
abbrev iC (l:List ByteArray):List (List AV):=l.map (fun e=>(encStr e).map .pv)
def raw (e:GEdit) (s:ByteArray):Prop:=s=e.id∨s=e.other∨s=e.node∨s=e.obj.id∨s∈e.refs∨s∈e.obj.refs
abbrev dF (l:List ByteArray):List (List AV):=l.map (fun s=>(encStr s).map .pv)
def yP (l:List ByteArray):Prop:=l.Pairwise (fun a b=>qA a b=true)
end Go.Proofs.YtmkgeogoojcciaaGreatDoor
section
namespace Go.Abs
theorem yM {P:Program} {N:Nat} {o:Oper} {E:bD} {H:aA} {T:TypeId} {t:Tmp} {e:TypeId} {id g off len sz:Nat} {ob:Ob} {row:List AV} {rows':List (List AV)} (ho:o.op=.call {callee:=.builtin .clear,args:=#[.tmp t],argTypes:=#[T]}) (hS:dG P T e sz) (hZ:fV P e row) (hrow:row.length=sz)
  (hx:E.get t=some (.osl id g off len)) (hH:H.get id=some ob) (hg:ob.g=g) (hosz:ob.sz=sz) (hoff:off≤ob.rows.length) (hrows:ob.rows.take off++(List.replicate len row++ob.rows.drop (off+len))=rows') :
  bV P N o E H .any ((id,⟨g,sz,ob.ty,rows'⟩)::H):=by
 intro a w I ι h1 h2 hr he K Q hkk;obtain ⟨v,hv,hvr⟩:=he t _ hx;obtain ⟨c,h3,h4,h5⟩:=BA hr hvr hH hg;refine K5 (x:=.tmp t) (E:=(t,.osc id g off len c)::E) ho hS hZ hrow (bD.get_cons_same _ _ _) hH hg hosz hoff hrows a w I ι h1 h2 hr (fun u x hu=>?_) K Q hkk;by_cases e:t=u
 ·subst e;rw [bD.get_cons_same] at hu;cases hu;exact⟨v,hv,h5⟩
 rw [bD.get_cons_other _ _ e] at hu;exact he u x hu
end Go.Abs
namespace Go.Proofs.YtmkgeogoojcciaaGreatDoor
open Go.Proofs.Tryz
open Go.Abs
def bW:List ByteArray→List ByteArray
 | []=>[]
 | [x]=>[x]
 | x::y::r=>if x=y then bW (y::r)else x::bW (y::r)
theorem tU:∀ (l:List ByteArray) (x y:ByteArray),bW (l++[x,y])=bW (l++[x])++(if x=y then[] else[y])
 | [],x,y=>by
  show (if x=y then bW [y] else x::bW [y])=[x]++_;by_cases e:x=y
  ·rw [YG e,YG e,e];rfl
  rw [YF e,YF e];rfl
 | [a],x,y=>by
  show (if a=x then bW [x,y] else a::bW [x,y])=(if a=x then bW [x] else a::bW [x])++_;have:=tU [] x y;rw [show bW [x,y]=bW ([]++[x,y])from rfl,this]
  split<;>rfl
 | a::b::l,x,y=>by
  have:=tU (b::l) x y;show (if a=b then bW ((b::l)++[x,y])else a::bW ((b::l)++[x,y]))=(if a=b then bW ((b::l)++[x])else a::bW ((b::l)++[x]))++_;rw [this]
  split<;>rfl
theorem AQ {L:List ByteArray} {k:Nat} {x y:ByteArray} (hk:1≤k) (hx:L[k - 1]?=some x) (hy:L[k]?=some y):bW (L.take (k+1))=bW (L.take k)++(if x=y then[] else[y]):=by
 obtain ⟨j,rfl⟩:∃ j,k=j+1:=⟨k - 1,by omega⟩;rw [show j+1 - 1=j by omega] at hx;have h1:L.take (j+1)=L.take j++[x]:=by rw [List.take_add_one,hx];rfl
 have h2:L.take (j+1+1)=L.take j++[x,y]:=by rw [List.take_add_one,h1,hy,List.append_assoc];rfl
 rw [h2,h1,tU]
theorem oR:∀ {l:List ByteArray} {x:ByteArray},x∈bW l↔x∈l
 | [],x=>Iff.rfl
 | [a],x=>Iff.rfl
 | a::b::l,x=>by
  show x∈(if a=b then bW (b::l)else a::bW (b::l))↔_;have ih:=oR (l:=b::l) (x:=x)
  split
  ·next e =>
   rw [ih,e];simp
  rw [YT,ih,List.mem_cons (a:=x) (b:=a)]
theorem sF:∀ {l:List ByteArray},l.Pairwise (fun a b=>qA b a=false)→yP (bW l)
 | [],_=>.nil
 | [a],_=>List.pairwise_singleton _ _
 | a::b::l,h=>by
  have h2:=(List.pairwise_cons.1 h).2;have ih:=sF h2;show yP (if a=b then bW (b::l)else a::bW (b::l))
  split
  ·exact ih
  next e =>
  refine List.pairwise_cons.2 ⟨fun y hy=>?_,ih⟩;have hy2:=oR.1 hy;have hba:qA b a=false:=(List.pairwise_cons.1 h).1 b List.mem_cons_self;have hab:qA a b=true:=by
   cases hc:qA a b with
   | true=>rfl
   | false=>exact absurd (A3 hc hba) e
  rcases YT.1 hy2 with rfl|hy2
  ·exact hab
  have h3:=(List.pairwise_cons.1 h2).1 y hy2;cases hc:qA b y with
  | true=>exact zF hab hc
  | false=>rw [A3 h3 hc];exact hab
theorem z8:∀ (l:List ByteArray),(bW l).length≤l.length
 | []=>YN _
 | [a]=>YN _
 | a::b::l=>by
  have ih:=z8 (b::l);show (if a=b then bW (b::l)else a::bW (b::l)).length≤(b::l).length+1
  split
  ·omega
  rw [YJ];omega
theorem q9 {l:List ByteArray} {i:Nat} {s:ByteArray} (h:l[i]?=some s):(iC l)[i]?=some ((encStr s).map .pv):=by rw [Y1,h];rfl
theorem GQ {P L:List ByteArray} {j:Nat} {s:ByteArray} (h:P.length≤j) (hs:L[j]?=some s):(P++L.drop P.length)[j]?=some s:=by rw [List.getElem?_append_right h,List.getElem?_drop,show P.length+(j - P.length)=j by omega];exact hs
theorem G4 {H:aA} {id:Nat} {o:Ob} (h:H.get id=some o) (j:Nat):aA.get ((id,o)::H) j=H.get j:=by
 by_cases e:j=id
 ·subst e;rw [get_cons_same,h]
 exact get_cons_other _ _ e
theorem AP (L:List ByteArray) (g:Nat) (H:aA) (h1:H.get 901=some ⟨g,1,9,iC L⟩) (hl:L.length < 1099511627776) :
  aJ Tryz.prog 47 [.osl 901 g 0 L.length] H (fun r H'=>r=.osl 901 g 0 (bW L).length∧H'=(901,⟨g,1,9,iC (bW L++List.replicate (L.length - (bW L).length) sNil)⟩)::H):=by
 refine Bd func47 rfl ntmps47 ?_;refine fP.ent (E':=[(0,.osl 901 g 0 L.length)]) (H':=(901,⟨g,1,9,iC L⟩)::H) (bY.get' ⟨⟨_,rfl,rfl⟩,trivial⟩ (G4 h1)) ?_;refine Sr<|Dd aR<|Zz<|Sq<|Sr<|Dd aF<|Dd (by exact cW rfl aP rfl rfl rfl)<|Dd dO<|Zz ?_;refine Cn ?_ ?_<;>intro hc1
 ·have hlt:L.length < 2:=by have:=YD hc1;omega
  have hc0:bW L=L:=by
   match L,hlt with
   | [],_=>rfl
   | [a],_=>rfl
  refine Sr<|Dd aF<|Dd aR<|Zz<|aM ?_;refine a8 (H':=(901,⟨g,1,9,iC L⟩)::H) (.inr rfl) rfl (aG rfl) Fin.refl ⟨by rw [hc0],by rw [hc0,Nat.sub_self,List.replicate_zero,List.append_nil]⟩
 have hge:2≤L.length:=by have:=YE hc1;omega
 refine aH<|Sq<|Sr<|Dd aR<|Zz<|aO ?_;refine bM (σ:=Nat) (fun i=>([(0,.osl 901 g 0 L.length),(3,iv (i:Int))],(901,⟨g,1,9,iC L⟩)::H)) (fun i=>1≤i∧i≤L.length∧bW (L.take i)=L.take i) (fun i=>L.length - i) 1 ⟨by omega,by omega,by
  obtain ⟨x,hx⟩:=aZ (l:=L) (k:=0) (by omega);rw [List.take_add_one,hx];rfl⟩ ?_ ?_
 ·exact bY.get' ⟨⟨_,rfl,rfl⟩,⟨_,rfl,rfl⟩,trivial⟩ (fun j=>rfl)
 rintro i ⟨hi1,hi2,hi3⟩;refine Sq<|Sr<|Dd aF<|Dd aF<|Dd (by exact cW rfl aP rfl rfl rfl)<|Dd dO<|Zz ?_;refine Cn ?_ ?_<;>intro hc2
 ·have hil:i < L.length:=by have:=YD hc2;omega
  obtain ⟨y,hy⟩:=aZ hil;obtain ⟨x,hx⟩:=aZ (l:=L) (k:=i - 1) (by omega);have ht:=AQ hi1 hx hy;refine aH<|Sq<|aO<|Sq<|bO follows<|Cq aF<|Cq aF<|Cq (by exact dD rfl b8 rfl rfl rfl rfl rfl (by omega) (by exact YS _) hil (YZ _))<|Cq (by exact aW rfl aV rfl rfl rfl (q9 hy) rfl)<|Cq aF<|Cq aF<|Cq (by exact dS rfl rfl rfl (by exact iB (by omega) (by omega)))<|Cq (by exact dD (m:=i - 1) rfl b8 rfl rfl rfl rfl rfl (by omega) (show ((i:Int) - 1).toNat=i - 1 by omega) (by omega) (YZ _))<|Cq (by exact aW rfl aV rfl rfl rfl (q9 hx) rfl)<|Cq T8<|cU<|Kr ?_;refine Cn ?_ ?_<;>intro hc3
  ·have hyx:=YD hc3;rw [YG hyx.symm,List.append_nil,hi3] at ht;refine Sr<|Dd aF<|Dd aF<|Dd (by exact eY (l:=i) (h:=L.length) rfl b8 rfl rfl rfl rfl rfl rfl (by omega) (YN _) (YZ _) rfl)<|Dd aR<|Zz<|Sq<|Sr<|Dd aR<|Zz<|aO ?_;refine t6 (fun(k:Nat) (R:List ByteArray)=>([(0,.osl 901 g 0 L.length),(3,iv (R.length:Int)),(4,.osl 901 g i (L.length - i)),(5,iv (k:Int))],(901,⟨g,1,9,iC (R++L.drop R.length)⟩)::H)) (fun k R=>1≤k∧i+k≤L.length∧R=bW (L.take (i+k))∧R.length+1≤i+k) (fun k R=>L.length - (i+k)) 1 (L.take i) ⟨by omega,by omega,ht.symm,by rw [YV];omega⟩ ?_ ?_
   ·have hti:(L.take i).length=i:=by rw [YV];omega
    rw [hti,List.take_append_drop];exact bY.get' ⟨⟨_,rfl,rfl⟩,⟨_,rfl,rfl⟩,⟨_,rfl,rfl⟩,⟨_,rfl,rfl⟩,trivial⟩ (fun j=>rfl)
   rintro k R ⟨hk1,hk2,hk3,hk4⟩;refine Sq<|Sr<|Dd aF<|Dd aF<|Dd (by exact cW rfl aP rfl rfl rfl)<|Dd dO<|Zz ?_;refine Cn ?_ ?_<;>intro hc4
   ·have hkl:i+k < L.length:=by have:=YD hc4;omega
    obtain ⟨v,hv⟩:=aZ hkl;obtain ⟨u,hu⟩:=aZ (l:=L) (k:=i+k - 1) (by omega);have ht2:=AQ (by omega) hu hv;have hv2:=q9 (GQ (P:=R) (by omega) hv);have hu2:=q9 (GQ (P:=R) (by omega) hu);refine aH<|Sq<|aO<|Sq<|bO follows<|Cq aF<|Cq aF<|Cq (by exact dD (m:=k) rfl b8 rfl rfl rfl rfl rfl (by omega) (YS _) (by omega) rfl)<|Cq (by exact aW rfl aV rfl rfl rfl hv2 rfl)<|Cq aF<|Cq aF<|Cq (by exact dS rfl rfl rfl (by exact iB (by omega) (by omega)))<|Cq (by exact dD (m:=k - 1) (m2:=i+k - 1) rfl b8 rfl rfl rfl rfl rfl (by omega) (show ((k:Int) - 1).toNat=k - 1 by omega) (by omega) (by omega))<|Cq (by exact aW rfl aV rfl rfl rfl hu2 rfl)<|Cq NP<|cU<|Kr ?_;refine Cn ?_ ?_<;>intro hc5
    ·have hne:¬ u=v:=fun e=>by
      have h:=hc5;rw [e] at h;simp at h
     rw [YF hne,← hk3] at ht2;have hR0:∃ z,L[R.length]?=some z:=aZ (by omega);obtain ⟨z,hz⟩:=hR0;have hat:(iC (R++L.drop R.length))[R.length]?=some ((encStr z).map .pv):=q9 (GQ (P:=R) (YN _) hz);have hset:(iC (R++L.drop R.length)).set R.length [sv v]=iC ((R++[v])++L.drop (R++[v]).length):=by
      have hd:L.drop R.length=z::L.drop (R.length+1):=by
       obtain ⟨p,q⟩:=YL.1 hz;rw [List.drop_eq_getElem_cons p,q]
      rw [hd,YI,List.length_singleton,iC,List.map_append,List.map_cons,List.set_append_right _ _ (by rw [YH];exact YN _),YH,Nat.sub_self,List.set_cons_zero,List.append_assoc,iC,List.map_append,List.map_append];rfl
     refine Sr<|Dd aF<|Dd aF<|Dd aF<|Dd aF<|Dd (by exact dD (m:=k) rfl b8 rfl rfl rfl rfl rfl (by omega) (YS _) (by omega) rfl)<|Dd (by exact aW rfl aV rfl rfl rfl hv2 rfl)<|Dd (by exact dD rfl b8 rfl rfl rfl rfl rfl (by omega) (by exact YS _) (by omega:R.length < L.length) (YZ _))<|Uu (by exact cV rfl sizeOf9 rfl rfl rfl rfl rfl hat (by simp [encStr]) rfl hset)<|Zz<|Rg<|Dd aF<|Dd mU<|Dd aR<|Zz<|Rg<|Dd aF<|Dd mU<|Da ?_;refine⟨k+1,R++[v],⟨by omega,by omega,ht2.symm,by rw [YI,List.length_singleton];omega⟩,by omega,?_⟩;rw [show (((R++[v]).length:Nat):Int)=(R.length:Int)+1 by rw [YI,List.length_singleton];rfl];exact bY.dup ⟨⟨_,rfl,rfl⟩,⟨_,rfl,rfl⟩,⟨_,rfl,rfl⟩,⟨_,rfl,rfl⟩,trivial⟩
    have he:u=v:=by
     have h:=hc5;have h2:v=u:=by simpa using h
     exact h2.symm
    rw [YG he,List.append_nil,← hk3] at ht2;refine aH<|Rg<|Dd aF<|Dd mU<|Da ?_;refine⟨k+1,R,⟨by omega,by omega,ht2.symm,by omega⟩,by omega,?_⟩;exact bY.get' ⟨⟨_,rfl,rfl⟩,⟨_,rfl,rfl⟩,⟨_,rfl,rfl⟩,⟨_,rfl,rfl⟩,trivial⟩ (fun j=>rfl)
   have hge2:i+k=L.length:=by have:=YE hc4;omega
   rw [hge2,List.take_length] at hk3;have hRl:R.length≤L.length:=by omega
   have hmix:(iC (R++L.drop R.length)).length=L.length:=by
    rw [YH,YI,YW];omega
   have hcl:(iC (R++L.drop R.length)).take R.length++(List.replicate (L.length - R.length) [sv sNil]++(iC (R++L.drop R.length)).drop (R.length+(L.length - R.length)))=iC (R++List.replicate (L.length - R.length) sNil):=by
    have hd0:(iC (R++L.drop R.length)).drop (R.length+(L.length - R.length))=[]:=List.drop_eq_nil_of_le (by rw [hmix];omega);rw [hd0,List.append_nil,iC,List.map_append,List.take_left' (YH _),iC,List.map_append,List.map_replicate];rfl
   refine bI<|Sr<|Dd aF<|Dd aF<|Dd (by exact eY (l:=R.length) (h:=L.length) rfl b8 rfl rfl rfl rfl rfl rfl hRl (YN _) (YZ _) rfl)<|Uu (by exact yM rfl b8 XJ rfl rfl rfl rfl rfl (by rw [hmix];exact hRl) hcl)<|Zz<|Sr<|Dd aF<|Dd aF<|Dd (by exact eY (l:=0) (h:=R.length) rfl b8 rfl rfl rfl rfl rfl rfl (YY _) hRl (YZ _) rfl)<|Dd aR<|Zz<|aM ?_;refine a8 (H':=(901,⟨g,1,9,iC (R++List.replicate (L.length - R.length) sNil)⟩)::H) (.inr rfl) rfl (aG rfl) (Fin.get' (fun j=>gR _ _ _ _ j)) ⟨by rw [hk3];rfl,by rw [hk3]⟩
  have hyx:=YE hc3;rw [YF (fun e=>hyx e.symm),hi3] at ht;refine aH<|Rg<|Dd aF<|Dd mU<|Da ?_;refine⟨i+1,⟨by omega,by omega,?_⟩,by omega,bY.get' ⟨⟨_,rfl,rfl⟩,⟨_,rfl,rfl⟩,trivial⟩ (fun j=>rfl)⟩;rw [ht,List.take_add_one,hy];rfl
 have hge3:i=L.length:=by have:=YE hc2;omega
 subst hge3;rw [List.take_length] at hi3;refine bI<|Sr<|Dd aF<|Dd aR<|Zz<|aM ?_;refine a8 (H':=(901,⟨g,1,9,iC L⟩)::H) (.inr rfl) rfl (aG rfl) Fin.refl ⟨by rw [hi3],by rw [hi3,Nat.sub_self,List.replicate_zero,List.append_nil]⟩
end Go.Proofs.YtmkgeogoojcciaaGreatDoor
end
namespace Go.Proofs.YtmkgeogoojcciaaGreatDoor
open Go.Proofs.Tryz
open Go.Abs Go.Lib
theorem DD (a b:ByteArray):qA a b=decide (C3 a < C3 b):=by unfold qA;rw [iO,ByteArray.toList_eq,ByteArray.toList_eq];rfl
theorem C2 (l:List UInt8):C3 (TN l)=l:=by simp [C3,TN]
theorem zE (l:List ByteArray):(cI l).Pairwise (fun a b=>qA b a=false):=by unfold cI;rw [List.pairwise_map];refine List.Pairwise.imp (R:=fun(x y:List UInt8)=>decide (x≤y)=true) (fun {x y} h=>?_) (List.pairwise_mergeSort (le:=fun(x y:List UInt8)=>decide (x≤y)) (fun a b c h1 h2=>decide_eq_true (List.le_trans (YD h1) (YD h2))) uE _);rw [DD,C2,C2];exact decide_eq_false (List.not_lt.2 (YD h))
theorem J5 {l:List ByteArray} (hn:l.Nodup):yP (cI l):=by
 have hp:(cI l).Pairwise (fun a b=>a≠b):=(p9 l).symm.pairwise hn (fun {a b} h=>h.symm);refine(hp.and (zE l)).imp fun {a b} h=>?_;obtain ⟨h1,h2⟩:=h;cases hc:qA a b with
 | true=>rfl
 | false=>exact absurd (A3 hc h2) h1
theorem wP {l:List ByteArray} (h:yP l):l.Nodup:=by refine List.Pairwise.imp (fun {a b} h e=>?_) h;subst e;rw [HZ] at h;cases h
theorem H4 {a b:ByteArray} (h:qA a b=true):qA b a=false:=by
 cases e:qA b a with
 | false=>rfl
 | true=>have:=zF h e;rw [HZ] at this;cases this
theorem J6 {l:List ByteArray} (h:yP l):cI l=l:=by
 have hp:(l.map C3).Pairwise (fun x y=>decide (x≤y)=true):=by
  rw [List.pairwise_map];refine h.imp fun {a b} h=>decide_eq_true ?_;have h2:=H4 h;rw [DD] at h2;exact List.not_lt.1 (YE h2)
 rw [cI,List.mergeSort_of_pairwise hp,IP]
theorem vP:∀ {l:List ByteArray},l.Pairwise (fun a b=>qA b a=false)→eJ l=true
 | [],_=>rfl
 | [a],_=>rfl
 | a::b::r,h=>by
  have h1:=(List.pairwise_cons.1 h).1 b List.mem_cons_self;rw [eJ,h1,vP (List.pairwise_cons.1 h).2];rfl
theorem SJ {l:List ByteArray} (h:yP l):l.Pairwise (fun a b=>qA b a=false):=h.imp fun {a b} h=>H4 h
theorem AA:∀ {l:List ByteArray},l.Nodup→bW l=l
 | [],_=>rfl
 | [a],_=>rfl
 | a::b::r,h=>by
  have hn:=List.nodup_cons.1 h;have e:¬ a=b:=fun e=>hn.1 (by rw [e];exact List.mem_cons_self);show (if a=b then bW (b::r)else a::bW (b::r))=_;rw [YF e,AA hn.2]
theorem BU {k v:ByteArray} {n:Nat}:∀ {l:bT},fD l→(k,v,n)∈l→cT l k=some v
 | [],_,h=>by cases h
 | (k',a,m)::r,hn,h=>by
  have h2:=List.nodup_cons.1 hn;rw [cT];rcases YT.1 h with e|h
  ·cases e;rw [YG rfl]
  rw [YF (fun e=>h2.1 (by subst e;exact List.mem_map.2 ⟨_,h,rfl⟩))];exact BU h2.2 h
theorem BR {k v:ByteArray}:∀ {l:bT},cT l k=some v→∃ n,(k,v,n)∈l
 | [],h=>by cases h
 | (k',a,m)::r,h=>by
  rw [cT] at h;by_cases e:k'=k
  ·rw [YG e] at h;cases h;subst e;exact⟨m,List.mem_cons_self⟩
  rw [YF e] at h;obtain ⟨n,hn⟩:=BR h;exact⟨n,List.mem_cons_of_mem _ hn⟩
theorem zW {a b:bT} (ha:fD a) (hb:fD b) (h:∀ k,cT a k=cT b k):(a.map Prod.fst).Perm (b.map Prod.fst):=(List.perm_ext_iff_of_nodup ha hb).2 fun k=>by
 have h1:=gN (k:=k) (l:=a);have h2:=gN (k:=k) (l:=b);rw [h k] at h1;exact Decidable.not_iff_not.1 (h1.symm.trans h2)
theorem sY {a b:bT} (ha:fD a) (hb:fD b) (h:∀ k,cT a k=cT b k):cH a=cH b:=vQ (zW ha hb h)
theorem BS {a b:bT} (ha:fD a) (hb:fD b) (h:∀ k,cT a k=cT b k):a.length=b.length:=by
 have:=(zW ha hb h).length_eq
 rwa [YH,YH] at this
theorem J0 {a b:bT} (ha:fD a) (hb:fD b) (h:∀ k,cT a k=cT b k) (P:List ByteArray):b9 a P=b9 b P:=by
 have hg:(fun x=>[x,dA a x])=fun x=>[x,dA b x]:=by
  funext x;rw [lL,lL,h]
 have hl:(bQ a).length=(bQ b).length:=by rw [bQ,bQ,YH,YH,BS ha hb h]
 rw [b9,b9,sY ha hb h,wZ,wZ,hg,hl]
theorem zA {a b:bT} (ha:fD a) (hb:fD b) (h:∀ k,cT a k=cT b k) (P:List ByteArray):bB a P=bB b P:=by rw [bB,bB,J0 ha hb h]
theorem E4 {a b:bT} (h:∀ k,cT a k=cT b k) (q:ByteArray×ByteArray×Nat→Bool) (hq:∀ k v n m,q (k,v,n)=q (k,v,m)) (ha:fD a):a.any q=true→b.any q=true:=by intro h1;obtain ⟨⟨k,v,n⟩,hp,h2⟩:=List.any_eq_true.1 h1;have e:=BU ha hp;rw [h] at e;obtain ⟨m,hm⟩:=BR e;exact List.any_eq_true.2 ⟨_,hm,by rw [hq k v m n];exact h2⟩
theorem JR {a b:bT} (ha:fD a) (hb:fD b) (h:∀ k,cT a k=cT b k) (q:ByteArray×ByteArray×Nat→Bool) (hq:∀ k v n m,q (k,v,n)=q (k,v,m)):a.any q=b.any q :=Bool.eq_iff_iff.2 ⟨E4 h q hq ha,E4 (fun k=>(h k).symm) q hq hb⟩
theorem FH {a b:bT} (ha:fD a) (hb:fD b) (h:∀ k,cT a k=cT b k) (P:List ByteArray):bH a P=bH b P:=by rw [bH,bH,JR ha hb h (xJ P) (fun k v n m=>rfl),JR ha hb h bigV (fun k v n m=>rfl)]
def rU (W:List ByteArray):Nat→bT×Nat
 | 0=>([],0)
 | j+1=>(gF (rU W j).1 (W.getD (2*j) sNil) (W.getD (2*j+1) sNil) (rU W j).2,m6 (rU W j).1 (W.getD (2*j) sNil) (rU W j).2)
theorem BM (W:List ByteArray):∀ j,dQ (rU W j).1 (rU W j).2∧fD (rU W j).1
 | 0=>⟨⟨List.Pairwise.nil,fun p hp=>(by cases hp)⟩,List.nodup_nil⟩
 | j+1=>⟨BV (BM W j).1 _ _,BW (BM W j).2 _ _ _⟩
theorem wK (k v:ByteArray) (c:Nat) (l:bT):l.length≤(gF l k v c).length∧(gF l k v c).length≤l.length+1:=by
 have h:=congrArg List.length (pE k v c l);rw [YH] at h;rw [h]
 split
 ·rw [YH];omega
 rw [YI,YH,List.length_singleton];omega
theorem BN (W:List ByteArray):∀ j,(rU W j).1.length≤j
 | 0=>YN _
 | j+1=>by
  have h1:=BN W j;have h2:=(wK (W.getD (2*j) sNil) (W.getD (2*j+1) sNil) (rU W j).2 (rU W j).1).2;show (gF (rU W j).1 (W.getD (2*j) sNil) (W.getD (2*j+1) sNil) (rU W j).2).length≤_;omega
theorem BO (F R:List ByteArray):∀ j,2*j≤F.length→rU (F++R) j=rU F j
 | 0,_=>rfl
 | j+1,h=>by
  have h1:(F++R).getD (2*j) sNil=F.getD (2*j) sNil:=by rw [List.getD_eq_getElem?_getD,List.getD_eq_getElem?_getD,List.getElem?_append_left (by omega)]
  have h2:(F++R).getD (2*j+1) sNil=F.getD (2*j+1) sNil:=by rw [List.getD_eq_getElem?_getD,List.getD_eq_getElem?_getD,List.getElem?_append_left (by omega)]
  rw [rU,rU,BO F R j (by omega),h1,h2]
theorem AD (g:ByteArray→ByteArray):∀ (S:List ByteArray) (j:Nat) (s:ByteArray),S[j]?=some s→(S.flatMap fun x=>[x,g x])[2*j]?=some s∧(S.flatMap fun x=>[x,g x])[2*j+1]?=some (g s)
 | [],j,s,h=>by cases h
 | x::r,0,s,h=>by cases h;exact⟨rfl,rfl⟩
 | x::r,j+1,s,h=>AD g r j s h
theorem DV (g:ByteArray→ByteArray) {S:List ByteArray} (hn:S.Nodup):∀ j,j≤S.length→(rU (S.flatMap fun x=>[x,g x]) j).1.map Prod.fst=S.take j∧∀ k,cT (rU (S.flatMap fun x=>[x,g x]) j).1 k=if k∈S.take j then some (g k)else none
 | 0,_=>⟨rfl,fun k=>by rw [List.take_zero,YF YX];rfl⟩
 | j+1,h=>by
  obtain ⟨h1,h2⟩:=DV g hn j (by omega);obtain ⟨s,hs⟩:=aZ (l:=S) (k:=j) (by omega);obtain ⟨f1,f2⟩:=AD g S j s hs;have g1:(S.flatMap fun x=>[x,g x]).getD (2*j) sNil=s:=by rw [List.getD_eq_getElem?_getD,f1];rfl
  have g2:(S.flatMap fun x=>[x,g x]).getD (2*j+1) sNil=g s:=by rw [List.getD_eq_getElem?_getD,f2];rfl
  have ht:S.take (j+1)=S.take j++[s]:=dB hs;have hns:s∉S.take j:=fun hm=>by
   have hn2:(S.take (j+1)).Nodup:=hn.sublist (List.take_sublist _ _);rw [ht] at hn2;exact(List.nodup_append.1 hn2).2.2 s hm s (YK.2 rfl) rfl
  rw [rU,g1,g2,ht];constructor
  ·rw [pE,h2 s,YF hns,h1];rfl
  intro k;rw [vA,h2 k];by_cases e:s=k
  ·subst e;rw [YG rfl,YG (by simp)]
  rw [YF e];by_cases hk:k∈S.take j
  ·rw [YG hk,YG (List.mem_append_left _ hk)]
  rw [YF hk,YF (fun hm=>by
   rcases List.mem_append.1 hm with h|h
   ·exact hk h
   rw [YK] at h;exact e h.symm)]
theorem kK {l:bT} {k:ByteArray}:k∈cH l↔k∈l.map Prod.fst:=(p9 _).mem_iff
theorem FK {l:bT} (h:fD l):yP (cH l):=J5 h
theorem K9 {l:bT} (h:fD l) (R:List ByteArray):∀ k,cT (rU (((cH l).flatMap fun x=>[x,dA l x])++R) l.length).1 k=cT l k:=by
 intro k;have hl:=g9 l;rw [BO _ _ _ (by rw [gB,hl];omega)];obtain ⟨_,h2⟩:=DV (dA l) (wP (FK h)) l.length (by omega);rw [h2,List.take_of_length_le (by omega)];by_cases hk:k∈cH l
 ·rw [YG hk,lL];cases e:cT l k with
  | some v=>rfl
  | none=>exact absurd (kK.1 hk) (gN.1 e)
 rw [YF hk];exact(gN.2 (fun h=>hk (kK.2 h))).symm
abbrev yA (t:List UInt8):List ByteArray:=(dW t).1
abbrev TI (t:List UInt8):Int:=cX ((yA t).getD 0 sNil)
abbrev H8 (t:List UInt8):Nat:=(TI t).toNat
abbrev eZ (t:List UInt8):bT×Nat:=rU ((yA t).drop 1) (H8 t)
abbrev cZ (t:List UInt8):List ByteArray:=(yA t).drop (2*H8 t+2)
def qH (t:List UInt8):Bool:=!(dW t).2||decide ((yA t).length=0)
def j3 (t:List UInt8):Bool:=((gD ((yA t).getD 0 sNil)||decide (TI t < 0))||decide ((((yA t).length / 2:Nat):Int) < TI t))||decide (((yA t).length:Int) < 2*TI t+2)
def qG (t:List UInt8):Bool:=((((decide ((eZ t).1.length+(cZ t).length=0)||!decide (bH (eZ t).1 (cZ t)=0))||!decide (bB (eZ t).1 (cZ t)=aQ [ofL t]))||!eJ (cZ t))||decide ((bW (cZ t)).length < (cZ t).length))
def j2 (t:List UInt8):Bool:=!qH t&&(!j3 t&&!qG t)
theorem jP (l:bT) (P:List ByteArray):b9 l P=dE (l.length:Int)::(((cH l).flatMap fun x=>[x,dA l x])++(dE (P.length:Int)::P)):=by rw [b9,wZ,List.take_length,bQ,YH,YH,List.cons_append,List.cons_append,List.append_assoc];rfl
theorem m7:∀ {L:List ByteArray} {x:ByteArray},x∈L→x.size≤(aQ L).length
 | [],x,h=>by cases h
 | y::L,x,h=>by
  rw [dK,YI,YJ,YI,cL];rcases YT.1 h with rfl|h
  ·omega
  have:=m7 h;omega
theorem H7 {l:bT} {P:List ByteArray} (hn:fD l) (hP:yP P) (h0:0 < l.length+P.length) (hw:bH l P=0) (hsz:(aQ (b9 l P)).length < 1000000000000) :
  j2 (aQ (b9 l P))=true∧(∀ k,cT (eZ (aQ (b9 l P))).1 k=cT l k)∧cZ (aQ (b9 l P))=P:=by
 have hsp:dW (aQ (b9 l P))=(b9 l P,true):=pR fun x hx=>by have:=m7 hx;omega
 have hlen:=oK (b9 l P);have hparts:=jP l P;have hll:(b9 l P).length=2*l.length+2+P.length:=by
  rw [hparts,YJ,YI,gB,g9,YJ];omega
 have hD:(b9 l P).getD 0 sNil=dE (l.length:Int):=by rw [hparts];rfl
 have hi:dE (l.length:Int)=ofL (decDigits l.length):=jJ (by rw [a7,kN]);obtain ⟨n1,n2⟩:=sK (l:=decDigits l.length) (u:=l.length) (dJ (k:=18) (by omega) (by decide)) (nB _) (fun b=>m9 _) (k8 _);have hL:yA (aQ (b9 l P))=b9 l P:=by rw [yA,hsp]
 have hV:TI (aQ (b9 l P))=(l.length:Int):=by rw [TI,hL,hD,hi,n2]
 have hN:H8 (aQ (b9 l P))=l.length:=by rw [H8,hV,YS]
 have hput:∀ k,cT (eZ (aQ (b9 l P))).1 k=cT l k:=by
  rw [eZ,hL,hN,hparts,List.drop_succ_cons,List.drop_zero];exact K9 hn _
 have hnd:fD (eZ (aQ (b9 l P))).1:=(BM _ _).2;have hdrop:cZ (aQ (b9 l P))=P:=by
  rw [cZ,hL,hN,show b9 l P=(dE (l.length:Int)::(((cH l).flatMap fun x=>[x,dA l x])++[dE (P.length:Int)]))++P by rw [hparts];simp];exact List.drop_left' (by rw [YJ,YI,gB,g9];rfl)
 refine⟨?_,hput,hdrop⟩;have b1:qH (aQ (b9 l P))=false:=by
  rw [qH,hL,hsp,hll,decide_eq_false (by omega)];rfl
 have b2:j3 (aQ (b9 l P))=false:=by
  rw [j3,hV,hL,hD,hi,n1,hll,decide_eq_false (by omega),decide_eq_false (by omega),decide_eq_false (by omega)];rfl
 have b3:qG (aQ (b9 l P))=false:=by
  rw [qG,hdrop,FH hnd hn hput,hw,zA hnd hn hput,BS hnd hn hput,vP (SJ hP),AA (wP hP),decide_eq_false (by omega),decide_eq_true rfl,show bB l P=aQ [ofL (aQ (b9 l P))] from rfl,decide_eq_true rfl,decide_eq_false (by omega)];rfl
 rw [j2,b1,b2,b3];rfl
theorem oL (n:Nat) (h:n < 1000000000000000000):(dE (n:Int)).size≤21:=qM (by omega) (by omega)
theorem uK {M:Nat} (hM:M < 1000000000000000000):∀ (L:List ByteArray),(∀ s∈L,s.size≤M)→(aQ L).length≤L.length*(M+22)
 | [],_=>YY _
 | s::r,h=>by
  have ih:=uK hM r (fun x hx=>h x (List.mem_cons_of_mem _ hx));have hs:=h s List.mem_cons_self;have hd:=dJ (k:=18) (u:=s.size) (by omega) (by decide);rw [dK,YI,YJ,YI,cL,YJ,Nat.add_mul];omega
theorem vN:∀ (n:Nat) (t:List UInt8) (acc:List ByteArray) (x:ByteArray),x∈(eS n t acc).1→x∈acc∨x.size≤t.length
 | 0,t,acc,x,h=>.inl h
 | n+1,t,acc,x,h=>by
  have hcl:=(HB t).2;rw [eS] at h
  split at h
  ·exact .inl h
  split at h
  ·cases h
  rcases vN n _ _ x h with h|h
  ·rcases List.mem_append.1 h with h|h
   ·exact .inl h
   rw [YK.1 h,bR,YV];exact .inr (by omega)
  rw [YW] at h;exact .inr (by omega)
theorem A6 {t:List UInt8} {x:ByteArray} (h:x∈yA t):x.size≤t.length:=by
 rcases vN _ _ _ _ h with h|h
 ·cases h
 exact h
theorem D2 {k v:ByteArray} {c:Nat} {p:ByteArray×ByteArray×Nat}:∀ {l:bT},p∈gF l k v c→p∈l∨(p.1=k∧p.2.1=v)
 | [],h=>by
  rw [YK.1 h];exact .inr ⟨rfl,rfl⟩
 | (k',a,n)::r,h=>by
  rw [gF] at h
  split at h
  ·rcases YT.1 h with h|h
   ·rw [h];exact .inr ⟨rfl,rfl⟩
   exact .inl (List.mem_cons_of_mem _ h)
  rcases YT.1 h with h|h
  ·rw [h];exact .inl List.mem_cons_self
  rcases D2 h with h|h
  ·exact .inl (List.mem_cons_of_mem _ h)
  exact .inr h
theorem z7 {W:List ByteArray} {M:Nat} (h:∀ x∈W,x.size≤M) (i:Nat):(W.getD i sNil).size≤M:=by
 rw [List.getD_eq_getElem?_getD];cases e:W[i]? with
 | none=>exact YY _
 | some x=>exact h x (YR e)
theorem IN {W:List ByteArray} {M:Nat} (h:∀ x∈W,x.size≤M):∀ (j:Nat) (p:ByteArray×ByteArray×Nat),p∈(rU W j).1→p.1.size≤M∧p.2.1.size≤M
 | 0,p,hp=>by cases hp
 | j+1,p,hp=>by
  rcases D2 hp with h1|⟨h1,h2⟩
  ·exact IN h j p h1
  rw [h1,h2];exact⟨z7 h _,z7 h _⟩
theorem qK {M:Nat} (k:ByteArray):∀ {l:bT},(∀ p∈l,p.2.1.size≤M)→(dA l k).size≤M
 | [],_=>YY _
 | (k',a,n)::r,h=>by
  rw [dA]
  split
  ·exact h _ List.mem_cons_self
  exact qK k fun p hp=>h p (List.mem_cons_of_mem _ hp)
theorem y9 (l:bT) (P:List ByteArray):(b9 l P).length=2*l.length+2+P.length:=by rw [jP,YJ,YI,gB,g9,YJ];omega
theorem n7 {l:bT} {P:List ByteArray} {M:Nat} (h21:21≤M) (hM:M < 1000000000) (hl:∀ p∈l,p.1.size≤M∧p.2.1.size≤M) (hP:∀ s∈P,s.size≤M) (hn:2*l.length+2+P.length < 1000000000) :
  (bB l P).length≤(2*l.length+2+P.length)*(M+22)+22:=by
 have h1:(aQ (b9 l P)).length≤(b9 l P).length*(M+22):=by
  refine uK (by omega) _ fun s hs=>?_;rw [jP] at hs;rcases YT.1 hs with rfl|hs
  ·have:=oL l.length (by omega);omega
  rcases List.mem_append.1 hs with hs|hs
  ·obtain ⟨x,hx,hs⟩:=List.mem_flatMap.1 hs;simp only [YT,YX,or_false] at hs;rcases hs with rfl|rfl
   ·obtain ⟨p,hp,rfl⟩:=List.mem_map.1 (kK.1 hx);exact(hl p hp).1
   exact qK x fun p hp=>(hl p hp).2
  rcases YT.1 hs with rfl|hs
  ·have:=oL P.length (by omega);omega
  exact hP s hs
 rw [y9] at h1;have hb:(2*l.length+2+P.length)*(M+22)≤1000000000*1000000022:=Nat.mul_le_mul (by omega) (by omega);have hd:=dJ (k:=19) (u:=(aQ (b9 l P)).length) (by omega) (by decide);rw [bB,dK,YI,YJ,YI,a7,bR];have h0:(aQ []).length=0:=rfl;omega
theorem N1 {t:List UInt8} (ht:t.length < 1000000) (hb:j3 t=false):(bB (eZ t).1 (cZ t)).length < 35184372088832∧(eZ t).1.length≤t.length∧(cZ t).length≤t.length:=by
 have h1:=BN ((yA t).drop 1) (H8 t);have hlen:(yA t).length≤t.length:=by
  have go:∀ (n:Nat) (u:List UInt8) (acc:List ByteArray),(eS n u acc).1.length≤acc.length+n:=by
   intro n
   induction n with
   | zero=>intro u acc;exact Nat.le_add_right _ _
   | succ n ih =>
    intro u acc;rw [eS]
    split
    ·exact Nat.le_add_right _ _
    split
    ·exact YY _
    have:=ih ((uR u).drop (JC u)) (acc++[ofL ((uR u).take (JC u))]);rw [YI,List.length_singleton] at this;omega
  have:=go t.length t [];rw [List.length_nil,YZ] at this;exact this
 rw [j3] at hb;simp only [Y3,YP] at hb;have h2:H8 t≤(yA t).length / 2:=by
  have h3:=hb.1.2;have h4:=hb.1.1.2;rw [H8];omega
 have h5:(eZ t).1.length≤t.length:=by
  show (rU ((yA t).drop 1) (H8 t)).1.length≤_;omega
 have h6:(cZ t).length≤t.length:=by
  rw [cZ,YW];omega
 refine⟨?_,h5,h6⟩;have h7:=n7 (l:=(eZ t).1) (P:=cZ t) (M:=1000000) (by decide) (by decide) (fun p hp=>by
  have:=IN (W:=(yA t).drop 1) (M:=t.length) (fun x hx=>A6 (List.mem_of_mem_drop hx)) _ p hp;omega) (fun s hs=>by have:=A6 (List.mem_of_mem_drop hs);omega) (by omega)
 have h8:(2*(eZ t).1.length+2+(cZ t).length)*(1000000+22)≤3000002*1000022:=Nat.mul_le_mul (by omega) (by omega);omega
structure Calm (d:DSt) (n:Nat):Prop where
 inv:DInv d n 0
 off:d.off=false
 na:∀ a w b,d.arm≠.on a w b
theorem Calm.q {d:DSt} {n:Nat} (h:Calm d n):d.q=[]:=List.length_eq_zero_iff.1 (Nat.le_zero.1 h.inv.q)
theorem sI {n:Nat} (h1:1≤n) (h2:n≤8000):Calm (lE n) n:=⟨SI h1 h2,rfl,fun a w b h=>by cases h⟩
theorem AM {s:DSt} (h:∀ a w b,s.arm≠.on a w b):dI s=s∧eB s=0:=by
 unfold dI eB;cases e:s.arm with
 | on a w b=>exact absurd e (h a w b)
 | never=>exact⟨rfl,rfl⟩
 | off a w b=>exact⟨rfl,rfl⟩
def j9 (cells:List ByteArray) (p:Nat):List ByteArray→List ByteArray
 | []=>cells
 | t::r=>j9 (cells.set p t) (p+1) r
def q0 (p:Nat):List ByteArray→List (Nat×ByteArray)
 | []=>[]
 | t::r=>(p,t)::q0 (p+1) r
theorem A8:∀ (A B:List ByteArray) (p:Nat),q0 p (A++B)=q0 p A++q0 (p+A.length) B
 | [],B,p=>rfl
 | t::A,B,p=>by
  rw [List.cons_append,q0,q0,A8 A B (p+1),List.cons_append,YJ,Nat.add_assoc p 1,Nat.add_comm 1 A.length]
theorem u7:∀ (L cells:List ByteArray) (p:Nat),cF cells (q0 p L)=j9 cells p L
 | [],_,_=>rfl
 | t::r,cells,p=>u7 r (cells.set p t) (p+1)
theorem jU:∀ (L cells:List ByteArray) (p:Nat),(j9 cells p L).length=cells.length
 | [],_,_=>rfl
 | t::r,cells,p=>(jU r (cells.set p t) (p+1)).trans List.length_set
theorem iH:∀ (L cells:List ByteArray) (p j:Nat),(j9 cells p L)[j]?=if p≤j∧j < p+L.length∧j < cells.length then L[j - p]? else cells[j]?
 | [],cells,p,j=>by rw [j9,YF (by rw [List.length_nil];omega)]
 | t::r,cells,p,j=>by
  rw [j9,iH r (cells.set p t) (p+1) j,List.length_set,YJ];by_cases h:p≤j∧j < p+(r.length+1)∧j < cells.length
  ·rw [YG h];by_cases e:p=j
   ·subst e;rw [YF (by omega),List.getElem?_set_self h.2.2,Nat.sub_self];rfl
   rw [YG (by omega),show j - p=(j - (p+1))+1 by omega,List.getElem?_cons_succ]
  rw [YF h,YF (by omega)];by_cases e:p=j
  ·subst e;have hl:cells.length≤p:=by omega
   rw [List.getElem?_eq_none (by rw [List.length_set];exact hl),List.getElem?_eq_none hl]
  rw [List.getElem?_set_ne e]
theorem C0 {d:DSt} {n:Nat} (h:Calm d n) {place:Nat} {L:List ByteArray} (hp:place+L.length≤n) (hs:∀ t∈L,t.size=64):∀ i,i≤L.length→mT d place L i=(0,{d with q:=q0 place (L.take i),gq:=d.gq+i})
 | 0,_=>by
  rw [mT,List.take_zero,q0,← h.q];rfl
 | i+1,hi=>by
  obtain ⟨t,ht⟩:=aZ (l:=L) (k:=i) (by omega);have hz:=hs t (YR ht);have hD:L.getD i sNil=t:=by rw [List.getD_eq_getElem?_getD,ht];rfl
  have hq:q0 place (L.take (i+1))=q0 place (L.take i)++[(place+i,t)]:=by
   rw [dB ht,A8,YV,Nat.min_eq_left (by omega)];rfl
  obtain ⟨s,hS⟩:∃ s,s=({d with q:=q0 place (L.take i),gq:=d.gq+i}:DSt):=⟨_,rfl⟩;have so:s.off=false:=by rw [hS];exact h.off
  have sc:eL s ((place+i:Nat):Int)=true:=by
   rw [fI,hS];exact decide_eq_true (by have:=h.inv.n;show place+i < d.cells.length;omega)
  obtain ⟨c1,c2⟩:=AM (s:=i8 s (place+i) t) (by rw [hS];exact h.na);rw [mT,C0 h hp hs i (by omega),YG rfl,hD,hq,← hS];have w1:gS s ((place+i:Nat):Int) t=0:=by rw [gS,so,YF (by decide),sc,decide_eq_true hz,YG (show (true&&true)=true from rfl),YS,c2]
  have w2:iM s ((place+i:Nat):Int) t=i8 s (place+i) t:=by rw [iM,so,YF (by decide),sc,decide_eq_true hz,YG (show (true&&true)=true from rfl),YS,c1]
  rw [w1,w2,hS];rfl
theorem NB {d:DSt} {n:Nat} (h:Calm d n) {place:Nat} {L:List ByteArray} (hp:place+L.length≤n) (hs:∀ t∈L,t.size=64):iT d place L=(0,{d with cells:=j9 d.cells place L,q:=[],gq:=d.gq+L.length+1}):=by
 have hk:=C0 h hp hs L.length (YN _);rw [List.take_length] at hk;obtain ⟨s,hS⟩:∃ s,s=({d with q:=q0 place L,gq:=d.gq+L.length}:DSt):=⟨_,rfl⟩;have so:s.off=false:=by rw [hS];exact h.off
 obtain ⟨c1,c2⟩:=AM (s:=s) (by rw [hS];exact h.na);rw [← hS] at hk;have w1:lT s=0:=by rw [lT,so,YF (by decide),c2]
 have w2:iN s=tT s:=by rw [iN,so,YF (by decide),c2,YG rfl,c1]
 rw [iT,hk,YG rfl,w1,w2,tT,hS];show (0,({d with cells:=cF d.cells (q0 place L),q:=[],gq:=d.gq+L.length+1}:DSt))=_;rw [u7]
theorem nE {d:DSt} {n:Nat} (h:Calm d n) {place:Nat} {L:List ByteArray} (hp:place+L.length≤n) (hs:∀ t∈L,t.size=64) (hm:L.length≤1048576):(iT d place L).1=0∧Calm (iT d place L).2 n∧(iT d place L).2.cells=j9 d.cells place L:=by have hi:=j8 h.inv place L (by omega);rw [NB h hp hs] at hi ⊢;exact⟨rfl,⟨⟨hi.ok,hi.arm,hi.n,YY _⟩,h.off,h.na⟩,rfl⟩
theorem eT {d:DSt} {n:Nat} (h:Calm d n) (i:Nat):bK d i=(d.cells[i]?).getD ⟨#[]⟩:=by rw [bK,h.q];rfl
theorem B1 (place:Nat) {a n:Nat} (ha:a < 10) (hn:n < 10000000):(hS place a n).size=64:=by rw [bR,wR,mG];rw [YI,fL (i6 a (by omega) (by omega)),fL (i6 n (by omega) (by omega))];omega
theorem F9 (place:Nat) {p:List UInt8} (h:p.length≤46):(dR place p).length=64:=by rw [dR,mG];rw [YI,fL (i6 _ (by omega) (by omega))];omega
theorem KB (fr:Nat) (t:List UInt8) (i:Nat):∀ x∈jD fr t i,x.size=64:=fun x hx=>by
 obtain ⟨j,hj,rfl⟩:=List.mem_map.1 hx;rw [bR,F9 _ (by rw [mJ];omega)]
theorem rC {fr:Nat} {t:List UInt8} {i j:Nat} (h:j < i):(jD fr t i)[j]?=some (ofL (dR (fr+j) (fA t j))):=by rw [jD,Y1,List.getElem?_range h];rfl
theorem PU {d:DSt} {n:Nat} (h:Calm d n) (hn:2≤n) {a cn:Nat} (ha:a < 10) (hc:cn < 10000000):(uW d a cn).1=0∧Calm (uW d a cn).2 n∧(uW d a cn).2.cells=(d.cells.set 1 (hS 1 a cn)).set 0 (hS 0 a cn):=by obtain ⟨a1,a2,a3⟩:=nE h (place:=1) (L:=[hS 1 a cn]) (by rw [List.length_singleton];omega) (fun t ht=>by rw [YK.1 ht];exact B1 _ ha hc) (by rw [List.length_singleton];omega);obtain ⟨b1,b2,b3⟩:=nE a2 (place:=0) (L:=[hS 0 a cn]) (by rw [List.length_singleton];omega) (fun t ht=>by rw [YK.1 ht];exact B1 _ ha hc) (by rw [List.length_singleton];omega);rw [uW,YG a1];exact⟨b1,b2,by rw [b3,a3];rfl⟩
theorem sJ {d:DSt} {n:Nat} (h:Calm d n) {k a cn:Nat} {t:List UInt8} (hk:2*k+2≤n) (hn:n≤8000) (ha:a < 2) (hc:cn+cN t≤k) :
  (iX d k a cn t).1=0∧Calm (iX d k a cn t).2 n∧(iX d k a cn t).2.cells=((j9 d.cells (2+a*k+cn) (jD (2+a*k+cn) t (cN t))).set 1 (hS 1 a (cn+cN t))).set 0 (hS 0 a (cn+cN t)):=by
 have hak:a*k≤k:=by
  rcases(show a=0∨a=1 by omega)with e|e<;>subst e<;>omega
 obtain ⟨a1,a2,a3⟩:=nE h (place:=2+a*k+cn) (L:=jD (2+a*k+cn) t (cN t)) (by rw [cY];omega) (KB _ _ _) (by rw [cY];omega);obtain ⟨b1,b2,b3⟩:=PU a2 (a:=a) (cn:=cn+cN t) (by omega) (by omega) (by omega);rw [iX,YG a1];exact⟨b1,b2,by rw [b3,a3]⟩
abbrev CT:=ByteArray→Option ByteArray
def pZ (C:CT) (l:bT) (D:List ByteArray):CT:=fun x=>if x∈D then none else(cT l x).orElse fun _=>C x
def UV (C:CT) (t:List UInt8):CT:=pZ C (eZ t).1 (cZ t)
def nN (T:List (List UInt8)):CT:=T.foldl UV (fun _=>none)
theorem qT (T:List (List UInt8)) (t:List UInt8):nN (T++[t])=UV (nN T) t:=by rw [nN,List.foldl_append];rfl
theorem PJ {C:CT} {l:bT} {D:List ByteArray} {x v:ByteArray} (h:pZ C l D x=some v):cT l x=some v∨C x=some v:=by
 rw [pZ] at h
 split at h
 ·cases h
 cases e:cT l x with
 | none=>rw [e] at h;exact .inr h
 | some u=>rw [e] at h;exact .inl h
theorem JL (T:List (List UInt8)) {x v:ByteArray}:nN T x=some v→∃ t∈T,cT (eZ t).1 x=some v:=by
 have go:∀ (n:Nat) (T:List (List UInt8)),T.length=n→nN T x=some v→∃ t∈T,cT (eZ t).1 x=some v:=by
  intro n
  induction n with
  | zero =>
   intro T hT h;rw [List.length_eq_zero_iff.1 hT] at h;cases h
  | succ n ih =>
   intro T hT h;have hne:T≠[]:=fun e=>by rw [e] at hT;cases hT
   have e:T=T.dropLast++[T.getLast hne]:=(List.dropLast_concat_getLast hne).symm;rw [e,qT] at h;rcases PJ h with h|h
   ·exact⟨_,List.getLast_mem hne,h⟩
   obtain ⟨t,ht,h2⟩:=ih T.dropLast (by rw [List.length_dropLast];omega) h;exact⟨t,List.dropLast_subset T ht,h2⟩
 exact go T.length T rfl
theorem vT {t:List UInt8} (h:j2 t=true):(dW t).2=true∧j3 t=false∧0 < (eZ t).1.length+(cZ t).length∧bH (eZ t).1 (cZ t)=0:=by rw [j2] at h;simp only [YQ,Bool.not_eq_true'] at h;obtain ⟨h1,h2,h3⟩:=h;rw [qH,Y3] at h1;rw [qG] at h3;simp only [Y3,YP,Bool.not_eq_false',YO] at h3;refine⟨by simpa using h1.1,h2,by have:=h3.1.1.1.1;omega,h3.1.1.1.2⟩
theorem mV {l:bT} {D:List ByteArray} (h:bH l D=0):(∀ p∈l,eE p.1=true∧p.1∉D∧p.2.1.size≤20000)∧∀ s∈D,eE s=true:=by
 rw [bH] at h
 split at h
 ·cases h
 next h1 =>
 split at h
 ·cases h
 next h2 =>
 rw [Bool.not_eq_true,Y3] at h1;constructor
 ·intro p hp;have a1:=List.any_eq_false.1 h1.1 p hp;have a2:=List.any_eq_false.1 (Bool.not_eq_true _▸h2) p hp;rw [xJ] at a1;rw [bigV] at a2;simp only [Bool.not_eq_true,Y3,Bool.not_eq_false',YP] at a1 a2;refine⟨a1.1,fun hm=>?_,by omega⟩;rw [iK.2 hm] at a1;cases a1.2
 intro s hs;have a1:=List.any_eq_false.1 h1.2 s hs
 simpa using a1
theorem wL {l:bT} {D:List ByteArray} (h1:∀ p∈l,eE p.1=true∧p.1∉D∧p.2.1.size≤20000) (h2:∀ s∈D,eE s=true):bH l D=0:=by
 have a1:l.any (xJ D)=false:=List.any_eq_false.2 fun p hp=>by
  have:=h1 p hp;rw [xJ,this.1,Bool.not_true,Bool.false_or];exact fun e=>this.2.1 (iK.1 e)
 have a2:D.any (fun s=>!eE s)=false:=List.any_eq_false.2 fun s hs=>by rw [h2 s hs];decide
 have a3:l.any bigV=false:=List.any_eq_false.2 fun p hp=>by
  have:=(h1 p hp).2.2;rw [bigV];simp only [YO];omega
 rw [bH,a1,a2,a3];rfl
theorem V9 {T:List (List UInt8)} (hT:∀ t∈T,j2 t=true) {x v:ByteArray} (h:nN T x=some v):eE x=true∧v.size≤20000:=by obtain ⟨t,ht,h2⟩:=JL T h;obtain ⟨n,hn⟩:=BR h2;have:=(mV (vT (hT t ht)).2.2.2).1 _ hn;exact⟨this.1,this.2.2⟩
theorem PI {T:List (List UInt8)} (hT:∀ t∈T,j2 t=true) {l:bT} (hn:fD l) (hl:∀ x,cT l x=nN T x):bH l []=0 :=wL (fun⟨x,v,n⟩ hp=>by
  have:=V9 hT ((hl x).symm.trans (BU hn hp));exact⟨this.1,YX,this.2⟩) (fun s hs=>by cases hs)
theorem OK {α:Type} [DecidableEq α]:∀ {l m:List α},l.Nodup→(∀ x,x∈l→x∈m)→l.length≤m.length
 | [],m,_,_=>YY _
 | a::l,m,hn,h=>by
  have hn2:=List.nodup_cons.1 hn;have hm:a∈m:=h a List.mem_cons_self;have h2:=OK (l:=l) (m:=m.erase a) hn2.2 (fun x hx=>(List.mem_erase_of_ne (fun e=>by subst e;exact hn2.1 hx)).2 (h x (List.mem_cons_of_mem _ hx)));rw [List.length_erase_of_mem hm] at h2;have:=List.length_pos_of_mem hm;rw [YJ];omega
theorem p6:∀ (n:Nat) (t:List UInt8) (acc:List ByteArray),(eS n t acc).1.length≤acc.length+n
 | 0,t,acc=>Nat.le_add_right _ _
 | n+1,t,acc=>by
  rw [eS]
  split
  ·exact Nat.le_add_right _ _
  split
  ·exact YY _
  have:=p6 n ((uR t).drop (JC t)) (acc++[ofL ((uR t).take (JC t))]);rw [YI,List.length_singleton] at this;omega
theorem H9 (t:List UInt8):(yA t).length≤t.length:=by have:=p6 t.length t [];rw [List.length_nil,YZ] at this;exact this
theorem KF {t:List UInt8} (h:j3 t=false):(eZ t).1.length≤t.length:=by
 have h1:=BN ((yA t).drop 1) (H8 t);have h2:=H9 t;rw [j3] at h;simp only [Y3,YP] at h;have h3:=h.1.2;have h4:=h.1.1.2;have:H8 t≤(yA t).length / 2:=by rw [H8];omega
 show (rU ((yA t).drop 1) (H8 t)).1.length≤_;omega
theorem UU {T:List (List UInt8)} (hT:∀ t∈T,j2 t=true) {l:bT} (hn:fD l) (hl:∀ x,cT l x=nN T x):l.length≤(aQ (T.map ofL)).length:=by
 have h1:(l.map Prod.fst).length≤(T.flatMap fun t=>(eZ t).1.map Prod.fst).length:=OK hn (fun x hx=>by
  cases e:cT l x with
  | none=>exact absurd hx (gN.1 e)
  | some v =>
   rw [hl] at e;obtain ⟨t,ht,h2⟩:=JL T e;obtain ⟨n,h3⟩:=BR h2;exact List.mem_flatMap.2 ⟨t,ht,List.mem_map.2 ⟨_,h3,rfl⟩⟩)
 rw [YH] at h1;refine Nat.le_trans h1 ?_;clear h1 hl hn
 induction T with
 | nil=>exact YY _
 | cons t T ih =>
  have:=ih (fun t ht=>hT t (List.mem_cons_of_mem _ ht));have h2:=KF (vT (hT t List.mem_cons_self)).2.1;rw [List.flatMap_cons,YI,YH,List.map_cons,dK,YI,YJ,YI,a7];omega
structure LogAt (cells:List ByteArray) (fr:Nat) (Q:List (List UInt8)):Prop where
 p:∀ q∈Q,1≤q.length∧q.length≤46
 at':∀ i q,Q[i]?=some q→cells[fr+i]?=some (ofL (dR (fr+i) q))
structure SInv (cells:List ByteArray) (k a n:Nat) (C:CT):Prop where
 k1:1≤k
 kn:2*k+2≤cells.length∧cells.length≤2*k+3
 a2:a < 2
 nk:n≤k
 hd:(cells[1]?=some (hS 1 a n)∧cells[0]?=some (hS 0 a n))∨(cells[1]?=some zS∧cells[0]?=some zS∧a=0∧n=0)
 lg:∃ (Q T:List (List UInt8)),Q.length=n∧LogAt cells (2+a*k) Q∧Q.flatten=aQ (T.map ofL)∧(∀ t∈T,j2 t=true)∧C=nN T
theorem qR:∀ {Q:List (List UInt8)},(∀ q∈Q,1≤q.length∧q.length≤46)→Q.flatten.length≤46*Q.length
 | [],_=>YN _
 | q::Q,h=>by
  have:=qR (Q:=Q) (fun q hq=>h q (List.mem_cons_of_mem _ hq));have:=(h q List.mem_cons_self).2;rw [List.flatten_cons,YI,YJ];omega
theorem SInv.len {cells:List ByteArray} {k a n:Nat} {C:CT} (h:SInv cells k a n C) {l:bT} (hn:fD l) (hl:∀ x,cT l x=C x):l.length≤46*n:=by obtain ⟨Q,T,h1,h2,h3,h4,h5⟩:=h.lg;have:=UU h4 hn (fun x=>by rw [hl,h5]);have:=qR h2.p;rw [h3] at this;omega
theorem SInv.wrong {cells:List ByteArray} {k a n:Nat} {C:CT} (h:SInv cells k a n C) {l:bT} (hn:fD l) (hl:∀ x,cT l x=C x):bH l []=0:=by obtain ⟨Q,T,h1,h2,h3,h4,h5⟩:=h.lg;exact PI h4 hn (fun x=>by rw [hl,h5])
theorem jN {k place:Nat}:gC k place zS=false:=by
 have h:gD (zS.extract 16 24)=true:=by
  have e:(zS.extract 16 24).data.toList=[0,0,0,0,0,0,0,0]:=by
   rw [dT,a7];rfl
  rw [gD,e];rfl
 have hb:kU zS=true:=by rw [kU,h];rfl
 rw [gC,hb];rfl
theorem rB {n:Nat} (h1:4≤n):SInv (lE n).cells ((n - 2) / 2) 0 0 (fun _=>none):=by
 have hl:(lE n).cells.length=n:=by rw [lE,List.length_replicate]
 have hz:∀ i,i < n→(lE n).cells[i]?=some zS:=fun i hi=>by
  show (List.replicate n z64)[i]?=_;rw [List.getElem?_replicate,YG hi];rfl
 refine⟨by omega,by omega,by omega,by omega,.inr ⟨hz 1 (by omega),hz 0 (by omega),rfl,rfl⟩,[],[],rfl,⟨fun q hq=>(by cases hq),fun i q hq=>(by cases hq)⟩,rfl,fun t ht=>(by cases ht),rfl⟩
theorem NT {cells:List ByteArray} {k a n:Nat} {C:CT} (h:SInv cells k a n C) {l:bT} {D:List ByteArray} (hn:fD l) (hD:yP D) (h0:0 < l.length+D.length) (hw:bH l D=0) (hc:n+cN (bB l D)≤k) (hk:k < 5000) :
  SInv (((j9 cells (2+a*k+n) (jD (2+a*k+n) (bB l D) (cN (bB l D)))).set 1 (hS 1 a (n+cN (bB l D)))).set 0 (hS 0 a (n+cN (bB l D)))) k a (n+cN (bB l D)) (pZ C l D):=by
 obtain ⟨Q,T,h1,h2,h3,h4,h5⟩:=h.lg;have hin:=q8 (l:=l) (P:=D) (N:=1000000) (by have:=hc;rw [cN] at this;omega);obtain ⟨r1,r2,r3⟩:=H7 hn hD h0 hw (by omega);obtain ⟨t,ht⟩:∃ t,t=bB l D:=⟨_,rfl⟩;have htj:t=aQ [ofL (aQ (b9 l D))]:=ht;rw [← ht] at hc ⊢;have hak:a*k≤k:=by
  have:=h.a2;rcases(show a=0∨a=1 by omega)with e|e<;>subst e<;>omega
 have hlen:=h.kn;refine⟨h.k1,by rw [List.length_set,List.length_set,jU];exact h.kn,h.a2,hc,.inl ⟨?_,?_⟩,Q++(List.range (cN t)).map (fA t),T++[aQ (b9 l D)],?_,⟨?_,?_⟩,?_,?_,?_⟩
 ·rw [List.getElem?_set_ne (by omega),List.getElem?_set_self (by rw [jU];omega)]
 ·rw [List.getElem?_set_self (by rw [List.length_set,jU];omega)]
 ·rw [YI,YH,List.length_range,h1]
 ·intro q hq;rcases List.mem_append.1 hq with hq|hq
  ·exact h2.p q hq
  obtain ⟨i,hi,rfl⟩:=List.mem_map.1 hq;exact DP (List.mem_range.1 hi)
 ·intro i q hq;rw [List.getElem?_set_ne (by omega),List.getElem?_set_ne (by omega),iH,cY];by_cases hi:i < n
  ·rw [List.getElem?_append_left (by omega)] at hq;rw [YF (by omega)];exact h2.at' i q hq
  rw [List.getElem?_append_right (by omega),h1,Y1] at hq;have hi2:i - n < cN t:=by
   by_cases e:i - n < cN t
   ·exact e
   rw [List.getElem?_eq_none (by rw [List.length_range];omega)] at hq;cases hq
  rw [List.getElem?_range hi2] at hq;cases hq;rw [YG (by omega),show 2+a*k+i - (2+a*k+n)=i - n by omega,rC hi2,show 2+a*k+n+(i - n)=2+a*k+i by omega]
 ·rw [List.flatten_append,IG,h3,htj,List.map_append,D4];rfl
 ·intro u hu;rcases List.mem_append.1 hu with hu|hu
  ·exact h4 u hu
  rw [YK.1 hu];exact r1
 rw [qT,← h5,UV,r3];funext x;rw [pZ,pZ,r2]
def gX (l:bT):List ByteArray:=(cH l).flatMap fun k=>[k,dA l k]
theorem GT {a b:bT} (ha:fD a) (hb:fD b) (h:∀ k,cT a k=cT b k):gX a=gX b:=by
 have hg:(fun x=>[x,dA a x])=fun x=>[x,dA b x]:=by
  funext x;rw [lL,lL,h]
 rw [gX,gX,sY ha hb h,hg]
theorem wJ (l:bT):(gX l).length=2*l.length:=by rw [gX,gB,g9]
def kT (s:bT×Nat) (ps:List (ByteArray×ByteArray)):bT×Nat:=ps.foldl (fun s p=>(gF s.1 p.1 p.2 s.2,m6 s.1 p.1 s.2)) s
theorem F4 (s:bT×Nat) (ps:List (ByteArray×ByteArray)) (p:ByteArray×ByteArray):kT s (ps++[p])=(gF (kT s ps).1 p.1 p.2 (kT s ps).2,m6 (kT s ps).1 p.1 (kT s ps).2):=by rw [kT,kT,List.foldl_append];rfl
theorem DK:∀ (ps:List (ByteArray×ByteArray)) (s:bT×Nat),dQ s.1 s.2→fD s.1→dQ (kT s ps).1 (kT s ps).2∧fD (kT s ps).1
 | [],s,h1,h2=>⟨h1,h2⟩
 | p::r,s,h1,h2=>DK r _ (BV h1 p.1 p.2) (BW h2 p.1 p.2 s.2)
theorem zL:∀ (ps:List (ByteArray×ByteArray)) (s:bT×Nat),(kT s ps).1.length≤s.1.length+ps.length
 | [],s=>YN _
 | p::r,s=>by
  have h1:=zL r (gF s.1 p.1 p.2 s.2,m6 s.1 p.1 s.2);have h2:=(wK p.1 p.2 s.2 s.1).2;rw [YJ];show (kT (gF s.1 p.1 p.2 s.2,m6 s.1 p.1 s.2) r).1.length≤_;have h3:(gF s.1 p.1 p.2 s.2,m6 s.1 p.1 s.2).1.length=(gF s.1 p.1 p.2 s.2).length:=rfl;omega
def pV:List (ByteArray×ByteArray)→ByteArray→Option ByteArray
 | [],_=>none
 | p::r,k=>(pV r k).orElse fun _=>if p.1=k then some p.2 else none
theorem ID (k:ByteArray):∀ (ps:List (ByteArray×ByteArray)) (s:bT×Nat),cT (kT s ps).1 k=(pV ps k).orElse fun _=>cT s.1 k
 | [],s=>rfl
 | p::r,s=>by
  have h:=ID k r (gF s.1 p.1 p.2 s.2,m6 s.1 p.1 s.2);show cT (kT (gF s.1 p.1 p.2 s.2,m6 s.1 p.1 s.2) r).1 k=_;rw [h,vA,pV];cases pV r k with
  | some v=>rfl
  | none =>
   show (if p.1=k then some p.2 else cT s.1 k)=((if p.1=k then some p.2 else none).orElse fun _=>cT s.1 k)
   split<;>rfl
abbrev eP (ps:List (ByteArray×ByteArray)):bT×Nat:=kT ([],0) ps
theorem GR (ps:List (ByteArray×ByteArray)) (k:ByteArray):cT (eP ps).1 k=pV ps k:=by rw [eP,ID];show ((pV ps k).orElse fun _=>none)=_;cases pV ps k<;>rfl
theorem GM:dQ ([]:bT) 0:=⟨List.Pairwise.nil,fun p hp=>(by cases hp)⟩
theorem wD:fD ([]:bT):=List.nodup_nil
theorem gA (ps:List (ByteArray×ByteArray)):dQ (eP ps).1 (eP ps).2∧fD (eP ps).1:=DK ps _ GM wD
theorem rV {ps:List (ByteArray×ByteArray)} {p:ByteArray×ByteArray×Nat} (h:p∈(eP ps).1):(p.1,p.2.1)∈ps:=by
 obtain ⟨k,v,n⟩:=p;have e:=BU (gA ps).2 h;rw [GR] at e;have go:∀ ps:List (ByteArray×ByteArray),pV ps k=some v→(k,v)∈ps:=by
  intro ps
  induction ps with
  | nil=>intro h;cases h
  | cons q r ih =>
   intro h;rw [pV] at h;cases e:pV r k with
   | some u =>
    rw [e] at h;cases h;exact List.mem_cons_of_mem _ (ih e)
   | none =>
    rw [e] at h;by_cases e2:q.1=k
    ·have h:(if q.1=k then some q.2 else none)=some v:=h;rw [YG e2] at h;cases h;rw [← e2];exact List.mem_cons_self
    have h:(if q.1=k then some q.2 else none)=some v:=h;rw [YF e2] at h;cases h
 exact go ps e
end Go.Proofs.YtmkgeogoojcciaaGreatDoor
namespace Go.Proofs.YtmkgeogoojcciaaGreatDoor
open Go.Proofs.Tryz
open Go.Abs
theorem hU (l:List ByteArray):∀ r∈l.map encStr,r.length=1:=fun r hr=>by
 obtain ⟨t,_,rfl⟩:=List.mem_map.1 hr;rfl
def UY (l:List ByteArray):Ob:=bx 1 31 [.pv (aX l)]
def VF:Ob:=bx 1 3 [iv 2]
theorem PT (l:List ByteArray) (H:aA) (h1:H.get 931=none) (h2:H.get 932=none) :
  aJ Tryz.prog 118 [.pv (aX l),iv 2] H (fun r H'=>r=.clo 145 [.ref 931 0 0 0,.ref 932 0 0 0]∧H'=(932,VF)::(931,UY l)::H):=by
 have h2':aA.get ((931,UY l)::H) 932=none:=h2;refine Bd func118 rfl ntmps118<|Sr<|Dd (by exact f7 (id:=931) rfl rfl rfl rfl h1)<|Dd (by exact f7 (id:=932) rfl rfl rfl rfl h2')<|Dd aR<|Zz<|Sq<|Sr<|Dd (eF aT)<|Dd dO<|Zz ?_;refine Cn ?_ ?_<;>intro hc1
 ·cases hc1
 refine aH<|Sr<|Dd (by exact eO rfl rfl)<|Dd aR<|Zz<|aM ?_;refine a8 (H':=((932,VF)::(931,UY l)::H)) (.inr rfl) rfl (aG rfl) Fin.refl ?_;exact Qq
def uJ (l:List ByteArray) (k:Nat):List ByteArray:=(l.drop (2*k)).take 2
theorem KT (l:List ByteArray) (k:Nat):((l.map encStr).drop (2*k)).take 2=(uJ l k).map encStr:=by rw [uJ,List.map_take,List.map_drop]
theorem R5 {n:Nat} (h:2≤n):min (2:Int) (n:Int)=2:=Int.min_eq_left (by omega)
theorem L0 (l:List ByteArray) (fv:AV) (Hs:Nat→aA) (m:Nat) (hl:l.length=2*m) (hm:m < 1099511627776) (h1:∀ k,(Hs k).get 931=some (UY l)) (h2:∀ k,(Hs k).get 932=some VF)
  (hy:∀ k,k < m→eG Tryz.prog fv [.pv (aX (uJ l k))] (Hs k) (fun r H'=>r=bv true∧H'=Hs (k+1))) :
  aJ Tryz.prog 145 [fv,.ref 931 0 0 0,.ref 932 0 0 0] (Hs 0) (fun r H'=>r=.tup []∧H'=Hs m):=by
 have hml:(l.map encStr).length=l.length:=YH _;refine Bd func145 rfl ntmps145<|Sr<|Dd aR<|Zz<|aO ?_;refine bM (σ:=Nat) (fun k=>([(0,fv),(1,.ref 931 0 0 0),(2,.ref 932 0 0 0),(4,iv ((2*k:Nat):Int))],Hs k)) (fun k=>k≤m) (fun k=>m - k) 0 (YY _) ?_ ?_
 ·exact E0
 rintro k hkm;refine Sq<|Sr<|Dd aF<|Dd (by exact aW rfl cD rfl (h1 k) rfl rfl rfl)<|Dd (mB aP)<|Dd dO<|Zz ?_;refine Cn ?_ ?_<;>intro hc1
 ·have hlt:2*k < l.length:=by have:=YD hc1;omega
  have hkm2:k < m:=by omega
  have hyk:=hy k hkm2;have hdl:((l.map encStr).drop (2*k)).length=l.length - 2*k:=by rw [YW,hml]
  refine aH<|Sq<|aO<|Sq<|bO follows<|Cq (by exact aW rfl aT rfl (h2 k) rfl rfl rfl)<|Cq (by exact aW rfl cD rfl (h1 k) rfl rfl rfl)<|Cq aF<|Cq (by exact gT (l:=2*k) (h:=(l.map encStr).length) (rows':=(l.map encStr).drop (2*k)) rfl b8 rfl (hU l) rfl rfl (by omega) (YN _) (by rw [List.take_length]))<|Cq (mB aP)<|Cq (by exact u9 (r:=2) rfl rfl rfl (by rw [hdl];exact R5 (by omega)))<|Cq aR<|cU<|Kr<|Sr<|Dd aF<|Dd (by exact aW rfl cD rfl (h1 k) rfl rfl rfl)<|Dd aF<|Dd aF<|Dd aF<|Dd (by exact cG rfl rfl rfl (show IntKind.i64.wrap (((2*k:Nat):Int)+2)=((2*k+2:Nat):Int)by rw [IntKind.wrap_i64];omega))<|Dd aF<|Dd aF<|Dd (by exact cG rfl rfl rfl (show IntKind.i64.wrap (((2*k:Nat):Int)+2)=((2*k+2:Nat):Int)by rw [IntKind.wrap_i64];omega)) ?_;refine Dd (by exact M6 (l:=2*k) (h:=2*k+2) (rows':=(uJ l k).map encStr) rfl b8 rfl (hU l) rfl rfl rfl (by omega) (by omega) (by intro h;rw [List.map_eq_nil_iff] at h;rw [h] at hlt;exact absurd hlt (Nat.not_lt_zero _)) (by rw [← KT,List.drop_take];congr 1;omega))<|Dd (by exact f0 rfl rfl rfl (hyk))<|Dd xX<|Zz ?_;refine Cn ?_ ?_<;>intro hc2
  ·cases hc2
  refine aH<|Rg<|Dd aF<|Dd (by exact aW rfl aT rfl (h2 (k+1)) rfl rfl rfl)<|Dd (by exact cG rfl rfl rfl (show IntKind.i64.wrap (((2*k:Nat):Int)+2)=((2*(k+1):Nat):Int)by rw [IntKind.wrap_i64];omega))<|Da ?_;exact⟨k+1,hkm2,by omega,E0⟩
 have hge:l.length≤2*k:=by have:=YE hc1;omega
 have hkk:k=m:=by omega
 refine bI ?_;rw [← hkk];exact gP (H':=Hs k) (.inl rfl) rfl Fin.refl ⟨rfl,rfl⟩
theorem VQ (l:List ByteArray):∀ r∈l.map encStr,r.length=1:=fun r hr=>by
 obtain ⟨t,_,rfl⟩:=List.mem_map.1 hr;rfl
theorem PS (l:List ByteArray) (H:aA) (hc:bE H) (h1:H.get 901=none) (hl:l.length < 1099511627776) :
  aJ Tryz.prog 120 [.pv (aX l)] H (fun r H'=>r=.osl 901 1 0 l.length∧H'=(901,⟨1,1,9,iC l⟩)::H):=by
 have hml:(l.map encStr).length=l.length:=YH _;refine Bd func120 rfl ntmps120<|Sr<|Dd aR<|Zz<|Sq<|Sr<|Dm ?_;refine iD rfl rfl (GC rfl aP rfl) ?_;rintro _ H2 ⟨e2,b,rfl,hb⟩;rw [e2];clear e2 H2;refine Zz ?_;refine Cn ?_ ?_<;>intro hc1
 ·have h0:=hb hc1;have h00:l=[]:=List.map_eq_nil_iff.1 h0;subst h00;refine Sr<|Dd (by exact kX (id:=901) (sz:=1) (ty:=9) rfl h1 rfl)<|Zz<|aM ?_;refine a8 (H':=((901,⟨1,1,9,[]⟩)::H)) (.inr rfl) rfl (aG rfl) ((Fin.bump (g:=0) (k:=1) rfl rfl (by decide) rfl rfl rfl).trans (Fin.get' (fun j=>gR _ _ _ _ j))) ?_;exact Qq
 refine aH<|Sr<|Dd (by exact i7 (id:=901) rfl b8 rfl rfl rfl rfl (by simp) h1)<|Dd aF<|Dd (by exact fE rfl b8 MW rfl rfl rfl rfl rfl rfl rfl (VQ l) hml (by omega) (YZ _) (show []++(l.map encStr).map (·.map AV.pv)=iC l by rw [List.nil_append,List.map_map];rfl))<|Dd aR<|Zz<|aM ?_;refine a8 (H':=((901,⟨1,1,9,iC l⟩)::H)) (.inr rfl) rfl (aG rfl) (Fin.get' (fun j=>gR _ _ _ _ j)) ?_;exact Qq
end Go.Proofs.YtmkgeogoojcciaaGreatDoor
namespace Go.Proofs.YtmkgeogoojcciaaGreatDoor
open Go.Proofs.Tryz
open Go.Abs Go.Lib
theorem DL:∀ (ps l:bT) (c:Nat),(fK l c ps).1.length≤l.length+ps.length
 | [],l,c=>YN _
 | (k,v,n)::r,l,c=>by
  have h1:=DL r (gF l k v c) (m6 l k c);have h2:=(wK k v c l).2;show (fK (gF l k v c) (m6 l k c) r).1.length≤_;rw [YJ];omega
theorem PG (P:List ByteArray):∀ l:bT,(kG l P).length≤l.length:=by
 induction P with
 | nil=>exact fun l=>YN _
 | cons k r ih=>exact fun l=>Nat.le_trans (ih (qL l k)) (oJ k l).length_le
theorem xM {l put ps:bT} {c:Nat} {D:List ByteArray} (hst:dQ l c) (hnd:fD l) (hnp:fD put) (hp:ps.Perm put):dQ (kG (fK l c ps).1 D) (fK l c ps).2∧fD (kG (fK l c ps).1 D)∧(kG (fK l c ps).1 D).length≤l.length+put.length∧∀ x,cT (kG (fK l c ps).1 D) x=pZ (cT l) put D x:=by
 have h1:=IE ps l c hst hnd;have h2:=JJ D _ _ h1.1 h1.2;have hnps:fD ps:=(hp.map Prod.fst).nodup_iff.2 hnp;refine⟨h2.1,h2.2,?_,fun x=>?_⟩
 ·have a1:=PG D (fK l c ps).1;have a2:=DL ps l c;have a3:=hp.length_eq;omega
 rw [PH x D _ h1.2,N7 x ps l c hnps,OP hp x hnps,pZ];by_cases hx:x∈D
 ·rw [YG (iK.2 hx),YG hx]
 rw [YF (fun h=>hx (iK.1 h)),YF hx]
abbrev rE (L:List ByteArray) (t:List UInt8) (u:Nat):bD:=[(0,.mp 1101 0),(1,sv (ofL t)),(5,.pv (aX L)),(7,iv (u:Int)),(9,.ref 9 0 0 0)]
abbrev rK (W:List ByteArray) (j:Nat) (K:aA):aA:=(932,VF)::(931,UY W)::(9,Q0 950)::(950,bJ (rU W j).1 (rU W j).2)::K
theorem KS {W:List ByteArray} {j:Nat} (h:2*j+1 < W.length):((uJ W j).map encStr)[0]?=some (encStr (W.getD (2*j) sNil))∧((uJ W j).map encStr)[1]?=some (encStr (W.getD (2*j+1) sNil)):=by have h0:W[2*j]?=some (W[2*j]'(by omega)):=YM (by omega);have h1:W[2*j+1]?=some (W[2*j+1]'h):=YM h;rw [Y1,Y1,uJ,List.getElem?_take_of_lt (by omega),List.getElem?_take_of_lt (by omega),List.getElem?_drop,List.getElem?_drop,List.getD_eq_getElem?_getD,List.getD_eq_getElem?_getD,Nat.add_zero,h0,h1];exact Qq
theorem AZ {H:aA} {id:Nat} {o:Ob} (h:H.get id=some o):Sub [(id,o)] H:=by
 intro j o2 ho;simp only [aA.get] at ho;cases e:Nat.beq id j with
 | true =>
  rw [e] at ho;cases ho;rw [← Nat.eq_of_beq_eq_true e];exact h
 | false=>rw [e] at ho;cases ho
theorem zU (id:Nat) (l:bT) (c:Nat):bE [(id,bJ l c)]:=bE.of (fun p hp=>by
 rw [YK] at hp;subst hp;exact aS _ _ _)
theorem HU (l:bT) (c:Nat) (P:List ByteArray) (hst:dQ l c) (hl:l.length < 1099511627776) (hP:P.length < 1099511627776) (H:aA) (h:H.get 950=some (bJ l c)):aJ Tryz.prog 46 [.mp 950 0,.pv (aX P)] H (fun r H'=>r=iv (bH l P)∧H'=H) :=aJ.frameS (RD l c P hst hl hP) (AZ h) (zU _ _ _) (by simp;rfl)
theorem NF (l:bT) (c:Nat) (P:List ByteArray) (hst:dQ l c) (hl:l.length < 1099511627776) (hP:P.length < 1099511627776) (hsz:(bB l P).length < 35184372088832) (H:aA) (h:H.get 950=some (bJ l c)):aJ Tryz.prog 50 [.mp 950 0,.pv (aX P)] H (fun r H'=>r=sv (ofL (bB l P))∧H'=H) :=aJ.frameS (HV l c P hst hl hP hsz) (AZ h) (zU _ _ _) (by simp;rfl)
theorem EW (H:aA) (l:List ByteArray):∀ r∈(UY l).rows,∀ a∈r,Clo H a:=by intro r hr a ha;simp only [UY,bx,YK] at hr;subst hr;rw [YK] at ha;subst ha;exact .pv _
theorem EX (H:aA):∀ r∈VF.rows,∀ a∈r,Clo H a:=by intro r hr a ha;simp only [VF,bx,YK] at hr;subst hr;rw [YK] at ha;subst ha;exact .pv _
theorem NJ (H:aA) (l:List ByteArray):∀ r∈iC l,∀ a∈r,Clo H a:=by intro r hr a ha;obtain ⟨s,_,rfl⟩:=List.mem_map.1 hr;obtain ⟨p,_,rfl⟩:=List.mem_map.1 ha;exact .pv _
theorem KH (d:DSt) (k a n:Nat) (b:Bool) (l:bT) (c:Nat) (t:List UInt8) (hst:dQ l c) (hnd:fD l) (ht:t.length < 1000000) :
  aJ Tryz.prog 89 [.mp 1101 0,sv (ofL t)] (sH d (b4 k a n b) (bJ l c)) (fun r H'=>r=bv (j2 t)∧∃ l' c',dQ l' c'∧fD l'∧l'.length≤l.length+t.length∧(j2 t=true→∀ x,cT l' x=pZ (cT l) (eZ t).1 (cZ t) x)∧H'=sH d (b4 k a n b) (bJ l' c')):=by
 have hspl:=fun H=>DB t H (by omega);have hLl:=H9 t;have hb1:qH t=(!(dW t).2||decide ((yA t).length=0)):=rfl;have hok:j2 t=(!qH t&&(!j3 t&&!qG t)):=rfl;have bad:j2 t=false→∃ l' c',dQ l' c'∧fD l'∧l'.length≤l.length+t.length∧(j2 t=true→∀ x,cT l' x=pZ (cT l) (eZ t).1 (cZ t) x)∧sH d (b4 k a n b) (bJ l c)=sH d (b4 k a n b) (bJ l' c'):=fun h=>⟨l,c,hst,hnd,Nat.le_add_right _ _,fun h2=>(by rw [h] at h2;cases h2),rfl⟩;obtain ⟨ok,hokv⟩:∃ ok,ok=(dW t).2:=⟨_,rfl⟩;obtain ⟨L,hL⟩:∃ L,L=yA t:=⟨_,rfl⟩;have hL2:(dW t).1=L:=hL.symm;rw [← hokv,hL2] at hspl;rw [← hokv,← hL] at hb1;rw [← hL] at hLl;have hml:(L.map encStr).length=L.length:=YH _;refine Bd func89 rfl ntmps89<|Sr<|Dd aR<|Zz<|Sr<|Dd aF<|Dd (by exact aB rfl rfl call87 rfl (hspl _))<|Dd aF<|Dd dU<|Dd dU<|Dd aR<|Dd aR<|Zz<|Sq<|Sq ?_;refine cR (t:=23) (n:=8) (X:=!ok||decide (((L.map encStr).length:Int)=0)) ?_ ?_
 ·all_goals refine Dd aF ?_
  all_goals refine Dd xX<|Dm ?_
  all_goals refine Sp 19 (fun h19=>?_) fun h19=>?_
  all_goals try contradiction
  all_goals first|refine Fo<|Fo<|Fo ?_|refine On aF<|On (mB aP)<|On gH ?_
  all_goals refine Dd fN<|Zz ?_
  all_goals(exact⟨⟨_,rfl,by(rw [h19];rfl)⟩,rfl,rfl,rfl⟩)
 refine Cn ?_ ?_<;>intro hc1
 ·have hq:=hc1;have hf:j2 t=false:=by
   rw [hok,hb1];have h2:(!ok||decide (L.length=0))=true:=by
    rw [hml] at hq
    rwa [show decide ((L.length:Int)=0)=decide (L.length=0)from decide_eq_decide.2 (by omega)] at hq
   rw [h2];rfl
  refine Sr<|Dd aR<|Zz<|aM ?_;refine a8 (H':=(sH d (b4 k a n b) (bJ l c))) (.inr rfl) rfl (aG rfl) (Fin.wk (by(simp;done)) (Hc (aE _ _ rfl rfl rfl)<|Hc (aC _ _)<|Hc (aL _ _ _)<|Hc (aI _ _)<|Hc (bC rfl rfl)<|Hc (aS _ _ _)<|trivial) ⟨rfl,rfl,rfl,rfl,rfl,rfl,trivial⟩) ?_;exact⟨by rw [hf],bad hf⟩
 have hq:=hc1;rw [Y3,Bool.not_eq_false',YP] at hq;have hl0:0 < L.length:=by omega
 have hb1f:qH t=false:=by rw [hb1,hq.1,decide_eq_false (by omega)];rfl
 obtain ⟨x,hx⟩:=aZ hl0;have hix:=dM (f:=encStr) hx;have hgD:L.getD 0 sNil=x:=by rw [List.getD_eq_getElem?_getD,hx];rfl
 have hxs:x.size < 1099511627776:=by have:=A6 (t:=t) (x:=x) (by rw [← hL];exact YR hx);omega
 have hat:=fun H=>vF x hxs H;have hb2:j3 t=(((gD x||decide (cX x < 0))||decide (((L.length / 2:Nat):Int) < cX x))||decide ((L.length:Int) < 2*cX x+2)):=by rw [j3,TI,← hL,hgD]
 have hN:H8 t=(cX x).toNat:=by rw [H8,TI,← hL,hgD]
 obtain ⟨v,hv⟩:∃ v,v=cX x:=⟨_,rfl⟩;obtain ⟨e,he⟩:∃ e,e=gD x:=⟨_,rfl⟩;simp only [← hv,← he] at hat hb2 hN;clear hv he;have hquo:IntKind.i64.wrap (((L.map encStr).length:Int).tdiv 2)=((L.length / 2:Nat):Int):=by
  rw [hml,Int.tdiv_eq_ediv_of_nonneg (by omega),iB (by omega) (by omega)];omega
 refine aH<|Sr<|Dd aF<|Dd (by exact bP rfl b8 rfl rfl (by omega) (by exact YS _) hix rfl)<|Dd (nL aV)<|Dd (by exact aB rfl rfl Q6 rfl (hat _))<|Dd aF<|Dd dU<|Dd dU<|Dd aR<|Dd aR<|Zz<|Sq<|Sq ?_;refine cR (t:=51) (n:=24) (X:=((e||decide (v < 0))||decide (((L.length / 2:Nat):Int) < v))||decide (((L.map encStr).length:Int) < 2*v+2)) ?_ ?_
 ·all_goals refine Dd aF ?_
  all_goals refine Dd (by exact rN rfl gZ rfl)<|Dm ?_
  all_goals refine Sp 33 (fun h33=>?_) fun h33=>?_
  all_goals(try(with_reducible contradiction))
  all_goals first|refine Fo<|Fo ?_|refine On aF<|On dO ?_
  all_goals refine Dd fN<|Dm ?_
  all_goals refine Sp 37 (fun h37=>?_) fun h37=>?_
  all_goals(try(with_reducible contradiction))
  all_goals first|refine Fo<|Fo<|Fo<|Fo<|Fo ?_|refine On aF<|On aF<|On (mB aP)<|On (by exact m0 rfl rfl rfl (by decide) hquo)<|On yR ?_
  all_goals refine Dd fN<|Dm ?_
  all_goals refine Sp 44 (fun h44=>?_) fun h44=>?_
  all_goals(try(with_reducible contradiction))
  all_goals first|refine Fo<|Fo<|Fo<|Fo<|Fo<|Fo ?_|refine On aF<|On (mB aP)<|On aF<|On (by exact gQ rfl rfl rfl (by have q1:=YE h37;have q2:=YE h44;exact iB (by omega) (by omega)))<|On (by exact cG rfl rfl rfl (by have q1:=YE h37;have q2:=YE h44;exact iB (by omega) (by omega)))<|On dO ?_
  all_goals refine Dd fN<|Zz ?_
  all_goals(exact⟨⟨_,rfl,by first|(rw [h33];rfl)|(rw [h33,h37];rfl)|(rw [h33,h37,h44];rfl)⟩,rfl,rfl,rfl⟩)
 refine Cn ?_ ?_<;>intro hc2
 ·have hq2:=hc2;rw [hml] at hq2;have hf:j2 t=false:=by rw [hok,hb2,hq2,hb1f];rfl
  refine Sr<|Dd aR<|Zz<|aM ?_;refine a8 (H':=(sH d (b4 k a n b) (bJ l c))) (.inr rfl) rfl (aG rfl) (Fin.wk (by(simp;done)) (Hc (aE _ _ rfl rfl rfl)<|Hc (aC _ _)<|Hc (aL _ _ _)<|Hc (aI _ _)<|Hc (bC rfl rfl)<|Hc (aS _ _ _)<|trivial) ⟨rfl,rfl,rfl,rfl,rfl,rfl,trivial⟩) ?_;exact⟨by rw [hf],bad hf⟩
 have hq2:=hc2;rw [hml] at hq2;have hb2f:j3 t=false:=hb2.trans hq2;rw [Y3,Y3,Y3,YP,YP,YP] at hq2;obtain ⟨u,rfl⟩:∃ u:Nat,v=(u:Int):=⟨v.toNat,by omega⟩;rw [YS] at hN;obtain ⟨W,hW⟩:∃ W,W=(L.drop 1).take (2*u):=⟨_,rfl⟩;have hWl:W.length=2*u:=by rw [hW,YV,YW];omega
 have hWe:((L.map encStr).take (2*u+1)).drop 1=W.map encStr:=by
  rw [hW,List.map_take,List.map_drop,List.drop_take];rfl
 have hput:eZ t=rU W u:=by
  rw [eZ,← hL,hN,hW]
  conv=>lhs;rw [← List.take_append_drop (2*u) (L.drop 1)]
  exact BO _ _ u (by rw [YV,YW];omega)
 have hdrop:cZ t=L.drop (2*u+2):=by rw [cZ,← hL,hN]
 have hsm:=N1 ht hb2f;have hb3:qG t=((((decide ((eZ t).1.length+(cZ t).length=0)||!decide (bH (eZ t).1 (cZ t)=0))||!decide (bB (eZ t).1 (cZ t)=aQ [ofL t]))||!eJ (cZ t))||decide ((bW (cZ t)).length < (cZ t).length)):=rfl;rw [hput] at hsm hb3 bad ⊢;have hpok:=BM W u;obtain ⟨D,hD⟩:∃ D,D=cZ t:=⟨_,rfl⟩;rw [← hD] at hsm hb3 hdrop bad ⊢;have hDe:((L.map encStr).take (L.map encStr).length).drop (2*u+2)=D.map encStr:=by
  rw [List.take_length,hdrop,List.map_drop]
 clear hix hx hb1 hb2 hspl;refine aH<|Sr<|Dd (by exact jV (id:=950) fF rfl rfl)<|Dd (by exact bZ (id:=9) rfl WY rfl rfl)<|Uu (oX sizeOf33)<|Zz<|Sq<|Sr<|Dd aF<|Dd aF<|Dd (by exact gQ rfl rfl rfl (iB (by omega) (by omega)))<|Dd (by exact cG rfl rfl rfl (show IntKind.i64.wrap (2*(u:Int)+1)=((2*u+1:Nat):Int)by rw [iB (by omega) (by omega)];omega))<|Dd (by exact gT (l:=1) (h:=2*u+1) (rows':=W.map encStr) rfl b8 rfl (hU L) rfl rfl (by omega) (by omega) hWe)<|Dd (by exact aB rfl rfl call118 rfl (PT W _ rfl rfl))<|Zz<|aO ?_;refine fP.ent (E':=(58,.clo 145 [.ref 931 0 0 0,.ref 932 0 0 0])::rE L t u) (H':=rK W 0 (sH d (b4 k a n b) (bJ l c))) (bY.wk (Ec (by(simp;exact⟨rfl,rfl⟩))<|Ea<|Eb<|Eb<|Eb<|Ea<|trivial) (Hc (EX _)<|Hc (EW _ _)<|Ha<|Hc (aS _ _ _)<|Hc (aE _ _ rfl rfl rfl)<|Hc (aC _ _)<|Hc (aL _ _ _)<|Hc (aI _ _)<|Hc (bC rfl rfl)<|Hc (aS _ _ _)<|trivial) ⟨rfl,rfl,rfl,rfl,rfl,rfl,trivial⟩) ?_;refine tY (id:=944) (p:=59) (rE L t u) rfl call145 rfl rfl (by simp [rE];exact⟨rfl,rfl,rfl,rfl,rfl⟩) ?_;intro x hx1 hx2 hx3 hx4 hx5 hx6;refine(L0 W (.yld 944 0) (fun j=>(944,LR x (rE L t u))::rK W j (sH d (b4 k a n b) (bJ l c))) u hWl (by omega) (fun j=>rfl) (fun j=>rfl) ?_).mono ?_
 ·intro j hj;obtain ⟨p0,p1⟩:=KS (W:=W) (j:=j) (by omega);refine .inl ⟨944,0,rfl,?_⟩;refine AX ((10,.pv (aX (uJ W j)))::rE L t u) (rK W j (sH d (b4 k a n b) (bJ l c))) hx1 hx2 hx3 hx4 hx5 hx6 rfl rfl rfl ?_ ?_
  ·refine Rg<|Da ?_;exact E0
  refine aO<|bO follows<|Cs (fun _ h=>lh bS h)<|Cs (fun _ _=>aF)<|Cs (fun H1 hH=>by exact bP rfl b8 rfl rfl (by omega) (by exact YS _) p0 rfl)<|Cs (fun _ _=>(nL aV))<|Cs (fun _ _=>aF)<|Cs (fun H1 hH=>by exact bP rfl b8 rfl rfl (by omega) (by exact YS _) p1 rfl)<|Cs (fun _ _=>(nL aV)) ?_;refine b5 (r:=⟨_,none,[_]⟩) (DStep.plain rfl (fun H1 hH=>by exact jX (κ:=fF) (l:=bQ (rU W j).1) (.inl rfl) aU aK rfl ((hH _ rfl).trans rfl) rfl rfl rfl rfl rfl (pG _ _ _ _) (sB _ _ _))) rfl ?_;refine cU<|Kr ?_;exact⟨rK W (j+1) (sH d (b4 k a n b) (bJ l c)),(bY.wk trivial (Hc (QV (by simp [rE];repeat(first|rfl|refine⟨rfl,?_⟩)))<|Hc (EX _)<|Hc (EW _ _)<|Ha<|Hc (aS _ _ _)<|Hc (aE _ _ rfl rfl rfl)<|Hc (aC _ _)<|Hc (aL _ _ _)<|Hc (aI _ _)<|Hc (bC rfl rfl)<|Hc (aS _ _ _)<|trivial) ⟨rfl,rfl,rfl,rfl,rfl,rfl,rfl,rfl,rfl,rfl,rfl,trivial⟩),rfl,rfl⟩
 rintro r H' ⟨rfl,rfl⟩;refine⟨x,_,rfl,by rw [hx1];decide,rfl,fun z=>?_⟩;rw [hx2];obtain ⟨put,cp,hpc⟩:∃ put cp,rU W u=(put,cp):=⟨_,_,rfl⟩;simp only [hpc] at hpok hb3 hsm bad ⊢;refine fP.ent (E':=rE L t u) (H':=(9,Q0 950)::(950,bJ put cp)::sH d (b4 k a n b) (bJ l c)) ?_ ?_
 ·simp only [rK,hpc];exact(bY.wk (Ea<|Eb<|Eb<|Eb<|Ea<|trivial) (Ha<|Hc (aS _ _ _)<|Hc (aE _ _ rfl rfl rfl)<|Hc (aC _ _)<|Hc (aL _ _ _)<|Hc (aI _ _)<|Hc (bC rfl rfl)<|Hc (aS _ _ _)<|trivial) ⟨rfl,rfl,rfl,rfl,rfl,rfl,trivial⟩)
 have hmp:(bQ put).length=put.length:=YH _;have hmd:(D.map encStr).length=D.length:=YH _;have hwr:=fun H hH=>HU put cp D hpok.1 (by omega) (by omega) H hH;have htx:=fun H hH=>NF put cp D hpok.1 (by omega) (by omega) hsm.1 H hH;have hso:=fun H=>D6 D H (by omega);have hb3:qG t=((((decide (((bQ put).length:Int)+((D.map encStr).length:Int)=0)||!decide (bH put D=0))||!decide (ofL (bB put D)=ofL (aQ [ofL t])))||!eJ D)||decide (((bW D).length:Int) < ((D.map encStr).length:Int))):=by
  rw [hb3,show decide (((bQ put).length:Int)+((D.map encStr).length:Int)=0)=decide (put.length+D.length=0)from decide_eq_decide.2 (by omega),show decide (((bW D).length:Int) < ((D.map encStr).length:Int))=decide ((bW D).length < D.length)from decide_eq_decide.2 (by omega),show decide (ofL (bB put D)=ofL (aQ [ofL t]))=decide (bB put D=aQ [ofL t])from decide_eq_decide.2 ⟨fun h=>by rw [← a7 (bB put D),h,a7],fun h=>by rw [h]⟩]
 rw [hb1f,hb2f,hb3] at hok;have hjs:(aQ [ofL t]).length < 35184372088832:=by
  have hd:=dJ (k:=18) (u:=t.length) (by omega) (by decide);rw [dK,YI,YJ,YI,a7,bR];have h0:(aQ []).length=0:=rfl;omega
 have hdropL:D.length≤L.length:=by rw [hdrop,YW];omega
 cases g78:decide (((bQ put).length:Int)+((D.map encStr).length:Int)=0)with
 | true =>
  refine Sr<|Dd aF<|Dd aF<|Dd (by exact gQ rfl rfl rfl (iB (by omega) (by omega)))<|Dd (by exact cG rfl rfl rfl (show IntKind.i64.wrap (2*(u:Int)+2)=((2*u+2:Nat):Int)by rw [iB (by omega) (by omega)];omega))<|Dd (by exact gT (l:=2*u+2) (h:=(L.map encStr).length) (rows':=D.map encStr) rfl b8 rfl (hU L) rfl rfl (by omega) (YN _) hDe)<|Dd aR<|Zz<|Sq<|Sr<|Dd (eF bS)<|Dd (by exact uL (κ:=fF) (l:=bQ put) rfl aU rfl rfl rfl rfl)<|Dd aF<|Dd (mB aP)<|Dd (by exact cG rfl rfl rfl (iB (by omega) (by omega)))<|Dd gH<|Dd aF<|Fa<|Fa<|Fa<|Fa<|Dd TK<|Dd aF<|Fo<|Fo<|Fo<|Fo<|Fo<|Fo<|Fo<|Dd fN<|Dd aF<|Fo<|Fo<|Fo<|Dd fN<|Dd aF<|Fo<|Fo<|Fo<|Fo<|Fo<|Fo<|Fo<|Dd fN<|Zz ?_;refine Cn ?_ ?_<;>intro hc3
  ·have hf:j2 t=false:=by rw [hok,g78];simp
   refine Sr<|Dd aR<|Zz<|aM ?_;refine a8 (H':=(sH d (b4 k a n b) (bJ l c))) (.inr rfl) rfl (aG rfl) (Fin.wk (by(simp;done)) (Hc (aE _ _ rfl rfl rfl)<|Hc (aC _ _)<|Hc (aL _ _ _)<|Hc (aI _ _)<|Hc (bC rfl rfl)<|Hc (aS _ _ _)<|trivial) ⟨rfl,rfl,rfl,rfl,rfl,rfl,trivial⟩) ?_;exact⟨by rw [hf],bad hf⟩
  ((cases hc3;done))
 | false =>
  cases g84:(!decide (bH put D=0))with
  | true =>
   refine Sr<|Dd aF<|Dd aF<|Dd (by exact gQ rfl rfl rfl (iB (by omega) (by omega)))<|Dd (by exact cG rfl rfl rfl (show IntKind.i64.wrap (2*(u:Int)+2)=((2*u+2:Nat):Int)by rw [iB (by omega) (by omega)];omega))<|Dd (by exact gT (l:=2*u+2) (h:=(L.map encStr).length) (rows':=D.map encStr) rfl b8 rfl (hU L) rfl rfl (by omega) (YN _) hDe)<|Dd aR<|Zz<|Sq<|Sr<|Dd (eF bS)<|Dd (by exact uL (κ:=fF) (l:=bQ put) rfl aU rfl rfl rfl rfl)<|Dd aF<|Dd (mB aP)<|Dd (by exact cG rfl rfl rfl (iB (by omega) (by omega)))<|Dd gH<|Dd aF<|Oa (eF bS)<|Oa aF<|Oa (by exact aB rfl rfl sT rfl (hwr _ rfl))<|Oa tF<|Dd KQ<|Dd aF<|Fa<|Fa<|Fa<|Fa<|Fa<|Fa<|Fa<|Dd TK<|Dd aF<|Fo<|Fo<|Fo<|Dd fN<|Dd aF<|Fo<|Fo<|Fo<|Fo<|Fo<|Fo<|Fo<|Dd fN<|Zz ?_;refine Cn ?_ ?_<;>intro hc4
   ·have hf:j2 t=false:=by rw [hok,g78,g84];simp
    refine Sr<|Dd aR<|Zz<|aM ?_;refine a8 (H':=(sH d (b4 k a n b) (bJ l c))) (.inr rfl) rfl (aG rfl) (Fin.wk (by(simp;done)) (Hc (aE _ _ rfl rfl rfl)<|Hc (aC _ _)<|Hc (aL _ _ _)<|Hc (aI _ _)<|Hc (bC rfl rfl)<|Hc (aS _ _ _)<|trivial) ⟨rfl,rfl,rfl,rfl,rfl,rfl,trivial⟩) ?_;exact⟨by rw [hf],bad hf⟩
   ((cases hc4;done))
  | false =>
   cases g93:(!decide (ofL (bB put D)=ofL (aQ [ofL t])))with
   | true =>
    refine Sr<|Dd aF<|Dd aF<|Dd (by exact gQ rfl rfl rfl (iB (by omega) (by omega)))<|Dd (by exact cG rfl rfl rfl (show IntKind.i64.wrap (2*(u:Int)+2)=((2*u+2:Nat):Int)by rw [iB (by omega) (by omega)];omega))<|Dd (by exact gT (l:=2*u+2) (h:=(L.map encStr).length) (rows':=D.map encStr) rfl b8 rfl (hU L) rfl rfl (by omega) (YN _) hDe)<|Dd aR<|Zz<|Sq<|Sr<|Dd (eF bS)<|Dd (by exact uL (κ:=fF) (l:=bQ put) rfl aU rfl rfl rfl rfl)<|Dd aF<|Dd (mB aP)<|Dd (by exact cG rfl rfl rfl (iB (by omega) (by omega)))<|Dd gH<|Dd aF<|Oa (eF bS)<|Oa aF<|Oa (by exact aB rfl rfl sT rfl (hwr _ rfl))<|Oa tF<|Dd KQ<|Dd aF<|Oa (eF bS)<|Oa aF<|Oa (by exact aB rfl rfl sS rfl (htx _ rfl))<|Oa aF<|Oa (by exact bF [[.str (ofL t)]] rfl b8 rfl rfl rfl rfl rfl (by simp)) ?_;refine Oa (by exact aB rfl rfl nW rfl (kM [ofL t] _ hjs))<|Oa NP<|Dd KQ<|Dd aF<|Fa<|Fa<|Fa<|Dd TK<|Dd aF<|Fo<|Fo<|Fo<|Fo<|Fo<|Fo<|Fo<|Dd fN<|Zz ?_;refine Cn ?_ ?_<;>intro hc5
    ·have hf:j2 t=false:=by rw [hok,g78,g84,g93];simp
     refine Sr<|Dd aR<|Zz<|aM ?_;refine a8 (H':=(sH d (b4 k a n b) (bJ l c))) (.inr rfl) rfl (aG rfl) (Fin.wk (by(simp;done)) (Hc (aE _ _ rfl rfl rfl)<|Hc (aC _ _)<|Hc (aL _ _ _)<|Hc (aI _ _)<|Hc (bC rfl rfl)<|Hc (aS _ _ _)<|trivial) ⟨rfl,rfl,rfl,rfl,rfl,rfl,trivial⟩) ?_;exact⟨by rw [hf],bad hf⟩
    ((cases hc5;done))
   | false =>
    cases g98:(!eJ D)with
    | true =>
     refine Sr<|Dd aF<|Dd aF<|Dd (by exact gQ rfl rfl rfl (iB (by omega) (by omega)))<|Dd (by exact cG rfl rfl rfl (show IntKind.i64.wrap (2*(u:Int)+2)=((2*u+2:Nat):Int)by rw [iB (by omega) (by omega)];omega))<|Dd (by exact gT (l:=2*u+2) (h:=(L.map encStr).length) (rows':=D.map encStr) rfl b8 rfl (hU L) rfl rfl (by omega) (YN _) hDe)<|Dd aR<|Zz<|Sq<|Sr<|Dd (eF bS)<|Dd (by exact uL (κ:=fF) (l:=bQ put) rfl aU rfl rfl rfl rfl)<|Dd aF<|Dd (mB aP)<|Dd (by exact cG rfl rfl rfl (iB (by omega) (by omega)))<|Dd gH<|Dd aF<|Oa (eF bS)<|Oa aF<|Oa (by exact aB rfl rfl sT rfl (hwr _ rfl))<|Oa tF<|Dd KQ<|Dd aF<|Oa (eF bS)<|Oa aF<|Oa (by exact aB rfl rfl sS rfl (htx _ rfl))<|Oa aF<|Oa (by exact bF [[.str (ofL t)]] rfl b8 rfl rfl rfl rfl rfl (by simp)) ?_;refine Oa (by exact aB rfl rfl nW rfl (kM [ofL t] _ hjs))<|Oa NP<|Dd KQ<|Dd aF<|Oa aF<|Oa (by exact aB rfl rfl call119 rfl (hso _))<|Oa xX<|Dd KQ<|Dd aF<|Fa<|Fa<|Fa<|Fa<|Fa<|Fa<|Fa<|Dd TK<|Zz ?_;refine Cn ?_ ?_<;>intro hc6
     ·have hf:j2 t=false:=by rw [hok,g78,g84,g93,g98];simp
      refine Sr<|Dd aR<|Zz<|aM ?_;refine a8 (H':=(sH d (b4 k a n b) (bJ l c))) (.inr rfl) rfl (aG rfl) (Fin.wk (by(simp;done)) (Hc (aE _ _ rfl rfl rfl)<|Hc (aC _ _)<|Hc (aL _ _ _)<|Hc (aI _ _)<|Hc (bC rfl rfl)<|Hc (aS _ _ _)<|trivial) ⟨rfl,rfl,rfl,rfl,rfl,rfl,trivial⟩) ?_;exact⟨by rw [hf],bad hf⟩
     ((cases hc6;done))
    | false =>
     refine Sr<|Dd aF<|Dd aF<|Dd (by exact gQ rfl rfl rfl (iB (by omega) (by omega)))<|Dd (by exact cG rfl rfl rfl (show IntKind.i64.wrap (2*(u:Int)+2)=((2*u+2:Nat):Int)by rw [iB (by omega) (by omega)];omega))<|Dd (by exact gT (l:=2*u+2) (h:=(L.map encStr).length) (rows':=D.map encStr) rfl b8 rfl (hU L) rfl rfl (by omega) (YN _) hDe)<|Dd aR<|Zz<|Sq<|Sr<|Dd (eF bS)<|Dd (by exact uL (κ:=fF) (l:=bQ put) rfl aU rfl rfl rfl rfl)<|Dd aF<|Dd (mB aP)<|Dd (by exact cG rfl rfl rfl (iB (by omega) (by omega)))<|Dd gH<|Dd aF<|Oa (eF bS)<|Oa aF<|Oa (by exact aB rfl rfl sT rfl (hwr _ rfl))<|Oa tF<|Dd KQ<|Dd aF<|Oa (eF bS)<|Oa aF<|Oa (by exact aB rfl rfl sS rfl (htx _ rfl))<|Oa aF<|Oa (by exact bF [[.str (ofL t)]] rfl b8 rfl rfl rfl rfl rfl (by simp)) ?_;refine Oa (by exact aB rfl rfl nW rfl (kM [ofL t] _ hjs))<|Oa NP<|Dd KQ<|Dd aF<|Oa aF<|Oa (by exact aB rfl rfl call119 rfl (hso _))<|Oa xX<|Dd KQ<|Dd aF<|Oa aF<|Oa (by exact aB rfl rfl call120 rfl (PS D _ (bE.ofL ⟨(by(simp;rfl)),(by exact aS _ _ _),(by exact aE _ _ rfl rfl rfl),(by exact aC _ _),(by exact aL _ _ _),(by exact aI _ _),(by exact bC rfl rfl),(by exact aS _ _ _),trivial⟩) rfl (by omega)))<|Oa (by exact aB rfl rfl XY rfl (AP D 1 _ rfl (by omega)))<|Oa (by exact cW rfl aP rfl rfl rfl)<|Oa aF<|Oa (mB aP)<|Oa dO<|Dd KQ<|Zz ?_;refine Cn ?_ ?_<;>intro hc7
     ·have g106:=hc7;have hf:j2 t=false:=by rw [hok,g78,g84,g93,g98,g106];rfl
      refine Sr<|Dd aR<|Zz<|aM ?_;refine a8 (H':=(sH d (b4 k a n b) (bJ l c))) (.inr rfl) rfl (aG rfl) (Fin.wk (by(simp;done)) (Hc (aE _ _ rfl rfl rfl)<|Hc (aC _ _)<|Hc (aL _ _ _)<|Hc (aI _ _)<|Hc (bC rfl rfl)<|Hc (aS _ _ _)<|trivial) ⟨rfl,rfl,rfl,rfl,rfl,rfl,trivial⟩) ?_;exact⟨by rw [hf],bad hf⟩
     have g106:=hc7;have hf:j2 t=true:=by rw [hok,g78,g84,g93,g98,g106];rfl
     rw [hf];refine aH<|Sr<|Dd aF<|Dd (eF bS)<|Dm ?_;refine iD rfl rfl (aB rfl rfl XV rfl (QF l put c cp D _ (by omega) (by omega) hpok.1 rfl rfl rfl (bE.ofL ⟨(by exact aL _ _ _),(by(simp;done)),(by(simp;rfl)),(by exact aS _ _ _),(by exact aE _ _ rfl rfl rfl),(by exact aC _ _),(by exact aL _ _ _),(by exact aI _ _),(by exact bC rfl rfl),(by exact aS _ _ _),trivial⟩))) ?_;rintro r H' ⟨rfl,ps,hps,rfl⟩;obtain ⟨q1,q2,q3,q4⟩:=xM (D:=D) hst hnd hpok.2 hps;refine Zz<|Sr<|Dd aR<|Zz<|aM ?_;refine a8 (H':=(sH d (b4 k a n b) (bJ (kG (fK l c ps).1 D) (fK l c ps).2))) (.inr rfl) rfl (aG rfl) (Fin.wk (by(simp;done)) (Hc (aE _ _ rfl rfl rfl)<|Hc (aC _ _)<|Hc (aL _ _ _)<|Hc (aI _ _)<|Hc (bC rfl rfl)<|Hc (aS _ _ _)<|trivial) ⟨rfl,rfl,rfl,rfl,rfl,rfl,trivial⟩) ?_;exact⟨rfl,_,_,q1,q2,by omega,fun _=>q4,rfl⟩
def UM:Ob:=⟨0,0,0,dX (.pv .nilm) 0 0 []⟩
theorem SG {H:aA}:∀ r∈UM.rows,∀ x∈r,Clo H x:=by intro r hr x hx;simp only [UM,dX,List.map_nil,YK] at hr;subst hr;simp only [YT,YX,or_false] at hx;rcases hx with rfl|rfl|rfl<;>exact .pv _
abbrev nBx:Ob:=bx 1 33 [.pv .nilm]
theorem M8 (P:List ByteArray) (hP:P.length < 1099511627776) (H:aA) :
  aJ Tryz.prog 46 [.pv .nilm,.pv (aX P)] H (fun r H'=>r=iv (bH [] P)∧H'=H):=by
 refine Pu ?_;have hcf:=fun H (h5:H.get 5=some VD)=>AO (.clo 94 [.ref 5 0 0 0]) P (fun s=>!eE s) H (by omega) (fun s=>eG.clo call94 (CY s H h5));have hV:bH [] P=if P.any (fun s=>!eE s)=true then 1 else 0:=by
  rw [bH];show (if(false||P.any fun s=>!eE s)=true then(1:Int)else if false=true then 2 else 0)=_;rw [Bool.false_or];rfl
 rw [hV];obtain ⟨ns,hns⟩:∃ b,b=P.any (fun s=>!eE s):=⟨_,rfl⟩;rw [← hns] at hcf ⊢;refine Bd func46 rfl ntmps46<|Sr<|Dd aR<|Zz<|Sr<|Dd (by exact bZ (id:=5) rfl VL rfl rfl)<|Uu (oX sizeOf53)<|Zz<|Sr<|Dd aR<|Zz<|Sq<|Sr<|Dd aF<|Dd (by exact BL (q:=946) rfl aU rfl rfl)<|Zz<|aO ?_;refine bM (σ:=Unit) (fun _=>([(0,.pv .nilm),(1,.pv (aX P)),(5,.ref 5 0 0 0),(6,bv false),(10,.it 946 0)],[(946,UM),(5,VD)])) (fun _=>True) (fun _=>0) () trivial ?_ ?_
 ·exact(bY.wk (Eb<|Eb<|Ea<|Eb<|Ea<|trivial) (Hc SG<|Hb<|trivial) trivial)
 rintro _ -;refine Sq<|Rg ?_;refine iD rfl rfl (GP rfl rfl rfl rfl rfl) ?_;rintro _ _ (⟨rfl,rfl,hn0⟩|⟨hni,hnp,hn1,hn2,rfl,rfl⟩)
 ·refine Dd dU<|Zz<|Sq ?_;refine Cn ?_ ?_<;>intro hc1
  ·cases hc1
  refine bI<|Sq<|aO<|Sr<|Dd aF<|Dd (by exact eO rfl rfl)<|Dd (by exact aB rfl rfl call93 rfl (hcf _ rfl))<|Da ?_;refine Cn ?_ ?_<;>intro hc2
  ·have hn:ns=true:=hc2;rw [YG hn];exact Sr<|Dd aR<|Zz<|aM<|Rt<|Qq
  have hn:¬ ns=true:=by rw [show ns=false from hc2];decide
  rw [YF hn];refine Sr<|Dd aF<|Da ?_;refine Cn ?_ ?_<;>intro hc3
  ·cases hc3
  exact aH<|Sr<|Dd aR<|Zz<|aM<|Rt<|Qq
 exact hn1.elim
theorem SC (H:aA) (h1:H.get 951=none) :
  aJ Tryz.prog 55 [.pv .nilm] H (fun r H'=>r=.clo 105 [.ref 951 0 0 0]∧H'=(951,nBx)::H):=by
 refine Bd func55 rfl ntmps55<|Sr<|Dd (by exact f7 (id:=951) rfl rfl rfl rfl h1)<|Dd aR<|Zz<|Sr<|Dd (by exact eO rfl rfl)<|Dd aR<|Zz<|aM ?_;refine a8 (H':=((951,nBx)::H)) (.inr rfl) rfl (aG rfl) Fin.refl ?_;exact Qq
theorem OQ (K:aA) (h1:K.get 951=some nBx):xQ 105 [.ref 951 0 0 0] (fun M=>M.Perm []) K:=by
 intro yv Hs hK h6 hcl hf hy0 hy1;have g1:∀ M,(Hs M).get 951=some nBx:=fun M=>hK M _ _ h1;refine Bd func105 rfl ntmps105<|Sr<|Dd (by exact aW rfl bS rfl (g1 []) rfl rfl rfl)<|Dd (by exact BL (q:=946) rfl aU rfl (h6 []))<|Zz<|aO ?_;refine bM (σ:=Unit) (fun _=>([(0,yv),(5,.it 946 0)],(946,UM)::Hs [])) (fun _=>True) (fun _=>0) () trivial ?_ ?_
 ·exact E0
 rintro _ -;refine Sq<|Rg ?_;refine iD rfl rfl (GP rfl rfl (get_cons_same _ _ _) rfl rfl) ?_;rintro _ _ (⟨rfl,rfl,hn0⟩|⟨hni,hnp,hn1,hn2,rfl,rfl⟩)
 ·refine Dd dU<|Zz<|Sq ?_;refine Cn ?_ ?_<;>intro hc1
  ·cases hc1
  refine bI ?_;exact gP (H':=Hs []) (.inl rfl) rfl (Fin.pops' [(946,UM)] (by simp) (hcl _) (by simp [h6]) (by simp [h6])) ⟨rfl,[],List.Perm.refl _,rfl⟩
 exact hn1.elim
abbrev tN (g:Nat) (W:List ByteArray):aA:=[(951,nBx),(920,⟨g,1,9,cM W⟩)]
theorem TY (g:Nat) (W:List ByteArray):bE (tN g W):=bE.of (fun p hp=>by
 simp only [YT,YX,or_false] at hp;rcases hp with rfl|rfl
 ·intro r hr x hx;simp only [bx,YK] at hr;subst hr;rw [YK] at hx;subst hx;exact .pv _
 exact fW _ _)
theorem RI (P:List ByteArray) (hP:P.length < 1099511627776) (hsz:(bB [] P).length < 35184372088832) (H:aA) :
  aJ Tryz.prog 50 [.pv .nilm,.pv (aX P)] H (fun r H'=>r=sv (ofL (bB [] P))∧H'=H):=by
 refine Pu ?_;have hso:=A1 (L:=([]:List ByteArray)) (by decide) XH (tN 0 [dE 0]) (OQ _ rfl) rfl rfl rfl rfl (TY _ _) (by simp;rfl);have hS:cH []=[]:=List.length_eq_zero_iff.1 (g9 []);have hin:=q8 hsz;have hpl:(P.map encStr).length=P.length:=YH _;have hW:b9 [] P=[dE 0,dE ((P.map encStr).length:Int)]++P:=by
  rw [b9,hS];rfl
 change aJ _ _ _ _ fun r H'=>r=.pv (aX (cH []))∧H'=_ at hso;rw [hS] at hso;refine Bd func50 rfl ntmps50<|Sr<|Dd aR<|Zz<|Sr<|Dd aF<|Dd (by exact TO rfl aU rfl)<|Dd (by exact aB rfl rfl nX rfl (m8 0 (by omega) (by omega) _))<|Dd (by exact i7 (id:=920) rfl b8 rfl rfl rfl rfl (show ∀ r∈cM [dE 0],r.length=1 from by intro r hr;rw [YK.1 hr];rfl) rfl)<|Dd aR<|Zz<|Sq<|Sr<|Dd aF<|Dd (by exact aB rfl rfl XU rfl (SC _ rfl))<|Dd (by exact aB rfl rfl CP rfl (hso))<|Dd (mB aP)<|Dd aF<|Zz<|aO ?_;refine bM (σ:=Unit) (fun _=>([(0,.pv .nilm),(1,.pv (aX P)),(5,.osl 920 0 0 1),(14,.pv (aX [])),(15,iv 0),(16,iv 0)],tN 0 [dE 0])) (fun _=>True) (fun _=>0) () trivial ?_ ?_
 ·exact E0
 rintro _ -;refine Sr<|Dd dO<|Zz<|Sq ?_;refine Cn ?_ ?_<;>intro hc1
 ·(have:=YD hc1;omega)
 refine bI<|Sr<|Dd aF<|Dd aF<|Dd (mB aP)<|Dd (by exact aB rfl rfl nX rfl (m8 ((P.map encStr).length:Int) (by omega) (by omega) _))<|Dd (by exact bF [[.str (dE ((P.map encStr).length:Int))]] rfl b8 rfl rfl rfl rfl rfl (by intro r hr;rw [YK] at hr;subst hr;rfl))<|Dd (by exact fE (ps:=[[.str (dE ((P.map encStr).length:Int))]]) rfl b8 MW rfl rfl rfl rfl rfl (fH _) rfl (by intro r hr;rw [YK] at hr;subst hr;rfl) (m:=1) rfl (by omega) rfl (kJ _ _))<|Dd aR<|Zz<|Sr<|Dd aF<|Dd aF<|Dd (by exact fE (ps:=P.map encStr) rfl b8 MW rfl rfl rfl rfl rfl (fH _) rfl (by intro r hr;obtain ⟨q,_,rfl⟩:=List.mem_map.1 hr;rfl) (m:=P.length) hpl (by omega) rfl (vJ _ P))<|Dd (by exact aB rfl rfl nW rfl (IX (W:=b9 [] P) hin (by rw [hW];rfl) (by rw [hW,YI];rfl))) ?_;exact Dd (by exact bF [[.str (ofL (aQ (b9 [] P)))]] rfl b8 rfl rfl rfl rfl rfl (by intro r hr;rw [YK] at hr;subst hr;rfl))<|Dd (by exact aB rfl rfl nW rfl (kM [ofL (aQ (b9 [] P))] _ hsz))<|Dd aR<|Zz<|aM<|Rt<|Qq
theorem SW (l:bT) (c:Nat) (H:aA) (h0:H.get 1101=some (bJ l c)) (h6:H.get 946=none) (hcl:bE H) :
  aJ Tryz.prog 104 [.mp 1101 0,.pv .nilm] H (fun r H'=>r=.tup []∧H'=H):=by
 refine Bd func104 rfl ntmps104<|Sr<|Dd aF<|Dd (by exact BL (q:=946) rfl aU rfl h6)<|Zz<|aO ?_;refine bM (σ:=Unit) (fun _=>([(0,.mp 1101 0),(7,.it 946 0)],(946,UM)::H)) (fun _=>True) (fun _=>0) () trivial ?_ ?_
 ·exact E0
 rintro _ -;refine Sq<|Rg ?_;refine iD rfl rfl (GP rfl rfl (get_cons_same _ _ _) rfl rfl) ?_;rintro _ _ (⟨rfl,rfl,hn0⟩|⟨hni,hnp,hn1,hn2,rfl,rfl⟩)
 ·refine Dd dU<|Zz<|Sq ?_;refine Cn ?_ ?_<;>intro hc1
  ·cases hc1
  refine bI ?_;exact gP (H':=H) (.inl rfl) rfl (Fin.pops' [(946,UM)] (by simp) hcl (by simp [h6]) (by simp [h6])) ⟨rfl,rfl⟩
 exact hn1.elim
theorem QE (l:bT) (c:Nat) (P:List ByteArray) (H:aA) (hP:P.length < 1099511627776) (h0:H.get 1101=some (bJ l c)) (h6:H.get 946=none) (hcl:bE H) :
  aJ Tryz.prog 53 [.mp 1101 0,.pv .nilm,.pv (aX P)] H (fun r H'=>r=.tup []∧H'=(1101,bJ (kG l P) c)::H):=by
 have hml:(P.map encStr).length=P.length:=YH _;have hcp:=SW l c H h0 h6 hcl;refine Bd func53 rfl ntmps53<|Sr<|Dd aF<|Dd aF<|Dd (by exact aB rfl rfl call104 rfl (hcp))<|Zz<|Sr<|Dd aF<|Dd (mB aP)<|Dd aF<|Zz<|aO ?_;refine bM (σ:=Nat) (fun k=>([(0,.mp 1101 0),(11,.pv (aX P)),(12,iv ((P.map encStr).length:Int)),(13,iv (k:Int))],(1101,bJ (kG l (P.take k)) c)::H)) (fun k=>k≤P.length) (fun k=>P.length - k) 0 (YY _) ?_ ?_
 ·exact bY.get' ⟨⟨_,rfl,rfl⟩,⟨_,rfl,rfl⟩,⟨_,rfl,rfl⟩,⟨_,rfl,rfl⟩,trivial⟩ (fun j=>wT h0 j)
 intro k hk;refine Sr<|Dd dO<|Zz<|Sq ?_;refine Cn ?_ ?_<;>intro hc1
 ·have hlt:k < P.length:=by have:=YD hc1;omega
  obtain ⟨s,hs⟩:=aZ hlt;have hi:=dM (f:=encStr) hs;refine aH<|Sq<|aO<|Sr<|Dd (CV b8)<|Dd (nL aV)<|Dd aR<|Zz<|Rg<|Dd aF<|Dd aF<|Uu (by exact EG (κ:=fF) (l:=bQ (kG l (P.take k))) rfl aU aK rfl (get_cons_same _ _ _) rfl rfl rfl rfl (B3 s _))<|Zz<|Rg<|Dd mU<|Dd aF<|Zz ?_;refine⟨k+1,by omega,by omega,?_⟩;rw [AJ hs];exact bY.get' ⟨⟨_,rfl,rfl⟩,⟨_,rfl,rfl⟩,⟨_,rfl,rfl⟩,⟨_,rfl,by rfl⟩,trivial⟩ (fun j=>gR _ _ _ _ j)
 have hge:k=P.length:=by have:=YE hc1;omega
 subst hge;rw [List.take_length];refine bI ?_;exact gP (H':=(1101,bJ (kG l P) c)::H) (.inl rfl) rfl Fin.refl ⟨rfl,rfl⟩
def DZ (d:DSt) (k a i:Nat):ByteArray:=yB (2+a*k+i) (bK d (2+a*k+i))
def pU (d:DSt) (k a n:Nat):Bool:=(List.range n).all fun i=>!decide (DZ d k a i=sNil)
def GS (d:DSt) (k a n:Nat):List UInt8:=(List.range n).flatMap fun i=>(DZ d k a i).data.toList
def oI (d:DSt) (k a n:Nat):Bool:=pU d k a n&&((dW (GS d k a n)).2&&(dW (GS d k a n)).1.all fun c=>j2 c.data.toList)
def FB (d:DSt) (k a n:Nat):CT:=nN ((dW (GS d k a n)).1.map fun c=>c.data.toList)
def iW (d:DSt) (k:Nat):Bool:=gC k 1 (bK d 1)
def tE (d:DSt) (k:Nat):Bool:=iW d k||gC k 0 (bK d 0)
def xW (d:DSt) (k:Nat):Nat:=if iW d k then nS (bK d 1)else if gC k 0 (bK d 0)then nS (bK d 0)else 0
def xV (d:DSt) (k:Nat):Nat:=if iW d k then nR (bK d 1)else if gC k 0 (bK d 0)then nR (bK d 0)else 0
theorem R2 {p:List UInt8} (h:1≤p.length):¬ ofL p=sNil:=fun e=>by
 have:=congrArg ByteArray.size e;rw [bR] at this;have h0:sNil.size=0:=rfl;omega
theorem EV {d:DSt} {N k a n:Nat} {C:CT} (hc:Calm d N) (h:SInv d.cells k a n C) {Q:List (List UInt8)} (h1:Q.length=n) (h2:LogAt d.cells (2+a*k) Q) {i:Nat} {q:List UInt8} (hq:Q[i]?=some q):DZ d k a i=ofL q:=by have hp:=h2.p q (YR hq);rw [DZ,eT hc,h2.at' i q hq];exact N9 hp.1 hp.2
theorem UK {d:DSt} {N k a n:Nat} {C:CT} (hc:Calm d N) (h:SInv d.cells k a n C) {Q:List (List UInt8)} (h1:Q.length=n) (h2:LogAt d.cells (2+a*k) Q):GS d k a n=Q.flatten:=by
 have go:∀ m,m≤n→(List.range m).flatMap (fun i=>(DZ d k a i).data.toList)=(Q.take m).flatten:=by
  intro m
  induction m with
  | zero=>intro _;rfl
  | succ m ih =>
   intro hm;obtain ⟨q,hq⟩:=aZ (l:=Q) (k:=m) (by omega);rw [List.range_succ,List.flatMap_append,ih (by omega),dB hq,List.flatten_append,List.flatMap_cons,List.flatMap_nil,EV hc h h1 h2 hq,a7];rfl
 rw [GS,go n (YN _),← h1,List.take_length]
theorem AT {d:DSt} {N k a n:Nat} {C:CT} (hc:Calm d N) (h:SInv d.cells k a n C) (hk:k < 10000000) :
  xW d k=a∧xV d k=n∧(tE d k=true∨(tE d k=false∧bK d 0=zS))∧oI d k a n=true∧FB d k a n=C∧bK d 1=mD 1 a n (tE d k)∧bK d 0=mD 0 a n (tE d k):=by
 obtain ⟨Q,T,h1,h2,h3,h4,h5⟩:=h.lg;have hT:GS d k a n=aQ (T.map ofL):=(UK hc h h1 h2).trans h3;have hlen:=qR h2.p;have hnk:=h.nk;have hsp:dW (GS d k a n)=(T.map ofL,true):=by
  rw [hT];refine pR fun x hx=>?_;have:=m7 hx;rw [← h3] at this;omega
 have hall:pU d k a n=true:=List.all_eq_true.2 fun i hi=>by
  obtain ⟨q,hq⟩:=aZ (l:=Q) (k:=i) (by have:=List.mem_range.1 hi;omega);have hp:=h2.p q (YR hq);rw [EV hc h h1 h2 hq,decide_eq_false (R2 hp.1)];rfl
 have hok:oI d k a n=true:=by
  rw [oI,hall,hsp];simp only [Bool.true_and];refine List.all_eq_true.2 fun x hx=>?_;obtain ⟨t,ht,rfl⟩:=List.mem_map.1 hx;rw [a7];exact h4 t ht
 have hC:FB d k a n=C:=by
  rw [FB,hsp,h5,List.map_map];congr 1;rw [show ((fun c:ByteArray=>c.data.toList)∘ofL)=id from funext fun t=>a7 t,List.map_id]
 rcases h.hd with⟨g1,g0⟩|⟨g1,g0,ea,en⟩
 ·have t1:bK d 1=hS 1 a n:=by rw [eT hc,g1];rfl
  have t0:bK d 0=hS 0 a n:=by rw [eT hc,g0];rfl
  obtain ⟨p1,p2,p3⟩:=wQ (place:=1) h.a2 h.nk hk;have hh:iW d k=true:=by rw [iW,t1,p3]
  have hH:tE d k=true:=by rw [tE,hh];rfl
  exact⟨by rw [xW,hh,YG rfl,t1,p1],by rw [xV,hh,YG rfl,t1,p2],.inl hH,hok,hC,by rw [hH,t1];rfl,by rw [hH,t0];rfl⟩
 have t1:bK d 1=zS:=by rw [eT hc,g1];rfl
 have t0:bK d 0=zS:=by rw [eT hc,g0];rfl
 have hh:iW d k=false:=by rw [iW,t1,jN]
 have hH:tE d k=false:=by rw [tE,hh,t0,jN];rfl
 exact⟨by rw [xW,hh,YF (by decide),t0,jN,YF (by decide),ea],by rw [xV,hh,YF (by decide),t0,jN,YF (by decide),en],.inr ⟨hH,t0⟩,hok,hC,by rw [hH,t1];rfl,by rw [hH,t0];rfl⟩
def b7 (l:bT):List UInt8:=if l.length=0 then[] else bB l []
abbrev zR (n:Nat):List ByteArray:=List.replicate n zS
theorem RC:zS.size=64:=by rw [bR,zB,List.length_replicate]
theorem HQ (n:Nat):∀ t∈zR n,t.size=64:=fun t ht=>by rw [List.eq_of_mem_replicate ht,RC]
def CS (d:DSt) (k a:Nat) (w:List UInt8):Int×DSt:=if(iX d k (1 - a) 0 w).1=0 then iT (iX d k (1 - a) 0 w).2 (2+a*k+0) (zR (k - 0))else iX d k (1 - a) 0 w
def VC (d:DSt) (k:Nat) (w:List UInt8):Int×DSt:=if(CS d k 1 w).1=0 then iT (CS d k 1 w).2 (2+0*k+cN w) (zR (k - cN w))else CS d k 1 w
def H5 (d:DSt) (k a:Nat) (w:List UInt8):Int×DSt:=if a=1 then VC d k w else if(CS d k 0 w).1=0 then VC (CS d k 0 w).2 k w else CS d k 0 w
def jI (k:Nat) (w:List UInt8) (tl:List ByteArray):List ByteArray:=hS 0 0 (cN w)::hS 1 0 (cN w)::(jD 2 w (cN w)++(zR (k - cN w)++(zR k++tl)))
theorem ET {d:DSt} {n:Nat} (h:Calm d n) {k a:Nat} {w:List UInt8} (hk:2*k+2≤n) (hn:n≤8000) (ha:a < 2) (hw:cN w≤k) :
  (CS d k a w).1=0∧Calm (CS d k a w).2 n∧(CS d k a w).2.cells=j9 (((j9 d.cells (2+(1 - a)*k+0) (jD (2+(1 - a)*k+0) w (cN w))).set 1 (hS 1 (1 - a) (0+cN w))).set 0 (hS 0 (1 - a) (0+cN w))) (2+a*k+0) (zR (k - 0)):=by
 have hak:a*k≤k:=by
  rcases(show a=0∨a=1 by omega)with e|e<;>subst e<;>omega
 obtain ⟨a1,a2,a3⟩:=sJ h (k:=k) (a:=1 - a) (cn:=0) (t:=w) hk hn (by omega) (by omega);obtain ⟨b1,b2,b3⟩:=nE a2 (place:=2+a*k+0) (L:=zR (k - 0)) (by rw [List.length_replicate];omega) (HQ _) (by rw [List.length_replicate];omega);rw [CS,YG a1];exact⟨b1,b2,by rw [b3,a3]⟩
theorem EU {d:DSt} {n:Nat} (h:Calm d n) {k:Nat} {w:List UInt8} (hk:2*k+2≤n) (hn:n≤8000) (hw:cN w≤k) :
  (VC d k w).1=0∧Calm (VC d k w).2 n∧(VC d k w).2.cells=jI k w (d.cells.drop (2*k+2)):=by
 obtain ⟨a1,a2,a3⟩:=ET h (k:=k) (a:=1) (w:=w) hk hn (by omega) hw;obtain ⟨b1,b2,b3⟩:=nE a2 (place:=2+0*k+cN w) (L:=zR (k - cN w)) (by rw [List.length_replicate];omega) (HQ _) (by rw [List.length_replicate];omega);rw [VC,YG a1];refine⟨b1,b2,?_⟩;have hl:=h.inv.n;rw [b3,a3];refine List.ext_getElem? fun j=>?_;rw [iH,iH,jU,List.length_set,List.length_set,jU,List.length_replicate,List.length_replicate];rw [jI];rcases(show j=0∨j=1∨∃ i,j=i+2 by
  match j with
  | 0=>exact .inl rfl
  | 1=>exact .inr (.inl rfl)
  | i+2=>exact .inr (.inr ⟨i,rfl⟩))with rfl|rfl|⟨i,rfl⟩
 ·rw [YF (by omega),YF (by omega),List.getElem?_set_self (by rw [List.length_set,jU];omega)];rw [YZ];rfl
 ·rw [YF (by omega),YF (by omega),List.getElem?_set_ne (by omega),List.getElem?_set_self (by rw [jU];omega)];rw [YZ];rfl
 rw [List.getElem?_cons_succ,List.getElem?_cons_succ,List.getElem?_set_ne (by omega),List.getElem?_set_ne (by omega),iH,cY];by_cases h1:i < cN w
 ·rw [YF (by omega),YF (by omega),YG (by omega),List.getElem?_append_left (by rw [cY];exact h1),rC h1,show i+2 - (2+(1 - 1)*k+0)=i by omega,rC h1,show 2+(1 - 1)*k+0=2 by omega]
 rw [List.getElem?_append_right (by rw [cY];omega),cY];by_cases h2:i < k
 ·rw [YG (by omega),List.getElem?_append_left (by rw [List.length_replicate];omega),List.getElem?_replicate,List.getElem?_replicate,YG (by omega),YG (by omega)]
 rw [YF (by omega),List.getElem?_append_right (by rw [List.length_replicate];omega),List.length_replicate];by_cases h3:i < 2*k
 ·rw [YG (by omega),List.getElem?_append_left (by rw [List.length_replicate];omega),List.getElem?_replicate,List.getElem?_replicate,YG (by omega),YG (by omega)]
 rw [YF (by omega),YF (by omega),List.getElem?_append_right (by rw [List.length_replicate];omega),List.length_replicate,List.getElem?_drop];congr 1;omega
theorem PW {d:DSt} {n:Nat} (h:Calm d n) {k a:Nat} {w:List UInt8} (hk:2*k+2≤n) (hn:n≤8000) (ha:a < 2) (hw:cN w≤k) :
  (H5 d k a w).1=0∧Calm (H5 d k a w).2 n∧(H5 d k a w).2.cells=jI k w (d.cells.drop (2*k+2)):=by
 rw [H5];by_cases e:a=1
 ·rw [YG e];exact EU h hk hn hw
 rw [YF e];obtain ⟨a1,a2,a3⟩:=ET h (k:=k) (a:=0) (w:=w) hk hn (by omega) hw;rw [YG a1];obtain ⟨b1,b2,b3⟩:=EU a2 hk hn hw;refine⟨b1,b2,?_⟩;rw [b3];congr 1;rw [a3];have hl:=h.inv.n;refine List.ext_getElem? fun j=>?_;rw [List.getElem?_drop,List.getElem?_drop,iH,List.length_replicate,YF (by omega),List.getElem?_set_ne (by omega),List.getElem?_set_ne (by omega),iH,cY,YF (by omega)]
theorem FV {cells:List ByteArray} {k a n:Nat} {C:CT} (h:SInv cells k a n C) {l:bT} (hn:fD l) (hl:∀ x,cT l x=C x) (hw:cN (b7 l)≤k) (hk:k < 5000) :
  SInv (jI k (b7 l) (cells.drop (2*k+2))) k 0 (cN (b7 l)) C:=by
 have hkn:=h.kn;have hwr:=h.wrong hn hl;obtain ⟨w,hW⟩:∃ w,w=b7 l:=⟨_,rfl⟩;have hlen:(jI k w (cells.drop (2*k+2))).length=cells.length:=by
  rw [← hW] at hw;rw [jI,YJ,YJ,YI,cY,YI,YI,List.length_replicate,List.length_replicate,YW];omega
 rw [← hW] at hw ⊢;have hat:LogAt (jI k w (cells.drop (2*k+2))) (2+0*k) ((List.range (cN w)).map (fA w)):=by
  refine⟨fun q hq=>?_,fun i q hq=>?_⟩
  ·obtain ⟨i,hi,rfl⟩:=List.mem_map.1 hq;exact DP (List.mem_range.1 hi)
  rw [Y1] at hq;have hi:i < cN w:=by
   by_cases e:i < cN w
   ·exact e
   rw [List.getElem?_eq_none (by rw [List.length_range];omega)] at hq;cases hq
  rw [List.getElem?_range hi] at hq;cases hq;rw [jI,show 2+0*k+i=i+2 by omega,List.getElem?_cons_succ,List.getElem?_cons_succ,List.getElem?_append_left (by rw [cY];exact hi),rC hi,Nat.add_comm i 2]
 refine⟨h.k1,by rw [hlen];exact hkn,by omega,hw,.inl ⟨rfl,rfl⟩,?_⟩;have hfl:((List.range (cN w)).map (fA w)).flatten=w:=IG w;by_cases h0:l.length=0
 ·have hw0:w=[]:=by rw [hW,b7,YG h0]
  refine⟨_,[],?_,hat,by rw [hfl,hw0];rfl,fun t ht=>(by cases ht),?_⟩
  ·rw [YH,List.length_range]
  funext x;rw [← hl,List.length_eq_zero_iff.1 h0];rfl
 have hwt:w=bB l []:=by rw [hW,b7,YF h0]
 have hin:=q8 (l:=l) (P:=[]) (N:=1000000) (by rw [← hwt];have:=hw;rw [cN] at this;omega);obtain ⟨r1,r2,r3⟩:=H7 hn (P:=[]) List.Pairwise.nil (by omega) hwr (by omega);refine⟨_,[aQ (b9 l [])],?_,hat,by rw [hfl,hwt];rfl,fun t ht=>by rw [YK.1 ht];exact r1,?_⟩
 ·rw [YH,List.length_range]
 funext x;show C x=UV (fun _=>none) (aQ (b9 l [])) x;rw [UV,r3,pZ,YF YX,r2,hl];cases C x<;>rfl
end Go.Proofs.YtmkgeogoojcciaaGreatDoor
