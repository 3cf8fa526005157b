/-
  Parts of the proof: rules of an abstract program logic, contracts of functions, plain laws. Conditions: each theorem's own.
-/
import Derived.Test.YtiifmppaejpemaaGreatDoorKR1M11
set_option linter.unusedVariables false
set_option linter.unusedSimpArgs false
set_option maxRecDepth 100000
set_option maxHeartbeats 8000000
namespace Go.Proofs
theorem aLB:type_of% Tryz.call21:=Tryz.call21
theorem aDc:type_of% Tryz.call22:=Tryz.call22
theorem aLA:type_of% Tryz.call24:=Tryz.call24
theorem aKg:type_of% Tryz.isAgg37:=Tryz.isAgg37
theorem TO:type_of% Tryz.sizeOf37:=Tryz.sizeOf37
end Go.Proofs
namespace Go.Proofs.YtiifmppaejpemaaGreatDoor
open Go.Proofs.Tryz
open Go.Abs
structure WRest where
 a:PV
 b:PV
 c:PV
 d:PV
 e:PV
def aAK (w:WRest) (ks:List ByteArray):List PV:=[w.a,aU ks,w.b,w.c,w.d,w.e]
def ckA (r:GRec) (ks:List ByteArray):Bool:=!cU r||decide (((ks.map encStr).length:Int)≤r.author)
def ckB (r:GRec) (key:ByteArray):Bool:=!decide (r.sl.idx=2*r.number - 2)||!vB key (oE r) r.sl.idx r.sl.sig r.sl.path
def ckC (r:GRec):Bool:=fO r.priv&&!sE r.priv.sl
def ckD (r:GRec) (key:ByteArray):Bool:=!fO r.priv&&(!decide (r.priv.sl.idx=2*r.number - 1)||!vB key (pS r) r.priv.sl.idx r.priv.sl.sig r.priv.sl.path)
def pW (r:GRec) (ks:List ByteArray):Int:=if ckA r ks=true then 1 else if ckB r (ks.getD r.author.toNat sNil)=true then 16 else if ckC r=true then 16 else if ckD r (ks.getD r.author.toNat sNil)=true then 16 else 0
theorem HI (r:GRec) (w:WRest) (ks:List ByteArray) (hr:gQ r) (hp:r.parents.length < 549755813888) (hk:LH ks) (H:aA):aG Tryz.prog 22 [av (bP r),av (aAK w ks)] H (fun x H'=>x=iv (pW r ks)∧H'=H):=by
 refine aG.pure ?_ (by simp [bP,aAK]) H;have hkl:(ks.map encStr).length=ks.length:=aLP _;have hks:=hk.1;have hv:=fun H=>zL r hr hp H;have hid:=fun H=>F4 r hr hp H;have hckA:ckA r ks=(!cU r||decide (((ks.map encStr).length:Int)≤r.author)):=rfl;rw [pW];refine Bd func22 rfl ntmps22<|Sr<|Dd (by exact bZ (id:=2) rfl rfl rfl rfl rfl)<|Dd (by exact bZ (id:=3) rfl rfl rfl rfl rfl)<|Dd aP<|Zz<|Sq<|Sq ?_;refine bC (t:=17) (n:=12) (X:=ckA r ks) ?_ ?_
 ·all_goals refine Dd (pN aR aM) ?_
  all_goals refine Dd (by exact aB rfl rfl DY rfl (hv _))<|Dd lI<|Dm ?_
  all_goals refine Sp 10 (fun h10=>?_) fun h10=>?_
  all_goals try contradiction
  all_goals first|refine Fo<|Fo<|Fo<|Fo<|Fo<|Fo ?_|refine On (bB yT)<|On (bL isAgg3)<|On (bB aCb)<|On (bL aJ)<|On (fW aD)<|On JS ?_
  all_goals refine Dd cL<|Zz ?_
  all_goals(exact⟨⟨_,rfl,by(rw [hckA,h10];rfl)⟩,rfl,rfl,rfl⟩)
 refine Cn ?_ ?_<;>intro hc1
 ·rw [aLO hc1];exact Sr<|Dd aP<|Zz<|aC<|Rt<|Qq
 have hA:=hc1;rw [aLN (by rw [hA];decide)];rw [hckA,aLb] at hA;have hb:=zV hA.1;have hau:=aLM hA.2;have hf:=oW hb;have hau0:=hf.au;have hnu:=hf.nu;have hme:=fun H=>M6 r hr hp hb H;have hfs:=jT hf.sl;have hfp:=jT hf.psl;have i0:=hfs.i0;have i1:=hfs.i1;have q0:=hfp.i0;have q1:=hfp.i1;have hms:(pS r).size=16:=iL _;have his:=HD r;have hix:(ks.map encStr)[r.author.toNat]?=some (encStr (ks.getD r.author.toNat sNil)):=by
  rw [aL9,List.getD_eq_getElem?_getD,aLU (by omega)];rfl
 obtain ⟨key,hkey⟩:∃ key,key=ks.getD r.author.toNat sNil:=⟨_,rfl⟩;rw [← hkey] at hix ⊢;have hve1:=fun H=>LY key (oE r) r.sl.idx r.sl.sig r.sl.path H (by omega) (by omega) (by omega) (kK hfs).2.1.1 (kK hfs).2.2.1 (kK hfs).2.1.2 (kK hfs).2.2.2;have hve2:=fun H=>LY key (pS r) r.priv.sl.idx r.priv.sl.sig r.priv.sl.path H (by omega) (by omega) (by omega) (kK hfp).2.1.1 (kK hfp).2.2.1 (kK hfp).2.1.2 (kK hfp).2.2.2;have hem:=fun H=>YA r.priv hr.2.2.2.2.2 H;have hze:=fun H=>aAs r.priv.sl (kK hfp) H;have hckB:ckB r key=(!decide (r.sl.idx=2*r.number - 2)||!vB key (oE r) r.sl.idx r.sl.sig r.sl.path):=rfl;have hckC:ckC r=(fO r.priv&&!sE r.priv.sl):=rfl;have hckD:ckD r key=(!fO r.priv&&(!decide (r.priv.sl.idx=2*r.number - 1)||!vB key (pS r) r.priv.sl.idx r.priv.sl.sig r.priv.sl.path)):=rfl;obtain ⟨v1,hv1⟩:∃ v1,v1=vB key (oE r) r.sl.idx r.sl.sig r.sl.path:=⟨_,rfl⟩;obtain ⟨v2,hv2⟩:∃ v2,v2=vB key (pS r) r.priv.sl.idx r.priv.sl.sig r.priv.sl.path:=⟨_,rfl⟩;obtain ⟨em,hemE⟩:∃ em,em=fO r.priv:=⟨_,rfl⟩;obtain ⟨ze,hzeE⟩:∃ ze,ze=sE r.priv.sl:=⟨_,rfl⟩;obtain ⟨i,hi⟩:∃ i,i=oE r:=⟨_,rfl⟩;obtain ⟨m,hm⟩:∃ m,m=pS r:=⟨_,rfl⟩;rw [← hv1] at hckB;rw [← hv2] at hckD;rw [← hemE] at hckC hckD;rw [← hzeE] at hckC;simp only [← hv1] at hve1;simp only [← hv2] at hve2;simp only [← hi] at hid hve1;simp only [← hm] at hme hve2;simp only [← hemE] at hem;simp only [← hzeE] at hze;clear hv1 hv2 hemE hzeE hi hm hkey;refine aE<|Sq<|aQ follows<|Cr [3] (fun _ h=>fh aCb h)<|Cr [3] (fun _ h=>lh aJ h)<|Cr [2] (fun _ h=>fh yT h)<|Cr [2] (fun _ h=>lh isAgg3 h)<|Cr [] (fun H1 hH=>by exact bM rfl cO rfl rfl (by omega) (by exact aL0 _) hix rfl)<|Cr [] (fun _ _=>(pG isAgg9 (hi:=hix)))<|Cr [2] (fun _ h=>fh eJ h)<|Cr [2] (fun H1 hH=>by exact aL rfl iA sizeOf28 rfl ((hH _ rfl).trans rfl) rfl rfl rfl rfl)<|Cp [6] (fun H1 hH=>by exact bE (id:=6) rfl aGZ rfl ((hH _ rfl).trans rfl))<|Cr [] (fun _ _=>aP)<|Cp [6] (fun H1 hH=>by exact bQ rfl sizeOf28 rfl rfl rfl rfl ((hH _ rfl).trans rfl) rfl rfl rfl)<|bJ<|Kr<|Sq<|aF<|Sq ?_;refine oK (t:=26) (n:=18) (X:=ckB r key) ?_ ?_
 ·cases hg35:(!decide (r.sl.idx=2*r.number - 2):Bool)
  ·refine aQ follows<|Cq (bB iP)<|Cq (bB lS)<|Cq (bL isAgg3)<|Cq (bB pT)<|Cq (bL isAgg3)<|Cq (by exact qB rfl rfl rfl (pO (by omega) (by omega)))<|Cq (by exact eB rfl rfl rfl (pO (by omega) (by omega)))<|Cq yM<|Cq aI<|Nf aI<|Nf (pN aR aM)<|Nf (by exact aB rfl rfl mD rfl (hid _))<|Nf (bB iP)<|Nf (pN dX sizeOf25)<|Nf (by exact aB rfl rfl call32 rfl (hve1 _))<|Nf lI<|Cq wU<|Cq aP<|bJ<|Kr ?_;exact⟨rfl,⟨_,rfl,by(rw [hckB,hg35];rfl)⟩,rfl,rfl,rfl⟩
  refine aQ follows<|Cq (bB iP)<|Cq (bB lS)<|Cq (bL isAgg3)<|Cq (bB pT)<|Cq (bL isAgg3)<|Cq (by exact qB rfl rfl rfl (pO (by omega) (by omega)))<|Cq (by exact eB rfl rfl rfl (pO (by omega) (by omega)))<|Cq yM<|Cq aI<|Of<|Of<|Of<|Of<|Of<|Of<|Of<|Cq KU<|Cq aP<|bJ<|Kr ?_;exact⟨rfl,⟨_,rfl,by(rw [hckB,hg35];rfl)⟩,rfl,rfl,rfl⟩
 refine Cn ?_ ?_<;>intro hc2
 ·rw [aLO hc2];exact Sr<|Dd aP<|Zz<|aC<|Rt<|Qq
 rw [aLN (by rw [hc2];decide)];refine Sq ?_;refine bC (t:=44) (n:=10) (X:=ckC r) ?_ ?_
 ·all_goals refine Dd (pN iA sizeOf28) ?_
  all_goals refine Dd (by exact aB rfl rfl QJ rfl (hem _))<|Dm ?_
  all_goals refine Sp 47 (fun h47=>?_) fun h47=>?_
  all_goals try contradiction
  all_goals first|refine Fo<|Fo<|Fo<|Fo ?_|refine On (bB nN)<|On (pN dX sizeOf25)<|On (by exact aB rfl rfl call84 rfl (hze _))<|On lI ?_
  all_goals refine Dd cL<|Da ?_
  all_goals(exact⟨⟨_,rfl,by(rw [hckC,h47];rfl)⟩,rfl,rfl,rfl⟩)
 refine Cn ?_ ?_<;>intro hc3
 ·rw [aLO hc3];exact Sr<|Dd aP<|Zz<|aC<|Rt<|Qq
 rw [aLN (by rw [hc3];decide)];refine Sq ?_;refine oK (t:=53) (n:=23) (X:=ckD r key) ?_ ?_
 ·cases hg57:(!em:Bool)
  ·refine aQ follows<|Cq (pN iA sizeOf28)<|Cq (by exact aB rfl rfl QJ rfl (hem _))<|Cq lI<|Cq aI<|Ot<|Ot<|Ot<|Ot<|Ot<|Ot<|Ot<|Ot<|Ot<|Ou<|Ou<|Ou<|Ou<|Ou<|Ou<|Ou<|Ot<|Cq wU<|Cq aP<|bJ<|Kr ?_;exact⟨rfl,⟨_,rfl,by(rw [hckD,hg57];rfl)⟩,rfl,rfl,rfl⟩
  cases hg66:(!decide (r.priv.sl.idx=2*r.number - 1):Bool)
  ·refine aQ follows<|Cq (pN iA sizeOf28)<|Cq (by exact aB rfl rfl QJ rfl (hem _))<|Cq lI<|Cq aI<|Nt (bB nN)<|Nt (bB lS)<|Nt (bL isAgg3)<|Nt (bB pT)<|Nt (bL isAgg3)<|Nt (by exact qB rfl rfl rfl (pO (by omega) (by omega)))<|Nt (by exact eB rfl rfl rfl (pO (by omega) (by omega)))<|Nt yM<|Nt aI<|Nf aI<|Nf (pN aR aM)<|Nf (by exact aB rfl rfl call85 rfl (hme _))<|Nf (bB nN)<|Nf (pN dX sizeOf25)<|Nf (by exact aB rfl rfl call32 rfl (hve2 _))<|Nf lI<|Nt wU<|Cq KU<|Cq aP<|bJ<|Kr ?_;exact⟨rfl,⟨_,rfl,by(rw [hckD,hg57,hg66];rfl)⟩,rfl,rfl,rfl⟩
  refine aQ follows<|Cq (pN iA sizeOf28)<|Cq (by exact aB rfl rfl QJ rfl (hem _))<|Cq lI<|Cq aI<|Nt (bB nN)<|Nt (bB lS)<|Nt (bL isAgg3)<|Nt (bB pT)<|Nt (bL isAgg3)<|Nt (by exact qB rfl rfl rfl (pO (by omega) (by omega)))<|Nt (by exact eB rfl rfl rfl (pO (by omega) (by omega)))<|Nt yM<|Nt aI<|Of<|Of<|Of<|Of<|Of<|Of<|Of<|Nt KU<|Cq KU<|Cq aP<|bJ<|Kr ?_;exact⟨rfl,⟨_,rfl,by(rw [hckD,hg57,hg66];rfl)⟩,rfl,rfl,rfl⟩
 refine Cn ?_ ?_<;>intro hc4
 ·rw [aLO hc4];exact Sr<|Dd aP<|Zz<|aC<|Rt<|Qq
 rw [aLN (by rw [hc4];decide)];exact aE<|Sr<|Dd aP<|Zz<|aC<|Rt<|Qq
def LQ (l:List ByteArray):List PV:=[aU l]
def ON (ls:List (List ByteArray)):PV:=.sl (ls.map LQ)
def UF (l:List GRec):PV:=.sl (l.map bP)
def lsOk (l:List ByteArray):Bool:=decide (l.length≤30)&&l.all fun s=>decide (s.size≤300)
theorem KF {α:Type} {l:List α} {p:α→Bool} (h:∀ j,j < l.length→∀ b,l[j]?=some b→p b=true):l.all p=true:=by rw [List.all_eq_true];intro b hb;obtain ⟨j,hj⟩:=aLa.1 hb;exact h j (aLT.1 hj).1 b hj
theorem QD {α:Type} {l:List α} {p:α→Bool} {i:Nat} {b:α} (hb:l[i]?=some b) (h:p b=false):l.all p=false:=by rw [List.all_eq_false];exact⟨b,aLZ hb,by rw [h];decide⟩
theorem D2 {α:Type} {l:List α} {p:α→Bool} {i:Nat} {x:α} (h:∀ j,j < i→∀ b,l[j]?=some b→p b=true) (hx:l[i]?=some x) (hp:p x=true):∀ j,j < i+1→∀ b,l[j]?=some b→p b=true:=by
 intro j hj b hb;by_cases e:j=i
 ·subst e;rw [hx] at hb;cases hb;exact hp
 exact h j (by omega) b hb
theorem M7 (ls:List (List ByteArray)) (H:aA) (hl:ls.length < 1099511627776) (hs:∀ l∈ls,l.length < 1099511627776):aG Tryz.prog 111 [.pv (ON ls)] H (fun r H'=>r=bv (ls.all lsOk)∧H'=H):=by
 refine Pu ?_;have hml:(ls.map LQ).length=ls.length:=aLP _;refine Bd func111 rfl ntmps111<|Sr<|Dd aP<|Zz<|Sq<|Sr<|Dd aP<|Zz<|aF ?_;refine bR (σ:=Nat) (fun k=>([(0,.pv (ON ls)),(3,iv (k:Int))],[])) (fun k=>k≤ls.length∧∀ j,j < k→∀ b,ls[j]?=some b→lsOk b=true) (fun k=>ls.length - k) 0 ⟨by omega,by omega⟩ ?_ ?_
 ·exact Wk
 rintro k ⟨hk,hno⟩;refine Sq<|Sr<|Dd aI<|Dd aI<|Dd (fW BZ)<|Dd dI<|Zz ?_;refine Cn ?_ ?_<;>intro hc1
 ·have hlt:k < ls.length:=by have:=aLL hc1;omega
  obtain ⟨l,hl1⟩:=bD hlt;have hi:=cI (f:=LQ) hl1;have hll:=hs l (aLZ hl1);have hmm:(l.map encStr).length=l.length:=aLP _;have hnot:=fun h=>QD (p:=lsOk) hl1 h;refine aE<|Sq<|aF<|Sq<|Sr<|Dd aI<|Dd aI<|Dd (by exact bM rfl FP rfl rfl (by omega) (by exact aL0 _) hi rfl)<|Dd (pG aJ (hi:=hi))<|Dd (fW aD)<|Dd mU<|Zz ?_;refine Cn ?_ ?_<;>intro hc2
  ·have hb:¬ l.length≤30:=by have:=aLL hc2;omega
   rw [hnot (by rw [lsOk,decide_eq_false hb];rfl)];exact Sr<|Dd aP<|Zz<|aC<|Rt<|Qq
  have hb:l.length≤30:=by have:=aLM hc2;omega
  refine aE<|Sr<|Dd aP<|Zz<|aF ?_;refine bR (σ:=Nat) (fun i=>([(0,.pv (ON ls)),(3,iv (k:Int)),(4,iv (i:Int))],[])) (fun i=>i≤l.length∧∀ j,j < i→∀ b,l[j]?=some b→decide (b.size≤300)=true) (fun i=>l.length - i) 0 ⟨by omega,by omega⟩ ?_ ?_
  ·exact Wk
  rintro i ⟨hi',hno2⟩;refine Sq<|Sr<|Dd aI<|Dd aI<|Dd aI<|Dd (by exact bM rfl FP rfl rfl (by omega) (by exact aL0 _) hi rfl)<|Dd (pG aJ (hi:=hi))<|Dd (fW aD)<|Dd dI<|Zz ?_;refine Cn ?_ ?_<;>intro hc3
  ·have hlt2:i < l.length:=by have:=aLL hc3;omega
   obtain ⟨s,hs1⟩:=bD hlt2;have hi2:=cI (f:=encStr) hs1;refine aE<|Sq<|aF<|Sr<|Dd aI<|Dd aI<|Dd (by exact bM rfl FP rfl rfl (by omega) (by exact aL0 _) hi rfl)<|Dd (pG aJ (hi:=hi))<|Dd aI<|Dd (by exact bM rfl cO rfl rfl (by omega) (by exact aL0 _) hi2 rfl)<|Dd (pG isAgg9 (hi:=hi2))<|Dd (nV underlying9)<|Dd mU<|Zz ?_;refine Cn ?_ ?_<;>intro hc4
   ·have hb2:¬ s.size≤300:=by have:=aLL hc4;omega
    rw [hnot (by rw [lsOk,QD (p:=fun s=>decide (s.size≤300)) hs1 (decide_eq_false hb2),Bool.and_false])];exact Sr<|Dd aP<|Zz<|aC<|Rt<|Qq
   have hb2:s.size≤300:=by have:=aLM hc4;omega
   refine aE<|Rg<|Dd aI<|Dd (by exact cA rfl rfl rfl (show IntKind.i64.wrap ((i:Int)+1)=((i+1:Nat):Int)by rw [pO (by omega) (by omega)];omega))<|Da ?_;exact⟨i+1,⟨by omega,D2 (p:=fun s=>decide (s.size≤300)) hno2 hs1 (decide_eq_true hb2)⟩,by omega,Wk⟩
  have hge:i=l.length:=by have:=aLM hc3;omega
  subst hge;have hok:lsOk l=true:=by rw [lsOk,decide_eq_true hb,KF hno2];rfl
  refine bG<|Rg<|Dd aI<|Dd (by exact cA rfl rfl rfl (show IntKind.i64.wrap ((k:Int)+1)=((k+1:Nat):Int)by rw [pO (by omega) (by omega)];omega))<|Da ?_;exact⟨k+1,⟨by omega,D2 hno hl1 hok⟩,by omega,Wk⟩
 have hge:k=ls.length:=by have:=aLM hc1;omega
 subst hge;rw [KF hno];exact bG<|Sr<|Dd aP<|Zz<|aC<|Rt<|Qq
def aCd (r:GRec):Bool:=((!([r.parents,r.sl.sig,r.sl.path,r.priv.sources,r.priv.sl.sig,r.priv.sl.path].all lsOk)||!([[r.branch,r.target,r.from',r.priv.name,r.priv.reason]].all lsOk))||decide (210 < ((r.priv.trace.map fM).length:Int)))||!tI r.edits 10
def VW (r:GRec):Bool:=!aCd r
def NN (l:List GRec) (n:Int):Bool:=decide ((l.length:Int)≤n)&&l.all VW
theorem RX {r:GRec} (h:gQ r):∀ l∈[r.parents,r.sl.sig,r.sl.path,r.priv.sources,r.priv.sl.sig,r.priv.sl.path],l.length < 1099511627776:=by
 obtain ⟨_,_,h1,_,h3,_,_,h4,_,h6⟩:=h;intro l hl;simp only [aL1,aL5,or_false] at hl;rcases hl with rfl|rfl|rfl|rfl|rfl|rfl
 ·exact h1.1
 ·exact h3.2.1.1
 ·exact h3.2.2.1
 ·exact h4.1
 ·exact h6.2.1.1
 exact h6.2.2.1
theorem aFI (l:List GRec) (n:Int) (H:aA) (hl:l.length < 1099511627776) (hr:∀ r∈l,gQ r):aG Tryz.prog 43 [.pv (UF l),iv n] H (fun r H'=>r=bv (NN l n)∧H'=H):=by
 refine Pu ?_;have hml:(l.map bP).length=l.length:=aLP _;have hB:NN l n=(decide (((l.map bP).length:Int)≤n)&&l.all VW):=by rw [NN,hml]
 refine Bd func43 rfl ntmps43<|Sr<|Dd aP<|Zz<|Sq<|Sr<|Dd aP<|Zz<|aF ?_;refine bR (σ:=Nat) (fun k=>([(0,.pv (UF l)),(1,iv n),(5,iv (k:Int))],[])) (fun k=>k≤l.length∧∀ j,j < k→∀ b,l[j]?=some b→VW b=true) (fun k=>l.length - k) 0 ⟨by omega,by omega⟩ ?_ ?_
 ·exact Wk
 rintro k ⟨hk,hno⟩;refine Sq<|Sq ?_;refine bC (t:=17) (n:=11) (X:=decide ((k:Int) < ((l.map bP).length:Int))&&decide (((l.map bP).length:Int)≤n)) ?_ ?_
 ·all_goals refine Dd aI ?_
  all_goals refine Dd aI<|Dd (fW DW)<|Dd dI<|Dm ?_
  all_goals refine Sp 12 (fun h12=>?_) fun h12=>?_
  all_goals try contradiction
  all_goals first|refine Fo<|Fo<|Fo<|Fo ?_|refine On aI<|On (fW DW)<|On aI<|On TM ?_
  all_goals refine Dd cL<|Zz ?_
  all_goals(exact⟨⟨_,rfl,by(rw [h12];rfl)⟩,rfl,rfl,rfl⟩)
 refine Cn ?_ ?_<;>intro hc1
 ·have hh:=hc1;rw [aLY,aLW,aLW] at hh;have hlt:k < l.length:=by omega
  obtain ⟨r,hr1⟩:=bD hlt;have hi:=cI (f:=bP) hr1;have hok:=hr r (aLZ hr1);have hnot:=fun h=>QD (p:=VW) hr1 h;have hl1:=fun H=>M7 [r.parents,r.sl.sig,r.sl.path,r.priv.sources,r.priv.sl.sig,r.priv.sl.path] H (show 6 < 1099511627776 by decide) (RX hok);have hl2:=fun H=>M7 [[r.branch,r.target,r.from',r.priv.name,r.priv.reason]] H (show 1 < 1099511627776 by decide) (by intro l hl;rw [aLS] at hl;subst hl;exact(by decide:5 < 1099511627776));have hed:=fun H=>aFJ r.edits 10 H (by have:=hok.2.2.2.1.1;omega) (fun e he=>⟨⟨(hok.2.2.2.1.2 e he).2.2.2.2.1,(hok.2.2.2.1.2 e he).2.2.2.1.1⟩,by have:=(hok.2.2.2.1.2 e he).2.1.1;omega⟩);have hX:aCd r=(((!([r.parents,r.sl.sig,r.sl.path,r.priv.sources,r.priv.sl.sig,r.priv.sl.path].all lsOk)||!([[r.branch,r.target,r.from',r.priv.name,r.priv.reason]].all lsOk))||decide (210 < ((r.priv.trace.map fM).length:Int)))||!tI r.edits 10):=rfl;obtain ⟨b1,hb1⟩:∃ b,b=[r.parents,r.sl.sig,r.sl.path,r.priv.sources,r.priv.sl.sig,r.priv.sl.path].all lsOk:=⟨_,rfl⟩;obtain ⟨b2,hb2⟩:∃ b,b=[[r.branch,r.target,r.from',r.priv.name,r.priv.reason]].all lsOk:=⟨_,rfl⟩;obtain ⟨b3,hb3⟩:∃ b,b=tI r.edits 10:=⟨_,rfl⟩;rw [← hb1] at hl1 hX;rw [← hb2] at hl2 hX;rw [← hb3] at hed hX;clear hb1 hb2 hb3;refine aE<|Sq<|aF<|Sr<|Dd aI<|Dd aI<|Dd (by exact bM rfl aI3 rfl rfl (by omega) (by exact aL0 _) hi rfl)<|Dd (by exact cP rfl aR aM rfl hi rfl rfl)<|Dd (by exact bE (id:=6) rfl B5 rfl rfl)<|Uu (jK aM)<|Zz<|Sr<|Dd (bB eJ)<|Dd (pN iA sizeOf28)<|Dd (by exact bE (id:=7) rfl aGZ rfl rfl)<|Uu (jK sizeOf28)<|Zz<|Sq ?_;refine bC (t:=72) (n:=50) (X:=aCd r) ?_ ?_
  ·all_goals refine Dd (bB oG) ?_
   all_goals refine Dd (bL aJ)<|Dd (bB iP)<|Dd (bB iK)<|Dd (bL aJ)<|Dd (bB iP)<|Dd (bB mI)<|Dd (bL aJ)<|Dd (bB yU)<|Dd (bL aJ)<|Dd (bB nN)<|Dd (bB iK)<|Dd (bL aJ)<|Dd (bB nN)<|Dd (bB mI)<|Dd (bL aJ)<|Dd (by exact aS [LQ r.parents,LQ r.sl.sig,LQ r.sl.path,LQ r.priv.sources,LQ r.priv.sl.sig,LQ r.priv.sl.path] rfl FP rfl rfl rfl rfl rfl (by intro r hr;simp only [aL1,aL5,or_false] at hr;rcases hr with rfl|rfl|rfl|rfl|rfl|rfl<;>rfl))<|Dd (by exact aB rfl rfl call111 rfl (hl1 _))<|Dd lI<|Dm ?_
   all_goals refine Sp 45 (fun h45=>?_) fun h45=>?_
   all_goals try contradiction
   all_goals first|refine Fo<|Fo<|Fo<|Fo<|Fo<|Fo<|Fo<|Fo<|Fo<|Fo ?_|refine On (bB yR)<|On (bL isAgg9)<|On (bB yQ)<|On (bL isAgg9)<|On (bB wF)<|On (bL isAgg9)<|On (bB BN)<|On (bL isAgg9)<|On (bB BM)<|On (bL isAgg9) ?_
   all_goals first|refine Fo ?_|refine On (by exact aS [[.str r.branch],[.str r.target],[.str r.from'],[.str r.priv.name],[.str r.priv.reason]] rfl cO rfl rfl rfl rfl rfl (by intro r hr;simp only [aL1,aL5,or_false] at hr;rcases hr with rfl|rfl|rfl|rfl|rfl<;>rfl)) ?_
   all_goals first|refine Fo<|Fo<|Fo ?_|refine On (by exact aS [LQ [r.branch,r.target,r.from',r.priv.name,r.priv.reason]] rfl FP rfl rfl rfl rfl rfl (by intro r hr;rw [aLS] at hr;subst hr;rfl))<|On (by exact aB rfl rfl call111 rfl (hl2 _))<|On lI ?_
   all_goals refine Dd cL<|Dm ?_
   all_goals refine Sp 61 (fun h61=>?_) fun h61=>?_
   all_goals try contradiction
   all_goals first|refine Fo<|Fo<|Fo<|Fo ?_|refine On (bB rN)<|On (bL jD)<|On (fW dP)<|On mU ?_
   all_goals refine Dd cL<|Dm ?_
   all_goals refine Sp 67 (fun h67=>?_) fun h67=>?_
   all_goals try contradiction
   all_goals first|refine Fo<|Fo<|Fo<|Fo ?_|refine On (bB BK)<|On (bL mK)<|On (by exact aB rfl rfl call112 rfl (hed _))<|On lI ?_
   all_goals refine Dd cL<|Zz ?_
   all_goals(exact⟨⟨_,rfl,by first|(rw [hX,h45];rfl)|(rw [hX,h45,h61];rfl)|(rw [hX,h45,h61,h67];rfl)⟩,rfl,rfl,rfl⟩)
  refine Cn ?_ ?_<;>intro hc2
  ·rw [hB,hnot (by rw [VW,hc2];rfl),Bool.and_false];exact Sr<|Dd aP<|Zz<|aC<|Rt<|Qq
  have hgo:VW r=true:=by rw [VW,hc2];rfl
  refine aE<|Rg<|Dd aI<|Dd (by exact cA rfl rfl rfl (show IntKind.i64.wrap ((k:Int)+1)=((k+1:Nat):Int)by rw [pO (by omega) (by omega)];omega))<|Da ?_;exact⟨k+1,⟨by omega,D2 hno hr1 hgo⟩,by omega,Wk⟩
 have hh:=hc1;rw [Bool.and_eq_false_iff,aLX,aLX] at hh;have hres:NN l n=decide (((l.map bP).length:Int)≤n):=by
  rw [hB];rcases hh with hh|hh
  ·have hge:k=l.length:=by omega
   subst hge;rw [KF hno,Bool.and_true]
  rw [decide_eq_false hh];rfl
 rw [hres];exact bG<|Sr<|Dd aI<|Dd (fW DW)<|Dd aI<|Dd TM<|Dd aP<|Zz<|aC<|Rt<|Qq
theorem VG (l:List GRec) (H:aA) (hl:l.length < 1099511627776) (hr:∀ r∈l,gQ r):aG Tryz.prog 11 [.pv (UF l)] H (fun r H'=>r=bv (NN l 5)∧H'=H):=by refine Pu ?_;have hf:=fun H=>aFI l 5 H hl hr;exact Bd func11 rfl ntmps11<|Sr<|Dd aP<|Zz<|Sr<|Dd aI<|Dd (by exact aB rfl rfl call43 rfl (hf _))<|Dd aP<|Zz<|aC<|Rt<|Qq
theorem tY {r:GRec} {a b:GSeal} (h:cU r=true) (ha:iY a=true) (hb:iY b=true):cU (R4 r a b)=true:=by simp only [cU,aLY,aL8] at h ⊢;obtain ⟨⟨⟨⟨h1,h2⟩,h3⟩,h4⟩,h5⟩:=h;refine⟨⟨⟨⟨?_,h2⟩,h3⟩,h4⟩,h5⟩;simp only [YZ,aLb] at h1 ⊢;obtain ⟨⟨h1,_⟩,_⟩:=h1;exact⟨⟨h1,by show (!iY b)=false;rw [hb];rfl⟩,by show (!iY a)=false;rw [ha];rfl⟩
theorem X7:iY zS=true:=by decide
theorem VL {r:GRec} {a b:GSeal} (h:cU r=true) (ha:iY a=true) (hb:iY b=true):oE (R4 r a b)=oE r:=by rw [oE,oE,aLO (tY h ha hb),aLO h];rfl
theorem aEl {r:GRec} {a b:GSeal} (h:cU r=true) (ha:iY a=true) (hb:iY b=true):pS (R4 r a b)=pS r:=by rw [pS,pS,VL h ha hb];rfl
theorem HP {r:GRec} (h:cU r=true):cU (lG r)=true:=by
 simp only [cU,aLY,aL8] at h ⊢;obtain ⟨⟨⟨⟨h1,h2⟩,h3⟩,h4⟩,h5⟩:=h;refine⟨⟨⟨⟨?_,h2⟩,h3⟩,h4⟩,h5⟩;simp only [YZ,aLb] at h1 ⊢;obtain ⟨_,h8⟩:=h1;refine⟨?_,h8⟩;have e1:iY ⟨0,[],[]⟩=true:=by decide
 have e2:FY sNil=false:=by decide
 simp [lG,e1,e2]
theorem X5 {r:GRec} (h:cU r=true):oE (lG r)=oE r:=by rw [oE,oE,aLO (HP h),aLO h];rfl
theorem aJW {s:GSeal} (h:FSeal s) (hl:s.sig.length=18):iY s=true:=by have i0:=h.i0;have i1:=h.i1;have l2:=h.pl;rw [iY,aLP,aLP,decide_eq_true i0,decide_eq_true i1,decide_eq_true (by omega),decide_eq_true (by omega),List.all_eq_true.2 h.sa,List.all_eq_true.2 h.pa];simp
theorem jZ {s m:ByteArray} {h i:Int} (h1:(uY s h i m).2=0):iY (uY s h i m).1=true:=by obtain ⟨f,e,_⟩:=qX h1;refine aJW f ?_;rw [e];exact IH _ _ _
theorem XE {s m:ByteArray} {h i:Int} (h1:(uY s h i m).2=0):vB (rA s h.toNat) m (uY s h i m).1.idx (uY s h i m).1.sig (uY s h i m).1.path=true∧(uY s h i m).1.idx=i:=by
 obtain ⟨_,e,⟨h2,h3⟩,h4,h5⟩:=qX h1;rw [e];refine⟨?_,rfl⟩;obtain ⟨n,rfl⟩:∃ n:Nat,h=(n:Int):=⟨h.toNat,by omega⟩;obtain ⟨k,rfl⟩:∃ k:Nat,i=(k:Int):=⟨i.toNat,by omega⟩;rw [aL0] at h5 ⊢;rw [aL0];have h6:k < 2 ^ n:=by exact_mod_cast h5
 exact aAx s m (by omega) h6
theorem R3 {r x:GRec} (h:wV r=(x,0)):x=r∧(nA r).2=0:=by
 rw [wV] at h
 split at h
 ·next hn=>exact absurd (congrArg Prod.snd h) hn
 next hn=>exact⟨(congrArg Prod.fst h).symm,by by_cases e:(nA r).2=0;exact e;exact absurd e hn⟩
structure Made (r x:GRec) (s:ByteArray) (h:Int):Prop where
 v0:cU (xQ r)=true
 a0:(uY s h (2*r.number - 2) (oE (xQ r))).2=0
 tx:(nA x).2=0
 e:(fO r.priv=true∧x=mk1 r (uY s h (2*r.number - 2) (oE (xQ r))).1)∨(fO r.priv=false∧(uY s h (2*r.number - 1) (pS (xQ r))).2=0∧x=R4 r (uY s h (2*r.number - 2) (oE (xQ r))).1 (uY s h (2*r.number - 1) (pS (xQ r))).1)
theorem aEt {r x:GRec} {s:ByteArray} {h:Int} (hm:C1 r s h=(x,0)):Made r x s h:=by
 rw [C1] at hm
 split at hm
 ·cases hm
 next h1 =>
 split at hm
 ·next h2 =>
  have:=congrArg Prod.snd hm;exact absurd this h2
 next h2 =>
 have h2:(uY s h (2*r.number - 2) (oE (xQ r))).2=0:=by
  by_cases e:(uY s h (2*r.number - 2) (oE (xQ r))).2=0
  ·exact e
  exact absurd e h2
 split at hm
 ·next h3 =>
  obtain ⟨e1,e2⟩:=R3 hm;exact⟨by simpa using h1,h2,e1▸e2,.inl ⟨h3,e1⟩⟩
 next h3 =>
 split at hm
 ·next h4 =>
  have:=congrArg Prod.snd hm;exact absurd this h4
 next h4 =>
 obtain ⟨e1,e2⟩:=R3 hm;refine⟨by simpa using h1,h2,e1▸e2,.inr ⟨by simpa using h3,?_,e1⟩⟩;by_cases e:(uY s h (2*r.number - 1) (pS (xQ r))).2=0
 ·exact e
 exact absurd e h4
theorem Made.valid {r x:GRec} {s:ByteArray} {h:Int} (hm:Made r x s h):cU x=true:=by
 rcases hm.e with⟨_,e⟩|⟨_,h2,e⟩
 ·rw [e];exact tY (r:=xQ r) hm.v0 (jZ hm.a0) X7
 rw [e];exact tY (r:=xQ r) hm.v0 (jZ hm.a0) (jZ h2)
theorem Made.text {r x:GRec} {s:ByteArray} {h:Int} (hm:Made r x s h):nA x=(ofL (aO (qN x)),0):=by
 have h1:=hm.tx;rw [nA,aLO hm.valid] at h1 ⊢
 split at h1
 ·cases h1
 next h2=>rw [aLN h2]
theorem Made.id {r x:GRec} {s:ByteArray} {h:Int} (hm:Made r x s h):oE x=oE (xQ r):=by
 rcases hm.e with⟨_,e⟩|⟨_,h2,e⟩
 ·rw [e];exact VL (r:=xQ r) hm.v0 (jZ hm.a0) X7
 rw [e];exact VL (r:=xQ r) hm.v0 (jZ hm.a0) (jZ h2)
theorem Made.ver {r x:GRec} {s:ByteArray} {h:Int} (hm:Made r x s h):vB (rA s h.toNat) (oE x) x.sl.idx x.sl.sig x.sl.path=true∧x.sl.idx=2*x.number - 2:=by
 rw [hm.id];have:=XE hm.a0;rcases hm.e with⟨_,e⟩|⟨_,h2,e⟩
 ·rw [e];exact this
 rw [e];exact this
theorem Made.check {r x:GRec} {s:ByteArray} {h:Int} (hm:Made r x s h) {ks:List ByteArray} (hk:ks[r.author.toNat]?=some (rA s h.toNat)):pW x ks=0:=by
 have hv:=hm.valid;have hf:=oW hv;have hau:=hf.au;obtain ⟨k1,k2⟩:=hm.ver;have ha:x.author=r.author:=by rcases hm.e with⟨_,e⟩|⟨_,_,e⟩<;>rw [e]<;>rfl
 have hlt:r.author.toNat < ks.length:=(aLT.1 hk).1;have hg:ks.getD x.author.toNat sNil=rA s h.toNat:=by rw [ha,List.getD_eq_getElem?_getD,hk];rfl
 rw [pW,hg];have hA:ckA x ks=false:=by rw [ckA,hv,aLP,decide_eq_false (by omega)];rfl
 have hB:ckB x (rA s h.toNat)=false:=by rw [ckB,k1,decide_eq_true k2];rfl
 rw [hA,hB];rcases hm.e with⟨he,e⟩|⟨he,h2,e⟩
 ·have hC:ckC x=false:=by rw [ckC,e];show (_&&!sE zS)=false;rw [show sE zS=true by decide];simp
  have hD:ckD x (rA s h.toNat)=false:=by rw [ckD,e];show (!fO (mk1 r zS).priv&&_)=false;rw [show fO (mk1 r zS).priv=fO r.priv from rfl,he];rfl
  rw [hC,hD];rfl
 have hC:ckC x=false:=by rw [ckC,e];show (fO (mk1 r zS).priv&&_)=false;rw [show fO (mk1 r zS).priv=fO r.priv from rfl,he];rfl
 have hD:ckD x (rA s h.toNat)=false:=by
  obtain ⟨q1,q2⟩:=XE h2;have hmm:pS x=pS (xQ r):=by rw [e];exact aEl (r:=xQ r) hm.v0 (jZ hm.a0) (jZ h2)
  have hp:x.priv.sl=(uY s h (2*r.number - 1) (pS (xQ r))).1:=by rw [e];rfl
  have hn:x.number=r.number:=by rw [e];rfl
  rw [ckD,hmm,hp,q1,hn,decide_eq_true q2];simp
 rw [hC,hD];rfl
theorem Made.bare {r x:GRec} {s:ByteArray} {h:Int} (hm:Made r x s h) {ks:List ByteArray} (hk:ks[r.author.toNat]?=some (rA s h.toNat)):pW (lG x) ks=0:=by
 have hv:=hm.valid;have hf:=oW hv;have hau:=hf.au;obtain ⟨k1,k2⟩:=hm.ver;have ha:x.author=r.author:=by rcases hm.e with⟨_,e⟩|⟨_,_,e⟩<;>rw [e]<;>rfl
 have hlt:r.author.toNat < ks.length:=(aLT.1 hk).1;have hg:ks.getD x.author.toNat sNil=rA s h.toNat:=by rw [ha,List.getD_eq_getElem?_getD,hk];rfl
 rw [pW,show (lG x).author=x.author from rfl,hg];have hA:ckA (lG x) ks=false:=by rw [ckA,HP hv,aLP,show (lG x).author=x.author from rfl,decide_eq_false (by omega)];rfl
 have hB:ckB (lG x) (rA s h.toNat)=false:=by
  rw [ckB,X5 hv];show (!decide (x.sl.idx=2*x.number - 2)||!vB (rA s h.toNat) (oE x) x.sl.idx x.sl.sig x.sl.path)=false;rw [k1,decide_eq_true k2];rfl
 have hC:ckC (lG x)=false:=by rw [ckC];show (_&&!sE zS)=false;rw [show sE zS=true by decide];simp
 have hD:ckD (lG x) (rA s h.toNat)=false:=by rw [ckD];show (!fO ⟨sNil,sNil,[],[],⟨0,[],[]⟩⟩&&_)=false;rw [show fO ⟨sNil,sNil,[],[],⟨0,[],[]⟩⟩=true by decide];rfl
 rw [hA,hB,hC,hD];rfl
theorem Made.parse {r x:GRec} {s:ByteArray} {h:Int} (hm:Made r x s h):iE (aO (qN x))=(x,0):=UU hm.text
def qZ:ByteArray:=⟨#[115,101,99,114,101,116]⟩
def aJN:ByteArray:=⟨#[109,97,105,110]⟩
def aFg:ByteArray:=⟨#[65,110,110]⟩
def litH:ByteArray:=⟨#[54,58,114,101,99,111,114,100,49,58,53,49,58,49,49,58,50,49,58,53,52,58,109,97,105,110,49,58,48,48,58,48,58,49,58,48,49,58,48,48,58]⟩
def r0H:GRec:=⟨5,1,2,5,aJN,[],[],sNil,false,0,sNil,zS,⟨sNil,sNil,[],[],zS⟩⟩
def p0H:GRec:={r0H with priv:=⟨aFg,sNil,[],[(1,2)],zS⟩}
def sAH:GSeal:=(uY qZ 2 2 (pU litH)).1
def sBH:GSeal:=(uY qZ 2 3 (pS p0H)).1
def xH:GRec:=R4 p0H sAH sBH
def fxH:GRec:={xH with clock:=6}
def f0H:GRec:={p0H with clock:=6}
def uN:ByteArray:=rA qZ 2
theorem QX:cU r0H=true:=by kernel_rfl
theorem HO:cU p0H=true:=by kernel_rfl
theorem aAy:cU f0H=true:=by kernel_rfl
theorem aCK:(⟨(aO (nU r0H)).toArray⟩:ByteArray)=litH:=by kernel_rfl
theorem aJT:oE r0H=pU litH:=by rw [oE,aLO QX,xK,aCK]
theorem aGE:oE p0H=pU litH:=by rw [oE,aLO HO];exact congrArg pU aCK
theorem IJ:(uY qZ 2 2 (pU litH)).2=0:=by rw [uY,aLN (by decide)]
theorem MM:(uY qZ 2 3 (pS p0H)).2=0:=by rw [uY,aLN (by decide)]
theorem aFr {s:GSeal} (h:FSeal s):(∀ t∈fI (.z s.idx s.sig s.path),t.size≤24)∧(fI (.z s.idx s.sig s.path)).length≤29:=by
 have i0:=h.i0;have i1:=h.i1;have l1:=h.sl;have l2:=h.pl;constructor
 ·intro t ht;simp only [fI,aL1,List.mem_append] at ht;rcases ht with rfl|(rfl|ht)|(rfl|ht)
  ·exact Nat.le_trans (mG (by omega) (by omega)) (by decide)
  ·exact Nat.le_trans (mG (by omega) (by omega)) (by decide)
  ·exact Nat.le_trans (qH (h.sa t ht)) (by decide)
  ·exact Nat.le_trans (mG (by omega) (by omega)) (by decide)
  exact Nat.le_trans (qH (h.pa t ht)) (by decide)
 simp only [fI,aLR,aLQ];omega
theorem aE8:(nU p0H).all (fun s=>decide (s.size≤24))=true:=by kernel_rfl
theorem aBa:(nU p0H).length=12:=by kernel_rfl
theorem aEU:((fI (.t aFg)++(fI (.t sNil)++(fI (.l [])++fI (.p [(1,2)]))))).all (fun s=>decide (s.size≤24))=true:=by kernel_rfl
theorem aBX:((fI (.t aFg)++(fI (.t sNil)++(fI (.l [])++fI (.p [(1,2)]))))).length=6:=by kernel_rfl
theorem HX {a b:GSeal} (ha:FSeal a) (hb:FSeal b):(aO (qN (R4 p0H a b))).length≤20000:=by
 obtain ⟨a1,a2⟩:=aFr ha;obtain ⟨b1,b2⟩:=aFr hb;have he:qN (R4 p0H a b)=nU p0H++(fI (.z a.idx a.sig a.path)++((fI (.t aFg)++(fI (.t sNil)++(fI (.l [])++fI (.p [(1,2)]))))++fI (.z b.idx b.sig b.path))):=by
  rw [qN,tJ,CD];simp only [List.flatMap_cons,List.flatMap_nil,List.append_nil,List.append_assoc];rfl
 have hl:=aBX;have hp:=aBa;rw [he];refine Nat.le_trans (wA (M:=24) (by decide) _ ?_) ?_
 ·intro s hs;rw [List.mem_append,List.mem_append,List.mem_append] at hs;rcases hs with hs|hs|hs|hs
  ·exact aLL (List.all_eq_true.1 aE8 s hs)
  ·exact a1 s hs
  ·exact aLL (List.all_eq_true.1 aEU s hs)
  exact b1 s hs
 rw [aLQ,aLQ,aLQ];omega
theorem XU:C1 p0H qZ 2=(xH,0):=by
 have e0:xQ p0H=p0H:=rfl;have e1:(2:Int)*p0H.number - 2=2:=rfl;have e2:(2:Int)*p0H.number - 1=3:=rfl;have e3:fO p0H.priv=false:=by decide
 obtain ⟨fa,_⟩:=qX IJ;obtain ⟨fb,_⟩:=qX MM;rw [C1,e0,e1,e2,HO,e3,aGE,aLN (by decide),aLN (fun h=>h IJ),aLN (by decide),aLN (fun h=>h MM)];show wV xH=(xH,0);have hx:(nA xH).2=0:=by
  have hv:cU xH=true:=tY (r:=p0H) HO (jZ IJ) (jZ MM);rw [nA,aLO hv,aLN (by have:=HX fa fb;show ¬ 20000 < (aO (qN (R4 p0H sAH sBH))).length;exact Nat.not_lt.2 this)]
 rw [wV,aLN (fun h=>h hx)]
theorem JE:Made p0H xH qZ 2:=aEt XU
theorem aEs:C1 r0H qZ 1=(zR,1):=by
 have e0:xQ r0H=r0H:=rfl;have e1:(2:Int)*r0H.number - 2=2:=rfl;have e2:(uY qZ 1 2 (oE r0H))=(zS,1):=by rw [uY,aLO (by decide)]
 rw [C1,e0,e1,QX,aLN (by decide),e2,aLO (by decide)]
theorem aG4:nA xH=(ofL (aO (qN xH)),0):=JE.text
theorem aEb:iE (aO (qN xH))=(xH,0):=JE.parse
theorem aK4:oE xH=pU litH:=by rw [JE.id];exact aGE
theorem aF9:pW xH [sNil,uN]=0:=JE.check (by rfl)
theorem aHh:pW (lG xH) [sNil,uN]=0:=JE.bare (by rfl)
theorem aFj:pW xH [uN]=1:=by
 rw [pW,aLO];rw [ckA];have:decide ((([uN]:List ByteArray).map encStr).length≤xH.author)=true:=by decide
 rw [this,Bool.or_true]
theorem W1:cU fxH=true:=tY (r:=f0H) aAy (jZ IJ) (jZ MM)
theorem aIY:vB (rA qZ 2) (xK (nU f0H)) 2 (CB qZ 2 (pU litH)) (lA 2 (kM qZ 2) 2)=false:=by kernel_rfl
theorem aC9:pW fxH [sNil,uN]=16:=by
 rw [pW,aLN,aLO]
 ·have hid:oE fxH=xK (nU f0H):=by rw [oE,aLO W1];rfl
  have hs:fxH.sl=⟨2,CB qZ 2 (pU litH),lA 2 (kM qZ 2) 2⟩:=(qX IJ).2.1;have hk:([sNil,uN]:List ByteArray).getD fxH.author.toNat sNil=rA qZ 2:=rfl;rw [hk,ckB,hid,hs];show (_||!vB (rA qZ 2) (xK (nU f0H)) 2 (CB qZ 2 (pU litH)) (lA 2 (kM qZ 2) 2))=true;rw [aIY];simp
 rw [ckA,W1];decide
theorem aBx:gQ r0H:=by refine⟨⟨⟨by decide,by decide⟩,⟨by decide,by decide⟩,⟨by decide,by decide⟩,⟨by decide,by decide⟩,⟨by decide,by decide⟩⟩,⟨by decide,by decide,by decide⟩,⟨by decide,by simp [r0H]⟩,⟨by decide,by simp [r0H]⟩,okZ,by decide,by decide,⟨by decide,by simp [r0H]⟩,by decide,okZ⟩
theorem aFx:gQ p0H:=by obtain ⟨a,b,c,d,e,_⟩:=aBx;exact⟨a,b,c,d,e,by decide,by decide,⟨by decide,by simp [p0H]⟩,by decide,okZ⟩
theorem RU:gQ xH:=U8 aFx (kK (qX IJ).1) (kK (qX MM).1)
theorem aJG:gQ fxH:=by obtain ⟨⟨a1,a2,a3,a4,a5⟩,b,c⟩:=RU;exact⟨⟨a1,a2,a3,⟨by decide,by decide⟩,a5⟩,b,c⟩
def w0H:WRest:=⟨.sl [],.sl [],.int .i64 0,.sl [],.sl []⟩
theorem aAA:uN.size=16:=by kernel_rfl
theorem aBw:LH [sNil,uN]:=⟨by decide,by
 intro t ht;simp only [aL1,aL5,or_false] at ht;rcases ht with rfl|rfl
 ·decide
 rw [aAA];decide⟩
theorem aJF:LH [uN]:=⟨by decide,fun t ht=>aBw.2 t (List.mem_cons_of_mem _ ht)⟩
theorem aJH:gQ (lG xH):=by obtain ⟨a,b,c,d,e,_⟩:=RU;exact⟨a,b,c,d,e,by decide,by decide,⟨by decide,by simp [lG]⟩,by decide,okZ⟩
theorem neZ {a:Int}:(!decide (a=a))=false:=by simp
theorem cD.val {P:Program} {N:Nat} {o:Oper} {E:bN} {H H':aA} {b b':Bool} (h:cD P N o E H (.pv (.bool b)) H') (e:b=b'):cD P N o E H (.pv (.bool b')) H':=e▸h
theorem aC4 (H:aA):aG Tryz.prog 10 [] H (fun r H'=>r=bv true∧H'=H):=by
 refine Pu ?_;have hSum:=fun H=>Q2 litH H (by decide);have hPub:=fun H=>T7 qZ 2 H (by decide) (by decide);have hMk:∀ H,aG Tryz.prog 26 [av (bP p0H),sv qZ,iv 2] H (fun x H'=>x=.tup [av (bP xH),iv 0]∧H'=H):=fun H=>by
  have:=aCG p0H qZ 2 aFx (by decide) (by decide) H;rw [XU] at this;exact this
 have hMr:∀ H,aG Tryz.prog 26 [av (bP r0H),sv qZ,iv 1] H (fun x H'=>x=.tup [av (bP zR),iv 1]∧H'=H):=fun H=>by
  have:=aCG r0H qZ 1 aBx (by decide) (by decide) H;rw [aEs] at this;exact this
 have hTx:∀ H,aG Tryz.prog 13 [av (bP xH)] H (fun x H'=>x=.tup [sv (ofL (aO (qN xH))),iv 0]∧H'=H):=fun H=>by
  have:=OF xH RU (by decide) H;rw [aG4] at this;exact this
 have hlen:(aO (qN xH)).length < 1099511627776:=Nat.lt_of_le_of_lt (HX (qX IJ).1 (qX MM).1) (by decide);have hPa:∀ H,aG Tryz.prog 15 [sv (ofL (aO (qN xH)))] H (fun x H'=>x=.tup [av (bP xH),iv 0]∧H'=H):=fun H=>by
  have:=aBe (aO (qN xH)) hlen H;rw [aEb] at this;exact this
 have hI0:∀ H,aG Tryz.prog 19 [av (bP r0H)] H (fun x H'=>x=sv (pU litH)∧H'=H):=fun H=>by
  have:=F4 r0H aBx (by decide) H;rw [aJT] at this;exact this
 have hIx:∀ H,aG Tryz.prog 19 [av (bP xH)] H (fun x H'=>x=sv (pU litH)∧H'=H):=fun H=>by
  have:=F4 xH RU (by decide) H;rw [aK4] at this;exact this
 have hSa:∀ H,aG Tryz.prog 21 [av (bP xH),av (bP xH)] H (fun r H'=>r=bv true∧H'=H):=fun H=>by
  have:=D5 xH xH H (uF RU) (uF RU);rw [IN.2 rfl] at this;exact this
 have hks:LH [sNil,uN]:=aBw;have hC1:∀ H,aG Tryz.prog 22 [av (bP xH),av (aAK w0H [sNil,uN])] H (fun x H'=>x=iv 0∧H'=H):=fun H=>by
  have:=HI xH w0H [sNil,uN] RU (by decide) hks H;rw [aF9] at this;exact this
 have hBa:=fun H=>P8 xH H;have hC2:∀ H,aG Tryz.prog 22 [av (bP (lG xH)),av (aAK w0H [sNil,uN])] H (fun x H'=>x=iv 0∧H'=H):=fun H=>by
  have:=HI (lG xH) w0H [sNil,uN] aJH (by decide) hks H;rw [aHh] at this;exact this
 have hC3:∀ H,aG Tryz.prog 22 [av (bP fxH),av (aAK w0H [sNil,uN])] H (fun x H'=>x=iv 16∧H'=H):=fun H=>by
  have:=HI fxH w0H [sNil,uN] aJG (by decide) hks H;rw [aC9] at this;exact this
 have hC4:∀ H,aG Tryz.prog 22 [av (bP xH),av (aAK w0H [uN])] H (fun x H'=>x=iv 1∧H'=H):=fun H=>by
  have:=HI xH w0H [uN] RU (by decide) aJF H;rw [aFj] at this;exact this
 refine Bd func10 rfl ntmps10<|Sr<|Dd aP<|Zz<|Sr<|Dd (uS S8)<|Dd (by exact bE (id:=1) rfl B5 rfl rfl)<|Uu (jK aM)<|Zz<|Sr<|Dd (by exact aB rfl rfl QL rfl (hSum _))<|Dd aP<|Zz<|Sr<|Dd (by exact aB rfl rfl call28 rfl (hPub _))<|Dd aI<|Dd eS<|Dd eS<|Dd aP<|Dd aP<|Zz<|Sr<|Dd aI<|Dd (by exact aS ([sNil,uN].map encStr) rfl cO rfl rfl rfl rfl rfl (by intro r hr;simp only [List.map_cons,List.map_nil,aL1,aL5,or_false] at hr;rcases hr with rfl|rfl<;>rfl))<|Dd (uS aJ7)<|Dd (by exact bE (id:=5) rfl aKH rfl rfl)<|Uu (jK TO)<|Zz<|Sr<|Dd (by exact aL rfl aR aM rfl rfl rfl rfl (by simp only [Zl,encStr];rfl) rfl)<|Dd (by exact bE (id:=6) rfl B5 rfl rfl)<|Uu (jK aM)<|Zz<|Sr<|Dd (uS aCy)<|Dd (by exact aS ([((1:Int),(2:Int))].map fM) rfl Q7 rfl rfl rfl rfl rfl (by intro r hr;simp only [List.map_cons,List.map_nil,aL1,aL5,or_false] at hr;subst hr;rfl)) ?_;refine Dd (uS aHg)<|Dd (bB eJ)<|Uu (by exact iC rfl sizeOf28 rfl rfl rfl rfl rfl rfl rfl (aL2 rfl) rfl rfl)<|Zz<|Sr<|Dd (by exact aL rfl aR aM rfl rfl rfl rfl (by simp only [Zl,encStr];rfl) rfl)<|Dd (by exact aB rfl rfl call26 rfl (hMk _))<|Dd aI<|Dd eS<|Dd eS<|Dd (by exact bE (id:=7) rfl B5 rfl rfl)<|Uu (jK aM)<|Dd aP<|Zz<|Sr<|Dd (by exact aL rfl aR aM rfl rfl rfl rfl (by simp only [Zl,encStr];rfl) rfl)<|Dd (by exact aB rfl rfl aLC rfl (hTx _))<|Dd aI<|Dd eS<|Dd eS<|Dd aP<|Dd aP<|Zz<|Sr<|Dd aI<|Dd (by exact aB rfl rfl call15 rfl (hPa _))<|Dd aI<|Dd eS<|Dd eS<|Dd (by exact bE (id:=11) rfl B5 rfl rfl)<|Uu (jK aM)<|Dd aP<|Zz<|Sr<|Dd (by exact aL rfl aR aM rfl rfl rfl rfl (by simp only [Zl,encStr];rfl) rfl) ?_;refine Dd (by exact bE (id:=13) rfl B5 rfl rfl)<|Uu (jK aM)<|Zz<|Sr<|Dd (bB yS)<|Dd (bL isAgg3)<|Dd (by exact cA rfl rfl rfl (by rfl))<|Dd (bB yS)<|Uu (by exact aZ rfl sizeOf3 rfl rfl rfl rfl rfl rfl (aL2 rfl) rfl rfl)<|Zz<|Sr<|Dd (by exact aL rfl aR aM rfl rfl rfl rfl (by simp only [Zl,encStr];rfl) rfl)<|Dd (by exact aB rfl rfl call26 rfl (hMr _))<|Dd aI<|Dd eS<|Dd eS<|Dd (by exact bE (id:=14) rfl B5 rfl rfl)<|Uu (jK aM)<|Dd aP<|Zz<|Sq<|Sr<|Dd aI<|Dd (by exact cD.val (by exact zQ rfl rfl rfl) (neZ))<|Dd aI<|On aI<|On (by exact cD.val (by exact zQ rfl rfl rfl) (neZ))<|Dd cL<|Dd aI<|On aI<|On (by exact cD.val (by exact zQ rfl rfl rfl) (neZ))<|Dd cL<|Dd aI<|On aI<|On (by exact cD.val (by exact zQ rfl rfl rfl) (neZ)) ?_;refine Dd cL<|Dd aI<|On aI<|On (by exact cD.val (by exact zQ rfl rfl rfl) (neZ))<|Dd cL<|Zz ?_;refine Cn ?_ ?_<;>intro hc1
 ·refine Sr<|Dd aP<|Zz<|aC<|Rt ?_;cases hc1
 refine aE<|Sq<|aQ follows<|Cq (by exact aL rfl aR aM rfl rfl rfl rfl (by simp only [Zl,encStr];rfl) rfl)<|Cq (by exact aB rfl rfl mD rfl (hI0 _))<|Cq aI<|Cq (by exact cD.val (by exact CN rfl rfl rfl) ((decide_eq_true rfl)))<|Cq aI<|Nt (by exact aL rfl aR aM rfl rfl rfl rfl (by simp only [Zl,encStr];rfl) rfl)<|Nt (by exact aB rfl rfl mD rfl (hIx _))<|Nt aI<|Nt (by exact cD.val (by exact CN rfl rfl rfl) ((decide_eq_true rfl)))<|Cq cL<|Cq aI<|Nt (by exact aL rfl aR aM rfl rfl rfl rfl (by simp only [Zl,encStr];rfl) rfl)<|Nt (by exact aL rfl aR aM rfl rfl rfl rfl (by simp only [Zl,encStr];rfl) rfl)<|Nt (by exact aB rfl rfl aLB rfl (hSa _))<|Cq cL<|Cq aI<|Nt (by exact aL rfl aR aM rfl rfl rfl rfl (by simp only [Zl,encStr];rfl) rfl) ?_;refine Nt (by exact aL rfl aKg TO rfl rfl rfl rfl (by simp only [Zl,encStr];rfl) rfl)<|Nt (by exact aB rfl rfl aDc rfl (hC1 _))<|Nt (by exact cD.val (by exact sM rfl rfl rfl) ((decide_eq_true rfl)))<|Cq cL<|Cq aI<|Nt (by exact aL rfl aR aM rfl rfl rfl rfl (by simp only [Zl,encStr];rfl) rfl)<|Nt (by exact aB rfl rfl aLA rfl (hBa _))<|Nt (by exact aL rfl aKg TO rfl rfl rfl rfl (by simp only [Zl,encStr];rfl) rfl)<|Nt (by exact aB rfl rfl aDc rfl (hC2 _))<|Nt (by exact cD.val (by exact sM rfl rfl rfl) ((decide_eq_true rfl)))<|Cq cL<|Cq aI<|Nt (by exact aL rfl aR aM rfl rfl rfl rfl (by simp only [Zl,encStr];rfl) rfl)<|Nt (by exact aL rfl aKg TO rfl rfl rfl rfl (by simp only [Zl,encStr];rfl) rfl) ?_;refine Nt (by exact aB rfl rfl aDc rfl (hC3 _))<|Nt (by exact cD.val (by exact sM rfl rfl rfl) ((decide_eq_true rfl)))<|Cq cL<|Cq aI<|Nt (by exact aL rfl aR aM rfl rfl rfl rfl (by simp only [Zl,encStr];rfl) rfl)<|Nt aI<|Nt (by exact aS ([uN].map encStr) rfl cO rfl rfl rfl rfl rfl (by intro r hr;simp only [List.map_cons,List.map_nil,aL1,aL5,or_false] at hr;subst hr;rfl))<|Nt (uS aJ7)<|Nt (by exact aB rfl rfl aDc rfl (hC4 _))<|Nt (by exact cD.val (by exact sM rfl rfl rfl) ((decide_eq_true rfl)))<|Cq cL<|Cq aI<|Nt (bB iP)<|Nt (bB lS)<|Nt (bL isAgg3)<|Nt (by exact cD.val (by exact sM rfl rfl rfl) ((decide_eq_true rfl)))<|Cq cL<|Cq aI<|Nt (bB eJ)<|Nt (bB nN)<|Nt (bB lS)<|Nt (bL isAgg3)<|Nt (by exact cD.val (by exact sM rfl rfl rfl) ((decide_eq_true rfl))) ?_;exact Cq cL<|Cq aP<|bJ<|Kr<|aC<|Rt<|Qq
section
def aFv (B:Nat) (l:List (Int×Int)):Prop:=l.length≤B∧∀ q,q∈l→KP q.1∧KP q.2
def OG (B:Nat) (s:GSeal):Prop:=KP s.idx∧A4 B s.sig∧A4 B s.path
def T6 (B:Nat) (p:GPriv):Prop:=p.name.size≤B∧p.reason.size≤B∧A4 B p.sources∧aFv B p.trace∧OG B p.sl
def aBH (B:Nat) (r:GRec):Prop:=(KP r.kind∧KP r.author∧KP r.number∧KP r.clock∧KP r.order)∧(r.branch.size≤B∧r.target.size≤B∧r.from'.size≤B)∧A4 B r.parents∧W8 B r.edits∧OG B r.sl∧T6 B r.priv
section
variable {B n:Nat} {ps:List PV}
theorem aJ3 (h:Sh Tryz.prog B (n+3) 26 ps):∃ l,ps=[oZ l]∧aFv B l:=by
 obtain ⟨l,rfl,h1,h2⟩:=GW (f:=fM) (good:=fun q=>KP q.1∧KP q.2) dP h (fun r hr=>by
  obtain ⟨x,y,rfl,h1,h2⟩:=P0 hr;exact⟨(x,y),rfl,h1,h2⟩)
 exact⟨l,rfl,h1,h2⟩
theorem WB (h:Sh Tryz.prog B (n+3) 25 ps):∃ s,ps=fA s∧OG B s:=by obtain ⟨_,_,rfl,_,h1,_,_,rfl,_,h2,_,_,rfl,_,h3,rfl⟩:=oC fC h;obtain ⟨i,rfl,q1⟩:=sX underlying3 h1;obtain ⟨a,rfl,q2⟩:=E5 h2;obtain ⟨b,rfl,q3⟩:=E5 h3;exact⟨⟨i,a,b⟩,rfl,q1,q2,q3⟩
theorem aCn (h:Sh Tryz.prog B (n+4) 28 ps):∃ p,ps=kR p∧T6 B p:=by obtain ⟨_,_,rfl,_,h1,_,_,rfl,_,h2,_,_,rfl,_,h3,_,_,rfl,_,h4,_,_,rfl,_,h5,rfl⟩:=oC kT h;obtain ⟨a,rfl,q1⟩:=nD underlying9 h1;obtain ⟨b,rfl,q2⟩:=nD underlying9 h2;obtain ⟨c,rfl,q3⟩:=E5 h3;obtain ⟨d,rfl,q4⟩:=aJ3 h4;obtain ⟨s,rfl,q5⟩:=WB h5;exact⟨⟨a,b,c,d,s⟩,rfl,q1,q2,q3,q4,q5⟩
theorem aJ2 (h:Sh Tryz.prog B (n+7) 30 ps):∃ r,ps=bP r∧aBH B r:=by obtain ⟨_,_,rfl,_,h1,_,_,rfl,_,h2,_,_,rfl,_,h3,_,_,rfl,_,h4,_,_,rfl,_,h5,_,_,rfl,_,h6,_,_,rfl,_,h7,_,_,rfl,_,h8,_,_,rfl,_,h9,_,_,rfl,_,h10,_,_,rfl,_,h11,_,_,rfl,_,h12,_,_,rfl,_,h13,rfl⟩:=oC cR h;obtain ⟨a1,rfl,q1⟩:=sX underlying3 h1;obtain ⟨a2,rfl,q2⟩:=sX underlying3 h2;obtain ⟨a3,rfl,q3⟩:=sX underlying3 h3;obtain ⟨a4,rfl,q4⟩:=sX underlying3 h4;obtain ⟨a5,rfl,q5⟩:=nD underlying9 h5;obtain ⟨a6,rfl,q6⟩:=E5 h6;obtain ⟨a7,rfl,q7⟩:=aFU h7;obtain ⟨a8,rfl,q8⟩:=nD underlying9 h8;obtain ⟨a9,rfl⟩:=aEG dN h9;obtain ⟨a10,rfl,q10⟩:=sX underlying3 h10;obtain ⟨a11,rfl,q11⟩:=nD underlying9 h11;obtain ⟨s,rfl,q12⟩:=WB h12;obtain ⟨p,rfl,q13⟩:=aCn h13;exact⟨⟨a1,a2,a3,a4,a5,a6,a7,a8,a9,a10,a11,s,p⟩,rfl,⟨q1,q2,q3,q4,q10⟩,⟨q5,q8,q11⟩,q6,q7,q12,q13⟩
end
theorem EJ {s:GSeal} (h:OG 1048576 s):pQ s:=⟨h.1.bd,⟨Nat.lt_of_le_of_lt h.2.1.1 (by decide),fun t ht=>Nat.lt_of_le_of_lt (h.2.1.2 t ht) (by decide)⟩,⟨Nat.lt_of_le_of_lt h.2.2.1 (by decide),fun t ht=>Nat.lt_of_le_of_lt (h.2.2.2 t ht) (by decide)⟩⟩
theorem MY {p:GPriv} (h:T6 1048576 p):PA p:=⟨Nat.lt_of_le_of_lt h.1 (by decide),Nat.lt_of_le_of_lt h.2.1 (by decide),⟨Nat.lt_of_le_of_lt h.2.2.1.1 (by decide),fun t ht=>Nat.lt_of_le_of_lt (h.2.2.1.2 t ht) (by decide)⟩,Nat.lt_of_le_of_lt h.2.2.2.1.1 (by decide),EJ h.2.2.2.2⟩
theorem aBy {r:GRec} (h:aBH 1048576 r):gQ r:=by obtain ⟨⟨h1,h2,h3,h4,h5⟩,⟨q1,q2,q3⟩,p,e,s,v⟩:=h;exact⟨⟨h1.bd,h2.bd,h3.bd,h4.bd,h5.bd⟩,⟨by omega,by omega,by omega⟩,⟨Nat.lt_of_le_of_lt p.1 (by decide),fun t ht=>Nat.lt_of_le_of_lt (p.2 t ht) (by decide)⟩,⟨Nat.lt_of_le_of_lt e.1 (by decide),fun x hx=>aHG (by decide) (e.2 x hx)⟩,EJ s,MY v⟩
theorem aGk {r:GRec} (h:aBH 1048576 r):r.parents.length < 549755813888:=Nat.lt_of_le_of_lt h.2.2.1.1 (by decide)
end
def kW (r:GRec) (p:GPriv) (s:GSeal):GRec:={r with priv:=p,sl:=s}
theorem neB {a:ByteArray}:(!decide (a=a))=false:=by simp
theorem BB {r:GRec} (h:gQ r):gQ (lG r):=by obtain ⟨a,b,c,d,e,_⟩:=h;exact⟨a,b,c,d,e,(by decide:sNil.size < 1099511627776),(by decide:sNil.size < 1099511627776),⟨(by decide:0 < 1099511627776),fun t ht=>by cases ht⟩,(by decide:0 < 1099511627776),okZ⟩
theorem JP {r:GRec} (h:cU r=true):oE r=xK (nU r):=by rw [oE,aLO h]
theorem aJU {r:GRec} (h:cU r=true):isJ (oE r)=true:=by rw [JP h];exact C4 _
theorem aFE {r:GRec} {p:GPriv} {s:GSeal} (h:cU r=true) (h2:cU (kW r p s)=true):oE (kW r p s)=oE r:=by rw [JP h,JP h2];rfl
theorem GI (r:GRec) (p:GPriv) (s:GSeal) (hr:gQ r) (hp:r.parents.length < 549755813888) (hv:PA p) (hs:pQ s) (H:aA):aG Tryz.prog 6 [av (bP r),av (kR p),av (fA s)] H (fun x H'=>x=bv true∧H'=H):=by
 refine aG.pure ?_ (by simp [bP,kR,fA]) H;have ho:gQ (kW r p s):=⟨hr.1,hr.2.1,hr.2.2.1,hr.2.2.2.1,hs,hv⟩;have hfw:=fun H=>VG [r,kW r p s] H (show 2 < 1099511627776 by decide) (fun x hx=>by
  simp only [aL1,aL5,or_false] at hx;rcases hx with rfl|rfl
  ·exact hr
  exact ho)
 have hv1:=fun H=>zL r hr hp H;have hv2:=fun H=>zL (kW r p s) ho hp H;have hb1:=fun H=>P8 r H;have hb2:=fun H=>P8 (kW r p s) H;obtain ⟨F,hF⟩:∃ F,F=NN [r,kW r p s] 5:=⟨_,rfl⟩;rw [← hF] at hfw;refine Bd func6 rfl ntmps6<|Sr<|Dd (by exact bZ (id:=3) rfl rfl rfl rfl rfl)<|Dd (by exact bZ (id:=4) rfl rfl rfl rfl rfl)<|Dd (by exact bZ (id:=5) rfl rfl rfl rfl rfl)<|Dd aP<|Zz<|Sr<|Dd (by exact aB rfl rfl call10 rfl (aC4 _))<|Dd aP<|Zz<|Sr<|Dd (by exact aL rfl aR aM rfl rfl rfl rfl (by simp only [Zl,encStr];rfl) rfl)<|Dd (by exact bE (id:=8) rfl B5 rfl rfl)<|Uu (jK aM)<|Zz<|Sr<|Dd (by exact aL rfl iA sizeOf28 rfl rfl rfl rfl (by simp only [Zl,encStr];rfl) rfl)<|Dd (bB eJ)<|Uu (by exact iC rfl sizeOf28 rfl rfl rfl rfl rfl rfl rfl (aL2 rfl) rfl rfl)<|Zz<|Sr<|Dd (by exact aL rfl dX sizeOf25 rfl rfl rfl rfl (by simp only [Zl,encStr];rfl) rfl)<|Dd (bB iP)<|Uu (by exact iC rfl sizeOf25 rfl rfl rfl rfl rfl rfl rfl (aL2 rfl) rfl rfl) ?_;refine Zz<|Sq<|Sq ?_;refine bC (t:=32) (n:=17) (X:=(!F||!cU r)||!cU (kW r p s)) ?_ ?_
 ·all_goals refine Dd (by exact aL rfl aR aM rfl rfl rfl rfl (by simp only [Zl,encStr];rfl) rfl) ?_
  all_goals refine Dd (by exact aL rfl aR aM rfl rfl rfl rfl (by simp only [Zl,encStr];rfl) rfl)<|Dd (by exact aS ([r,kW r p s].map bP) rfl aI3 rfl rfl rfl rfl rfl (by intro r hr;simp only [List.map_cons,List.map_nil,aL1,aL5,or_false] at hr;rcases hr with rfl|rfl<;>rfl))<|Dd (by exact aB rfl rfl call11 rfl (hfw _))<|Dd lI<|Dm ?_
  all_goals refine Sp 23 (fun h23=>?_) fun h23=>?_
  all_goals try contradiction
  all_goals first|refine Fo<|Fo<|Fo ?_|refine On (by exact aL rfl aR aM rfl rfl rfl rfl (by simp only [Zl,encStr];rfl) rfl)<|On (by exact aB rfl rfl DY rfl (hv1 _))<|On lI ?_
  all_goals refine Dd cL<|Dm ?_
  all_goals refine Sp 28 (fun h28=>?_) fun h28=>?_
  all_goals try contradiction
  all_goals first|refine Fo<|Fo<|Fo ?_|refine On (by exact aL rfl aR aM rfl rfl rfl rfl (by simp only [Zl,encStr];rfl) rfl)<|On (by exact aB rfl rfl DY rfl (hv2 _))<|On lI ?_
  all_goals refine Dd cL<|Zz ?_
  all_goals(exact⟨⟨_,rfl,by first|(simp only [*,Zo];done)|(simp_all;done)⟩,rfl,rfl,rfl⟩)
 refine Cn ?_ ?_<;>intro hc1
 ·exact Sr<|Dd aI<|Dd aP<|Zz<|aC<|Rt<|Qq
 have hc:=hc1;have hok:cU r=true∧cU (kW r p s)=true:=by
  revert hc;cases cU r<;>cases cU (kW r p s)<;>cases F<;>decide
 obtain ⟨k1,k2⟩:=hok;have hi1:=fun H=>F4 r hr hp H;have hi2:∀ H,aG Tryz.prog 19 [av (bP (kW r p s))] H (fun x H'=>x=sv (oE r)∧H'=H):=fun H=>by
  have:=F4 (kW r p s) ho hp H;rw [aFE k1 k2] at this;exact this
 have hi3:∀ H,aG Tryz.prog 19 [av (bP (lG r))] H (fun x H'=>x=sv (oE r)∧H'=H):=fun H=>by
  have:=F4 (lG r) (BB hr) hp H;rw [X5 k1] at this;exact this
 have his:∀ H,aG Tryz.prog 31 [sv (oE r)] H (fun x H'=>x=bv true∧H'=H):=fun H=>by
  have:=X3 (oE r) (Nat.lt_of_le_of_lt (HD r) (by decide)) H;rw [aJU k1] at this;exact this
 have hs1:∀ H,aG Tryz.prog 21 [av (bP (lG (kW r p s))),av (bP (lG (kW r p s)))] H (fun x H'=>x=bv true∧H'=H):=fun H=>by
  have:=D5 (lG (kW r p s)) (lG (kW r p s)) H (uF (BB ho)) (uF (BB ho));rw [IN.2 rfl] at this;exact this
 have hs2:∀ H,aG Tryz.prog 21 [av (bP r),av (bP r)] H (fun x H'=>x=bv true∧H'=H):=fun H=>by
  have:=D5 r r H (uF hr) (uF hr);rw [IN.2 rfl] at this;exact this
 refine aE<|Sq<|aQ follows<|Cr [3] (fun H1 hH=>by exact aL rfl aR aM rfl ((hH _ rfl).trans rfl) rfl rfl (by simp only [Zl,encStr];rfl) rfl)<|Cr [] (fun H1 hH=>by exact aB rfl rfl aLA rfl (hb1 _))<|Cr [8] (fun H1 hH=>by exact aL rfl aR aM rfl ((hH _ rfl).trans rfl) rfl rfl (by simp only [Zl,encStr];rfl) rfl)<|Cr [] (fun H1 hH=>by exact aB rfl rfl aLA rfl (hb2 _))<|Cp [9] (fun H1 hH=>by exact bE (id:=9) rfl B5 rfl ((hH _ rfl).trans rfl))<|Cp [10] (fun H1 hH=>by exact bE (id:=10) rfl B5 rfl ((hH _ rfl).trans rfl))<|Cp [9] (fun H1 hH=>by exact bQ rfl aM rfl rfl rfl rfl ((hH _ rfl).trans rfl) rfl rfl rfl)<|Cp [10] (fun H1 hH=>by exact bQ rfl aM rfl rfl rfl rfl ((hH _ rfl).trans rfl) rfl rfl rfl)<|bJ<|Kr<|Sr<|Dd (by exact aL rfl aR aM rfl rfl rfl rfl (by simp only [Zl,encStr];rfl) rfl) ?_;refine Dd (by exact bE (id:=11) rfl B5 rfl rfl)<|Uu (jK aM)<|Zz<|Sr<|Dd (bB iP)<|Dd (pN dX sizeOf25)<|Dd (bB iP)<|Uu (by exact iC rfl sizeOf25 rfl rfl rfl rfl rfl rfl rfl (aL2 rfl) rfl rfl)<|Zz<|Sq<|Sq<|aQ follows<|Cq (by exact aL rfl aR aM rfl rfl rfl rfl (by simp only [Zl,encStr];rfl) rfl)<|Cq (by exact aB rfl rfl mD rfl (hi1 _))<|Cq (by exact aL rfl aR aM rfl rfl rfl rfl (by simp only [Zl,encStr];rfl) rfl)<|Cq (by exact aB rfl rfl mD rfl (hi2 _))<|Cq (by exact cD.val (by exact IU rfl rfl rfl) (neB))<|Cq aI<|Nf (by exact aL rfl aR aM rfl rfl rfl rfl (by simp only [Zl,encStr];rfl) rfl)<|Nf (by exact aB rfl rfl mD rfl (hi3 _))<|Nf (by exact aL rfl aR aM rfl rfl rfl rfl (by simp only [Zl,encStr];rfl) rfl) ?_;refine Nf (by exact aB rfl rfl mD rfl (hi1 _))<|Nf (by exact cD.val (by exact IU rfl rfl rfl) (neB))<|Cq cL<|Cq aI<|Nf (by exact aL rfl aR aM rfl rfl rfl rfl (by simp only [Zl,encStr];rfl) rfl)<|Nf (by exact aB rfl rfl mD rfl (hi1 _))<|Nf (by exact aB rfl rfl aDb rfl (his _))<|Nf lI<|Cq cL<|bJ<|Kr ?_;refine Cn ?_ ?_<;>intro hc2
 ·refine Sr<|Dd aP<|Zz<|aC<|Rt ?_;cases hc2
 exact aE<|Sr<|Dd (bB eJ)<|Dd (pN iA sizeOf28)<|Dd (bB eJ)<|Uu (by exact iC rfl sizeOf28 rfl rfl rfl rfl rfl rfl rfl (aL2 rfl) rfl rfl)<|Zz<|Sr<|Dd aI<|Dd aI<|On (by exact aL rfl aR aM rfl rfl rfl rfl (by simp only [Zl,encStr];rfl) rfl)<|On (by exact aL rfl aR aM rfl rfl rfl rfl (by simp only [Zl,encStr];rfl) rfl)<|On (by exact aB rfl rfl aLB rfl (hs1 _))<|Dd cL<|Dd aI<|On (by exact aL rfl aR aM rfl rfl rfl rfl (by simp only [Zl,encStr];rfl) rfl)<|On (by exact aL rfl aR aM rfl rfl rfl rfl (by simp only [Zl,encStr];rfl) rfl)<|On (by exact aB rfl rfl aLB rfl (hs2 _))<|Dd cL<|Dd aP<|Zz<|aC<|Rt<|Qq
end Go.Proofs.YtiifmppaejpemaaGreatDoor
