/-
  Parts of the proof: rules of an abstract program logic, contracts of functions, plain laws. Conditions: each theorem's own.
-/
import Derived.Test.YtiifmppaejpemaaGreatDoorKR4M11
set_option linter.unusedVariables false
set_option linter.unusedSimpArgs false
set_option maxRecDepth 100000
set_option maxHeartbeats 8000000
namespace Go.Proofs
theorem oL:type_of% Tryz.call15:=Tryz.call15
theorem aDg:type_of% Tryz.call21:=Tryz.call21
theorem aDf:type_of% Tryz.call22:=Tryz.call22
theorem aKn:type_of% Tryz.isAgg37:=Tryz.isAgg37
theorem TR:type_of% Tryz.sizeOf37:=Tryz.sizeOf37
end Go.Proofs
namespace Go.Proofs.YtiifmppaejpemaaGreatDoor
open Go.Proofs.Tryz
open Go.Abs
structure WRest where
 a:PV
 b:PV
 c:PV
 d:PV
 e:PV
def aAN (w:WRest) (ks:List ByteArray):List PV:=[w.a,aU ks,w.b,w.c,w.d,w.e]
def ckA (r:GRec) (ks:List ByteArray):Bool:=!dH r||decide (((ks.map encStr).length:Int)≤r.author)
def ckB (r:GRec) (key:ByteArray):Bool:=!decide (r.sl.idx=2*r.number - 2)||!vG key (sB r) r.sl.idx r.sl.sig r.sl.path
def ckC (r:GRec):Bool:=fO r.priv&&!sI r.priv.sl
def ckD (r:GRec) (key:ByteArray):Bool:=!fO r.priv&&(!decide (r.priv.sl.idx=2*r.number - 1)||!vG key (pR r) r.priv.sl.idx r.priv.sl.sig r.priv.sl.path)
def pW (r:GRec) (ks:List ByteArray):Int:=if ckA r ks=true then 1 else if ckB r (ks.getD r.author.toNat sNil)=true then 16 else if ckC r=true then 16 else if ckD r (ks.getD r.author.toNat sNil)=true then 16 else 0
theorem HI (r:GRec) (w:WRest) (ks:List ByteArray) (hr:iE r) (hp:r.parents.length < 549755813888) (hk:LH ks) (H:aB):aH Tryz.prog 22 [av (bM r),av (aAN w ks)] H (fun x H'=>x=iv (pW r ks)∧H'=H):=by
 refine aH.pure ?_ (by simp [bM,aAN]) H;have hkl:(ks.map encStr).length=ks.length:=aLT _;have hks:=hk.1;have hv:=fun H=>zU r hr hp H;have hid:=fun H=>SE r hr hp H;have hckA:ckA r ks=(!dH r||decide (((ks.map encStr).length:Int)≤r.author)):=rfl;rw [pW];refine Bd func22 rfl ntmps22<|Sr<|Dd (by exact bZ (id:=2) rfl rfl rfl rfl rfl)<|Dd (by exact bZ (id:=3) rfl rfl rfl rfl rfl)<|Dd aP<|Zz<|Sq<|Sq ?_;refine bD (t:=17) (n:=12) (X:=ckA r ks) ?_ ?_
 ·all_goals refine Dd (pZ aR aL) ?_
  all_goals refine Dd (by exact aA rfl rfl oK rfl (hv _))<|Dd lI<|Dm ?_
  all_goals refine Sp 10 (fun h10=>?_) fun h10=>?_
  all_goals try contradiction
  all_goals first|refine Fo<|Fo<|Fo<|Fo<|Fo<|Fo ?_|refine On (bB yZ)<|On (bK isAgg3)<|On (bB aCf)<|On (bK aJ)<|On (fY aD)<|On JR ?_
  all_goals refine Dd cE<|Zz ?_
  all_goals(exact⟨⟨_,rfl,by(rw [hckA,h10];rfl)⟩,rfl,rfl,rfl⟩)
 refine Cn ?_ ?_<;>intro hc1
 ·rw [aLS hc1];exact Sr<|Dd aP<|Zz<|aC<|Rt<|Qq
 have hA:=hc1;rw [aLR (by rw [hA];decide)];rw [hckA,aLf] at hA;have hb:=AD hA.1;have hau:=aLQ hA.2;have hf:=oX hb;have hau0:=hf.au;have hnu:=hf.nu;have hme:=fun H=>M6 r hr hp hb H;have hfs:=jT hf.sl;have hfp:=jT hf.psl;have i0:=hfs.i0;have i1:=hfs.i1;have q0:=hfp.i0;have q1:=hfp.i1;have hms:(pR r).size=16:=iM _;have his:=PN r;have hix:(ks.map encStr)[r.author.toNat]?=some (encStr (ks.getD r.author.toNat sNil)):=by
  rw [aLd,List.getD_eq_getElem?_getD,aLY (by omega)];rfl
 obtain ⟨key,hkey⟩:∃ key,key=ks.getD r.author.toNat sNil:=⟨_,rfl⟩;rw [← hkey] at hix ⊢;have hve1:=fun H=>LY key (sB r) r.sl.idx r.sl.sig r.sl.path H (by omega) (by omega) (by omega) (kK hfs).2.1.1 (kK hfs).2.2.1 (kK hfs).2.1.2 (kK hfs).2.2.2;have hve2:=fun H=>LY key (pR r) r.priv.sl.idx r.priv.sl.sig r.priv.sl.path H (by omega) (by omega) (by omega) (kK hfp).2.1.1 (kK hfp).2.2.1 (kK hfp).2.1.2 (kK hfp).2.2.2;have hem:=fun H=>YB r.priv hr.2.2.2.2.2 H;have hze:=fun H=>aAv r.priv.sl (kK hfp) H;have hckB:ckB r key=(!decide (r.sl.idx=2*r.number - 2)||!vG key (sB r) r.sl.idx r.sl.sig r.sl.path):=rfl;have hckC:ckC r=(fO r.priv&&!sI r.priv.sl):=rfl;have hckD:ckD r key=(!fO r.priv&&(!decide (r.priv.sl.idx=2*r.number - 1)||!vG key (pR r) r.priv.sl.idx r.priv.sl.sig r.priv.sl.path)):=rfl;obtain ⟨v1,hv1⟩:∃ v1,v1=vG key (sB r) r.sl.idx r.sl.sig r.sl.path:=⟨_,rfl⟩;obtain ⟨v2,hv2⟩:∃ v2,v2=vG key (pR r) r.priv.sl.idx r.priv.sl.sig r.priv.sl.path:=⟨_,rfl⟩;obtain ⟨em,hemE⟩:∃ em,em=fO r.priv:=⟨_,rfl⟩;obtain ⟨ze,hzeE⟩:∃ ze,ze=sI r.priv.sl:=⟨_,rfl⟩;obtain ⟨i,hi⟩:∃ i,i=sB r:=⟨_,rfl⟩;obtain ⟨m,hm⟩:∃ m,m=pR r:=⟨_,rfl⟩;rw [← hv1] at hckB;rw [← hv2] at hckD;rw [← hemE] at hckC hckD;rw [← hzeE] at hckC;simp only [← hv1] at hve1;simp only [← hv2] at hve2;simp only [← hi] at hid hve1;simp only [← hm] at hme hve2;simp only [← hemE] at hem;simp only [← hzeE] at hze;clear hv1 hv2 hemE hzeE hi hm hkey;refine aE<|Sq<|aQ follows<|Cr [3] (fun _ h=>fh aCf h)<|Cr [3] (fun _ h=>lh aJ h)<|Cr [2] (fun _ h=>fh yZ h)<|Cr [2] (fun _ h=>lh isAgg3 h)<|Cr [] (fun H1 hH=>by exact bN rfl cP rfl rfl (by omega) (by exact aL4 _) hix rfl)<|Cr [] (fun _ _=>(pH isAgg9 (hi:=hix)))<|Cr [2] (fun _ h=>fh eV h)<|Cr [2] (fun H1 hH=>by exact aM rfl kT sizeOf28 rfl ((hH _ rfl).trans rfl) rfl rfl rfl rfl)<|Cp [6] (fun H1 hH=>by exact bC (id:=6) rfl aG4 rfl ((hH _ rfl).trans rfl))<|Cr [] (fun _ _=>aP)<|Cp [6] (fun H1 hH=>by exact bT rfl sizeOf28 rfl rfl rfl rfl ((hH _ rfl).trans rfl) rfl rfl rfl)<|bJ<|Kr<|Sq<|aG<|Sq ?_;refine oI (t:=26) (n:=18) (X:=ckB r key) ?_ ?_
 ·cases hg35:(!decide (r.sl.idx=2*r.number - 2):Bool)
  ·refine aQ follows<|Cq (bB lK)<|Cq (bB lS)<|Cq (bK isAgg3)<|Cq (bB pT)<|Cq (bK isAgg3)<|Cq (by exact qD rfl rfl rfl (pO (by omega) (by omega)))<|Cq (by exact eB rfl rfl rfl (pO (by omega) (by omega)))<|Cq uL<|Cq aF<|Nf aF<|Nf (pZ aR aL)<|Nf (by exact aA rfl rfl QI rfl (hid _))<|Nf (bB lK)<|Nf (pZ eM sizeOf25)<|Nf (by exact aA rfl rfl call32 rfl (hve1 _))<|Nf lI<|Cq xA<|Cq aP<|bJ<|Kr ?_;exact⟨rfl,⟨_,rfl,by(rw [hckB,hg35];rfl)⟩,rfl,rfl,rfl⟩
  refine aQ follows<|Cq (bB lK)<|Cq (bB lS)<|Cq (bK isAgg3)<|Cq (bB pT)<|Cq (bK isAgg3)<|Cq (by exact qD rfl rfl rfl (pO (by omega) (by omega)))<|Cq (by exact eB rfl rfl rfl (pO (by omega) (by omega)))<|Cq uL<|Cq aF<|Of<|Of<|Of<|Of<|Of<|Of<|Of<|Cq KU<|Cq aP<|bJ<|Kr ?_;exact⟨rfl,⟨_,rfl,by(rw [hckB,hg35];rfl)⟩,rfl,rfl,rfl⟩
 refine Cn ?_ ?_<;>intro hc2
 ·rw [aLS hc2];exact Sr<|Dd aP<|Zz<|aC<|Rt<|Qq
 rw [aLR (by rw [hc2];decide)];refine Sq ?_;refine bD (t:=44) (n:=10) (X:=ckC r) ?_ ?_
 ·all_goals refine Dd (pZ kT sizeOf28) ?_
  all_goals refine Dd (by exact aA rfl rfl QF rfl (hem _))<|Dm ?_
  all_goals refine Sp 47 (fun h47=>?_) fun h47=>?_
  all_goals try contradiction
  all_goals first|refine Fo<|Fo<|Fo<|Fo ?_|refine On (bB nM)<|On (pZ eM sizeOf25)<|On (by exact aA rfl rfl call84 rfl (hze _))<|On lI ?_
  all_goals refine Dd cE<|Da ?_
  all_goals(exact⟨⟨_,rfl,by(rw [hckC,h47];rfl)⟩,rfl,rfl,rfl⟩)
 refine Cn ?_ ?_<;>intro hc3
 ·rw [aLS hc3];exact Sr<|Dd aP<|Zz<|aC<|Rt<|Qq
 rw [aLR (by rw [hc3];decide)];refine Sq ?_;refine oI (t:=53) (n:=23) (X:=ckD r key) ?_ ?_
 ·cases hg57:(!em:Bool)
  ·refine aQ follows<|Cq (pZ kT sizeOf28)<|Cq (by exact aA rfl rfl QF rfl (hem _))<|Cq lI<|Cq aF<|Ot<|Ot<|Ot<|Ot<|Ot<|Ot<|Ot<|Ot<|Ot<|Ou<|Ou<|Ou<|Ou<|Ou<|Ou<|Ou<|Ot<|Cq xA<|Cq aP<|bJ<|Kr ?_;exact⟨rfl,⟨_,rfl,by(rw [hckD,hg57];rfl)⟩,rfl,rfl,rfl⟩
  cases hg66:(!decide (r.priv.sl.idx=2*r.number - 1):Bool)
  ·refine aQ follows<|Cq (pZ kT sizeOf28)<|Cq (by exact aA rfl rfl QF rfl (hem _))<|Cq lI<|Cq aF<|Nt (bB nM)<|Nt (bB lS)<|Nt (bK isAgg3)<|Nt (bB pT)<|Nt (bK isAgg3)<|Nt (by exact qD rfl rfl rfl (pO (by omega) (by omega)))<|Nt (by exact eB rfl rfl rfl (pO (by omega) (by omega)))<|Nt uL<|Nt aF<|Nf aF<|Nf (pZ aR aL)<|Nf (by exact aA rfl rfl call85 rfl (hme _))<|Nf (bB nM)<|Nf (pZ eM sizeOf25)<|Nf (by exact aA rfl rfl call32 rfl (hve2 _))<|Nf lI<|Nt xA<|Cq KU<|Cq aP<|bJ<|Kr ?_;exact⟨rfl,⟨_,rfl,by(rw [hckD,hg57,hg66];rfl)⟩,rfl,rfl,rfl⟩
  refine aQ follows<|Cq (pZ kT sizeOf28)<|Cq (by exact aA rfl rfl QF rfl (hem _))<|Cq lI<|Cq aF<|Nt (bB nM)<|Nt (bB lS)<|Nt (bK isAgg3)<|Nt (bB pT)<|Nt (bK isAgg3)<|Nt (by exact qD rfl rfl rfl (pO (by omega) (by omega)))<|Nt (by exact eB rfl rfl rfl (pO (by omega) (by omega)))<|Nt uL<|Nt aF<|Of<|Of<|Of<|Of<|Of<|Of<|Of<|Nt KU<|Cq KU<|Cq aP<|bJ<|Kr ?_;exact⟨rfl,⟨_,rfl,by(rw [hckD,hg57,hg66];rfl)⟩,rfl,rfl,rfl⟩
 refine Cn ?_ ?_<;>intro hc4
 ·rw [aLS hc4];exact Sr<|Dd aP<|Zz<|aC<|Rt<|Qq
 rw [aLR (by rw [hc4];decide)];exact aE<|Sr<|Dd aP<|Zz<|aC<|Rt<|Qq
def LQ (l:List ByteArray):List PV:=[aU l]
def OM (ls:List (List ByteArray)):PV:=.sl (ls.map LQ)
def UJ (l:List GRec):PV:=.sl (l.map bM)
def lsOk (l:List ByteArray):Bool:=decide (l.length≤30)&&l.all fun s=>decide (s.size≤300)
theorem KE {α:Type} {l:List α} {p:α→Bool} (h:∀ j,j < l.length→∀ b,l[j]?=some b→p b=true):l.all p=true:=by rw [List.all_eq_true];intro b hb;obtain ⟨j,hj⟩:=aLe.1 hb;exact h j (aLX.1 hj).1 b hj
theorem P9 {α:Type} {l:List α} {p:α→Bool} {i:Nat} {b:α} (hb:l[i]?=some b) (h:p b=false):l.all p=false:=by rw [List.all_eq_false];exact⟨b,aL3 hb,by rw [h];decide⟩
theorem D5 {α:Type} {l:List α} {p:α→Bool} {i:Nat} {x:α} (h:∀ j,j < i→∀ b,l[j]?=some b→p b=true) (hx:l[i]?=some x) (hp:p x=true):∀ j,j < i+1→∀ b,l[j]?=some b→p b=true:=by
 intro j hj b hb;by_cases e:j=i
 ·subst e;rw [hx] at hb;cases hb;exact hp
 exact h j (by omega) b hb
theorem M7 (ls:List (List ByteArray)) (H:aB) (hl:ls.length < 1099511627776) (hs:∀ l∈ls,l.length < 1099511627776):aH Tryz.prog 111 [.pv (OM ls)] H (fun r H'=>r=bv (ls.all lsOk)∧H'=H):=by
 refine Pu ?_;have hml:(ls.map LQ).length=ls.length:=aLT _;refine Bd func111 rfl ntmps111<|Sr<|Dd aP<|Zz<|Sq<|Sr<|Dd aP<|Zz<|aG ?_;refine bQ (σ:=Nat) (fun k=>([(0,.pv (OM ls)),(3,iv (k:Int))],[])) (fun k=>k≤ls.length∧∀ j,j < k→∀ b,ls[j]?=some b→lsOk b=true) (fun k=>ls.length - k) 0 ⟨by omega,by omega⟩ ?_ ?_
 ·exact Wk
 rintro k ⟨hk,hno⟩;refine Sq<|Sr<|Dd aF<|Dd aF<|Dd (fY B5)<|Dd dK<|Zz ?_;refine Cn ?_ ?_<;>intro hc1
 ·have hlt:k < ls.length:=by have:=aLP hc1;omega
  obtain ⟨l,hl1⟩:=bE hlt;have hi:=cJ (f:=LQ) hl1;have hll:=hs l (aL3 hl1);have hmm:(l.map encStr).length=l.length:=aLT _;have hnot:=fun h=>P9 (p:=lsOk) hl1 h;refine aE<|Sq<|aG<|Sq<|Sr<|Dd aF<|Dd aF<|Dd (by exact bN rfl FR rfl rfl (by omega) (by exact aL4 _) hi rfl)<|Dd (pH aJ (hi:=hi))<|Dd (fY aD)<|Dd mI<|Zz ?_;refine Cn ?_ ?_<;>intro hc2
  ·have hb:¬ l.length≤30:=by have:=aLP hc2;omega
   rw [hnot (by rw [lsOk,decide_eq_false hb];rfl)];exact Sr<|Dd aP<|Zz<|aC<|Rt<|Qq
  have hb:l.length≤30:=by have:=aLQ hc2;omega
  refine aE<|Sr<|Dd aP<|Zz<|aG ?_;refine bQ (σ:=Nat) (fun i=>([(0,.pv (OM ls)),(3,iv (k:Int)),(4,iv (i:Int))],[])) (fun i=>i≤l.length∧∀ j,j < i→∀ b,l[j]?=some b→decide (b.size≤300)=true) (fun i=>l.length - i) 0 ⟨by omega,by omega⟩ ?_ ?_
  ·exact Wk
  rintro i ⟨hi',hno2⟩;refine Sq<|Sr<|Dd aF<|Dd aF<|Dd aF<|Dd (by exact bN rfl FR rfl rfl (by omega) (by exact aL4 _) hi rfl)<|Dd (pH aJ (hi:=hi))<|Dd (fY aD)<|Dd dK<|Zz ?_;refine Cn ?_ ?_<;>intro hc3
  ·have hlt2:i < l.length:=by have:=aLP hc3;omega
   obtain ⟨s,hs1⟩:=bE hlt2;have hi2:=cJ (f:=encStr) hs1;refine aE<|Sq<|aG<|Sr<|Dd aF<|Dd aF<|Dd (by exact bN rfl FR rfl rfl (by omega) (by exact aL4 _) hi rfl)<|Dd (pH aJ (hi:=hi))<|Dd aF<|Dd (by exact bN rfl cP rfl rfl (by omega) (by exact aL4 _) hi2 rfl)<|Dd (pH isAgg9 (hi:=hi2))<|Dd (nT underlying9)<|Dd mI<|Zz ?_;refine Cn ?_ ?_<;>intro hc4
   ·have hb2:¬ s.size≤300:=by have:=aLP hc4;omega
    rw [hnot (by rw [lsOk,P9 (p:=fun s=>decide (s.size≤300)) hs1 (decide_eq_false hb2),Bool.and_false])];exact Sr<|Dd aP<|Zz<|aC<|Rt<|Qq
   have hb2:s.size≤300:=by have:=aLQ hc4;omega
   refine aE<|Rg<|Dd aF<|Dd (by exact cA rfl rfl rfl (show IntKind.i64.wrap ((i:Int)+1)=((i+1:Nat):Int)by rw [pO (by omega) (by omega)];omega))<|Da ?_;exact⟨i+1,⟨by omega,D5 (p:=fun s=>decide (s.size≤300)) hno2 hs1 (decide_eq_true hb2)⟩,by omega,Wk⟩
  have hge:i=l.length:=by have:=aLQ hc3;omega
  subst hge;have hok:lsOk l=true:=by rw [lsOk,decide_eq_true hb,KE hno2];rfl
  refine bG<|Rg<|Dd aF<|Dd (by exact cA rfl rfl rfl (show IntKind.i64.wrap ((k:Int)+1)=((k+1:Nat):Int)by rw [pO (by omega) (by omega)];omega))<|Da ?_;exact⟨k+1,⟨by omega,D5 hno hl1 hok⟩,by omega,Wk⟩
 have hge:k=ls.length:=by have:=aLQ hc1;omega
 subst hge;rw [KE hno];exact bG<|Sr<|Dd aP<|Zz<|aC<|Rt<|Qq
def aCh (r:GRec):Bool:=((!([r.parents,r.sl.sig,r.sl.path,r.priv.sources,r.priv.sl.sig,r.priv.sl.path].all lsOk)||!([[r.branch,r.target,r.from',r.priv.name,r.priv.reason]].all lsOk))||decide (210 < ((r.priv.trace.map fM).length:Int)))||!tM r.edits 10
def WA (r:GRec):Bool:=!aCh r
def NN (l:List GRec) (n:Int):Bool:=decide ((l.length:Int)≤n)&&l.all WA
theorem RZ {r:GRec} (h:iE r):∀ l∈[r.parents,r.sl.sig,r.sl.path,r.priv.sources,r.priv.sl.sig,r.priv.sl.path],l.length < 1099511627776:=by
 obtain ⟨_,_,h1,_,h3,_,_,h4,_,h6⟩:=h;intro l hl;simp only [aL5,aL9,or_false] at hl;rcases hl with rfl|rfl|rfl|rfl|rfl|rfl
 ·exact h1.1
 ·exact h3.2.1.1
 ·exact h3.2.2.1
 ·exact h4.1
 ·exact h6.2.1.1
 exact h6.2.2.1
theorem aFM (l:List GRec) (n:Int) (H:aB) (hl:l.length < 1099511627776) (hr:∀ r∈l,iE r):aH Tryz.prog 43 [.pv (UJ l),iv n] H (fun r H'=>r=bv (NN l n)∧H'=H):=by
 refine Pu ?_;have hml:(l.map bM).length=l.length:=aLT _;have hB:NN l n=(decide (((l.map bM).length:Int)≤n)&&l.all WA):=by rw [NN,hml]
 refine Bd func43 rfl ntmps43<|Sr<|Dd aP<|Zz<|Sq<|Sr<|Dd aP<|Zz<|aG ?_;refine bQ (σ:=Nat) (fun k=>([(0,.pv (UJ l)),(1,iv n),(5,iv (k:Int))],[])) (fun k=>k≤l.length∧∀ j,j < k→∀ b,l[j]?=some b→WA b=true) (fun k=>l.length - k) 0 ⟨by omega,by omega⟩ ?_ ?_
 ·exact Wk
 rintro k ⟨hk,hno⟩;refine Sq<|Sq ?_;refine bD (t:=17) (n:=11) (X:=decide ((k:Int) < ((l.map bM).length:Int))&&decide (((l.map bM).length:Int)≤n)) ?_ ?_
 ·all_goals refine Dd aF ?_
  all_goals refine Dd aF<|Dd (fY D0)<|Dd dK<|Dm ?_
  all_goals refine Sp 12 (fun h12=>?_) fun h12=>?_
  all_goals try contradiction
  all_goals first|refine Fo<|Fo<|Fo<|Fo ?_|refine On aF<|On (fY D0)<|On aF<|On TP ?_
  all_goals refine Dd cE<|Zz ?_
  all_goals(exact⟨⟨_,rfl,by(rw [h12];rfl)⟩,rfl,rfl,rfl⟩)
 refine Cn ?_ ?_<;>intro hc1
 ·have hh:=hc1;rw [aL2,aL0,aL0] at hh;have hlt:k < l.length:=by omega
  obtain ⟨r,hr1⟩:=bE hlt;have hi:=cJ (f:=bM) hr1;have hok:=hr r (aL3 hr1);have hnot:=fun h=>P9 (p:=WA) hr1 h;have hl1:=fun H=>M7 [r.parents,r.sl.sig,r.sl.path,r.priv.sources,r.priv.sl.sig,r.priv.sl.path] H (show 6 < 1099511627776 by decide) (RZ hok);have hl2:=fun H=>M7 [[r.branch,r.target,r.from',r.priv.name,r.priv.reason]] H (show 1 < 1099511627776 by decide) (by intro l hl;rw [aLW] at hl;subst hl;exact(by decide:5 < 1099511627776));have hed:=fun H=>aFN r.edits 10 H (by have:=hok.2.2.2.1.1;omega) (fun e he=>⟨⟨(hok.2.2.2.1.2 e he).2.2.2.2.1,(hok.2.2.2.1.2 e he).2.2.2.1.1⟩,by have:=(hok.2.2.2.1.2 e he).2.1.1;omega⟩);have hX:aCh r=(((!([r.parents,r.sl.sig,r.sl.path,r.priv.sources,r.priv.sl.sig,r.priv.sl.path].all lsOk)||!([[r.branch,r.target,r.from',r.priv.name,r.priv.reason]].all lsOk))||decide (210 < ((r.priv.trace.map fM).length:Int)))||!tM r.edits 10):=rfl;obtain ⟨b1,hb1⟩:∃ b,b=[r.parents,r.sl.sig,r.sl.path,r.priv.sources,r.priv.sl.sig,r.priv.sl.path].all lsOk:=⟨_,rfl⟩;obtain ⟨b2,hb2⟩:∃ b,b=[[r.branch,r.target,r.from',r.priv.name,r.priv.reason]].all lsOk:=⟨_,rfl⟩;obtain ⟨b3,hb3⟩:∃ b,b=tM r.edits 10:=⟨_,rfl⟩;rw [← hb1] at hl1 hX;rw [← hb2] at hl2 hX;rw [← hb3] at hed hX;clear hb1 hb2 hb3;refine aE<|Sq<|aG<|Sr<|Dd aF<|Dd aF<|Dd (by exact bN rfl aIa rfl rfl (by omega) (by exact aL4 _) hi rfl)<|Dd (by exact cQ rfl aR aL rfl hi rfl rfl)<|Dd (by exact bC (id:=6) rfl xN rfl rfl)<|Uu (iH aL)<|Zz<|Sr<|Dd (bB eV)<|Dd (pZ kT sizeOf28)<|Dd (by exact bC (id:=7) rfl aG4 rfl rfl)<|Uu (iH sizeOf28)<|Zz<|Sq ?_;refine bD (t:=72) (n:=50) (X:=aCh r) ?_ ?_
  ·all_goals refine Dd (bB oE) ?_
   all_goals refine Dd (bK aJ)<|Dd (bB lK)<|Dd (bB iL)<|Dd (bK aJ)<|Dd (bB lK)<|Dd (bB mK)<|Dd (bK aJ)<|Dd (bB zA)<|Dd (bK aJ)<|Dd (bB nM)<|Dd (bB iL)<|Dd (bK aJ)<|Dd (bB nM)<|Dd (bB mK)<|Dd (bK aJ)<|Dd (by exact aS [LQ r.parents,LQ r.sl.sig,LQ r.sl.path,LQ r.priv.sources,LQ r.priv.sl.sig,LQ r.priv.sl.path] rfl FR rfl rfl rfl rfl rfl (by intro r hr;simp only [aL5,aL9,or_false] at hr;rcases hr with rfl|rfl|rfl|rfl|rfl|rfl<;>rfl))<|Dd (by exact aA rfl rfl call111 rfl (hl1 _))<|Dd lI<|Dm ?_
   all_goals refine Sp 45 (fun h45=>?_) fun h45=>?_
   all_goals try contradiction
   all_goals first|refine Fo<|Fo<|Fo<|Fo<|Fo<|Fo<|Fo<|Fo<|Fo<|Fo ?_|refine On (bB yX)<|On (bK isAgg9)<|On (bB yW)<|On (bK isAgg9)<|On (bB wM)<|On (bK isAgg9)<|On (bB BT)<|On (bK isAgg9)<|On (bB BS)<|On (bK isAgg9) ?_
   all_goals first|refine Fo ?_|refine On (by exact aS [[.str r.branch],[.str r.target],[.str r.from'],[.str r.priv.name],[.str r.priv.reason]] rfl cP rfl rfl rfl rfl rfl (by intro r hr;simp only [aL5,aL9,or_false] at hr;rcases hr with rfl|rfl|rfl|rfl|rfl<;>rfl)) ?_
   all_goals first|refine Fo<|Fo<|Fo ?_|refine On (by exact aS [LQ [r.branch,r.target,r.from',r.priv.name,r.priv.reason]] rfl FR rfl rfl rfl rfl rfl (by intro r hr;rw [aLW] at hr;subst hr;rfl))<|On (by exact aA rfl rfl call111 rfl (hl2 _))<|On lI ?_
   all_goals refine Dd cE<|Dm ?_
   all_goals refine Sp 61 (fun h61=>?_) fun h61=>?_
   all_goals try contradiction
   all_goals first|refine Fo<|Fo<|Fo<|Fo ?_|refine On (bB rQ)<|On (bK jD)<|On (fY dP)<|On mI ?_
   all_goals refine Dd cE<|Dm ?_
   all_goals refine Sp 67 (fun h67=>?_) fun h67=>?_
   all_goals try contradiction
   all_goals first|refine Fo<|Fo<|Fo<|Fo ?_|refine On (bB BR)<|On (bK mM)<|On (by exact aA rfl rfl call112 rfl (hed _))<|On lI ?_
   all_goals refine Dd cE<|Zz ?_
   all_goals(exact⟨⟨_,rfl,by first|(rw [hX,h45];rfl)|(rw [hX,h45,h61];rfl)|(rw [hX,h45,h61,h67];rfl)⟩,rfl,rfl,rfl⟩)
  refine Cn ?_ ?_<;>intro hc2
  ·rw [hB,hnot (by rw [WA,hc2];rfl),Bool.and_false];exact Sr<|Dd aP<|Zz<|aC<|Rt<|Qq
  have hgo:WA r=true:=by rw [WA,hc2];rfl
  refine aE<|Rg<|Dd aF<|Dd (by exact cA rfl rfl rfl (show IntKind.i64.wrap ((k:Int)+1)=((k+1:Nat):Int)by rw [pO (by omega) (by omega)];omega))<|Da ?_;exact⟨k+1,⟨by omega,D5 hno hr1 hgo⟩,by omega,Wk⟩
 have hh:=hc1;rw [Bool.and_eq_false_iff,aL1,aL1] at hh;have hres:NN l n=decide (((l.map bM).length:Int)≤n):=by
  rw [hB];rcases hh with hh|hh
  ·have hge:k=l.length:=by omega
   subst hge;rw [KE hno,Bool.and_true]
  rw [decide_eq_false hh];rfl
 rw [hres];exact bG<|Sr<|Dd aF<|Dd (fY D0)<|Dd aF<|Dd TP<|Dd aP<|Zz<|aC<|Rt<|Qq
theorem VK (l:List GRec) (H:aB) (hl:l.length < 1099511627776) (hr:∀ r∈l,iE r):aH Tryz.prog 11 [.pv (UJ l)] H (fun r H'=>r=bv (NN l 5)∧H'=H):=by refine Pu ?_;have hf:=fun H=>aFM l 5 H hl hr;exact Bd func11 rfl ntmps11<|Sr<|Dd aP<|Zz<|Sr<|Dd aF<|Dd (by exact aA rfl rfl call43 rfl (hf _))<|Dd aP<|Zz<|aC<|Rt<|Qq
theorem uC {r:GRec} {a b:GSeal} (h:dH r=true) (ha:iY a=true) (hb:iY b=true):dH (R6 r a b)=true:=by simp only [dH,aL2,aLc] at h ⊢;obtain ⟨⟨⟨⟨h1,h2⟩,h3⟩,h4⟩,h5⟩:=h;refine⟨⟨⟨⟨?_,h2⟩,h3⟩,h4⟩,h5⟩;simp only [Y0,aLf] at h1 ⊢;obtain ⟨⟨h1,_⟩,_⟩:=h1;exact⟨⟨h1,by show (!iY b)=false;rw [hb];rfl⟩,by show (!iY a)=false;rw [ha];rfl⟩
theorem X8:iY zS=true:=by decide
theorem VP {r:GRec} {a b:GSeal} (h:dH r=true) (ha:iY a=true) (hb:iY b=true):sB (R6 r a b)=sB r:=by rw [sB,sB,aLS (uC h ha hb),aLS h];rfl
theorem aEp {r:GRec} {a b:GSeal} (h:dH r=true) (ha:iY a=true) (hb:iY b=true):pR (R6 r a b)=pR r:=by rw [pR,pR,VP h ha hb];rfl
theorem HP {r:GRec} (h:dH r=true):dH (qA r)=true:=by
 simp only [dH,aL2,aLc] at h ⊢;obtain ⟨⟨⟨⟨h1,h2⟩,h3⟩,h4⟩,h5⟩:=h;refine⟨⟨⟨⟨?_,h2⟩,h3⟩,h4⟩,h5⟩;simp only [Y0,aLf] at h1 ⊢;obtain ⟨_,h8⟩:=h1;refine⟨?_,h8⟩;have e1:iY ⟨0,[],[]⟩=true:=by decide
 have e2:F0 sNil=false:=by decide
 simp [qA,e1,e2]
theorem aFI {r:GRec} (h:dH r=true):sB (qA r)=sB r:=by rw [sB,sB,aLS (HP h),aLS h];rfl
theorem aJ1 {s:GSeal} (h:FSeal s) (hl:s.sig.length=18):iY s=true:=by have i0:=h.i0;have i1:=h.i1;have l2:=h.pl;rw [iY,aLT,aLT,decide_eq_true i0,decide_eq_true i1,decide_eq_true (by omega),decide_eq_true (by omega),List.all_eq_true.2 h.sa,List.all_eq_true.2 h.pa];simp
theorem jZ {s m:ByteArray} {h i:Int} (h1:(vD s h i m).2=0):iY (vD s h i m).1=true:=by obtain ⟨f,e,_⟩:=qZ h1;refine aJ1 f ?_;rw [e];exact II _ _ _
theorem XH {s m:ByteArray} {h i:Int} (h1:(vD s h i m).2=0):vG (rC s h.toNat) m (vD s h i m).1.idx (vD s h i m).1.sig (vD s h i m).1.path=true∧(vD s h i m).1.idx=i:=by
 obtain ⟨_,e,⟨h2,h3⟩,h4,h5⟩:=qZ h1;rw [e];refine⟨?_,rfl⟩;obtain ⟨n,rfl⟩:∃ n:Nat,h=(n:Int):=⟨h.toNat,by omega⟩;obtain ⟨k,rfl⟩:∃ k:Nat,i=(k:Int):=⟨i.toNat,by omega⟩;rw [aL4] at h5 ⊢;rw [aL4];have h6:k < 2 ^ n:=by exact_mod_cast h5
 exact aBA s m (by omega) h6
theorem R5 {r x:GRec} (h:xB r=(x,0)):x=r∧(eD r).2=0:=by
 rw [xB] at h
 split at h
 ·next hn=>exact absurd (congrArg Prod.snd h) hn
 next hn=>exact⟨(congrArg Prod.fst h).symm,by by_cases e:(eD r).2=0;exact e;exact absurd e hn⟩
structure Made (r x:GRec) (s:ByteArray) (h:Int):Prop where
 v0:dH (xW r)=true
 a0:(vD s h (2*r.number - 2) (sB (xW r))).2=0
 tx:(eD x).2=0
 e:(fO r.priv=true∧x=mk1 r (vD s h (2*r.number - 2) (sB (xW r))).1)∨(fO r.priv=false∧(vD s h (2*r.number - 1) (pR (xW r))).2=0∧x=R6 r (vD s h (2*r.number - 2) (sB (xW r))).1 (vD s h (2*r.number - 1) (pR (xW r))).1)
theorem aEx {r x:GRec} {s:ByteArray} {h:Int} (hm:C6 r s h=(x,0)):Made r x s h:=by
 rw [C6] at hm
 split at hm
 ·cases hm
 next h1 =>
 split at hm
 ·next h2 =>
  have:=congrArg Prod.snd hm;exact absurd this h2
 next h2 =>
 have h2:(vD s h (2*r.number - 2) (sB (xW r))).2=0:=by
  by_cases e:(vD s h (2*r.number - 2) (sB (xW r))).2=0
  ·exact e
  exact absurd e h2
 split at hm
 ·next h3 =>
  obtain ⟨e1,e2⟩:=R5 hm;exact⟨by simpa using h1,h2,e1▸e2,.inl ⟨h3,e1⟩⟩
 next h3 =>
 split at hm
 ·next h4 =>
  have:=congrArg Prod.snd hm;exact absurd this h4
 next h4 =>
 obtain ⟨e1,e2⟩:=R5 hm;refine⟨by simpa using h1,h2,e1▸e2,.inr ⟨by simpa using h3,?_,e1⟩⟩;by_cases e:(vD s h (2*r.number - 1) (pR (xW r))).2=0
 ·exact e
 exact absurd e h4
theorem Made.valid {r x:GRec} {s:ByteArray} {h:Int} (hm:Made r x s h):dH x=true:=by
 rcases hm.e with⟨_,e⟩|⟨_,h2,e⟩
 ·rw [e];exact uC (r:=xW r) hm.v0 (jZ hm.a0) X8
 rw [e];exact uC (r:=xW r) hm.v0 (jZ hm.a0) (jZ h2)
theorem Made.text {r x:GRec} {s:ByteArray} {h:Int} (hm:Made r x s h):eD x=(ofL (aO (qP x)),0):=by
 have h1:=hm.tx;rw [eD,aLS hm.valid] at h1 ⊢
 split at h1
 ·cases h1
 next h2=>rw [aLR h2]
theorem Made.id {r x:GRec} {s:ByteArray} {h:Int} (hm:Made r x s h):sB x=sB (xW r):=by
 rcases hm.e with⟨_,e⟩|⟨_,h2,e⟩
 ·rw [e];exact VP (r:=xW r) hm.v0 (jZ hm.a0) X8
 rw [e];exact VP (r:=xW r) hm.v0 (jZ hm.a0) (jZ h2)
theorem Made.ver {r x:GRec} {s:ByteArray} {h:Int} (hm:Made r x s h):vG (rC s h.toNat) (sB x) x.sl.idx x.sl.sig x.sl.path=true∧x.sl.idx=2*x.number - 2:=by
 rw [hm.id];have:=XH hm.a0;rcases hm.e with⟨_,e⟩|⟨_,h2,e⟩
 ·rw [e];exact this
 rw [e];exact this
theorem Made.check {r x:GRec} {s:ByteArray} {h:Int} (hm:Made r x s h) {ks:List ByteArray} (hk:ks[r.author.toNat]?=some (rC s h.toNat)):pW x ks=0:=by
 have hv:=hm.valid;have hf:=oX hv;have hau:=hf.au;obtain ⟨k1,k2⟩:=hm.ver;have ha:x.author=r.author:=by rcases hm.e with⟨_,e⟩|⟨_,_,e⟩<;>rw [e]<;>rfl
 have hlt:r.author.toNat < ks.length:=(aLX.1 hk).1;have hg:ks.getD x.author.toNat sNil=rC s h.toNat:=by rw [ha,List.getD_eq_getElem?_getD,hk];rfl
 rw [pW,hg];have hA:ckA x ks=false:=by rw [ckA,hv,aLT,decide_eq_false (by omega)];rfl
 have hB:ckB x (rC s h.toNat)=false:=by rw [ckB,k1,decide_eq_true k2];rfl
 rw [hA,hB];rcases hm.e with⟨he,e⟩|⟨he,h2,e⟩
 ·have hC:ckC x=false:=by rw [ckC,e];show (_&&!sI zS)=false;rw [show sI zS=true by decide];simp
  have hD:ckD x (rC s h.toNat)=false:=by rw [ckD,e];show (!fO (mk1 r zS).priv&&_)=false;rw [show fO (mk1 r zS).priv=fO r.priv from rfl,he];rfl
  rw [hC,hD];rfl
 have hC:ckC x=false:=by rw [ckC,e];show (fO (mk1 r zS).priv&&_)=false;rw [show fO (mk1 r zS).priv=fO r.priv from rfl,he];rfl
 have hD:ckD x (rC s h.toNat)=false:=by
  obtain ⟨q1,q2⟩:=XH h2;have hmm:pR x=pR (xW r):=by rw [e];exact aEp (r:=xW r) hm.v0 (jZ hm.a0) (jZ h2)
  have hp:x.priv.sl=(vD s h (2*r.number - 1) (pR (xW r))).1:=by rw [e];rfl
  have hn:x.number=r.number:=by rw [e];rfl
  rw [ckD,hmm,hp,q1,hn,decide_eq_true q2];simp
 rw [hC,hD];rfl
theorem Made.bare {r x:GRec} {s:ByteArray} {h:Int} (hm:Made r x s h) {ks:List ByteArray} (hk:ks[r.author.toNat]?=some (rC s h.toNat)):pW (qA x) ks=0:=by
 have hv:=hm.valid;have hf:=oX hv;have hau:=hf.au;obtain ⟨k1,k2⟩:=hm.ver;have ha:x.author=r.author:=by rcases hm.e with⟨_,e⟩|⟨_,_,e⟩<;>rw [e]<;>rfl
 have hlt:r.author.toNat < ks.length:=(aLX.1 hk).1;have hg:ks.getD x.author.toNat sNil=rC s h.toNat:=by rw [ha,List.getD_eq_getElem?_getD,hk];rfl
 rw [pW,show (qA x).author=x.author from rfl,hg];have hA:ckA (qA x) ks=false:=by rw [ckA,HP hv,aLT,show (qA x).author=x.author from rfl,decide_eq_false (by omega)];rfl
 have hB:ckB (qA x) (rC s h.toNat)=false:=by
  rw [ckB,aFI hv];show (!decide (x.sl.idx=2*x.number - 2)||!vG (rC s h.toNat) (sB x) x.sl.idx x.sl.sig x.sl.path)=false;rw [k1,decide_eq_true k2];rfl
 have hC:ckC (qA x)=false:=by rw [ckC];show (_&&!sI zS)=false;rw [show sI zS=true by decide];simp
 have hD:ckD (qA x) (rC s h.toNat)=false:=by rw [ckD];show (!fO ⟨sNil,sNil,[],[],⟨0,[],[]⟩⟩&&_)=false;rw [show fO ⟨sNil,sNil,[],[],⟨0,[],[]⟩⟩=true by decide];rfl
 rw [hA,hB,hC,hD];rfl
theorem Made.parse {r x:GRec} {s:ByteArray} {h:Int} (hm:Made r x s h):fR (aO (qP x))=(x,0):=vW hm.text
def rB:ByteArray:=⟨#[115,101,99,114,101,116]⟩
def aJT:ByteArray:=⟨#[109,97,105,110]⟩
def aFl:ByteArray:=⟨#[65,110,110]⟩
def litH:ByteArray:=⟨#[54,58,114,101,99,111,114,100,49,58,53,49,58,49,49,58,50,49,58,53,52,58,109,97,105,110,49,58,48,48,58,48,58,49,58,48,49,58,48,48,58]⟩
def r0H:GRec:=⟨5,1,2,5,aJT,[],[],sNil,false,0,sNil,zS,⟨sNil,sNil,[],[],zS⟩⟩
def p0H:GRec:={r0H with priv:=⟨aFl,sNil,[],[(1,2)],zS⟩}
def sAH:GSeal:=(vD rB 2 2 (pU litH)).1
def sBH:GSeal:=(vD rB 2 3 (pR p0H)).1
def xH:GRec:=R6 p0H sAH sBH
def fxH:GRec:={xH with clock:=6}
def f0H:GRec:={p0H with clock:=6}
def uS:ByteArray:=rC rB 2
theorem QU:dH r0H=true:=by kernel_rfl
theorem HO:dH p0H=true:=by kernel_rfl
theorem aBB:dH f0H=true:=by kernel_rfl
theorem aCN:(⟨(aO (oD r0H)).toArray⟩:ByteArray)=litH:=by kernel_rfl
theorem aJZ:sB r0H=pU litH:=by rw [sB,aLS QU,zF,aCN]
theorem aGI:sB p0H=pU litH:=by rw [sB,aLS HO];exact congrArg pU aCN
theorem IK:(vD rB 2 2 (pU litH)).2=0:=by rw [vD,aLR (by decide)]
theorem MM:(vD rB 2 3 (pR p0H)).2=0:=by rw [vD,aLR (by decide)]
theorem aFw {s:GSeal} (h:FSeal s):(∀ t∈fI (.z s.idx s.sig s.path),t.size≤24)∧(fI (.z s.idx s.sig s.path)).length≤29:=by
 have i0:=h.i0;have i1:=h.i1;have l1:=h.sl;have l2:=h.pl;constructor
 ·intro t ht;simp only [fI,aL5,List.mem_append] at ht;rcases ht with rfl|(rfl|ht)|(rfl|ht)
  ·exact Nat.le_trans (mH (by omega) (by omega)) (by decide)
  ·exact Nat.le_trans (mH (by omega) (by omega)) (by decide)
  ·exact Nat.le_trans (qI (h.sa t ht)) (by decide)
  ·exact Nat.le_trans (mH (by omega) (by omega)) (by decide)
  exact Nat.le_trans (qI (h.pa t ht)) (by decide)
 simp only [fI,aLV,aLU];omega
theorem aEc:(oD p0H).all (fun s=>decide (s.size≤24))=true:=by kernel_rfl
theorem aBd:(oD p0H).length=12:=by kernel_rfl
theorem aEY:((fI (.t aFl)++(fI (.t sNil)++(fI (.l [])++fI (.p [(1,2)]))))).all (fun s=>decide (s.size≤24))=true:=by kernel_rfl
theorem aB2:((fI (.t aFl)++(fI (.t sNil)++(fI (.l [])++fI (.p [(1,2)]))))).length=6:=by kernel_rfl
theorem HX {a b:GSeal} (ha:FSeal a) (hb:FSeal b):(aO (qP (R6 p0H a b))).length≤20000:=by
 obtain ⟨a1,a2⟩:=aFw ha;obtain ⟨b1,b2⟩:=aFw hb;have he:qP (R6 p0H a b)=oD p0H++(fI (.z a.idx a.sig a.path)++((fI (.t aFl)++(fI (.t sNil)++(fI (.l [])++fI (.p [(1,2)]))))++fI (.z b.idx b.sig b.path))):=by
  rw [qP,tN,CI];simp only [List.flatMap_cons,List.flatMap_nil,List.append_nil,List.append_assoc];rfl
 have hl:=aB2;have hp:=aBd;rw [he];refine Nat.le_trans (wG (M:=24) (by decide) _ ?_) ?_
 ·intro s hs;rw [List.mem_append,List.mem_append,List.mem_append] at hs;rcases hs with hs|hs|hs|hs
  ·exact aLP (List.all_eq_true.1 aEc s hs)
  ·exact a1 s hs
  ·exact aLP (List.all_eq_true.1 aEY s hs)
  exact b1 s hs
 rw [aLU,aLU,aLU];omega
theorem XX:C6 p0H rB 2=(xH,0):=by
 have e0:xW p0H=p0H:=rfl;have e1:(2:Int)*p0H.number - 2=2:=rfl;have e2:(2:Int)*p0H.number - 1=3:=rfl;have e3:fO p0H.priv=false:=by decide
 obtain ⟨fa,_⟩:=qZ IK;obtain ⟨fb,_⟩:=qZ MM;rw [C6,e0,e1,e2,HO,e3,aGI,aLR (by decide),aLR (fun h=>h IK),aLR (by decide),aLR (fun h=>h MM)];show xB xH=(xH,0);have hx:(eD xH).2=0:=by
  have hv:dH xH=true:=uC (r:=p0H) HO (jZ IK) (jZ MM);rw [eD,aLS hv,aLR (by have:=HX fa fb;show ¬ 20000 < (aO (qP (R6 p0H sAH sBH))).length;exact Nat.not_lt.2 this)]
 rw [xB,aLR (fun h=>h hx)]
theorem JE:Made p0H xH rB 2:=aEx XX
theorem aEw:C6 r0H rB 1=(zR,1):=by
 have e0:xW r0H=r0H:=rfl;have e1:(2:Int)*r0H.number - 2=2:=rfl;have e2:(vD rB 1 2 (sB r0H))=(zS,1):=by rw [vD,aLS (by decide)]
 rw [C6,e0,e1,QU,aLR (by decide),e2,aLS (by decide)]
theorem aG9:eD xH=(ofL (aO (qP xH)),0):=JE.text
theorem aEf:fR (aO (qP xH))=(xH,0):=JE.parse
theorem aKb:sB xH=pU litH:=by rw [JE.id];exact aGI
theorem aFd:pW xH [sNil,uS]=0:=JE.check (by rfl)
theorem aHo:pW (qA xH) [sNil,uS]=0:=JE.bare (by rfl)
theorem aFo:pW xH [uS]=1:=by
 rw [pW,aLS];rw [ckA];have:decide ((([uS]:List ByteArray).map encStr).length≤xH.author)=true:=by decide
 rw [this,Bool.or_true]
theorem W4:dH fxH=true:=uC (r:=f0H) aBB (jZ IK) (jZ MM)
theorem aI5:vG (rC rB 2) (zF (oD f0H)) 2 (CG rB 2 (pU litH)) (kZ 2 (kM rB 2) 2)=false:=by kernel_rfl
theorem aCd:pW fxH [sNil,uS]=16:=by
 rw [pW,aLR,aLS]
 ·have hid:sB fxH=zF (oD f0H):=by rw [sB,aLS W4];rfl
  have hs:fxH.sl=⟨2,CG rB 2 (pU litH),kZ 2 (kM rB 2) 2⟩:=(qZ IK).2.1;have hk:([sNil,uS]:List ByteArray).getD fxH.author.toNat sNil=rC rB 2:=rfl;rw [hk,ckB,hid,hs];show (_||!vG (rC rB 2) (zF (oD f0H)) 2 (CG rB 2 (pU litH)) (kZ 2 (kM rB 2) 2))=true;rw [aI5];simp
 rw [ckA,W4];decide
theorem aCB:iE r0H:=by refine⟨⟨⟨by decide,by decide⟩,⟨by decide,by decide⟩,⟨by decide,by decide⟩,⟨by decide,by decide⟩,⟨by decide,by decide⟩⟩,⟨by decide,by decide,by decide⟩,⟨by decide,by simp [r0H]⟩,⟨by decide,by simp [r0H]⟩,okZ,by decide,by decide,⟨by decide,by simp [r0H]⟩,by decide,okZ⟩
theorem aGC:iE p0H:=by obtain ⟨a,b,c,d,e,_⟩:=aCB;exact⟨a,b,c,d,e,by decide,by decide,⟨by decide,by simp [p0H]⟩,by decide,okZ⟩
theorem RV:iE xH:=VB aGC (kK (qZ IK).1) (kK (qZ MM).1)
theorem aJN:iE fxH:=by obtain ⟨⟨a1,a2,a3,a4,a5⟩,b,c⟩:=RV;exact⟨⟨a1,a2,a3,⟨by decide,by decide⟩,a5⟩,b,c⟩
def w0H:WRest:=⟨.sl [],.sl [],.int .i64 0,.sl [],.sl []⟩
theorem aAD:uS.size=16:=by kernel_rfl
theorem aCA:LH [sNil,uS]:=⟨by decide,by
 intro t ht;simp only [aL5,aL9,or_false] at ht;rcases ht with rfl|rfl
 ·decide
 rw [aAD];decide⟩
theorem aJM:LH [uS]:=⟨by decide,fun t ht=>aCA.2 t (List.mem_cons_of_mem _ ht)⟩
theorem aJO:iE (qA xH):=by obtain ⟨a,b,c,d,e,_⟩:=RV;exact⟨a,b,c,d,e,by decide,by decide,⟨by decide,by simp [qA]⟩,by decide,okZ⟩
theorem neZ {a:Int}:(!decide (a=a))=false:=by simp
theorem cB.val {P:Program} {N:Nat} {o:Oper} {E:bO} {H H':aB} {b b':Bool} (h:cB P N o E H (.pv (.bool b)) H') (e:b=b'):cB P N o E H (.pv (.bool b')) H':=e▸h
theorem aC8 (H:aB):aH Tryz.prog 10 [] H (fun r H'=>r=bv true∧H'=H):=by
 refine Pu ?_;have hSum:=fun H=>Q0 litH H (by decide);have hPub:=fun H=>UB rB 2 H (by decide) (by decide);have hMk:∀ H,aH Tryz.prog 26 [av (bM p0H),sv rB,iv 2] H (fun x H'=>x=.tup [av (bM xH),iv 0]∧H'=H):=fun H=>by
  have:=aCJ p0H rB 2 aGC (by decide) (by decide) H;rw [XX] at this;exact this
 have hMr:∀ H,aH Tryz.prog 26 [av (bM r0H),sv rB,iv 1] H (fun x H'=>x=.tup [av (bM zR),iv 1]∧H'=H):=fun H=>by
  have:=aCJ r0H rB 1 aCB (by decide) (by decide) H;rw [aEw] at this;exact this
 have hTx:∀ H,aH Tryz.prog 13 [av (bM xH)] H (fun x H'=>x=.tup [sv (ofL (aO (qP xH))),iv 0]∧H'=H):=fun H=>by
  have:=zW xH RV (by decide) H;rw [aG9] at this;exact this
 have hlen:(aO (qP xH)).length < 1099511627776:=Nat.lt_of_le_of_lt (HX (qZ IK).1 (qZ MM).1) (by decide);have hPa:∀ H,aH Tryz.prog 15 [sv (ofL (aO (qP xH)))] H (fun x H'=>x=.tup [av (bM xH),iv 0]∧H'=H):=fun H=>by
  have:=IT (aO (qP xH)) hlen H;rw [aEf] at this;exact this
 have hI0:∀ H,aH Tryz.prog 19 [av (bM r0H)] H (fun x H'=>x=sv (pU litH)∧H'=H):=fun H=>by
  have:=SE r0H aCB (by decide) H;rw [aJZ] at this;exact this
 have hIx:∀ H,aH Tryz.prog 19 [av (bM xH)] H (fun x H'=>x=sv (pU litH)∧H'=H):=fun H=>by
  have:=SE xH RV (by decide) H;rw [aKb] at this;exact this
 have hSa:∀ H,aH Tryz.prog 21 [av (bM xH),av (bM xH)] H (fun r H'=>r=bv true∧H'=H):=fun H=>by
  have:=D8 xH xH H (uJ RV) (uJ RV);rw [IP.2 rfl] at this;exact this
 have hks:LH [sNil,uS]:=aCA;have hC1:∀ H,aH Tryz.prog 22 [av (bM xH),av (aAN w0H [sNil,uS])] H (fun x H'=>x=iv 0∧H'=H):=fun H=>by
  have:=HI xH w0H [sNil,uS] RV (by decide) hks H;rw [aFd] at this;exact this
 have hBa:=fun H=>aFi xH H;have hC2:∀ H,aH Tryz.prog 22 [av (bM (qA xH)),av (aAN w0H [sNil,uS])] H (fun x H'=>x=iv 0∧H'=H):=fun H=>by
  have:=HI (qA xH) w0H [sNil,uS] aJO (by decide) hks H;rw [aHo] at this;exact this
 have hC3:∀ H,aH Tryz.prog 22 [av (bM fxH),av (aAN w0H [sNil,uS])] H (fun x H'=>x=iv 16∧H'=H):=fun H=>by
  have:=HI fxH w0H [sNil,uS] aJN (by decide) hks H;rw [aCd] at this;exact this
 have hC4:∀ H,aH Tryz.prog 22 [av (bM xH),av (aAN w0H [uS])] H (fun x H'=>x=iv 1∧H'=H):=fun H=>by
  have:=HI xH w0H [uS] RV (by decide) aJM H;rw [aFo] at this;exact this
 refine Bd func10 rfl ntmps10<|Sr<|Dd aP<|Zz<|Sr<|Dd (uX TB)<|Dd (by exact bC (id:=1) rfl xN rfl rfl)<|Uu (iH aL)<|Zz<|Sr<|Dd (by exact aA rfl rfl QH rfl (hSum _))<|Dd aP<|Zz<|Sr<|Dd (by exact aA rfl rfl call28 rfl (hPub _))<|Dd aF<|Dd dV<|Dd dV<|Dd aP<|Dd aP<|Zz<|Sr<|Dd aF<|Dd (by exact aS ([sNil,uS].map encStr) rfl cP rfl rfl rfl rfl rfl (by intro r hr;simp only [List.map_cons,List.map_nil,aL5,aL9,or_false] at hr;rcases hr with rfl|rfl<;>rfl))<|Dd (uX aJc)<|Dd (by exact bC (id:=5) rfl aKM rfl rfl)<|Uu (iH TR)<|Zz<|Sr<|Dd (by exact aM rfl aR aL rfl rfl rfl rfl (by simp only [Zl,encStr];rfl) rfl)<|Dd (by exact bC (id:=6) rfl xN rfl rfl)<|Uu (iH aL)<|Zz<|Sr<|Dd (uX aDC)<|Dd (by exact aS ([((1:Int),(2:Int))].map fM) rfl Q5 rfl rfl rfl rfl rfl (by intro r hr;simp only [List.map_cons,List.map_nil,aL5,aL9,or_false] at hr;subst hr;rfl)) ?_;refine Dd (uX aHn)<|Dd (bB eV)<|Uu (by exact lG rfl sizeOf28 rfl rfl rfl rfl rfl rfl rfl (aL6 rfl) rfl rfl)<|Zz<|Sr<|Dd (by exact aM rfl aR aL rfl rfl rfl rfl (by simp only [Zl,encStr];rfl) rfl)<|Dd (by exact aA rfl rfl call26 rfl (hMk _))<|Dd aF<|Dd dV<|Dd dV<|Dd (by exact bC (id:=7) rfl xN rfl rfl)<|Uu (iH aL)<|Dd aP<|Zz<|Sr<|Dd (by exact aM rfl aR aL rfl rfl rfl rfl (by simp only [Zl,encStr];rfl) rfl)<|Dd (by exact aA rfl rfl mE rfl (hTx _))<|Dd aF<|Dd dV<|Dd dV<|Dd aP<|Dd aP<|Zz<|Sr<|Dd aF<|Dd (by exact aA rfl rfl oL rfl (hPa _))<|Dd aF<|Dd dV<|Dd dV<|Dd (by exact bC (id:=11) rfl xN rfl rfl)<|Uu (iH aL)<|Dd aP<|Zz<|Sr<|Dd (by exact aM rfl aR aL rfl rfl rfl rfl (by simp only [Zl,encStr];rfl) rfl) ?_;refine Dd (by exact bC (id:=13) rfl xN rfl rfl)<|Uu (iH aL)<|Zz<|Sr<|Dd (bB yY)<|Dd (bK isAgg3)<|Dd (by exact cA rfl rfl rfl (by rfl))<|Dd (bB yY)<|Uu (by exact bA rfl sizeOf3 rfl rfl rfl rfl rfl rfl (aL6 rfl) rfl rfl)<|Zz<|Sr<|Dd (by exact aM rfl aR aL rfl rfl rfl rfl (by simp only [Zl,encStr];rfl) rfl)<|Dd (by exact aA rfl rfl call26 rfl (hMr _))<|Dd aF<|Dd dV<|Dd dV<|Dd (by exact bC (id:=14) rfl xN rfl rfl)<|Uu (iH aL)<|Dd aP<|Zz<|Sq<|Sr<|Dd aF<|Dd (by exact cB.val (by exact oN rfl rfl rfl) (neZ))<|Dd aF<|On aF<|On (by exact cB.val (by exact oN rfl rfl rfl) (neZ))<|Dd cE<|Dd aF<|On aF<|On (by exact cB.val (by exact oN rfl rfl rfl) (neZ))<|Dd cE<|Dd aF<|On aF<|On (by exact cB.val (by exact oN rfl rfl rfl) (neZ)) ?_;refine Dd cE<|Dd aF<|On aF<|On (by exact cB.val (by exact oN rfl rfl rfl) (neZ))<|Dd cE<|Zz ?_;refine Cn ?_ ?_<;>intro hc1
 ·refine Sr<|Dd aP<|Zz<|aC<|Rt ?_;cases hc1
 refine aE<|Sq<|aQ follows<|Cq (by exact aM rfl aR aL rfl rfl rfl rfl (by simp only [Zl,encStr];rfl) rfl)<|Cq (by exact aA rfl rfl QI rfl (hI0 _))<|Cq aF<|Cq (by exact cB.val (by exact rF rfl rfl rfl) ((decide_eq_true rfl)))<|Cq aF<|Nt (by exact aM rfl aR aL rfl rfl rfl rfl (by simp only [Zl,encStr];rfl) rfl)<|Nt (by exact aA rfl rfl QI rfl (hIx _))<|Nt aF<|Nt (by exact cB.val (by exact rF rfl rfl rfl) ((decide_eq_true rfl)))<|Cq cE<|Cq aF<|Nt (by exact aM rfl aR aL rfl rfl rfl rfl (by simp only [Zl,encStr];rfl) rfl)<|Nt (by exact aM rfl aR aL rfl rfl rfl rfl (by simp only [Zl,encStr];rfl) rfl)<|Nt (by exact aA rfl rfl aDg rfl (hSa _))<|Cq cE<|Cq aF<|Nt (by exact aM rfl aR aL rfl rfl rfl rfl (by simp only [Zl,encStr];rfl) rfl) ?_;refine Nt (by exact aM rfl aKn TR rfl rfl rfl rfl (by simp only [Zl,encStr];rfl) rfl)<|Nt (by exact aA rfl rfl aDf rfl (hC1 _))<|Nt (by exact cB.val (by exact gC rfl rfl rfl) ((decide_eq_true rfl)))<|Cq cE<|Cq aF<|Nt (by exact aM rfl aR aL rfl rfl rfl rfl (by simp only [Zl,encStr];rfl) rfl)<|Nt (by exact aA rfl rfl call24 rfl (hBa _))<|Nt (by exact aM rfl aKn TR rfl rfl rfl rfl (by simp only [Zl,encStr];rfl) rfl)<|Nt (by exact aA rfl rfl aDf rfl (hC2 _))<|Nt (by exact cB.val (by exact gC rfl rfl rfl) ((decide_eq_true rfl)))<|Cq cE<|Cq aF<|Nt (by exact aM rfl aR aL rfl rfl rfl rfl (by simp only [Zl,encStr];rfl) rfl)<|Nt (by exact aM rfl aKn TR rfl rfl rfl rfl (by simp only [Zl,encStr];rfl) rfl) ?_;refine Nt (by exact aA rfl rfl aDf rfl (hC3 _))<|Nt (by exact cB.val (by exact gC rfl rfl rfl) ((decide_eq_true rfl)))<|Cq cE<|Cq aF<|Nt (by exact aM rfl aR aL rfl rfl rfl rfl (by simp only [Zl,encStr];rfl) rfl)<|Nt aF<|Nt (by exact aS ([uS].map encStr) rfl cP rfl rfl rfl rfl rfl (by intro r hr;simp only [List.map_cons,List.map_nil,aL5,aL9,or_false] at hr;subst hr;rfl))<|Nt (uX aJc)<|Nt (by exact aA rfl rfl aDf rfl (hC4 _))<|Nt (by exact cB.val (by exact gC rfl rfl rfl) ((decide_eq_true rfl)))<|Cq cE<|Cq aF<|Nt (bB lK)<|Nt (bB lS)<|Nt (bK isAgg3)<|Nt (by exact cB.val (by exact gC rfl rfl rfl) ((decide_eq_true rfl)))<|Cq cE<|Cq aF<|Nt (bB eV)<|Nt (bB nM)<|Nt (bB lS)<|Nt (bK isAgg3)<|Nt (by exact cB.val (by exact gC rfl rfl rfl) ((decide_eq_true rfl))) ?_;exact Cq cE<|Cq aP<|bJ<|Kr<|aC<|Rt<|Qq
section
def aGA (B:Nat) (l:List (Int×Int)):Prop:=l.length≤B∧∀ q,q∈l→KO q.1∧KO q.2
def OF (B:Nat) (s:GSeal):Prop:=KO s.idx∧BB B s.sig∧BB B s.path
def UA (B:Nat) (p:GPriv):Prop:=p.name.size≤B∧p.reason.size≤B∧BB B p.sources∧aGA B p.trace∧OF B p.sl
def aBM (B:Nat) (r:GRec):Prop:=(KO r.kind∧KO r.author∧KO r.number∧KO r.clock∧KO r.order)∧(r.branch.size≤B∧r.target.size≤B∧r.from'.size≤B)∧BB B r.parents∧XB B r.edits∧OF B r.sl∧UA B r.priv
section
variable {B n:Nat} {ps:List PV}
theorem aJ8 (h:Sh Tryz.prog B (n+3) 26 ps):∃ l,ps=[pA l]∧aGA B l:=by
 obtain ⟨l,rfl,h1,h2⟩:=GW (f:=fM) (good:=fun q=>KO q.1∧KO q.2) dP h (fun r hr=>by
  obtain ⟨x,y,rfl,h1,h2⟩:=PX hr;exact⟨(x,y),rfl,h1,h2⟩)
 exact⟨l,rfl,h1,h2⟩
theorem aCr (h:Sh Tryz.prog B (n+3) 25 ps):∃ s,ps=iB s∧OF B s:=by obtain ⟨_,_,rfl,_,h1,_,_,rfl,_,h2,_,_,rfl,_,h3,rfl⟩:=oA fC h;obtain ⟨i,rfl,q1⟩:=tB underlying3 h1;obtain ⟨a,rfl,q2⟩:=E7 h2;obtain ⟨b,rfl,q3⟩:=E7 h3;exact⟨⟨i,a,b⟩,rfl,q1,q2,q3⟩
theorem aHd (h:Sh Tryz.prog B (n+4) 28 ps):∃ p,ps=qM p∧UA B p:=by obtain ⟨_,_,rfl,_,h1,_,_,rfl,_,h2,_,_,rfl,_,h3,_,_,rfl,_,h4,_,_,rfl,_,h5,rfl⟩:=oA kS h;obtain ⟨a,rfl,q1⟩:=mG underlying9 h1;obtain ⟨b,rfl,q2⟩:=mG underlying9 h2;obtain ⟨c,rfl,q3⟩:=E7 h3;obtain ⟨d,rfl,q4⟩:=aJ8 h4;obtain ⟨s,rfl,q5⟩:=aCr h5;exact⟨⟨a,b,c,d,s⟩,rfl,q1,q2,q3,q4,q5⟩
theorem aGL (h:Sh Tryz.prog B (n+7) 30 ps):∃ r,ps=bM r∧aBM B r:=by obtain ⟨_,_,rfl,_,h1,_,_,rfl,_,h2,_,_,rfl,_,h3,_,_,rfl,_,h4,_,_,rfl,_,h5,_,_,rfl,_,h6,_,_,rfl,_,h7,_,_,rfl,_,h8,_,_,rfl,_,h9,_,_,rfl,_,h10,_,_,rfl,_,h11,_,_,rfl,_,h12,_,_,rfl,_,h13,rfl⟩:=oA cS h;obtain ⟨a1,rfl,q1⟩:=tB underlying3 h1;obtain ⟨a2,rfl,q2⟩:=tB underlying3 h2;obtain ⟨a3,rfl,q3⟩:=tB underlying3 h3;obtain ⟨a4,rfl,q4⟩:=tB underlying3 h4;obtain ⟨a5,rfl,q5⟩:=mG underlying9 h5;obtain ⟨a6,rfl,q6⟩:=E7 h6;obtain ⟨a7,rfl,q7⟩:=aFY h7;obtain ⟨a8,rfl,q8⟩:=mG underlying9 h8;obtain ⟨a9,rfl⟩:=aEK cL h9;obtain ⟨a10,rfl,q10⟩:=tB underlying3 h10;obtain ⟨a11,rfl,q11⟩:=mG underlying9 h11;obtain ⟨s,rfl,q12⟩:=aCr h12;obtain ⟨p,rfl,q13⟩:=aHd h13;exact⟨⟨a1,a2,a3,a4,a5,a6,a7,a8,a9,a10,a11,s,p⟩,rfl,⟨q1,q2,q3,q4,q10⟩,⟨q5,q8,q11⟩,q6,q7,q12,q13⟩
end
theorem MX {s:GSeal} (h:OF 1048576 s):rI s:=⟨h.1.bd,⟨Nat.lt_of_le_of_lt h.2.1.1 (by decide),fun t ht=>Nat.lt_of_le_of_lt (h.2.1.2 t ht) (by decide)⟩,⟨Nat.lt_of_le_of_lt h.2.2.1 (by decide),fun t ht=>Nat.lt_of_le_of_lt (h.2.2.2 t ht) (by decide)⟩⟩
theorem Z1 {p:GPriv} (h:UA 1048576 p):VC p:=⟨Nat.lt_of_le_of_lt h.1 (by decide),Nat.lt_of_le_of_lt h.2.1 (by decide),⟨Nat.lt_of_le_of_lt h.2.2.1.1 (by decide),fun t ht=>Nat.lt_of_le_of_lt (h.2.2.1.2 t ht) (by decide)⟩,Nat.lt_of_le_of_lt h.2.2.2.1.1 (by decide),MX h.2.2.2.2⟩
theorem RW {r:GRec} (h:aBM 1048576 r):iE r:=by obtain ⟨⟨h1,h2,h3,h4,h5⟩,⟨q1,q2,q3⟩,p,e,s,v⟩:=h;exact⟨⟨h1.bd,h2.bd,h3.bd,h4.bd,h5.bd⟩,⟨by omega,by omega,by omega⟩,⟨Nat.lt_of_le_of_lt p.1 (by decide),fun t ht=>Nat.lt_of_le_of_lt (p.2 t ht) (by decide)⟩,⟨Nat.lt_of_le_of_lt e.1 (by decide),fun x hx=>aHL (by decide) (e.2 x hx)⟩,MX s,Z1 v⟩
theorem aBj {r:GRec} (h:aBM 1048576 r):r.parents.length < 549755813888:=Nat.lt_of_le_of_lt h.2.2.1.1 (by decide)
end
end Go.Proofs.YtiifmppaejpemaaGreatDoor
namespace Go.Proofs.YtiifmppaejpemaaGreatDoor
open Go.Proofs.Tryz
open Go.Abs Go.Lib
theorem aBJ (r:GRec):(decide ((eD r).2=1) == dH r)=false:=by
 rw [eD];by_cases h:dH r=true
 ·rw [aLS h,h]
  split<;>rfl
 rw [aLR h];cases hv:dH r
 ·rfl
 exact absurd hv h
theorem aBI {r:GRec} (h:(eD r).2≠0):(eD r).1=sNil:=by
 rw [eD] at h ⊢
 split at h
 ·next hv =>
  rw [aLS hv]
  split at h
  ·next hl=>rw [aLS hl]
  exact absurd rfl h
 next hv=>rw [aLR hv]
theorem T7 {r:GRec} (h:(eD r).2=0):dH r=true:=by
 by_cases hv:dH r=true
 ·exact hv
 rw [eD,aLR hv] at h;cases h
theorem HY {r:GRec} (h:(eD r).2=0):eD r=(ofL (eD r).1.data.toList,0):=Prod.ext (jS _).symm h
theorem Y3 {a b:GRec} (ha:(eD a).2=0) (hb:(eD b).2=0):(eD a).1=(eD b).1↔a=b:=by
 constructor
 ·intro h;have h1:=vW (HY ha);have h2:=vW (HY hb);rw [h] at h1;exact congrArg Prod.fst (h1.symm.trans h2)
 rintro rfl;rfl
theorem QY (r:GRec):(eD r).1.size≤20000:=by
 rw [eD]
 split
 ·split
  ·exact aLa _
  next h=>rw [fU];exact Nat.le_of_not_lt h
 exact aLa _
theorem aK9 {a:Int} (h:a≠0):(!decide (a=0))=true:=by rw [decide_eq_false h];rfl
theorem aK8 {a:Int} (h:a=0):(!decide (a=0))=false:=by rw [decide_eq_true h];rfl
theorem KS (a b:GRec) (t:ByteArray) (ha:iE a) (hb:iE b) (hpa:a.parents.length < 549755813888) (hpb:b.parents.length < 549755813888) (ht:t.size < 1099511627776) (H:aB):aH Tryz.prog 5 [av (bM a),av (bM b),sv t] H (fun x H'=>x=bv true∧H'=H):=by
 refine aH.pure ?_ (by simp [bM]) H;have hfw:=fun H=>VK [a,b] H (show 2 < 1099511627776 by decide) (fun x hx=>by
  simp only [aL5,aL9,or_false] at hx;rcases hx with rfl|rfl
  ·exact ha
  exact hb)
 have htl:=aY t;have hta:=fun H=>zW a ha hpa H;have htb:=fun H=>zW b hb hpb H;have hva:=fun H=>zU a ha hpa H;have hEa:=aBJ a;have hsAB:=fun H=>D8 a b H (uJ ha) (uJ hb);have hsAA:∀ H,aH Tryz.prog 21 [av (bM a),av (bM a)] H (fun r H'=>r=bv true∧H'=H):=fun H=>by
  have:=D8 a a H (uJ ha) (uJ ha);rw [IP.2 rfl] at this;exact this
 have hPar:t.size≤8000→∀ H,aH Tryz.prog 15 [sv t] H (fun x H'=>x=.tup [av (bM (fR t.data.toList).1),iv (fR t.data.toList).2]∧H'=H):=fun h8 H=>by
  have:=IT t.data.toList (by rw [htl];exact ht) H;rw [jS] at this;exact this
 have hPa:(eD a).2=0→∀ H,aH Tryz.prog 15 [sv (eD a).1] H (fun x H'=>x=.tup [av (bM a),iv 0]∧H'=H):=fun h0 H=>by
  have:=IT (eD a).1.data.toList (by rw [aY];exact Nat.lt_of_le_of_lt (QY a) (by decide)) H;rw [vW (HY h0),jS] at this;exact this
 have hinj:=fun h1 h2=>Y3 (a:=a) (b:=b) h1 h2;have hnil:=fun h=>aBI (r:=a) h;have hab:RH a b=true↔a=b:=IP;obtain ⟨F,hF⟩:∃ F,F=NN [a,b] 5:=⟨_,rfl⟩;rw [← hF] at hfw;obtain ⟨A,hA⟩:∃ A,A=eD a:=⟨_,rfl⟩;obtain ⟨B,hB⟩:∃ B,B=eD b:=⟨_,rfl⟩;rw [← hA] at hta hEa hPa hinj hnil;rw [← hB] at htb hinj;clear hF hA hB;refine Bd func5 rfl ntmps5<|Sr<|Dd (by exact bZ (id:=3) rfl rfl rfl rfl rfl)<|Dd (by exact bZ (id:=4) rfl rfl rfl rfl rfl)<|Dd aP<|Zz<|Sr<|Dd (by exact aA rfl rfl call10 rfl (aC8 _))<|Dd aP<|Zz<|Sq<|Sq ?_;refine bD (t:=28) (n:=11) (X:=!F||decide (8000 < (t.size:Int))) ?_ ?_
 ·all_goals refine Dd (by exact aM rfl aR aL rfl rfl rfl rfl (by simp only [Zl,encStr];rfl) rfl) ?_
  all_goals refine Dd (by exact aM rfl aR aL rfl rfl rfl rfl (by simp only [Zl,encStr];rfl) rfl)<|Dd (by exact aS ([a,b].map bM) rfl aIa rfl rfl rfl rfl rfl (by intro r hr;simp only [List.map_cons,List.map_nil,aL5,aL9,or_false] at hr;rcases hr with rfl|rfl<;>rfl))<|Dd (by exact aA rfl rfl call11 rfl (hfw _))<|Dd lI<|Dm ?_
  all_goals refine Sp 24 (fun h24=>?_) fun h24=>?_
  all_goals try contradiction
  all_goals first|refine Fo<|Fo<|Fo ?_|refine On aF<|On (nT underlying9)<|On mI ?_
  all_goals refine Dd cE<|Zz ?_
  all_goals(exact⟨⟨_,rfl,by(simp only [*,Zo];done)⟩,rfl,rfl,rfl⟩)
 refine Cn ?_ ?_<;>intro hc1
 ·exact Sr<|Dd aF<|Dd aP<|Zz<|aC<|Rt<|Qq
 have hc:=hc1;rw [aLf] at hc;have h8:t.size≤8000:=by have:=aLQ hc.2;omega
 have hPar:=hPar h8;have hPy:nW t.data.toList=true∧eD (lY t.data.toList)=(ofL t.data.toList,0)→∀ H,aH Tryz.prog 15 [sv t] H (fun x H'=>x=.tup [av (bM (lY t.data.toList)),iv 0]∧H'=H):=fun hC H=>by
  have:=hPar H;rw [fR,aLR (by omega),aLS hC] at this;exact this
 have hPn:¬ (nW t.data.toList=true∧eD (lY t.data.toList)=(ofL t.data.toList,0))→∀ H,aH Tryz.prog 15 [sv t] H (fun x H'=>x=.tup [av (bM zR),iv 5]∧H'=H):=fun hC H=>by
  have:=hPar H;rw [fR,aLR (by omega),aLR hC] at this;exact this
 have hro:=RG (t:=t.data.toList) (by omega);have hTy:nW t.data.toList=true∧eD (lY t.data.toList)=(ofL t.data.toList,0)→∀ H,aH Tryz.prog 13 [av (bM (lY t.data.toList))] H (fun x H'=>x=.tup [sv t,iv 0]∧H'=H):=fun hC H=>by
  have:=zW (lY t.data.toList) hro.1 hro.2 H;rw [hC.2,jS] at this;exact this
 have hVy:nW t.data.toList=true∧eD (lY t.data.toList)=(ofL t.data.toList,0)→∀ H,aH Tryz.prog 17 [av (bM (lY t.data.toList))] H (fun x H'=>x=bv true∧H'=H):=fun hC H=>by
  have:=zU (lY t.data.toList) hro.1 hro.2 H;rw [T7 (by rw [hC.2])] at this;exact this
 clear hPar;by_cases h0:A.2=0
 ·refine aE<|Sr<|Dd (by exact aM rfl aR aL rfl rfl rfl rfl (by simp only [Zl,encStr];rfl) rfl)<|Dd (by exact aA rfl rfl mE rfl (hta _))<|Dd aF<|Dd dV<|Dd dV<|Dd aP<|Dd aP<|Zz<|Sr<|Dd (by exact aM rfl aR aL rfl rfl rfl rfl (by simp only [Zl,encStr];rfl) rfl)<|Dd (by exact aA rfl rfl mE rfl (htb _))<|Dd aF<|Dd dV<|Dd dV<|Dd aP<|Dd aP<|Zz<|Sq<|Sr<|Dd aF<|Dd cY<|Dd (by exact aM rfl aR aL rfl rfl rfl rfl (by simp only [Zl,encStr];rfl) rfl)<|Dd (by exact aA rfl rfl oK rfl (hva _))<|Dd (by exact cB.val (by exact yP rfl cL rfl rfl) (hEa))<|Dd aF<|On aF<|On (by exact cB.val (by exact oN rfl rfl rfl) ((aK8 h0)))<|On aF<|Fo<|Fo<|On cE<|Dd cE<|Zz ?_;refine Cn ?_ ?_<;>intro hc2
  ·cases hc2
  refine aE<|Sq<|Sr<|Dd aF<|Dd cY<|Zz ?_;refine Cn ?_ ?_<;>intro hc3
  ·have hPa:=hPa h0;by_cases h1:B.2=0
   ·have hi:=hinj h0 h1;have hv78:(!(decide (A.1=B.1) == RH a b))=false:=by
     by_cases e:a=b
     ·rw [decide_eq_true (hi.2 e),hab.2 e];rfl
     rw [decide_eq_false (fun h=>e (hi.1 h))];cases h2:RH a b
     ·rfl
     exact absurd (hab.1 h2) e
    refine Sr<|Dd aF<|Dd (by exact aA rfl rfl oL rfl (hPa _))<|Dd aF<|Dd dV<|Dd dV<|Dd (by exact bC (id:=12) rfl xN rfl rfl)<|Uu (iH aL)<|Dd aP<|Zz<|Sr<|Dd aF<|Dd (by exact cB.val (by exact oN rfl rfl rfl) (neZ))<|Dd aF<|On (by exact aM rfl aR aL rfl rfl rfl rfl (by simp only [Zl,encStr];rfl) rfl)<|On (by exact aM rfl aR aL rfl rfl rfl rfl (by simp only [Zl,encStr];rfl) rfl)<|On (by exact aA rfl rfl aDg rfl (hsAA _))<|On lI<|Dd cE<|Dd aF<|On aF<|On (by exact cB.val (by exact gC rfl rfl rfl) ((decide_eq_true h1)))<|On aF<|On aF<|On aF<|On zZ<|On (by exact aM rfl aR aL rfl rfl rfl rfl (by simp only [Zl,encStr];rfl) rfl)<|On (by exact aM rfl aR aL rfl rfl rfl rfl (by simp only [Zl,encStr];rfl) rfl) ?_;refine On (by exact aA rfl rfl aDg rfl (hsAB _))<|On (by exact cB.val (by exact aBx rfl cL rfl rfl) (hv78))<|On cE<|Dd cE<|Zz ?_;refine Cn ?_ ?_<;>intro hc4
    ·cases hc4
    by_cases hC:nW t.data.toList=true∧eD (lY t.data.toList)=(ofL t.data.toList,0)
    ·have hP:=hPy hC;have hT:=hTy hC;have hV:=hVy hC;refine aE<|Sr<|Dd aF<|Dd (by exact aA rfl rfl oL rfl (hP _))<|Dd aF<|Dd dV<|Dd dV<|Dd (by exact bC (id:=14) rfl xN rfl rfl)<|Uu (iH aL)<|Dd aP<|Zz<|Sq<|Sr<|Dd aF<|Dd uL<|Zz ?_;refine Cn ?_ ?_<;>intro hc5
     ·cases hc5
     exact aE<|Sr<|Dd (by exact aM rfl aR aL rfl rfl rfl rfl (by simp only [Zl,encStr];rfl) rfl)<|Dd (by exact aA rfl rfl mE rfl (hT _))<|Dd aF<|Dd dV<|Dd dV<|Dd aP<|Dd aP<|Zz<|Sr<|Dd aF<|Dd aF<|On aF<|On (by exact cB.val (by exact gC rfl rfl rfl) ((decide_eq_true rfl)))<|Dd cE<|Dd aF<|On aF<|On aF<|On (by exact cB.val (by exact rF rfl rfl rfl) ((decide_eq_true rfl)))<|Dd cE<|Dd aF<|On (by exact aM rfl aR aL rfl rfl rfl rfl (by simp only [Zl,encStr];rfl) rfl)<|On (by exact aA rfl rfl oK rfl (hV _))<|Dd cE<|Dd aP<|Zz<|aC<|Rt<|Qq
    have hP:=hPn hC;refine aE<|Sr<|Dd aF<|Dd (by exact aA rfl rfl oL rfl (hP _))<|Dd aF<|Dd dV<|Dd dV<|Dd (by exact bC (id:=14) rfl xN rfl rfl)<|Uu (iH aL)<|Dd aP<|Zz<|Sq<|Sr<|Dd aF<|Dd uL<|Zz ?_;refine Cn ?_ ?_<;>intro hc6
    ·exact Sr<|Dd aF<|Dd aF<|On aF<|On (by exact cB.val (by exact gC rfl rfl rfl) ((decide_eq_true rfl)))<|Dd cE<|Dd aF<|On (bB tL)<|On (bK isAgg3)<|On (by exact cB.val (by exact gC rfl rfl rfl) ((decide_eq_true rfl)))<|Dd cE<|Dd aP<|Zz<|aC<|Rt<|Qq
    cases hc6
   have hd1:decide (B.2=0)=false:=decide_eq_false h1;refine Sr<|Dd aF<|Dd (by exact aA rfl rfl oL rfl (hPa _))<|Dd aF<|Dd dV<|Dd dV<|Dd (by exact bC (id:=12) rfl xN rfl rfl)<|Uu (iH aL)<|Dd aP<|Zz<|Sr<|Dd aF<|Dd (by exact cB.val (by exact oN rfl rfl rfl) (neZ))<|Dd aF<|On (by exact aM rfl aR aL rfl rfl rfl rfl (by simp only [Zl,encStr];rfl) rfl)<|On (by exact aM rfl aR aL rfl rfl rfl rfl (by simp only [Zl,encStr];rfl) rfl)<|On (by exact aA rfl rfl aDg rfl (hsAA _))<|On lI<|Dd cE<|Dd aF<|On aF<|On (by exact cB.val (by exact gC rfl rfl rfl) (hd1))<|On aF<|Fo<|Fo<|Fo<|Fo<|Fo<|Fo<|Fo<|On cE<|Dd cE<|Zz ?_;refine Cn ?_ ?_<;>intro hc7
   ·cases hc7
   by_cases hC:nW t.data.toList=true∧eD (lY t.data.toList)=(ofL t.data.toList,0)
   ·have hP:=hPy hC;have hT:=hTy hC;have hV:=hVy hC;refine aE<|Sr<|Dd aF<|Dd (by exact aA rfl rfl oL rfl (hP _))<|Dd aF<|Dd dV<|Dd dV<|Dd (by exact bC (id:=14) rfl xN rfl rfl)<|Uu (iH aL)<|Dd aP<|Zz<|Sq<|Sr<|Dd aF<|Dd uL<|Zz ?_;refine Cn ?_ ?_<;>intro hc8
    ·cases hc8
    exact aE<|Sr<|Dd (by exact aM rfl aR aL rfl rfl rfl rfl (by simp only [Zl,encStr];rfl) rfl)<|Dd (by exact aA rfl rfl mE rfl (hT _))<|Dd aF<|Dd dV<|Dd dV<|Dd aP<|Dd aP<|Zz<|Sr<|Dd aF<|Dd aF<|On aF<|On (by exact cB.val (by exact gC rfl rfl rfl) ((decide_eq_true rfl)))<|Dd cE<|Dd aF<|On aF<|On aF<|On (by exact cB.val (by exact rF rfl rfl rfl) ((decide_eq_true rfl)))<|Dd cE<|Dd aF<|On (by exact aM rfl aR aL rfl rfl rfl rfl (by simp only [Zl,encStr];rfl) rfl)<|On (by exact aA rfl rfl oK rfl (hV _))<|Dd cE<|Dd aP<|Zz<|aC<|Rt<|Qq
   have hP:=hPn hC;refine aE<|Sr<|Dd aF<|Dd (by exact aA rfl rfl oL rfl (hP _))<|Dd aF<|Dd dV<|Dd dV<|Dd (by exact bC (id:=14) rfl xN rfl rfl)<|Uu (iH aL)<|Dd aP<|Zz<|Sq<|Sr<|Dd aF<|Dd uL<|Zz ?_;refine Cn ?_ ?_<;>intro hc9
   ·exact Sr<|Dd aF<|Dd aF<|On aF<|On (by exact cB.val (by exact gC rfl rfl rfl) ((decide_eq_true rfl)))<|Dd cE<|Dd aF<|On (bB tL)<|On (bK isAgg3)<|On (by exact cB.val (by exact gC rfl rfl rfl) ((decide_eq_true rfl)))<|Dd cE<|Dd aP<|Zz<|aC<|Rt<|Qq
   cases hc9
  exact absurd h0 (aLQ hc3)
 refine aE<|Sr<|Dd (by exact aM rfl aR aL rfl rfl rfl rfl (by simp only [Zl,encStr];rfl) rfl)<|Dd (by exact aA rfl rfl mE rfl (hta _))<|Dd aF<|Dd dV<|Dd dV<|Dd aP<|Dd aP<|Zz<|Sr<|Dd (by exact aM rfl aR aL rfl rfl rfl rfl (by simp only [Zl,encStr];rfl) rfl)<|Dd (by exact aA rfl rfl mE rfl (htb _))<|Dd aF<|Dd dV<|Dd dV<|Dd aP<|Dd aP<|Zz<|Sq<|Sr<|Dd aF<|Dd cY<|Dd (by exact aM rfl aR aL rfl rfl rfl rfl (by simp only [Zl,encStr];rfl) rfl)<|Dd (by exact aA rfl rfl oK rfl (hva _))<|Dd (by exact cB.val (by exact yP rfl cL rfl rfl) (hEa))<|Dd aF<|On aF<|On (by exact cB.val (by exact oN rfl rfl rfl) ((aK9 h0)))<|On aF<|On aF<|On (by exact cB.val (by exact RT rfl rfl rfl) ((by rw [decide_eq_true (hnil h0)];rfl:(!decide (A.1=sNil))=false))) ?_;refine On cE<|Dd cE<|Zz ?_;refine Cn ?_ ?_<;>intro hc10
 ·cases hc10
 refine aE<|Sq<|Sr<|Dd aF<|Dd cY<|Zz ?_;refine Cn ?_ ?_<;>intro hc11
 ·exact absurd (aLP hc11) h0
 by_cases hC:nW t.data.toList=true∧eD (lY t.data.toList)=(ofL t.data.toList,0)
 ·have hP:=hPy hC;have hT:=hTy hC;have hV:=hVy hC;refine aE<|Sr<|Dd aF<|Dd (by exact aA rfl rfl oL rfl (hP _))<|Dd aF<|Dd dV<|Dd dV<|Dd (by exact bC (id:=14) rfl xN rfl rfl)<|Uu (iH aL)<|Dd aP<|Zz<|Sq<|Sr<|Dd aF<|Dd uL<|Zz ?_;refine Cn ?_ ?_<;>intro hc12
  ·cases hc12
  exact aE<|Sr<|Dd (by exact aM rfl aR aL rfl rfl rfl rfl (by simp only [Zl,encStr];rfl) rfl)<|Dd (by exact aA rfl rfl mE rfl (hT _))<|Dd aF<|Dd dV<|Dd dV<|Dd aP<|Dd aP<|Zz<|Sr<|Dd aF<|Dd aF<|On aF<|On (by exact cB.val (by exact gC rfl rfl rfl) ((decide_eq_true rfl)))<|Dd cE<|Dd aF<|On aF<|On aF<|On (by exact cB.val (by exact rF rfl rfl rfl) ((decide_eq_true rfl)))<|Dd cE<|Dd aF<|On (by exact aM rfl aR aL rfl rfl rfl rfl (by simp only [Zl,encStr];rfl) rfl)<|On (by exact aA rfl rfl oK rfl (hV _))<|Dd cE<|Dd aP<|Zz<|aC<|Rt<|Qq
 have hP:=hPn hC;refine aE<|Sr<|Dd aF<|Dd (by exact aA rfl rfl oL rfl (hP _))<|Dd aF<|Dd dV<|Dd dV<|Dd (by exact bC (id:=14) rfl xN rfl rfl)<|Uu (iH aL)<|Dd aP<|Zz<|Sq<|Sr<|Dd aF<|Dd uL<|Zz ?_;refine Cn ?_ ?_<;>intro hc13
 ·exact Sr<|Dd aF<|Dd aF<|On aF<|On (by exact cB.val (by exact gC rfl rfl rfl) ((decide_eq_true rfl)))<|Dd cE<|Dd aF<|On (bB tL)<|On (bK isAgg3)<|On (by exact cB.val (by exact gC rfl rfl rfl) ((decide_eq_true rfl)))<|Dd cE<|Dd aP<|Zz<|aC<|Rt<|Qq
 cases hc13
end Go.Proofs.YtiifmppaejpemaaGreatDoor
