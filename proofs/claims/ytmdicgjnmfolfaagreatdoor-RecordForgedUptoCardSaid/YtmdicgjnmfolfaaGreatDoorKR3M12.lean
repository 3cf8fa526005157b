/-
  Parts of the proof: rules of an abstract program logic, contracts of functions, plain laws. Conditions: each theorem's own.
-/
import Derived.Test.YtmdicgjnmfolfaaGreatDoorKR3M11
set_option linter.unusedVariables false
set_option linter.unusedSimpArgs false
set_option maxRecDepth 100000
set_option maxHeartbeats 8000000
namespace Go.Proofs
open Tryz
theorem DH:type_of% call186:=call186
theorem TV:type_of% call19:=call19
theorem aG5:type_of% call28:=call28
theorem aPE:type_of% call75:=call75
theorem mZ:type_of% call99:=call99
theorem NS:type_of% func143:=func143
theorem NR:type_of% isAgg37:=isAgg37
theorem IK:type_of% ntmps143:=ntmps143
theorem A2:type_of% sizeOf37:=sizeOf37
end Go.Proofs
namespace Go.Proofs.YtmdicgjnmfolfaaGreatDoor
open Go.Proofs.Tryz
open Go.Abs
variable{α:Type}{i:Nat}{r x:GRec}{a b:GSeal}{s m:ByteArray}{h:Int}{ks:List ByteArray}
structure WRest where
 a:PV
 b:PV
 c:PV
 d:PV
 e:PV
def F9(w:WRest)(ks:List ByteArray):List PV:=[w.a,bA ks,w.b,w.c,w.d,w.e]
def ckA(r:GRec)(ks:List ByteArray):Bool:=!eL r||decide (((ks.map encStr).length:Int)<=r.author)
def ckB(r:GRec)(key:ByteArray):Bool:=!decide (r.sl.idx=2*r.number - 2)||!rW key (qV r) r.sl.idx r.sl.sig r.sl.path
def ckC(r:GRec):Bool:=fG r.priv&&!oI r.priv.sl
def ckD(r:GRec)(key:ByteArray):Bool:=!fG r.priv&&(!decide (r.priv.sl.idx=2*r.number - 1)||!rW key (oD r) r.priv.sl.idx r.priv.sl.sig r.priv.sl.path)
def nO(r:GRec)(ks:List ByteArray):Int:=if ckA r ks=true then 1 else if ckB r (ks.getD r.author.toNat sNil)=true then 16 else if ckC r=true then 16 else if ckD r (ks.getD r.author.toNat sNil)=true then 16 else 0
theorem GF(r:GRec)(w:WRest)(ks:List ByteArray)(hr:iA r)(hp:r.parents.length<549755813888)(hk:D6 ks)(H:aH):aI Tryz.prog 19 [av (cC r),av (F9 w ks)] H (fun x H'=>x=iv (nO r ks)/\H'=H):=by
 refine aI.pure ?_ (by simp[cC,F9]) H;have hkl:(ks.map encStr).length=ks.length:=aPU _;have hks:=hk.1;have hv:=fun H=>EV r hr hp H;have hid:=fun H=>QJ r hr hp H;have hckA:ckA r ks=(!eL r||decide (((ks.map encStr).length:Int)<=r.author)):=rfl;rw[nO];refine Bd func19 rfl ntmps19<|Sr<|Dd (by exact cD (id:=2) rfl rfl rfl rfl rfl)<|Dd (by exact cD (id:=3) rfl rfl rfl rfl rfl)<|Dd aL<|Zz<|Sq<|Sq ?_;refine aT (t:=17) (n:=12) (X:=ckA r ks) ?_ ?_
 ·all_goals refine Dd (pU bQ aQ) ?_
  all_goals refine Dd (by exact aA rfl rfl TW rfl (hv _))<|Dd iQ<|Dm ?_
  all_goals refine Sp 10 (fun h10=>?_) fun h10=>?_
  all_goals try contradiction
  all_goals first|refine Fo<|Fo<|Fo<|Fo<|Fo<|Fo ?_|refine On (aS qP)<|On (bC isAgg3)<|On (aS H7)<|On (bC aF)<|On (fE aD)<|On DD ?_
  all_goals refine Dd cG<|Zz ?_
  all_goals(exact⟨⟨_,rfl,by(rw[hckA,h10];rfl)⟩,rfl,rfl,rfl⟩)
 refine Cn ?_ ?_<;>intro hc1
 ·rw[aPT hc1];exact Sr<|Dd aL<|Zz<|aB<|Rt<|Qq
 have hA:=hc1;rw[aPS (by rw[hA];decide)];rw[hckA,aPg]at hA;have hb:=qJ hA.1;have hau:=aPR hA.2;have hf:=lZ hb;have hau0:=hf.au;have hnu:=hf.nu;have hme:=fun H=>P8 r hr hp hb H;have hfs:=jF hf.sl;have hfp:=jF hf.psl;have i0:=hfs.i0;have i1:=hfs.i1;have q0:=hfp.i0;have q1:=hfp.i1;have hms:(oD r).size=16:=jJ _;have his:=F2 r;have hix:(ks.map encStr)[r.author.toNat]?=some (encStr (ks.getD r.author.toNat sNil)):=by
  rw[aPe,List.getD_eq_getElem?_getD,aPZ (by omega)];rfl
 obtain ⟨key,hkey⟩:∃key,key=ks.getD r.author.toNat sNil:=⟨_,rfl⟩;rw[<-hkey]at hix |-;have hve1:=fun H=>CL key (qV r) r.sl.idx r.sl.sig r.sl.path H (by omega) (by omega) (by omega) (gK hfs).2.1.1 (gK hfs).2.2.1 (gK hfs).2.1.2 (gK hfs).2.2.2;have hve2:=fun H=>CL key (oD r) r.priv.sl.idx r.priv.sl.sig r.priv.sl.path H (by omega) (by omega) (by omega) (gK hfp).2.1.1 (gK hfp).2.2.1 (gK hfp).2.1.2 (gK hfp).2.2.2;have hem:=fun H=>aAt r.priv hr.2.2.2.2.2 H;have hze:=fun H=>aDH r.priv.sl (gK hfp) H;have hckB:ckB r key=(!decide (r.sl.idx=2*r.number - 2)||!rW key (qV r) r.sl.idx r.sl.sig r.sl.path):=rfl;have hckC:ckC r=(fG r.priv&&!oI r.priv.sl):=rfl;have hckD:ckD r key=(!fG r.priv&&(!decide (r.priv.sl.idx=2*r.number - 1)||!rW key (oD r) r.priv.sl.idx r.priv.sl.sig r.priv.sl.path)):=rfl;obtain ⟨v1,hv1⟩:∃v1,v1=rW key (qV r) r.sl.idx r.sl.sig r.sl.path:=⟨_,rfl⟩;obtain ⟨v2,hv2⟩:∃v2,v2=rW key (oD r) r.priv.sl.idx r.priv.sl.sig r.priv.sl.path:=⟨_,rfl⟩;obtain ⟨em,hemE⟩:∃em,em=fG r.priv:=⟨_,rfl⟩;obtain ⟨ze,hzeE⟩:∃ze,ze=oI r.priv.sl:=⟨_,rfl⟩;obtain ⟨i,hi⟩:∃i,i=qV r:=⟨_,rfl⟩;obtain ⟨m,hm⟩:∃m,m=oD r:=⟨_,rfl⟩;rw[<-hv1]at hckB;rw[<-hv2]at hckD;rw[<-hemE]at hckC hckD;rw[<-hzeE]at hckC;simp only[<-hv1]at hve1;simp only[<-hv2]at hve2;simp only[<-hi]at hid hve1;simp only[<-hm]at hme hve2;simp only[<-hemE]at hem;simp only[<-hzeE]at hze;clear hv1 hv2 hemE hzeE hi hm hkey;refine aC<|Sq<|aN follows<|Cr [3] (fun _ h=>fh H7 h)<|Cr [3] (fun _ h=>lh aF h)<|Cr [2] (fun _ h=>fh qP h)<|Cr [2] (fun _ h=>lh isAgg3 h)<|Cr [] (fun H1 hH=>by exact bP rfl cB rfl rfl (by omega) (by exact aP5 _) hix rfl)<|Cr [] (fun _ _=>(iJ isAgg9 (hi:=hix)))<|Cr [2] (fun _ h=>fh eU h)<|Cr [2] (fun H1 hH=>by exact aM rfl iH sizeOf28 rfl ((hH _ rfl).trans rfl) rfl rfl rfl rfl)<|Cp [6] (fun H1 hH=>by exact bW (id:=6) rfl aJi rfl ((hH _ rfl).trans rfl))<|Cr [] (fun _ _=>aL)<|Cp [6] (fun H1 hH=>by exact cM rfl sizeOf28 rfl rfl rfl rfl ((hH _ rfl).trans rfl) rfl rfl rfl)<|bL<|Kr<|Sq<|aG<|Sq ?_;refine kH (t:=26) (n:=18) (X:=ckB r key) ?_ ?_
 ·cases hg35:(!decide (r.sl.idx=2*r.number - 2):Bool)
  ·refine aN follows<|Cq (aS kC)<|Cq (aS jG)<|Cq (bC isAgg3)<|Cq (aS lP)<|Cq (bC isAgg3)<|Cq (by exact kO rfl rfl rfl (kK (by omega) (by omega)))<|Cq (by exact dW rfl rfl rfl (kK (by omega) (by omega)))<|Cq xY<|Cq aE<|Nf aE<|Nf (pU bQ aQ)<|Nf (by exact aA rfl rfl GZ rfl (hid _))<|Nf (aS kC)<|Nf (pU eC sizeOf25)<|Nf (by exact aA rfl rfl aG5 rfl (hve1 _))<|Nf iQ<|Cq nX<|Cq aL<|bL<|Kr ?_;exact⟨rfl,⟨_,rfl,by(rw[hckB,hg35];rfl)⟩,rfl,rfl,rfl⟩
  refine aN follows<|Cq (aS kC)<|Cq (aS jG)<|Cq (bC isAgg3)<|Cq (aS lP)<|Cq (bC isAgg3)<|Cq (by exact kO rfl rfl rfl (kK (by omega) (by omega)))<|Cq (by exact dW rfl rfl rfl (kK (by omega) (by omega)))<|Cq xY<|Cq aE<|Of<|Of<|Of<|Of<|Of<|Of<|Of<|Cq wQ<|Cq aL<|bL<|Kr ?_;exact⟨rfl,⟨_,rfl,by(rw[hckB,hg35];rfl)⟩,rfl,rfl,rfl⟩
 refine Cn ?_ ?_<;>intro hc2
 ·rw[aPT hc2];exact Sr<|Dd aL<|Zz<|aB<|Rt<|Qq
 rw[aPS (by rw[hc2];decide)];refine Sq ?_;refine aT (t:=44) (n:=10) (X:=ckC r) ?_ ?_
 ·all_goals refine Dd (pU iH sizeOf28) ?_
  all_goals refine Dd (by exact aA rfl rfl TS rfl (hem _))<|Dm ?_
  all_goals refine Sp 47 (fun h47=>?_) fun h47=>?_
  all_goals try contradiction
  all_goals first|refine Fo<|Fo<|Fo<|Fo ?_|refine On (aS lR)<|On (pU eC sizeOf25)<|On (by exact aA rfl rfl call81 rfl (hze _))<|On iQ ?_
  all_goals refine Dd cG<|Da ?_
  all_goals(exact⟨⟨_,rfl,by(rw[hckC,h47];rfl)⟩,rfl,rfl,rfl⟩)
 refine Cn ?_ ?_<;>intro hc3
 ·rw[aPT hc3];exact Sr<|Dd aL<|Zz<|aB<|Rt<|Qq
 rw[aPS (by rw[hc3];decide)];refine Sq ?_;refine kH (t:=53) (n:=23) (X:=ckD r key) ?_ ?_
 ·cases hg57:(!em:Bool)
  ·refine aN follows<|Cq (pU iH sizeOf28)<|Cq (by exact aA rfl rfl TS rfl (hem _))<|Cq iQ<|Cq aE<|Ot<|Ot<|Ot<|Ot<|Ot<|Ot<|Ot<|Ot<|Ot<|Ou<|Ou<|Ou<|Ou<|Ou<|Ou<|Ou<|Ot<|Cq nX<|Cq aL<|bL<|Kr ?_;exact⟨rfl,⟨_,rfl,by(rw[hckD,hg57];rfl)⟩,rfl,rfl,rfl⟩
  cases hg66:(!decide (r.priv.sl.idx=2*r.number - 1):Bool)
  ·refine aN follows<|Cq (pU iH sizeOf28)<|Cq (by exact aA rfl rfl TS rfl (hem _))<|Cq iQ<|Cq aE<|Nt (aS lR)<|Nt (aS jG)<|Nt (bC isAgg3)<|Nt (aS lP)<|Nt (bC isAgg3)<|Nt (by exact kO rfl rfl rfl (kK (by omega) (by omega)))<|Nt (by exact dW rfl rfl rfl (kK (by omega) (by omega)))<|Nt xY<|Nt aE<|Nf aE<|Nf (pU bQ aQ)<|Nf (by exact aA rfl rfl call82 rfl (hme _))<|Nf (aS lR)<|Nf (pU eC sizeOf25)<|Nf (by exact aA rfl rfl aG5 rfl (hve2 _))<|Nf iQ<|Nt nX<|Cq wQ<|Cq aL<|bL<|Kr ?_;exact⟨rfl,⟨_,rfl,by(rw[hckD,hg57,hg66];rfl)⟩,rfl,rfl,rfl⟩
  refine aN follows<|Cq (pU iH sizeOf28)<|Cq (by exact aA rfl rfl TS rfl (hem _))<|Cq iQ<|Cq aE<|Nt (aS lR)<|Nt (aS jG)<|Nt (bC isAgg3)<|Nt (aS lP)<|Nt (bC isAgg3)<|Nt (by exact kO rfl rfl rfl (kK (by omega) (by omega)))<|Nt (by exact dW rfl rfl rfl (kK (by omega) (by omega)))<|Nt xY<|Nt aE<|Of<|Of<|Of<|Of<|Of<|Of<|Of<|Nt wQ<|Cq wQ<|Cq aL<|bL<|Kr ?_;exact⟨rfl,⟨_,rfl,by(rw[hckD,hg57,hg66];rfl)⟩,rfl,rfl,rfl⟩
 refine Cn ?_ ?_<;>intro hc4
 ·rw[aPT hc4];exact Sr<|Dd aL<|Zz<|aB<|Rt<|Qq
 rw[aPS (by rw[hc4];decide)];exact aC<|Sr<|Dd aL<|Zz<|aB<|Rt<|Qq
def OT(l:List ByteArray):List PV:=[bA l]
def RY(ls:List (List ByteArray)):PV:=.sl (ls.map OT)
def X2(l:List GRec):PV:=.sl (l.map cC)
def lsOk(l:List ByteArray):Bool:=decide (l.length<=30)&&l.all fun s=>decide (s.size<=300)
theorem vK{l:List α}{p:α->Bool}(h:∀j,j<l.length->∀b,l[j]?=some b->p b=true):l.all p=true:=by rw[List.all_eq_true];intro b hb;obtain ⟨j,hj⟩:=aPf.1 hb;exact h j (aPY.1 hj).1 b hj
theorem AM{l:List α}{p:α->Bool}{b:α}(hb:l[i]?=some b)(h:p b=false):l.all p=false:=by rw[List.all_eq_false];exact⟨b,aP4 hb,by rw[h];decide⟩
theorem rB{l:List α}{p:α->Bool}{x:α}(h:∀j,j<i->∀b,l[j]?=some b->p b=true)(hx:l[i]?=some x)(hp:p x=true):∀j,j<i+1->∀b,l[j]?=some b->p b=true:=by
 intro j hj b hb;by_cases e:j=i
 ·subst e;rw[hx]at hb;cases hb;exact hp
 exact h j (by omega) b hb
theorem QA(ls:List (List ByteArray))(H:aH)(hl:ls.length<1099511627776)(hs:∀l∈ls,l.length<1099511627776):aI Tryz.prog 106 [.pv (RY ls)] H (fun r H'=>r=bv (ls.all lsOk)/\H'=H):=by
 refine Pu ?_;have hml:(ls.map OT).length=ls.length:=aPU _;refine Bd func106 rfl ntmps106<|Sr<|Dd aL<|Zz<|Sq<|Sr<|Dd aL<|Zz<|aG ?_;refine bT (σ:=Nat) (fun k=>([(0,.pv (RY ls)),(3,iv (k:Int))],[])) (fun k=>k<=ls.length/\∀j,j<k->∀b,ls[j]?=some b->lsOk b=true) (fun k=>ls.length - k) 0 ⟨by omega,by omega⟩ ?_ ?_
 ·exact Wk
 rintro k ⟨hk,hno⟩;refine Sq<|Sr<|Dd aE<|Dd aE<|Dd (fE EQ)<|Dd cZ<|Zz ?_;refine Cn ?_ ?_<;>intro hc1
 ·have hlt:k<ls.length:=by have:=aPQ hc1;omega
  obtain ⟨l,hl1⟩:=aU hlt;have hi:=cJ (f:=OT) hl1;have hll:=hs l (aP4 hl1);have hmm:(l.map encStr).length=l.length:=aPU _;have hnot:=fun h=>AM (p:=lsOk) hl1 h;refine aC<|Sq<|aG<|Sq<|Sr<|Dd aE<|Dd aE<|Dd (by exact bP rfl IT rfl rfl (by omega) (by exact aP5 _) hi rfl)<|Dd (iJ aF (hi:=hi))<|Dd (fE aD)<|Dd iE<|Zz ?_;refine Cn ?_ ?_<;>intro hc2
  ·have hb:¬ l.length<=30:=by have:=aPQ hc2;omega
   rw[hnot (by rw[lsOk,decide_eq_false hb];rfl)];exact Sr<|Dd aL<|Zz<|aB<|Rt<|Qq
  have hb:l.length<=30:=by have:=aPR hc2;omega
  refine aC<|Sr<|Dd aL<|Zz<|aG ?_;refine bT (σ:=Nat) (fun i=>([(0,.pv (RY ls)),(3,iv (k:Int)),(4,iv (i:Int))],[])) (fun i=>i<=l.length/\∀j,j<i->∀b,l[j]?=some b->decide (b.size<=300)=true) (fun i=>l.length - i) 0 ⟨by omega,by omega⟩ ?_ ?_
  ·exact Wk
  rintro i ⟨hi',hno2⟩;refine Sq<|Sr<|Dd aE<|Dd aE<|Dd aE<|Dd (by exact bP rfl IT rfl rfl (by omega) (by exact aP5 _) hi rfl)<|Dd (iJ aF (hi:=hi))<|Dd (fE aD)<|Dd cZ<|Zz ?_;refine Cn ?_ ?_<;>intro hc3
  ·have hlt2:i<l.length:=by have:=aPQ hc3;omega
   obtain ⟨s,hs1⟩:=aU hlt2;have hi2:=cJ (f:=encStr) hs1;refine aC<|Sq<|aG<|Sr<|Dd aE<|Dd aE<|Dd (by exact bP rfl IT rfl rfl (by omega) (by exact aP5 _) hi rfl)<|Dd (iJ aF (hi:=hi))<|Dd aE<|Dd (by exact bP rfl cB rfl rfl (by omega) (by exact aP5 _) hi2 rfl)<|Dd (iJ isAgg9 (hi:=hi2))<|Dd (jV underlying9)<|Dd iE<|Zz ?_;refine Cn ?_ ?_<;>intro hc4
   ·have hb2:¬ s.size<=300:=by have:=aPQ hc4;omega
    rw[hnot (by rw[lsOk,AM (p:=fun s=>decide (s.size<=300)) hs1 (decide_eq_false hb2),Bool.and_false])];exact Sr<|Dd aL<|Zz<|aB<|Rt<|Qq
   have hb2:s.size<=300:=by have:=aPR hc4;omega
   refine aC<|Rg<|Dd aE<|Dd (by exact bZ rfl rfl rfl (show IntKind.i64.wrap ((i:Int)+1)=((i+1:Nat):Int)by rw[kK (by omega) (by omega)];omega))<|Da ?_;exact⟨i+1,⟨by omega,rB (p:=fun s=>decide (s.size<=300)) hno2 hs1 (decide_eq_true hb2)⟩,by omega,Wk⟩
  have hge:i=l.length:=by have:=aPR hc3;omega
  subst hge;have hok:lsOk l=true:=by rw[lsOk,decide_eq_true hb,vK hno2];rfl
  refine aY<|Rg<|Dd aE<|Dd (by exact bZ rfl rfl rfl (show IntKind.i64.wrap ((k:Int)+1)=((k+1:Nat):Int)by rw[kK (by omega) (by omega)];omega))<|Da ?_;exact⟨k+1,⟨by omega,rB hno hl1 hok⟩,by omega,Wk⟩
 have hge:k=ls.length:=by have:=aPR hc1;omega
 subst hge;rw[vK hno];exact aY<|Sr<|Dd aL<|Zz<|aB<|Rt<|Qq
def aFS(r:GRec):Bool:=((!([r.parents,r.sl.sig,r.sl.path,r.priv.sources,r.priv.sl.sig,r.priv.sl.path].all lsOk)||!([[r.branch,r.target,r.from',r.priv.name,r.priv.reason]].all lsOk))||decide (210<((r.priv.trace.map fM).length:Int)))||!wW r.edits 10
def ZI(r:GRec):Bool:=!aFS r
def QS(l:List GRec)(n:Int):Bool:=decide ((l.length:Int)<=n)&&l.all ZI
theorem VD(h:iA r):∀l∈[r.parents,r.sl.sig,r.sl.path,r.priv.sources,r.priv.sl.sig,r.priv.sl.path],l.length<1099511627776:=by
 obtain ⟨_,_,h1,_,h3,_,_,h4,_,h6⟩:=h;intro l hl;simp only[aP6,aPa,or_false]at hl;rcases hl with rfl|rfl|rfl|rfl|rfl|rfl
 ·exact h1.1
 ·exact h3.2.1.1
 ·exact h3.2.2.1
 ·exact h4.1
 ·exact h6.2.1.1
 exact h6.2.2.1
theorem aIT(l:List GRec)(n:Int)(H:aH)(hl:l.length<1099511627776)(hr:∀r∈l,iA r):aI Tryz.prog 37 [.pv (X2 l),iv n] H (fun r H'=>r=bv (QS l n)/\H'=H):=by
 refine Pu ?_;have hml:(l.map cC).length=l.length:=aPU _;have hB:QS l n=(decide (((l.map cC).length:Int)<=n)&&l.all ZI):=by rw[QS,hml]
 refine Bd func37 rfl ntmps37<|Sr<|Dd aL<|Zz<|Sq<|Sr<|Dd aL<|Zz<|aG ?_;refine bT (σ:=Nat) (fun k=>([(0,.pv (X2 l)),(1,iv n),(5,iv (k:Int))],[])) (fun k=>k<=l.length/\∀j,j<k->∀b,l[j]?=some b->ZI b=true) (fun k=>l.length - k) 0 ⟨by omega,by omega⟩ ?_ ?_
 ·exact Wk
 rintro k ⟨hk,hno⟩;refine Sq<|Sq ?_;refine aT (t:=17) (n:=11) (X:=decide ((k:Int)<((l.map cC).length:Int))&&decide (((l.map cC).length:Int)<=n)) ?_ ?_
 ·all_goals refine Dd aE ?_
  all_goals refine Dd aE<|Dd (fE GX)<|Dd cZ<|Dm ?_
  all_goals refine Sp 12 (fun h12=>?_) fun h12=>?_
  all_goals try contradiction
  all_goals first|refine Fo<|Fo<|Fo<|Fo ?_|refine On aE<|On (fE GX)<|On aE<|On GQ ?_
  all_goals refine Dd cG<|Zz ?_
  all_goals(exact⟨⟨_,rfl,by(rw[h12];rfl)⟩,rfl,rfl,rfl⟩)
 refine Cn ?_ ?_<;>intro hc1
 ·have hh:=hc1;rw[aP3,aP1,aP1]at hh;have hlt:k<l.length:=by omega
  obtain ⟨r,hr1⟩:=aU hlt;have hi:=cJ (f:=cC) hr1;have hok:=hr r (aP4 hr1);have hnot:=fun h=>AM (p:=ZI) hr1 h;have hl1:=fun H=>QA [r.parents,r.sl.sig,r.sl.path,r.priv.sources,r.priv.sl.sig,r.priv.sl.path] H (show 6<1099511627776 by decide) (VD hok);have hl2:=fun H=>QA [[r.branch,r.target,r.from',r.priv.name,r.priv.reason]] H (show 1<1099511627776 by decide) (by intro l hl;rw[aPX]at hl;subst hl;exact(by decide:5<1099511627776));have hed:=fun H=>aIU r.edits 10 H (by have:=hok.2.2.2.1.1;omega) (fun e he=>⟨⟨(hok.2.2.2.1.2 e he).2.2.2.2.1,(hok.2.2.2.1.2 e he).2.2.2.1.1⟩,by have:=(hok.2.2.2.1.2 e he).2.1.1;omega⟩);have hX:aFS r=(((!([r.parents,r.sl.sig,r.sl.path,r.priv.sources,r.priv.sl.sig,r.priv.sl.path].all lsOk)||!([[r.branch,r.target,r.from',r.priv.name,r.priv.reason]].all lsOk))||decide (210<((r.priv.trace.map fM).length:Int)))||!wW r.edits 10):=rfl;obtain ⟨b1,hb1⟩:∃b,b=[r.parents,r.sl.sig,r.sl.path,r.priv.sources,r.priv.sl.sig,r.priv.sl.path].all lsOk:=⟨_,rfl⟩;obtain ⟨b2,hb2⟩:∃b,b=[[r.branch,r.target,r.from',r.priv.name,r.priv.reason]].all lsOk:=⟨_,rfl⟩;obtain ⟨b3,hb3⟩:∃b,b=wW r.edits 10:=⟨_,rfl⟩;rw[<-hb1]at hl1 hX;rw[<-hb2]at hl2 hX;rw[<-hb3]at hed hX;clear hb1 hb2 hb3;refine aC<|Sq<|aG<|Sr<|Dd aE<|Dd aE<|Dd (by exact bP rfl aMH rfl rfl (by omega) (by exact aP5 _) hi rfl)<|Dd (by exact dN rfl bQ aQ rfl hi rfl rfl)<|Dd (by exact bW (id:=6) rfl NZ rfl rfl)<|Uu (lG aQ)<|Zz<|Sr<|Dd (aS eU)<|Dd (pU iH sizeOf28)<|Dd (by exact bW (id:=7) rfl aJi rfl rfl)<|Uu (lG sizeOf28)<|Zz<|Sq ?_;refine aT (t:=72) (n:=50) (X:=aFS r) ?_ ?_
  ·all_goals refine Dd (aS kW) ?_
   all_goals refine Dd (bC aF)<|Dd (aS kC)<|Dd (aS iS)<|Dd (bC aF)<|Dd (aS kC)<|Dd (aS mN)<|Dd (bC aF)<|Dd (aS qQ)<|Dd (bC aF)<|Dd (aS lR)<|Dd (aS iS)<|Dd (bC aF)<|Dd (aS lR)<|Dd (aS mN)<|Dd (bC aF)<|Dd (by exact aR [OT r.parents,OT r.sl.sig,OT r.sl.path,OT r.priv.sources,OT r.priv.sl.sig,OT r.priv.sl.path] rfl IT rfl rfl rfl rfl rfl (by intro r hr;simp only[aP6,aPa,or_false]at hr;rcases hr with rfl|rfl|rfl|rfl|rfl|rfl<;>rfl))<|Dd (by exact aA rfl rfl call106 rfl (hl1 _))<|Dd iQ<|Dm ?_
   all_goals refine Sp 45 (fun h45=>?_) fun h45=>?_
   all_goals try contradiction
   all_goals first|refine Fo<|Fo<|Fo<|Fo<|Fo<|Fo<|Fo<|Fo<|Fo<|Fo ?_|refine On (aS uW)<|On (bC isAgg9)<|On (aS uU)<|On (bC isAgg9)<|On (aS qO)<|On (bC isAgg9)<|On (aS wV)<|On (bC isAgg9)<|On (aS wU)<|On (bC isAgg9) ?_
   all_goals first|refine Fo ?_|refine On (by exact aR [[.str r.branch],[.str r.target],[.str r.from'],[.str r.priv.name],[.str r.priv.reason]] rfl cB rfl rfl rfl rfl rfl (by intro r hr;simp only[aP6,aPa,or_false]at hr;rcases hr with rfl|rfl|rfl|rfl|rfl<;>rfl)) ?_
   all_goals first|refine Fo<|Fo<|Fo ?_|refine On (by exact aR [OT [r.branch,r.target,r.from',r.priv.name,r.priv.reason]] rfl IT rfl rfl rfl rfl rfl (by intro r hr;rw[aPX]at hr;subst hr;rfl))<|On (by exact aA rfl rfl call106 rfl (hl2 _))<|On iQ ?_
   all_goals refine Dd cG<|Dm ?_
   all_goals refine Sp 61 (fun h61=>?_) fun h61=>?_
   all_goals try contradiction
   all_goals first|refine Fo<|Fo<|Fo<|Fo ?_|refine On (aS lS)<|On (bC eT)<|On (fE dI)<|On iE ?_
   all_goals refine Dd cG<|Dm ?_
   all_goals refine Sp 67 (fun h67=>?_) fun h67=>?_
   all_goals try contradiction
   all_goals first|refine Fo<|Fo<|Fo<|Fo ?_|refine On (aS uV)<|On (bC iI)<|On (by exact aA rfl rfl call107 rfl (hed _))<|On iQ ?_
   all_goals refine Dd cG<|Zz ?_
   all_goals(exact⟨⟨_,rfl,by first|(rw[hX,h45];rfl)|(rw[hX,h45,h61];rfl)|(rw[hX,h45,h61,h67];rfl)⟩,rfl,rfl,rfl⟩)
  refine Cn ?_ ?_<;>intro hc2
  ·rw[hB,hnot (by rw[ZI,hc2];rfl),Bool.and_false];exact Sr<|Dd aL<|Zz<|aB<|Rt<|Qq
  have hgo:ZI r=true:=by rw[ZI,hc2];rfl
  refine aC<|Rg<|Dd aE<|Dd (by exact bZ rfl rfl rfl (show IntKind.i64.wrap ((k:Int)+1)=((k+1:Nat):Int)by rw[kK (by omega) (by omega)];omega))<|Da ?_;exact⟨k+1,⟨by omega,rB hno hr1 hgo⟩,by omega,Wk⟩
 have hh:=hc1;rw[Bool.and_eq_false_iff,aP2,aP2]at hh;have hres:QS l n=decide (((l.map cC).length:Int)<=n):=by
  rw[hB];rcases hh with hh|hh
  ·have hge:k=l.length:=by omega
   subst hge;rw[vK hno,Bool.and_true]
  rw[decide_eq_false hh];rfl
 rw[hres];exact aY<|Sr<|Dd aE<|Dd (fE GX)<|Dd aE<|Dd GQ<|Dd aL<|Zz<|aB<|Rt<|Qq
theorem Y5(l:List GRec)(H:aH)(hl:l.length<1099511627776)(hr:∀r∈l,iA r):aI Tryz.prog 8 [.pv (X2 l)] H (fun r H'=>r=bv (QS l 5)/\H'=H):=by refine Pu ?_;have hf:=fun H=>aIT l 5 H hl hr;exact Bd func8 rfl ntmps8<|Sr<|Dd aL<|Zz<|Sr<|Dd aE<|Dd (by exact aA rfl rfl call37 rfl (hf _))<|Dd aL<|Zz<|aB<|Rt<|Qq
theorem xM(h:eL r=true)(ha:gN a=true)(hb:gN b=true):eL (VM r a b)=true:=by simp only[eL,aP3,aPd]at h |-;obtain ⟨⟨⟨⟨h1,h2⟩,h3⟩,h4⟩,h5⟩:=h;refine⟨⟨⟨⟨?_,h2⟩,h3⟩,h4⟩,h5⟩;simp only[XN,aPg]at h1 |-;obtain ⟨⟨h1,_⟩,_⟩:=h1;exact⟨⟨h1,by show (!gN b)=false;rw[hb];rfl⟩,by show (!gN a)=false;rw[ha];rfl⟩
theorem aAq:gN zS=true:=by decide
theorem ZA(h:eL r=true)(ha:gN a=true)(hb:gN b=true):qV (VM r a b)=qV r:=by rw[qV,qV,aPT (xM h ha hb),aPT h];rfl
theorem aHs(h:eL r=true)(ha:gN a=true)(hb:gN b=true):oD (VM r a b)=oD r:=by rw[oD,oD,ZA h ha hb];rfl
theorem KS(h:eL r=true):eL (sT r)=true:=by
 simp only[eL,aP3,aPd]at h |-;obtain ⟨⟨⟨⟨h1,h2⟩,h3⟩,h4⟩,h5⟩:=h;refine⟨⟨⟨⟨?_,h2⟩,h3⟩,h4⟩,h5⟩;simp only[XN,aPg]at h1 |-;obtain ⟨_,h8⟩:=h1;refine⟨?_,h8⟩;have e1:gN ⟨0,[],[]⟩=true:=by decide
 have e2:BW sNil=false:=by decide
 simp[sT,e1,e2]
theorem aIO(h:eL r=true):qV (sT r)=qV r:=by rw[qV,qV,aPT (KS h),aPT h];rfl
theorem aNC{s:GSeal}(h:FSeal s)(hl:s.sig.length=18):gN s=true:=by have i0:=h.i0;have i1:=h.i1;have l2:=h.pl;rw[gN,aPU,aPU,decide_eq_true i0,decide_eq_true i1,decide_eq_true (by omega),decide_eq_true (by omega),List.all_eq_true.2 h.sa,List.all_eq_true.2 h.pa];simp
theorem mB{i:Int}(h1:(yQ s h i m).2=0):gN (yQ s h i m).1=true:=by obtain ⟨f,e,_⟩:=tY h1;refine aNC f ?_;rw[e];exact LI _ _ _
theorem aAS{i:Int}(h1:(yQ s h i m).2=0):rW (uD s h.toNat) m (yQ s h i m).1.idx (yQ s h i m).1.sig (yQ s h i m).1.path=true/\(yQ s h i m).1.idx=i:=by
 obtain ⟨_,e,⟨h2,h3⟩,h4,h5⟩:=tY h1;rw[e];refine⟨?_,rfl⟩;obtain ⟨n,rfl⟩:∃n:Nat,h=(n:Int):=⟨h.toNat,by omega⟩;obtain ⟨k,rfl⟩:∃k:Nat,i=(k:Int):=⟨i.toNat,by omega⟩;rw[aP5]at h5 |-;rw[aP5];have h6:k<2 ^ n:=by exact_mod_cast h5
 exact aDP s m (by omega) h6
theorem VL(h:AR r=(x,0)):x=r/\(pX r).2=0:=by
 rw[AR]at h
 split at h
 ·next hn=>exact absurd (congrArg Prod.snd h) hn
 next hn=>exact⟨(congrArg Prod.fst h).symm,by by_cases e:(pX r).2=0;exact e;exact absurd e hn⟩
structure Made(r x:GRec)(s:ByteArray)(h:Int):Prop where
 v0:eL (BB r)=true
 a0:(yQ s h (2*r.number - 2) (qV (BB r))).2=0
 tx:(pX x).2=0
 e:(fG r.priv=true/\x=mk1 r (yQ s h (2*r.number - 2) (qV (BB r))).1)\/(fG r.priv=false/\(yQ s h (2*r.number - 1) (oD (BB r))).2=0/\x=VM r (yQ s h (2*r.number - 2) (qV (BB r))).1 (yQ s h (2*r.number - 1) (oD (BB r))).1)
theorem aIB(hm:FY r s h=(x,0)):Made r x s h:=by
 rw[FY]at hm
 split at hm
 ·cases hm
 next h1 =>
 split at hm
 ·next h2 =>
  have:=congrArg Prod.snd hm;exact absurd this h2
 next h2 =>
 have h2:(yQ s h (2*r.number - 2) (qV (BB r))).2=0:=by
  by_cases e:(yQ s h (2*r.number - 2) (qV (BB r))).2=0
  ·exact e
  exact absurd e h2
 split at hm
 ·next h3 =>
  obtain ⟨e1,e2⟩:=VL hm;exact⟨by simpa using h1,h2,e1▸e2,.inl ⟨h3,e1⟩⟩
 next h3 =>
 split at hm
 ·next h4 =>
  have:=congrArg Prod.snd hm;exact absurd this h4
 next h4 =>
 obtain ⟨e1,e2⟩:=VL hm;refine⟨by simpa using h1,h2,e1▸e2,.inr ⟨by simpa using h3,?_,e1⟩⟩;by_cases e:(yQ s h (2*r.number - 1) (oD (BB r))).2=0
 ·exact e
 exact absurd e h4
theorem Made.valid(hm:Made r x s h):eL x=true:=by
 rcases hm.e with⟨_,e⟩|⟨_,h2,e⟩
 ·rw[e];exact xM (r:=BB r) hm.v0 (mB hm.a0) aAq
 rw[e];exact xM (r:=BB r) hm.v0 (mB hm.a0) (mB h2)
theorem Made.text(hm:Made r x s h):pX x=(ofL (aO (tO x)),0):=by
 have h1:=hm.tx;rw[pX,aPT hm.valid]at h1 |-
 split at h1
 ·cases h1
 next h2=>rw[aPS h2]
theorem Made.id(hm:Made r x s h):qV x=qV (BB r):=by
 rcases hm.e with⟨_,e⟩|⟨_,h2,e⟩
 ·rw[e];exact ZA (r:=BB r) hm.v0 (mB hm.a0) aAq
 rw[e];exact ZA (r:=BB r) hm.v0 (mB hm.a0) (mB h2)
theorem Made.ver(hm:Made r x s h):rW (uD s h.toNat) (qV x) x.sl.idx x.sl.sig x.sl.path=true/\x.sl.idx=2*x.number - 2:=by
 rw[hm.id];have:=aAS hm.a0;rcases hm.e with⟨_,e⟩|⟨_,h2,e⟩
 ·rw[e];exact this
 rw[e];exact this
theorem Made.check(hm:Made r x s h)(hk:ks[r.author.toNat]?=some (uD s h.toNat)):nO x ks=0:=by
 have hv:=hm.valid;have hf:=lZ hv;have hau:=hf.au;obtain ⟨k1,k2⟩:=hm.ver;have ha:x.author=r.author:=by rcases hm.e with⟨_,e⟩|⟨_,_,e⟩<;>rw[e]<;>rfl
 have hlt:r.author.toNat<ks.length:=(aPY.1 hk).1;have hg:ks.getD x.author.toNat sNil=uD s h.toNat:=by rw[ha,List.getD_eq_getElem?_getD,hk];rfl
 rw[nO,hg];have hA:ckA x ks=false:=by rw[ckA,hv,aPU,decide_eq_false (by omega)];rfl
 have hB:ckB x (uD s h.toNat)=false:=by rw[ckB,k1,decide_eq_true k2];rfl
 rw[hA,hB];rcases hm.e with⟨he,e⟩|⟨he,h2,e⟩
 ·have hC:ckC x=false:=by rw[ckC,e];show (_&&!oI zS)=false;rw[show oI zS=true by decide];simp
  have hD:ckD x (uD s h.toNat)=false:=by rw[ckD,e];show (!fG (mk1 r zS).priv&&_)=false;rw[show fG (mk1 r zS).priv=fG r.priv from rfl,he];rfl
  rw[hC,hD];rfl
 have hC:ckC x=false:=by rw[ckC,e];show (fG (mk1 r zS).priv&&_)=false;rw[show fG (mk1 r zS).priv=fG r.priv from rfl,he];rfl
 have hD:ckD x (uD s h.toNat)=false:=by
  obtain ⟨q1,q2⟩:=aAS h2;have hmm:oD x=oD (BB r):=by rw[e];exact aHs (r:=BB r) hm.v0 (mB hm.a0) (mB h2)
  have hp:x.priv.sl=(yQ s h (2*r.number - 1) (oD (BB r))).1:=by rw[e];rfl
  have hn:x.number=r.number:=by rw[e];rfl
  rw[ckD,hmm,hp,q1,hn,decide_eq_true q2];simp
 rw[hC,hD];rfl
theorem Made.bare(hm:Made r x s h)(hk:ks[r.author.toNat]?=some (uD s h.toNat)):nO (sT x) ks=0:=by
 have hv:=hm.valid;have hf:=lZ hv;have hau:=hf.au;obtain ⟨k1,k2⟩:=hm.ver;have ha:x.author=r.author:=by rcases hm.e with⟨_,e⟩|⟨_,_,e⟩<;>rw[e]<;>rfl
 have hlt:r.author.toNat<ks.length:=(aPY.1 hk).1;have hg:ks.getD x.author.toNat sNil=uD s h.toNat:=by rw[ha,List.getD_eq_getElem?_getD,hk];rfl
 rw[nO,show (sT x).author=x.author from rfl,hg];have hA:ckA (sT x) ks=false:=by rw[ckA,KS hv,aPU,show (sT x).author=x.author from rfl,decide_eq_false (by omega)];rfl
 have hB:ckB (sT x) (uD s h.toNat)=false:=by
  rw[ckB,aIO hv];show (!decide (x.sl.idx=2*x.number - 2)||!rW (uD s h.toNat) (qV x) x.sl.idx x.sl.sig x.sl.path)=false;rw[k1,decide_eq_true k2];rfl
 have hC:ckC (sT x)=false:=by rw[ckC];show (_&&!oI zS)=false;rw[show oI zS=true by decide];simp
 have hD:ckD (sT x) (uD s h.toNat)=false:=by rw[ckD];show (!fG ⟨sNil,sNil,[],[],⟨0,[],[]⟩⟩&&_)=false;rw[show fG ⟨sNil,sNil,[],[],⟨0,[],[]⟩⟩=true by decide];rfl
 rw[hA,hB,hC,hD];rfl
theorem Made.parse(hm:Made r x s h):kA (aO (tO x))=(x,0):=YJ hm.text
def uA:ByteArray:=⟨#[115,101,99,114,101,116]⟩
def aMt:ByteArray:=⟨#[109,97,105,110]⟩
def aIr:ByteArray:=⟨#[65,110,110]⟩
def litH:ByteArray:=⟨#[54,58,114,101,99,111,114,100,49,58,53,49,58,49,49,58,50,49,58,53,52,58,109,97,105,110,49,58,48,48,58,48,58,49,58,48,49,58,48,48,58]⟩
def r0H:GRec:=⟨5,1,2,5,aMt,[],[],sNil,false,0,sNil,zS,⟨sNil,sNil,[],[],zS⟩⟩
def p0H:GRec:={r0H with priv:=⟨aIr,sNil,[],[(1,2)],zS⟩}
def sAH:GSeal:=(yQ uA 2 2 (qS litH)).1
def sBH:GSeal:=(yQ uA 2 3 (oD p0H)).1
def xH:GRec:=VM p0H sAH sBH
def fxH:GRec:={xH with clock:=6}
def f0H:GRec:={p0H with clock:=6}
def yE:ByteArray:=uD uA 2
theorem UA:eL r0H=true:=by kernel_rfl
theorem KR:eL p0H=true:=by kernel_rfl
theorem aDQ:eL f0H=true:=by kernel_rfl
theorem aEh:(⟨(aO (nG r0H)).toArray⟩:ByteArray)=litH:=by kernel_rfl
theorem aNA:qV r0H=qS litH:=by rw[qV,aPT UA,yK,aEh]
theorem aJW:qV p0H=qS litH:=by rw[qV,aPT KR];exact congrArg qS aEh
theorem LK:(yQ uA 2 2 (qS litH)).2=0:=by rw[yQ,aPS (by decide)]
theorem PH:(yQ uA 2 3 (oD p0H)).2=0:=by rw[yQ,aPS (by decide)]
theorem aJC{s:GSeal}(h:FSeal s):(∀t∈fI (.z s.idx s.sig s.path),t.size<=24)/\(fI (.z s.idx s.sig s.path)).length<=29:=by
 have i0:=h.i0;have i1:=h.i1;have l1:=h.sl;have l2:=h.pl;constructor
 ·intro t ht;simp only[fI,aP6,List.mem_append]at ht;rcases ht with rfl|(rfl|ht)|(rfl|ht)
  ·exact Nat.le_trans (pA (by omega) (by omega)) (by decide)
  ·exact Nat.le_trans (pA (by omega) (by omega)) (by decide)
  ·exact Nat.le_trans (tJ (h.sa t ht)) (by decide)
  ·exact Nat.le_trans (pA (by omega) (by omega)) (by decide)
  exact Nat.le_trans (tJ (h.pa t ht)) (by decide)
 simp only[fI,aPW,aPV];omega
theorem aH1:(nG p0H).all (fun s=>decide (s.size<=24))=true:=by kernel_rfl
theorem aEA:(nG p0H).length=12:=by kernel_rfl
theorem aHJ:((fI (.t aIr)++(fI (.t sNil)++(fI (.l [])++fI (.p [(1,2)]))))).all (fun s=>decide (s.size<=24))=true:=by kernel_rfl
theorem aDh:((fI (.t aIr)++(fI (.t sNil)++(fI (.l [])++fI (.p [(1,2)]))))).length=6:=by kernel_rfl
theorem K3(ha:FSeal a)(hb:FSeal b):(aO (tO (VM p0H a b))).length<=20000:=by
 obtain ⟨a1,a2⟩:=aJC ha;obtain ⟨b1,b2⟩:=aJC hb;have he:tO (VM p0H a b)=nG p0H++(fI (.z a.idx a.sig a.path)++((fI (.t aIr)++(fI (.t sNil)++(fI (.l [])++fI (.p [(1,2)]))))++fI (.z b.idx b.sig b.path))):=by
  rw[tO,rS,E7];simp only[List.flatMap_cons,List.flatMap_nil,List.append_nil,List.append_assoc];rfl
 have hl:=aDh;have hp:=aEA;rw[he];refine Nat.le_trans (zW (M:=24) (by decide) _ ?_) ?_
 ·intro s hs;rw[List.mem_append,List.mem_append,List.mem_append]at hs;rcases hs with hs|hs|hs|hs
  ·exact aPQ (List.all_eq_true.1 aH1 s hs)
  ·exact a1 s hs
  ·exact aPQ (List.all_eq_true.1 aHJ s hs)
  exact b1 s hs
 rw[aPV,aPV,aPV];omega
theorem aAe:FY p0H uA 2=(xH,0):=by
 have e0:BB p0H=p0H:=rfl;have e1:(2:Int)*p0H.number - 2=2:=rfl;have e2:(2:Int)*p0H.number - 1=3:=rfl;have e3:fG p0H.priv=false:=by decide
 obtain ⟨fa,_⟩:=tY LK;obtain ⟨fb,_⟩:=tY PH;rw[FY,e0,e1,e2,KR,e3,aJW,aPS (by decide),aPS (fun h=>h LK),aPS (by decide),aPS (fun h=>h PH)];show AR xH=(xH,0);have hx:(pX xH).2=0:=by
  have hv:eL xH=true:=xM (r:=p0H) KR (mB LK) (mB PH);rw[pX,aPT hv,aPS (by have:=K3 fa fb;show ¬ 20000<(aO (tO (VM p0H sAH sBH))).length;exact Nat.not_lt.2 this)]
 rw[AR,aPS (fun h=>h hx)]
theorem MK:Made p0H xH uA 2:=aIB aAe
theorem aIA:FY r0H uA 1=(zR,1):=by
 have e0:BB r0H=r0H:=rfl;have e1:(2:Int)*r0H.number - 2=2:=rfl;have e2:(yQ uA 1 2 (qV r0H))=(zS,1):=by rw[yQ,aPT (by decide)]
 rw[FY,e0,e1,UA,aPS (by decide),e2,aPT (by decide)]
theorem aJq:pX xH=(ofL (aO (tO xH)),0):=MK.text
theorem aH4:kA (aO (tO xH))=(xH,0):=MK.parse
theorem aOS:qV xH=qS litH:=by rw[MK.id];exact aJW
theorem aIj:nO xH [sNil,yE]=0:=MK.check (by rfl)
theorem aLU:nO (sT xH) [sNil,yE]=0:=MK.bare (by rfl)
theorem aIu:nO xH [yE]=1:=by
 rw[nO,aPT];rw[ckA];have:decide ((([yE]:List ByteArray).map encStr).length<=xH.author)=true:=by decide
 rw[this,Bool.or_true]
theorem aAF:eL fxH=true:=xM (r:=f0H) aDQ (mB LK) (mB PH)
theorem aLz:rW (uD uA 2) (yK (nG f0H)) 2 (E5 uA 2 (qS litH)) (nI 2 (mS uA 2) 2)=false:=by kernel_rfl
theorem aFN:nO fxH [sNil,yE]=16:=by
 rw[nO,aPS,aPT]
 ·have hid:qV fxH=yK (nG f0H):=by rw[qV,aPT aAF];rfl
  have hs:fxH.sl=⟨2,E5 uA 2 (qS litH),nI 2 (mS uA 2) 2⟩:=(tY LK).2.1;have hk:([sNil,yE]:List ByteArray).getD fxH.author.toNat sNil=uD uA 2:=rfl;rw[hk,ckB,hid,hs];show (_||!rW (uD uA 2) (yK (nG f0H)) 2 (E5 uA 2 (qS litH)) (nI 2 (mS uA 2) 2))=true;rw[aLz];simp
 rw[ckA,aAF];decide
theorem aE3:iA r0H:=by refine⟨⟨⟨by decide,by decide⟩,⟨by decide,by decide⟩,⟨by decide,by decide⟩,⟨by decide,by decide⟩,⟨by decide,by decide⟩⟩,⟨by decide,by decide,by decide⟩,⟨by decide,by simp[r0H]⟩,⟨by decide,by simp[r0H]⟩,okZ,by decide,by decide,⟨by decide,by simp[r0H]⟩,by decide,okZ⟩
theorem aJM:iA p0H:=by obtain ⟨a,b,c,d,e,_⟩:=aE3;exact⟨a,b,c,d,e,by decide,by decide,⟨by decide,by simp[p0H]⟩,by decide,okZ⟩
theorem VB:iA xH:=YX aJM (gK (tY LK).1) (gK (tY PH).1)
theorem aMk:iA fxH:=by obtain ⟨⟨a1,a2,a3,a4,a5⟩,b,c⟩:=VB;exact⟨⟨a1,a2,a3,⟨by decide,by decide⟩,a5⟩,b,c⟩
def w0H:WRest:=⟨.sl [],.sl [],.int .i64 0,.sl [],.sl []⟩
theorem aCM:yE.size=16:=by kernel_rfl
theorem aE2:D6 [sNil,yE]:=⟨by decide,by
 intro t ht;simp only[aP6,aPa,or_false]at ht;rcases ht with rfl|rfl
 ·decide
 rw[aCM];decide⟩
theorem aMj:D6 [yE]:=⟨by decide,fun t ht=>aE2.2 t (List.mem_cons_of_mem _ ht)⟩
theorem aMl:iA (sT xH):=by obtain ⟨a,b,c,d,e,_⟩:=VB;exact⟨a,b,c,d,e,by decide,by decide,⟨by decide,by simp[sT]⟩,by decide,okZ⟩
theorem neZ{a:Int}:(!decide (a=a))=false:=by simp
theorem cS.val{P:Program}{N:Nat}{o:Oper}{E:dB}{H H':aH}{b b':Bool}(h:cS P N o E H (.pv (.bool b)) H')(e:b=b'):cS P N o E H (.pv (.bool b')) H':=e▸h
theorem aFJ(H:aH):aI Tryz.prog 7 [] H (fun r H'=>r=bv true/\H'=H):=by
 refine Pu ?_;have hSum:=fun H=>UG litH H (by decide);have hPub:=fun H=>XW uA 2 H (by decide) (by decide);have hMk:∀H,aI Tryz.prog 23 [av (cC p0H),sv uA,iv 2] H (fun x H'=>x=.tup [av (cC xH),iv 0]/\H'=H):=fun H=>by
  have:=aEd p0H uA 2 aJM (by decide) (by decide) H;rw[aAe]at this;exact this
 have hMr:∀H,aI Tryz.prog 23 [av (cC r0H),sv uA,iv 1] H (fun x H'=>x=.tup [av (cC zR),iv 1]/\H'=H):=fun H=>by
  have:=aEd r0H uA 1 aE3 (by decide) (by decide) H;rw[aIA]at this;exact this
 have hTx:∀H,aI Tryz.prog 10 [av (cC xH)] H (fun x H'=>x=.tup [sv (ofL (aO (tO xH))),iv 0]/\H'=H):=fun H=>by
  have:=RN xH VB (by decide) H;rw[aJq]at this;exact this
 have hlen:(aO (tO xH)).length<1099511627776:=Nat.lt_of_le_of_lt (K3 (tY LK).1 (tY PH).1) (by decide);have hPa:∀H,aI Tryz.prog 12 [sv (ofL (aO (tO xH)))] H (fun x H'=>x=.tup [av (cC xH),iv 0]/\H'=H):=fun H=>by
  have:=aEI (aO (tO xH)) hlen H;rw[aH4]at this;exact this
 have hI0:∀H,aI Tryz.prog 16 [av (cC r0H)] H (fun x H'=>x=sv (qS litH)/\H'=H):=fun H=>by
  have:=QJ r0H aE3 (by decide) H;rw[aNA]at this;exact this
 have hIx:∀H,aI Tryz.prog 16 [av (cC xH)] H (fun x H'=>x=sv (qS litH)/\H'=H):=fun H=>by
  have:=QJ xH VB (by decide) H;rw[aOS]at this;exact this
 have hSa:∀H,aI Tryz.prog 18 [av (cC xH),av (cC xH)] H (fun r H'=>r=bv true/\H'=H):=fun H=>by
  have:=aBf xH xH H (VE VB) (VE VB);rw[aDq.2 rfl]at this;exact this
 have hks:D6 [sNil,yE]:=aE2;have hC1:∀H,aI Tryz.prog 19 [av (cC xH),av (F9 w0H [sNil,yE])] H (fun x H'=>x=iv 0/\H'=H):=fun H=>by
  have:=GF xH w0H [sNil,yE] VB (by decide) hks H;rw[aIj]at this;exact this
 have hBa:=fun H=>aIn xH H;have hC2:∀H,aI Tryz.prog 19 [av (cC (sT xH)),av (F9 w0H [sNil,yE])] H (fun x H'=>x=iv 0/\H'=H):=fun H=>by
  have:=GF (sT xH) w0H [sNil,yE] aMl (by decide) hks H;rw[aLU]at this;exact this
 have hC3:∀H,aI Tryz.prog 19 [av (cC fxH),av (F9 w0H [sNil,yE])] H (fun x H'=>x=iv 16/\H'=H):=fun H=>by
  have:=GF fxH w0H [sNil,yE] aMk (by decide) hks H;rw[aFN]at this;exact this
 have hC4:∀H,aI Tryz.prog 19 [av (cC xH),av (F9 w0H [yE])] H (fun x H'=>x=iv 1/\H'=H):=fun H=>by
  have:=GF xH w0H [yE] VB (by decide) aMj H;rw[aIu]at this;exact this
 refine Bd func7 rfl ntmps7<|Sr<|Dd aL<|Zz<|Sr<|Dd (vC W1)<|Dd (by exact bW (id:=1) rfl NZ rfl rfl)<|Uu (lG aQ)<|Zz<|Sr<|Dd (by exact aA rfl rfl TU rfl (hSum _))<|Dd aL<|Zz<|Sr<|Dd (by exact aA rfl rfl call25 rfl (hPub _))<|Dd aE<|Dd fS<|Dd fS<|Dd aL<|Dd aL<|Zz<|Sr<|Dd aE<|Dd (by exact aR ([sNil,yE].map encStr) rfl cB rfl rfl rfl rfl rfl (by intro r hr;simp only[List.map_cons,List.map_nil,aP6,aPa,or_false]at hr;rcases hr with rfl|rfl<;>rfl))<|Dd (vC aNN)<|Dd (by exact bW (id:=5) rfl aNp rfl rfl)<|Uu (lG A2)<|Zz<|Sr<|Dd (by exact aM rfl bQ aQ rfl rfl rfl rfl (by simp only[Zl,encStr];rfl) rfl)<|Dd (by exact bW (id:=6) rfl NZ rfl rfl)<|Uu (lG aQ)<|Zz<|Sr<|Dd (vC W0)<|Dd (by exact aR ([((1:Int),(2:Int))].map fM) rfl LG rfl rfl rfl rfl rfl (by intro r hr;simp only[List.map_cons,List.map_nil,aP6,aPa,or_false]at hr;subst hr;rfl)) ?_;refine Dd (vC aLT)<|Dd (aS eU)<|Uu (by exact lI rfl sizeOf28 rfl rfl rfl rfl rfl rfl rfl (aP7 rfl) rfl rfl)<|Zz<|Sr<|Dd (by exact aM rfl bQ aQ rfl rfl rfl rfl (by simp only[Zl,encStr];rfl) rfl)<|Dd (by exact aA rfl rfl call23 rfl (hMk _))<|Dd aE<|Dd fS<|Dd fS<|Dd (by exact bW (id:=7) rfl NZ rfl rfl)<|Uu (lG aQ)<|Dd aL<|Zz<|Sr<|Dd (by exact aM rfl bQ aQ rfl rfl rfl rfl (by simp only[Zl,encStr];rfl) rfl)<|Dd (by exact aA rfl rfl aPH rfl (hTx _))<|Dd aE<|Dd fS<|Dd fS<|Dd aL<|Dd aL<|Zz<|Sr<|Dd aE<|Dd (by exact aA rfl rfl call12 rfl (hPa _))<|Dd aE<|Dd fS<|Dd fS<|Dd (by exact bW (id:=11) rfl NZ rfl rfl)<|Uu (lG aQ)<|Dd aL<|Zz<|Sr<|Dd (by exact aM rfl bQ aQ rfl rfl rfl rfl (by simp only[Zl,encStr];rfl) rfl) ?_;refine Dd (by exact bW (id:=13) rfl NZ rfl rfl)<|Uu (lG aQ)<|Zz<|Sr<|Dd (aS uX)<|Dd (bC isAgg3)<|Dd (by exact bZ rfl rfl rfl (by rfl))<|Dd (aS uX)<|Uu (by exact bH rfl sizeOf3 rfl rfl rfl rfl rfl rfl (aP7 rfl) rfl rfl)<|Zz<|Sr<|Dd (by exact aM rfl bQ aQ rfl rfl rfl rfl (by simp only[Zl,encStr];rfl) rfl)<|Dd (by exact aA rfl rfl call23 rfl (hMr _))<|Dd aE<|Dd fS<|Dd fS<|Dd (by exact bW (id:=14) rfl NZ rfl rfl)<|Uu (lG aQ)<|Dd aL<|Zz<|Sq<|Sr<|Dd aE<|Dd (by exact cS.val (by exact CR rfl rfl rfl) (neZ))<|Dd aE<|On aE<|On (by exact cS.val (by exact CR rfl rfl rfl) (neZ))<|Dd cG<|Dd aE<|On aE<|On (by exact cS.val (by exact CR rfl rfl rfl) (neZ))<|Dd cG<|Dd aE<|On aE<|On (by exact cS.val (by exact CR rfl rfl rfl) (neZ)) ?_;refine Dd cG<|Dd aE<|On aE<|On (by exact cS.val (by exact CR rfl rfl rfl) (neZ))<|Dd cG<|Zz ?_;refine Cn ?_ ?_<;>intro hc1
 ·refine Sr<|Dd aL<|Zz<|aB<|Rt ?_;cases hc1
 refine aC<|Sq<|aN follows<|Cq (by exact aM rfl bQ aQ rfl rfl rfl rfl (by simp only[Zl,encStr];rfl) rfl)<|Cq (by exact aA rfl rfl GZ rfl (hI0 _))<|Cq aE<|Cq (by exact cS.val (by exact FI rfl rfl rfl) ((decide_eq_true rfl)))<|Cq aE<|Nt (by exact aM rfl bQ aQ rfl rfl rfl rfl (by simp only[Zl,encStr];rfl) rfl)<|Nt (by exact aA rfl rfl GZ rfl (hIx _))<|Nt aE<|Nt (by exact cS.val (by exact FI rfl rfl rfl) ((decide_eq_true rfl)))<|Cq cG<|Cq aE<|Nt (by exact aM rfl bQ aQ rfl rfl rfl rfl (by simp only[Zl,encStr];rfl) rfl)<|Nt (by exact aM rfl bQ aQ rfl rfl rfl rfl (by simp only[Zl,encStr];rfl) rfl)<|Nt (by exact aA rfl rfl call18 rfl (hSa _))<|Cq cG<|Cq aE<|Nt (by exact aM rfl bQ aQ rfl rfl rfl rfl (by simp only[Zl,encStr];rfl) rfl) ?_;refine Nt (by exact aM rfl NR A2 rfl rfl rfl rfl (by simp only[Zl,encStr];rfl) rfl)<|Nt (by exact aA rfl rfl TV rfl (hC1 _))<|Nt (by exact cS.val (by exact fO rfl rfl rfl) ((decide_eq_true rfl)))<|Cq cG<|Cq aE<|Nt (by exact aM rfl bQ aQ rfl rfl rfl rfl (by simp only[Zl,encStr];rfl) rfl)<|Nt (by exact aA rfl rfl call21 rfl (hBa _))<|Nt (by exact aM rfl NR A2 rfl rfl rfl rfl (by simp only[Zl,encStr];rfl) rfl)<|Nt (by exact aA rfl rfl TV rfl (hC2 _))<|Nt (by exact cS.val (by exact fO rfl rfl rfl) ((decide_eq_true rfl)))<|Cq cG<|Cq aE<|Nt (by exact aM rfl bQ aQ rfl rfl rfl rfl (by simp only[Zl,encStr];rfl) rfl)<|Nt (by exact aM rfl NR A2 rfl rfl rfl rfl (by simp only[Zl,encStr];rfl) rfl) ?_;refine Nt (by exact aA rfl rfl TV rfl (hC3 _))<|Nt (by exact cS.val (by exact fO rfl rfl rfl) ((decide_eq_true rfl)))<|Cq cG<|Cq aE<|Nt (by exact aM rfl bQ aQ rfl rfl rfl rfl (by simp only[Zl,encStr];rfl) rfl)<|Nt aE<|Nt (by exact aR ([yE].map encStr) rfl cB rfl rfl rfl rfl rfl (by intro r hr;simp only[List.map_cons,List.map_nil,aP6,aPa,or_false]at hr;subst hr;rfl))<|Nt (vC aNN)<|Nt (by exact aA rfl rfl TV rfl (hC4 _))<|Nt (by exact cS.val (by exact fO rfl rfl rfl) ((decide_eq_true rfl)))<|Cq cG<|Cq aE<|Nt (aS kC)<|Nt (aS jG)<|Nt (bC isAgg3)<|Nt (by exact cS.val (by exact fO rfl rfl rfl) ((decide_eq_true rfl)))<|Cq cG<|Cq aE<|Nt (aS eU)<|Nt (aS lR)<|Nt (aS jG)<|Nt (bC isAgg3)<|Nt (by exact cS.val (by exact fO rfl rfl rfl) ((decide_eq_true rfl))) ?_;exact Cq cG<|Cq aL<|bL<|Kr<|aB<|Rt<|Qq
section
def aJH(B:Nat)(l:List (Int×Int)):Prop:=l.length<=B/\∀q,q∈l->N0 q.1/\N0 q.2
def RP(B:Nat)(s:GSeal):Prop:=N0 s.idx/\yY B s.sig/\yY B s.path
def XV(B:Nat)(p:GPriv):Prop:=p.name.size<=B/\p.reason.size<=B/\yY B p.sources/\aJH B p.trace/\RP B p.sl
def aAL(B:Nat)(r:GRec):Prop:=(N0 r.kind/\N0 r.author/\N0 r.number/\N0 r.clock/\N0 r.order)/\(r.branch.size<=B/\r.target.size<=B/\r.from'.size<=B)/\yY B r.parents/\aAM B r.edits/\RP B r.sl/\XV B r.priv
section
variable{B n:Nat}{ps:List PV}
theorem aNJ(h:Sh Tryz.prog B (n+3) 26 ps):∃l,ps=[rZ l]/\aJH B l:=by
 obtain ⟨l,rfl,h1,h2⟩:=zD (f:=fM) (good:=fun q=>N0 q.1/\N0 q.2) dI h (fun r hr=>by
  obtain ⟨x,y,rfl,h1,h2⟩:=TA hr;exact⟨(x,y),rfl,h1,h2⟩)
 exact⟨l,rfl,h1,h2⟩
theorem aF3(h:Sh Tryz.prog B (n+3) 25 ps):∃s,ps=gW s/\RP B s:=by obtain ⟨_,_,rfl,_,h1,_,_,rfl,_,h2,_,_,rfl,_,h3,rfl⟩:=nP gQ h;obtain ⟨i,rfl,q1⟩:=tX underlying3 h1;obtain ⟨a,rfl,q2⟩:=B9 h2;obtain ⟨b,rfl,q3⟩:=B9 h3;exact⟨⟨i,a,b⟩,rfl,q1,q2,q3⟩
theorem aLH(h:Sh Tryz.prog B (n+4) 28 ps):∃p,ps=jS p/\XV B p:=by obtain ⟨_,_,rfl,_,h1,_,_,rfl,_,h2,_,_,rfl,_,h3,_,_,rfl,_,h4,_,_,rfl,_,h5,rfl⟩:=nP mY h;obtain ⟨a,rfl,q1⟩:=qB underlying9 h1;obtain ⟨b,rfl,q2⟩:=qB underlying9 h2;obtain ⟨c,rfl,q3⟩:=B9 h3;obtain ⟨d,rfl,q4⟩:=aNJ h4;obtain ⟨s,rfl,q5⟩:=aF3 h5;exact⟨⟨a,b,c,d,s⟩,rfl,q1,q2,q3,q4,q5⟩
theorem aNI(h:Sh Tryz.prog B (n+7) 30 ps):∃r,ps=cC r/\aAL B r:=by obtain ⟨_,_,rfl,_,h1,_,_,rfl,_,h2,_,_,rfl,_,h3,_,_,rfl,_,h4,_,_,rfl,_,h5,_,_,rfl,_,h6,_,_,rfl,_,h7,_,_,rfl,_,h8,_,_,rfl,_,h9,_,_,rfl,_,h10,_,_,rfl,_,h11,_,_,rfl,_,h12,_,_,rfl,_,h13,rfl⟩:=nP eA h;obtain ⟨a1,rfl,q1⟩:=tX underlying3 h1;obtain ⟨a2,rfl,q2⟩:=tX underlying3 h2;obtain ⟨a3,rfl,q3⟩:=tX underlying3 h3;obtain ⟨a4,rfl,q4⟩:=tX underlying3 h4;obtain ⟨a5,rfl,q5⟩:=qB underlying9 h5;obtain ⟨a6,rfl,q6⟩:=B9 h6;obtain ⟨a7,rfl,q7⟩:=aI7 h7;obtain ⟨a8,rfl,q8⟩:=qB underlying9 h8;obtain ⟨a9,rfl⟩:=aGu dD h9;obtain ⟨a10,rfl,q10⟩:=tX underlying3 h10;obtain ⟨a11,rfl,q11⟩:=qB underlying9 h11;obtain ⟨s,rfl,q12⟩:=aF3 h12;obtain ⟨p,rfl,q13⟩:=aLH h13;exact⟨⟨a1,a2,a3,a4,a5,a6,a7,a8,a9,a10,a11,s,p⟩,rfl,⟨q1,q2,q3,q4,q10⟩,⟨q5,q8,q11⟩,q6,q7,q12,q13⟩
end
theorem PZ{s:GSeal}(h:RP 1048576 s):rG s:=⟨h.1.bd,⟨Nat.lt_of_le_of_lt h.2.1.1 (by decide),fun t ht=>Nat.lt_of_le_of_lt (h.2.1.2 t ht) (by decide)⟩,⟨Nat.lt_of_le_of_lt h.2.2.1 (by decide),fun t ht=>Nat.lt_of_le_of_lt (h.2.2.2 t ht) (by decide)⟩⟩
theorem aCE{p:GPriv}(h:XV 1048576 p):SN p:=⟨Nat.lt_of_le_of_lt h.1 (by decide),Nat.lt_of_le_of_lt h.2.1 (by decide),⟨Nat.lt_of_le_of_lt h.2.2.1.1 (by decide),fun t ht=>Nat.lt_of_le_of_lt (h.2.2.1.2 t ht) (by decide)⟩,Nat.lt_of_le_of_lt h.2.2.2.1.1 (by decide),PZ h.2.2.2.2⟩
theorem aE4(h:aAL 1048576 r):iA r:=by obtain ⟨⟨h1,h2,h3,h4,h5⟩,⟨q1,q2,q3⟩,p,e,s,v⟩:=h;exact⟨⟨h1.bd,h2.bd,h3.bd,h4.bd,h5.bd⟩,⟨by omega,by omega,by omega⟩,⟨Nat.lt_of_le_of_lt p.1 (by decide),fun t ht=>Nat.lt_of_le_of_lt (p.2 t ht) (by decide)⟩,⟨Nat.lt_of_le_of_lt e.1 (by decide),fun x hx=>aK9 (by decide) (e.2 x hx)⟩,PZ s,aCE v⟩
theorem aKN(h:aAL 1048576 r):r.parents.length<549755813888:=Nat.lt_of_le_of_lt h.2.2.1.1 (by decide)
end
theorem aHO(h:aAL 1048576 r):∀e∈r.edits,e.refs.length<1099511627776:=fun e he=>Nat.lt_of_le_of_lt (h.2.2.2.1.2 e he).2.2.2.2.2.2.2.2.1.1 (by decide)
theorem aI6{B n:Nat}{ps:List PV}(h:Sh Tryz.prog B (n+7) 37 ps):∃w ks,ps=F9 w ks/\yY B ks:=by obtain ⟨_,_,rfl,_,h1,_,_,rfl,_,h2,_,_,rfl,_,h3,_,_,rfl,_,h4,_,_,rfl,_,h5,_,_,rfl,_,h6,rfl⟩:=nP aCo h;obtain ⟨m,rfl,_⟩:=aNK h1;obtain ⟨ks,rfl,q⟩:=B9 h2;obtain ⟨a,rfl,_⟩:=zD (f:=id) (good:=fun _=>True) underlying34 h3 (fun r hr=>⟨r,rfl,trivial⟩);obtain ⟨b,rfl,_⟩:=tX underlying3 h4;obtain ⟨c,rfl,_⟩:=B9 h5;obtain ⟨d,rfl,_⟩:=zD (f:=id) (good:=fun _=>True) underlying35 h6 (fun r hr=>⟨r,rfl,trivial⟩);exact⟨⟨_,_,_,_,_⟩,ks,rfl,q⟩
theorem aHi(h:yY 1048576 ks):D6 ks:=⟨Nat.lt_of_le_of_lt h.1 (by decide),fun t ht=>Nat.lt_of_le_of_lt (h.2 t ht) (by decide)⟩
end Go.Proofs.YtmdicgjnmfolfaaGreatDoor
namespace Go.Proofs.YtmdicgjnmfolfaaGreatDoor
open Go.Proofs.Tryz
open Go.Abs Go.Lib
variable{q i:Nat}{l:List UInt8}{s:ByteArray}{y:UInt8}
theorem Q2(s:List UInt8)(H:aH):∀r∈eQ s,∀a∈r,Clo H a:=by intro r hr a ha;obtain ⟨b,_,rfl⟩:=List.mem_map.1 hr;rw[aPX.1 ha];exact .pv _
abbrev TX:ByteArray:=⟨#[48,49,50,51,52,53,54,55,56,57]⟩
theorem aJp:∀q:Fin 10,(TX.extract q.1 (q.1+1)).data.toList=[UInt8.ofNat (48+q.1)]:=fun q=>by
 rw[hV,show q.1+1 - q.1=1 by omega];revert q;decide
theorem aDU(h:q<10):TX.extract q (q+1)=ofL [UInt8.ofNat (48+q)]:=qU (by rw[aJp ⟨q,h⟩,dC])
theorem aE7(a b:List UInt8):ofL a++ofL b=ofL (a++b):=qU (by rw[ByteArray.data_append,Array.toList_append,dC,dC,dC])
def S9(v:Nat):List UInt8:=if v=0 then[]else decDigits v
theorem aC3{v:Nat}(h:0<v)(t:List UInt8):S9 (v / 10)++(UInt8.ofNat (48+v % 10)::t)=S9 v++t:=by
 have e:S9 v=decDigits v:=aPS (by omega);rw[e,decDigits];by_cases h10:v<10
 ·rw[dif_pos h10,S9,aPT (by omega),Nat.mod_eq_of_lt h10];rfl
 rw[dif_neg h10,S9,aPS (by omega),List.append_assoc];rfl
theorem ZN(n:Nat):S9 (n / 10)++[UInt8.ofNat (48+n % 10)]=decDigits n:=by
 rw[decDigits];by_cases h10:n<10
 ·rw[dif_pos h10,S9,aPT (by omega),Nat.mod_eq_of_lt h10];rfl
 rw[dif_neg h10,S9,aPS (by omega)]
theorem aDs(n:Nat)(hn:n<9223372036854775808)(H:aH):aI Tryz.prog 142 [uv n] H (fun r H'=>r=sv (ofL (decDigits n))/\H'=H):=by
 refine Pu ?_;have step:∀v:Nat,v<18446744073709551616->((v:Nat):Int).tmod 10=((v % 10:Nat):Int)/\IntKind.u64.wrap (((v:Nat):Int).tdiv 10)=((v / 10:Nat):Int)/\IntKind.u64.wrap (((v % 10:Nat):Int)+1)=((v % 10+1:Nat):Int)/\v % 10<10/\v % 10+1<=TX.size:=fun v hv=>by
  refine⟨by rw[Int.tmod_eq_emod_of_nonneg (by omega)];omega,by rw[Int.tdiv_eq_ediv_of_nonneg (by omega),IntKind.wrap_u64];omega,by rw[IntKind.wrap_u64];omega,Nat.mod_lt _ (by decide),?_⟩;have:TX.size=10:=rfl;omega
 obtain ⟨a1,a2,a3,a4,a5⟩:=step n (by omega);have hx:=aDU a4;have hfin:=ZN n;obtain ⟨g,hg⟩:∃g,g=n % 10:=⟨_,rfl⟩;rw[<-hg]at a1 a3 a4 a5 hx hfin;refine Bd func142 rfl ntmps142<|Sr<|Dd aL<|Zz<|Sr<|Dd aE<|Dd (by exact wB rfl rfl rfl (by decide) a1)<|Dd aE<|Dd (by exact wB rfl rfl rfl (by decide) a1)<|Dd (by exact bZ rfl rfl rfl a3)<|Dd (by exact cO (l:=g) (h:=g+1) rfl underlying9 rfl rfl rfl (by omega) a5 hx)<|Dd aL<|Zz<|Sq<|Sr<|Dd aE<|Dd (by exact zK rfl rfl rfl (by decide) a2)<|Dd aL<|Zz<|aG ?_;refine jA (fun(v:Nat) (t:List UInt8)=>([(0,uv v),(3,sv (ofL t))],[])) (fun v t=>v<9223372036854775808/\S9 v++t=decDigits n) (fun v t=>v) (n / 10) [UInt8.ofNat (48+g)] ⟨by omega,hfin⟩ ?_ ?_
 ·exact Wk
 rintro v t ⟨hv,hvt⟩;obtain ⟨b1,b2,b3,b4,b5⟩:=step v (by omega);have hx:=aDU b4;have hlen:t.length<=21:=by
  have h1:=congrArg List.length hvt;rw[aPV]at h1;have h2:=dX (k:=19) (u:=n) (by omega) (by decide);omega
 by_cases h0:0<v
 ·have hst:=aC3 h0 t;rw[hvt]at hst;obtain ⟨g,hg⟩:∃g,g=v % 10:=⟨_,rfl⟩;rw[<-hg]at b1 b3 b4 b5 hx hst;refine Sq<|Sr<|Dd aE<|Dd iE<|Zz ?_;refine Cn ?_ ?_<;>intro hc1
  ·refine aC<|Sq<|aG<|Rg<|Dd aE<|Dd (by exact wB rfl rfl rfl (by decide) b1)<|Dd aE<|Dd (by exact wB rfl rfl rfl (by decide) b1)<|Dd (by exact bZ rfl rfl rfl b3)<|Dd (by exact cO (l:=g) (h:=g+1) rfl underlying9 rfl rfl rfl (by omega) b5 hx)<|Dd aE<|Dd (by exact cH rfl rfl rfl (by rw[dG,dG,List.length_singleton];omega) (aE7 [UInt8.ofNat (48+g)] t))<|Dd aL<|Zz<|Rg<|Dd aE<|Dd (by exact zK rfl rfl rfl (by decide) b2)<|Da ?_;exact⟨v / 10,UInt8.ofNat (48+g)::t,⟨by omega,hst⟩,by omega,Wk⟩
  (have h:=aPR hc1;omega)
 have hv0:v=0:=by omega
 subst hv0;have ht:t=decDigits n:=hvt;subst ht;refine Sq<|Sr<|Dd aE<|Dd iE<|Zz ?_;refine Cn ?_ ?_<;>intro hc2
 ·cases hc2
 exact aY<|Sr<|Dd aE<|Dd aL<|Zz<|aB<|Rt<|Qq
theorem UU(n:Nat)(hn:n<9223372036854775808)(H:aH):aI Tryz.prog 99 [iv (n:Int)] H (fun r H'=>r=sv (ofL (decDigits n))/\H'=H):=by
 refine Pu ?_;have hd:=fun H=>aDs n hn H;refine Bd func99 rfl ntmps99<|Sr<|Dd aL<|Zz<|Sq<|Sr<|Dd aE<|Dd cZ<|Zz ?_;refine Cn ?_ ?_<;>intro hc1
 ·(have h:=aPQ hc1;omega)
 exact aC<|Sr<|Dd aE<|Dd (by exact hU rfl underlying3 jM rfl (T9 (by omega)))<|Dd (by exact aA rfl rfl call142 rfl (hd _))<|Dd aL<|Zz<|aB<|Rt<|Qq
def EW(L:List ByteArray):Nat:=(L.map fun s=>s.size+21).sum
theorem aBY(L:List ByteArray)(s:ByteArray):EW (L++[s])=EW L+(s.size+21):=by rw[EW,List.map_append,List.sum_append];rfl
theorem aAN:∀ {L:List ByteArray},(∀s∈L,s.size<=100000000)->EW L<=L.length*100000021
 | [],_=>aPb _
 |s::r,h=>by
  have ih:=aAN (L:=r) (fun x hx=>h x (List.mem_cons_of_mem _ hx));have hs:=h s List.mem_cons_self;show s.size+21+EW r<=_;rw[aPW,Nat.add_mul];omega
theorem QF:∀ {L:List ByteArray},(∀s∈L,s.size<=100000000)->(aO L).length<=EW L
 | [],_=>aPb _
 |s::r,h=>by
  have ih:=QF (L:=r) (fun x hx=>h x (List.mem_cons_of_mem _ hx));have hs:=h s List.mem_cons_self;have hd:=dX (k:=9) (u:=s.size) (by omega) (by decide);rw[wF,aPV,aPW,aPV,aZ];show _<=s.size+21+EW r;omega
theorem VQ(L:List ByteArray)(s:ByteArray):aO (L++[s])=(aO L++decDigits s.size)++[58]++s.data.toList:=by rw[VR,wF];show aO L++(decDigits s.size++58::(s.data.toList++[]))=_;rw[List.append_nil,List.append_assoc,List.append_assoc];rfl
theorem aBi(L:List ByteArray)(hL:L.length<=100000)(hs:∀s∈L,s.size<=100000000)(H:aH):aI Tryz.prog 45 [.pv (bA L)] H (fun r H'=>r=sv (ofL (aO L))/\H'=H):=by
 refine Pu ?_;have hml:(L.map encStr).length=L.length:=aPU _;have htk:∀i,EW (L.take i)<=10000002100000:=fun i=>by
  have h1:=aAN (L:=L.take i) (fun s h=>hs s (List.mem_of_mem_take h));have h2:(L.take i).length<=100000:=by rw[aP8];omega
  have h3:=Nat.mul_le_mul_right 100000021 h2;omega
 have hjl:∀i,(aO (L.take i)).length<=EW (L.take i):=fun i=>QF fun s h=>hs s (List.mem_of_mem_take h);refine Bd func45 rfl ntmps45<|Sr<|Dd aL<|Zz<|Sr<|Dd aL<|Zz<|Sq<|Sr<|Dd aL<|Zz<|aG ?_;refine bT (σ:=Nat) (fun i=>([(0,.pv (bA L)),(3,iv (EW (L.take i):Int)),(4,iv (i:Int))],[])) (fun i=>i<=L.length) (fun i=>L.length - i) 0 (aPb _) ?_ ?_
 ·exact Wk
 intro i hi;have hb:=htk i;refine Sq<|Sr<|Dd aE<|Dd aE<|Dd (fE aD)<|Dd cZ<|Zz ?_;refine Cn ?_ ?_<;>intro hc1
 ·have hlt:i<L.length:=by have:=aPQ hc1;omega
  obtain ⟨s,hsi⟩:=aU hlt;have his:=cJ (f:=encStr) hsi;have hsz:=hs s (aP4 hsi);have hnx:EW (L.take (i+1))=EW (L.take i)+(s.size+21):=by rw[pJ hsi,aBY]
  refine aC<|Sq<|aG<|Rg<|Dd aE<|Dd aE<|Dd aE<|Dd (by exact bP rfl cB rfl rfl (by omega) (by exact aP5 _) his rfl)<|Dd (iJ isAgg9)<|Dd (jV underlying9)<|Dd (by exact bZ rfl rfl rfl (show IntKind.i64.wrap ((s.size:Int)+21)=((s.size+21:Nat):Int)by rw[kK (by omega) (by omega)];omega))<|Dd (by exact bZ rfl rfl rfl (show IntKind.i64.wrap ((EW (L.take i):Int)+((s.size+21:Nat):Int))=((EW (L.take (i+1)):Nat):Int)by rw[hnx,kK (by omega) (by omega)];omega))<|Dd aL<|Zz<|Rg<|Dd aE<|Dd (by exact bZ rfl rfl rfl (show IntKind.i64.wrap ((i:Int)+1)=((i+1:Nat):Int)by rw[kK (by omega) (by omega)];omega))<|Da ?_;exact⟨i+1,by omega,by omega,Wk⟩
 have hge:i=L.length:=by have:=aPR hc1;omega
 refine aY<|Sr<|Dd aE<|Dd (by exact BF (id:=905) rfl xO ei5 zo5 rfl rfl rfl (by omega) (by omega) (by exact aP5 _) (by exact aP5 _) (by omega) rfl)<|Dd aL<|Zz<|Sq<|Sr<|Dd aL<|Zz<|aG ?_;refine bT (σ:=Nat) (fun i=>([(0,.pv (bA L)),(5,.osl 905 (3*i) 0 (aO (L.take i)).length),(6,iv (i:Int))],[(905,⟨3*i,1,5,eQ (aO (L.take i))⟩)])) (fun i=>i<=L.length) (fun i=>L.length - i) 0 (aPb _) ?_ ?_
 ·exact(dA.wk (Eb<|Ea<|Eb<|trivial) (Hc (Q2 _ _)<|trivial) trivial)
 clear hge hb hi;intro i hi;have hb:=htk i;have hj:=hjl i;have hb2:=htk (i+1);have hj2:=hjl (i+1);refine Sq<|Sr<|Dd aE<|Dd aE<|Dd (fE aD)<|Dd cZ<|Zz ?_;refine Cn ?_ ?_<;>intro hc2
 ·have hlt:i<L.length:=by have:=aPQ hc2;omega
  obtain ⟨s,hsi⟩:=aU hlt;have his:=cJ (f:=encStr) hsi;have hsz:=hs s (aP4 hsi);have hdec:=fun H=>UU s.size (by omega) H;have hnx:aO (L.take (i+1))=(aO (L.take i)++decDigits s.size)++[58]++s.data.toList:=by rw[pJ hsi,VQ]
  have hdl:=dX (k:=9) (u:=s.size) (by omega) (by decide);obtain ⟨J,hJ⟩:∃J,J=aO (L.take i):=⟨_,rfl⟩;rw[<-hJ]at hnx hj |-;have hds:=dG (decDigits s.size);have h39:(eQ (J++decDigits s.size)).length=J.length+(decDigits s.size).length:=by rw[pS,aPV]
  have h45:(eQ ((J++decDigits s.size)++[58])).length=J.length+(decDigits s.size).length+1:=by rw[pS,aPV,aPV];rfl
  refine aC<|Sq<|aG<|Sr<|Dd aE<|Dd aE<|Dd aE<|Dd (by exact bP rfl cB rfl rfl (by omega) (by exact aP5 _) his rfl)<|Dd (iJ isAgg9)<|Dd (jV underlying9)<|Dd (by exact aA rfl rfl mZ rfl (hdec _))<|Dd (by exact sW (rows':=eQ (J++decDigits s.size)) (k:=J.length+(decDigits s.size).length) rfl xO underlying9 ei5 JV rfl rfl rfl rfl rfl (pS J) rfl (by rw[hds];omega) (by rw[hds]) (by rw[dC];exact rL J (decDigits s.size)))<|Dd aL<|Zz<|Sr<|Dd aE<|Dd (by exact aR [[.int .u8 58]] rfl xO rfl rfl rfl rfl rfl (by simp))<|Dd (by exact dL (k:=J.length+(decDigits s.size).length+1) (ps:=[[.int .u8 58]]) rfl xO ei5 rfl rfl rfl rfl rfl h39 rfl (by simp) (m:=1) rfl (by omega) rfl (rL (J++decDigits s.size) [58]))<|Dd aL<|Zz<|Rg<|Dd aE<|Dd aE<|Dm ?_;refine Dd (mE cB)<|Dd (iJ isAgg9 (hi:=his))<|Dd (by exact sW (k:=J.length+(decDigits s.size).length+1+s.size) rfl xO underlying9 ei5 JV rfl rfl rfl rfl rfl h45 rfl (by omega) rfl (rL ((J++decDigits s.size)++[58]) s.data.toList))<|Dd aL<|Zz<|Rg<|Dd aE<|Dd (by exact bZ rfl rfl rfl (show IntKind.i64.wrap ((i:Int)+1)=((i+1:Nat):Int)by rw[kK (by omega) (by omega)];omega))<|Da ?_;refine⟨i+1,by omega,by omega,?_⟩;rw[hnx];have hlen:(J++decDigits s.size++[58]++s.data.toList).length=J.length+(decDigits s.size).length+1+s.size:=by
   rw[aPV,aPV,aPV,aZ];rfl
  rw[hlen];exact(dA.wk (Eb<|Ea<|Eb<|trivial) (Hc (Q2 _ _)<|trivial) trivial)
 have hge:i=L.length:=by have:=aPR hc2;omega
 subst hge;rw[List.take_length]at hj |-;obtain ⟨J,hJ⟩:∃J,J=aO L:=⟨_,rfl⟩;rw[<-hJ];have hb46:((eQ J).drop 0).take J.length=eQ J:=by rw[List.drop_zero,List.take_of_length_le (by rw[pS];exact aP0 _)]
 exact aY<|Sr<|Dd aE<|Dd (by exact OJ rfl dH fQ underlying9 rfl rfl rfl rfl hb46 rfl)<|Dd aL<|Zz<|aB<|Rt<|Qq
theorem cS.eqv{P:Program}{N:Nat}{o:Oper}{E:dB}{H H':aH}{v v':AV}(h:cS P N o E H v H')(e:v=v'):cS P N o E H v' H':=e▸h
theorem aKA(x:Nat)(hx:x<18446744073709551616)(H:aH):aI Tryz.prog 141 [uv x] H (fun r H'=>r=uv (JO x)/\H'=H):=by refine Pu ?_;refine Bd func141 rfl ntmps141<|Sr<|Dd aL<|Zz<|Sr<|Dd aE<|Dd (by exact kO rfl rfl rfl (show IntKind.u64.wrap ((x:Int)*2862933555777941757)=((HO x:Nat):Int)by rw[IntKind.wrap_u64,HO];omega))<|Dd aL<|Zz<|Sr<|Dd aE<|Dd aE<|Dd (by exact CQ rfl rfl rfl (by decide) (by decide) (aBa (HO x) 32 rfl))<|Dd (by exact mC rfl (by simp) rfl rfl (bits_xor_u64_nat (HO x) (HO x / 2 ^ 32) (CV x) (uY 32 (CV x))))<|Dd aL<|Zz<|Sr<|Dd aE<|Dd (by exact kO rfl rfl rfl (show IntKind.u64.wrap (((HO x ^^^ (HO x / 2 ^ 32):Nat):Int)*3935559000370003845)=((MJ x:Nat):Int)by rw[IntKind.wrap_u64,MJ,aHw];omega))<|Dd aL<|Zz<|Sr<|Dd aE<|Dd aE<|Dd (by exact CQ rfl rfl rfl (by decide) (by decide) (aBa (MJ x) 29 rfl))<|Dd (by exact mC rfl (by simp) rfl rfl (bits_xor_u64_nat (MJ x) (MJ x / 2 ^ 29) (CU x) (uY 29 (CU x)))) ?_;exact Dd aL<|Zz<|aB<|Rt<|Qq
def DR(b:Int):Prop:=(48<=b/\b<=57)\/(97<=b/\b<=102)
theorem aI2(b:Int)(hb:DR b)(H:aH):aI Tryz.prog 143 [.pv (.int .u8 b)] H (fun r H'=>r=iv (if b<=57 then b - 48 else b - 87)/\H'=H):=by
 refine Pu ?_;have n1:∀ {p:Prop} [Decidable p],p->AV.pv (.bool (decide p))=bv true:=fun h=>by rw[decide_eq_true h]
 have n2:∀ {p:Prop} [Decidable p],¬ p->AV.pv (.bool (decide p))=bv false:=fun h=>by rw[decide_eq_false h]
 by_cases h57:b<=57
 ·have hb2:48<=b:=by rcases hb with h|h<;>omega
  rw[aPT h57];refine Bd NS rfl IK<|Sr<|Dd aL<|Zz<|Sq<|Sr<|Dd aE<|Dd (by exact cS.eqv (mQ rfl rfl rfl) (n1 hb2))<|Dd aE<|On aE<|On (by exact cS.eqv (rO rfl rfl rfl) (n1 h57))<|Dd cG<|Zz ?_;refine Cn ?_ ?_<;>intro hc1
  ·exact Sr<|Dd aE<|Dd (by exact dW rfl rfl rfl (show IntKind.u8.wrap (b - 48)=b - 48 by rw[IntKind.wrap_u8];omega))<|Dd (by exact hU rfl fQ underlying3 rfl (kK (by omega) (by omega)))<|Dd aL<|Zz<|aB<|Rt<|Qq
  cases hc1
 have hb2:97<=b/\b<=102:=by rcases hb with h|h<;>omega
 have hb3:48<=b:=by omega
 rw[aPS h57];refine Bd NS rfl IK<|Sr<|Dd aL<|Zz<|Sq<|Sr<|Dd aE<|Dd (by exact cS.eqv (mQ rfl rfl rfl) (n1 hb3))<|Dd aE<|On aE<|On (by exact cS.eqv (rO rfl rfl rfl) (n2 h57))<|Dd cG<|Zz ?_;refine Cn ?_ ?_<;>intro hc1
 ·cases hc1
 refine aC<|Sq<|Sr<|Dd aE<|Dd (by exact cS.eqv (mQ rfl rfl rfl) (n1 hb2.1))<|Dd aE<|On aE<|On (by exact cS.eqv (rO rfl rfl rfl) (n1 hb2.2))<|Dd cG<|Zz ?_;refine Cn ?_ ?_<;>intro hc2
 ·exact Sr<|Dd aE<|Dd (by exact dW rfl rfl rfl (show IntKind.u8.wrap (b - 97)=b - 97 by rw[IntKind.wrap_u8];omega))<|Dd (by exact hU rfl fQ underlying3 rfl (kK (by omega) (by omega)))<|Dd (by exact bZ rfl rfl rfl (show IntKind.i64.wrap (b - 97+10)=b - 87 by rw[kK (by omega) (by omega)];omega))<|Dd aL<|Zz<|aB<|Rt<|Qq
 cases hc2
abbrev HX:ByteArray:=⟨#[48,49,50,51,52,53,54,55,56,57,97,98,99,100,101,102]⟩
instance (b:Int):Decidable (DR b):=by unfold DR;infer_instance
theorem aKv:∀q:Fin 16,DR (cP HX q.1):=by decide
theorem aKs(h:q<16):(HX.extract q (q+1)).size=1/\DR (cP (HX.extract q (q+1)) 0):=by
 refine⟨by rw[ByteArray.size_extract];have:HX.size=16:=rfl;omega,?_⟩;have e:cP (HX.extract q (q+1)) 0=cP HX q:=by
  unfold cP;rw[hV,show q+1 - q=1 by omega,List.getElem?_take_of_lt (by decide),List.getElem?_drop];rfl
 rw[e];exact aKv ⟨q,h⟩
theorem aH5{b:UInt8}(hi:i<8)(hb:l[i]?=some b):(kS l)[i]?=some b:=by have hlt:=(aPY.1 hb).1;rw[kS,List.getElem?_append_left (by rw[aP8];omega),List.getElem?_take_of_lt hi,hb]
theorem aEM(hi:i<8)(hl:l.length<=i):(kS l)[i]?=some 0:=by rw[kS,List.getElem?_append_right (by rw[aP8];omega),List.getElem?_replicate,aPT (by rw[aP8];omega)]
theorem aHq(D i:Nat)(hi:i<16):D / 16 ^ i % 16=MH D (15 - i):=by rw[MH,show 60 - 4*(15 - i)=4*i by omega,Nat.pow_mul]
theorem aKt:∀q:Fin 16,(HX.extract q.1 (q.1+1)).data.toList=[UInt8.ofNat (sM q.1).toNat]:=fun q=>by
 rw[hV,show q.1+1 - q.1=1 by omega];revert q;decide
theorem VV(D:Nat):(uS D).length=16:=by rw[uS,aPU,List.length_range]
theorem aFI(D:Nat)(h:i<16):(uS D)[i]?=some (UInt8.ofNat (sM (MH D i)).toNat):=by rw[uS,aPe,List.getElem?_range h];rfl
theorem aFF(D:Nat)(h:i<16):HX.extract (D / 16 ^ i % 16) (D / 16 ^ i % 16+1)++ofL ((uS D).drop (16 - i))=ofL ((uS D).drop (16 - (i+1))):=by
 refine qU ?_;rw[ByteArray.data_append,Array.toList_append,aKt ⟨_,Nat.mod_lt _ (by decide)⟩,dC,dC];show UInt8.ofNat (sM (D / 16 ^ i % 16)).toNat::(uS D).drop (16 - i)=_;rw[aHq D i h,show 16 - (i+1)=15 - i by omega,show 16 - i=15 - i+1 by omega];have hlt:15 - i<(uS D).length:=by rw[VV];omega
 rw[List.drop_eq_getElem_cons hlt];have:=aFI D (i:=15 - i) (by omega);rw[aPZ hlt]at this;rw[Option.some.inj this]
theorem aHL(s:ByteArray)(hs:s.size<1000000000)(H:aH):aI Tryz.prog 97 [sv s] H (fun r H'=>r=sv (qS s)/\H'=H):=by
 refine Pu ?_;have hsl:=aZ s;have hst0:bits .xor .u64 1181783497276652981 (s.size:Int)=((OV s.size:Nat):Int):=bits_xor_u64_nat 1181783497276652981 s.size (by decide) (by omega);have hst1:OV s.size<18446744073709551616:=aAx (by omega);obtain ⟨D,hD⟩:∃D,D=NA (OV s.size) s.data.toList:=⟨_,rfl⟩;have hdig:qS s=ofL (uS D):=by rw[qS,<-hD];rfl
 rw[hdig];clear hdig;refine Bd func97 rfl ntmps97<|Sr<|Dd aL<|Zz<|Sr<|Dd aE<|Dd (jV underlying9)<|Dd (by exact hU rfl underlying3 jM rfl (T9 (by omega)))<|Dd (by exact mC rfl (by simp) rfl rfl hst0)<|Dd aL<|Zz<|Sq<|Sr<|Dd aL<|Zz<|aG ?_;refine jA (fun(j st:Nat)=>([(0,sv s),(3,uv st),(4,iv ((8*j:Nat):Int))],[])) (fun j st=>8*j<=s.size+8/\st<18446744073709551616/\((8*j<=s.size/\NA st (s.data.toList.drop (8*j))=D)\/(s.size<8*j/\st=D))) (fun j st=>s.size+8 - 8*j) 0 (OV s.size) ⟨by omega,hst1,.inl ⟨by omega,by rw[hD];rfl⟩⟩ ?_ ?_
 ·exact Wk
 rintro j st ⟨hj,hst,hinv⟩;refine Sq<|Sr<|Dd aE<|Dd aE<|Dd (jV underlying9)<|Dd GQ<|Zz ?_;refine Cn ?_ ?_<;>intro hc1
 ·have hle:8*j<=s.size:=by have:=aPQ hc1;omega
  have hdd:NA st (s.data.toList.drop (8*j))=D:=by
   rcases hinv with⟨_,h⟩|⟨h,_⟩
   ·exact h
   omega
  obtain ⟨R,hR⟩:∃R,R=s.data.toList.drop (8*j):=⟨_,rfl⟩;have hRl:R.length=s.size - 8*j:=by rw[hR,aP9,hsl]
  have hp8:=U6 R;rw[<-hR]at hdd;refine aC<|Sq<|aG<|Sr<|Dd aL<|Zz<|Sq<|Sr<|Dd aE<|Dd aL<|Zz<|aG ?_;refine bT (σ:=Nat) (fun i=>([(0,sv s),(3,uv st),(4,iv ((8*j:Nat):Int)),(5,uv (sQ ((kS R).take i))),(6,iv ((8*j+i:Nat):Int))],[])) (fun i=>i<=8) (fun i=>8 - i) 0 (aPb _) ?_ ?_
  ·exact Wk
  intro i hi;by_cases h8:i<8
  ·obtain ⟨y,hy⟩:=aU (l:=kS R) (k:=i) (by omega);have hnx:sQ ((kS R).take (i+1))=sQ ((kS R).take i)*256+y.toNat:=by rw[pJ hy,RC]
   have h7:sQ ((kS R).take i)<72057594037927936:=XB (by rw[aP8];omega);have hyb:y.toNat<256:=y.toNat_lt;obtain ⟨b,hb⟩:∃b,b=sQ ((kS R).take i):=⟨_,rfl⟩;rw[<-hb]at hnx h7 |-;refine Sq<|Sr<|Dd aE<|Dd aE<|Dd (by exact bZ rfl rfl rfl (show IntKind.i64.wrap (((8*j:Nat):Int)+8)=((8*j+8:Nat):Int)by rw[kK (by omega) (by omega)];omega))<|Dd cZ<|Zz ?_;refine Cn ?_ ?_<;>intro hc2
   ·refine aC<|Sq<|aG<|Sr<|Dd aE<|Dd (by exact kO rfl rfl rfl (show IntKind.u64.wrap ((b:Int)*256)=((b*256:Nat):Int)by rw[IntKind.wrap_u64];omega))<|Dd aL<|Zz<|Sr<|Dd aE<|Dd aE<|Dd (jV underlying9)<|Dd cZ<|Zz ?_;refine Cn ?_ ?_<;>intro hc3
    ·have hlt2:8*j+i<s.size:=by have:=aPQ hc3;omega
     have hby:cP s (8*j+i)=(y.toNat:Int):=by
      have hri:R[i]?=s.data.toList[8*j+i]?:=by rw[hR,List.getElem?_drop]
      obtain ⟨z,hz⟩:=aU (l:=s.data.toList) (k:=8*j+i) (by omega);have:=aH5 (l:=R) h8 (hri.trans hz);rw[hy]at this;rw[cP,hz,<-Option.some.inj this];rfl
     refine Rg<|Dd aE<|Dd aE<|Dd aE<|Dd (by exact dO rfl underlying9 rfl rfl (by omega) (by exact aP5 _) (by omega) rfl)<|Dd (by exact hU rfl fQ jM rfl (show IntKind.u64.wrap (cP s (8*j+i))=((y.toNat:Nat):Int)by rw[hby,T9 (by omega)]))<|Dd (by exact bZ rfl rfl rfl (show IntKind.u64.wrap (((b*256:Nat):Int)+((y.toNat:Nat):Int))=((b*256+y.toNat:Nat):Int)by rw[IntKind.wrap_u64];omega))<|Dd aL<|Zz<|Rg<|Dd aE<|Dd (by exact bZ rfl rfl rfl (show IntKind.i64.wrap (((8*j+i:Nat):Int)+1)=((8*j+(i+1):Nat):Int)by rw[kK (by omega) (by omega)];omega))<|Da ?_;refine⟨i+1,by omega,by omega,?_⟩;rw[hnx];exact Wk
    have hge2:s.size<=8*j+i:=by have:=aPR hc3;omega
    have hy0:y.toNat=0:=by
     have:=aEM (l:=R) h8 (by omega);rw[hy]at this;rw[Option.some.inj this];rfl
    refine aC<|Rg<|Dd aE<|Dd (by exact bZ rfl rfl rfl (show IntKind.i64.wrap (((8*j+i:Nat):Int)+1)=((8*j+(i+1):Nat):Int)by rw[kK (by omega) (by omega)];omega))<|Da ?_;refine⟨i+1,by omega,by omega,?_⟩;rw[hnx,hy0,Nat.add_zero];exact Wk
   (have h:=aPR hc2;omega)
  have h88:i=8:=by omega
  subst h88;have htk:(kS R).take 8=kS R:=List.take_of_length_le (by omega);rw[htk];refine Sq<|Sr<|Dd aE<|Dd aE<|Dd (by exact bZ rfl rfl rfl (show IntKind.i64.wrap (((8*j:Nat):Int)+8)=((8*j+8:Nat):Int)by rw[kK (by omega) (by omega)];omega))<|Dd cZ<|Zz ?_;refine Cn ?_ ?_<;>intro hc4
  ·(have h:=aPQ hc4;omega)
  have hlt:=NQ (l:=kS R) (by omega);have hmx:=fun H=>aKA (st ^^^ sQ (kS R)) (BE hst hlt) H;refine aY<|Rg<|Dd aE<|Dd aE<|Dd (by exact mC rfl (by simp) rfl rfl (bits_xor_u64_nat st (sQ (kS R)) hst hlt))<|Dd (by exact aA rfl rfl call141 rfl (hmx _))<|Dd aL<|Zz<|Rg<|Dd aE<|Dd (by exact bZ rfl rfl rfl (show IntKind.i64.wrap (((8*j:Nat):Int)+8)=((8*(j+1):Nat):Int)by rw[kK (by omega) (by omega)];omega))<|Da ?_;refine⟨j+1,JO (st ^^^ sQ (kS R)),⟨by omega,SR _,?_⟩,by omega,Wk⟩;by_cases hge:8<=R.length
  ·refine .inl ⟨by omega,?_⟩;have hpt:kS (R.take 8)=kS R:=by
    rw[kS,kS,List.take_take,aP8,Nat.min_eq_left hge];rw[show 8 - R.length=0 by omega];rfl
   have h1:=QY st hge;rw[hpt,hdd,hR,List.drop_drop]at h1;rw[hR,show 8*(j+1)=8*j+8 by omega,h1]
  refine .inr ⟨by omega,?_⟩;rw[<-QZ st (by omega),hdd]
 have hgt:s.size<8*j:=by have:=aPR hc1;omega
 have hstD:st=D:=by
  rcases hinv with⟨h,_⟩|⟨_,h⟩
  ·omega
  exact h
 subst hstD;have hl16:=VV st;have hz0:ofL ((uS st).drop (16 - 0))=⟨#[]⟩:=by rw[List.drop_of_length_le (by omega)];rfl
 have hd0:st / 16 ^ 0=st:=by rw[Nat.pow_zero,Nat.div_one]
 refine aY<|Sr<|Dd aL<|Zz<|Sq<|Sr<|Dd aL<|Zz<|aG ?_;refine bT (σ:=Nat) (fun i=>([(3,uv (st / 16 ^ i)),(7,sv (ofL ((uS st).drop (16 - i)))),(8,iv (i:Int))],[])) (fun i=>i<=16) (fun i=>16 - i) 0 (aPb _) ?_ ?_
 ·rw[hz0,hd0];exact Wk
 intro i hi;obtain ⟨v,hv⟩:∃v,v=st / 16 ^ i:=⟨_,rfl⟩;have hbd:v<18446744073709551616:=by rw[hv];exact Nat.lt_of_le_of_lt (Nat.div_le_self _ _) hst
 have hv2:st / 16 ^ (i+1)=v / 16:=by rw[hv,Nat.pow_succ,<-Nat.div_div_eq_div_mul]
 rw[<-hv];have hm:((v:Nat):Int).tmod 16=((v % 16:Nat):Int):=by rw[Int.tmod_eq_emod_of_nonneg (by omega)];omega
 have hq:IntKind.u64.wrap (((v:Nat):Int).tdiv 16)=((v / 16:Nat):Int):=by
  rw[Int.tdiv_eq_ediv_of_nonneg (by omega),IntKind.wrap_u64];omega
 have hq16:v % 16<16:=Nat.mod_lt _ (by decide);have hone:=aKs hq16;have htl:(ofL ((uS st).drop (16 - i))).size=i:=by rw[dG,aP9];omega
 by_cases h16:i<16
 ·have hnx:=aFF st h16;rw[<-hv]at hnx;obtain ⟨g,hg⟩:∃g,g=v % 16:=⟨_,rfl⟩;rw[<-hg]at hm hq16 hone hnx;refine Sq<|Sr<|Dd aE<|Dd cZ<|Zz ?_;refine Cn ?_ ?_<;>intro hc5
  ·refine aC<|Sq<|aG<|Sr<|Dd aE<|Dd (by exact wB rfl rfl rfl (by decide) hm)<|Dd aE<|Dd (by exact wB rfl rfl rfl (by decide) hm)<|Dd (by exact bZ rfl rfl rfl (show IntKind.u64.wrap ((g:Int)+1)=((g+1:Nat):Int)by rw[IntKind.wrap_u64];omega))<|Dd (by exact cO (l:=g) (h:=g+1) rfl underlying9 rfl rfl rfl (by omega) (show g+1<=HX.size from by have:HX.size=16:=rfl;omega) rfl)<|Dd aE<|Dd (by exact cH rfl rfl rfl (show (HX.extract g (g+1)).size+(ofL ((uS st).drop (16 - i))).size<=9223372036854775807 by rw[hone.1,htl];omega) hnx)<|Dd aL<|Zz<|Rg<|Dd aE<|Dd (by exact zK rfl rfl rfl (by decide) hq)<|Dd aL<|Zz<|Rg<|Dd aE<|Dd (by exact bZ rfl rfl rfl (show IntKind.i64.wrap ((i:Int)+1)=((i+1:Nat):Int)by rw[kK (by omega) (by omega)];omega))<|Da ?_;refine⟨i+1,by omega,by omega,?_⟩;rw[hv2];exact Wk
  (have h:=aPR hc5;omega)
 have h66:i=16:=by omega
 subst h66;refine Sq<|Sr<|Dd aE<|Dd cZ<|Zz ?_;refine Cn ?_ ?_<;>intro hc6
 ·(have h:=aPQ hc6;omega)
 exact aY<|Sr<|Dd aE<|Dd aL<|Zz<|aB<|Rt<|Qq
theorem aAZ(L:List ByteArray)(hL:L.length<=2000)(hs:∀s∈L,s.size<=20000)(H:aH):aI Tryz.prog 79 [.pv (bA L)] H (fun r H'=>r=sv (yK L)/\H'=H):=by refine Pu ?_;have hj:=fun H=>aBi L (by omega) (fun s h=>Nat.le_trans (hs s h) (by decide)) H;have hsz:=zV (L:=L) hs hL;have hsm:=fun H=>aHL (ofL (aO L)) (by rw[dG];omega) H;have e:qS (ofL (aO L))=yK L:=rfl;rw[e]at hsm;exact Bd func79 rfl ntmps79<|Sr<|Dd aL<|Zz<|Sr<|Dd aE<|Dd (by exact aA rfl rfl call45 rfl (hj _))<|Dd (by exact aA rfl rfl call97 rfl (hsm _))<|Dd aL<|Zz<|aB<|Rt<|Qq
theorem aF2(b:Int)(hb:¬ DR b)(H:aH):aI Tryz.prog 143 [.pv (.int .u8 b)] H (fun r H'=>r=iv (-1)/\H'=H):=by
 refine Pu ?_;have n1:∀ {p:Prop} [Decidable p],p->AV.pv (.bool (decide p))=bv true:=fun h=>by rw[decide_eq_true h]
 have n2:∀ {p:Prop} [Decidable p],¬ p->AV.pv (.bool (decide p))=bv false:=fun h=>by rw[decide_eq_false h]
 by_cases h48:48<=b
 ·have h57:¬ b<=57:=fun h=>hb (.inl ⟨h48,h⟩);by_cases h97:97<=b
  ·have h102:¬ b<=102:=fun h=>hb (.inr ⟨h97,h⟩);refine Bd NS rfl IK<|Sr<|Dd aL<|Zz<|Sq<|Sr<|Dd aE<|Dd (by exact cS.eqv (mQ rfl rfl rfl) (n1 h48))<|Dd aE<|On aE<|On (by exact cS.eqv (rO rfl rfl rfl) (n2 h57))<|Dd cG<|Zz ?_;refine Cn ?_ ?_<;>intro hc1
   ·cases hc1
   refine aC<|Sq<|Sr<|Dd aE<|Dd (by exact cS.eqv (mQ rfl rfl rfl) (n1 h97))<|Dd aE<|On aE<|On (by exact cS.eqv (rO rfl rfl rfl) (n2 h102))<|Dd cG<|Zz ?_;refine Cn ?_ ?_<;>intro hc2
   ·cases hc2
   exact aC<|Sr<|Dd aL<|Zz<|aB<|Rt<|Qq
  refine Bd NS rfl IK<|Sr<|Dd aL<|Zz<|Sq<|Sr<|Dd aE<|Dd (by exact cS.eqv (mQ rfl rfl rfl) (n1 h48))<|Dd aE<|On aE<|On (by exact cS.eqv (rO rfl rfl rfl) (n2 h57))<|Dd cG<|Zz ?_;refine Cn ?_ ?_<;>intro hc1
  ·cases hc1
  refine aC<|Sq<|Sr<|Dd aE<|Dd (by exact cS.eqv (mQ rfl rfl rfl) (n2 h97))<|Dd aE<|Fo<|Fo<|Dd cG<|Zz ?_;refine Cn ?_ ?_<;>intro hc2
  ·cases hc2
  exact aC<|Sr<|Dd aL<|Zz<|aB<|Rt<|Qq
 refine Bd NS rfl IK<|Sr<|Dd aL<|Zz<|Sq<|Sr<|Dd aE<|Dd (by exact cS.eqv (mQ rfl rfl rfl) (n2 h48))<|Dd aE<|Fo<|Fo<|Dd cG<|Zz ?_;refine Cn ?_ ?_<;>intro hc1
 ·cases hc1
 refine aC<|Sq<|Sr<|Dd aE<|Dd (by exact cS.eqv (mQ rfl rfl rfl) (n2 (by omega)))<|Dd aE<|Fo<|Fo<|Dd cG<|Zz ?_;refine Cn ?_ ?_<;>intro hc2
 ·cases hc2
 exact aC<|Sr<|Dd aL<|Zz<|aB<|Rt<|Qq
theorem aFG(h:s.data.toList[i]?=some y):DR (cP s i)↔DB y=true:=by rw[cP,h];show DR ((y.toNat:Nat):Int)↔_;simp only[DR,DB,Bool.or_eq_true,aP3,aP1,UInt8.le_iff_toNat_le];show _↔(48<=y.toNat/\y.toNat<=57)\/(97<=y.toNat/\y.toNat<=102);omega
theorem aIL(h:s.data.toList[i]?=some y)(hy:DB y=false):isJ s=false:=by rw[isJ,Bool.and_eq_false_iff];refine .inr ?_;rw[List.all_eq_false];exact⟨y,aP4 h,by rw[hy];decide⟩
theorem aIM(h:∀k,k<16->∀y,s.data.toList[k]?=some y->DB y=true):isJ s=decide (s.size=16):=by
 rw[isJ];by_cases e:s.size=16
 ·rw[decide_eq_true e,Bool.true_and,List.all_eq_true];intro y hy;obtain ⟨k,hk⟩:=aPf.1 hy;have:=(aPY.1 hk).1;rw[aZ]at this;exact h k (by omega) y hk
 rw[decide_eq_false e,Bool.false_and]
theorem aJL(s:ByteArray)(hs:s.size<4611686018427387904)(H:aH):aI Tryz.prog 128 [sv s] H (fun r H'=>r=bv (isJ s)/\H'=H):=by
 refine Pu ?_;have hsl:=aZ s;refine Bd func128 rfl ntmps128<|Sr<|Dd aL<|Zz<|Sq<|Sr<|Dd aL<|Zz<|aG ?_;refine bT (σ:=Nat) (fun i=>([(0,sv s),(3,iv (i:Int))],[])) (fun i=>i<=16/\i<=s.size/\∀k,k<i->∀y,s.data.toList[k]?=some y->DB y=true) (fun i=>16 - i) 0 ⟨aPb _,aPb _,fun k h=>by omega⟩ ?_ ?_
 ·exact Wk
 rintro i ⟨hi,hi2,hall⟩;by_cases hin:i<s.size/\i<16
 ·obtain ⟨hin1,hin2⟩:=hin;obtain ⟨y,hy⟩:=aU (l:=s.data.toList) (k:=i) (by omega);have hiff:=aFG hy;obtain ⟨bb,hbb⟩:∃bb,bb=cP s i:=⟨_,rfl⟩;rw[<-hbb]at hiff;by_cases hu:DB y=true
  ·have hd:=fun H=>aI2 bb (hiff.2 hu) H;have hd0:¬ (if bb<=57 then bb - 48 else bb - 87)<0:=by
    have:=hiff.2 hu;unfold DR at this
    split<;>omega
   rw[hbb]at hd hd0;refine Sq<|Sr<|Dd aE<|Dd aE<|Dd (jV underlying9)<|Dd (by exact cS.eqv (qC rfl rfl rfl) (show AV.pv (.bool (decide ((i:Int)<(s.size:Int))))=bv true by rw[decide_eq_true (by omega)]))<|Dd aE<|On aE<|On (by exact cS.eqv (qC rfl rfl rfl) (show AV.pv (.bool (decide ((i:Int)<16)))=bv true by rw[decide_eq_true (by omega)]))<|Dd cG<|Zz ?_;refine Cn ?_ ?_<;>intro hc1
   ·refine aC<|Sq<|aG<|Sr<|Dd aE<|Dd aE<|Dd (by exact dO rfl underlying9 rfl rfl (by omega) (by exact aP5 _) (by omega) rfl)<|Dd (by exact aA rfl rfl call143 rfl (hd _))<|Dd cZ<|Zz ?_;refine Cn ?_ ?_<;>intro hc2
    ·exact absurd (aPQ hc2) hd0
    refine aC<|Rg<|Dd aE<|Dd (by exact bZ rfl rfl rfl (show IntKind.i64.wrap ((i:Int)+1)=((i+1:Nat):Int)by rw[kK (by omega) (by omega)];omega))<|Da ?_;refine⟨i+1,⟨by omega,by omega,fun k hk z hz=>?_⟩,by omega,Wk⟩;by_cases e:k=i
    ·subst e;rw[hy]at hz;cases hz;exact hu
    exact hall k (by omega) z hz
   cases hc1
  have hu:DB y=false:=by cases e:DB y;rfl;exact absurd e hu
  have hd:=fun H=>aF2 bb (fun h=>by rw[hiff.1 h]at hu;cases hu) H;rw[hbb]at hd;rw[aIL hy hu];refine Sq<|Sr<|Dd aE<|Dd aE<|Dd (jV underlying9)<|Dd (by exact cS.eqv (qC rfl rfl rfl) (show AV.pv (.bool (decide ((i:Int)<(s.size:Int))))=bv true by rw[decide_eq_true (by omega)]))<|Dd aE<|On aE<|On (by exact cS.eqv (qC rfl rfl rfl) (show AV.pv (.bool (decide ((i:Int)<16)))=bv true by rw[decide_eq_true (by omega)]))<|Dd cG<|Zz ?_;refine Cn ?_ ?_<;>intro hc3
  ·refine aC<|Sq<|aG<|Sr<|Dd aE<|Dd aE<|Dd (by exact dO rfl underlying9 rfl rfl (by omega) (by exact aP5 _) (by omega) rfl)<|Dd (by exact aA rfl rfl call143 rfl (hd _))<|Dd cZ<|Zz ?_;refine Cn ?_ ?_<;>intro hc4
   ·exact Sr<|Dd aL<|Zz<|aB<|Rt<|Qq
   (have h:=aPR hc4;exact absurd (by decide) h)
  cases hc3
 have hend:=aIM (s:=s) (fun k hk y hy=>by
  have:=(aPY.1 hy).1;rw[hsl]at this;exact hall k (by omega) y hy)
 have hI:decide ((s.size:Int)=16)=decide (s.size=16):=by
  congr 1;exact propext ⟨fun h=>by omega,fun h=>by omega⟩
 rw[hend];by_cases h7:i<s.size
 ·refine Sq<|Sr<|Dd aE<|Dd aE<|Dd (jV underlying9)<|Dd (by exact cS.eqv (qC rfl rfl rfl) (show AV.pv (.bool (decide ((i:Int)<(s.size:Int))))=bv true by rw[decide_eq_true (by omega)]))<|Dd aE<|On aE<|On (by exact cS.eqv (qC rfl rfl rfl) (show AV.pv (.bool (decide ((i:Int)<16)))=bv false by rw[decide_eq_false (by omega)]))<|Dd cG<|Zz ?_;refine Cn ?_ ?_<;>intro hc5
  ·cases hc5
  exact aY<|Sr<|Dd aE<|Dd (jV underlying9)<|Dd (by exact cS.eqv (fO rfl rfl rfl) (show AV.pv (.bool (decide ((s.size:Int)=16)))=bv (decide (s.size=16))by rw[hI]))<|Dd aL<|Zz<|aB<|Rt<|Qq
 refine Sq<|Sr<|Dd aE<|Dd aE<|Dd (jV underlying9)<|Dd (by exact cS.eqv (qC rfl rfl rfl) (show AV.pv (.bool (decide ((i:Int)<(s.size:Int))))=bv false by rw[decide_eq_false (by omega)]))<|Dd aE<|Fo<|Fo<|Dd cG<|Zz ?_;refine Cn ?_ ?_<;>intro hc6
 ·cases hc6
 exact aY<|Sr<|Dd aE<|Dd (jV underlying9)<|Dd (by exact cS.eqv (fO rfl rfl rfl) (show AV.pv (.bool (decide ((s.size:Int)=16)))=bv (decide (s.size=16))by rw[hI]))<|Dd aL<|Zz<|aB<|Rt<|Qq
end Go.Proofs.YtmdicgjnmfolfaaGreatDoor
namespace Go.Proofs.YtmdicgjnmfolfaaGreatDoor
open Go.Proofs.Tryz
open Go.Abs
theorem B7(l:List ByteArray)(H:aH)(hl:D6 l):aI Tryz.prog 75 [.pv (bA l)] H (fun r H'=>r=bv (l.all isJ)/\H'=H):=by
 refine Pu ?_;obtain ⟨hl1,hl2⟩:=hl;have hml:(l.map encStr).length=l.length:=aPU _;refine Bd func75 rfl ntmps75<|Sr<|Dd aL<|Zz<|Sq<|Sr<|Dd aL<|Zz<|aG ?_;refine bT (σ:=Nat) (fun k=>([(0,.pv (bA l)),(3,iv (k:Int))],[])) (fun k=>k<=l.length/\∀j,j<k->∀b,l[j]?=some b->isJ b=true) (fun k=>l.length - k) 0 ⟨by omega,by omega⟩ ?_ ?_
 ·exact Wk
 rintro k ⟨hk,hno⟩;refine Sq<|Sr<|Dd aE<|Dd aE<|Dd (fE aD)<|Dd cZ<|Zz ?_;refine Cn ?_ ?_<;>intro hc1
 ·have hlt:k<l.length:=by have:=aPQ hc1;omega
  obtain ⟨s,hs⟩:=aU hlt;have hi:=cJ (f:=encStr) hs;have hsz:=hl2 s (aP4 hs);have hic:=fun H=>aJL s (by omega) H;have hnot:=fun h=>AM (p:=isJ) hs h;refine aC<|Sq<|aG<|Sr<|Dd aE<|Dd aE<|Dd (by exact bP rfl cB rfl rfl (by omega) (by exact aP5 _) hi rfl)<|Dd (iJ isAgg9 (hi:=hi))<|Dd (by exact aA rfl rfl call128 rfl (hic _))<|Dd iQ<|Zz ?_;refine Cn ?_ ?_<;>intro hc2
  ·have hb:=not_not hc2;rw[hnot hb];exact Sr<|Dd aL<|Zz<|aB<|Rt<|Qq
  have hb:=qJ hc2;refine aC<|Rg<|Dd aE<|Dd (by exact bZ rfl rfl rfl (show IntKind.i64.wrap ((k:Int)+1)=((k+1:Nat):Int)by rw[kK (by omega) (by omega)];omega))<|Da ?_;exact⟨k+1,⟨by omega,rB hno hs hb⟩,by omega,Wk⟩
 have hge:k=l.length:=by have:=aPR hc1;omega
 subst hge;rw[vK hno];exact aY<|Sr<|Dd aL<|Zz<|aB<|Rt<|Qq
theorem aDI(s:GSeal)(H:aH)(hs:rG s):aI Tryz.prog 84 [av (gW s)] H (fun r H'=>r=bv (oI s)/\H'=H):=by
 refine aI.pure ?_ (by simp[gW]) H;obtain ⟨_,⟨h1,_⟩,h2,_⟩:=hs;have m1:(s.sig.map encStr).length=s.sig.length:=aPU _;have m2:(s.path.map encStr).length=s.path.length:=aPU _;have hX:oI s=((decide (s.idx=0)&&decide (((s.sig.map encStr).length:Int)=0))&&decide (((s.path.map encStr).length:Int)=0)):=by
  rw[oI,Bool.and_assoc];congr 1;rw[<-Bool.decide_and];congr 1;exact propext ⟨fun h=>by omega,fun h=>by omega⟩
 refine Bd func84 rfl ntmps84<|Sr<|Dd (by exact cD (id:=1) rfl rfl rfl rfl rfl)<|Dd aL<|Zz<|Sq ?_;refine aT (t:=2) (n:=18) (X:=oI s) ?_ ?_
 ·all_goals refine Dd (aS jG) ?_
  all_goals refine Dd (bC isAgg3)<|Dd cK<|Dm ?_
  all_goals refine Sp 6 (fun h6=>?_) fun h6=>?_
  all_goals try contradiction
  all_goals first|refine Fo<|Fo<|Fo<|Fo ?_|refine On (aS iS)<|On (bC aF)<|On (fE aD)<|On cK ?_
  all_goals refine Dd cG<|Dm ?_
  all_goals refine Sp 12 (fun h12=>?_) fun h12=>?_
  all_goals try contradiction
  all_goals first|refine Fo<|Fo<|Fo<|Fo ?_|refine On (aS mN)<|On (bC aF)<|On (fE aD)<|On cK ?_
  all_goals refine Dd cG<|Da ?_
  all_goals(exact⟨⟨_,rfl,by first|(rw[hX,h6];rfl)|(rw[hX,h6,h12];rfl)⟩,rfl,rfl,rfl⟩)
 exact aB<|Rt<|Qq
theorem M5(s:GSeal)(H:aH)(hs:rG s):aI Tryz.prog 77 [av (gW s)] H (fun r H'=>r=bv (gN s)/\H'=H):=by
 refine aI.pure ?_ (by simp[gW]) H;have hz:=fun H=>aDI s H hs;obtain ⟨⟨i1,i2⟩,h1,h2⟩:=hs;have hd1:=fun H=>B7 s.sig H h1;have hd2:=fun H=>B7 s.path H h2;have hI:decide (s.idx<256)=decide (s.idx<=255):=by
  congr 1;exact propext ⟨fun h=>by omega,fun h=>by omega⟩
 have hX:gN s=(oI s||(((((decide (0<=s.idx)&&decide (s.idx<=255))&&decide (((s.sig.map encStr).length:Int)=18))&&decide (((s.path.map encStr).length:Int)<=8))&&s.sig.all isJ)&&s.path.all isJ)):=by rw[gN,hI]
 obtain ⟨z,hzz⟩:∃z,z=oI s:=⟨_,rfl⟩;obtain ⟨d1,hdd1⟩:∃d,d=s.sig.all isJ:=⟨_,rfl⟩;obtain ⟨d2,hdd2⟩:∃d,d=s.path.all isJ:=⟨_,rfl⟩;rw[<-hzz]at hz hX;rw[<-hdd1]at hd1 hX;rw[<-hdd2]at hd2 hX;clear hzz hdd1 hdd2;refine Bd func77 rfl ntmps77<|Sr<|Dd (by exact cD (id:=1) rfl rfl rfl rfl rfl)<|Dd aL<|Zz<|Sq ?_;refine aT (t:=2) (n:=41) (X:=gN s) ?_ ?_
 ·all_goals refine Dd (by exact aM rfl eC sizeOf25 rfl rfl rfl rfl (by simp only[Zl,encStr];rfl) rfl) ?_
  all_goals refine Dd (by exact aA rfl rfl call84 rfl (hz _))<|Dm ?_
  all_goals refine Sp 5 (fun h5=>?_) fun h5=>?_
  all_goals try contradiction
  all_goals first|refine Fo<|Fo<|Fo<|Fo ?_|refine On (aS jG)<|On (bC isAgg3)<|On DD<|On aE ?_
  all_goals(first|refine Sp 9 (fun h9=>?_) fun h9=>?_|refine jX (t:=9) rfl ?_)
  all_goals try contradiction
  all_goals first|refine Fo ?_|refine Fu ?_|refine On (aS jG) ?_
  all_goals first|refine Fo ?_|refine Fu ?_|refine On (bC isAgg3) ?_
  all_goals first|refine Fo ?_|refine Fu ?_|refine On GQ ?_
  all_goals first|refine Fo<|Fo ?_|refine On cG<|On aE ?_
  all_goals(first|refine Sp 14 (fun h14=>?_) fun h14=>?_|refine jX (t:=14) rfl ?_)
  all_goals try contradiction
  all_goals first|refine Fo ?_|refine Fu ?_|refine On (aS iS) ?_
  all_goals first|refine Fo ?_|refine Fu ?_|refine On (bC aF) ?_
  all_goals first|refine Fo ?_|refine Fu ?_|refine On (fE aD) ?_
  all_goals first|refine Fo ?_|refine Fu ?_|refine On cK ?_
  all_goals first|refine Fo<|Fo ?_|refine On cG<|On aE ?_
  all_goals(first|refine Sp 20 (fun h20=>?_) fun h20=>?_|refine jX (t:=20) rfl ?_)
  all_goals try contradiction
  all_goals first|refine Fo ?_|refine Fu ?_|refine On (aS mN) ?_
  all_goals first|refine Fo ?_|refine Fu ?_|refine On (bC aF) ?_
  all_goals first|refine Fo ?_|refine Fu ?_|refine On (fE aD) ?_
  all_goals first|refine Fo ?_|refine Fu ?_|refine On GQ ?_
  all_goals first|refine Fo<|Fo ?_|refine On cG<|On aE ?_
  all_goals(first|refine Sp 26 (fun h26=>?_) fun h26=>?_|refine jX (t:=26) rfl ?_)
  all_goals try contradiction
  all_goals first|refine Fo ?_|refine Fu ?_|refine On (aS iS) ?_
  all_goals first|refine Fo ?_|refine Fu ?_|refine On (bC aF) ?_
  all_goals first|refine Fo ?_|refine Fu ?_|refine On (by exact aA rfl rfl aPE rfl (hd1 _)) ?_
  all_goals first|refine Fo<|Fo ?_|refine On cG<|On aE ?_
  all_goals(first|refine Sp 31 (fun h31=>?_) fun h31=>?_|refine jX (t:=31) rfl ?_)
  all_goals try contradiction
  all_goals first|refine Fo ?_|refine Fu ?_|refine On (aS mN) ?_
  all_goals first|refine Fo ?_|refine Fu ?_|refine On (bC aF) ?_
  all_goals first|refine Fo ?_|refine Fu ?_|refine On (by exact aA rfl rfl aPE rfl (hd2 _)) ?_
  all_goals first|refine Fo ?_|refine On cG ?_
  all_goals refine Dd cG<|Da ?_
  all_goals(exact⟨⟨_,rfl,by(rw[hX];simp only[*,Bool.true_and,Bool.false_and,Bool.true_or,Bool.false_or,Bool.and_true,Bool.and_false])⟩,rfl,rfl,rfl⟩)
 exact aB<|Rt<|Qq
theorem I7{s:ByteArray}(h:s.size=0):s=sNil:=qU (by rw[List.eq_nil_of_length_eq_zero (l:=s.data.toList) (by rw[aZ];exact h)])
theorem aFx{a b:ByteArray}:a++b=sNil↔a=sNil/\b=sNil:=by
 constructor
 ·intro h;have h1:=congrArg ByteArray.size h;rw[ByteArray.size_append,show sNil.size=0 from rfl]at h1;exact⟨I7 (by omega),I7 (by omega)⟩
 rintro⟨rfl,rfl⟩;rfl
theorem aCY(p:GPriv)(H:aH):aI Tryz.prog 30 [av (jS p)] H (fun r H'=>r=bv (fG p)/\H'=H):=by
 refine aI.pure ?_ (by simp[jS]) H;have hX:fG p=(((decide (p.name=sNil)&&decide (p.reason=sNil))&&decide (((p.sources.map encStr).length:Int)=0))&&decide (((p.trace.map fM).length:Int)=0)):=by
  rw[fG,Bool.and_assoc (decide (p.name=sNil)&&decide (p.reason=sNil))];congr 1
  ·rw[<-Bool.decide_and];congr 1;exact propext aFx
  rw[<-Bool.decide_and];congr 1;exact propext ⟨fun h=>by omega,fun h=>by omega⟩
 refine Bd func30 rfl ntmps30<|Sr<|Dd (by exact cD (id:=1) rfl rfl rfl rfl rfl)<|Dd aL<|Zz<|Sq ?_;refine aT (t:=2) (n:=24) (X:=fG p) ?_ ?_
 ·all_goals refine Dd (aS wV) ?_
  all_goals refine Dd (bC isAgg9)<|Dd zE<|Dm ?_
  all_goals refine Sp 6 (fun h6=>?_) fun h6=>?_
  all_goals try contradiction
  all_goals first|refine Fo<|Fo<|Fo ?_|refine On (aS wU)<|On (bC isAgg9)<|On zE ?_
  all_goals refine Dd cG<|Dm ?_
  all_goals refine Sp 11 (fun h11=>?_) fun h11=>?_
  all_goals try contradiction
  all_goals first|refine Fo<|Fo<|Fo<|Fo ?_|refine On (aS qQ)<|On (bC aF)<|On (fE aD)<|On cK ?_
  all_goals refine Dd cG<|Dm ?_
  all_goals refine Sp 17 (fun h17=>?_) fun h17=>?_
  all_goals try contradiction
  all_goals first|refine Fo<|Fo<|Fo<|Fo ?_|refine On (aS lS)<|On (bC eT)<|On (fE dI)<|On cK ?_
  all_goals refine Dd cG<|Da ?_
  all_goals(exact⟨⟨_,rfl,by(rw[hX];simp only[*,Bool.true_and,Bool.false_and,Bool.and_true,Bool.and_false])⟩,rfl,rfl,rfl⟩)
 exact aB<|Rt<|Qq
def st1(c:UInt8):ByteArray:=⟨#[c]⟩
def aJR(c:UInt8):GObj:=⟨st1 c,1,(c.toNat:Int),0,[],[]⟩
def cs3:List UInt8:=[97,98,99]
def aNr:GObj:=⟨st1 119,2,0,0,cs3.map st1,[]⟩
def s0:List GObj:=cs3.map aJR++[aNr]
def x1:List GObj:=cs3.map aJR++[⟨st1 118,2,0,0,[st1 98,st1 99],[]⟩,⟨st1 119,2,0,0,[st1 97,st1 98],[]⟩]
end Go.Proofs.YtmdicgjnmfolfaaGreatDoor
section
namespace Go.Proofs.YtmdicgjnmfolfaaGreatDoor
open Go.Proofs.Tryz
open Go.Abs
structure M3 where
 k:ByteArray
 b:ByteArray
 o:ByteArray
 t:ByteArray
end Go.Proofs.YtmdicgjnmfolfaaGreatDoor
namespace Go.Abs

end Go.Abs
namespace Go.Proofs.YtmdicgjnmfolfaaGreatDoor
open Go.Proofs.Tryz
open Go.Abs

end Go.Proofs.YtmdicgjnmfolfaaGreatDoor
end
namespace Go.Proofs.YtmdicgjnmfolfaaGreatDoor
open Go.Proofs.Tryz
open Go.Abs
def m1(p:M3):ByteArray×Bool:=if p.t=p.o then(p.o,false)else if p.t=p.b then(p.o,false)else if p.o=p.b then(p.t,false)else(p.b,true)
def zs(down:Bool):List Int:=if down then[2,1,0]else[0,1,2]
def aOR(m:List GObj)(down:Bool):List GObj:=(zs down).flatMap fun z=>m.filter fun o=>decide (o.kind.tdiv 2=z)
def aLC(b:List GObj)(o:GObj):Bool:=match aOQ b o.id with
 |some p=>!decide (p.kind=o.kind)||(decide (o.kind=5)&&!decide (o.refs=p.refs))
 |none=>false
def rnB(b:List GObj)(X:List ByteArray)(o:GObj):Bool:=aLC b o||o.refs.any (inB X)
def rnL(b:List GObj):List ByteArray->List GObj->List ByteArray
 |X,[]=>X
 |X,o::L=>rnL b (if rnB b X o then X++[o.id]else X) L
def aNd(a b:List GObj):List ByteArray:=rnL b [] (aOR a false)
section
section
variable{a b:List GObj}
def c1(k:GObj×GObj):GObj:=⟨k.1.id,k.1.kind,k.2.x,k.2.y,k.1.refs,k.1.tags⟩
def c2(k:GObj×GObj):GObj:=⟨k.1.id,k.1.kind,k.2.x,k.2.y,k.2.refs,k.1.tags⟩
def c3(k:GObj×GObj):GObj:=⟨k.1.id,k.1.kind,k.2.x,k.2.y,k.2.refs,k.2.tags⟩
end
end
theorem cS.valY{P:Program}{N:Nat}{o:Oper}{E:dB}{H H':aH}{b b':Bool}(h:cS P N o E H (.pv (.bool b)) H')(e:b=b'):cS P N o E H (.pv (.bool b')) H':=e▸h
end Go.Proofs.YtmdicgjnmfolfaaGreatDoor
namespace Go.Proofs.YtmdicgjnmfolfaaGreatDoor
open Go.Proofs.Tryz
section
def aJo(u:List Nat)(i:Nat):Nat:=u.getD i i
def aMF:Nat->List Nat->Nat->Nat
 |0,_,i=>i
 |n+1,u,i=>if aJo u i=i then i else aMF n u (aJo u i)
def top(u:List Nat)(i:Nat):Nat:=aMF i u i
def aO5(u:List Nat):Prop:=∀i,aJo u i<=i
def Inv(L:Nat->Nat->Prop)(f:Nat->Nat):Prop:=∀i k,L i k->f i=f k
structure Snd(L:Nat->Nat->Prop)(u:List Nat):Prop where
 ok:aO5 u
 sn:∀f,Inv L f->∀x,f (top u x)=f x
section
variable{S:Type}[DecidableEq S]
def aIS:List (S×Nat)->S->Option Nat
 | [],_=>none
 |(k,v)::r,s=>if k=s then some v else aIS r s
structure I1(L:Nat->Nat->Prop)(W:Nat->List S)(k m:Nat)(st:List Nat×List (S×Nat)):Prop where
 len:st.1.length=m
 snd:Snd L st.1
 at_:∀s j,aIS st.2 s=some j->j<m/\s∈W j
 has:∀j,j<k->∀s,s∈W j->(aIS st.2 s).isSome=true
structure I2(L:Nat->Nat->Prop)(F:List (S×Nat))(N:Nat->List S)(n k:Nat)(u:List Nat):Prop where
 len:u.length=n
 snd:Snd L u
 same:∀i,i<k->∀s,s∈N i->∀j,aIS F s=some j->top u i=top u j
end
end
def aJK(f:Nat->Nat)(n:Nat):List Nat:=(List.range n).filter fun i=>f i=i
def grp(f:Nat->Nat)(n r:Nat):List Nat:=(List.range n).filter fun j=>f j=r
def aOU(f:Nat->Nat)(n:Nat):List (List Nat):=(aJK f n).map (grp f n)
def aOq(f:Nat->Nat)(n x:Nat):Nat:=(aJK f n).idxOf (f x)
end Go.Proofs.YtmdicgjnmfolfaaGreatDoor
namespace Go.Proofs.YtmdicgjnmfolfaaGreatDoor
open Go.Proofs.Tryz
open Go.Abs
theorem WA{l:List GEdit}(h:kB l=true):0<l.length/\l.length<=200/\∀e∈l,dU e=true:=by rw[kB,aP3,aP3,aP1,aP1,aPd,List.any_eq_false]at h;obtain ⟨⟨h1,h2⟩,h3⟩:=h;exact⟨by omega,by omega,fun e he=>by have:=h3 e he;simpa using this⟩
end Go.Proofs.YtmdicgjnmfolfaaGreatDoor
namespace Go.Proofs.YtmdicgjnmfolfaaGreatDoor
open Go.Proofs.Tryz
open Go.Abs Go.Lib
theorem aKD(u:Nat):∀H,u<1000000000->aI Tryz.prog 186 [iv (u:Int)] H (fun r H'=>r=sv (ofL (decDigits u))/\H'=H):=by
 induction u using Nat.strongRecOn with
 | ind u ih =>
  intro H hu;refine Pu ?_;refine Bd func186 rfl ntmps186<|Sr<|Dd aL<|Zz<|Sq<|Sr<|Dd aE<|Dd cZ<|Zz ?_;refine Cn ?_ ?_<;>intro hc1
  ·have hl:u<10:=by have:=aPQ hc1;omega
   have h10:(⟨#[48,49,50,51,52,53,54,55,56,57]⟩:ByteArray).size=10:=rfl;have hr:(⟨#[48,49,50,51,52,53,54,55,56,57]⟩:ByteArray).extract u (u+1)=ofL (decDigits u):=by
    rw[decDigits,dif_pos hl];have h:u=0\/u=1\/u=2\/u=3\/u=4\/u=5\/u=6\/u=7\/u=8\/u=9:=by omega
    rcases h with rfl|rfl|rfl|rfl|rfl|rfl|rfl|rfl|rfl|rfl<;>rfl
   exact Sr<|Dd aE<|Dd aE<|Dd mI<|Dd (by exact cO (l:=u) (h:=u+1) rfl underlying9 rfl rfl rfl (by omega) (by omega) hr)<|Dd aL<|Zz<|aB<|Rt<|Qq
  have hl:¬ u<10:=by have:=aPR hc1;omega
  have hq:IntKind.i64.wrap ((u:Int).tdiv 10)=((u / 10:Nat):Int):=by
   rw[show (u:Int).tdiv 10=((u / 10:Nat):Int)from rfl];exact kK (by omega) (by omega)
  have hs1:(ofL (decDigits (u / 10))).size<=9:=by rw[dG];exact dX (by omega) (by decide)
  have hs2:(ofL (decDigits (u % 10))).size<=1:=by rw[dG];exact dX (by omega) (by decide)
  have hj:ofL (decDigits (u / 10))++ofL (decDigits (u % 10))=ofL (decDigits u):=eqL (by
   rw[show (ofL (decDigits (u / 10))++ofL (decDigits (u % 10))).data.toList=(ofL (decDigits (u / 10))).data.toList++(ofL (decDigits (u % 10))).data.toList by simp,dC,dC,dC];rw[show decDigits u=decDigits (u / 10)++[UInt8.ofNat (48+u % 10)]by rw[decDigits,dif_neg hl]];congr 1;rw[decDigits,dif_pos (by omega)])
  exact aC<|Sr<|Dd aE<|Dd (by exact zK rfl rfl rfl (by decide) hq)<|Dd (by exact aA rfl rfl DH rfl (ih (u / 10) (by omega) _ (by omega)))<|Dd aE<|Dd (by exact wB rfl rfl rfl (by decide) (rfl:(u:Int).tmod 10=((u % 10:Nat):Int)))<|Dd (by exact aA rfl rfl DH rfl (ih (u % 10) (by omega) _ (by omega)))<|Dd (by exact cH rfl rfl rfl (by omega) hj)<|Dd aL<|Zz<|aB<|Rt<|Qq
theorem yF{ws:List ByteArray}{k:Nat}{w:ByteArray}(h:ws[k]?=some w):ofL (bU [32] (bs (ws.take (k+1))))=(if 0<k then ofL (bU [32] (bs (ws.take k)))++⟨#[32]⟩else ofL (bU [32] (bs (ws.take k))))++w:=by
 have hk:=(aPY.1 h).1;refine eqL ?_;rw[List.take_add_one,h,Option.toList_some,bs,List.map_append];cases k with
 |zero =>
  rw[aPS (by omega),List.take_zero];simp[bU,bs,ofL]
 | succ k =>
  rw[aPT (by omega)];cases ws with
  |nil=>cases hk
  |cons x l =>
   rw[List.take_succ_cons];simp[ofL,bs,bU]
theorem CJ(ws:List ByteArray)(H:aH)(hb:cY ws+ws.length<1099511627776):aI Tryz.prog 185 [.pv (bA ws)] H (fun r H'=>r=sv (ofL (bU [32] (bs ws)))/\H'=H):=by
 refine Pu ?_;have hmw:(ws.map encStr).length=ws.length:=aPU _;refine Bd func185 rfl ntmps185<|Sr<|Dd aL<|Zz<|Sr<|Dd aL<|Zz<|Sq<|Sr<|Dd aL<|Zz<|aG ?_;refine bT (σ:=Nat) (fun k=>([(0,.pv (bA ws)),(3,sv (ofL (bU [32] (bs (ws.take k))))),(4,iv (k:Int))],[])) (fun k=>k<=ws.length) (fun k=>ws.length - k) 0 (aPb _) ?_ ?_
 ·exact Wk
 rintro k hk;have hsz:(ofL (bU [32] (bs (ws.take k)))).size<=cY ws+ws.length:=by
  rw[dG];have h1:=eZ (ws.take k);have h2:=mA ws k;have h3:(ws.take k).length<=ws.length:=by rw[aP8];exact Nat.min_le_right _ _
  omega
 refine Sq<|Sr<|Dd aE<|Dd aE<|Dd (fE aD)<|Dd cZ<|Zz ?_;refine Cn ?_ ?_<;>intro hc1
 ·have hlt:k<ws.length:=by have:=aPQ hc1;omega
  obtain ⟨w,hw⟩:=aU hlt;have hiw:=cJ (f:=encStr) hw;have hnx:=yF hw;have hws:w.size<=cY ws:=by
   have h1:=tW hw;have h2:=mA ws (k+1);omega
  have h32:(⟨#[32]⟩:ByteArray).size=1:=rfl;have hs2:(ofL (bU [32] (bs (ws.take k)))++⟨#[32]⟩).size=(ofL (bU [32] (bs (ws.take k)))).size+1:=by rw[ByteArray.size_append];rfl
  refine aC<|Sq<|aG<|Sq<|Sr<|Dd aE<|Dd iE<|Zz ?_;refine Cn ?_ ?_<;>intro hc2
  ·have hq:0<k:=by have:=aPQ hc2;omega
   rw[aPT hq]at hnx;refine Rg<|Dd aE<|Dd (by exact cH rfl rfl rfl (by omega) rfl)<|Dd aL<|Zz<|Rg<|Dd aE<|Dd aE<|Dd aE<|Dd (mE cB)<|Dd (iJ isAgg9)<|Dd (by exact cH rfl rfl rfl (by omega) rfl)<|Dd aL<|Zz<|Rg<|Dd aE<|Dd mI<|Da ?_;refine⟨k+1,by omega,by omega,?_⟩;rw[hnx];exact Wk
  have hq:¬ 0<k:=by have:=aPR hc2;omega
  rw[aPS hq]at hnx;refine aC<|Rg<|Dd aE<|Dd aE<|Dd aE<|Dd (mE cB)<|Dd (iJ isAgg9)<|Dd (by exact cH rfl rfl rfl (by omega) rfl)<|Dd aL<|Zz<|Rg<|Dd aE<|Dd mI<|Da ?_;refine⟨k+1,by omega,by omega,?_⟩;rw[hnx];exact Wk
 have hge:k=ws.length:=by have:=aPR hc1;omega
 subst hge;rw[List.take_length];exact aY<|Sr<|Dd aE<|Dd aL<|Zz<|aB<|Rt<|Qq
end Go.Proofs.YtmdicgjnmfolfaaGreatDoor
namespace Go.Proofs.YtmdicgjnmfolfaaGreatDoor
open Go.Proofs.Tryz
open Go.Abs
theorem szW(w:List UInt8):(⟨w.toArray⟩:ByteArray).size=w.length:=by rw[<-aZ]
theorem CE(w:List UInt8)(t:ByteArray):(⟨w.toArray⟩:ByteArray)++t=⟨(w++t.data.toList).toArray⟩:=qU (by simp)
theorem HB(s:ByteArray)(H:aH)(hs:s.size<17592186044416):aI Tryz.prog 187 [sv s] H (fun r H'=>r=sv ⟨(eD s.data.toList).toArray⟩/\H'=H):=by
 refine Pu ?_;have hsl:=aZ s;refine Bd func187 rfl ntmps187<|Sr<|Dd aL<|Zz<|Sr<|Dd aL<|Zz<|Sr<|Dd aL<|Zz<|Sq<|Sr<|Dd aL<|Zz<|aG ?_;refine IG (fun(i f:Nat) (w:List UInt8)=>([(0,sv s),(3,sv ⟨w.toArray⟩),(4,iv (f:Int)),(5,iv (i:Int))],[])) (fun i f w=>f<=i/\i<=s.size/\w.length<=(jT s i).length/\w++(s.data.toList.drop f).take (i - f)=jT s i) (fun i f w=>s.size - i) 0 0 [34] ⟨aP0 _,aPb _,aP0 _,rfl⟩ ?_ ?_
 ·exact E0
 rintro i f w ⟨hf,hi,hwl,hinv⟩;have hq:=UZ (s:=s) (k:=i) hs;have hsw:=szW w;refine Sq<|Sr<|Dd aE<|Dd aE<|Dd (jV underlying9)<|Dd cZ<|Zz ?_;refine Cn ?_ ?_<;>intro hc1
 ·have hlt:i<s.size:=by have:=aPQ hc1;omega
  have hnx:=PR hlt;have hexl:=hV s f i;have hcat:(⟨w.toArray⟩:ByteArray)++s.extract f i=⟨(jT s i).toArray⟩:=by rw[CE,hexl,hinv]
  have hsq:=szW (jT s i);have hcat2:(⟨(jT s i).toArray⟩:ByteArray)++⟨#[92,110]⟩=⟨(jT s i++[92,110]).toArray⟩:=by rw[CE]
  have hcat3:(⟨(jT s i).toArray⟩:ByteArray)++⟨#[92]⟩=⟨(jT s i++[92]).toArray⟩:=by rw[CE]
  have hxs:=mH s f i;refine aC<|Sq<|aG<|Sr<|Dd aE<|Dd aE<|Dd (by exact dO rfl underlying9 rfl rfl (by omega) (by exact aP5 _) (by omega) rfl)<|Dd cK<|Zz ?_;refine Cn ?_ ?_<;>intro hc2
  ·have hb:wJ s i=10:=aPQ (JR (n:=10) (by decide) hc2);have he:nN (wJ s i)=[92,110]:=by rw[nN,aPT hb]
   rw[he]at hnx;refine Sr<|Dd aE<|Dd aE<|Dd aE<|Dd aE<|Dd (by exact cO (l:=f) (h:=i) rfl underlying9 rfl rfl rfl (by omega) (by omega) rfl)<|Dd (by exact cH rfl rfl rfl (by omega) hcat)<|Dd (by exact cH rfl rfl rfl (by show (⟨(jT s i).toArray⟩:ByteArray).size+2<=_;omega) hcat2)<|Dd aL<|Zz<|Rg<|Dd aE<|Dd mI<|Dd aL<|Zz<|Rg<|Dd aE<|Dd mI<|Da ?_;refine⟨i+1,i+1,jT s i++[92,110],⟨aP0 _,hlt,by rw[hnx];exact aP0 _,by rw[hnx,Nat.sub_self,List.take_zero,List.append_nil]⟩,by omega,E0⟩
  have hb10:¬ wJ s i=10:=aPR (JR (n:=10) (by decide) hc2);refine Sq ?_;refine aT (t:=34) (n:=11) (X:=decide (cP s i=34)||decide (cP s i=92)) ?_ ?_
  ·all_goals refine Dd aE ?_
   all_goals refine Dd aE<|Dd (by exact dO rfl underlying9 rfl rfl (by omega) (by exact aP5 _) (by omega) rfl)<|Dd cK<|Dm ?_
   all_goals refine Sp 29 (fun h29=>?_) fun h29=>?_
   all_goals try contradiction
   all_goals first|refine Fo<|Fo<|Fo<|Fo ?_|refine On aE<|On aE<|On (by exact dO rfl underlying9 rfl rfl (by omega) (by exact aP5 _) (by omega) rfl)<|On cK ?_
   all_goals refine Dd cG<|Zz ?_
   all_goals(exact⟨⟨_,rfl,by(rw[h29];rfl)⟩,rfl,rfl,rfl⟩)
  refine Cn ?_ ?_<;>intro hc3
  ·have hb:wJ s i=34\/wJ s i=92:=by
    rw[Bool.or_eq_true]at hc3;rcases hc3 with h|h
    ·exact .inl (aPQ (JR (n:=34) (by decide) h))
    exact .inr (aPQ (JR (n:=92) (by decide) h))
   have he:nN (wJ s i)=[92,wJ s i]:=by rw[nN,aPS hb10,aPT hb]
   rw[he]at hnx;refine Sr<|Dd aE<|Dd aE<|Dd aE<|Dd aE<|Dd (by exact cO (l:=f) (h:=i) rfl underlying9 rfl rfl rfl (by omega) (by omega) rfl)<|Dd (by exact cH rfl rfl rfl (by omega) hcat)<|Dd (by exact cH rfl rfl rfl (by show (⟨(jT s i).toArray⟩:ByteArray).size+1<=_;omega) hcat3)<|Dd aL<|Zz<|Rg<|Dd aE<|Dd aL<|Zz<|Rg<|Dd aE<|Dd mI<|Da ?_;refine⟨i+1,i,jT s i++[92],⟨Nat.le_succ _,hlt,by rw[hnx,aPV,aPV];exact Nat.add_le_add_left (by show 1<=2;omega) _,by rw[hnx,Nat.add_sub_cancel_left,GC hlt,List.append_assoc];rfl⟩,by omega,E0⟩
  have hb:¬ (wJ s i=34\/wJ s i=92):=by
   rw[aPg]at hc3;rintro(h|h)
   ·exact absurd h (aPR (JR (n:=34) (by decide) hc3.1))
   exact absurd h (aPR (JR (n:=92) (by decide) hc3.2))
  have he:nN (wJ s i)=[wJ s i]:=by rw[nN,aPS hb10,aPS hb]
  rw[he]at hnx;have htk:(s.data.toList.drop f).take (i+1 - f)=(s.data.toList.drop f).take (i - f)++[wJ s i]:=by
   have e1:i+1 - f=(i - f)+1:=by omega
   have e2:(s.data.toList.drop f)[i - f]?=some (wJ s i):=by
    rw[List.getElem?_drop,show f+(i - f)=i by omega];have hd:=GC hlt;exact(MU hd).1
   rw[e1,List.take_add_one,e2];rfl
  refine aC<|Rg<|Dd aE<|Dd mI<|Da ?_;refine⟨i+1,f,w,⟨by omega,hlt,by rw[hnx,aPV];omega,by rw[htk,<-List.append_assoc,hinv,hnx]⟩,by omega,E0⟩
 have hge:i=s.size:=by have:=aPR hc1;omega
 subst hge;have hexl:=hV s f s.size;have hcat:(⟨w.toArray⟩:ByteArray)++s.extract f s.size=⟨(jT s s.size).toArray⟩:=by rw[CE,hexl,hinv]
 have hsq:=szW (jT s s.size);have hxs:=mH s f s.size;have hend:(⟨(jT s s.size).toArray⟩:ByteArray)++⟨#[34]⟩=⟨(eD s.data.toList).toArray⟩:=by
  rw[CE,jT,List.take_of_length_le (by omega),eD];rfl
 exact aY<|Sr<|Dd aE<|Dd aE<|Dd aE<|Dd (by exact cO (l:=f) (h:=s.size) rfl underlying9 rfl rfl rfl (by omega) (by omega) rfl)<|Dd (by exact cH rfl rfl rfl (by omega) hcat)<|Dd (by exact cH rfl rfl rfl (by show (⟨(jT s s.size).toArray⟩:ByteArray).size+1<=_;omega) hend)<|Dd aL<|Zz<|aB<|Rt<|Qq
abbrev oBx(o:GObj):Ob:=bx 6 151 ((bS o).map .pv)
def NX(l:List ByteArray):List (List AV):=l.map fun s=>[sv s]
theorem aAV(l:List ByteArray):(NX l).length=l.length:=aPU _
theorem mP(H:aH)(l:List ByteArray):∀r∈NX l,∀a∈r,Clo H a:=by intro r hr a ha;obtain ⟨x,_,rfl⟩:=List.mem_map.1 hr;rw[aPX]at ha;subst ha;simp
theorem R4{l:List ByteArray}{k:Nat}{s:ByteArray}(h:l[k]?=some s):(NX l)[k]?=some [sv s]:=by rw[NX,aPe,h];rfl
theorem aAW(l:List ByteArray)(s:ByteArray):NX l++[(encStr s).map AV.pv]=NX (l++[s]):=by rw[NX,NX,List.map_append];rfl
theorem aJx(l:List ByteArray):NX l=(l.map encStr).map (·.map .pv):=by rw[NX,List.map_map];rfl
theorem fmC{α β:Type}{f g:α->List β}:∀ {l:List α},(∀x∈l,f x=g x)->l.flatMap f=l.flatMap g
 | [],_=>rfl
 |x::l,h=>by rw[List.flatMap_cons,List.flatMap_cons,h x List.mem_cons_self,fmC fun y hy=>h y (List.mem_cons_of_mem _ hy)]
end Go.Proofs.YtmdicgjnmfolfaaGreatDoor
