/-
  Parts of the proof: rules of an abstract program logic, contracts of functions, plain laws. Conditions: each theorem's own.
-/
import Derived.Test.YtmdicgjnmfolfaaGreatDoorKR5M11
set_option linter.unusedVariables false
set_option linter.unusedSimpArgs false
set_option maxRecDepth 100000
set_option maxHeartbeats 8000000
namespace Go.Proofs
open Tryz
theorem aC1:type_of% call101:=call101
theorem S4:type_of% call19:=call19
theorem aFd:type_of% call45:=call45
theorem pT:type_of% call97:=call97
theorem aNd:type_of% call99:=call99
theorem aCU:type_of% isAgg37:=isAgg37
theorem HB:type_of% sizeOf37:=sizeOf37
end Go.Proofs
namespace Go.Proofs.YtmdicgjnmfolfaaGreatDoor
open Go.Proofs.Tryz
open Go.Abs
variable{α:Type}{i:Nat}{r x:GRec}{a b:GSeal}{s m:ByteArray}{h:Int}{ks:List ByteArray}
structure WRest where
 a:PV
 b:PV
 c:PV
 d:PV
 e:PV
def aBt(w:WRest)(ks:List ByteArray):List PV:=[w.a,aS ks,w.b,w.c,w.d,w.e]
def ckA(r:GRec)(ks:List ByteArray):Bool:=!eD r||decide (((ks.map encStr).length:Int)<=r.author)
def ckB(r:GRec)(key:ByteArray):Bool:=!decide (r.sl.idx=2*r.number - 2)||!sQ key (pA r) r.sl.idx r.sl.sig r.sl.path
def ckC(r:GRec):Bool:=gD r.priv&&!uG r.priv.sl
def ckD(r:GRec)(key:ByteArray):Bool:=!gD r.priv&&(!decide (r.priv.sl.idx=2*r.number - 1)||!sQ key (rB r) r.priv.sl.idx r.priv.sl.sig r.priv.sl.path)
def nP(r:GRec)(ks:List ByteArray):Int:=if ckA r ks=true then 1 else if ckB r (ks.getD r.author.toNat sNil)=true then 16 else if ckC r=true then 16 else if ckD r (ks.getD r.author.toNat sNil)=true then 16 else 0
theorem FA(r:GRec)(w:WRest)(ks:List ByteArray)(hr:iT r)(hp:r.parents.length<549755813888)(hk:KV ks)(H:aB):aH Tryz.prog 19 [av (bU r),av (aBt w ks)] H (fun x H'=>x=iv (nP r ks)/\H'=H):=by
 refine aH.pure ?_ (by simp[bU,aBt]) H;have hkl:(ks.map encStr).length=ks.length:=aNv _;have hks:=hk.1;have hv:=fun H=>IN r hr hp H;have hid:=fun H=>PT r hr hp H;have hckA:ckA r ks=(!eD r||decide (((ks.map encStr).length:Int)<=r.author)):=rfl;rw[nP];refine Bd func19 rfl ntmps19<|Sr<|Dd (by exact cE (id:=2) rfl rfl rfl rfl rfl)<|Dd (by exact cE (id:=3) rfl rfl rfl rfl rfl)<|Dd aM<|Zz<|Sq<|Sq ?_;refine bF (t:=17) (n:=12) (X:=ckA r ks) ?_ ?_
 ·all_goals refine Dd (rC bH aR) ?_
  all_goals refine Dd (by exact aA rfl rfl aFe rfl (hv _))<|Dd mT<|Dm ?_
  all_goals refine Sp 10 (fun h10=>?_) fun h10=>?_
  all_goals try contradiction
  all_goals first|refine Fo<|Fo<|Fo<|Fo<|Fo<|Fo ?_|refine On (bE tO)<|On (bQ isAgg3)<|On (bE SB)<|On (bQ aJ)<|On (fZ aC)<|On LN ?_
  all_goals refine Dd cN<|Zz ?_
  all_goals(exact⟨⟨_,rfl,by(rw[hckA,h10];rfl)⟩,rfl,rfl,rfl⟩)
 refine Cn ?_ ?_<;>intro hc1
 ·rw[aNu hc1];exact Sr<|Dd aM<|Zz<|aE<|Rt<|Qq
 have hA:=hc1;rw[aNt (by rw[hA];decide)];rw[hckA,aOR]at hA;have hb:=BL hA.1;have hau:=aNs hA.2;have hf:=oI hb;have hau0:=hf.au;have hnu:=hf.nu;have hme:=fun H=>PG r hr hp hb H;have hfs:=jB hf.sl;have hfp:=jB hf.psl;have i0:=hfs.i0;have i1:=hfs.i1;have q0:=hfp.i0;have q1:=hfp.i1;have hms:(rB r).size=16:=eR _;have his:=ER r;have hix:(ks.map encStr)[r.author.toNat]?=some (encStr (ks.getD r.author.toNat sNil)):=by
  rw[aOP,List.getD_eq_getElem?_getD,aOA (by omega)];rfl
 obtain ⟨key,hkey⟩:∃key,key=ks.getD r.author.toNat sNil:=⟨_,rfl⟩;rw[<-hkey]at hix |-;have hve1:=fun H=>OB key (pA r) r.sl.idx r.sl.sig r.sl.path H (by omega) (by omega) (by omega) (kK hfs).2.1.1 (kK hfs).2.2.1 (kK hfs).2.1.2 (kK hfs).2.2.2;have hve2:=fun H=>OB key (rB r) r.priv.sl.idx r.priv.sl.sig r.priv.sl.path H (by omega) (by omega) (by omega) (kK hfp).2.1.1 (kK hfp).2.2.1 (kK hfp).2.1.2 (kK hfp).2.2.2;have hem:=fun H=>aA1 r.priv hr.2.2.2.2.2 H;have hze:=fun H=>aCc r.priv.sl (kK hfp) H;have hckB:ckB r key=(!decide (r.sl.idx=2*r.number - 2)||!sQ key (pA r) r.sl.idx r.sl.sig r.sl.path):=rfl;have hckC:ckC r=(gD r.priv&&!uG r.priv.sl):=rfl;have hckD:ckD r key=(!gD r.priv&&(!decide (r.priv.sl.idx=2*r.number - 1)||!sQ key (rB r) r.priv.sl.idx r.priv.sl.sig r.priv.sl.path)):=rfl;obtain ⟨v1,hv1⟩:∃v1,v1=sQ key (pA r) r.sl.idx r.sl.sig r.sl.path:=⟨_,rfl⟩;obtain ⟨v2,hv2⟩:∃v2,v2=sQ key (rB r) r.priv.sl.idx r.priv.sl.sig r.priv.sl.path:=⟨_,rfl⟩;obtain ⟨em,hemE⟩:∃em,em=gD r.priv:=⟨_,rfl⟩;obtain ⟨ze,hzeE⟩:∃ze,ze=uG r.priv.sl:=⟨_,rfl⟩;obtain ⟨i,hi⟩:∃i,i=pA r:=⟨_,rfl⟩;obtain ⟨m,hm⟩:∃m,m=rB r:=⟨_,rfl⟩;rw[<-hv1]at hckB;rw[<-hv2]at hckD;rw[<-hemE]at hckC hckD;rw[<-hzeE]at hckC;simp only[<-hv1]at hve1;simp only[<-hv2]at hve2;simp only[<-hi]at hid hve1;simp only[<-hm]at hme hve2;simp only[<-hemE]at hem;simp only[<-hzeE]at hze;clear hv1 hv2 hemE hzeE hi hm hkey;refine aF<|Sq<|aP follows<|Cr [3] (fun _ h=>fh SB h)<|Cr [3] (fun _ h=>lh aJ h)<|Cr [2] (fun _ h=>fh tO h)<|Cr [2] (fun _ h=>lh isAgg3 h)<|Cr [] (fun H1 hH=>by exact aT rfl bT rfl rfl (by omega) (by exact aOG _) hix rfl)<|Cr [] (fun _ _=>(kS isAgg9 (hi:=hix)))<|Cr [2] (fun _ h=>fh fJ h)<|Cr [2] (fun H1 hH=>by exact aN rfl lO sizeOf28 rfl ((hH _ rfl).trans rfl) rfl rfl rfl rfl)<|Cp [6] (fun H1 hH=>by exact bM (id:=6) rfl aIa rfl ((hH _ rfl).trans rfl))<|Cr [] (fun _ _=>aM)<|Cp [6] (fun H1 hH=>by exact bX rfl sizeOf28 rfl rfl rfl rfl ((hH _ rfl).trans rfl) rfl rfl rfl)<|bK<|Kr<|Sq<|aD<|Sq ?_;refine pS (t:=26) (n:=18) (X:=ckB r key) ?_ ?_
 ·cases hg35:(!decide (r.sl.idx=2*r.number - 2):Bool)
  ·refine aP follows<|Cq (bE kM)<|Cq (bE mD)<|Cq (bQ isAgg3)<|Cq (bE pN)<|Cq (bQ isAgg3)<|Cq (by exact lH rfl rfl rfl (iY (by omega) (by omega)))<|Cq (by exact dN rfl rfl rfl (iY (by omega) (by omega)))<|Cq zW<|Cq aG<|Nf aG<|Nf (rC bH aR)<|Nf (by exact aA rfl rfl zT rfl (hid _))<|Nf (bE kM)<|Nf (rC eA sizeOf25)<|Nf (by exact aA rfl rfl call28 rfl (hve1 _))<|Nf mT<|Cq zA<|Cq aM<|bK<|Kr ?_;exact⟨rfl,⟨_,rfl,by(rw[hckB,hg35];rfl)⟩,rfl,rfl,rfl⟩
  refine aP follows<|Cq (bE kM)<|Cq (bE mD)<|Cq (bQ isAgg3)<|Cq (bE pN)<|Cq (bQ isAgg3)<|Cq (by exact lH rfl rfl rfl (iY (by omega) (by omega)))<|Cq (by exact dN rfl rfl rfl (iY (by omega) (by omega)))<|Cq zW<|Cq aG<|Of<|Of<|Of<|Of<|Of<|Of<|Of<|Cq NE<|Cq aM<|bK<|Kr ?_;exact⟨rfl,⟨_,rfl,by(rw[hckB,hg35];rfl)⟩,rfl,rfl,rfl⟩
 refine Cn ?_ ?_<;>intro hc2
 ·rw[aNu hc2];exact Sr<|Dd aM<|Zz<|aE<|Rt<|Qq
 rw[aNt (by rw[hc2];decide)];refine Sq ?_;refine bF (t:=44) (n:=10) (X:=ckC r) ?_ ?_
 ·all_goals refine Dd (rC lO sizeOf28) ?_
  all_goals refine Dd (by exact aA rfl rfl S1 rfl (hem _))<|Dm ?_
  all_goals refine Sp 47 (fun h47=>?_) fun h47=>?_
  all_goals try contradiction
  all_goals first|refine Fo<|Fo<|Fo<|Fo ?_|refine On (bE oV)<|On (rC eA sizeOf25)<|On (by exact aA rfl rfl call81 rfl (hze _))<|On mT ?_
  all_goals refine Dd cN<|Da ?_
  all_goals(exact⟨⟨_,rfl,by(rw[hckC,h47];rfl)⟩,rfl,rfl,rfl⟩)
 refine Cn ?_ ?_<;>intro hc3
 ·rw[aNu hc3];exact Sr<|Dd aM<|Zz<|aE<|Rt<|Qq
 rw[aNt (by rw[hc3];decide)];refine Sq ?_;refine pS (t:=53) (n:=23) (X:=ckD r key) ?_ ?_
 ·cases hg57:(!em:Bool)
  ·refine aP follows<|Cq (rC lO sizeOf28)<|Cq (by exact aA rfl rfl S1 rfl (hem _))<|Cq mT<|Cq aG<|Ot<|Ot<|Ot<|Ot<|Ot<|Ot<|Ot<|Ot<|Ot<|Ou<|Ou<|Ou<|Ou<|Ou<|Ou<|Ou<|Ot<|Cq zA<|Cq aM<|bK<|Kr ?_;exact⟨rfl,⟨_,rfl,by(rw[hckD,hg57];rfl)⟩,rfl,rfl,rfl⟩
  cases hg66:(!decide (r.priv.sl.idx=2*r.number - 1):Bool)
  ·refine aP follows<|Cq (rC lO sizeOf28)<|Cq (by exact aA rfl rfl S1 rfl (hem _))<|Cq mT<|Cq aG<|Nt (bE oV)<|Nt (bE mD)<|Nt (bQ isAgg3)<|Nt (bE pN)<|Nt (bQ isAgg3)<|Nt (by exact lH rfl rfl rfl (iY (by omega) (by omega)))<|Nt (by exact dN rfl rfl rfl (iY (by omega) (by omega)))<|Nt zW<|Nt aG<|Nf aG<|Nf (rC bH aR)<|Nf (by exact aA rfl rfl call82 rfl (hme _))<|Nf (bE oV)<|Nf (rC eA sizeOf25)<|Nf (by exact aA rfl rfl call28 rfl (hve2 _))<|Nf mT<|Nt zA<|Cq NE<|Cq aM<|bK<|Kr ?_;exact⟨rfl,⟨_,rfl,by(rw[hckD,hg57,hg66];rfl)⟩,rfl,rfl,rfl⟩
  refine aP follows<|Cq (rC lO sizeOf28)<|Cq (by exact aA rfl rfl S1 rfl (hem _))<|Cq mT<|Cq aG<|Nt (bE oV)<|Nt (bE mD)<|Nt (bQ isAgg3)<|Nt (bE pN)<|Nt (bQ isAgg3)<|Nt (by exact lH rfl rfl rfl (iY (by omega) (by omega)))<|Nt (by exact dN rfl rfl rfl (iY (by omega) (by omega)))<|Nt zW<|Nt aG<|Of<|Of<|Of<|Of<|Of<|Of<|Of<|Nt NE<|Cq NE<|Cq aM<|bK<|Kr ?_;exact⟨rfl,⟨_,rfl,by(rw[hckD,hg57,hg66];rfl)⟩,rfl,rfl,rfl⟩
 refine Cn ?_ ?_<;>intro hc4
 ·rw[aNu hc4];exact Sr<|Dd aM<|Zz<|aE<|Rt<|Qq
 rw[aNt (by rw[hc4];decide)];exact aF<|Sr<|Dd aM<|Zz<|aE<|Rt<|Qq
def N3(l:List ByteArray):List PV:=[aS l]
def Q5(ls:List (List ByteArray)):PV:=.sl (ls.map N3)
def XE(l:List GRec):PV:=.sl (l.map bU)
def lsOk(l:List ByteArray):Bool:=decide (l.length<=30)&&l.all fun s=>decide (s.size<=300)
theorem MT{l:List α}{p:α->Bool}(h:∀j,j<l.length->∀b,l[j]?=some b->p b=true):l.all p=true:=by rw[List.all_eq_true];intro b hb;obtain ⟨j,hj⟩:=aOQ.1 hb;exact h j (aNz.1 hj).1 b hj
theorem SV{l:List α}{p:α->Bool}{b:α}(hb:l[i]?=some b)(h:p b=false):l.all p=false:=by rw[List.all_eq_false];exact⟨b,aOF hb,by rw[h];decide⟩
theorem FW{l:List α}{p:α->Bool}{x:α}(h:∀j,j<i->∀b,l[j]?=some b->p b=true)(hx:l[i]?=some x)(hp:p x=true):∀j,j<i+1->∀b,l[j]?=some b->p b=true:=by
 intro j hj b hb;by_cases e:j=i
 ·subst e;rw[hx]at hb;cases hb;exact hp
 exact h j (by omega) b hb
theorem PH(ls:List (List ByteArray))(H:aB)(hl:ls.length<1099511627776)(hs:∀l∈ls,l.length<1099511627776):aH Tryz.prog 106 [.pv (Q5 ls)] H (fun r H'=>r=bv (ls.all lsOk)/\H'=H):=by
 refine Pu ?_;have hml:(ls.map N3).length=ls.length:=aNv _;refine Bd func106 rfl ntmps106<|Sr<|Dd aM<|Zz<|Sq<|Sr<|Dd aM<|Zz<|aD ?_;refine bL (σ:=Nat) (fun k=>([(0,.pv (Q5 ls)),(3,iv (k:Int))],[])) (fun k=>k<=ls.length/\∀j,j<k->∀b,ls[j]?=some b->lsOk b=true) (fun k=>ls.length - k) 0 ⟨by omega,by omega⟩ ?_ ?_
 ·exact Wk
 rintro k ⟨hk,hno⟩;refine Sq<|Sr<|Dd aG<|Dd aG<|Dd (fZ DK)<|Dd cP<|Zz ?_;refine Cn ?_ ?_<;>intro hc1
 ·have hlt:k<ls.length:=by have:=aNr hc1;omega
  obtain ⟨l,hl1⟩:=aV hlt;have hi:=cA (f:=N3) hl1;have hll:=hs l (aOF hl1);have hmm:(l.map encStr).length=l.length:=aNv _;have hnot:=fun h=>SV (p:=lsOk) hl1 h;refine aF<|Sq<|aD<|Sq<|Sr<|Dd aG<|Dd aG<|Dd (by exact aT rfl HJ rfl rfl (by omega) (by exact aOG _) hi rfl)<|Dd (kS aJ (hi:=hi))<|Dd (fZ aC)<|Dd mN<|Zz ?_;refine Cn ?_ ?_<;>intro hc2
  ·have hb:¬ l.length<=30:=by have:=aNr hc2;omega
   rw[hnot (by rw[lsOk,decide_eq_false hb];rfl)];exact Sr<|Dd aM<|Zz<|aE<|Rt<|Qq
  have hb:l.length<=30:=by have:=aNs hc2;omega
  refine aF<|Sr<|Dd aM<|Zz<|aD ?_;refine bL (σ:=Nat) (fun i=>([(0,.pv (Q5 ls)),(3,iv (k:Int)),(4,iv (i:Int))],[])) (fun i=>i<=l.length/\∀j,j<i->∀b,l[j]?=some b->decide (b.size<=300)=true) (fun i=>l.length - i) 0 ⟨by omega,by omega⟩ ?_ ?_
  ·exact Wk
  rintro i ⟨hi',hno2⟩;refine Sq<|Sr<|Dd aG<|Dd aG<|Dd aG<|Dd (by exact aT rfl HJ rfl rfl (by omega) (by exact aOG _) hi rfl)<|Dd (kS aJ (hi:=hi))<|Dd (fZ aC)<|Dd cP<|Zz ?_;refine Cn ?_ ?_<;>intro hc3
  ·have hlt2:i<l.length:=by have:=aNr hc3;omega
   obtain ⟨s,hs1⟩:=aV hlt2;have hi2:=cA (f:=encStr) hs1;refine aF<|Sq<|aD<|Sr<|Dd aG<|Dd aG<|Dd (by exact aT rfl HJ rfl rfl (by omega) (by exact aOG _) hi rfl)<|Dd (kS aJ (hi:=hi))<|Dd aG<|Dd (by exact aT rfl bT rfl rfl (by omega) (by exact aOG _) hi2 rfl)<|Dd (kS isAgg9 (hi:=hi2))<|Dd (nF underlying9)<|Dd mN<|Zz ?_;refine Cn ?_ ?_<;>intro hc4
   ·have hb2:¬ s.size<=300:=by have:=aNr hc4;omega
    rw[hnot (by rw[lsOk,SV (p:=fun s=>decide (s.size<=300)) hs1 (decide_eq_false hb2),Bool.and_false])];exact Sr<|Dd aM<|Zz<|aE<|Rt<|Qq
   have hb2:s.size<=300:=by have:=aNs hc4;omega
   refine aF<|Rg<|Dd aG<|Dd (by exact bG rfl rfl rfl (show IntKind.i64.wrap ((i:Int)+1)=((i+1:Nat):Int)by rw[iY (by omega) (by omega)];omega))<|Da ?_;exact⟨i+1,⟨by omega,FW (p:=fun s=>decide (s.size<=300)) hno2 hs1 (decide_eq_true hb2)⟩,by omega,Wk⟩
  have hge:i=l.length:=by have:=aNs hc3;omega
  subst hge;have hok:lsOk l=true:=by rw[lsOk,decide_eq_true hb,MT hno2];rfl
  refine aY<|Rg<|Dd aG<|Dd (by exact bG rfl rfl rfl (show IntKind.i64.wrap ((k:Int)+1)=((k+1:Nat):Int)by rw[iY (by omega) (by omega)];omega))<|Da ?_;exact⟨k+1,⟨by omega,FW hno hl1 hok⟩,by omega,Wk⟩
 have hge:k=ls.length:=by have:=aNs hc1;omega
 subst hge;rw[MT hno];exact aY<|Sr<|Dd aM<|Zz<|aE<|Rt<|Qq
def aEa(r:GRec):Bool:=((!([r.parents,r.sl.sig,r.sl.path,r.priv.sources,r.priv.sl.sig,r.priv.sl.path].all lsOk)||!([[r.branch,r.target,r.from',r.priv.name,r.priv.reason]].all lsOk))||decide (210<((r.priv.trace.map gB).length:Int)))||!vJ r.edits 10
def YY(r:GRec):Bool:=!aEa r
def P4(l:List GRec)(n:Int):Bool:=decide ((l.length:Int)<=n)&&l.all YY
theorem UL(h:iT r):∀l∈[r.parents,r.sl.sig,r.sl.path,r.priv.sources,r.priv.sl.sig,r.priv.sl.path],l.length<1099511627776:=by
 obtain ⟨_,_,h1,_,h3,_,_,h4,_,h6⟩:=h;intro l hl;simp only[aOH,aOL,or_false]at hl;rcases hl with rfl|rfl|rfl|rfl|rfl|rfl
 ·exact h1.1
 ·exact h3.2.1.1
 ·exact h3.2.2.1
 ·exact h4.1
 ·exact h6.2.1.1
 exact h6.2.2.1
theorem aHQ(l:List GRec)(n:Int)(H:aB)(hl:l.length<1099511627776)(hr:∀r∈l,iT r):aH Tryz.prog 37 [.pv (XE l),iv n] H (fun r H'=>r=bv (P4 l n)/\H'=H):=by
 refine Pu ?_;have hml:(l.map bU).length=l.length:=aNv _;have hB:P4 l n=(decide (((l.map bU).length:Int)<=n)&&l.all YY):=by rw[P4,hml]
 refine Bd func37 rfl ntmps37<|Sr<|Dd aM<|Zz<|Sq<|Sr<|Dd aM<|Zz<|aD ?_;refine bL (σ:=Nat) (fun k=>([(0,.pv (XE l)),(1,iv n),(5,iv (k:Int))],[])) (fun k=>k<=l.length/\∀j,j<k->∀b,l[j]?=some b->YY b=true) (fun k=>l.length - k) 0 ⟨by omega,by omega⟩ ?_ ?_
 ·exact Wk
 rintro k ⟨hk,hno⟩;refine Sq<|Sq ?_;refine bF (t:=17) (n:=11) (X:=decide ((k:Int)<((l.map bU).length:Int))&&decide (((l.map bU).length:Int)<=n)) ?_ ?_
 ·all_goals refine Dd aG ?_
  all_goals refine Dd aG<|Dd (fZ FR)<|Dd cP<|Dm ?_
  all_goals refine Sp 12 (fun h12=>?_) fun h12=>?_
  all_goals try contradiction
  all_goals first|refine Fo<|Fo<|Fo<|Fo ?_|refine On aG<|On (fZ FR)<|On aG<|On TA ?_
  all_goals refine Dd cN<|Zz ?_
  all_goals(exact⟨⟨_,rfl,by(rw[h12];rfl)⟩,rfl,rfl,rfl⟩)
 refine Cn ?_ ?_<;>intro hc1
 ·have hh:=hc1;rw[aOE,aOC,aOC]at hh;have hlt:k<l.length:=by omega
  obtain ⟨r,hr1⟩:=aV hlt;have hi:=cA (f:=bU) hr1;have hok:=hr r (aOF hr1);have hnot:=fun h=>SV (p:=YY) hr1 h;have hl1:=fun H=>PH [r.parents,r.sl.sig,r.sl.path,r.priv.sources,r.priv.sl.sig,r.priv.sl.path] H (show 6<1099511627776 by decide) (UL hok);have hl2:=fun H=>PH [[r.branch,r.target,r.from',r.priv.name,r.priv.reason]] H (show 1<1099511627776 by decide) (by intro l hl;rw[aNy]at hl;subst hl;exact(by decide:5<1099511627776));have hed:=fun H=>aHR r.edits 10 H (by have:=hok.2.2.2.1.1;omega) (fun e he=>⟨⟨(hok.2.2.2.1.2 e he).2.2.2.2.1,(hok.2.2.2.1.2 e he).2.2.2.1.1⟩,by have:=(hok.2.2.2.1.2 e he).2.1.1;omega⟩);have hX:aEa r=(((!([r.parents,r.sl.sig,r.sl.path,r.priv.sources,r.priv.sl.sig,r.priv.sl.path].all lsOk)||!([[r.branch,r.target,r.from',r.priv.name,r.priv.reason]].all lsOk))||decide (210<((r.priv.trace.map gB).length:Int)))||!vJ r.edits 10):=rfl;obtain ⟨b1,hb1⟩:∃b,b=[r.parents,r.sl.sig,r.sl.path,r.priv.sources,r.priv.sl.sig,r.priv.sl.path].all lsOk:=⟨_,rfl⟩;obtain ⟨b2,hb2⟩:∃b,b=[[r.branch,r.target,r.from',r.priv.name,r.priv.reason]].all lsOk:=⟨_,rfl⟩;obtain ⟨b3,hb3⟩:∃b,b=vJ r.edits 10:=⟨_,rfl⟩;rw[<-hb1]at hl1 hX;rw[<-hb2]at hl2 hX;rw[<-hb3]at hed hX;clear hb1 hb2 hb3;refine aF<|Sq<|aD<|Sr<|Dd aG<|Dd aG<|Dd (by exact aT rfl aKs rfl rfl (by omega) (by exact aOG _) hi rfl)<|Dd (by exact cU rfl bH aR rfl hi rfl rfl)<|Dd (by exact bM (id:=6) rfl M8 rfl rfl)<|Uu (kG aR)<|Zz<|Sr<|Dd (bE fJ)<|Dd (rC lO sizeOf28)<|Dd (by exact bM (id:=7) rfl aIa rfl rfl)<|Uu (kG sizeOf28)<|Zz<|Sq ?_;refine bF (t:=72) (n:=50) (X:=aEa r) ?_ ?_
  ·all_goals refine Dd (bE pM) ?_
   all_goals refine Dd (bQ aJ)<|Dd (bE kM)<|Dd (bE iG)<|Dd (bQ aJ)<|Dd (bE kM)<|Dd (bE lF)<|Dd (bQ aJ)<|Dd (bE A0)<|Dd (bQ aJ)<|Dd (bE oV)<|Dd (bE iG)<|Dd (bQ aJ)<|Dd (bE oV)<|Dd (bE lF)<|Dd (bQ aJ)<|Dd (by exact aQ [N3 r.parents,N3 r.sl.sig,N3 r.sl.path,N3 r.priv.sources,N3 r.priv.sl.sig,N3 r.priv.sl.path] rfl HJ rfl rfl rfl rfl rfl (by intro r hr;simp only[aOH,aOL,or_false]at hr;rcases hr with rfl|rfl|rfl|rfl|rfl|rfl<;>rfl))<|Dd (by exact aA rfl rfl call106 rfl (hl1 _))<|Dd mT<|Dm ?_
   all_goals refine Sp 45 (fun h45=>?_) fun h45=>?_
   all_goals try contradiction
   all_goals first|refine Fo<|Fo<|Fo<|Fo<|Fo<|Fo<|Fo<|Fo<|Fo<|Fo ?_|refine On (bE AY)<|On (bQ isAgg9)<|On (bE AX)<|On (bQ isAgg9)<|On (bE yK)<|On (bQ isAgg9)<|On (bE C7)<|On (bQ isAgg9)<|On (bE C6)<|On (bQ isAgg9) ?_
   all_goals first|refine Fo ?_|refine On (by exact aQ [[.str r.branch],[.str r.target],[.str r.from'],[.str r.priv.name],[.str r.priv.reason]] rfl bT rfl rfl rfl rfl rfl (by intro r hr;simp only[aOH,aOL,or_false]at hr;rcases hr with rfl|rfl|rfl|rfl|rfl<;>rfl)) ?_
   all_goals first|refine Fo<|Fo<|Fo ?_|refine On (by exact aQ [N3 [r.branch,r.target,r.from',r.priv.name,r.priv.reason]] rfl HJ rfl rfl rfl rfl rfl (by intro r hr;rw[aNy]at hr;subst hr;rfl))<|On (by exact aA rfl rfl call106 rfl (hl2 _))<|On mT ?_
   all_goals refine Dd cN<|Dm ?_
   all_goals refine Sp 61 (fun h61=>?_) fun h61=>?_
   all_goals try contradiction
   all_goals first|refine Fo<|Fo<|Fo<|Fo ?_|refine On (bE tP)<|On (bQ jT)<|On (fZ dY)<|On mN ?_
   all_goals refine Dd cN<|Dm ?_
   all_goals refine Sp 67 (fun h67=>?_) fun h67=>?_
   all_goals try contradiction
   all_goals first|refine Fo<|Fo<|Fo<|Fo ?_|refine On (bE C4)<|On (bQ nS)<|On (by exact aA rfl rfl call107 rfl (hed _))<|On mT ?_
   all_goals refine Dd cN<|Zz ?_
   all_goals(exact⟨⟨_,rfl,by first|(rw[hX,h45];rfl)|(rw[hX,h45,h61];rfl)|(rw[hX,h45,h61,h67];rfl)⟩,rfl,rfl,rfl⟩)
  refine Cn ?_ ?_<;>intro hc2
  ·rw[hB,hnot (by rw[YY,hc2];rfl),Bool.and_false];exact Sr<|Dd aM<|Zz<|aE<|Rt<|Qq
  have hgo:YY r=true:=by rw[YY,hc2];rfl
  refine aF<|Rg<|Dd aG<|Dd (by exact bG rfl rfl rfl (show IntKind.i64.wrap ((k:Int)+1)=((k+1:Nat):Int)by rw[iY (by omega) (by omega)];omega))<|Da ?_;exact⟨k+1,⟨by omega,FW hno hr1 hgo⟩,by omega,Wk⟩
 have hh:=hc1;rw[Bool.and_eq_false_iff,aOD,aOD]at hh;have hres:P4 l n=decide (((l.map bU).length:Int)<=n):=by
  rw[hB];rcases hh with hh|hh
  ·have hge:k=l.length:=by omega
   subst hge;rw[MT hno,Bool.and_true]
  rw[decide_eq_false hh];rfl
 rw[hres];exact aY<|Sr<|Dd aG<|Dd (fZ FR)<|Dd aG<|Dd TA<|Dd aM<|Zz<|aE<|Rt<|Qq
theorem YH(l:List GRec)(H:aB)(hl:l.length<1099511627776)(hr:∀r∈l,iT r):aH Tryz.prog 8 [.pv (XE l)] H (fun r H'=>r=bv (P4 l 5)/\H'=H):=by refine Pu ?_;have hf:=fun H=>aHQ l 5 H hl hr;exact Bd func8 rfl ntmps8<|Sr<|Dd aM<|Zz<|Sr<|Dd aG<|Dd (by exact aA rfl rfl call37 rfl (hf _))<|Dd aM<|Zz<|aE<|Rt<|Qq
theorem vY(h:eD r=true)(ha:jQ a=true)(hb:jQ b=true):eD (UT r a b)=true:=by simp only[eD,aOE,aOO]at h |-;obtain ⟨⟨⟨⟨h1,h2⟩,h3⟩,h4⟩,h5⟩:=h;refine⟨⟨⟨⟨?_,h2⟩,h3⟩,h4⟩,h5⟩;simp only[v1G,aOR]at h1 |-;obtain ⟨⟨h1,_⟩,_⟩:=h1;exact⟨⟨h1,by show (!jQ b)=false;rw[hb];rfl⟩,by show (!jQ a)=false;rw[ha];rfl⟩
theorem aAX:jQ zS=true:=by decide
theorem YO(h:eD r=true)(ha:jQ a=true)(hb:jQ b=true):pA (UT r a b)=pA r:=by rw[pA,pA,aNu (vY h ha hb),aNu h];rfl
theorem aGo(h:eD r=true)(ha:jQ a=true)(hb:jQ b=true):rB (UT r a b)=rB r:=by rw[rB,rB,YO h ha hb];rfl
theorem JO(h:eD r=true):eD (rM r)=true:=by
 simp only[eD,aOE,aOO]at h |-;obtain ⟨⟨⟨⟨h1,h2⟩,h3⟩,h4⟩,h5⟩:=h;refine⟨⟨⟨⟨?_,h2⟩,h3⟩,h4⟩,h5⟩;simp only[v1G,aOR]at h1 |-;obtain ⟨_,h8⟩:=h1;refine⟨?_,h8⟩;have e1:jQ ⟨0,[],[]⟩=true:=by decide
 have e2:HQ sNil=false:=by decide
 simp[rM,e1,e2]
theorem aHL(h:eD r=true):pA (rM r)=pA r:=by rw[pA,pA,aNu (JO h),aNu h];rfl
theorem aLj{s:GSeal}(h:FSeal s)(hl:s.sig.length=18):jQ s=true:=by have i0:=h.i0;have i1:=h.i1;have l2:=h.pl;rw[jQ,aNv,aNv,decide_eq_true i0,decide_eq_true i1,decide_eq_true (by omega),decide_eq_true (by omega),List.all_eq_true.2 h.sa,List.all_eq_true.2 h.pa];simp
theorem kT{i:Int}(h1:(sW s h i m).2=0):jQ (sW s h i m).1=true:=by obtain ⟨f,e,_⟩:=pJ h1;refine aLj f ?_;rw[e];exact DX _ _ _
theorem Z6{i:Int}(h1:(sW s h i m).2=0):sQ (oP s h.toNat) m (sW s h i m).1.idx (sW s h i m).1.sig (sW s h i m).1.path=true/\(sW s h i m).1.idx=i:=by
 obtain ⟨_,e,⟨h2,h3⟩,h4,h5⟩:=pJ h1;rw[e];refine⟨?_,rfl⟩;obtain ⟨n,rfl⟩:∃n:Nat,h=(n:Int):=⟨h.toNat,by omega⟩;obtain ⟨k,rfl⟩:∃k:Nat,i=(k:Int):=⟨i.toNat,by omega⟩;rw[aOG]at h5 |-;rw[aOG];have h6:k<2 ^ n:=by exact_mod_cast h5
 exact aCh s m (by omega) h6
theorem US(h:zB r=(x,0)):x=r/\(oK r).2=0:=by
 rw[zB]at h
 split at h
 ·next hn=>exact absurd (congrArg Prod.snd h) hn
 next hn=>exact⟨(congrArg Prod.fst h).symm,by by_cases e:(oK r).2=0;exact e;exact absurd e hn⟩
structure Made(r x:GRec)(s:ByteArray)(h:Int):Prop where
 v0:eD (zX r)=true
 a0:(sW s h (2*r.number - 2) (pA (zX r))).2=0
 tx:(oK x).2=0
 e:(gD r.priv=true/\x=mk1 r (sW s h (2*r.number - 2) (pA (zX r))).1)\/(gD r.priv=false/\(sW s h (2*r.number - 1) (rB (zX r))).2=0/\x=UT r (sW s h (2*r.number - 2) (pA (zX r))).1 (sW s h (2*r.number - 1) (rB (zX r))).1)
theorem aGx(hm:EN r s h=(x,0)):Made r x s h:=by
 rw[EN]at hm
 split at hm
 ·cases hm
 next h1 =>
 split at hm
 ·next h2 =>
  have:=congrArg Prod.snd hm;exact absurd this h2
 next h2 =>
 have h2:(sW s h (2*r.number - 2) (pA (zX r))).2=0:=by
  by_cases e:(sW s h (2*r.number - 2) (pA (zX r))).2=0
  ·exact e
  exact absurd e h2
 split at hm
 ·next h3 =>
  obtain ⟨e1,e2⟩:=US hm;exact⟨by simpa using h1,h2,e1▸e2,.inl ⟨h3,e1⟩⟩
 next h3 =>
 split at hm
 ·next h4 =>
  have:=congrArg Prod.snd hm;exact absurd this h4
 next h4 =>
 obtain ⟨e1,e2⟩:=US hm;refine⟨by simpa using h1,h2,e1▸e2,.inr ⟨by simpa using h3,?_,e1⟩⟩;by_cases e:(sW s h (2*r.number - 1) (rB (zX r))).2=0
 ·exact e
 exact absurd e h4
theorem Made.valid(hm:Made r x s h):eD x=true:=by
 rcases hm.e with⟨_,e⟩|⟨_,h2,e⟩
 ·rw[e];exact vY (r:=zX r) hm.v0 (kT hm.a0) aAX
 rw[e];exact vY (r:=zX r) hm.v0 (kT hm.a0) (kT h2)
theorem Made.text(hm:Made r x s h):oK x=(ofL (aL (sF x)),0):=by
 have h1:=hm.tx;rw[oK,aNu hm.valid]at h1 |-
 split at h1
 ·cases h1
 next h2=>rw[aNt h2]
theorem Made.id(hm:Made r x s h):pA x=pA (zX r):=by
 rcases hm.e with⟨_,e⟩|⟨_,h2,e⟩
 ·rw[e];exact YO (r:=zX r) hm.v0 (kT hm.a0) aAX
 rw[e];exact YO (r:=zX r) hm.v0 (kT hm.a0) (kT h2)
theorem Made.ver(hm:Made r x s h):sQ (oP s h.toNat) (pA x) x.sl.idx x.sl.sig x.sl.path=true/\x.sl.idx=2*x.number - 2:=by
 rw[hm.id];have:=Z6 hm.a0;rcases hm.e with⟨_,e⟩|⟨_,h2,e⟩
 ·rw[e];exact this
 rw[e];exact this
theorem Made.check(hm:Made r x s h)(hk:ks[r.author.toNat]?=some (oP s h.toNat)):nP x ks=0:=by
 have hv:=hm.valid;have hf:=oI hv;have hau:=hf.au;obtain ⟨k1,k2⟩:=hm.ver;have ha:x.author=r.author:=by rcases hm.e with⟨_,e⟩|⟨_,_,e⟩<;>rw[e]<;>rfl
 have hlt:r.author.toNat<ks.length:=(aNz.1 hk).1;have hg:ks.getD x.author.toNat sNil=oP s h.toNat:=by rw[ha,List.getD_eq_getElem?_getD,hk];rfl
 rw[nP,hg];have hA:ckA x ks=false:=by rw[ckA,hv,aNv,decide_eq_false (by omega)];rfl
 have hB:ckB x (oP s h.toNat)=false:=by rw[ckB,k1,decide_eq_true k2];rfl
 rw[hA,hB];rcases hm.e with⟨he,e⟩|⟨he,h2,e⟩
 ·have hC:ckC x=false:=by rw[ckC,e];show (_&&!uG zS)=false;rw[show uG zS=true by decide];simp
  have hD:ckD x (oP s h.toNat)=false:=by rw[ckD,e];show (!gD (mk1 r zS).priv&&_)=false;rw[show gD (mk1 r zS).priv=gD r.priv from rfl,he];rfl
  rw[hC,hD];rfl
 have hC:ckC x=false:=by rw[ckC,e];show (gD (mk1 r zS).priv&&_)=false;rw[show gD (mk1 r zS).priv=gD r.priv from rfl,he];rfl
 have hD:ckD x (oP s h.toNat)=false:=by
  obtain ⟨q1,q2⟩:=Z6 h2;have hmm:rB x=rB (zX r):=by rw[e];exact aGo (r:=zX r) hm.v0 (kT hm.a0) (kT h2)
  have hp:x.priv.sl=(sW s h (2*r.number - 1) (rB (zX r))).1:=by rw[e];rfl
  have hn:x.number=r.number:=by rw[e];rfl
  rw[ckD,hmm,hp,q1,hn,decide_eq_true q2];simp
 rw[hC,hD];rfl
theorem Made.bare(hm:Made r x s h)(hk:ks[r.author.toNat]?=some (oP s h.toNat)):nP (rM x) ks=0:=by
 have hv:=hm.valid;have hf:=oI hv;have hau:=hf.au;obtain ⟨k1,k2⟩:=hm.ver;have ha:x.author=r.author:=by rcases hm.e with⟨_,e⟩|⟨_,_,e⟩<;>rw[e]<;>rfl
 have hlt:r.author.toNat<ks.length:=(aNz.1 hk).1;have hg:ks.getD x.author.toNat sNil=oP s h.toNat:=by rw[ha,List.getD_eq_getElem?_getD,hk];rfl
 rw[nP,show (rM x).author=x.author from rfl,hg];have hA:ckA (rM x) ks=false:=by rw[ckA,JO hv,aNv,show (rM x).author=x.author from rfl,decide_eq_false (by omega)];rfl
 have hB:ckB (rM x) (oP s h.toNat)=false:=by
  rw[ckB,aHL hv];show (!decide (x.sl.idx=2*x.number - 2)||!sQ (oP s h.toNat) (pA x) x.sl.idx x.sl.sig x.sl.path)=false;rw[k1,decide_eq_true k2];rfl
 have hC:ckC (rM x)=false:=by rw[ckC];show (_&&!uG zS)=false;rw[show uG zS=true by decide];simp
 have hD:ckD (rM x) (oP s h.toNat)=false:=by rw[ckD];show (!gD ⟨sNil,sNil,[],[],⟨0,[],[]⟩⟩&&_)=false;rw[show gD ⟨sNil,sNil,[],[],⟨0,[],[]⟩⟩=true by decide];rfl
 rw[hA,hB,hC,hD];rfl
theorem Made.parse(hm:Made r x s h):iU (aL (sF x))=(x,0):=XV hm.text
def sY:ByteArray:=⟨#[115,101,99,114,101,116]⟩
def aLb:ByteArray:=⟨#[109,97,105,110]⟩
def aHp:ByteArray:=⟨#[65,110,110]⟩
def litH:ByteArray:=⟨#[54,58,114,101,99,111,114,100,49,58,53,49,58,49,49,58,50,49,58,53,52,58,109,97,105,110,49,58,48,48,58,48,58,49,58,48,49,58,48,48,58]⟩
def r0H:GRec:=⟨5,1,2,5,aLb,[],[],sNil,false,0,sNil,zS,⟨sNil,sNil,[],[],zS⟩⟩
def p0H:GRec:={r0H with priv:=⟨aHp,sNil,[],[(1,2)],zS⟩}
def sAH:GSeal:=(sW sY 2 2 (fA litH)).1
def sBH:GSeal:=(sW sY 2 3 (rB p0H)).1
def xH:GRec:=UT p0H sAH sBH
def fxH:GRec:={xH with clock:=6}
def f0H:GRec:={p0H with clock:=6}
def wO:ByteArray:=oP sY 2
theorem TI:eD r0H=true:=by kernel_rfl
theorem JN:eD p0H=true:=by kernel_rfl
theorem aCi:eD f0H=true:=by kernel_rfl
theorem aEE:(⟨(aL (pL r0H)).toArray⟩:ByteArray)=litH:=by kernel_rfl
theorem aLh:pA r0H=fA litH:=by rw[pA,aNu TI,pB,aEE]
theorem aIO:pA p0H=fA litH:=by rw[pA,aNu JN];exact congrArg fA aEE
theorem KB:(sW sY 2 2 (fA litH)).2=0:=by rw[sW,aNt (by decide)]
theorem OQ:(sW sY 2 3 (rB p0H)).2=0:=by rw[sW,aNt (by decide)]
theorem aIA{s:GSeal}(h:FSeal s):(∀t∈fI (.z s.idx s.sig s.path),t.size<=24)/\(fI (.z s.idx s.sig s.path)).length<=29:=by
 have i0:=h.i0;have i1:=h.i1;have l1:=h.sl;have l2:=h.pl;constructor
 ·intro t ht;simp only[fI,aOH,List.mem_append]at ht;rcases ht with rfl|(rfl|ht)|(rfl|ht)
  ·exact Nat.le_trans (iC (by omega) (by omega)) (by decide)
  ·exact Nat.le_trans (iC (by omega) (by omega)) (by decide)
  ·exact Nat.le_trans (pY (h.sa t ht)) (by decide)
  ·exact Nat.le_trans (iC (by omega) (by omega)) (by decide)
  exact Nat.le_trans (pY (h.pa t ht)) (by decide)
 simp only[fI,aNx,aNw];omega
theorem aG9:(pL p0H).all (fun s=>decide (s.size<=24))=true:=by kernel_rfl
theorem aD3:(pL p0H).length=12:=by kernel_rfl
theorem aGV:((fI (.t aHp)++(fI (.t sNil)++(fI (.l [])++fI (.p [(1,2)]))))).all (fun s=>decide (s.size<=24))=true:=by kernel_rfl
theorem aDM:((fI (.t aHp)++(fI (.t sNil)++(fI (.l [])++fI (.p [(1,2)]))))).length=6:=by kernel_rfl
theorem JW(ha:FSeal a)(hb:FSeal b):(aL (sF (UT p0H a b))).length<=20000:=by
 obtain ⟨a1,a2⟩:=aIA ha;obtain ⟨b1,b2⟩:=aIA hb;have he:sF (UT p0H a b)=pL p0H++(fI (.z a.idx a.sig a.path)++((fI (.t aHp)++(fI (.t sNil)++(fI (.l [])++fI (.p [(1,2)]))))++fI (.z b.idx b.sig b.path))):=by
  rw[sF,vK,DY];simp only[List.flatMap_cons,List.flatMap_nil,List.append_nil,List.append_assoc];rfl
 have hl:=aDM;have hp:=aD3;rw[he];refine Nat.le_trans (yF (M:=24) (by decide) _ ?_) ?_
 ·intro s hs;rw[List.mem_append,List.mem_append,List.mem_append]at hs;rcases hs with hs|hs|hs|hs
  ·exact aNr (List.all_eq_true.1 aG9 s hs)
  ·exact a1 s hs
  ·exact aNr (List.all_eq_true.1 aGV s hs)
  exact b1 s hs
 rw[aNw,aNw,aNw];omega
theorem aAM:EN p0H sY 2=(xH,0):=by
 have e0:zX p0H=p0H:=rfl;have e1:(2:Int)*p0H.number - 2=2:=rfl;have e2:(2:Int)*p0H.number - 1=3:=rfl;have e3:gD p0H.priv=false:=by decide
 obtain ⟨fa,_⟩:=pJ KB;obtain ⟨fb,_⟩:=pJ OQ;rw[EN,e0,e1,e2,JN,e3,aIO,aNt (by decide),aNt (fun h=>h KB),aNt (by decide),aNt (fun h=>h OQ)];show zB xH=(xH,0);have hx:(oK xH).2=0:=by
  have hv:eD xH=true:=vY (r:=p0H) JN (kT KB) (kT OQ);rw[oK,aNu hv,aNt (by have:=JW fa fb;show ¬ 20000<(aL (sF (UT p0H sAH sBH))).length;exact Nat.not_lt.2 this)]
 rw[zB,aNt (fun h=>h hx)]
theorem K5:Made p0H xH sY 2:=aGx aAM
theorem aGw:EN r0H sY 1=(zR,1):=by
 have e0:zX r0H=r0H:=rfl;have e1:(2:Int)*r0H.number - 2=2:=rfl;have e2:(sW sY 1 2 (pA r0H))=(zS,1):=by rw[sW,aNu (by decide)]
 rw[EN,e0,e1,TI,aNt (by decide),e2,aNu (by decide)]
theorem aIi:oK xH=(ofL (aL (sF xH)),0):=K5.text
theorem aGd:iU (aL (sF xH))=(xH,0):=K5.parse
theorem aMx:pA xH=fA litH:=by rw[K5.id];exact aIO
theorem aHh:nP xH [sNil,wO]=0:=K5.check (by rfl)
theorem aKE:nP (rM xH) [sNil,wO]=0:=K5.bare (by rfl)
theorem aHs:nP xH [wO]=1:=by
 rw[nP,aNu];rw[ckA];have:decide ((([wO]:List ByteArray).map encStr).length<=xH.author)=true:=by decide
 rw[this,Bool.or_true]
theorem ZR:eD fxH=true:=vY (r:=f0H) aCi (kT KB) (kT OQ)
theorem aKm:sQ (oP sY 2) (pB (pL f0H)) 2 (B1 sY 2 (fA litH)) (gV 2 (fG sY 2) 2)=false:=by kernel_rfl
theorem aE7:nP fxH [sNil,wO]=16:=by
 rw[nP,aNt,aNu]
 ·have hid:pA fxH=pB (pL f0H):=by rw[pA,aNu ZR];rfl
  have hs:fxH.sl=⟨2,B1 sY 2 (fA litH),gV 2 (fG sY 2) 2⟩:=(pJ KB).2.1;have hk:([sNil,wO]:List ByteArray).getD fxH.author.toNat sNil=oP sY 2:=rfl;rw[hk,ckB,hid,hs];show (_||!sQ (oP sY 2) (pB (pL f0H)) 2 (B1 sY 2 (fA litH)) (gV 2 (fG sY 2) 2))=true;rw[aKm];simp
 rw[ckA,ZR];decide
theorem aDq:iT r0H:=by refine⟨⟨⟨by decide,by decide⟩,⟨by decide,by decide⟩,⟨by decide,by decide⟩,⟨by decide,by decide⟩,⟨by decide,by decide⟩⟩,⟨by decide,by decide,by decide⟩,⟨by decide,by simp[r0H]⟩,⟨by decide,by simp[r0H]⟩,okZ,by decide,by decide,⟨by decide,by simp[r0H]⟩,by decide,okZ⟩
theorem aIG:iT p0H:=by obtain ⟨a,b,c,d,e,_⟩:=aDq;exact⟨a,b,c,d,e,by decide,by decide,⟨by decide,by simp[p0H]⟩,by decide,okZ⟩
theorem UJ:iT xH:=X9 aIG (kK (pJ KB).1) (kK (pJ OQ).1)
theorem aL5:iT fxH:=by obtain ⟨⟨a1,a2,a3,a4,a5⟩,b,c⟩:=UJ;exact⟨⟨a1,a2,a3,⟨by decide,by decide⟩,a5⟩,b,c⟩
def w0H:WRest:=⟨.sl [],.sl [],.int .i64 0,.sl [],.sl []⟩
theorem aBi:wO.size=16:=by kernel_rfl
theorem aDp:KV [sNil,wO]:=⟨by decide,by
 intro t ht;simp only[aOH,aOL,or_false]at ht;rcases ht with rfl|rfl
 ·decide
 rw[aBi];decide⟩
theorem aL4:KV [wO]:=⟨by decide,fun t ht=>aDp.2 t (List.mem_cons_of_mem _ ht)⟩
theorem aL6:iT (rM xH):=by obtain ⟨a,b,c,d,e,_⟩:=UJ;exact⟨a,b,c,d,e,by decide,by decide,⟨by decide,by simp[rM]⟩,by decide,okZ⟩
theorem neZ{a:Int}:(!decide (a=a))=false:=by simp
theorem cH.val{P:Program}{N:Nat}{o:Oper}{E:bS}{H H':aB}{b b':Bool}(h:cH P N o E H (.pv (.bool b)) H')(e:b=b'):cH P N o E H (.pv (.bool b')) H':=e▸h
theorem aE2(H:aB):aH Tryz.prog 7 [] H (fun r H'=>r=bv true/\H'=H):=by
 refine Pu ?_;have hSum:=fun H=>TN litH H (by decide);have hPub:=fun H=>J2 sY 2 H (by decide) (by decide);have hMk:∀H,aH Tryz.prog 23 [av (bU p0H),sv sY,iv 2] H (fun x H'=>x=.tup [av (bU xH),iv 0]/\H'=H):=fun H=>by
  have:=aEA p0H sY 2 aIG (by decide) (by decide) H;rw[aAM]at this;exact this
 have hMr:∀H,aH Tryz.prog 23 [av (bU r0H),sv sY,iv 1] H (fun x H'=>x=.tup [av (bU zR),iv 1]/\H'=H):=fun H=>by
  have:=aEA r0H sY 1 aDq (by decide) (by decide) H;rw[aGw]at this;exact this
 have hTx:∀H,aH Tryz.prog 10 [av (bU xH)] H (fun x H'=>x=.tup [sv (ofL (aL (sF xH))),iv 0]/\H'=H):=fun H=>by
  have:=QW xH UJ (by decide) H;rw[aIi]at this;exact this
 have hlen:(aL (sF xH)).length<1099511627776:=Nat.lt_of_le_of_lt (JW (pJ KB).1 (pJ OQ).1) (by decide);have hPa:∀H,aH Tryz.prog 12 [sv (ofL (aL (sF xH)))] H (fun x H'=>x=.tup [av (bU xH),iv 0]/\H'=H):=fun H=>by
  have:=aD7 (aL (sF xH)) hlen H;rw[aGd]at this;exact this
 have hI0:∀H,aH Tryz.prog 16 [av (bU r0H)] H (fun x H'=>x=sv (fA litH)/\H'=H):=fun H=>by
  have:=PT r0H aDq (by decide) H;rw[aLh]at this;exact this
 have hIx:∀H,aH Tryz.prog 16 [av (bU xH)] H (fun x H'=>x=sv (fA litH)/\H'=H):=fun H=>by
  have:=PT xH UJ (by decide) H;rw[aMx]at this;exact this
 have hSa:∀H,aH Tryz.prog 18 [av (bU xH),av (bU xH)] H (fun r H'=>r=bv true/\H'=H):=fun H=>by
  have:=aBN xH xH H (UM UJ) (UM UJ);rw[aDV.2 rfl]at this;exact this
 have hks:KV [sNil,wO]:=aDp;have hC1:∀H,aH Tryz.prog 19 [av (bU xH),av (aBt w0H [sNil,wO])] H (fun x H'=>x=iv 0/\H'=H):=fun H=>by
  have:=FA xH w0H [sNil,wO] UJ (by decide) hks H;rw[aHh]at this;exact this
 have hBa:=fun H=>aHm xH H;have hC2:∀H,aH Tryz.prog 19 [av (bU (rM xH)),av (aBt w0H [sNil,wO])] H (fun x H'=>x=iv 0/\H'=H):=fun H=>by
  have:=FA (rM xH) w0H [sNil,wO] aL6 (by decide) hks H;rw[aKE]at this;exact this
 have hC3:∀H,aH Tryz.prog 19 [av (bU fxH),av (aBt w0H [sNil,wO])] H (fun x H'=>x=iv 16/\H'=H):=fun H=>by
  have:=FA fxH w0H [sNil,wO] aL5 (by decide) hks H;rw[aE7]at this;exact this
 have hC4:∀H,aH Tryz.prog 19 [av (bU xH),av (aBt w0H [wO])] H (fun x H'=>x=iv 1/\H'=H):=fun H=>by
  have:=FA xH w0H [wO] UJ (by decide) aL4 H;rw[aHs]at this;exact this
 refine Bd func7 rfl ntmps7<|Sr<|Dd aM<|Zz<|Sr<|Dd (wV WC)<|Dd (by exact bM (id:=1) rfl M8 rfl rfl)<|Uu (kG aR)<|Zz<|Sr<|Dd (by exact aA rfl rfl S3 rfl (hSum _))<|Dd aM<|Zz<|Sr<|Dd (by exact aA rfl rfl call25 rfl (hPub _))<|Dd aG<|Dd eZ<|Dd eZ<|Dd aM<|Dd aM<|Zz<|Sr<|Dd aG<|Dd (by exact aQ ([sNil,wO].map encStr) rfl bT rfl rfl rfl rfl rfl (by intro r hr;simp only[List.map_cons,List.map_nil,aOH,aOL,or_false]at hr;rcases hr with rfl|rfl<;>rfl))<|Dd (wV aLv)<|Dd (by exact bM (id:=5) rfl aM6 rfl rfl)<|Uu (kG HB)<|Zz<|Sr<|Dd (by exact aN rfl bH aR rfl rfl rfl rfl (by simp only[Zl,encStr];rfl) rfl)<|Dd (by exact bM (id:=6) rfl M8 rfl rfl)<|Uu (kG aR)<|Zz<|Sr<|Dd (wV aEy)<|Dd (by exact aQ ([((1:Int),(2:Int))].map gB) rfl TT rfl rfl rfl rfl rfl (by intro r hr;simp only[List.map_cons,List.map_nil,aOH,aOL,or_false]at hr;subst hr;rfl)) ?_;refine Dd (wV aKD)<|Dd (bE fJ)<|Uu (by exact mF rfl sizeOf28 rfl rfl rfl rfl rfl rfl rfl (aOI rfl) rfl rfl)<|Zz<|Sr<|Dd (by exact aN rfl bH aR rfl rfl rfl rfl (by simp only[Zl,encStr];rfl) rfl)<|Dd (by exact aA rfl rfl call23 rfl (hMk _))<|Dd aG<|Dd eZ<|Dd eZ<|Dd (by exact bM (id:=7) rfl M8 rfl rfl)<|Uu (kG aR)<|Dd aM<|Zz<|Sr<|Dd (by exact aN rfl bH aR rfl rfl rfl rfl (by simp only[Zl,encStr];rfl) rfl)<|Dd (by exact aA rfl rfl aNi rfl (hTx _))<|Dd aG<|Dd eZ<|Dd eZ<|Dd aM<|Dd aM<|Zz<|Sr<|Dd aG<|Dd (by exact aA rfl rfl call12 rfl (hPa _))<|Dd aG<|Dd eZ<|Dd eZ<|Dd (by exact bM (id:=11) rfl M8 rfl rfl)<|Uu (kG aR)<|Dd aM<|Zz<|Sr<|Dd (by exact aN rfl bH aR rfl rfl rfl rfl (by simp only[Zl,encStr];rfl) rfl) ?_;refine Dd (by exact bM (id:=13) rfl M8 rfl rfl)<|Uu (kG aR)<|Zz<|Sr<|Dd (bE AZ)<|Dd (bQ isAgg3)<|Dd (by exact bG rfl rfl rfl (by rfl))<|Dd (bE AZ)<|Uu (by exact bD rfl sizeOf3 rfl rfl rfl rfl rfl rfl (aOI rfl) rfl rfl)<|Zz<|Sr<|Dd (by exact aN rfl bH aR rfl rfl rfl rfl (by simp only[Zl,encStr];rfl) rfl)<|Dd (by exact aA rfl rfl call23 rfl (hMr _))<|Dd aG<|Dd eZ<|Dd eZ<|Dd (by exact bM (id:=14) rfl M8 rfl rfl)<|Uu (kG aR)<|Dd aM<|Zz<|Sq<|Sr<|Dd aG<|Dd (by exact cH.val (by exact xT rfl rfl rfl) (neZ))<|Dd aG<|On aG<|On (by exact cH.val (by exact xT rfl rfl rfl) (neZ))<|Dd cN<|Dd aG<|On aG<|On (by exact cH.val (by exact xT rfl rfl rfl) (neZ))<|Dd cN<|Dd aG<|On aG<|On (by exact cH.val (by exact xT rfl rfl rfl) (neZ)) ?_;refine Dd cN<|Dd aG<|On aG<|On (by exact cH.val (by exact xT rfl rfl rfl) (neZ))<|Dd cN<|Zz ?_;refine Cn ?_ ?_<;>intro hc1
 ·refine Sr<|Dd aM<|Zz<|aE<|Rt ?_;cases hc1
 refine aF<|Sq<|aP follows<|Cq (by exact aN rfl bH aR rfl rfl rfl rfl (by simp only[Zl,encStr];rfl) rfl)<|Cq (by exact aA rfl rfl zT rfl (hI0 _))<|Cq aG<|Cq (by exact cH.val (by exact tD rfl rfl rfl) ((decide_eq_true rfl)))<|Cq aG<|Nt (by exact aN rfl bH aR rfl rfl rfl rfl (by simp only[Zl,encStr];rfl) rfl)<|Nt (by exact aA rfl rfl zT rfl (hIx _))<|Nt aG<|Nt (by exact cH.val (by exact tD rfl rfl rfl) ((decide_eq_true rfl)))<|Cq cN<|Cq aG<|Nt (by exact aN rfl bH aR rfl rfl rfl rfl (by simp only[Zl,encStr];rfl) rfl)<|Nt (by exact aN rfl bH aR rfl rfl rfl rfl (by simp only[Zl,encStr];rfl) rfl)<|Nt (by exact aA rfl rfl call18 rfl (hSa _))<|Cq cN<|Cq aG<|Nt (by exact aN rfl bH aR rfl rfl rfl rfl (by simp only[Zl,encStr];rfl) rfl) ?_;refine Nt (by exact aN rfl aCU HB rfl rfl rfl rfl (by simp only[Zl,encStr];rfl) rfl)<|Nt (by exact aA rfl rfl S4 rfl (hC1 _))<|Nt (by exact cH.val (by exact rS rfl rfl rfl) ((decide_eq_true rfl)))<|Cq cN<|Cq aG<|Nt (by exact aN rfl bH aR rfl rfl rfl rfl (by simp only[Zl,encStr];rfl) rfl)<|Nt (by exact aA rfl rfl call21 rfl (hBa _))<|Nt (by exact aN rfl aCU HB rfl rfl rfl rfl (by simp only[Zl,encStr];rfl) rfl)<|Nt (by exact aA rfl rfl S4 rfl (hC2 _))<|Nt (by exact cH.val (by exact rS rfl rfl rfl) ((decide_eq_true rfl)))<|Cq cN<|Cq aG<|Nt (by exact aN rfl bH aR rfl rfl rfl rfl (by simp only[Zl,encStr];rfl) rfl)<|Nt (by exact aN rfl aCU HB rfl rfl rfl rfl (by simp only[Zl,encStr];rfl) rfl) ?_;refine Nt (by exact aA rfl rfl S4 rfl (hC3 _))<|Nt (by exact cH.val (by exact rS rfl rfl rfl) ((decide_eq_true rfl)))<|Cq cN<|Cq aG<|Nt (by exact aN rfl bH aR rfl rfl rfl rfl (by simp only[Zl,encStr];rfl) rfl)<|Nt aG<|Nt (by exact aQ ([wO].map encStr) rfl bT rfl rfl rfl rfl rfl (by intro r hr;simp only[List.map_cons,List.map_nil,aOH,aOL,or_false]at hr;subst hr;rfl))<|Nt (wV aLv)<|Nt (by exact aA rfl rfl S4 rfl (hC4 _))<|Nt (by exact cH.val (by exact rS rfl rfl rfl) ((decide_eq_true rfl)))<|Cq cN<|Cq aG<|Nt (bE kM)<|Nt (bE mD)<|Nt (bQ isAgg3)<|Nt (by exact cH.val (by exact rS rfl rfl rfl) ((decide_eq_true rfl)))<|Cq cN<|Cq aG<|Nt (bE fJ)<|Nt (bE oV)<|Nt (bE mD)<|Nt (bQ isAgg3)<|Nt (by exact cH.val (by exact rS rfl rfl rfl) ((decide_eq_true rfl))) ?_;exact Cq cN<|Cq aM<|bK<|Kr<|aE<|Rt<|Qq
section
def aID(B:Nat)(l:List (Int×Int)):Prop:=l.length<=B/\∀q,q∈l->M9 q.1/\M9 q.2
def QX(B:Nat)(s:GSeal):Prop:=M9 s.idx/\CO B s.sig/\CO B s.path
def W6(B:Nat)(p:GPriv):Prop:=p.name.size<=B/\p.reason.size<=B/\CO B p.sources/\aID B p.trace/\QX B p.sl
def aCt(B:Nat)(r:GRec):Prop:=(M9 r.kind/\M9 r.author/\M9 r.number/\M9 r.clock/\M9 r.order)/\(r.branch.size<=B/\r.target.size<=B/\r.from'.size<=B)/\CO B r.parents/\ZY B r.edits/\QX B r.sl/\W6 B r.priv
section
variable{B n:Nat}{ps:List PV}
theorem aLr(h:Sh Tryz.prog B (n+3) 26 ps):∃l,ps=[qJ l]/\aID B l:=by
 obtain ⟨l,rfl,h1,h2⟩:=IT (f:=gB) (good:=fun q=>M9 q.1/\M9 q.2) dY h (fun r hr=>by
  obtain ⟨x,y,rfl,h1,h2⟩:=SI hr;exact⟨(x,y),rfl,h1,h2⟩)
 exact⟨l,rfl,h1,h2⟩
theorem aEl(h:Sh Tryz.prog B (n+3) 25 ps):∃s,ps=gG s/\QX B s:=by obtain ⟨_,_,rfl,_,h1,_,_,rfl,_,h2,_,_,rfl,_,h3,rfl⟩:=pI fT h;obtain ⟨i,rfl,q1⟩:=sV underlying3 h1;obtain ⟨a,rfl,q2⟩:=GW h2;obtain ⟨b,rfl,q3⟩:=GW h3;exact⟨⟨i,a,b⟩,rfl,q1,q2,q3⟩
theorem aJs(h:Sh Tryz.prog B (n+4) 28 ps):∃p,ps=sB p/\W6 B p:=by obtain ⟨_,_,rfl,_,h1,_,_,rfl,_,h2,_,_,rfl,_,h3,_,_,rfl,_,h4,_,_,rfl,_,h5,rfl⟩:=pI lN h;obtain ⟨a,rfl,q1⟩:=nK underlying9 h1;obtain ⟨b,rfl,q2⟩:=nK underlying9 h2;obtain ⟨c,rfl,q3⟩:=GW h3;obtain ⟨d,rfl,q4⟩:=aLr h4;obtain ⟨s,rfl,q5⟩:=aEl h5;exact⟨⟨a,b,c,d,s⟩,rfl,q1,q2,q3,q4,q5⟩
theorem aLq(h:Sh Tryz.prog B (n+7) 30 ps):∃r,ps=bU r/\aCt B r:=by obtain ⟨_,_,rfl,_,h1,_,_,rfl,_,h2,_,_,rfl,_,h3,_,_,rfl,_,h4,_,_,rfl,_,h5,_,_,rfl,_,h6,_,_,rfl,_,h7,_,_,rfl,_,h8,_,_,rfl,_,h9,_,_,rfl,_,h10,_,_,rfl,_,h11,_,_,rfl,_,h12,_,_,rfl,_,h13,rfl⟩:=pI cW h;obtain ⟨a1,rfl,q1⟩:=sV underlying3 h1;obtain ⟨a2,rfl,q2⟩:=sV underlying3 h2;obtain ⟨a3,rfl,q3⟩:=sV underlying3 h3;obtain ⟨a4,rfl,q4⟩:=sV underlying3 h4;obtain ⟨a5,rfl,q5⟩:=nK underlying9 h5;obtain ⟨a6,rfl,q6⟩:=GW h6;obtain ⟨a7,rfl,q7⟩:=aH3 h7;obtain ⟨a8,rfl,q8⟩:=nK underlying9 h8;obtain ⟨a9,rfl⟩:=aGH dV h9;obtain ⟨a10,rfl,q10⟩:=sV underlying3 h10;obtain ⟨a11,rfl,q11⟩:=nK underlying9 h11;obtain ⟨s,rfl,q12⟩:=aEl h12;obtain ⟨p,rfl,q13⟩:=aJs h13;exact⟨⟨a1,a2,a3,a4,a5,a6,a7,a8,a9,a10,a11,s,p⟩,rfl,⟨q1,q2,q3,q4,q10⟩,⟨q5,q8,q11⟩,q6,q7,q12,q13⟩
end
theorem O2{s:GSeal}(h:QX 1048576 s):qY s:=⟨h.1.bd,⟨Nat.lt_of_le_of_lt h.2.1.1 (by decide),fun t ht=>Nat.lt_of_le_of_lt (h.2.1.2 t ht) (by decide)⟩,⟨Nat.lt_of_le_of_lt h.2.2.1 (by decide),fun t ht=>Nat.lt_of_le_of_lt (h.2.2.2 t ht) (by decide)⟩⟩
theorem aB8{p:GPriv}(h:W6 1048576 p):YA p:=⟨Nat.lt_of_le_of_lt h.1 (by decide),Nat.lt_of_le_of_lt h.2.1 (by decide),⟨Nat.lt_of_le_of_lt h.2.2.1.1 (by decide),fun t ht=>Nat.lt_of_le_of_lt (h.2.2.1.2 t ht) (by decide)⟩,Nat.lt_of_le_of_lt h.2.2.2.1.1 (by decide),O2 h.2.2.2.2⟩
theorem aDr(h:aCt 1048576 r):iT r:=by obtain ⟨⟨h1,h2,h3,h4,h5⟩,⟨q1,q2,q3⟩,p,e,s,v⟩:=h;exact⟨⟨h1.bd,h2.bd,h3.bd,h4.bd,h5.bd⟩,⟨by omega,by omega,by omega⟩,⟨Nat.lt_of_le_of_lt p.1 (by decide),fun t ht=>Nat.lt_of_le_of_lt (p.2 t ht) (by decide)⟩,⟨Nat.lt_of_le_of_lt e.1 (by decide),fun x hx=>aJY (by decide) (e.2 x hx)⟩,O2 s,aB8 v⟩
theorem aJC(h:aCt 1048576 r):r.parents.length<549755813888:=Nat.lt_of_le_of_lt h.2.2.1.1 (by decide)
end
end Go.Proofs.YtmdicgjnmfolfaaGreatDoor
namespace Go.Proofs.YtmdicgjnmfolfaaGreatDoor
open Go.Proofs.Tryz
open Go.Abs Go.Lib
variable{q i:Nat}{l:List UInt8}
theorem QC(s:List UInt8)(H:aB):∀r∈dQ s,∀a∈r,Clo H a:=by intro r hr a ha;obtain ⟨b,_,rfl⟩:=List.mem_map.1 hr;rw[aNy.1 ha];exact .pv _
abbrev TX:ByteArray:=⟨#[48,49,50,51,52,53,54,55,56,57]⟩
theorem aIh:∀q:Fin 10,(TX.extract q.1 (q.1+1)).data.toList=[UInt8.ofNat (48+q.1)]:=fun q=>by
 rw[iX,show q.1+1 - q.1=1 by omega];revert q;decide
theorem aCm(h:q<10):TX.extract q (q+1)=ofL [UInt8.ofNat (48+q)]:=rG (by rw[aIh ⟨q,h⟩,cO])
theorem aDu(a b:List UInt8):ofL a++ofL b=ofL (a++b):=rG (by rw[ByteArray.data_append,Array.toList_append,cO,cO,cO])
def SH(v:Nat):List UInt8:=if v=0 then[]else decDigits v
theorem aBz{v:Nat}(h:0<v)(t:List UInt8):SH (v / 10)++(UInt8.ofNat (48+v % 10)::t)=SH v++t:=by
 have e:SH v=decDigits v:=aNt (by omega);rw[e,decDigits];by_cases h10:v<10
 ·rw[dif_pos h10,SH,aNu (by omega),Nat.mod_eq_of_lt h10];rfl
 rw[dif_neg h10,SH,aNt (by omega),List.append_assoc];rfl
theorem Y1(n:Nat):SH (n / 10)++[UInt8.ofNat (48+n % 10)]=decDigits n:=by
 rw[decDigits];by_cases h10:n<10
 ·rw[dif_pos h10,SH,aNu (by omega),Nat.mod_eq_of_lt h10];rfl
 rw[dif_neg h10,SH,aNt (by omega)]
theorem aDX(n:Nat)(hn:n<9223372036854775808)(H:aB):aH Tryz.prog 142 [uv n] H (fun r H'=>r=sv (ofL (decDigits n))/\H'=H):=by
 refine Pu ?_;have step:∀v:Nat,v<18446744073709551616->((v:Nat):Int).tmod 10=((v % 10:Nat):Int)/\IntKind.u64.wrap (((v:Nat):Int).tdiv 10)=((v / 10:Nat):Int)/\IntKind.u64.wrap (((v % 10:Nat):Int)+1)=((v % 10+1:Nat):Int)/\v % 10<10/\v % 10+1<=TX.size:=fun v hv=>by
  refine⟨by rw[Int.tmod_eq_emod_of_nonneg (by omega)];omega,by rw[Int.tdiv_eq_ediv_of_nonneg (by omega),IntKind.wrap_u64];omega,by rw[IntKind.wrap_u64];omega,Nat.mod_lt _ (by decide),?_⟩;have:TX.size=10:=rfl;omega
 obtain ⟨a1,a2,a3,a4,a5⟩:=step n (by omega);have hx:=aCm a4;have hfin:=Y1 n;obtain ⟨g,hg⟩:∃g,g=n % 10:=⟨_,rfl⟩;rw[<-hg]at a1 a3 a4 a5 hx hfin;refine Bd func142 rfl ntmps142<|Sr<|Dd aM<|Zz<|Sr<|Dd aG<|Dd (by exact pW rfl rfl rfl (by decide) a1)<|Dd aG<|Dd (by exact pW rfl rfl rfl (by decide) a1)<|Dd (by exact bG rfl rfl rfl a3)<|Dd (by exact cI (l:=g) (h:=g+1) rfl underlying9 rfl rfl rfl (by omega) a5 hx)<|Dd aM<|Zz<|Sq<|Sr<|Dd aG<|Dd (by exact rR rfl rfl rfl (by decide) a2)<|Dd aM<|Zz<|aD ?_;refine iA (fun(v:Nat) (t:List UInt8)=>([(0,uv v),(3,sv (ofL t))],[])) (fun v t=>v<9223372036854775808/\SH v++t=decDigits n) (fun v t=>v) (n / 10) [UInt8.ofNat (48+g)] ⟨by omega,hfin⟩ ?_ ?_
 ·exact Wk
 rintro v t ⟨hv,hvt⟩;obtain ⟨b1,b2,b3,b4,b5⟩:=step v (by omega);have hx:=aCm b4;have hlen:t.length<=21:=by
  have h1:=congrArg List.length hvt;rw[aNw]at h1;have h2:=eV (k:=19) (u:=n) (by omega) (by decide);omega
 by_cases h0:0<v
 ·have hst:=aBz h0 t;rw[hvt]at hst;obtain ⟨g,hg⟩:∃g,g=v % 10:=⟨_,rfl⟩;rw[<-hg]at b1 b3 b4 b5 hx hst;refine Sq<|Sr<|Dd aG<|Dd mN<|Zz ?_;refine Cn ?_ ?_<;>intro hc1
  ·refine aF<|Sq<|aD<|Rg<|Dd aG<|Dd (by exact pW rfl rfl rfl (by decide) b1)<|Dd aG<|Dd (by exact pW rfl rfl rfl (by decide) b1)<|Dd (by exact bG rfl rfl rfl b3)<|Dd (by exact cI (l:=g) (h:=g+1) rfl underlying9 rfl rfl rfl (by omega) b5 hx)<|Dd aG<|Dd (by exact gJ rfl rfl rfl (by rw[eF,eF,List.length_singleton];omega) (aDu [UInt8.ofNat (48+g)] t))<|Dd aM<|Zz<|Rg<|Dd aG<|Dd (by exact rR rfl rfl rfl (by decide) b2)<|Da ?_;exact⟨v / 10,UInt8.ofNat (48+g)::t,⟨by omega,hst⟩,by omega,Wk⟩
  (have h:=aNs hc1;omega)
 have hv0:v=0:=by omega
 subst hv0;have ht:t=decDigits n:=hvt;subst ht;refine Sq<|Sr<|Dd aG<|Dd mN<|Zz ?_;refine Cn ?_ ?_<;>intro hc2
 ·cases hc2
 exact aY<|Sr<|Dd aG<|Dd aM<|Zz<|aE<|Rt<|Qq
theorem T5(n:Nat)(hn:n<9223372036854775808)(H:aB):aH Tryz.prog 99 [iv (n:Int)] H (fun r H'=>r=sv (ofL (decDigits n))/\H'=H):=by
 refine Pu ?_;have hd:=fun H=>aDX n hn H;refine Bd func99 rfl ntmps99<|Sr<|Dd aM<|Zz<|Sq<|Sr<|Dd aG<|Dd cP<|Zz ?_;refine Cn ?_ ?_<;>intro hc1
 ·(have h:=aNr hc1;omega)
 exact aF<|Sr<|Dd aG<|Dd (by exact fP rfl underlying3 iL rfl (TG (by omega)))<|Dd (by exact aA rfl rfl call142 rfl (hd _))<|Dd aM<|Zz<|aE<|Rt<|Qq
def DS(L:List ByteArray):Nat:=(L.map fun s=>s.size+21).sum
theorem aAx(L:List ByteArray)(s:ByteArray):DS (L++[s])=DS L+(s.size+21):=by rw[DS,List.map_append,List.sum_append];rfl
theorem ZZ:∀ {L:List ByteArray},(∀s∈L,s.size<=100000000)->DS L<=L.length*100000021
 | [],_=>aOM _
 |s::r,h=>by
  have ih:=ZZ (L:=r) (fun x hx=>h x (List.mem_cons_of_mem _ hx));have hs:=h s List.mem_cons_self;show s.size+21+DS r<=_;rw[aNx,Nat.add_mul];omega
theorem PO:∀ {L:List ByteArray},(∀s∈L,s.size<=100000000)->(aL L).length<=DS L
 | [],_=>aOM _
 |s::r,h=>by
  have ih:=PO (L:=r) (fun x hx=>h x (List.mem_cons_of_mem _ hx));have hs:=h s List.mem_cons_self;have hd:=eV (k:=9) (u:=s.size) (by omega) (by decide);rw[uU,aNw,aNx,aNw,bB];show _<=s.size+21+DS r;omega
theorem UY(L:List ByteArray)(s:ByteArray):aL (L++[s])=(aL L++decDigits s.size)++[58]++s.data.toList:=by rw[UZ,uU];show aL L++(decDigits s.size++58::(s.data.toList++[]))=_;rw[List.append_nil,List.append_assoc,List.append_assoc];rfl
theorem BF(L:List ByteArray)(hL:L.length<=100000)(hs:∀s∈L,s.size<=100000000)(H:aB):aH Tryz.prog 45 [.pv (aS L)] H (fun r H'=>r=sv (ofL (aL L))/\H'=H):=by
 refine Pu ?_;have hml:(L.map encStr).length=L.length:=aNv _;have htk:∀i,DS (L.take i)<=10000002100000:=fun i=>by
  have h1:=ZZ (L:=L.take i) (fun s h=>hs s (List.mem_of_mem_take h));have h2:(L.take i).length<=100000:=by rw[aOJ];omega
  have h3:=Nat.mul_le_mul_right 100000021 h2;omega
 have hjl:∀i,(aL (L.take i)).length<=DS (L.take i):=fun i=>PO fun s h=>hs s (List.mem_of_mem_take h);refine Bd func45 rfl ntmps45<|Sr<|Dd aM<|Zz<|Sr<|Dd aM<|Zz<|Sq<|Sr<|Dd aM<|Zz<|aD ?_;refine bL (σ:=Nat) (fun i=>([(0,.pv (aS L)),(3,iv (DS (L.take i):Int)),(4,iv (i:Int))],[])) (fun i=>i<=L.length) (fun i=>L.length - i) 0 (aOM _) ?_ ?_
 ·exact Wk
 intro i hi;have hb:=htk i;refine Sq<|Sr<|Dd aG<|Dd aG<|Dd (fZ aC)<|Dd cP<|Zz ?_;refine Cn ?_ ?_<;>intro hc1
 ·have hlt:i<L.length:=by have:=aNr hc1;omega
  obtain ⟨s,hsi⟩:=aV hlt;have his:=cA (f:=encStr) hsi;have hsz:=hs s (aOF hsi);have hnx:DS (L.take (i+1))=DS (L.take i)+(s.size+21):=by rw[kY hsi,aAx]
  refine aF<|Sq<|aD<|Rg<|Dd aG<|Dd aG<|Dd aG<|Dd (by exact aT rfl bT rfl rfl (by omega) (by exact aOG _) his rfl)<|Dd (kS isAgg9)<|Dd (nF underlying9)<|Dd (by exact bG rfl rfl rfl (show IntKind.i64.wrap ((s.size:Int)+21)=((s.size+21:Nat):Int)by rw[iY (by omega) (by omega)];omega))<|Dd (by exact bG rfl rfl rfl (show IntKind.i64.wrap ((DS (L.take i):Int)+((s.size+21:Nat):Int))=((DS (L.take (i+1)):Nat):Int)by rw[hnx,iY (by omega) (by omega)];omega))<|Dd aM<|Zz<|Rg<|Dd aG<|Dd (by exact bG rfl rfl rfl (show IntKind.i64.wrap ((i:Int)+1)=((i+1:Nat):Int)by rw[iY (by omega) (by omega)];omega))<|Da ?_;exact⟨i+1,by omega,by omega,Wk⟩
 have hge:i=L.length:=by have:=aNs hc1;omega
 refine aY<|Sr<|Dd aG<|Dd (by exact AA (id:=905) rfl wA ei5 zo5 rfl rfl rfl (by omega) (by omega) (by exact aOG _) (by exact aOG _) (by omega) rfl)<|Dd aM<|Zz<|Sq<|Sr<|Dd aM<|Zz<|aD ?_;refine bL (σ:=Nat) (fun i=>([(0,.pv (aS L)),(5,.osl 905 (3*i) 0 (aL (L.take i)).length),(6,iv (i:Int))],[(905,⟨3*i,1,5,dQ (aL (L.take i))⟩)])) (fun i=>i<=L.length) (fun i=>L.length - i) 0 (aOM _) ?_ ?_
 ·exact(cD.wk (Eb<|Ea<|Eb<|trivial) (Hc (QC _ _)<|trivial) trivial)
 clear hge hb hi;intro i hi;have hb:=htk i;have hj:=hjl i;have hb2:=htk (i+1);have hj2:=hjl (i+1);refine Sq<|Sr<|Dd aG<|Dd aG<|Dd (fZ aC)<|Dd cP<|Zz ?_;refine Cn ?_ ?_<;>intro hc2
 ·have hlt:i<L.length:=by have:=aNr hc2;omega
  obtain ⟨s,hsi⟩:=aV hlt;have his:=cA (f:=encStr) hsi;have hsz:=hs s (aOF hsi);have hdec:=fun H=>T5 s.size (by omega) H;have hnx:aL (L.take (i+1))=(aL (L.take i)++decDigits s.size)++[58]++s.data.toList:=by rw[kY hsi,UY]
  have hdl:=eV (k:=9) (u:=s.size) (by omega) (by decide);obtain ⟨J,hJ⟩:∃J,J=aL (L.take i):=⟨_,rfl⟩;rw[<-hJ]at hnx hj |-;have hds:=eF (decDigits s.size);have h39:(dQ (J++decDigits s.size)).length=J.length+(decDigits s.size).length:=by rw[oF,aNw]
  have h45:(dQ ((J++decDigits s.size)++[58])).length=J.length+(decDigits s.size).length+1:=by rw[oF,aNw,aNw];rfl
  refine aF<|Sq<|aD<|Sr<|Dd aG<|Dd aG<|Dd aG<|Dd (by exact aT rfl bT rfl rfl (by omega) (by exact aOG _) his rfl)<|Dd (kS isAgg9)<|Dd (nF underlying9)<|Dd (by exact aA rfl rfl aNd rfl (hdec _))<|Dd (by exact rN (rows':=dQ (J++decDigits s.size)) (k:=J.length+(decDigits s.size).length) rfl wA underlying9 ei5 IJ rfl rfl rfl rfl rfl (oF J) rfl (by rw[hds];omega) (by rw[hds]) (by rw[cO];exact pR J (decDigits s.size)))<|Dd aM<|Zz<|Sr<|Dd aG<|Dd (by exact aQ [[.int .u8 58]] rfl wA rfl rfl rfl rfl rfl (by simp))<|Dd (by exact cF (k:=J.length+(decDigits s.size).length+1) (ps:=[[.int .u8 58]]) rfl wA ei5 rfl rfl rfl rfl rfl h39 rfl (by simp) (m:=1) rfl (by omega) rfl (pR (J++decDigits s.size) [58]))<|Dd aM<|Zz<|Rg<|Dd aG<|Dd aG<|Dm ?_;refine Dd (zV bT)<|Dd (kS isAgg9 (hi:=his))<|Dd (by exact rN (k:=J.length+(decDigits s.size).length+1+s.size) rfl wA underlying9 ei5 IJ rfl rfl rfl rfl rfl h45 rfl (by omega) rfl (pR ((J++decDigits s.size)++[58]) s.data.toList))<|Dd aM<|Zz<|Rg<|Dd aG<|Dd (by exact bG rfl rfl rfl (show IntKind.i64.wrap ((i:Int)+1)=((i+1:Nat):Int)by rw[iY (by omega) (by omega)];omega))<|Da ?_;refine⟨i+1,by omega,by omega,?_⟩;rw[hnx];have hlen:(J++decDigits s.size++[58]++s.data.toList).length=J.length+(decDigits s.size).length+1+s.size:=by
   rw[aNw,aNw,aNw,bB];rfl
  rw[hlen];exact(cD.wk (Eb<|Ea<|Eb<|trivial) (Hc (QC _ _)<|trivial) trivial)
 have hge:i=L.length:=by have:=aNs hc2;omega
 subst hge;rw[List.take_length]at hj |-;obtain ⟨J,hJ⟩:∃J,J=aL L:=⟨_,rfl⟩;rw[<-hJ];have hb46:((dQ J).drop 0).take J.length=dQ J:=by rw[List.drop_zero,List.take_of_length_le (by rw[oF];exact aOB _)]
 exact aY<|Sr<|Dd aG<|Dd (by exact NU rfl cJ dU underlying9 rfl rfl rfl rfl hb46 rfl)<|Dd aM<|Zz<|aE<|Rt<|Qq
theorem cH.eqv{P:Program}{N:Nat}{o:Oper}{E:bS}{H H':aB}{v v':AV}(h:cH P N o E H v H')(e:v=v'):cH P N o E H v' H':=e▸h
theorem aIr(x:Nat)(hx:x<18446744073709551616)(H:aB):aH Tryz.prog 141 [uv x] H (fun r H'=>r=uv (IE x)/\H'=H):=by refine Pu ?_;refine Bd func141 rfl ntmps141<|Sr<|Dd aM<|Zz<|Sr<|Dd aG<|Dd (by exact lH rfl rfl rfl (show IntKind.u64.wrap ((x:Int)*2862933555777941757)=((GE x:Nat):Int)by rw[IntKind.wrap_u64,GE];omega))<|Dd aM<|Zz<|Sr<|Dd aG<|Dd aG<|Dd (by exact BI rfl rfl rfl (by decide) (by decide) (aBI (GE x) 32 rfl))<|Dd (by exact kU rfl (by simp) rfl rfl (bits_xor_u64_nat (GE x) (GE x / 2 ^ 32) (BN x) (tQ 32 (BN x))))<|Dd aM<|Zz<|Sr<|Dd aG<|Dd (by exact lH rfl rfl rfl (show IntKind.u64.wrap (((GE x ^^^ (GE x / 2 ^ 32):Nat):Int)*3935559000370003845)=((K4 x:Nat):Int)by rw[IntKind.wrap_u64,K4,aGs];omega))<|Dd aM<|Zz<|Sr<|Dd aG<|Dd aG<|Dd (by exact BI rfl rfl rfl (by decide) (by decide) (aBI (K4 x) 29 rfl))<|Dd (by exact kU rfl (by simp) rfl rfl (bits_xor_u64_nat (K4 x) (K4 x / 2 ^ 29) (BM x) (tQ 29 (BM x)))) ?_;exact Dd aM<|Zz<|aE<|Rt<|Qq
def LJ(b:Int):Prop:=(48<=b/\b<=57)\/(97<=b/\b<=102)
theorem aHY(b:Int)(hb:LJ b)(H:aB):aH Tryz.prog 143 [.pv (.int .u8 b)] H (fun r H'=>r=iv (if b<=57 then b - 48 else b - 87)/\H'=H):=by
 refine Pu ?_;have n1:∀ {p:Prop} [Decidable p],p->AV.pv (.bool (decide p))=bv true:=fun h=>by rw[decide_eq_true h]
 have n2:∀ {p:Prop} [Decidable p],¬ p->AV.pv (.bool (decide p))=bv false:=fun h=>by rw[decide_eq_false h]
 by_cases h57:b<=57
 ·have hb2:48<=b:=by rcases hb with h|h<;>omega
  rw[aNu h57];refine Bd func143 rfl ntmps143<|Sr<|Dd aM<|Zz<|Sq<|Sr<|Dd aG<|Dd (by exact cH.eqv (uP rfl rfl rfl) (n1 hb2))<|Dd aG<|On aG<|On (by exact cH.eqv (xU rfl rfl rfl) (n1 h57))<|Dd cN<|Zz ?_;refine Cn ?_ ?_<;>intro hc1
  ·exact Sr<|Dd aG<|Dd (by exact dN rfl rfl rfl (show IntKind.u8.wrap (b - 48)=b - 48 by rw[IntKind.wrap_u8];omega))<|Dd (by exact fP rfl dU underlying3 rfl (iY (by omega) (by omega)))<|Dd aM<|Zz<|aE<|Rt<|Qq
  cases hc1
 have hb2:97<=b/\b<=102:=by rcases hb with h|h<;>omega
 have hb3:48<=b:=by omega
 rw[aNt h57];refine Bd func143 rfl ntmps143<|Sr<|Dd aM<|Zz<|Sq<|Sr<|Dd aG<|Dd (by exact cH.eqv (uP rfl rfl rfl) (n1 hb3))<|Dd aG<|On aG<|On (by exact cH.eqv (xU rfl rfl rfl) (n2 h57))<|Dd cN<|Zz ?_;refine Cn ?_ ?_<;>intro hc1
 ·cases hc1
 refine aF<|Sq<|Sr<|Dd aG<|Dd (by exact cH.eqv (uP rfl rfl rfl) (n1 hb2.1))<|Dd aG<|On aG<|On (by exact cH.eqv (xU rfl rfl rfl) (n1 hb2.2))<|Dd cN<|Zz ?_;refine Cn ?_ ?_<;>intro hc2
 ·exact Sr<|Dd aG<|Dd (by exact dN rfl rfl rfl (show IntKind.u8.wrap (b - 97)=b - 97 by rw[IntKind.wrap_u8];omega))<|Dd (by exact fP rfl dU underlying3 rfl (iY (by omega) (by omega)))<|Dd (by exact bG rfl rfl rfl (show IntKind.i64.wrap (b - 97+10)=b - 87 by rw[iY (by omega) (by omega)];omega))<|Dd aM<|Zz<|aE<|Rt<|Qq
 cases hc2
abbrev HX:ByteArray:=⟨#[48,49,50,51,52,53,54,55,56,57,97,98,99,100,101,102]⟩
instance (b:Int):Decidable (LJ b):=by unfold LJ;infer_instance
theorem aJi:∀q:Fin 16,LJ (cZ HX q.1):=by decide
theorem aJf(h:q<16):(HX.extract q (q+1)).size=1/\LJ (cZ (HX.extract q (q+1)) 0):=by
 refine⟨by rw[ByteArray.size_extract];have:HX.size=16:=rfl;omega,?_⟩;have e:cZ (HX.extract q (q+1)) 0=cZ HX q:=by
  unfold cZ;rw[iX,show q+1 - q=1 by omega,List.getElem?_take_of_lt (by decide),List.getElem?_drop];rfl
 rw[e];exact aJi ⟨q,h⟩
theorem aGe{b:UInt8}(hi:i<8)(hb:l[i]?=some b):(jJ l)[i]?=some b:=by have hlt:=(aNz.1 hb).1;rw[jJ,List.getElem?_append_left (by rw[aOJ];omega),List.getElem?_take_of_lt hi,hb]
theorem aDb(hi:i<8)(hl:l.length<=i):(jJ l)[i]?=some 0:=by rw[jJ,List.getElem?_append_right (by rw[aOJ];omega),List.getElem?_replicate,aNu (by rw[aOJ];omega)]
theorem aGm(D i:Nat)(hi:i<16):D / 16 ^ i % 16=FN D (15 - i):=by rw[FN,show 60 - 4*(15 - i)=4*i by omega,Nat.pow_mul]
theorem aJg:∀q:Fin 16,(HX.extract q.1 (q.1+1)).data.toList=[UInt8.ofNat (nM q.1).toNat]:=fun q=>by
 rw[iX,show q.1+1 - q.1=1 by omega];revert q;decide
theorem U5(D:Nat):(tN D).length=16:=by rw[tN,aNv,List.length_range]
theorem aE1(D:Nat)(h:i<16):(tN D)[i]?=some (UInt8.ofNat (nM (FN D i)).toNat):=by rw[tN,aOP,List.getElem?_range h];rfl
theorem aEZ(D:Nat)(h:i<16):HX.extract (D / 16 ^ i % 16) (D / 16 ^ i % 16+1)++ofL ((tN D).drop (16 - i))=ofL ((tN D).drop (16 - (i+1))):=by
 refine rG ?_;rw[ByteArray.data_append,Array.toList_append,aJg ⟨_,Nat.mod_lt _ (by decide)⟩,cO,cO];show UInt8.ofNat (nM (D / 16 ^ i % 16)).toNat::(tN D).drop (16 - i)=_;rw[aGm D i h,show 16 - (i+1)=15 - i by omega,show 16 - i=15 - i+1 by omega];have hlt:15 - i<(tN D).length:=by rw[U5];omega
 rw[List.drop_eq_getElem_cons hlt];have:=aE1 D (i:=15 - i) (by omega);rw[aOA hlt]at this;rw[Option.some.inj this]
theorem rQ(s:ByteArray)(hs:s.size<1000000000)(H:aB):aH Tryz.prog 97 [sv s] H (fun r H'=>r=sv (fA s)/\H'=H):=by
 refine Pu ?_;have hsl:=bB s;have hst0:bits .xor .u64 1181783497276652981 (s.size:Int)=((N5 s.size:Nat):Int):=bits_xor_u64_nat 1181783497276652981 s.size (by decide) (by omega);have hst1:N5 s.size<18446744073709551616:=aA5 (by omega);obtain ⟨D,hD⟩:∃D,D=MC (N5 s.size) s.data.toList:=⟨_,rfl⟩;have hdig:fA s=ofL (tN D):=by rw[fA,<-hD];rfl
 rw[hdig];clear hdig;refine Bd func97 rfl ntmps97<|Sr<|Dd aM<|Zz<|Sr<|Dd aG<|Dd (nF underlying9)<|Dd (by exact fP rfl underlying3 iL rfl (TG (by omega)))<|Dd (by exact kU rfl (by simp) rfl rfl hst0)<|Dd aM<|Zz<|Sq<|Sr<|Dd aM<|Zz<|aD ?_;refine iA (fun(j st:Nat)=>([(0,sv s),(3,uv st),(4,iv ((8*j:Nat):Int))],[])) (fun j st=>8*j<=s.size+8/\st<18446744073709551616/\((8*j<=s.size/\MC st (s.data.toList.drop (8*j))=D)\/(s.size<8*j/\st=D))) (fun j st=>s.size+8 - 8*j) 0 (N5 s.size) ⟨by omega,hst1,.inl ⟨by omega,by rw[hD];rfl⟩⟩ ?_ ?_
 ·exact Wk
 rintro j st ⟨hj,hst,hinv⟩;refine Sq<|Sr<|Dd aG<|Dd aG<|Dd (nF underlying9)<|Dd TA<|Zz ?_;refine Cn ?_ ?_<;>intro hc1
 ·have hle:8*j<=s.size:=by have:=aNr hc1;omega
  have hdd:MC st (s.data.toList.drop (8*j))=D:=by
   rcases hinv with⟨_,h⟩|⟨h,_⟩
   ·exact h
   omega
  obtain ⟨R,hR⟩:∃R,R=s.data.toList.drop (8*j):=⟨_,rfl⟩;have hRl:R.length=s.size - 8*j:=by rw[hR,aOK,hsl]
  have hp8:=UF R;rw[<-hR]at hdd;refine aF<|Sq<|aD<|Sr<|Dd aM<|Zz<|Sq<|Sr<|Dd aG<|Dd aM<|Zz<|aD ?_;refine bL (σ:=Nat) (fun i=>([(0,sv s),(3,uv st),(4,iv ((8*j:Nat):Int)),(5,uv (rI ((jJ R).take i))),(6,iv ((8*j+i:Nat):Int))],[])) (fun i=>i<=8) (fun i=>8 - i) 0 (aOM _) ?_ ?_
  ·exact Wk
  intro i hi;by_cases h8:i<8
  ·obtain ⟨y,hy⟩:=aV (l:=jJ R) (k:=i) (by omega);have hnx:rI ((jJ R).take (i+1))=rI ((jJ R).take i)*256+y.toNat:=by rw[kY hy,QN]
   have h7:rI ((jJ R).take i)<72057594037927936:=WM (by rw[aOJ];omega);have hyb:y.toNat<256:=y.toNat_lt;obtain ⟨b,hb⟩:∃b,b=rI ((jJ R).take i):=⟨_,rfl⟩;rw[<-hb]at hnx h7 |-;refine Sq<|Sr<|Dd aG<|Dd aG<|Dd (by exact bG rfl rfl rfl (show IntKind.i64.wrap (((8*j:Nat):Int)+8)=((8*j+8:Nat):Int)by rw[iY (by omega) (by omega)];omega))<|Dd cP<|Zz ?_;refine Cn ?_ ?_<;>intro hc2
   ·refine aF<|Sq<|aD<|Sr<|Dd aG<|Dd (by exact lH rfl rfl rfl (show IntKind.u64.wrap ((b:Int)*256)=((b*256:Nat):Int)by rw[IntKind.wrap_u64];omega))<|Dd aM<|Zz<|Sr<|Dd aG<|Dd aG<|Dd (nF underlying9)<|Dd cP<|Zz ?_;refine Cn ?_ ?_<;>intro hc3
    ·have hlt2:8*j+i<s.size:=by have:=aNr hc3;omega
     have hby:cZ s (8*j+i)=(y.toNat:Int):=by
      have hri:R[i]?=s.data.toList[8*j+i]?:=by rw[hR,List.getElem?_drop]
      obtain ⟨z,hz⟩:=aV (l:=s.data.toList) (k:=8*j+i) (by omega);have:=aGe (l:=R) h8 (hri.trans hz);rw[hy]at this;rw[cZ,hz,<-Option.some.inj this];rfl
     refine Rg<|Dd aG<|Dd aG<|Dd aG<|Dd (by exact dW rfl underlying9 rfl rfl (by omega) (by exact aOG _) (by omega) rfl)<|Dd (by exact fP rfl dU iL rfl (show IntKind.u64.wrap (cZ s (8*j+i))=((y.toNat:Nat):Int)by rw[hby,TG (by omega)]))<|Dd (by exact bG rfl rfl rfl (show IntKind.u64.wrap (((b*256:Nat):Int)+((y.toNat:Nat):Int))=((b*256+y.toNat:Nat):Int)by rw[IntKind.wrap_u64];omega))<|Dd aM<|Zz<|Rg<|Dd aG<|Dd (by exact bG rfl rfl rfl (show IntKind.i64.wrap (((8*j+i:Nat):Int)+1)=((8*j+(i+1):Nat):Int)by rw[iY (by omega) (by omega)];omega))<|Da ?_;refine⟨i+1,by omega,by omega,?_⟩;rw[hnx];exact Wk
    have hge2:s.size<=8*j+i:=by have:=aNs hc3;omega
    have hy0:y.toNat=0:=by
     have:=aDb (l:=R) h8 (by omega);rw[hy]at this;rw[Option.some.inj this];rfl
    refine aF<|Rg<|Dd aG<|Dd (by exact bG rfl rfl rfl (show IntKind.i64.wrap (((8*j+i:Nat):Int)+1)=((8*j+(i+1):Nat):Int)by rw[iY (by omega) (by omega)];omega))<|Da ?_;refine⟨i+1,by omega,by omega,?_⟩;rw[hnx,hy0,Nat.add_zero];exact Wk
   (have h:=aNs hc2;omega)
  have h88:i=8:=by omega
  subst h88;have htk:(jJ R).take 8=jJ R:=List.take_of_length_le (by omega);rw[htk];refine Sq<|Sr<|Dd aG<|Dd aG<|Dd (by exact bG rfl rfl rfl (show IntKind.i64.wrap (((8*j:Nat):Int)+8)=((8*j+8:Nat):Int)by rw[iY (by omega) (by omega)];omega))<|Dd cP<|Zz ?_;refine Cn ?_ ?_<;>intro hc4
  ·(have h:=aNr hc4;omega)
  have hlt:=MW (l:=jJ R) (by omega);have hmx:=fun H=>aIr (st ^^^ rI (jJ R)) (zZ hst hlt) H;refine aY<|Rg<|Dd aG<|Dd aG<|Dd (by exact kU rfl (by simp) rfl rfl (bits_xor_u64_nat st (rI (jJ R)) hst hlt))<|Dd (by exact aA rfl rfl call141 rfl (hmx _))<|Dd aM<|Zz<|Rg<|Dd aG<|Dd (by exact bG rfl rfl rfl (show IntKind.i64.wrap (((8*j:Nat):Int)+8)=((8*(j+1):Nat):Int)by rw[iY (by omega) (by omega)];omega))<|Da ?_;refine⟨j+1,IE (st ^^^ rI (jJ R)),⟨by omega,RX _,?_⟩,by omega,Wk⟩;by_cases hge:8<=R.length
  ·refine .inl ⟨by omega,?_⟩;have hpt:jJ (R.take 8)=jJ R:=by
    rw[jJ,jJ,List.take_take,aOJ,Nat.min_eq_left hge];rw[show 8 - R.length=0 by omega];rfl
   have h1:=P8 st hge;rw[hpt,hdd,hR,List.drop_drop]at h1;rw[hR,show 8*(j+1)=8*j+8 by omega,h1]
  refine .inr ⟨by omega,?_⟩;rw[<-P9 st (by omega),hdd]
 have hgt:s.size<8*j:=by have:=aNs hc1;omega
 have hstD:st=D:=by
  rcases hinv with⟨h,_⟩|⟨_,h⟩
  ·omega
  exact h
 subst hstD;have hl16:=U5 st;have hz0:ofL ((tN st).drop (16 - 0))=⟨#[]⟩:=by rw[List.drop_of_length_le (by omega)];rfl
 have hd0:st / 16 ^ 0=st:=by rw[Nat.pow_zero,Nat.div_one]
 refine aY<|Sr<|Dd aM<|Zz<|Sq<|Sr<|Dd aM<|Zz<|aD ?_;refine bL (σ:=Nat) (fun i=>([(3,uv (st / 16 ^ i)),(7,sv (ofL ((tN st).drop (16 - i)))),(8,iv (i:Int))],[])) (fun i=>i<=16) (fun i=>16 - i) 0 (aOM _) ?_ ?_
 ·rw[hz0,hd0];exact Wk
 intro i hi;obtain ⟨v,hv⟩:∃v,v=st / 16 ^ i:=⟨_,rfl⟩;have hbd:v<18446744073709551616:=by rw[hv];exact Nat.lt_of_le_of_lt (Nat.div_le_self _ _) hst
 have hv2:st / 16 ^ (i+1)=v / 16:=by rw[hv,Nat.pow_succ,<-Nat.div_div_eq_div_mul]
 rw[<-hv];have hm:((v:Nat):Int).tmod 16=((v % 16:Nat):Int):=by rw[Int.tmod_eq_emod_of_nonneg (by omega)];omega
 have hq:IntKind.u64.wrap (((v:Nat):Int).tdiv 16)=((v / 16:Nat):Int):=by
  rw[Int.tdiv_eq_ediv_of_nonneg (by omega),IntKind.wrap_u64];omega
 have hq16:v % 16<16:=Nat.mod_lt _ (by decide);have hone:=aJf hq16;have htl:(ofL ((tN st).drop (16 - i))).size=i:=by rw[eF,aOK];omega
 by_cases h16:i<16
 ·have hnx:=aEZ st h16;rw[<-hv]at hnx;obtain ⟨g,hg⟩:∃g,g=v % 16:=⟨_,rfl⟩;rw[<-hg]at hm hq16 hone hnx;refine Sq<|Sr<|Dd aG<|Dd cP<|Zz ?_;refine Cn ?_ ?_<;>intro hc5
  ·refine aF<|Sq<|aD<|Sr<|Dd aG<|Dd (by exact pW rfl rfl rfl (by decide) hm)<|Dd aG<|Dd (by exact pW rfl rfl rfl (by decide) hm)<|Dd (by exact bG rfl rfl rfl (show IntKind.u64.wrap ((g:Int)+1)=((g+1:Nat):Int)by rw[IntKind.wrap_u64];omega))<|Dd (by exact cI (l:=g) (h:=g+1) rfl underlying9 rfl rfl rfl (by omega) (show g+1<=HX.size from by have:HX.size=16:=rfl;omega) rfl)<|Dd aG<|Dd (by exact gJ rfl rfl rfl (show (HX.extract g (g+1)).size+(ofL ((tN st).drop (16 - i))).size<=9223372036854775807 by rw[hone.1,htl];omega) hnx)<|Dd aM<|Zz<|Rg<|Dd aG<|Dd (by exact rR rfl rfl rfl (by decide) hq)<|Dd aM<|Zz<|Rg<|Dd aG<|Dd (by exact bG rfl rfl rfl (show IntKind.i64.wrap ((i:Int)+1)=((i+1:Nat):Int)by rw[iY (by omega) (by omega)];omega))<|Da ?_;refine⟨i+1,by omega,by omega,?_⟩;rw[hv2];exact Wk
  (have h:=aNs hc5;omega)
 have h66:i=16:=by omega
 subst h66;refine Sq<|Sr<|Dd aG<|Dd cP<|Zz ?_;refine Cn ?_ ?_<;>intro hc6
 ·(have h:=aNr hc6;omega)
 exact aY<|Sr<|Dd aG<|Dd aM<|Zz<|aE<|Rt<|Qq
end Go.Proofs.YtmdicgjnmfolfaaGreatDoor
namespace Go.Proofs.YtmdicgjnmfolfaaGreatDoor
open Go.Proofs.Tryz
open Go.Abs
def st1(c:UInt8):ByteArray:=⟨#[c]⟩
def aIK(c:UInt8):GObj:=⟨st1 c,1,(c.toNat:Int),0,[],[]⟩
def cs3:List UInt8:=[97,98,99]
def aM8:GObj:=⟨st1 119,2,0,0,cs3.map st1,[]⟩
def s0:List GObj:=cs3.map aIK++[aM8]
def x1:List GObj:=cs3.map aIK++[⟨st1 118,2,0,0,[st1 98,st1 99],[]⟩,⟨st1 119,2,0,0,[st1 97,st1 98],[]⟩]
end Go.Proofs.YtmdicgjnmfolfaaGreatDoor
section
namespace Go.Proofs.YtmdicgjnmfolfaaGreatDoor
open Go.Proofs.Tryz
open Go.Abs
structure M3 where
 k:ByteArray
 b:ByteArray
 o:ByteArray
 t:ByteArray
end Go.Proofs.YtmdicgjnmfolfaaGreatDoor
namespace Go.Abs

end Go.Abs
namespace Go.Proofs.YtmdicgjnmfolfaaGreatDoor
open Go.Proofs.Tryz
open Go.Abs

end Go.Proofs.YtmdicgjnmfolfaaGreatDoor
end
namespace Go.Proofs.YtmdicgjnmfolfaaGreatDoor
open Go.Proofs.Tryz
open Go.Abs
def m1(p:M3):ByteArray×Bool:=if p.t=p.o then(p.o,false)else if p.t=p.b then(p.o,false)else if p.o=p.b then(p.t,false)else(p.b,true)
def zs(down:Bool):List Int:=if down then[2,1,0]else[0,1,2]
def aMw(m:List GObj)(down:Bool):List GObj:=(zs down).flatMap fun z=>m.filter fun o=>decide (o.kind.tdiv 2=z)
def aJn(b:List GObj)(o:GObj):Bool:=match aMv b o.id with
 |some p=>!decide (p.kind=o.kind)||(decide (o.kind=5)&&!decide (o.refs=p.refs))
 |none=>false
def rnB(b:List GObj)(X:List ByteArray)(o:GObj):Bool:=aJn b o||o.refs.any (inB X)
def rnL(b:List GObj):List ByteArray->List GObj->List ByteArray
 |X,[]=>X
 |X,o::L=>rnL b (if rnB b X o then X++[o.id]else X) L
def aMV(a b:List GObj):List ByteArray:=rnL b [] (aMw a false)
section
section
variable{a b:List GObj}
def c1(k:GObj×GObj):GObj:=⟨k.1.id,k.1.kind,k.2.x,k.2.y,k.1.refs,k.1.tags⟩
def c2(k:GObj×GObj):GObj:=⟨k.1.id,k.1.kind,k.2.x,k.2.y,k.2.refs,k.1.tags⟩
def c3(k:GObj×GObj):GObj:=⟨k.1.id,k.1.kind,k.2.x,k.2.y,k.2.refs,k.2.tags⟩
end
end
theorem cH.valY{P:Program}{N:Nat}{o:Oper}{E:bS}{H H':aB}{b b':Bool}(h:cH P N o E H (.pv (.bool b)) H')(e:b=b'):cH P N o E H (.pv (.bool b')) H':=e▸h
end Go.Proofs.YtmdicgjnmfolfaaGreatDoor
namespace Go.Proofs.YtmdicgjnmfolfaaGreatDoor
open Go.Proofs.Tryz
section
def aIg(u:List Nat)(i:Nat):Nat:=u.getD i i
def aKq:Nat->List Nat->Nat->Nat
 |0,_,i=>i
 |n+1,u,i=>if aIg u i=i then i else aKq n u (aIg u i)
def top(u:List Nat)(i:Nat):Nat:=aKq i u i
def aNM(u:List Nat):Prop:=∀i,aIg u i<=i
def Inv(L:Nat->Nat->Prop)(f:Nat->Nat):Prop:=∀i k,L i k->f i=f k
structure Snd(L:Nat->Nat->Prop)(u:List Nat):Prop where
 ok:aNM u
 sn:∀f,Inv L f->∀x,f (top u x)=f x
section
variable{S:Type}[DecidableEq S]
def aHP:List (S×Nat)->S->Option Nat
 | [],_=>none
 |(k,v)::r,s=>if k=s then some v else aHP r s
structure I1(L:Nat->Nat->Prop)(W:Nat->List S)(k m:Nat)(st:List Nat×List (S×Nat)):Prop where
 len:st.1.length=m
 snd:Snd L st.1
 at_:∀s j,aHP st.2 s=some j->j<m/\s∈W j
 has:∀j,j<k->∀s,s∈W j->(aHP st.2 s).isSome=true
structure I2(L:Nat->Nat->Prop)(F:List (S×Nat))(N:Nat->List S)(n k:Nat)(u:List Nat):Prop where
 len:u.length=n
 snd:Snd L u
 same:∀i,i<k->∀s,s∈N i->∀j,aHP F s=some j->top u i=top u j
end
end
def aIF(f:Nat->Nat)(n:Nat):List Nat:=(List.range n).filter fun i=>f i=i
def grp(f:Nat->Nat)(n r:Nat):List Nat:=(List.range n).filter fun j=>f j=r
def aMz(f:Nat->Nat)(n:Nat):List (List Nat):=(aIF f n).map (grp f n)
def aN7(f:Nat->Nat)(n x:Nat):Nat:=(aIF f n).idxOf (f x)
end Go.Proofs.YtmdicgjnmfolfaaGreatDoor
namespace Go.Proofs.YtmdicgjnmfolfaaGreatDoor
open Go.Proofs.Tryz
open Go.Abs Go.Lib
theorem aBk(n:Nat):bI (n:Int)=ofL (decDigits n):=rG (by rw[PS,cO])
theorem aIS(x:Int)(h0:0<=x)(h1:x<9223372036854775808)(H:aB):aH Tryz.prog 99 [iv x] H (fun r H'=>r=sv (bI x)/\H'=H):=by obtain ⟨n,rfl⟩:=Int.eq_ofNat_of_zero_le h0;rw[aBk];exact T5 n (by omega) H
theorem lR{α:Type}(f:α->List PV)(l:List α){n:Nat}(h:l.length=n):((l.map f).take (0+n)).drop 0=l.map f:=by rw[<-h];exact lS f l
theorem fD(l:List ByteArray):∀r∈l.map encStr,r.length=1:=by intro r hr;obtain ⟨s,_,rfl⟩:=List.mem_map.1 hr;rfl
theorem aA9{t:ByteArray}(h:t.size<=20000):∀k,(mY t k).size<=20000
 |0=>h
 |k+1=>by rw[qS,eR];decide
theorem OM(s:ByteArray)(i k:Nat):(eL s i k).size<=20000:=by rw[qH];decide
theorem aIq(h:Nat)(H:aB)(hh:h<=60):aH Tryz.prog 98 [iv (h:Int)] H (fun r H'=>r=iv ((2 ^ h:Nat):Int)/\H'=H):=by
 refine Pu ?_;refine Bd func98 rfl ntmps98<|Sr<|Dd aM<|Zz<|Sr<|Dd aM<|Zz<|Sq<|Sr<|Dd aM<|Zz<|aD ?_;refine bL (σ:=Nat) (fun k=>([(0,iv (h:Int)),(3,iv ((2 ^ k:Nat):Int)),(4,iv (k:Int))],[])) (fun k=>k<=h) (fun k=>h - k) 0 (aOM _) ?_ ?_
 ·exact Wk
 intro k hk;have hp:2 ^ k<=2 ^ 60:=Nat.pow_le_pow_right (by decide) (by omega);have hp2:(2:Nat) ^ 60=1152921504606846976:=by decide
 have hn:2 ^ (k+1)=2*2 ^ k:=by rw[Nat.pow_succ,Nat.mul_comm]
 obtain ⟨q,hq⟩:∃q,q=2 ^ k:=⟨_,rfl⟩;rw[<-hq]at hp hn;rw[<-hq];refine Sq<|Sr<|Dd aG<|Dd aG<|Dd cP<|Zz ?_;refine Cn ?_ ?_<;>intro hc1
 ·have hlt:k<h:=by have:=aNr hc1;omega
  refine aF<|Sq<|aD<|Rg<|Dd aG<|Dd (by exact lH rfl rfl rfl (show IntKind.i64.wrap (2*(q:Int))=((2 ^ (k+1):Nat):Int)by rw[hn,iY (by omega) (by omega)];omega))<|Dd aM<|Zz<|Rg<|Dd aG<|Dd (by exact bG rfl rfl rfl (show IntKind.i64.wrap ((k:Int)+1)=((k+1:Nat):Int)by rw[iY (by omega) (by omega)];omega))<|Da ?_;exact⟨k+1,by omega,by omega,Wk⟩
 have hge:k=h:=by have:=aNs hc1;omega
 subst hge;refine aY<|Sr<|Dd aG<|Dd aM<|Zz<|aE<|Rt ?_;exact⟨by rw[hq],rfl⟩
def uS(s:ByteArray)(k:Nat):List ByteArray:=(List.range k).map (yD s)
theorem YJ(s:ByteArray)(k:Nat):uS s (k+1)=uS s k++[yD s k]:=by rw[uS,List.range_succ,List.map_append];rfl
theorem PM(s:ByteArray)(k:Nat):(uS s k).length=k:=by simp[uS]
end Go.Proofs.YtmdicgjnmfolfaaGreatDoor
namespace Go.Proofs.YtmdicgjnmfolfaaGreatDoor
open Go.Proofs.Tryz
open Go.Abs
variable{L sig path:List ByteArray}{a b s m:ByteArray}{h i:Nat}{S:ByteArray->Prop}
theorem LD:∀(L M:List ByteArray),(∀x∈L,nJ x)->(∀x∈M,nJ x)->aL L=aL M->L=M
 | [],[],_,_,_=>rfl
 | [],y::M,_,hM,h=>by
  have h2:=fQ M (hM y List.mem_cons_self);rw[<-h]at h2;cases h2
 |x::L,[],hL,_,h=>by
  have h2:=fQ L (hL x List.mem_cons_self);rw[h]at h2;cases h2
 |x::L,y::M,hL,hM,h=>by
  have h1:=fQ L (hL x List.mem_cons_self);have h2:=fQ M (hM y List.mem_cons_self);rw[h,h2]at h1;have h3:=Option.some.inj h1;have e1:y=x:=congrArg Prod.fst h3;have e2:aL M=aL L:=congrArg Prod.snd h3;rw[e1,LD L M (fun z hz=>hL z (List.mem_cons_of_mem _ hz)) (fun z hz=>hM z (List.mem_cons_of_mem _ hz)) e2.symm]
theorem DW{x:ByteArray}(h:x.size=16):nJ x:=by unfold nJ;omega
def lT(L:List ByteArray):ByteArray:=ofL (aL L)
theorem YI{M:List ByteArray}(hL:∀x∈L,nJ x)(hM:∀x∈M,nJ x)(h:lT L=lT M):L=M:=by
 refine LD L M hL hM ?_;have:=congrArg (fun x=>x.data.toList) h
 simpa only[lT,cO]using this
def B4(a b:ByteArray):ByteArray:=lT [wG,a,b]
theorem GA(ha:a.size=16)(hb:b.size=16):∀x∈[wG,a,b],nJ x:=by
 intro x hx;simp only[aOH,aOL,or_false]at hx;rcases hx with rfl|rfl|rfl
 ·unfold nJ;decide
 ·exact DW ha
 exact DW hb
theorem aAJ{c d:ByteArray}(ha:a.size=16)(hb:b.size=16)(hc:c.size=16)(hd:d.size=16)(h:B4 a b=B4 c d):a=c/\b=d:=by have:=YI (GA ha hb) (GA hc hd) h;simp only[List.cons.injEq,and_true,true_and]at this;exact this
def NIn(S:ByteArray->Prop):ByteArray->List ByteArray->Nat->Prop
 |_,[],_=>True
 |a,o::r,i=>S (if i % 2=1 then B4 o a else B4 a o)/\NIn S (if i % 2=1 then jD o a else jD a o) r (i / 2)
def MZ(S:ByteArray->Prop):Prop:=∀x y,S x->S y->fA x=fA y->x=y
theorem lY(a b:ByteArray):(jD a b).size=16:=eR _
theorem EW{S:ByteArray->Prop}(nc:MZ S):∀(p q:List ByteArray) (a b:ByteArray) (i:Nat),p.length=q.length->a.size=16->b.size=16->(∀x∈p,x.size=16)->(∀x∈q,x.size=16)->NIn S a p i->NIn S b q i->gX a p i=gX b q i->a=b/\p=q
 | [],[],a,b,i,_,_,_,_,_,_,_,h=>⟨h,rfl⟩
 | [],y::q,_,_,_,h,_,_,_,_,_,_,_=>by simp at h
 |x::p,[],_,_,_,h,_,_,_,_,_,_,_=>by simp at h
 |o::p,u::q,a,b,i,hl,ha,hb,hp,hq,n1,n2,h=>by
  obtain ⟨s1,n1⟩:=n1;obtain ⟨s2,n2⟩:=n2;have ho:=hp o List.mem_cons_self;have hu:=hq u List.mem_cons_self;rw[gX,gX]at h;have hz:∀c d:ByteArray,(if i % 2=1 then jD c d else jD d c).size=16:=fun c d=>by split<;>exact lY _ _
  obtain ⟨e1,e2⟩:=EW nc p q _ _ (i / 2) (by simpa using hl) (hz o a) (hz u b) (fun x hx=>hp x (List.mem_cons_of_mem _ hx)) (fun x hx=>hq x (List.mem_cons_of_mem _ hx)) n1 n2 h;by_cases hi:i % 2=1
  ·rw[aNu hi]at s1 s2 e1;rw[aNu hi]at e1;obtain ⟨q1,q2⟩:=aAJ ho ha hu hb (nc _ _ s1 s2 e1);rw[q1,q2,e2];exact⟨rfl,rfl⟩
  rw[aNt hi]at s1 s2 e1;rw[aNt hi]at e1;obtain ⟨q1,q2⟩:=aAJ ha ho hb hu (nc _ _ s1 s2 e1);rw[q1,q2,e2];exact⟨rfl,rfl⟩
theorem LW:∀(p q:List ByteArray) (a:ByteArray) (i:Nat),gX a (p++q) i=gX (gX a p i) q (i / 2 ^ p.length)
 | [],q,a,i=>by rw[List.nil_append,gX,List.length_nil,Nat.pow_zero,Nat.div_one]
 |o::p,q,a,i=>by
  rw[List.cons_append,gX,LW p q,gX,aNx,Nat.pow_succ,Nat.mul_comm,<-Nat.div_div_eq_div_mul]
theorem S5{S:ByteArray->Prop}:∀(p q:List ByteArray) (a:ByteArray) (i:Nat),NIn S a (p++q) i->NIn S a p i/\NIn S (gX a p i) q (i / 2 ^ p.length)
 | [],q,a,i,h=>⟨trivial,by rw[gX,List.length_nil,Nat.pow_zero,Nat.div_one];exact h⟩
 |o::p,q,a,i,h=>by
  obtain ⟨h1,h2⟩:=h;obtain ⟨h3,h4⟩:=S5 p q _ _ h2;refine⟨⟨h1,h3⟩,?_⟩;rw[gX,aNx,Nat.pow_succ,Nat.mul_comm,<-Nat.div_div_eq_div_mul];exact h4
theorem GO{S:ByteArray->Prop}:∀(p:List ByteArray) (a:ByteArray) (i:Nat),p≠[]->a.size=16->(∀x∈p,x.size=16)->NIn S a p i->∃c d,c.size=16/\d.size=16/\S (B4 c d)/\gX a p i=jD c d
 | [],_,_,h,_,_,_=>absurd rfl h
 | [o],a,i,_,ha,hp,hn=>by
  have ho:=hp o List.mem_cons_self;obtain ⟨h1,_⟩:=hn;rw[gX,gX];by_cases hi:i % 2=1
  ·rw[aNu hi]at h1 |-;exact⟨o,a,ho,ha,h1,rfl⟩
  rw[aNt hi]at h1 |-;exact⟨a,o,ha,ho,h1,rfl⟩
 |o::u::p,a,i,_,ha,hp,hn=>by
  rw[gX];exact GO (u::p) _ _ (by simp) (by split<;>exact lY _ _) (fun x hx=>hp x (List.mem_cons_of_mem _ hx)) hn.2
theorem MI{S:ByteArray->Prop}(nc:MZ S):∀(n:Nat) (x y:ByteArray),(∀j,j<n->S (mY x j))->(∀j,j<n->S (mY y j))->mY x n=mY y n->x=y
 |0,_,_,_,_,h=>h
 |n+1,x,y,hx,hy,h=>by
  rw[qS,qS]at h;exact MI nc n x y (fun j hj=>hx j (by omega)) (fun j hj=>hy j (by omega)) (nc _ _ (hx n (by omega)) (hy n (by omega)) h)
structure Texts(S:ByteArray->Prop)(s m:ByteArray)(h:Nat)(sig path:List ByteArray)(i:Nat):Prop where
 m1:∀i,i<2 ^ h->∀k,k<18->∀j,j<15->S (mY (eL s i k) j)
 m2:∀i,i<2 ^ h->S (lT (kD s i))
 m3:∀i,i<2 ^ h->NIn S (yD s i) (gV h (fG s h) i) i
 c1:∀k,k<18->∀j,j<15 - (wU m).getD k 0->S (mY (sig.getD k sNil) j)
 c2:S (lT (iQ m sig))
 c3:NIn S (pB (iQ m sig)) path i
theorem A4(s:ByteArray)(i:Nat):∀x∈kD s i,x.size=16:=by intro x hx;obtain ⟨k,_,rfl⟩:=List.mem_map.1 hx;exact FB (qH s i k) 15
theorem E4(m:ByteArray)(hs:∀t∈sig,t.size=16):∀x∈iQ m sig,x.size=16:=by
 intro x hx;rw[iQ,aOQ]at hx;obtain ⟨k,hk⟩:=hx;rw[List.getElem?_zipWith]at hk;cases ha:sig[k]? with
 |none=>rw[ha]at hk;simp at hk
 | some a =>
  cases hb:(wU m)[k]? with
  |none=>rw[ha,hb]at hk;simp at hk
  |some b =>
   rw[ha,hb]at hk;simp at hk;rw[<-hk];exact FB (hs a (aOF ha)) _
theorem wT(s:ByteArray)(i:Nat):(kD s i).length=18:=by simp[kD]
theorem GR(m:ByteArray)(hl:sig.length=18):(iQ m sig).length=18:=by rw[iQ,List.length_zipWith,hl,sC];rfl
theorem EQ(hL:∀x∈L,x.size=16)(hl:L.length=18)(ha:a.size=16)(hb:b.size=16):lT L≠B4 a b:=fun h=>by
 have:=YI (fun x hx=>DW (hL x hx)) (GA ha hb) h;rw[this]at hl;simp at hl
theorem aEO(s:ByteArray)(h:Nat):∀t∈fG s h,t.size=16:=fun t ht=>jN (sL s h t ht)
theorem IW(s:ByteArray)(hi:i<2 ^ h):∀t∈gV h (fG s h) i,t.size=16:=fun t ht=>jN (BH h (fG s h) i (mH s h) hi (sL s h) t ht)
theorem sM(s:ByteArray)(i:Nat):(yD s i).size=16:=eR _
theorem aGc(nc:MZ S)(T:Texts S s m h sig path i)(hsl:sig.length=18)(hs:∀t∈sig,t.size=16)(hp:∀t∈path,t.size=16)(hi:i<2 ^ path.length)
  (hf:gX (pB (iQ m sig)) path i=oP s h):i<2 ^ h/\path=gV h (fG s h) i/\pB (iQ m sig)=yD s i:=by
 have hroot:∀i',i'<2 ^ h->gX (yD s i') (gV h (fG s h) i') i'=oP s h:=fun i' h'=>by
  have:=BU h (fG s h) i' (mH s h) h';rw[BQ s h']at this;exact this
 have hV:=E4 m hs;have hVl:=GR m hsl;have hat:(pB (iQ m sig)).size=16:=eR _;rcases Nat.lt_trichotomy path.length h with hlt|heq|hgt
 ·-- the path is too short
  exfalso;obtain ⟨d,hd⟩:∃d,h=d+path.length:=⟨h - path.length,by omega⟩;have hd0:d≠0:=by omega
  have hi':i*2 ^ d<2 ^ h:=by rw[hd,Nat.pow_add,Nat.mul_comm];exact Nat.mul_lt_mul_of_pos_left hi (Nat.two_pow_pos d)
  have hr:=hroot _ hi';have hn:=T.m3 _ hi';have hz:=IW s hi';have hlen:=sJ h (fG s h) (i*2 ^ d);obtain ⟨P,hP⟩:∃P,P=gV h (fG s h) (i*2 ^ d):=⟨_,rfl⟩;rw[<-hP]at hr hn hz hlen;have hsplit:P=P.take d++P.drop d:=(List.take_append_drop d P).symm;have htl:(P.take d).length=d:=by rw[aOJ];omega
  rw[hsplit]at hr hn;rw[LW,htl,Nat.mul_div_cancel _ (Nat.two_pow_pos d)]at hr;obtain ⟨n1,n2⟩:=S5 _ _ _ _ hn;rw[htl,Nat.mul_div_cancel _ (Nat.two_pow_pos d)]at n2;have hz1:∀x∈P.take d,x.size=16:=fun x hx=>hz x (List.mem_of_mem_take hx);have hz2:∀x∈P.drop d,x.size=16:=fun x hx=>hz x (List.mem_of_mem_drop hx);obtain ⟨c,e,hc,he,hS,hfold⟩:=GO (P.take d) _ _ (fun h0=>hd0 (by rw[<-htl,h0];rfl)) (sM s _) hz1 n1;rw[hfold]at hr n2;obtain ⟨q1,_⟩:=EW nc path (P.drop d) _ _ i (by rw[aOK];omega) hat (lY c e) hp hz2 T.c3 n2 (hf.trans hr.symm);exact EQ hV hVl hc he (nc _ _ T.c2 hS q1)
 ·have hi':i<2 ^ h:=heq▸hi;obtain ⟨q1,q2⟩:=EW nc path (gV h (fG s h) i) _ _ i (by rw[sJ,heq]) hat (sM s i) hp (IW s hi') T.c3 (T.m3 i hi') (hf.trans (hroot i hi').symm);exact⟨hi',q2,q1⟩
 exfalso;obtain ⟨d,hd⟩:∃d,path.length=d+h:=⟨path.length - h,by omega⟩;have hd0:d≠0:=by omega
 have hi':i / 2 ^ d<2 ^ h:=by
  rw[Nat.div_lt_iff_lt_mul (Nat.two_pow_pos d),<-Nat.pow_add,Nat.add_comm,<-hd];exact hi
 have hr:=hroot _ hi';have hn:=T.m3 _ hi';have hz:=IW s hi';have hlen:=sJ h (fG s h) (i / 2 ^ d);have hsplit:path=path.take d++path.drop d:=(List.take_append_drop d path).symm;have htl:(path.take d).length=d:=by rw[aOJ];omega
 have hc3:=T.c3;rw[hsplit]at hf hc3;rw[LW,htl]at hf;obtain ⟨n1,n2⟩:=S5 _ _ _ _ hc3;rw[htl]at n2;have hz1:∀x∈path.take d,x.size=16:=fun x hx=>hp x (List.mem_of_mem_take hx);have hz2:∀x∈path.drop d,x.size=16:=fun x hx=>hp x (List.mem_of_mem_drop hx);obtain ⟨c,e,hc,he,hS,hfold⟩:=GO (path.take d) _ _ (fun h0=>hd0 (by rw[<-htl,h0];rfl)) hat hz1 n1;rw[hfold]at hf n2;obtain ⟨q1,_⟩:=EW nc (path.drop d) (gV h (fG s h) (i / 2 ^ d)) _ _ (i / 2 ^ d) (by rw[aOK,hlen];omega) (lY c e) (sM s _) hz2 hz n2 hn (hf.trans hr.symm);exact EQ (A4 s _) (wT s _) hc he (nc _ _ (T.m2 _ hi') hS q1.symm)
theorem aIn(nc:MZ S)(T:Texts S s m h sig path i)(hsl:sig.length=18)(hs:∀t∈sig,t.size=16)(hi:i<2 ^ h)(hk:pB (iQ m sig)=yD s i):sig=B1 s i m:=by
 have he:iQ m sig=kD s i:=YI (fun x hx=>DW (E4 m hs x hx)) (fun x hx=>DW (A4 s i x hx)) (nc _ _ T.c2 (T.m2 i hi) hk);refine List.ext_getElem? fun k=>?_;by_cases hk18:k<18
 ·obtain ⟨x,hx⟩:=aV (l:=sig) (k:=k) (by omega);obtain ⟨d,hd⟩:=aV (l:=wU m) (k:=k) (by rw[sC];exact hk18);have hd15:=MD m d (aOF hd);have hgd:(wU m).getD k 0=d:=by rw[List.getD_eq_getElem?_getD,hd];rfl
  have hgx:sig.getD k sNil=x:=by rw[List.getD_eq_getElem?_getD,hx];rfl
  have h1:(iQ m sig)[k]?=some (mY x (15 - d)):=by rw[iQ,List.getElem?_zipWith,hx,hd]
  have h2:(kD s i)[k]?=some (mY (eL s i k) 15):=by rw[kD,aOP,List.getElem?_range hk18];rfl
  rw[he,h2]at h1;have h3:=Option.some.inj h1;have h4:mY (eL s i k) 15=mY (mY (eL s i k) d) (15 - d):=by rw[FC,show d+(15 - d)=15 by omega]
  have hc1:=T.c1 k hk18;rw[hgd,hgx]at hc1;have h5:=MI nc (15 - d) x (mY (eL s i k) d) hc1 (fun j hj=>by rw[FC];exact T.m1 i hi k hk18 (d+j) (by omega)) (h3.symm.trans h4);rw[hx,B1,aOP,List.getElem?_range hk18,h5];show _=some (mY (eL s i k) ((wU m).getD k 0));rw[hgd]
 rw[List.getElem?_eq_none (by omega),List.getElem?_eq_none (by rw[DX];omega)]
end Go.Proofs.YtmdicgjnmfolfaaGreatDoor
namespace Go.Proofs.YtmdicgjnmfolfaaGreatDoor
open Go.Proofs.Tryz
open Go.Abs Go.Lib
variable{n k i:Nat}{l:List ByteArray}{a b:ByteArray}
def M7(t:ByteArray)(n:Nat):List ByteArray:=(List.range (n+1)).map (mY t)
theorem aEs(t:ByteArray)(n:Nat):M7 t (n+1)=M7 t n++[mY t (n+1)]:=by rw[M7,List.range_succ,List.map_append];rfl
theorem yQ(t:ByteArray)(n:Nat):(M7 t n).length=n+1:=by simp[M7]
theorem aA8(t:ByteArray)(h:k<=n):(M7 t n)[k]?=some (mY t k):=by rw[M7,aOP,List.getElem?_range (by omega)];rfl
theorem KJ(t:ByteArray)(n:Nat)(H:aB)(ht:t.size<=20000)(hn:n<=1000):aH Tryz.prog 100 [sv t,iv (n:Int)] H (fun r H'=>r=.pv (aS (M7 t n))/\H'=H):=by
 refine Pu ?_;refine Bd func100 rfl ntmps100<|Sr<|Dd aM<|Zz<|Sr<|Dd aG<|Dd (by exact pG (id:=905) rfl bT rfl rfl rfl rfl (by intro r hr;rw[aNy]at hr;subst hr;rfl) rfl)<|Dd aM<|Zz<|Sq<|Sr<|Dd aM<|Zz<|aD ?_;refine bL (σ:=Nat) (fun k=>([(0,sv (mY t k)),(1,iv (n:Int)),(5,.osl 905 k 0 (k+1)),(6,iv (k:Int))],[(905,⟨k,1,9,bP (M7 t k)⟩)])) (fun k=>k<=n) (fun k=>n - k) 0 (aOM _) ?_ ?_
 ·exact(cD.wk (Eb<|Eb<|Ea<|Eb<|trivial) (Hc (aU _ _)<|trivial) trivial)
 intro k hk;have hsz:=aA9 ht k;have hsu:=fun H=>rQ (mY t k) (by omega) H;have hlw:(bP (M7 t k)).length=k+1:=by rw[cT,yQ]
 have hnx:=aEs t k;rw[<-qS]at hsu;refine Sq<|Sr<|Dd aG<|Dd aG<|Dd cP<|Zz ?_;refine Cn ?_ ?_<;>intro hc1
 ·have hlt:k<n:=by have:=aNr hc1;omega
  refine aF<|Sq<|aD<|Sr<|Dd aG<|Dd (by exact aA rfl rfl pT rfl (hsu _))<|Dd aM<|Zz<|Rg<|Dd aG<|Dd aG<|Dd (by exact aQ ([mY t (k+1)].map encStr) rfl bT rfl rfl rfl rfl rfl (fD _))<|Dd (by exact cF (ob:=⟨k,1,9,bP (M7 t k)⟩) (k:=k+1+1) (ps:=[mY t (k+1)].map encStr) rfl bT CH rfl rfl rfl rfl rfl hlw rfl (fD _) (m:=1) rfl (by omega) rfl (rows':=bP (M7 t (k+1))) (by rw[hnx];exact eN _ _))<|Dd aM<|Zz<|Rg<|Dd aG<|Dd (by exact bG rfl rfl rfl (show IntKind.i64.wrap ((k:Int)+1)=((k+1:Nat):Int)by rw[iY (by omega) (by omega)];omega))<|Da ?_;exact⟨k+1,by omega,by omega,(cD.wk (Eb<|Eb<|Ea<|Eb<|trivial) (Hc (aU _ _)<|trivial) trivial)⟩
 have hge:k=n:=by have:=aNs hc1;omega
 subst hge;have hcl:=yQ t k;refine aY<|Sr<|Dd aG<|Dd aM<|Zz<|aE ?_;refine dC (H':=[]) (.inr rfl) rfl (aW rfl) (Fin.fz (id:=905) (ob:=⟨k,1,9,bP (M7 t k)⟩) ((M7 t k).map encStr) rfl (dR _) (.osl (lR encStr _ hcl)) rfl trivial trivial) ?_;exact Qq
theorem RC(a b:ByteArray)(H:aB)(ha:a.size<=20000)(hb:b.size<=20000):aH Tryz.prog 101 [sv a,sv b] H (fun r H'=>r=sv (B4 a b)/\H'=H):=by
 refine Pu ?_;have hj:=fun H=>BF [wG,a,b] (by decide:3<=100000) (fun x hx=>by
  simp only[aOH,aOL,or_false]at hx;rcases hx with rfl|rfl|rfl
  ·decide
  ·omega
  omega) H
 rw[B4,lT];exact Bd func101 rfl ntmps101<|Sr<|Dd aM<|Zz<|Sr<|Dd aG<|Dd aG<|Dd (by exact aQ ([wG,a,b].map encStr) rfl bT rfl rfl rfl rfl rfl (fD _))<|Dd (by exact aA rfl rfl aFd rfl (hj _))<|Dd aM<|Zz<|aE<|Rt<|Qq
def NCl(l:List ByteArray):Prop:=∀(i k:Nat) (x y:ByteArray),k<i->l[i]?=some x->l[k]?=some y->fA x=fA y->x=y
noncomputable def sU(l:List ByteArray):Bool:=!@decide (NCl l) (Classical.propDecidable _)
theorem aBK{x y:ByteArray}(hk:k<i)(hx:l[i]?=some x)(hy:l[k]?=some y)(h:fA x=fA y)(hn:x≠y):sU l=true:=by rw[sU,@decide_eq_false _ (Classical.propDecidable _) (fun nc=>hn (nc i k x y hk hx hy h))];rfl
theorem aDG(h:NCl l):sU l=false:=by rw[sU,@decide_eq_true _ (Classical.propDecidable _) h];rfl
theorem aDH(h:sU l=false):MZ (fun x=>x∈l):=by
 have nc:NCl l:=by
  refine Classical.byContradiction fun hn=>?_;rw[sU,@decide_eq_false _ (Classical.propDecidable _) hn]at h;cases h
 intro x y hx hy hd;obtain ⟨i,hi⟩:=aOQ.1 hx;obtain ⟨k,hk⟩:=aOQ.1 hy;rcases Nat.lt_trichotomy k i with h1|h1|h1
 ·exact nc i k x y h1 hi hk hd
 ·subst h1;rw[hi]at hk;exact Option.some.inj hk
 exact(nc k i y x h1 hk hi hd.symm).symm
theorem aDO(l:List ByteArray)(H:aB)(hl:l.length<=1000000)(hs:∀s∈l,s.size<=20000000):aH Tryz.prog 33 [.pv (aS l)] H (fun r H'=>r=bv (sU l)/\H'=H):=by
 refine Pu ?_;have hml:(l.map encStr).length=l.length:=aNv _;have hyes:=fun i k x y h1 h2 h3 h4 h5=>aBK (l:=l) (i:=i) (k:=k) (x:=x) (y:=y) h1 h2 h3 h4 h5;have hno:=fun h=>aDG (l:=l) h;obtain ⟨B,hB⟩:∃B,B=sU l:=⟨_,rfl⟩;rw[<-hB]at hyes hno |-;clear hB;refine Bd func33 rfl ntmps33<|Sr<|Dd aM<|Zz<|Sr<|Dd (by exact eE (id:=905) (sz:=1) (ty:=9) rfl rfl rfl)<|Zz<|Sq<|Sr<|Dd aM<|Zz<|aD ?_;refine bL (σ:=Nat) (fun k=>([(0,.pv (aS l)),(3,.osl 905 k 0 k),(4,iv (k:Int))],[(905,⟨k,1,9,bP ((l.take k).map fA)⟩)])) (fun k=>k<=l.length) (fun k=>l.length - k) 0 (aOM _) ?_ ?_
 ·exact(cD.wk (Eb<|Ea<|Eb<|trivial) (Hc (aU _ _)<|trivial) trivial)
 intro k hk;have hlw:(bP ((l.take k).map fA)).length=k:=by rw[cT,aNv,aOJ];omega
 refine Sq<|Sr<|Dd aG<|Dd aG<|Dd (fZ aC)<|Dd cP<|Zz ?_;refine Cn ?_ ?_<;>intro hc1
 ·have hlt:k<l.length:=by have:=aNr hc1;omega
  obtain ⟨s,hsk⟩:=aV hlt;have hi:=cA (f:=encStr) hsk;have hsz:=hs s (aOF hsk);have hsu:=fun H=>rQ s (by omega) H;have hnx:(l.take (k+1)).map fA=(l.take k).map fA++[fA s]:=by rw[kY hsk,List.map_append];rfl
  refine aF<|Sq<|aD<|Rg<|Dd aG<|Dd aG<|Dd aG<|Dd (by exact aT rfl bT rfl rfl (by omega) (by exact aOG _) hi rfl)<|Dd (kS isAgg9 (hi:=hi))<|Dd (by exact aA rfl rfl pT rfl (hsu _))<|Dd (by exact aQ ([fA s].map encStr) rfl bT rfl rfl rfl rfl rfl (fD _))<|Dd (by exact cF (ob:=⟨k,1,9,bP ((l.take k).map fA)⟩) (k:=k+1) (ps:=[fA s].map encStr) rfl bT CH rfl rfl rfl rfl rfl hlw rfl (fD _) (m:=1) rfl (by omega) rfl (rows':=bP ((l.take (k+1)).map fA)) (by rw[hnx];exact eN _ _))<|Dd aM<|Zz<|Rg<|Dd aG<|Dd (by exact bG rfl rfl rfl (show IntKind.i64.wrap ((k:Int)+1)=((k+1:Nat):Int)by rw[iY (by omega) (by omega)];omega))<|Da ?_;exact⟨k+1,by omega,by omega,(cD.wk (Eb<|Ea<|Eb<|trivial) (Hc (aU _ _)<|trivial) trivial)⟩
 have hge:k=l.length:=by have:=aNs hc1;omega
 subst hge;have hll:(l.map fA).length=l.length:=aNv _;rw[List.take_length];refine aY<|Sq<|Sq ?_;refine fL.ent (cD.fz (id:=905) (E':=[(0,.pv (aS l)),(3,.pv (aS (l.map fA)))]) (H':=[]) ((l.map fA).map encStr) rfl (dR _)
  (by intro p hp;simp only[aOH,aOL,or_false]at hp;rcases hp with rfl|rfl<;>first|exact⟨_,rfl,.same (by simp)⟩|exact⟨_,rfl,.osl (lR encStr _ hll)⟩) rfl trivial trivial) ?_
 refine Rg<|Dd aM<|Zz<|aD ?_;refine bL (σ:=Nat) (fun i=>([(0,.pv (aS l)),(3,.pv (aS (l.map fA))),(5,iv (i:Int))],[])) (fun i=>i<=l.length/\∀(i' k:Nat) (x y:ByteArray),i'<i->k<i'->l[i']?=some x->l[k]?=some y->fA x=fA y->x=y) (fun i=>l.length - i) 0 ⟨aOM _,fun _ _ _ _ h=>by omega⟩ ?_ ?_
 ·exact Wk
 rintro i ⟨hi,hnc⟩;refine Sq<|Sr<|Dd aG<|Dd aG<|Dd (fZ aC)<|Dd cP<|Zz ?_;refine Cn ?_ ?_<;>intro hc2
 ·have hlt:i<l.length:=by have:=aNr hc2;omega
  obtain ⟨x,hx⟩:=aV hlt;have hix:=cA (f:=encStr) hx;have hdx:(l.map fA)[i]?=some (fA x):=by rw[aOP,hx];rfl
  have hidx:=cA (f:=encStr) hdx;refine aF<|Sq<|aD<|Sr<|Dd aM<|Zz<|aD ?_;refine bL (σ:=Nat) (fun k=>([(0,.pv (aS l)),(3,.pv (aS (l.map fA))),(5,iv (i:Int)),(6,iv (k:Int))],[])) (fun k=>k<=i/\∀(k':Nat) (y:ByteArray),k'<k->l[k']?=some y->fA x=fA y->x=y) (fun k=>i - k) 0 ⟨aOM _,fun _ _ h=>by omega⟩ ?_ ?_
  ·exact Wk
  rintro k ⟨hk,hnk⟩;refine Sq<|Sr<|Dd aG<|Dd aG<|Dd cP<|Zz ?_;refine Cn ?_ ?_<;>intro hc3
  ·have hki:k<i:=by have:=aNr hc3;omega
   obtain ⟨y,hy⟩:=aV (l:=l) (k:=k) (by omega);have hiy:=cA (f:=encStr) hy;have hdy:(l.map fA)[k]?=some (fA y):=by rw[aOP,hy];rfl
   have hidy:=cA (f:=encStr) hdy;by_cases hd:fA x=fA y
   ·by_cases he:x=y
    ·refine aF<|Sq<|aD<|Sq<|aP follows<|Cq aG<|Cq aG<|Cq (by exact aT rfl bT rfl rfl (by omega) (by exact aOG _) hidx rfl)<|Cq (kS isAgg9 (hi:=hidx))<|Cq aG<|Cq aG<|Cq (by exact aT rfl bT rfl rfl (by omega) (by exact aOG _) hidy rfl)<|Cq (kS isAgg9 (hi:=hidy))<|Cq (by exact cH.valY (by exact tD rfl rfl rfl) ((decide_eq_true hd)))<|Cq aG<|Nt aG<|Nt aG<|Nt (by exact aT rfl bT rfl rfl (by omega) (by exact aOG _) hix rfl)<|Nt (kS isAgg9 (hi:=hix))<|Nt aG<|Nt aG<|Nt (by exact aT rfl bT rfl rfl (by omega) (by exact aOG _) hiy rfl)<|Nt (kS isAgg9 (hi:=hiy))<|Nt (by exact cH.valY (by exact KO rfl rfl rfl) ((by rw[decide_eq_true he];rfl:(!decide (x=y))=false)))<|Cq cN<|bK<|Kr ?_;refine Cn ?_ ?_<;>intro hc4
     ·cases hc4
     refine aF<|Rg<|Dd aG<|Dd (by exact bG rfl rfl rfl (show IntKind.i64.wrap ((k:Int)+1)=((k+1:Nat):Int)by rw[iY (by omega) (by omega)];omega))<|Da ?_;refine⟨k+1,⟨by omega,fun k' z h1 h2 h3=>?_⟩,by omega,Wk⟩;by_cases e:k'=k
     ·subst e;rw[hy]at h2;cases h2;exact he
     exact hnk k' z (by omega) h2 h3
    rw[hyes i k x y hki hx hy hd he];refine aF<|Sq<|aD<|Sq<|aP follows<|Cq aG<|Cq aG<|Cq (by exact aT rfl bT rfl rfl (by omega) (by exact aOG _) hidx rfl)<|Cq (kS isAgg9 (hi:=hidx))<|Cq aG<|Cq aG<|Cq (by exact aT rfl bT rfl rfl (by omega) (by exact aOG _) hidy rfl)<|Cq (kS isAgg9 (hi:=hidy))<|Cq (by exact cH.valY (by exact tD rfl rfl rfl) ((decide_eq_true hd)))<|Cq aG<|Nt aG<|Nt aG<|Nt (by exact aT rfl bT rfl rfl (by omega) (by exact aOG _) hix rfl)<|Nt (kS isAgg9 (hi:=hix))<|Nt aG<|Nt aG<|Nt (by exact aT rfl bT rfl rfl (by omega) (by exact aOG _) hiy rfl)<|Nt (kS isAgg9 (hi:=hiy))<|Nt (by exact cH.valY (by exact KO rfl rfl rfl) ((by rw[decide_eq_false he];rfl:(!decide (x=y))=true)))<|Cq cN<|bK<|Kr ?_;refine Cn ?_ ?_<;>intro hc5
    ·exact Sr<|Dd aM<|Zz<|aE<|Rt<|Qq
    cases hc5
   refine aF<|Sq<|aD<|Sq<|aP follows<|Cq aG<|Cq aG<|Cq (by exact aT rfl bT rfl rfl (by omega) (by exact aOG _) hidx rfl)<|Cq (kS isAgg9 (hi:=hidx))<|Cq aG<|Cq aG<|Cq (by exact aT rfl bT rfl rfl (by omega) (by exact aOG _) hidy rfl)<|Cq (kS isAgg9 (hi:=hidy))<|Cq (by exact cH.valY (by exact tD rfl rfl rfl) ((decide_eq_false hd)))<|Cq aG<|Ot<|Ot<|Ot<|Ot<|Ot<|Ot<|Ot<|Ot<|Ot<|Cq cN<|bK<|Kr ?_;refine Cn ?_ ?_<;>intro hc6
   ·cases hc6
   refine aF<|Rg<|Dd aG<|Dd (by exact bG rfl rfl rfl (show IntKind.i64.wrap ((k:Int)+1)=((k+1:Nat):Int)by rw[iY (by omega) (by omega)];omega))<|Da ?_;refine⟨k+1,⟨by omega,fun k' z h1 h2 h3=>?_⟩,by omega,Wk⟩;by_cases e:k'=k
   ·subst e;rw[hy]at h2;cases h2;exact absurd h3 hd
   exact hnk k' z (by omega) h2 h3
  have hge:k=i:=by have:=aNs hc3;omega
  subst hge;refine aY<|Rg<|Dd aG<|Dd (by exact bG rfl rfl rfl (show IntKind.i64.wrap ((k:Int)+1)=((k+1:Nat):Int)by rw[iY (by omega) (by omega)];omega))<|Da ?_;refine⟨k+1,⟨by omega,fun i' k' u z h1 h2 h3 h4 h5=>?_⟩,by omega,Wk⟩;by_cases e:i'=k
  ·subst e;rw[hx]at h3;cases h3;exact hnk k' z h2 h4 h5
  exact hnc i' k' u z (by omega) h2 h3 h4 h5
 have hge:i=l.length:=by have:=aNs hc2;omega
 subst hge;rw[hno fun i' k' u z h2 h3 h4 h5=>hnc i' k' u z (aNz.1 h3).1 h2 h3 h4 h5];exact aY<|Sr<|Dd aM<|Zz<|aE<|Rt<|Qq
def MA(n:Nat):List PV:=[.int .i64 (n:Int)]
def aDC(l:List Nat):PV:=.sl (l.map MA)
def rL(l:List Nat):List (List AV):=l.map fun n:Nat=>[iv (n:Int)]
theorem PC(l:List Nat):rL l=(l.map MA).map (·.map AV.pv):=by rw[rL,List.map_map];rfl
theorem aBb(l:List Nat):(rL l).length=l.length:=aNv _
theorem PF(l m:List Nat):rL l++(m.map MA).map (·.map AV.pv)=rL (l++m):=by rw[<-PC,rL,rL,rL,List.map_append]
theorem PD(H:aB)(l:List Nat):∀r∈rL l,∀a∈r,Clo H a:=by intro r hr a ha;obtain ⟨b,_,rfl⟩:=List.mem_map.1 hr;rw[aNy.1 ha];exact .pv _
theorem JG(l:List Nat):∀r∈l.map MA,r.length=1:=by intro r hr;obtain ⟨s,_,rfl⟩:=List.mem_map.1 hr;rfl
theorem aBm(h:n<16):LJ (nM n)/\(if nM n<=57 then nM n - 48 else nM n - 87)=(n:Int):=by
 unfold LJ nM;by_cases e:n<10
 ·rw[aNu e,aNu (by omega)];omega
 rw[aNt e,aNt (by omega)];omega
theorem aBT(m:ByteArray)(H:aB)(hm:m.size<=20000):aH Tryz.prog 102 [sv m] H (fun r H'=>r=.pv (aDC (wU m))/\H'=H):=by
 refine Pu ?_;have hsz:=eR m;have hsum:=fun H=>rQ m (by omega) H;have hle:=KF m;refine Bd func102 rfl ntmps102<|Sr<|Dd aM<|Zz<|Sr<|Dd aG<|Dd (by exact aA rfl rfl pT rfl (hsum _))<|Dd aM<|Zz<|Sr<|Dd (by exact eE (id:=905) (sz:=1) (ty:=3) rfl rfl rfl)<|Zz<|Sr<|Dd aM<|Zz<|Sq<|Sr<|Dd aM<|Zz<|aD ?_;refine bL (σ:=Nat) (fun k=>([(3,sv (fA m)),(4,.osl 905 k 0 k),(5,iv (sZ m k:Int)),(6,iv (k:Int))],[(905,⟨k,1,3,rL ((dJ m).take k)⟩)])) (fun k=>k<=16) (fun k=>16 - k) 0 (aOM _) ?_ ?_
 ·exact(cD.wk (Eb<|Ea<|Eb<|Eb<|trivial) (Hc (PD _ _)<|trivial) trivial)
 intro k hk;have hlw:(rL ((dJ m).take k)).length=k:=by rw[aBb,aOJ,vN];omega
 refine Sq<|Sr<|Dd aG<|Dd aG<|Dd (nF underlying9)<|Dd cP<|Zz ?_;refine Cn ?_ ?_<;>intro hc1
 ·have hlt:k<16:=by have:=aNr hc1;omega
  have hnl:=xY (QZ m) k;obtain ⟨hx1,hx2⟩:=aBm hnl;have hdg:=fun H=>aHY (nM (FN (QZ m) k)) hx1 H;rw[hx2]at hdg;have hr1:=T4 m k;have hr2:=KE m hlt;have hnx:(dJ m).take (k+1)=(dJ m).take k++[FN (QZ m) k]:=kY (Y2 m hlt);refine aF<|Sq<|aD<|Sr<|Dd aG<|Dd aG<|Dd (by exact dW rfl underlying9 rfl rfl (by omega) (aOG _) (by omega) (MJ m hlt))<|Dd (by exact aA rfl rfl call143 rfl (hdg _))<|Dd aM<|Zz<|Sr<|Dd aG<|Dd aG<|Dd (by exact aQ ([FN (QZ m) k].map MA) rfl aBF rfl rfl rfl rfl rfl (JG _))<|Dd (by exact cF (ob:=⟨k,1,3,rL ((dJ m).take k)⟩) (k:=k+1) (ps:=[FN (QZ m) k].map MA) rfl aBF ei3 rfl rfl rfl rfl rfl hlw rfl (JG _) (m:=1) rfl (by omega) rfl (rows':=rL ((dJ m).take (k+1))) (by rw[hnx];exact PF _ _))<|Dd aM<|Zz<|Rg<|Dd aG<|Dd (by exact bG rfl rfl rfl (show IntKind.i64.wrap ((sZ m k:Int)+15)=((sZ m k+15:Nat):Int)by rw[iY (by omega) (by omega)];omega))<|Dd aG<|Dd (by exact dN rfl rfl rfl (show IntKind.i64.wrap (((sZ m k+15:Nat):Int) - (FN (QZ m) k:Int))=(sZ m (k+1):Int)by rw[iY (by omega) (by omega)];omega)) ?_;refine Dd aM<|Zz<|Rg<|Dd aG<|Dd (by exact bG rfl rfl rfl (show IntKind.i64.wrap ((k:Int)+1)=((k+1:Nat):Int)by rw[iY (by omega) (by omega)];omega))<|Da ?_;exact⟨k+1,by omega,by omega,(cD.wk (Eb<|Ea<|Eb<|Eb<|trivial) (Hc (PD _ _)<|trivial) trivial)⟩
 have hge:k=16:=by have:=aNs hc1;omega
 subst hge;have htk:(dJ m).take 16=dJ m:=List.take_of_length_le (by rw[vN];exact aOB _);rw[OT];refine aY<|Sr<|Dd aG<|Dd aG<|Dd (by exact rR rfl rfl rfl (by decide) (show IntKind.i64.wrap (((oN m:Nat):Int).tdiv 16)=((oN m / 16:Nat):Int)by rw[Int.tdiv_eq_ediv_of_nonneg (by omega),iY (by omega) (by omega)];omega))<|Dd aG<|Dd (by exact pW rfl rfl rfl (by decide) (show ((oN m:Nat):Int).tmod 16=((oN m % 16:Nat):Int)by rw[Int.tmod_eq_emod_of_nonneg (by omega)];omega))<|Dd (by exact aQ ([oN m / 16,oN m % 16].map MA) rfl aBF rfl rfl rfl rfl rfl (JG _))<|Dd (by exact cF (ob:=⟨16,1,3,rL ((dJ m).take 16)⟩) (k:=18) (ps:=[oN m / 16,oN m % 16].map MA) rfl aBF ei3 rfl rfl rfl rfl rfl hlw rfl (JG _) (m:=2) rfl (by omega) rfl (rows':=rL (wU m)) (by rw[htk];exact PF _ _))<|Dd aM<|Zz<|aE ?_;refine dC (H':=[]) (.inr rfl) rfl (aW rfl) (Fin.fz (id:=905) (ob:=⟨17,1,3,rL (wU m)⟩) ((wU m).map MA) rfl (PC _) (.osl (lR MA _ (sC m))) rfl trivial trivial) ?_;exact Qq
theorem aIf{m:Nat}(hl:l.length=2*m)(hk:k<m):∃a b,l[2*k]?=some a/\l[2*k+1]?=some b/\(zK l)[k]?=some (jD a b):=by obtain ⟨a,ha⟩:=aV (l:=l) (k:=2*k) (by omega);obtain ⟨b,hb⟩:=aV (l:=l) (k:=2*k+1) (by omega);refine⟨a,b,ha,hb,?_⟩;have h:=DQ m l k hl hk;obtain ⟨c,hc⟩:=aV (l:=zK l) (k:=k) (by rw[rO m l hl];exact hk);rw[List.getD_eq_getElem?_getD,List.getD_eq_getElem?_getD,List.getD_eq_getElem?_getD,ha,hb,hc]at h;rw[hc];exact congrArg some h
theorem OD:∀t∈zK l,t.size<=20000:=fun t ht=>Nat.le_trans (pY (DR l.length l (aOB _) t ht)) (by decide)
def stT(s:ByteArray)(i k:Nat):ByteArray:=lT [s,bI (i:Int),bI (k:Int)]
def QG(s:ByteArray)(i k:Nat):List ByteArray:=(List.range k).flatMap fun k=>stT s i k::M7 (eL s i k) 15
def aHH(s:ByteArray)(i:Nat):List ByteArray:=QG s i 18++[lT (kD s i)]
def kB(s:ByteArray)(n:Nat):List ByteArray:=(List.range n).flatMap (aHH s)
theorem WB(s:ByteArray)(i k:Nat):QG s i (k+1)=(QG s i k++[stT s i k])++M7 (eL s i k) 15:=by rw[QG,List.range_succ,List.flatMap_append,QG];simp
theorem LC(s:ByteArray)(n:Nat):kB s (n+1)=(kB s n++QG s n 18)++[lT (kD s n)]:=by rw[kB,List.range_succ,List.flatMap_append,kB];simp[aHH]
theorem JH(s:ByteArray)(i:Nat):∀k,(QG s i k).length=17*k
 |0=>rfl
 |k+1=>by rw[WB,aNw,aNw,JH s i k,yQ,List.length_singleton];omega
theorem BP(s:ByteArray):∀n,(kB s n).length=307*n
 |0=>rfl
 |n+1=>by rw[LC,aNw,aNw,BP s n,JH,List.length_singleton];omega
theorem XL(s:ByteArray)(i k:Nat)(H:aB)(hs:s.size<=20000)(hi:i<1099511627776)(hk:k<1099511627776):aH Tryz.prog 45 [.pv (aS [s,bI (i:Int),bI (k:Int)])] H (fun r H'=>r=sv (stT s i k)/\H'=H):=by
 have s1:=iC (n:=(i:Int)) (by omega) (by omega);have s2:=iC (n:=(k:Int)) (by omega) (by omega);exact BF [s,bI (i:Int),bI (k:Int)] (by decide:3<=100000) (fun x hx=>by
  simp only[aOH,aOL,or_false]at hx;rcases hx with rfl|rfl|rfl<;>omega) H
theorem TR(s:ByteArray)(hs:s.size<=20000)(hi:i<1099511627776)(hk:k<1099511627776):(stT s i k).size<=70000:=by
 have s1:=iC (n:=(i:Int)) (by omega) (by omega);have s2:=iC (n:=(k:Int)) (by omega) (by omega);rw[stT,lT,eF];exact Nat.le_trans (mA (L:=[s,bI (i:Int),bI (k:Int)]) (n:=3) (fun x hx=>by
  simp only[aOH,aOL,or_false]at hx;unfold le2;rcases hx with rfl|rfl|rfl<;>omega) (aOB 3)) (by decide)
def mQ(l:List ByteArray)(k:Nat):List ByteArray:=(List.range k).map fun k=>B4 (l.getD (2*k) sNil) (l.getD (2*k+1) sNil)
def tG:Nat->List ByteArray->List ByteArray
 |0,_=>[]
 |h+1,l=>mQ l (2 ^ h)++tG h (zK l)
def wL(s:ByteArray)(h:Nat):List ByteArray:=kB s (2 ^ h)++tG h (fG s h)
theorem UE(ha:l[2*k]?=some a)(hb:l[2*k+1]?=some b):mQ l (k+1)=mQ l k++[B4 a b]:=by rw[mQ,List.range_succ,List.map_append,mQ];simp only[List.map_cons,List.map_nil];rw[List.getD_eq_getElem?_getD,List.getD_eq_getElem?_getD,ha,hb];rfl
theorem CS(l:List ByteArray)(k:Nat):(mQ l k).length=k:=by simp[mQ]
theorem AR(ha:a.size<=20000)(hb:b.size<=20000):(B4 a b).size<=70000:=by
 rw[B4,lT,eF];exact Nat.le_trans (mA (L:=[wG,a,b]) (n:=3) (fun x hx=>by
  simp only[aOH,aOL,or_false]at hx;unfold le2;rcases hx with rfl|rfl|rfl
  ·decide
  ·exact ha
  exact hb) (aOB 3)) (by decide)
theorem aDQ(s:ByteArray)(h:Nat)(hs:s.size<=20000)(hh:h<=8):aH Tryz.prog 34 [sv s,iv (h:Int),iv 15] [] (fun r H'=>r=.osl 905 (38*2 ^ h - 1) 0 (wL s h).length/\H'=[(905,⟨38*2 ^ h - 1,1,9,bP (wL s h)⟩)]):=by
 have hpw:=fun H=>aIq h H (by omega);have hp:=nE hh;rw[wL];rw[show fG s h=uS s (2 ^ h)from rfl];obtain ⟨n,hn⟩:∃n,n=2 ^ h:=⟨_,rfl⟩;rw[<-hn]at hpw hp |-;refine Bd func34 rfl ntmps34<|Sr<|Dd aM<|Zz<|Sr<|Dd (by exact eE (id:=905) (sz:=1) (ty:=9) rfl rfl rfl)<|Zz<|Sr<|Dd (by exact eE (id:=906) (sz:=1) (ty:=9) rfl rfl rfl)<|Zz<|Sq<|Sr<|Dd aM<|Zz<|aD ?_;refine bL (σ:=Nat) (fun i=>([(0,sv s),(1,iv (h:Int)),(2,iv 15),(7,.osl 905 (37*i) 0 (kB s i).length),(8,.osl 906 i 0 i),(9,iv (i:Int))],[(905,⟨37*i,1,9,bP (kB s i)⟩),(906,⟨i,1,9,bP (uS s i)⟩)])) (fun i=>i<=n) (fun i=>n - i) 0 (aOM _) ?_ ?_
 ·exact(cD.wk (Eb<|Eb<|Eb<|Ea<|Ea<|Eb<|trivial) (Hc (aU _ _)<|Hc (aU _ _)<|trivial) trivial)
 intro i hi;have hkl:=BP s i;have hkk:(bP (uS s i)).length=i:=by rw[cT,PM]
 refine Sq<|Sr<|Dd aG<|Dd aG<|Dd (by exact aA rfl rfl call98 rfl (hpw _))<|Dd cP<|Zz ?_;refine Cn ?_ ?_<;>intro hc1
 ·have hlt:i<n:=by have:=aNr hc1;omega
  refine aF<|Sq<|aD<|Sr<|Dd (by exact eE (id:=907) (sz:=1) (ty:=9) rfl rfl rfl)<|Zz<|Sq<|Sr<|Dd aM<|Zz<|aD ?_;refine bL (σ:=Nat) (fun k=>([(0,sv s),(1,iv (h:Int)),(2,iv 15),(7,.osl 905 (37*i+2*k) 0 (kB s i++QG s i k).length),(8,.osl 906 i 0 i),(9,iv (i:Int)),(10,.osl 907 k 0 k),(11,iv (k:Int))],[(905,⟨37*i+2*k,1,9,bP (kB s i++QG s i k)⟩),(906,⟨i,1,9,bP (uS s i)⟩),(907,⟨k,1,9,bP (CG s i k)⟩)])) (fun k=>k<=18) (fun k=>18 - k) 0 (aOM _) ?_ ?_
  ·rw[show kB s i++QG s i 0=kB s i from List.append_nil _];exact(cD.wk (Eb<|Eb<|Eb<|Ea<|Ea<|Eb<|Ea<|Eb<|trivial) (Hc (aU _ _)<|Hc (aU _ _)<|Hc (aU _ _)<|trivial) trivial)
  intro k hk;have hel:(bP (CG s i k)).length=k:=by rw[cT,GS]
  have hcl:=JH s i k;have hll:(kB s i++QG s i k).length=307*i+17*k:=by rw[aNw,hkl,hcl]
  refine Sq<|Sr<|Dd aG<|Dd cP<|Zz ?_;refine Cn ?_ ?_<;>intro hc2
  ·have hk18:k<18:=by have:=aNr hc2;omega
   have hd1:=fun H=>aIS (i:Int) (by omega) (by omega) H;have hd2:=fun H=>aIS (k:Int) (by omega) (by omega) H;have hjo:=fun H=>XL s i k H hs (by omega) (by omega);have hss:=TR s (i:=i) (k:=k) hs (by omega) (by omega);have hsu:=fun H=>rQ (stT s i k) (by omega) H;rw[show fA (stT s i k)=eL s i k from rfl]at hsu;have hch:=fun H=>KJ (eL s i k) 15 H (OM s i k) (by decide);have hnx:=WB s i k;have hi15:=cA (f:=encStr) (aA8 (eL s i k) (n:=15) (k:=15) (aOB _));have hll2:(kB s i++QG s i (k+1)).length=307*i+17*(k+1):=by rw[aNw,hkl,JH]
   have hxl:(bP ((kB s i++QG s i k)++[stT s i k])).length=(kB s i++QG s i k).length+1:=by rw[cT,aNw];rfl
   have hxx:((kB s i++QG s i k)++[stT s i k])++M7 (eL s i k) 15=kB s i++QG s i (k+1):=by rw[hnx];simp only[List.append_assoc]
   obtain ⟨X,hX⟩:∃X,X=kB s i++QG s i k:=⟨_,rfl⟩;rw[<-hX]at hll hxl hxx |-;refine aF<|Sq<|aD<|Sr<|Dd aG<|Dd aG<|Dd (by exact aA rfl rfl aNd rfl (hd1 _))<|Dd aG<|Dd (by exact aA rfl rfl aNd rfl (hd2 _))<|Dd (by exact aQ ([s,bI (i:Int),bI (k:Int)].map encStr) rfl bT rfl rfl rfl rfl rfl (fD _))<|Dd (by exact aA rfl rfl aFd rfl (hjo _))<|Dd aM<|Zz<|Sr<|Dd aG<|Dd aG<|Dd (by exact aQ ([stT s i k].map encStr) rfl bT rfl rfl rfl rfl rfl (fD _))<|Dd (by exact cF (ob:=⟨37*i+2*k,1,9,bP X⟩) (k:=X.length+1) (ps:=[stT s i k].map encStr) rfl bT CH rfl rfl rfl rfl rfl (cT _) rfl (fD _) (m:=1) rfl (by omega) rfl (rows':=bP (X++[stT s i k])) (by exact eN _ _))<|Dd aM<|Zz<|Sr<|Dd aG<|Dd (by exact aA rfl rfl pT rfl (hsu _))<|Dd aG<|Dd (by exact aA rfl rfl call100 rfl (hch _))<|Dd aM<|Zz<|Sq ?_;refine Rg<|Dd aG<|Dd aG<|Dd (by exact cF (ob:=⟨37*i+2*k+1,1,9,bP (X++[stT s i k])⟩) (k:=(kB s i++QG s i (k+1)).length) (ps:=(M7 (eL s i k) 15).map encStr) rfl bT CH rfl rfl rfl rfl rfl hxl rfl (fD _) (m:=16) (by rw[aNv,yQ]) (by omega) (by omega) (rows':=bP (kB s i++QG s i (k+1))) (by rw[<-hxx];exact eN _ _))<|Dd aM<|Zz<|Rg<|Dd aG<|Dd aG<|Dd (by exact aT rfl bT rfl rfl (by omega) (by exact aOG _) hi15 rfl)<|Dd (kS isAgg9 (hi:=hi15))<|Dd (by exact aQ ([mY (eL s i k) 15].map encStr) rfl bT rfl rfl rfl rfl rfl (fD _))<|Dd (by exact cF (ob:=⟨k,1,9,bP (CG s i k)⟩) (k:=k+1) (ps:=[mY (eL s i k) 15].map encStr) rfl bT CH rfl rfl rfl rfl rfl hel rfl (fD _) (m:=1) rfl (by omega) rfl (rows':=bP (CG s i (k+1))) (by rw[LX];exact eN _ _)) ?_;refine Dd aM<|Zz<|Rg<|Dd aG<|Dd (by exact bG rfl rfl rfl (show IntKind.i64.wrap ((k:Int)+1)=((k+1:Nat):Int)by rw[iY (by omega) (by omega)];omega))<|Da ?_;exact⟨k+1,by omega,by omega,(cD.wk (Eb<|Eb<|Eb<|Ea<|Ea<|Eb<|Ea<|Eb<|trivial) (Hc (aU _ _)<|Hc (aU _ _)<|Hc (aU _ _)<|trivial) trivial)⟩
  have hge:k=18:=by have:=aNs hc2;omega
  subst hge;have hnx:=LC s i;have hkl2:=BP s (i+1);have hjo:=fun H=>BF (kD s i) (by rw[wT];decide) (fun x hx=>by rw[A4 s i x hx];decide) H;have hls:(lT (kD s i)).size<=1000000:=by
   rw[lT,eF];exact Nat.le_trans (mA (L:=kD s i) (n:=18) (fun x hx=>by unfold le2;rw[A4 s i x hx];decide) (by rw[wT];exact aOB _)) (by decide)
  have hsu:=fun H=>rQ (lT (kD s i)) (by omega) H;rw[show fA (lT (kD s i))=yD s i from rfl]at hsu;obtain ⟨X,hX⟩:∃X,X=kB s i++QG s i 18:=⟨_,rfl⟩;rw[<-hX]at hll hnx |-;refine aY<|Sq ?_;refine fL.ent (cD.fzG (id:=907) (E':=[(0,sv s),(1,iv (h:Int)),(2,iv 15),(7,.osl 905 (37*i+36) 0 X.length),(8,.osl 906 i 0 i),(9,iv (i:Int)),(10,.pv (aS (kD s i)))]) (H':=[(905,⟨37*i+36,1,9,bP X⟩),(906,⟨i,1,9,bP (uS s i)⟩)]) ((kD s i).map encStr) rfl (dR _) ?_ rfl ?_ ?_) ?_
  ·intro p hp;simp only[aOH,aOL,or_false]at hp;rcases hp with rfl|rfl|rfl|rfl|rfl|rfl|rfl
   ·exact⟨_,rfl,.same (by simp)⟩
   ·exact⟨_,rfl,.same (by simp)⟩
   ·exact⟨_,rfl,.same (by simp)⟩
   ·exact⟨_,rfl,.same (by simp;rfl)⟩
   ·exact⟨_,rfl,.same (by simp;rfl)⟩
   ·exact⟨_,rfl,.same (by simp)⟩
   exact⟨_,rfl,.osl (lR encStr _ (wT s i))⟩
  ·exact⟨⟨_,rfl,rfl,rfl,rfl,eJ (aU _ _)⟩,⟨_,rfl,rfl,rfl,rfl,eJ (aU _ _)⟩,trivial⟩
  ·exact trivial
  refine Rg<|Dd aG<|Dd (by exact aA rfl rfl aFd rfl (hjo _))<|Dd aM<|Zz<|Sr<|Dd aG<|Dd aG<|Dd (by exact aQ ([lT (kD s i)].map encStr) rfl bT rfl rfl rfl rfl rfl (fD _))<|Dd (by exact cF (ob:=⟨37*i+36,1,9,bP X⟩) (k:=(kB s (i+1)).length) (ps:=[lT (kD s i)].map encStr) rfl bT CH rfl rfl rfl rfl rfl (cT _) rfl (fD _) (m:=1) rfl (by omega) (by omega) (rows':=bP (kB s (i+1))) (by rw[hnx];exact eN _ _))<|Dd aM<|Zz<|Rg<|Dd aG<|Dd aG<|Dd (by exact aA rfl rfl pT rfl (hsu _))<|Dd (by exact aQ ([yD s i].map encStr) rfl bT rfl rfl rfl rfl rfl (fD _))<|Dd (by exact cF (ob:=⟨i,1,9,bP (uS s i)⟩) (k:=i+1) (ps:=[yD s i].map encStr) rfl bT CH rfl rfl rfl rfl rfl hkk rfl (fD _) (m:=1) rfl (by omega) rfl (rows':=bP (uS s (i+1))) (by rw[YJ];exact eN _ _)) ?_;refine Dd aM<|Zz<|Rg<|Dd aG<|Dd (by exact bG rfl rfl rfl (show IntKind.i64.wrap ((i:Int)+1)=((i+1:Nat):Int)by rw[iY (by omega) (by omega)];omega))<|Da ?_;exact⟨i+1,by omega,by omega,(cD.wk (Eb<|Eb<|Eb<|Ea<|Ea<|Eb<|trivial) (Hc (aU _ _)<|Hc (aU _ _)<|trivial) trivial)⟩
 have hge:i=n:=by have:=aNs hc1;omega
 subst hge;have hkn:=PM s i;have hks:∀x∈uS s i,x.size<=20000:=fun x hx=>by
  obtain ⟨j,_,rfl⟩:=List.mem_map.1 hx;rw[sM];decide
 obtain ⟨X,hX⟩:∃X,X=kB s i:=⟨_,rfl⟩;obtain ⟨L0,hL0⟩:∃L,L=uS s i:=⟨_,rfl⟩;rw[<-hX]at hkl |-;rw[<-hL0]at hkn hks |-;refine fL.ent (cD.fzG (id:=906) (E':=[(7,.osl 905 (37*i) 0 X.length),(8,.pv (aS L0))]) (H':=[(905,⟨37*i,1,9,bP X⟩)]) (L0.map encStr) rfl (dR _) ?_ rfl ?_ ?_) ?_
 ·intro p hp;simp only[aOH,aOL,or_false]at hp;rcases hp with rfl|rfl
  ·exact⟨_,rfl,.same (by simp;rfl)⟩
  exact⟨_,rfl,.osl (lR encStr _ hkn)⟩
 ·exact⟨⟨_,rfl,rfl,rfl,rfl,eJ (aU _ _)⟩,trivial⟩
 ·exact trivial
 refine aY<|Sq<|aD ?_;refine BY (fun(h':Nat) (l':List ByteArray) (A:List ByteArray) (g:Nat)=>([(7,.osl 905 g 0 A.length),(8,.pv (aS l'))],[(905,⟨g,1,9,bP A⟩)])) (fun h' l' A g=>h'<=8/\l'.length=2 ^ h'/\(∀x∈l',x.size<=20000)/\A++tG h' l'=X++tG h L0/\A.length+2 ^ h'<=308*i/\g+2 ^ h'=38*i) (fun h' l' A g=>h') h L0 X (37*i) ⟨hh,by rw[hkn,hn],hks,rfl,by omega,by omega⟩ ?_ ?_
 ·exact(cD.wk (Ea<|Eb<|trivial) (Hc (aU _ _)<|trivial) trivial)
 rintro h' l' A g ⟨hh',hl',hs',hA,hAl,hg⟩;have hml:(l'.map encStr).length=l'.length:=aNv _;have hlw:(bP A).length=A.length:=cT _;cases h' with
 |zero =>
  have hl1:l'.length=1:=hl';have hg0:g=38*i - 1:=by have:g+1=38*i:=hg;omega
  subst hg0;have hA2:A=X++tG h L0:=by rw[<-hA];exact(List.append_nil A).symm
  refine Sq<|Sr<|Dd aG<|Dd (fZ aC)<|Dd mN<|Zz ?_;refine Cn ?_ ?_<;>intro hc3
  ·(have h:=aNr hc3;omega)
  rw[<-hA2];refine aY<|Sr<|Dd aG<|Dd aM<|Zz<|aE ?_;refine dC (H':=[(905,⟨38*i - 1,1,9,bP A⟩)]) (.inr rfl) rfl (aW rfl) (Fin.wk (by(simp;rfl)) (Hc (aU _ _)<|trivial) trivial) ?_;exact Qq
 | succ u =>
  have hpn:2 ^ (u+1)=2*2 ^ u:=by rw[Nat.pow_succ,Nat.mul_comm]
  rw[hpn]at hl' hAl hg;have hpu:=nE (h:=u) (by omega);have hA3:(A++mQ l' (2 ^ u))++tG u (zK l')=X++tG h L0:=by rw[<-hA,List.append_assoc];rfl
  obtain ⟨q,hq⟩:∃q,q=2 ^ u:=⟨_,rfl⟩;rw[<-hq]at hl' hpu hA3 hAl hg;have hq1:1<=q:=by rw[hq];exact Nat.one_le_two_pow
  have hul:=rO q l' hl';refine Sq<|Sr<|Dd aG<|Dd (fZ aC)<|Dd mN<|Zz ?_;refine Cn ?_ ?_<;>intro hc4
  ·refine aF<|aD<|Sr<|Dd (by exact eE (id:=908) (sz:=1) (ty:=9) rfl rfl rfl)<|Zz<|Sq<|Sr<|Dd aM<|Zz<|aD ?_;refine bL (σ:=Nat) (fun k=>([(7,.osl 905 (g+k) 0 (A.length+k)),(8,.pv (aS l')),(15,.osl 908 k 0 k),(16,iv ((2*k:Nat):Int))],[(905,⟨g+k,1,9,bP (A++mQ l' k)⟩),(908,⟨k,1,9,bP ((zK l').take k)⟩)])) (fun k=>k<=q) (fun k=>q - k) 0 (aOM _) ?_ ?_
   ·rw[show A++mQ l' 0=A from List.append_nil _];exact(cD.wk (Ea<|Eb<|Ea<|Eb<|trivial) (Hc (aU _ _)<|Hc (aU _ _)<|trivial) trivial)
   intro k hk;have hw1:IntKind.i64.wrap (((2*k:Nat):Int)+1)=((2*k+1:Nat):Int):=by rw[iY (by omega) (by omega)];omega
   have hl1:(bP (A++mQ l' k)).length=A.length+k:=by rw[cT,aNw,CS]
   have hl2:(bP ((zK l').take k)).length=k:=by rw[cT,aOJ,hul];omega
   refine Sq<|Sr<|Dd aG<|Dd (by exact bG rfl rfl rfl hw1)<|Dd aG<|Dd (fZ aC)<|Dd cP<|Zz ?_;refine Cn ?_ ?_<;>intro hc5
   ·have hlt:k<q:=by have:=aNr hc5;omega
    obtain ⟨a,b,ha,hb,hab⟩:=aIf hl' hlt;have hi1:=cA (f:=encStr) ha;have hi2:=cA (f:=encStr) hb;have hsa:=hs' a (aOF ha);have hsb:=hs' b (aOF hb);have hno:=fun H=>RC a b H hsa hsb;have hns:=AR hsa hsb;have hsu:=fun H=>rQ (B4 a b) (by omega) H;rw[show fA (B4 a b)=jD a b from rfl]at hsu;have hnx:=UE ha hb;have hnu:(zK l').take (k+1)=(zK l').take k++[jD a b]:=kY hab;refine aF<|Sq<|aD<|Sq<|aP follows<|Cr [905] (fun _ _=>aG)<|Cr [906] (fun _ _=>aG)<|Cr [] (fun _ _=>aG)<|Cr [906] (fun H1 hH=>by exact aT rfl bT rfl rfl (by omega) (by exact aOG _) hi1 rfl)<|Cr [906] (fun _ _=>(kS isAgg9 (hi:=hi1)))<|Cr [906] (fun _ _=>aG)<|Cr [] (fun _ _=>aG)<|Cr [] (fun H1 hH=>by exact bG rfl rfl rfl hw1)<|Cr [906] (fun H1 hH=>by exact aT rfl bT rfl rfl (by omega) (by exact aOG _) hi2 rfl)<|Cr [906] (fun _ _=>(kS isAgg9 (hi:=hi2)))<|Cr [] (fun H1 hH=>by exact aA rfl rfl aC1 rfl (hno _))<|Cr [] (fun H1 hH=>by exact aQ ([B4 a b].map encStr) rfl bT rfl rfl rfl rfl rfl (fD _))<|Cp [905] (fun H1 hH=>by exact cF (ob:=⟨g+k,1,9,bP (A++mQ l' k)⟩) (k:=A.length+k+1) (ps:=[B4 a b].map encStr) rfl bT CH rfl ((hH _ rfl).trans rfl) rfl rfl rfl hl1 rfl (fD _) (m:=1) rfl (by omega) rfl (rows':=bP (A++mQ l' (k+1))) (by rw[hnx,<-List.append_assoc];exact eN _ _)) ?_;refine Cr [905] (fun _ _=>aM)<|bK<|Kr<|aP follows<|Cr [908] (fun _ _=>aG)<|Cr [906] (fun _ _=>aG)<|Cr [] (fun _ _=>aG)<|Cr [906] (fun H1 hH=>by exact aT rfl bT rfl rfl (by omega) (by exact aOG _) hi1 rfl)<|Cr [906] (fun _ _=>(kS isAgg9 (hi:=hi1)))<|Cr [906] (fun _ _=>aG)<|Cr [] (fun _ _=>aG)<|Cr [] (fun H1 hH=>by exact bG rfl rfl rfl hw1)<|Cr [906] (fun H1 hH=>by exact aT rfl bT rfl rfl (by omega) (by exact aOG _) hi2 rfl)<|Cr [906] (fun _ _=>(kS isAgg9 (hi:=hi2)))<|Cr [] (fun H1 hH=>by exact aA rfl rfl aC1 rfl (hno _))<|Cr [] (fun H1 hH=>by exact aA rfl rfl pT rfl (hsu _))<|Cr [] (fun H1 hH=>by exact aQ ([jD a b].map encStr) rfl bT rfl rfl rfl rfl rfl (fD _))<|Cp [908] (fun H1 hH=>by exact cF (ob:=⟨k,1,9,bP ((zK l').take k)⟩) (k:=k+1) (ps:=[jD a b].map encStr) rfl bT CH rfl ((hH _ rfl).trans rfl) rfl rfl rfl hl2 rfl (fD _) (m:=1) rfl (by omega) rfl (rows':=bP ((zK l').take (k+1))) (by rw[hnu];exact eN _ _)) ?_;refine Cr [908] (fun _ _=>aM)<|bK<|Kr<|Rg<|Dd aG<|Dd (by exact bG rfl rfl rfl (show IntKind.i64.wrap (((2*k:Nat):Int)+2)=((2*(k+1):Nat):Int)by rw[iY (by omega) (by omega)];omega))<|Da ?_;exact⟨k+1,by omega,by omega,(cD.wk (Ea<|Eb<|Ea<|Eb<|trivial) (Hc (aU _ _)<|Hc (aU _ _)<|trivial) trivial)⟩
   have hge:k=q:=by have:=aNs hc5;omega
   subst hge;have htk:(zK l').take k=zK l':=List.take_of_length_le (by omega);have hAp:(A++mQ l' k).length=A.length+k:=by rw[aNw,CS]
   rw[htk];refine aY ?_;refine fL.ent (cD.fzG (id:=908) (E':=[(7,.osl 905 (g+k) 0 (A.length+k)),(15,.pv (aS (zK l')))]) (H':=[(905,⟨g+k,1,9,bP (A++mQ l' k)⟩)]) ((zK l').map encStr) rfl (dR _) ?_ rfl ?_ ?_) ?_
   ·intro p hp;simp only[aOH,aOL,or_false]at hp;rcases hp with rfl|rfl
    ·exact⟨_,rfl,.same (by simp;rfl)⟩
    exact⟨_,rfl,.osl (lR encStr _ hul)⟩
   ·exact⟨⟨_,rfl,rfl,rfl,rfl,eJ (aU _ _)⟩,trivial⟩
   ·exact trivial
   refine Rg<|Dd aG<|Da ?_;refine⟨u,zK l',A++mQ l' k,g+k,⟨by omega,by rw[hul,hq],OD,hA3,by rw[hAp,<-hq];omega,by rw[<-hq];omega⟩,by omega,?_⟩;rw[hAp];exact(cD.wk (Ea<|Eb<|trivial) (Hc (aU _ _)<|trivial) trivial)
  (have h:=aNs hc4;omega)
theorem aDP(s:ByteArray)(h:Nat){H:aB}(hs:s.size<=20000)(hh:h<=8)(hno:H.get 905=none):aH Tryz.prog 34 [sv s,iv (h:Int),iv 15] H (fun r H'=>r=.osl 905 (38*2 ^ h - 1) 0 (wL s h).length/\H'=(905,⟨38*2 ^ h - 1,1,9,bP (wL s h)⟩)::H) :=aH.frame (aDQ s h hs hh) (fun _ _ h=>by cases h) (fun _ _ h=>by cases h) (by simp) (fun id h=>.inr (by
  by_cases e:905=id
  ·subst e;exact hno
  simp[aB.get,jC e]at h))
end Go.Proofs.YtmdicgjnmfolfaaGreatDoor
