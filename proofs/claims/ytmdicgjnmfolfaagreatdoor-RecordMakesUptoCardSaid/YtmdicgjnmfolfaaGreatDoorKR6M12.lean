/-
  Parts of the proof: rules of an abstract program logic, contracts of functions, plain laws. Conditions: each theorem's own.
-/
import Derived.Test.YtmdicgjnmfolfaaGreatDoorKR6M11
set_option linter.unusedVariables false
set_option linter.unusedSimpArgs false
set_option maxRecDepth 100000
set_option maxHeartbeats 8000000
namespace Go.Proofs
open Tryz
theorem aPQ:type_of% call143:=call143
theorem aPq:type_of% call18:=call18
theorem DX:type_of% call186:=call186
theorem HG:type_of% call19:=call19
theorem aPp:type_of% call23:=call23
theorem aPn:type_of% call75:=call75
theorem aPl:type_of% call97:=call97
theorem gZ:type_of% call99:=call99
theorem OK:type_of% func143:=func143
theorem OJ:type_of% isAgg37:=isAgg37
theorem I9:type_of% ntmps143:=ntmps143
theorem BN:type_of% sizeOf37:=sizeOf37
end Go.Proofs
namespace Go.Proofs.YtmdicgjnmfolfaaGreatDoor
open Go.Proofs.Tryz
open Go.Abs
variable{α:Type}{i:Nat}{r x:GRec}{a b:GSeal}{s m:ByteArray}{h:Int}{ks:List ByteArray}
structure WRest where
 a:PV
 b:PV
 c:PV
 d:PV
 e:PV
def aDG(w:WRest)(ks:List ByteArray):List PV:=[w.a,aZ ks,w.b,w.c,w.d,w.e]
def ckA(r:GRec)(ks:List ByteArray):Bool:=!eQ r||decide (((ks.map encStr).length:Int)<=r.author)
def ckB(r:GRec)(key:ByteArray):Bool:=!decide (r.sl.idx=2*r.number - 2)||!zV key (rU r) r.sl.idx r.sl.sig r.sl.path
def ckC(r:GRec):Bool:=fA r.priv&&!pX r.priv.sl
def ckD(r:GRec)(key:ByteArray):Bool:=!fA r.priv&&(!decide (r.priv.sl.idx=2*r.number - 1)||!zV key (qV r) r.priv.sl.idx r.priv.sl.sig r.priv.sl.path)
def tJ(r:GRec)(ks:List ByteArray):Int:=if ckA r ks=true then 1 else if ckB r (ks.getD r.author.toNat sNil)=true then 16 else if ckC r=true then 16 else if ckD r (ks.getD r.author.toNat sNil)=true then 16 else 0
theorem DK(r:GRec)(w:WRest)(ks:List ByteArray)(hr:fR r)(hp:r.parents.length<549755813888)(hk:J2 ks)(H:aH):aI Tryz.prog 19 [av (bS r),av (aDG w ks)] H (fun x H'=>x=iv (tJ r ks)/\H'=H):=by
 refine aI.pure ?_ (by simp[bS,aDG]) H;have hkl:(ks.map encStr).length=ks.length:=aQE _;have hks:=hk.1;have hv:=fun H=>KF r hr hp H;have hid:=fun H=>W8 r hr hp H;have hckA:ckA r ks=(!eQ r||decide (((ks.map encStr).length:Int)<=r.author)):=rfl;rw[tJ];refine Bd func19 rfl ntmps19<|Sr<|Dd (by exact cF (id:=2) rfl rfl rfl rfl rfl)<|Dd (by exact cF (id:=3) rfl rfl rfl rfl rfl)<|Dd aM<|Zz<|Sq<|Sq ?_;refine aY (t:=17) (n:=12) (X:=ckA r ks) ?_ ?_
 ·all_goals refine Dd (mD aS aL) ?_
  all_goals refine Dd (by exact aA rfl rfl aHF rfl (hv _))<|Dd iS<|Dm ?_
  all_goals refine Sp 10 (fun h10=>?_) fun h10=>?_
  all_goals try contradiction
  all_goals first|refine Fo<|Fo<|Fo<|Fo<|Fo<|Fo ?_|refine On (aT tH)<|On (bF isAgg3)<|On (aT T0)<|On (bF aG)<|On (fM aD)<|On D7 ?_
  all_goals refine Dd cH<|Zz ?_
  all_goals(exact⟨⟨_,rfl,by(rw[hckA,h10];rfl)⟩,rfl,rfl,rfl⟩)
 refine Cn ?_ ?_<;>intro hc1
 ·rw[aQD hc1];exact Sr<|Dd aM<|Zz<|aB<|Rt<|Qq
 have hA:=hc1;rw[aQC (by rw[hA];decide)];rw[hckA,aQ0]at hA;have hb:=oC hA.1;have hau:=aQB hA.2;have hf:=lE hb;have hau0:=hf.au;have hnu:=hf.nu;have hme:=fun H=>Q8 r hr hp hb H;have hfs:=jS hf.sl;have hfp:=jS hf.psl;have i0:=hfs.i0;have i1:=hfs.i1;have q0:=hfp.i0;have q1:=hfp.i1;have hms:(qV r).size=16:=gH _;have his:=GJ r;have hix:(ks.map encStr)[r.author.toNat]?=some (encStr (ks.getD r.author.toNat sNil)):=by
  rw[aQY,List.getD_eq_getElem?_getD,aQJ (by omega)];rfl
 obtain ⟨key,hkey⟩:∃key,key=ks.getD r.author.toNat sNil:=⟨_,rfl⟩;rw[<-hkey]at hix |-;have hve1:=fun H=>P1 key (rU r) r.sl.idx r.sl.sig r.sl.path H (by omega) (by omega) (by omega) (kN hfs).2.1.1 (kN hfs).2.2.1 (kN hfs).2.1.2 (kN hfs).2.2.2;have hve2:=fun H=>P1 key (qV r) r.priv.sl.idx r.priv.sl.sig r.priv.sl.path H (by omega) (by omega) (by omega) (kN hfp).2.1.1 (kN hfp).2.2.1 (kN hfp).2.1.2 (kN hfp).2.2.2;have hem:=fun H=>aB9 r.priv hr.2.2.2.2.2 H;have hze:=fun H=>aDn r.priv.sl (kN hfp) H;have hckB:ckB r key=(!decide (r.sl.idx=2*r.number - 2)||!zV key (rU r) r.sl.idx r.sl.sig r.sl.path):=rfl;have hckC:ckC r=(fA r.priv&&!pX r.priv.sl):=rfl;have hckD:ckD r key=(!fA r.priv&&(!decide (r.priv.sl.idx=2*r.number - 1)||!zV key (qV r) r.priv.sl.idx r.priv.sl.sig r.priv.sl.path)):=rfl;obtain ⟨v1,hv1⟩:∃v1,v1=zV key (rU r) r.sl.idx r.sl.sig r.sl.path:=⟨_,rfl⟩;obtain ⟨v2,hv2⟩:∃v2,v2=zV key (qV r) r.priv.sl.idx r.priv.sl.sig r.priv.sl.path:=⟨_,rfl⟩;obtain ⟨em,hemE⟩:∃em,em=fA r.priv:=⟨_,rfl⟩;obtain ⟨ze,hzeE⟩:∃ze,ze=pX r.priv.sl:=⟨_,rfl⟩;obtain ⟨i,hi⟩:∃i,i=rU r:=⟨_,rfl⟩;obtain ⟨m,hm⟩:∃m,m=qV r:=⟨_,rfl⟩;rw[<-hv1]at hckB;rw[<-hv2]at hckD;rw[<-hemE]at hckC hckD;rw[<-hzeE]at hckC;simp only[<-hv1]at hve1;simp only[<-hv2]at hve2;simp only[<-hi]at hid hve1;simp only[<-hm]at hme hve2;simp only[<-hemE]at hem;simp only[<-hzeE]at hze;clear hv1 hv2 hemE hzeE hi hm hkey;refine aC<|Sq<|aO follows<|Cr [3] (fun _ h=>fh T0 h)<|Cr [3] (fun _ h=>lh aG h)<|Cr [2] (fun _ h=>fh tH h)<|Cr [2] (fun _ h=>lh isAgg3 h)<|Cr [] (fun H1 hH=>by exact bH rfl cC rfl rfl (by omega) (by exact aQP _) hix rfl)<|Cr [] (fun _ _=>(iN isAgg9 (hi:=hix)))<|Cr [2] (fun _ h=>fh eS h)<|Cr [2] (fun H1 hH=>by exact aN rfl gB sizeOf28 rfl ((hH _ rfl).trans rfl) rfl rfl rfl rfl)<|Cp [6] (fun H1 hH=>by exact bU (id:=6) rfl aKT rfl ((hH _ rfl).trans rfl))<|Cr [] (fun _ _=>aM)<|Cp [6] (fun H1 hH=>by exact cO rfl sizeOf28 rfl rfl rfl rfl ((hH _ rfl).trans rfl) rfl rfl rfl)<|bM<|Kr<|Sq<|aF<|Sq ?_;refine nY (t:=26) (n:=18) (X:=ckB r key) ?_ ?_
 ·cases hg35:(!decide (r.sl.idx=2*r.number - 2):Bool)
  ·refine aO follows<|Cq (aT kQ)<|Cq (aT lM)<|Cq (bF isAgg3)<|Cq (aT nX)<|Cq (bF isAgg3)<|Cq (by exact mB rfl rfl rfl (jM (by omega) (by omega)))<|Cq (by exact dX rfl rfl rfl (jM (by omega) (by omega)))<|Cq wM<|Cq aE<|Nf aE<|Nf (mD aS aL)<|Nf (by exact aA rfl rfl UU rfl (hid _))<|Nf (aT kQ)<|Nf (mD dD sizeOf25)<|Nf (by exact aA rfl rfl call28 rfl (hve1 _))<|Nf iS<|Cq oU<|Cq aM<|bM<|Kr ?_;exact⟨rfl,⟨_,rfl,by(rw[hckB,hg35];rfl)⟩,rfl,rfl,rfl⟩
  refine aO follows<|Cq (aT kQ)<|Cq (aT lM)<|Cq (bF isAgg3)<|Cq (aT nX)<|Cq (bF isAgg3)<|Cq (by exact mB rfl rfl rfl (jM (by omega) (by omega)))<|Cq (by exact dX rfl rfl rfl (jM (by omega) (by omega)))<|Cq wM<|Cq aE<|Of<|Of<|Of<|Of<|Of<|Of<|Of<|Cq yT<|Cq aM<|bM<|Kr ?_;exact⟨rfl,⟨_,rfl,by(rw[hckB,hg35];rfl)⟩,rfl,rfl,rfl⟩
 refine Cn ?_ ?_<;>intro hc2
 ·rw[aQD hc2];exact Sr<|Dd aM<|Zz<|aB<|Rt<|Qq
 rw[aQC (by rw[hc2];decide)];refine Sq ?_;refine aY (t:=44) (n:=10) (X:=ckC r) ?_ ?_
 ·all_goals refine Dd (mD gB sizeOf28) ?_
  all_goals refine Dd (by exact aA rfl rfl UQ rfl (hem _))<|Dm ?_
  all_goals refine Sp 47 (fun h47=>?_) fun h47=>?_
  all_goals try contradiction
  all_goals first|refine Fo<|Fo<|Fo<|Fo ?_|refine On (aT nA)<|On (mD dD sizeOf25)<|On (by exact aA rfl rfl call81 rfl (hze _))<|On iS ?_
  all_goals refine Dd cH<|Da ?_
  all_goals(exact⟨⟨_,rfl,by(rw[hckC,h47];rfl)⟩,rfl,rfl,rfl⟩)
 refine Cn ?_ ?_<;>intro hc3
 ·rw[aQD hc3];exact Sr<|Dd aM<|Zz<|aB<|Rt<|Qq
 rw[aQC (by rw[hc3];decide)];refine Sq ?_;refine nY (t:=53) (n:=23) (X:=ckD r key) ?_ ?_
 ·cases hg57:(!em:Bool)
  ·refine aO follows<|Cq (mD gB sizeOf28)<|Cq (by exact aA rfl rfl UQ rfl (hem _))<|Cq iS<|Cq aE<|Ot<|Ot<|Ot<|Ot<|Ot<|Ot<|Ot<|Ot<|Ot<|Ou<|Ou<|Ou<|Ou<|Ou<|Ou<|Ou<|Ot<|Cq oU<|Cq aM<|bM<|Kr ?_;exact⟨rfl,⟨_,rfl,by(rw[hckD,hg57];rfl)⟩,rfl,rfl,rfl⟩
  cases hg66:(!decide (r.priv.sl.idx=2*r.number - 1):Bool)
  ·refine aO follows<|Cq (mD gB sizeOf28)<|Cq (by exact aA rfl rfl UQ rfl (hem _))<|Cq iS<|Cq aE<|Nt (aT nA)<|Nt (aT lM)<|Nt (bF isAgg3)<|Nt (aT nX)<|Nt (bF isAgg3)<|Nt (by exact mB rfl rfl rfl (jM (by omega) (by omega)))<|Nt (by exact dX rfl rfl rfl (jM (by omega) (by omega)))<|Nt wM<|Nt aE<|Nf aE<|Nf (mD aS aL)<|Nf (by exact aA rfl rfl call82 rfl (hme _))<|Nf (aT nA)<|Nf (mD dD sizeOf25)<|Nf (by exact aA rfl rfl call28 rfl (hve2 _))<|Nf iS<|Nt oU<|Cq yT<|Cq aM<|bM<|Kr ?_;exact⟨rfl,⟨_,rfl,by(rw[hckD,hg57,hg66];rfl)⟩,rfl,rfl,rfl⟩
  refine aO follows<|Cq (mD gB sizeOf28)<|Cq (by exact aA rfl rfl UQ rfl (hem _))<|Cq iS<|Cq aE<|Nt (aT nA)<|Nt (aT lM)<|Nt (bF isAgg3)<|Nt (aT nX)<|Nt (bF isAgg3)<|Nt (by exact mB rfl rfl rfl (jM (by omega) (by omega)))<|Nt (by exact dX rfl rfl rfl (jM (by omega) (by omega)))<|Nt wM<|Nt aE<|Of<|Of<|Of<|Of<|Of<|Of<|Of<|Nt yT<|Cq yT<|Cq aM<|bM<|Kr ?_;exact⟨rfl,⟨_,rfl,by(rw[hckD,hg57,hg66];rfl)⟩,rfl,rfl,rfl⟩
 refine Cn ?_ ?_<;>intro hc4
 ·rw[aQD hc4];exact Sr<|Dd aM<|Zz<|aB<|Rt<|Qq
 rw[aQC (by rw[hc4];decide)];exact aC<|Sr<|Dd aM<|Zz<|aB<|Rt<|Qq
def PM(l:List ByteArray):List PV:=[aZ l]
def SV(ls:List (List ByteArray)):PV:=.sl (ls.map PM)
def Y2(l:List GRec):PV:=.sl (l.map bS)
def lsOk(l:List ByteArray):Bool:=decide (l.length<=30)&&l.all fun s=>decide (s.size<=300)
theorem zO{l:List α}{p:α->Bool}(h:∀j,j<l.length->∀b,l[j]?=some b->p b=true):l.all p=true:=by rw[List.all_eq_true];intro b hb;obtain ⟨j,hj⟩:=aQZ.1 hb;exact h j (aQI.1 hj).1 b hj
theorem DP{l:List α}{p:α->Bool}{b:α}(hb:l[i]?=some b)(h:p b=false):l.all p=false:=by rw[List.all_eq_false];exact⟨b,aQO hb,by rw[h];decide⟩
theorem uJ{l:List α}{p:α->Bool}{x:α}(h:∀j,j<i->∀b,l[j]?=some b->p b=true)(hx:l[i]?=some x)(hp:p x=true):∀j,j<i+1->∀b,l[j]?=some b->p b=true:=by
 intro j hj b hb;by_cases e:j=i
 ·subst e;rw[hx]at hb;cases hb;exact hp
 exact h j (by omega) b hb
theorem RA(ls:List (List ByteArray))(H:aH)(hl:ls.length<1099511627776)(hs:∀l∈ls,l.length<1099511627776):aI Tryz.prog 106 [.pv (SV ls)] H (fun r H'=>r=bv (ls.all lsOk)/\H'=H):=by
 refine Pu ?_;have hml:(ls.map PM).length=ls.length:=aQE _;refine Bd func106 rfl ntmps106<|Sr<|Dd aM<|Zz<|Sq<|Sr<|Dd aM<|Zz<|aF ?_;refine bJ (σ:=Nat) (fun k=>([(0,.pv (SV ls)),(3,iv (k:Int))],[])) (fun k=>k<=ls.length/\∀j,j<k->∀b,ls[j]?=some b->lsOk b=true) (fun k=>ls.length - k) 0 ⟨by omega,by omega⟩ ?_ ?_
 ·exact Wk
 rintro k ⟨hk,hno⟩;refine Sq<|Sr<|Dd aE<|Dd aE<|Dd (fM FA)<|Dd cW<|Zz ?_;refine Cn ?_ ?_<;>intro hc1
 ·have hlt:k<ls.length:=by have:=aQA hc1;omega
  obtain ⟨l,hl1⟩:=aU hlt;have hi:=cI (f:=PM) hl1;have hll:=hs l (aQO hl1);have hmm:(l.map encStr).length=l.length:=aQE _;have hnot:=fun h=>DP (p:=lsOk) hl1 h;refine aC<|Sq<|aF<|Sq<|Sr<|Dd aE<|Dd aE<|Dd (by exact bH rfl JH rfl rfl (by omega) (by exact aQP _) hi rfl)<|Dd (iN aG (hi:=hi))<|Dd (fM aD)<|Dd iG<|Zz ?_;refine Cn ?_ ?_<;>intro hc2
  ·have hb:¬ l.length<=30:=by have:=aQA hc2;omega
   rw[hnot (by rw[lsOk,decide_eq_false hb];rfl)];exact Sr<|Dd aM<|Zz<|aB<|Rt<|Qq
  have hb:l.length<=30:=by have:=aQB hc2;omega
  refine aC<|Sr<|Dd aM<|Zz<|aF ?_;refine bJ (σ:=Nat) (fun i=>([(0,.pv (SV ls)),(3,iv (k:Int)),(4,iv (i:Int))],[])) (fun i=>i<=l.length/\∀j,j<i->∀b,l[j]?=some b->decide (b.size<=300)=true) (fun i=>l.length - i) 0 ⟨by omega,by omega⟩ ?_ ?_
  ·exact Wk
  rintro i ⟨hi',hno2⟩;refine Sq<|Sr<|Dd aE<|Dd aE<|Dd aE<|Dd (by exact bH rfl JH rfl rfl (by omega) (by exact aQP _) hi rfl)<|Dd (iN aG (hi:=hi))<|Dd (fM aD)<|Dd cW<|Zz ?_;refine Cn ?_ ?_<;>intro hc3
  ·have hlt2:i<l.length:=by have:=aQA hc3;omega
   obtain ⟨s,hs1⟩:=aU hlt2;have hi2:=cI (f:=encStr) hs1;refine aC<|Sq<|aF<|Sr<|Dd aE<|Dd aE<|Dd (by exact bH rfl JH rfl rfl (by omega) (by exact aQP _) hi rfl)<|Dd (iN aG (hi:=hi))<|Dd aE<|Dd (by exact bH rfl cC rfl rfl (by omega) (by exact aQP _) hi2 rfl)<|Dd (iN isAgg9 (hi:=hi2))<|Dd (kG underlying9)<|Dd iG<|Zz ?_;refine Cn ?_ ?_<;>intro hc4
   ·have hb2:¬ s.size<=300:=by have:=aQA hc4;omega
    rw[hnot (by rw[lsOk,DP (p:=fun s=>decide (s.size<=300)) hs1 (decide_eq_false hb2),Bool.and_false])];exact Sr<|Dd aM<|Zz<|aB<|Rt<|Qq
   have hb2:s.size<=300:=by have:=aQB hc4;omega
   refine aC<|Rg<|Dd aE<|Dd (by exact cB rfl rfl rfl (show IntKind.i64.wrap ((i:Int)+1)=((i+1:Nat):Int)by rw[jM (by omega) (by omega)];omega))<|Da ?_;exact⟨i+1,⟨by omega,uJ (p:=fun s=>decide (s.size<=300)) hno2 hs1 (decide_eq_true hb2)⟩,by omega,Wk⟩
  have hge:i=l.length:=by have:=aQB hc3;omega
  subst hge;have hok:lsOk l=true:=by rw[lsOk,decide_eq_true hb,zO hno2];rfl
  refine aW<|Rg<|Dd aE<|Dd (by exact cB rfl rfl rfl (show IntKind.i64.wrap ((k:Int)+1)=((k+1:Nat):Int)by rw[jM (by omega) (by omega)];omega))<|Da ?_;exact⟨k+1,⟨by omega,uJ hno hl1 hok⟩,by omega,Wk⟩
 have hge:k=ls.length:=by have:=aQB hc1;omega
 subst hge;rw[zO hno];exact aW<|Sr<|Dd aM<|Zz<|aB<|Rt<|Qq
def aFx(r:GRec):Bool:=((!([r.parents,r.sl.sig,r.sl.path,r.priv.sources,r.priv.sl.sig,r.priv.sl.path].all lsOk)||!([[r.branch,r.target,r.from',r.priv.name,r.priv.reason]].all lsOk))||decide (210<((r.priv.trace.map fS).length:Int)))||!xU r.edits 10
def aAP(r:GRec):Bool:=!aFx r
def RV(l:List GRec)(n:Int):Bool:=decide ((l.length:Int)<=n)&&l.all aAP
theorem WS(h:fR r):∀l∈[r.parents,r.sl.sig,r.sl.path,r.priv.sources,r.priv.sl.sig,r.priv.sl.path],l.length<1099511627776:=by
 obtain ⟨_,_,h1,_,h3,_,_,h4,_,h6⟩:=h;intro l hl;simp only[aQQ,aQU,or_false]at hl;rcases hl with rfl|rfl|rfl|rfl|rfl|rfl
 ·exact h1.1
 ·exact h3.2.1.1
 ·exact h3.2.2.1
 ·exact h4.1
 ·exact h6.2.1.1
 exact h6.2.2.1
theorem aIu(l:List GRec)(n:Int)(H:aH)(hl:l.length<1099511627776)(hr:∀r∈l,fR r):aI Tryz.prog 37 [.pv (Y2 l),iv n] H (fun r H'=>r=bv (RV l n)/\H'=H):=by
 refine Pu ?_;have hml:(l.map bS).length=l.length:=aQE _;have hB:RV l n=(decide (((l.map bS).length:Int)<=n)&&l.all aAP):=by rw[RV,hml]
 refine Bd func37 rfl ntmps37<|Sr<|Dd aM<|Zz<|Sq<|Sr<|Dd aM<|Zz<|aF ?_;refine bJ (σ:=Nat) (fun k=>([(0,.pv (Y2 l)),(1,iv n),(5,iv (k:Int))],[])) (fun k=>k<=l.length/\∀j,j<k->∀b,l[j]?=some b->aAP b=true) (fun k=>l.length - k) 0 ⟨by omega,by omega⟩ ?_ ?_
 ·exact Wk
 rintro k ⟨hk,hno⟩;refine Sq<|Sq ?_;refine aY (t:=17) (n:=11) (X:=decide ((k:Int)<((l.map bS).length:Int))&&decide (((l.map bS).length:Int)<=n)) ?_ ?_
 ·all_goals refine Dd aE ?_
  all_goals refine Dd aE<|Dd (fM HE)<|Dd cW<|Dm ?_
  all_goals refine Sp 12 (fun h12=>?_) fun h12=>?_
  all_goals try contradiction
  all_goals first|refine Fo<|Fo<|Fo<|Fo ?_|refine On aE<|On (fM HE)<|On aE<|On G9 ?_
  all_goals refine Dd cH<|Zz ?_
  all_goals(exact⟨⟨_,rfl,by(rw[h12];rfl)⟩,rfl,rfl,rfl⟩)
 refine Cn ?_ ?_<;>intro hc1
 ·have hh:=hc1;rw[aQN,aQL,aQL]at hh;have hlt:k<l.length:=by omega
  obtain ⟨r,hr1⟩:=aU hlt;have hi:=cI (f:=bS) hr1;have hok:=hr r (aQO hr1);have hnot:=fun h=>DP (p:=aAP) hr1 h;have hl1:=fun H=>RA [r.parents,r.sl.sig,r.sl.path,r.priv.sources,r.priv.sl.sig,r.priv.sl.path] H (show 6<1099511627776 by decide) (WS hok);have hl2:=fun H=>RA [[r.branch,r.target,r.from',r.priv.name,r.priv.reason]] H (show 1<1099511627776 by decide) (by intro l hl;rw[aQH]at hl;subst hl;exact(by decide:5<1099511627776));have hed:=fun H=>aIv r.edits 10 H (by have:=hok.2.2.2.1.1;omega) (fun e he=>⟨⟨(hok.2.2.2.1.2 e he).2.2.2.2.1,(hok.2.2.2.1.2 e he).2.2.2.1.1⟩,by have:=(hok.2.2.2.1.2 e he).2.1.1;omega⟩);have hX:aFx r=(((!([r.parents,r.sl.sig,r.sl.path,r.priv.sources,r.priv.sl.sig,r.priv.sl.path].all lsOk)||!([[r.branch,r.target,r.from',r.priv.name,r.priv.reason]].all lsOk))||decide (210<((r.priv.trace.map fS).length:Int)))||!xU r.edits 10):=rfl;obtain ⟨b1,hb1⟩:∃b,b=[r.parents,r.sl.sig,r.sl.path,r.priv.sources,r.priv.sl.sig,r.priv.sl.path].all lsOk:=⟨_,rfl⟩;obtain ⟨b2,hb2⟩:∃b,b=[[r.branch,r.target,r.from',r.priv.name,r.priv.reason]].all lsOk:=⟨_,rfl⟩;obtain ⟨b3,hb3⟩:∃b,b=xU r.edits 10:=⟨_,rfl⟩;rw[<-hb1]at hl1 hX;rw[<-hb2]at hl2 hX;rw[<-hb3]at hed hX;clear hb1 hb2 hb3;refine aC<|Sq<|aF<|Sr<|Dd aE<|Dd aE<|Dd (by exact bH rfl aMk rfl rfl (by omega) (by exact aQP _) hi rfl)<|Dd (by exact dP rfl aS aL rfl hi rfl rfl)<|Dd (by exact bU (id:=6) rfl FF rfl rfl)<|Uu (jN aL)<|Zz<|Sr<|Dd (aT eS)<|Dd (mD gB sizeOf28)<|Dd (by exact bU (id:=7) rfl aKT rfl rfl)<|Uu (jN sizeOf28)<|Zz<|Sq ?_;refine aY (t:=72) (n:=50) (X:=aFx r) ?_ ?_
  ·all_goals refine Dd (aT lK) ?_
   all_goals refine Dd (bF aG)<|Dd (aT kQ)<|Dd (aT iA)<|Dd (bF aG)<|Dd (aT kQ)<|Dd (aT kV)<|Dd (bF aG)<|Dd (aT rB)<|Dd (bF aG)<|Dd (aT nA)<|Dd (aT iA)<|Dd (bF aG)<|Dd (aT nA)<|Dd (aT kV)<|Dd (bF aG)<|Dd (by exact aQ [PM r.parents,PM r.sl.sig,PM r.sl.path,PM r.priv.sources,PM r.priv.sl.sig,PM r.priv.sl.path] rfl JH rfl rfl rfl rfl rfl (by intro r hr;simp only[aQQ,aQU,or_false]at hr;rcases hr with rfl|rfl|rfl|rfl|rfl|rfl<;>rfl))<|Dd (by exact aA rfl rfl call106 rfl (hl1 _))<|Dd iS<|Dm ?_
   all_goals refine Sp 45 (fun h45=>?_) fun h45=>?_
   all_goals try contradiction
   all_goals first|refine Fo<|Fo<|Fo<|Fo<|Fo<|Fo<|Fo<|Fo<|Fo<|Fo ?_|refine On (aT vU)<|On (bF isAgg9)<|On (aT vS)<|On (bF isAgg9)<|On (aT rA)<|On (bF isAgg9)<|On (aT xT)<|On (bF isAgg9)<|On (aT xS)<|On (bF isAgg9) ?_
   all_goals first|refine Fo ?_|refine On (by exact aQ [[.str r.branch],[.str r.target],[.str r.from'],[.str r.priv.name],[.str r.priv.reason]] rfl cC rfl rfl rfl rfl rfl (by intro r hr;simp only[aQQ,aQU,or_false]at hr;rcases hr with rfl|rfl|rfl|rfl|rfl<;>rfl)) ?_
   all_goals first|refine Fo<|Fo<|Fo ?_|refine On (by exact aQ [PM [r.branch,r.target,r.from',r.priv.name,r.priv.reason]] rfl JH rfl rfl rfl rfl rfl (by intro r hr;rw[aQH]at hr;subst hr;rfl))<|On (by exact aA rfl rfl call106 rfl (hl2 _))<|On iS ?_
   all_goals refine Dd cH<|Dm ?_
   all_goals refine Sp 61 (fun h61=>?_) fun h61=>?_
   all_goals try contradiction
   all_goals first|refine Fo<|Fo<|Fo<|Fo ?_|refine On (aT mF)<|On (bF eW)<|On (fM dM)<|On iG ?_
   all_goals refine Dd cH<|Dm ?_
   all_goals refine Sp 67 (fun h67=>?_) fun h67=>?_
   all_goals try contradiction
   all_goals first|refine Fo<|Fo<|Fo<|Fo ?_|refine On (aT vT)<|On (bF iR)<|On (by exact aA rfl rfl call107 rfl (hed _))<|On iS ?_
   all_goals refine Dd cH<|Zz ?_
   all_goals(exact⟨⟨_,rfl,by first|(rw[hX,h45];rfl)|(rw[hX,h45,h61];rfl)|(rw[hX,h45,h61,h67];rfl)⟩,rfl,rfl,rfl⟩)
  refine Cn ?_ ?_<;>intro hc2
  ·rw[hB,hnot (by rw[aAP,hc2];rfl),Bool.and_false];exact Sr<|Dd aM<|Zz<|aB<|Rt<|Qq
  have hgo:aAP r=true:=by rw[aAP,hc2];rfl
  refine aC<|Rg<|Dd aE<|Dd (by exact cB rfl rfl rfl (show IntKind.i64.wrap ((k:Int)+1)=((k+1:Nat):Int)by rw[jM (by omega) (by omega)];omega))<|Da ?_;exact⟨k+1,⟨by omega,uJ hno hr1 hgo⟩,by omega,Wk⟩
 have hh:=hc1;rw[Bool.and_eq_false_iff,aQM,aQM]at hh;have hres:RV l n=decide (((l.map bS).length:Int)<=n):=by
  rw[hB];rcases hh with hh|hh
  ·have hge:k=l.length:=by omega
   subst hge;rw[zO hno,Bool.and_true]
  rw[decide_eq_false hh];rfl
 rw[hres];exact aW<|Sr<|Dd aE<|Dd (fM HE)<|Dd aE<|Dd G9<|Dd aM<|Zz<|aB<|Rt<|Qq
theorem aAB(l:List GRec)(H:aH)(hl:l.length<1099511627776)(hr:∀r∈l,fR r):aI Tryz.prog 8 [.pv (Y2 l)] H (fun r H'=>r=bv (RV l 5)/\H'=H):=by refine Pu ?_;have hf:=fun H=>aIu l 5 H hl hr;exact Bd func8 rfl ntmps8<|Sr<|Dd aM<|Zz<|Sr<|Dd aE<|Dd (by exact aA rfl rfl call37 rfl (hf _))<|Dd aM<|Zz<|aB<|Rt<|Qq
theorem yL(h:eQ r=true)(ha:gV a=true)(hb:gV b=true):eQ (J3 r a b)=true:=by simp only[eQ,aQN,aQX]at h |-;obtain ⟨⟨⟨⟨h1,h2⟩,h3⟩,h4⟩,h5⟩:=h;refine⟨⟨⟨⟨?_,h2⟩,h3⟩,h4⟩,h5⟩;simp only[YP,aQ0]at h1 |-;obtain ⟨⟨h1,_⟩,_⟩:=h1;exact⟨⟨h1,by show (!gV b)=false;rw[hb];rfl⟩,by show (!gV a)=false;rw[ha];rfl⟩
theorem aB6:gV zS=true:=by decide
theorem aAH(h:eQ r=true)(ha:gV a=true)(hb:gV b=true):rU (J3 r a b)=rU r:=by rw[rU,rU,aQD (yL h ha hb),aQD h];rfl
theorem aI5(h:eQ r=true)(ha:gV a=true)(hb:gV b=true):qV (J3 r a b)=qV r:=by rw[qV,qV,aAH h ha hb];rfl
theorem LC(h:eQ r=true):eQ (rO r)=true:=by
 simp only[eQ,aQN,aQX]at h |-;obtain ⟨⟨⟨⟨h1,h2⟩,h3⟩,h4⟩,h5⟩:=h;refine⟨⟨⟨⟨?_,h2⟩,h3⟩,h4⟩,h5⟩;simp only[YP,aQ0]at h1 |-;obtain ⟨_,h8⟩:=h1;refine⟨?_,h8⟩;have e1:gV ⟨0,[],[]⟩=true:=by decide
 have e2:CF sNil=false:=by decide
 simp[rO,e1,e2]
theorem aIp(h:eQ r=true):rU (rO r)=rU r:=by rw[rU,rU,aQD (LC h),aQD h];rfl
theorem aNe{s:GSeal}(h:FSeal s)(hl:s.sig.length=18):gV s=true:=by have i0:=h.i0;have i1:=h.i1;have l2:=h.pl;rw[gV,aQE,aQE,decide_eq_true i0,decide_eq_true i1,decide_eq_true (by omega),decide_eq_true (by omega),List.all_eq_true.2 h.sa,List.all_eq_true.2 h.pa];simp
theorem mN{i:Int}(h1:(tW s h i m).2=0):gV (tW s h i m).1=true:=by obtain ⟨f,e,_⟩:=pM h1;refine aNe f ?_;rw[e];exact FN _ _ _
theorem aAy{i:Int}(h1:(tW s h i m).2=0):zV (rG s h.toNat) m (tW s h i m).1.idx (tW s h i m).1.sig (tW s h i m).1.path=true/\(tW s h i m).1.idx=i:=by
 obtain ⟨_,e,⟨h2,h3⟩,h4,h5⟩:=pM h1;rw[e];refine⟨?_,rfl⟩;obtain ⟨n,rfl⟩:∃n:Nat,h=(n:Int):=⟨h.toNat,by omega⟩;obtain ⟨k,rfl⟩:∃k:Nat,i=(k:Int):=⟨i.toNat,by omega⟩;rw[aQP]at h5 |-;rw[aQP];have h6:k<2 ^ n:=by exact_mod_cast h5
 exact aDw s m (by omega) h6
theorem WY(h:nS r=(x,0)):x=r/\(jO r).2=0:=by
 rw[nS]at h
 split at h
 ·next hn=>exact absurd (congrArg Prod.snd h) hn
 next hn=>exact⟨(congrArg Prod.fst h).symm,by by_cases e:(jO r).2=0;exact e;exact absurd e hn⟩
structure Made(r x:GRec)(s:ByteArray)(h:Int):Prop where
 v0:eQ (wN r)=true
 a0:(tW s h (2*r.number - 2) (rU (wN r))).2=0
 tx:(jO x).2=0
 e:(fA r.priv=true/\x=mk1 r (tW s h (2*r.number - 2) (rU (wN r))).1)\/(fA r.priv=false/\(tW s h (2*r.number - 1) (qV (wN r))).2=0/\x=J3 r (tW s h (2*r.number - 2) (rU (wN r))).1 (tW s h (2*r.number - 1) (qV (wN r))).1)
theorem aBU(hm:qW r s h=(x,0)):Made r x s h:=by
 rw[qW]at hm
 split at hm
 ·cases hm
 next h1 =>
 split at hm
 ·next h2 =>
  have:=congrArg Prod.snd hm;exact absurd this h2
 next h2 =>
 have h2:(tW s h (2*r.number - 2) (rU (wN r))).2=0:=by
  by_cases e:(tW s h (2*r.number - 2) (rU (wN r))).2=0
  ·exact e
  exact absurd e h2
 split at hm
 ·next h3 =>
  obtain ⟨e1,e2⟩:=WY hm;exact⟨by simpa using h1,h2,e1▸e2,.inl ⟨h3,e1⟩⟩
 next h3 =>
 split at hm
 ·next h4 =>
  have:=congrArg Prod.snd hm;exact absurd this h4
 next h4 =>
 obtain ⟨e1,e2⟩:=WY hm;refine⟨by simpa using h1,h2,e1▸e2,.inr ⟨by simpa using h3,?_,e1⟩⟩;by_cases e:(tW s h (2*r.number - 1) (qV (wN r))).2=0
 ·exact e
 exact absurd e h4
theorem Made.valid(hm:Made r x s h):eQ x=true:=by
 rcases hm.e with⟨_,e⟩|⟨_,h2,e⟩
 ·rw[e];exact yL (r:=wN r) hm.v0 (mN hm.a0) aB6
 rw[e];exact yL (r:=wN r) hm.v0 (mN hm.a0) (mN h2)
theorem Made.text(hm:Made r x s h):jO x=(ofL (aP (pD x)),0):=by
 have h1:=hm.tx;rw[jO,aQD hm.valid]at h1 |-
 split at h1
 ·cases h1
 next h2=>rw[aQC h2]
theorem Made.id(hm:Made r x s h):rU x=rU (wN r):=by
 rcases hm.e with⟨_,e⟩|⟨_,h2,e⟩
 ·rw[e];exact aAH (r:=wN r) hm.v0 (mN hm.a0) aB6
 rw[e];exact aAH (r:=wN r) hm.v0 (mN hm.a0) (mN h2)
theorem Made.ver(hm:Made r x s h):zV (rG s h.toNat) (rU x) x.sl.idx x.sl.sig x.sl.path=true/\x.sl.idx=2*x.number - 2:=by
 rw[hm.id];have:=aAy hm.a0;rcases hm.e with⟨_,e⟩|⟨_,h2,e⟩
 ·rw[e];exact this
 rw[e];exact this
theorem Made.check(hm:Made r x s h)(hk:ks[r.author.toNat]?=some (rG s h.toNat)):tJ x ks=0:=by
 have hv:=hm.valid;have hf:=lE hv;have hau:=hf.au;obtain ⟨k1,k2⟩:=hm.ver;have ha:x.author=r.author:=by rcases hm.e with⟨_,e⟩|⟨_,_,e⟩<;>rw[e]<;>rfl
 have hlt:r.author.toNat<ks.length:=(aQI.1 hk).1;have hg:ks.getD x.author.toNat sNil=rG s h.toNat:=by rw[ha,List.getD_eq_getElem?_getD,hk];rfl
 rw[tJ,hg];have hA:ckA x ks=false:=by rw[ckA,hv,aQE,decide_eq_false (by omega)];rfl
 have hB:ckB x (rG s h.toNat)=false:=by rw[ckB,k1,decide_eq_true k2];rfl
 rw[hA,hB];rcases hm.e with⟨he,e⟩|⟨he,h2,e⟩
 ·have hC:ckC x=false:=by rw[ckC,e];show (_&&!pX zS)=false;rw[show pX zS=true by decide];simp
  have hD:ckD x (rG s h.toNat)=false:=by rw[ckD,e];show (!fA (mk1 r zS).priv&&_)=false;rw[show fA (mk1 r zS).priv=fA r.priv from rfl,he];rfl
  rw[hC,hD];rfl
 have hC:ckC x=false:=by rw[ckC,e];show (fA (mk1 r zS).priv&&_)=false;rw[show fA (mk1 r zS).priv=fA r.priv from rfl,he];rfl
 have hD:ckD x (rG s h.toNat)=false:=by
  obtain ⟨q1,q2⟩:=aAy h2;have hmm:qV x=qV (wN r):=by rw[e];exact aI5 (r:=wN r) hm.v0 (mN hm.a0) (mN h2)
  have hp:x.priv.sl=(tW s h (2*r.number - 1) (qV (wN r))).1:=by rw[e];rfl
  have hn:x.number=r.number:=by rw[e];rfl
  rw[ckD,hmm,hp,q1,hn,decide_eq_true q2];simp
 rw[hC,hD];rfl
theorem Made.bare(hm:Made r x s h)(hk:ks[r.author.toNat]?=some (rG s h.toNat)):tJ (rO x) ks=0:=by
 have hv:=hm.valid;have hf:=lE hv;have hau:=hf.au;obtain ⟨k1,k2⟩:=hm.ver;have ha:x.author=r.author:=by rcases hm.e with⟨_,e⟩|⟨_,_,e⟩<;>rw[e]<;>rfl
 have hlt:r.author.toNat<ks.length:=(aQI.1 hk).1;have hg:ks.getD x.author.toNat sNil=rG s h.toNat:=by rw[ha,List.getD_eq_getElem?_getD,hk];rfl
 rw[tJ,show (rO x).author=x.author from rfl,hg];have hA:ckA (rO x) ks=false:=by rw[ckA,LC hv,aQE,show (rO x).author=x.author from rfl,decide_eq_false (by omega)];rfl
 have hB:ckB (rO x) (rG s h.toNat)=false:=by
  rw[ckB,aIp hv];show (!decide (x.sl.idx=2*x.number - 2)||!zV (rG s h.toNat) (rU x) x.sl.idx x.sl.sig x.sl.path)=false;rw[k1,decide_eq_true k2];rfl
 have hC:ckC (rO x)=false:=by rw[ckC];show (_&&!pX zS)=false;rw[show pX zS=true by decide];simp
 have hD:ckD (rO x) (rG s h.toNat)=false:=by rw[ckD];show (!fA ⟨sNil,sNil,[],[],⟨0,[],[]⟩⟩&&_)=false;rw[show fA ⟨sNil,sNil,[],[],⟨0,[],[]⟩⟩=true by decide];rfl
 rw[hA,hB,hC,hD];rfl
theorem Made.parse(hm:Made r x s h):kO (aP (pD x))=(x,0):=MR hm.text
def uW:ByteArray:=⟨#[115,101,99,114,101,116]⟩
def aN5:ByteArray:=⟨#[109,97,105,110]⟩
def aJ1:ByteArray:=⟨#[65,110,110]⟩
def litH:ByteArray:=⟨#[54,58,114,101,99,111,114,100,49,58,53,49,58,49,49,58,50,49,58,53,52,58,109,97,105,110,49,58,48,48,58,48,58,49,58,48,49,58,48,48,58]⟩
def r0H:GRec:=⟨5,1,2,5,aN5,[],[],sNil,false,0,sNil,zS,⟨sNil,sNil,[],[],zS⟩⟩
def p0H:GRec:={r0H with priv:=⟨aJ1,sNil,[],[(1,2)],zS⟩}
def sAH:GSeal:=(tW uW 2 2 (qK litH)).1
def sBH:GSeal:=(tW uW 2 3 (qV p0H)).1
def xH:GRec:=J3 p0H sAH sBH
def fxH:GRec:={xH with clock:=6}
def f0H:GRec:={p0H with clock:=6}
def zC:ByteArray:=rG uW 2
theorem U7:eQ r0H=true:=by kernel_rfl
theorem LB:eQ p0H=true:=by kernel_rfl
theorem aDx:eQ f0H=true:=by kernel_rfl
theorem aFX:(⟨(aP (mA r0H)).toArray⟩:ByteArray)=litH:=by kernel_rfl
theorem aNc:rU r0H=qK litH:=by rw[rU,aQD U7,xX,aFX]
theorem aJw:rU p0H=qK litH:=by rw[rU,aQD LB];exact congrArg qK aFX
theorem MG:(tW uW 2 2 (qK litH)).2=0:=by rw[tW,aQC (by decide)]
theorem QF:(tW uW 2 3 (qV p0H)).2=0:=by rw[tW,aQC (by decide)]
theorem aJc{s:GSeal}(h:FSeal s):(∀t∈fI (.z s.idx s.sig s.path),t.size<=24)/\(fI (.z s.idx s.sig s.path)).length<=29:=by
 have i0:=h.i0;have i1:=h.i1;have l1:=h.sl;have l2:=h.pl;constructor
 ·intro t ht;simp only[fI,aQQ,List.mem_append]at ht;rcases ht with rfl|(rfl|ht)|(rfl|ht)
  ·exact Nat.le_trans (mE (by omega) (by omega)) (by decide)
  ·exact Nat.le_trans (mE (by omega) (by omega)) (by decide)
  ·exact Nat.le_trans (qX (h.sa t ht)) (by decide)
  ·exact Nat.le_trans (mE (by omega) (by omega)) (by decide)
  exact Nat.le_trans (qX (h.pa t ht)) (by decide)
 simp only[fI,aQG,aQF];omega
theorem aID:(mA p0H).all (fun s=>decide (s.size<=24))=true:=by kernel_rfl
theorem aEg:(mA p0H).length=12:=by kernel_rfl
theorem aHi:((fI (.t aJ1)++(fI (.t sNil)++(fI (.l [])++fI (.p [(1,2)]))))).all (fun s=>decide (s.size<=24))=true:=by kernel_rfl
theorem aEZ:((fI (.t aJ1)++(fI (.t sNil)++(fI (.l [])++fI (.p [(1,2)]))))).length=6:=by kernel_rfl
theorem LN(ha:FSeal a)(hb:FSeal b):(aP (pD (J3 p0H a b))).length<=20000:=by
 obtain ⟨a1,a2⟩:=aJc ha;obtain ⟨b1,b2⟩:=aJc hb;have he:pD (J3 p0H a b)=mA p0H++(fI (.z a.idx a.sig a.path)++((fI (.t aJ1)++(fI (.t sNil)++(fI (.l [])++fI (.p [(1,2)]))))++fI (.z b.idx b.sig b.path))):=by
  rw[pD,rN,FO];simp only[List.flatMap_cons,List.flatMap_nil,List.append_nil,List.append_assoc];rfl
 have hl:=aEZ;have hp:=aEg;rw[he];refine Nat.le_trans (AX (M:=24) (by decide) _ ?_) ?_
 ·intro s hs;rw[List.mem_append,List.mem_append,List.mem_append]at hs;rcases hs with hs|hs|hs|hs
  ·exact aQA (List.all_eq_true.1 aID s hs)
  ·exact a1 s hs
  ·exact aQA (List.all_eq_true.1 aHi s hs)
  exact b1 s hs
 rw[aQF,aQF,aQF];omega
theorem aBT:qW p0H uW 2=(xH,0):=by
 have e0:wN p0H=p0H:=rfl;have e1:(2:Int)*p0H.number - 2=2:=rfl;have e2:(2:Int)*p0H.number - 1=3:=rfl;have e3:fA p0H.priv=false:=by decide
 obtain ⟨fa,_⟩:=pM MG;obtain ⟨fb,_⟩:=pM QF;rw[qW,e0,e1,e2,LB,e3,aJw,aQC (by decide),aQC (fun h=>h MG),aQC (by decide),aQC (fun h=>h QF)];show nS xH=(xH,0);have hx:(jO xH).2=0:=by
  have hv:eQ xH=true:=yL (r:=p0H) LB (mN MG) (mN QF);rw[jO,aQD hv,aQC (by have:=LN fa fb;show ¬ 20000<(aP (pD (J3 p0H sAH sBH))).length;exact Nat.not_lt.2 this)]
 rw[nS,aQC (fun h=>h hx)]
theorem M9:Made p0H xH uW 2:=aBU aBT
theorem aIc:qW r0H uW 1=(zR,1):=by
 have e0:wN r0H=r0H:=rfl;have e1:(2:Int)*r0H.number - 2=2:=rfl;have e2:(tW uW 1 2 (rU r0H))=(zS,1):=by rw[tW,aQD (by decide)]
 rw[qW,e0,e1,U7,aQC (by decide),e2,aQD (by decide)]
theorem aK3:jO xH=(ofL (aP (pD xH)),0):=M9.text
theorem aIH:kO (aP (pD xH))=(xH,0):=M9.parse
theorem aOv:rU xH=qK litH:=by rw[M9.id];exact aJw
theorem aJU:tJ xH [sNil,zC]=0:=M9.check (by rfl)
theorem aLw:tJ (rO xH) [sNil,zC]=0:=M9.bare (by rfl)
theorem aJ4:tJ xH [zC]=1:=by
 rw[tJ,aQD];rw[ckA];have:decide ((([zC]:List ByteArray).map encStr).length<=xH.author)=true:=by decide
 rw[this,Bool.or_true]
theorem aAj:eQ fxH=true:=yL (r:=f0H) aDx (mN MG) (mN QF)
theorem aMc:zV (rG uW 2) (xX (mA f0H)) 2 (B3 uW 2 (qK litH)) (iK 2 (jG uW 2) 2)=false:=by kernel_rfl
theorem aFs:tJ fxH [sNil,zC]=16:=by
 rw[tJ,aQC,aQD]
 ·have hid:rU fxH=xX (mA f0H):=by rw[rU,aQD aAj];rfl
  have hs:fxH.sl=⟨2,B3 uW 2 (qK litH),iK 2 (jG uW 2) 2⟩:=(pM MG).2.1;have hk:([sNil,zC]:List ByteArray).getD fxH.author.toNat sNil=rG uW 2:=rfl;rw[hk,ckB,hid,hs];show (_||!zV (rG uW 2) (xX (mA f0H)) 2 (B3 uW 2 (qK litH)) (iK 2 (jG uW 2) 2))=true;rw[aMc];simp
 rw[ckA,aAj];decide
theorem aFH:fR r0H:=by refine⟨⟨⟨by decide,by decide⟩,⟨by decide,by decide⟩,⟨by decide,by decide⟩,⟨by decide,by decide⟩,⟨by decide,by decide⟩⟩,⟨by decide,by decide,by decide⟩,⟨by decide,by simp[r0H]⟩,⟨by decide,by simp[r0H]⟩,Z1,by decide,by decide,⟨by decide,by simp[r0H]⟩,by decide,Z1⟩
theorem aJm:fR p0H:=by obtain ⟨a,b,c,d,e,_⟩:=aFH;exact⟨a,b,c,d,e,by decide,by decide,⟨by decide,by simp[p0H]⟩,by decide,Z1⟩
theorem WP:fR xH:=EP aJm (kN (pM MG).1) (kN (pM QF).1)
theorem aNX:fR fxH:=by obtain ⟨⟨a1,a2,a3,a4,a5⟩,b,c⟩:=WP;exact⟨⟨a1,a2,a3,⟨by decide,by decide⟩,a5⟩,b,c⟩
def w0H:WRest:=⟨.sl [],.sl [],.int .i64 0,.sl [],.sl []⟩
theorem aCt:zC.size=16:=by kernel_rfl
theorem aFG:J2 [sNil,zC]:=⟨by decide,by
 intro t ht;simp only[aQQ,aQU,or_false]at ht;rcases ht with rfl|rfl
 ·decide
 rw[aCt];decide⟩
theorem aNW:J2 [zC]:=⟨by decide,fun t ht=>aFG.2 t (List.mem_cons_of_mem _ ht)⟩
theorem aNY:fR (rO xH):=by obtain ⟨a,b,c,d,e,_⟩:=WP;exact⟨a,b,c,d,e,by decide,by decide,⟨by decide,by simp[rO]⟩,by decide,Z1⟩
theorem neZ{a:Int}:(!decide (a=a))=false:=by simp
theorem cU.val{P:Program}{N:Nat}{o:Oper}{E:dG}{H H':aH}{b b':Bool}(h:cU P N o E H (.pv (.bool b)) H')(e:b=b'):cU P N o E H (.pv (.bool b')) H':=e▸h
theorem aFo(H:aH):aI Tryz.prog 7 [] H (fun r H'=>r=bv true/\H'=H):=by
 refine Pu ?_;have hSum:=fun H=>VD litH H (by decide);have hPub:=fun H=>LV uW 2 H (by decide) (by decide);have hMk:∀H,aI Tryz.prog 23 [av (bS p0H),sv uW,iv 2] H (fun x H'=>x=.tup [av (bS xH),iv 0]/\H'=H):=fun H=>by
  have:=Z8 p0H uW 2 aJm (by decide) (by decide) H;rw[aBT]at this;exact this
 have hMr:∀H,aI Tryz.prog 23 [av (bS r0H),sv uW,iv 1] H (fun x H'=>x=.tup [av (bS zR),iv 1]/\H'=H):=fun H=>by
  have:=Z8 r0H uW 1 aFH (by decide) (by decide) H;rw[aIc]at this;exact this
 have hTx:∀H,aI Tryz.prog 10 [av (bS xH)] H (fun x H'=>x=.tup [sv (ofL (aP (pD xH))),iv 0]/\H'=H):=fun H=>by
  have:=KJ xH WP (by decide) H;rw[aK3]at this;exact this
 have hlen:(aP (pD xH)).length<1099511627776:=Nat.lt_of_le_of_lt (LN (pM MG).1 (pM QF).1) (by decide);have hPa:∀H,aI Tryz.prog 12 [sv (ofL (aP (pD xH)))] H (fun x H'=>x=.tup [av (bS xH),iv 0]/\H'=H):=fun H=>by
  have:=WJ (aP (pD xH)) hlen H;rw[aIH]at this;exact this
 have hI0:∀H,aI Tryz.prog 16 [av (bS r0H)] H (fun x H'=>x=sv (qK litH)/\H'=H):=fun H=>by
  have:=W8 r0H aFH (by decide) H;rw[aNc]at this;exact this
 have hIx:∀H,aI Tryz.prog 16 [av (bS xH)] H (fun x H'=>x=sv (qK litH)/\H'=H):=fun H=>by
  have:=W8 xH WP (by decide) H;rw[aOv]at this;exact this
 have hSa:∀H,aI Tryz.prog 18 [av (bS xH),av (bS xH)] H (fun r H'=>r=bv true/\H'=H):=fun H=>by
  have:=QE xH xH H (sR WP) (sR WP);rw[VV.2 rfl]at this;exact this
 have hks:J2 [sNil,zC]:=aFG;have hC1:∀H,aI Tryz.prog 19 [av (bS xH),av (aDG w0H [sNil,zC])] H (fun x H'=>x=iv 0/\H'=H):=fun H=>by
  have:=DK xH w0H [sNil,zC] WP (by decide) hks H;rw[aJU]at this;exact this
 have hBa:=fun H=>aBj xH H;have hC2:∀H,aI Tryz.prog 19 [av (bS (rO xH)),av (aDG w0H [sNil,zC])] H (fun x H'=>x=iv 0/\H'=H):=fun H=>by
  have:=DK (rO xH) w0H [sNil,zC] aNY (by decide) hks H;rw[aLw]at this;exact this
 have hC3:∀H,aI Tryz.prog 19 [av (bS fxH),av (aDG w0H [sNil,zC])] H (fun x H'=>x=iv 16/\H'=H):=fun H=>by
  have:=DK fxH w0H [sNil,zC] aNX (by decide) hks H;rw[aFs]at this;exact this
 have hC4:∀H,aI Tryz.prog 19 [av (bS xH),av (aDG w0H [zC])] H (fun x H'=>x=iv 1/\H'=H):=fun H=>by
  have:=DK xH w0H [zC] WP (by decide) aNW H;rw[aJ4]at this;exact this
 refine Bd func7 rfl ntmps7<|Sr<|Dd aM<|Zz<|Sr<|Dd (rJ J7)<|Dd (by exact bU (id:=1) rfl FF rfl rfl)<|Uu (jN aL)<|Zz<|Sr<|Dd (by exact aA rfl rfl UT rfl (hSum _))<|Dd aM<|Zz<|Sr<|Dd (by exact aA rfl rfl call25 rfl (hPub _))<|Dd aE<|Dd fG<|Dd fG<|Dd aM<|Dd aM<|Zz<|Sr<|Dd aE<|Dd (by exact aQ ([sNil,zC].map encStr) rfl cC rfl rfl rfl rfl rfl (by intro r hr;simp only[List.map_cons,List.map_nil,aQQ,aQU,or_false]at hr;rcases hr with rfl|rfl<;>rfl))<|Dd (rJ aNq)<|Dd (by exact bU (id:=5) rfl aO2 rfl rfl)<|Uu (jN BN)<|Zz<|Sr<|Dd (by exact aN rfl aS aL rfl rfl rfl rfl (by simp only[Zl,encStr];rfl) rfl)<|Dd (by exact bU (id:=6) rfl FF rfl rfl)<|Uu (jN aL)<|Zz<|Sr<|Dd (rJ X3)<|Dd (by exact aQ ([((1:Int),(2:Int))].map fS) rfl MC rfl rfl rfl rfl rfl (by intro r hr;simp only[List.map_cons,List.map_nil,aQQ,aQU,or_false]at hr;subst hr;rfl)) ?_;refine Dd (rJ aLv)<|Dd (aT eS)<|Uu (by exact iY rfl sizeOf28 rfl rfl rfl rfl rfl rfl rfl (aQR rfl) rfl rfl)<|Zz<|Sr<|Dd (by exact aN rfl aS aL rfl rfl rfl rfl (by simp only[Zl,encStr];rfl) rfl)<|Dd (by exact aA rfl rfl aPp rfl (hMk _))<|Dd aE<|Dd fG<|Dd fG<|Dd (by exact bU (id:=7) rfl FF rfl rfl)<|Uu (jN aL)<|Dd aM<|Zz<|Sr<|Dd (by exact aN rfl aS aL rfl rfl rfl rfl (by simp only[Zl,encStr];rfl) rfl)<|Dd (by exact aA rfl rfl aHG rfl (hTx _))<|Dd aE<|Dd fG<|Dd fG<|Dd aM<|Dd aM<|Zz<|Sr<|Dd aE<|Dd (by exact aA rfl rfl call12 rfl (hPa _))<|Dd aE<|Dd fG<|Dd fG<|Dd (by exact bU (id:=11) rfl FF rfl rfl)<|Uu (jN aL)<|Dd aM<|Zz<|Sr<|Dd (by exact aN rfl aS aL rfl rfl rfl rfl (by simp only[Zl,encStr];rfl) rfl) ?_;refine Dd (by exact bU (id:=13) rfl FF rfl rfl)<|Uu (jN aL)<|Zz<|Sr<|Dd (aT vV)<|Dd (bF isAgg3)<|Dd (by exact cB rfl rfl rfl (by rfl))<|Dd (aT vV)<|Uu (by exact bG rfl sizeOf3 rfl rfl rfl rfl rfl rfl (aQR rfl) rfl rfl)<|Zz<|Sr<|Dd (by exact aN rfl aS aL rfl rfl rfl rfl (by simp only[Zl,encStr];rfl) rfl)<|Dd (by exact aA rfl rfl aPp rfl (hMr _))<|Dd aE<|Dd fG<|Dd fG<|Dd (by exact bU (id:=14) rfl FF rfl rfl)<|Uu (jN aL)<|Dd aM<|Zz<|Sq<|Sr<|Dd aE<|Dd (by exact cU.val (by exact sE rfl rfl rfl) (neZ))<|Dd aE<|On aE<|On (by exact cU.val (by exact sE rfl rfl rfl) (neZ))<|Dd cH<|Dd aE<|On aE<|On (by exact cU.val (by exact sE rfl rfl rfl) (neZ))<|Dd cH<|Dd aE<|On aE<|On (by exact cU.val (by exact sE rfl rfl rfl) (neZ)) ?_;refine Dd cH<|Dd aE<|On aE<|On (by exact cU.val (by exact sE rfl rfl rfl) (neZ))<|Dd cH<|Zz ?_;refine Cn ?_ ?_<;>intro hc1
 ·refine Sr<|Dd aM<|Zz<|aB<|Rt ?_;cases hc1
 refine aC<|Sq<|aO follows<|Cq (by exact aN rfl aS aL rfl rfl rfl rfl (by simp only[Zl,encStr];rfl) rfl)<|Cq (by exact aA rfl rfl UU rfl (hI0 _))<|Cq aE<|Cq (by exact cU.val (by exact F2 rfl rfl rfl) ((decide_eq_true rfl)))<|Cq aE<|Nt (by exact aN rfl aS aL rfl rfl rfl rfl (by simp only[Zl,encStr];rfl) rfl)<|Nt (by exact aA rfl rfl UU rfl (hIx _))<|Nt aE<|Nt (by exact cU.val (by exact F2 rfl rfl rfl) ((decide_eq_true rfl)))<|Cq cH<|Cq aE<|Nt (by exact aN rfl aS aL rfl rfl rfl rfl (by simp only[Zl,encStr];rfl) rfl)<|Nt (by exact aN rfl aS aL rfl rfl rfl rfl (by simp only[Zl,encStr];rfl) rfl)<|Nt (by exact aA rfl rfl aPq rfl (hSa _))<|Cq cH<|Cq aE<|Nt (by exact aN rfl aS aL rfl rfl rfl rfl (by simp only[Zl,encStr];rfl) rfl) ?_;refine Nt (by exact aN rfl OJ BN rfl rfl rfl rfl (by simp only[Zl,encStr];rfl) rfl)<|Nt (by exact aA rfl rfl HG rfl (hC1 _))<|Nt (by exact cU.val (by exact oA rfl rfl rfl) ((decide_eq_true rfl)))<|Cq cH<|Cq aE<|Nt (by exact aN rfl aS aL rfl rfl rfl rfl (by simp only[Zl,encStr];rfl) rfl)<|Nt (by exact aA rfl rfl call21 rfl (hBa _))<|Nt (by exact aN rfl OJ BN rfl rfl rfl rfl (by simp only[Zl,encStr];rfl) rfl)<|Nt (by exact aA rfl rfl HG rfl (hC2 _))<|Nt (by exact cU.val (by exact oA rfl rfl rfl) ((decide_eq_true rfl)))<|Cq cH<|Cq aE<|Nt (by exact aN rfl aS aL rfl rfl rfl rfl (by simp only[Zl,encStr];rfl) rfl)<|Nt (by exact aN rfl OJ BN rfl rfl rfl rfl (by simp only[Zl,encStr];rfl) rfl) ?_;refine Nt (by exact aA rfl rfl HG rfl (hC3 _))<|Nt (by exact cU.val (by exact oA rfl rfl rfl) ((decide_eq_true rfl)))<|Cq cH<|Cq aE<|Nt (by exact aN rfl aS aL rfl rfl rfl rfl (by simp only[Zl,encStr];rfl) rfl)<|Nt aE<|Nt (by exact aQ ([zC].map encStr) rfl cC rfl rfl rfl rfl rfl (by intro r hr;simp only[List.map_cons,List.map_nil,aQQ,aQU,or_false]at hr;subst hr;rfl))<|Nt (rJ aNq)<|Nt (by exact aA rfl rfl HG rfl (hC4 _))<|Nt (by exact cU.val (by exact oA rfl rfl rfl) ((decide_eq_true rfl)))<|Cq cH<|Cq aE<|Nt (aT kQ)<|Nt (aT lM)<|Nt (bF isAgg3)<|Nt (by exact cU.val (by exact oA rfl rfl rfl) ((decide_eq_true rfl)))<|Cq cH<|Cq aE<|Nt (aT eS)<|Nt (aT nA)<|Nt (aT lM)<|Nt (bF isAgg3)<|Nt (by exact cU.val (by exact oA rfl rfl rfl) ((decide_eq_true rfl))) ?_;exact Cq cH<|Cq aM<|bM<|Kr<|aB<|Rt<|Qq
section
def aJh(B:Nat)(l:List (Int×Int)):Prop:=l.length<=B/\∀q,q∈l->OP q.1/\OP q.2
def SK(B:Nat)(s:GSeal):Prop:=OP s.idx/\EH B s.sig/\EH B s.path
def YW(B:Nat)(p:GPriv):Prop:=p.name.size<=B/\p.reason.size<=B/\EH B p.sources/\aJh B p.trace/\SK B p.sl
def aAp(B:Nat)(r:GRec):Prop:=(OP r.kind/\OP r.author/\OP r.number/\OP r.clock/\OP r.order)/\(r.branch.size<=B/\r.target.size<=B/\r.from'.size<=B)/\EH B r.parents/\aAq B r.edits/\SK B r.sl/\YW B r.priv
section
variable{B n:Nat}{ps:List PV}
theorem aNm(h:Sh Tryz.prog B (n+3) 26 ps):∃l,ps=[sN l]/\aJh B l:=by
 obtain ⟨l,rfl,h1,h2⟩:=KQ (f:=fS) (good:=fun q=>OP q.1/\OP q.2) dM h (fun r hr=>by
  obtain ⟨x,y,rfl,h1,h2⟩:=T8 hr;exact⟨(x,y),rfl,h1,h2⟩)
 exact⟨l,rfl,h1,h2⟩
theorem aGI(h:Sh Tryz.prog B (n+3) 25 ps):∃s,ps=fZ s/\SK B s:=by obtain ⟨_,_,rfl,_,h1,_,_,rfl,_,h2,_,_,rfl,_,h3,rfl⟩:=rS gY h;obtain ⟨i,rfl,q1⟩:=uT underlying3 h1;obtain ⟨a,rfl,q2⟩:=IR h2;obtain ⟨b,rfl,q3⟩:=IR h3;exact⟨⟨i,a,b⟩,rfl,q1,q2,q3⟩
theorem aLk(h:Sh Tryz.prog B (n+4) 28 ps):∃p,ps=iP p/\YW B p:=by obtain ⟨_,_,rfl,_,h1,_,_,rfl,_,h2,_,_,rfl,_,h3,_,_,rfl,_,h4,_,_,rfl,_,h5,rfl⟩:=rS nJ h;obtain ⟨a,rfl,q1⟩:=pL underlying9 h1;obtain ⟨b,rfl,q2⟩:=pL underlying9 h2;obtain ⟨c,rfl,q3⟩:=IR h3;obtain ⟨d,rfl,q4⟩:=aNm h4;obtain ⟨s,rfl,q5⟩:=aGI h5;exact⟨⟨a,b,c,d,s⟩,rfl,q1,q2,q3,q4,q5⟩
theorem aNl(h:Sh Tryz.prog B (n+7) 30 ps):∃r,ps=bS r/\aAp B r:=by obtain ⟨_,_,rfl,_,h1,_,_,rfl,_,h2,_,_,rfl,_,h3,_,_,rfl,_,h4,_,_,rfl,_,h5,_,_,rfl,_,h6,_,_,rfl,_,h7,_,_,rfl,_,h8,_,_,rfl,_,h9,_,_,rfl,_,h10,_,_,rfl,_,h11,_,_,rfl,_,h12,_,_,rfl,_,h13,rfl⟩:=rS eC h;obtain ⟨a1,rfl,q1⟩:=uT underlying3 h1;obtain ⟨a2,rfl,q2⟩:=uT underlying3 h2;obtain ⟨a3,rfl,q3⟩:=uT underlying3 h3;obtain ⟨a4,rfl,q4⟩:=uT underlying3 h4;obtain ⟨a5,rfl,q5⟩:=pL underlying9 h5;obtain ⟨a6,rfl,q6⟩:=IR h6;obtain ⟨a7,rfl,q7⟩:=aJF h7;obtain ⟨a8,rfl,q8⟩:=pL underlying9 h8;obtain ⟨a9,rfl⟩:=aH5 eV h9;obtain ⟨a10,rfl,q10⟩:=uT underlying3 h10;obtain ⟨a11,rfl,q11⟩:=pL underlying9 h11;obtain ⟨s,rfl,q12⟩:=aGI h12;obtain ⟨p,rfl,q13⟩:=aLk h13;exact⟨⟨a1,a2,a3,a4,a5,a6,a7,a8,a9,a10,a11,s,p⟩,rfl,⟨q1,q2,q3,q4,q10⟩,⟨q5,q8,q11⟩,q6,q7,q12,q13⟩
end
theorem QV{s:GSeal}(h:SK 1048576 s):pO s:=⟨h.1.bd,⟨Nat.lt_of_le_of_lt h.2.1.1 (by decide),fun t ht=>Nat.lt_of_le_of_lt (h.2.1.2 t ht) (by decide)⟩,⟨Nat.lt_of_le_of_lt h.2.2.1 (by decide),fun t ht=>Nat.lt_of_le_of_lt (h.2.2.2 t ht) (by decide)⟩⟩
theorem aCk{p:GPriv}(h:YW 1048576 p):MZ p:=⟨Nat.lt_of_le_of_lt h.1 (by decide),Nat.lt_of_le_of_lt h.2.1 (by decide),⟨Nat.lt_of_le_of_lt h.2.2.1.1 (by decide),fun t ht=>Nat.lt_of_le_of_lt (h.2.2.1.2 t ht) (by decide)⟩,Nat.lt_of_le_of_lt h.2.2.2.1.1 (by decide),QV h.2.2.2.2⟩
theorem aFI(h:aAp 1048576 r):fR r:=by obtain ⟨⟨h1,h2,h3,h4,h5⟩,⟨q1,q2,q3⟩,p,e,s,v⟩:=h;exact⟨⟨h1.bd,h2.bd,h3.bd,h4.bd,h5.bd⟩,⟨by omega,by omega,by omega⟩,⟨Nat.lt_of_le_of_lt p.1 (by decide),fun t ht=>Nat.lt_of_le_of_lt (p.2 t ht) (by decide)⟩,⟨Nat.lt_of_le_of_lt e.1 (by decide),fun x hx=>aLN (by decide) (e.2 x hx)⟩,QV s,aCk v⟩
theorem aKr(h:aAp 1048576 r):r.parents.length<549755813888:=Nat.lt_of_le_of_lt h.2.2.1.1 (by decide)
end
theorem aHq(h:aAp 1048576 r):∀e∈r.edits,e.refs.length<1099511627776:=fun e he=>Nat.lt_of_le_of_lt (h.2.2.2.1.2 e he).2.2.2.2.2.2.2.2.1.1 (by decide)
end Go.Proofs.YtmdicgjnmfolfaaGreatDoor
namespace Go.Proofs.YtmdicgjnmfolfaaGreatDoor
open Go.Proofs.Tryz
open Go.Abs Go.Lib
variable{q i:Nat}{l:List UInt8}{s:ByteArray}{y:UInt8}
theorem R3(s:List UInt8)(H:aH):∀r∈eR s,∀a∈r,Clo H a:=by intro r hr a ha;obtain ⟨b,_,rfl⟩:=List.mem_map.1 hr;rw[aQH.1 ha];exact .pv _
abbrev TX:ByteArray:=⟨#[48,49,50,51,52,53,54,55,56,57]⟩
theorem aK2:∀q:Fin 10,(TX.extract q.1 (q.1+1)).data.toList=[UInt8.ofNat (48+q.1)]:=fun q=>by
 rw[iI,show q.1+1 - q.1=1 by omega];revert q;decide
theorem aEB(h:q<10):TX.extract q (q+1)=ofL [UInt8.ofNat (48+q)]:=rF (by rw[aK2 ⟨q,h⟩,dI])
theorem aFL(a b:List UInt8):ofL a++ofL b=ofL (a++b):=rF (by rw[ByteArray.data_append,Array.toList_append,dI,dI,dI])
def T7(v:Nat):List UInt8:=if v=0 then[]else decDigits v
theorem aDM{v:Nat}(h:0<v)(t:List UInt8):T7 (v / 10)++(UInt8.ofNat (48+v % 10)::t)=T7 v++t:=by
 have e:T7 v=decDigits v:=aQC (by omega);rw[e,decDigits];by_cases h10:v<10
 ·rw[dif_pos h10,T7,aQD (by omega),Nat.mod_eq_of_lt h10];rfl
 rw[dif_neg h10,T7,aQC (by omega),List.append_assoc];rfl
theorem aAS(n:Nat):T7 (n / 10)++[UInt8.ofNat (48+n % 10)]=decDigits n:=by
 rw[decDigits];by_cases h10:n<10
 ·rw[dif_pos h10,T7,aQD (by omega),Nat.mod_eq_of_lt h10];rfl
 rw[dif_neg h10,T7,aQC (by omega)]
theorem aE8(n:Nat)(hn:n<9223372036854775808)(H:aH):aI Tryz.prog 142 [uv n] H (fun r H'=>r=sv (ofL (decDigits n))/\H'=H):=by
 refine Pu ?_;have step:∀v:Nat,v<18446744073709551616->((v:Nat):Int).tmod 10=((v % 10:Nat):Int)/\IntKind.u64.wrap (((v:Nat):Int).tdiv 10)=((v / 10:Nat):Int)/\IntKind.u64.wrap (((v % 10:Nat):Int)+1)=((v % 10+1:Nat):Int)/\v % 10<10/\v % 10+1<=TX.size:=fun v hv=>by
  refine⟨by rw[Int.tmod_eq_emod_of_nonneg (by omega)];omega,by rw[Int.tdiv_eq_ediv_of_nonneg (by omega),IntKind.wrap_u64];omega,by rw[IntKind.wrap_u64];omega,Nat.mod_lt _ (by decide),?_⟩;have:TX.size=10:=rfl;omega
 obtain ⟨a1,a2,a3,a4,a5⟩:=step n (by omega);have hx:=aEB a4;have hfin:=aAS n;obtain ⟨g,hg⟩:∃g,g=n % 10:=⟨_,rfl⟩;rw[<-hg]at a1 a3 a4 a5 hx hfin;refine Bd func142 rfl ntmps142<|Sr<|Dd aM<|Zz<|Sr<|Dd aE<|Dd (by exact sC rfl rfl rfl (by decide) a1)<|Dd aE<|Dd (by exact sC rfl rfl rfl (by decide) a1)<|Dd (by exact cB rfl rfl rfl a3)<|Dd (by exact cQ (l:=g) (h:=g+1) rfl underlying9 rfl rfl rfl (by omega) a5 hx)<|Dd aM<|Zz<|Sq<|Sr<|Dd aE<|Dd (by exact sD rfl rfl rfl (by decide) a2)<|Dd aM<|Zz<|aF ?_;refine jK (fun(v:Nat) (t:List UInt8)=>([(0,uv v),(3,sv (ofL t))],[])) (fun v t=>v<9223372036854775808/\T7 v++t=decDigits n) (fun v t=>v) (n / 10) [UInt8.ofNat (48+g)] ⟨by omega,hfin⟩ ?_ ?_
 ·exact Wk
 rintro v t ⟨hv,hvt⟩;obtain ⟨b1,b2,b3,b4,b5⟩:=step v (by omega);have hx:=aEB b4;have hlen:t.length<=21:=by
  have h1:=congrArg List.length hvt;rw[aQF]at h1;have h2:=dY (k:=19) (u:=n) (by omega) (by decide);omega
 by_cases h0:0<v
 ·have hst:=aDM h0 t;rw[hvt]at hst;obtain ⟨g,hg⟩:∃g,g=v % 10:=⟨_,rfl⟩;rw[<-hg]at b1 b3 b4 b5 hx hst;refine Sq<|Sr<|Dd aE<|Dd iG<|Zz ?_;refine Cn ?_ ?_<;>intro hc1
  ·refine aC<|Sq<|aF<|Rg<|Dd aE<|Dd (by exact sC rfl rfl rfl (by decide) b1)<|Dd aE<|Dd (by exact sC rfl rfl rfl (by decide) b1)<|Dd (by exact cB rfl rfl rfl b3)<|Dd (by exact cQ (l:=g) (h:=g+1) rfl underlying9 rfl rfl rfl (by omega) b5 hx)<|Dd aE<|Dd (by exact cK rfl rfl rfl (by rw[dH,dH,List.length_singleton];omega) (aFL [UInt8.ofNat (48+g)] t))<|Dd aM<|Zz<|Rg<|Dd aE<|Dd (by exact sD rfl rfl rfl (by decide) b2)<|Da ?_;exact⟨v / 10,UInt8.ofNat (48+g)::t,⟨by omega,hst⟩,by omega,Wk⟩
  (have h:=aQB hc1;omega)
 have hv0:v=0:=by omega
 subst hv0;have ht:t=decDigits n:=hvt;subst ht;refine Sq<|Sr<|Dd aE<|Dd iG<|Zz ?_;refine Cn ?_ ?_<;>intro hc2
 ·cases hc2
 exact aW<|Sr<|Dd aE<|Dd aM<|Zz<|aB<|Rt<|Qq
theorem VW(n:Nat)(hn:n<9223372036854775808)(H:aH):aI Tryz.prog 99 [iv (n:Int)] H (fun r H'=>r=sv (ofL (decDigits n))/\H'=H):=by
 refine Pu ?_;have hd:=fun H=>aE8 n hn H;refine Bd func99 rfl ntmps99<|Sr<|Dd aM<|Zz<|Sq<|Sr<|Dd aE<|Dd cW<|Zz ?_;refine Cn ?_ ?_<;>intro hc1
 ·(have h:=aQA hc1;omega)
 exact aC<|Sr<|Dd aE<|Dd (by exact iH rfl underlying3 jY rfl (U6 (by omega)))<|Dd (by exact aA rfl rfl call142 rfl (hd _))<|Dd aM<|Zz<|aB<|Rt<|Qq
def FI(L:List ByteArray):Nat:=(L.map fun s=>s.size+21).sum
theorem aCG(L:List ByteArray)(s:ByteArray):FI (L++[s])=FI L+(s.size+21):=by rw[FI,List.map_append,List.sum_append];rfl
theorem aAr:∀ {L:List ByteArray},(∀s∈L,s.size<=100000000)->FI L<=L.length*100000021
 | [],_=>aQV _
 |s::r,h=>by
  have ih:=aAr (L:=r) (fun x hx=>h x (List.mem_cons_of_mem _ hx));have hs:=h s List.mem_cons_self;show s.size+21+FI r<=_;rw[aQG,Nat.add_mul];omega
theorem RJ:∀ {L:List ByteArray},(∀s∈L,s.size<=100000000)->(aP L).length<=FI L
 | [],_=>aQV _
 |s::r,h=>by
  have ih:=RJ (L:=r) (fun x hx=>h x (List.mem_cons_of_mem _ hx));have hs:=h s List.mem_cons_self;have hd:=dY (k:=9) (u:=s.size) (by omega) (by decide);rw[xD,aQF,aQG,aQF,bD];show _<=s.size+21+FI r;omega
theorem W2(L:List ByteArray)(s:ByteArray):aP (L++[s])=(aP L++decDigits s.size)++[58]++s.data.toList:=by rw[W3,xD];show aP L++(decDigits s.size++58::(s.data.toList++[]))=_;rw[List.append_nil,List.append_assoc,List.append_assoc];rfl
theorem QH(L:List ByteArray)(hL:L.length<=100000)(hs:∀s∈L,s.size<=100000000)(H:aH):aI Tryz.prog 45 [.pv (aZ L)] H (fun r H'=>r=sv (ofL (aP L))/\H'=H):=by
 refine Pu ?_;have hml:(L.map encStr).length=L.length:=aQE _;have htk:∀i,FI (L.take i)<=10000002100000:=fun i=>by
  have h1:=aAr (L:=L.take i) (fun s h=>hs s (List.mem_of_mem_take h));have h2:(L.take i).length<=100000:=by rw[aQS];omega
  have h3:=Nat.mul_le_mul_right 100000021 h2;omega
 have hjl:∀i,(aP (L.take i)).length<=FI (L.take i):=fun i=>RJ fun s h=>hs s (List.mem_of_mem_take h);refine Bd func45 rfl ntmps45<|Sr<|Dd aM<|Zz<|Sr<|Dd aM<|Zz<|Sq<|Sr<|Dd aM<|Zz<|aF ?_;refine bJ (σ:=Nat) (fun i=>([(0,.pv (aZ L)),(3,iv (FI (L.take i):Int)),(4,iv (i:Int))],[])) (fun i=>i<=L.length) (fun i=>L.length - i) 0 (aQV _) ?_ ?_
 ·exact Wk
 intro i hi;have hb:=htk i;refine Sq<|Sr<|Dd aE<|Dd aE<|Dd (fM aD)<|Dd cW<|Zz ?_;refine Cn ?_ ?_<;>intro hc1
 ·have hlt:i<L.length:=by have:=aQA hc1;omega
  obtain ⟨s,hsi⟩:=aU hlt;have his:=cI (f:=encStr) hsi;have hsz:=hs s (aQO hsi);have hnx:FI (L.take (i+1))=FI (L.take i)+(s.size+21):=by rw[mS hsi,aCG]
  refine aC<|Sq<|aF<|Rg<|Dd aE<|Dd aE<|Dd aE<|Dd (by exact bH rfl cC rfl rfl (by omega) (by exact aQP _) his rfl)<|Dd (iN isAgg9)<|Dd (kG underlying9)<|Dd (by exact cB rfl rfl rfl (show IntKind.i64.wrap ((s.size:Int)+21)=((s.size+21:Nat):Int)by rw[jM (by omega) (by omega)];omega))<|Dd (by exact cB rfl rfl rfl (show IntKind.i64.wrap ((FI (L.take i):Int)+((s.size+21:Nat):Int))=((FI (L.take (i+1)):Nat):Int)by rw[hnx,jM (by omega) (by omega)];omega))<|Dd aM<|Zz<|Rg<|Dd aE<|Dd (by exact cB rfl rfl rfl (show IntKind.i64.wrap ((i:Int)+1)=((i+1:Nat):Int)by rw[jM (by omega) (by omega)];omega))<|Da ?_;exact⟨i+1,by omega,by omega,Wk⟩
 have hge:i=L.length:=by have:=aQB hc1;omega
 refine aW<|Sr<|Dd aE<|Dd (by exact BZ (id:=905) rfl yN ei5 zo5 rfl rfl rfl (by omega) (by omega) (by exact aQP _) (by exact aQP _) (by omega) rfl)<|Dd aM<|Zz<|Sq<|Sr<|Dd aM<|Zz<|aF ?_;refine bJ (σ:=Nat) (fun i=>([(0,.pv (aZ L)),(5,.osl 905 (3*i) 0 (aP (L.take i)).length),(6,iv (i:Int))],[(905,⟨3*i,1,5,eR (aP (L.take i))⟩)])) (fun i=>i<=L.length) (fun i=>L.length - i) 0 (aQV _) ?_ ?_
 ·exact(cX.wk (Eb<|Ea<|Eb<|trivial) (Hc (R3 _ _)<|trivial) trivial)
 clear hge hb hi;intro i hi;have hb:=htk i;have hj:=hjl i;have hb2:=htk (i+1);have hj2:=hjl (i+1);refine Sq<|Sr<|Dd aE<|Dd aE<|Dd (fM aD)<|Dd cW<|Zz ?_;refine Cn ?_ ?_<;>intro hc2
 ·have hlt:i<L.length:=by have:=aQA hc2;omega
  obtain ⟨s,hsi⟩:=aU hlt;have his:=cI (f:=encStr) hsi;have hsz:=hs s (aQO hsi);have hdec:=fun H=>VW s.size (by omega) H;have hnx:aP (L.take (i+1))=(aP (L.take i)++decDigits s.size)++[58]++s.data.toList:=by rw[mS hsi,W2]
  have hdl:=dY (k:=9) (u:=s.size) (by omega) (by decide);obtain ⟨J,hJ⟩:∃J,J=aP (L.take i):=⟨_,rfl⟩;rw[<-hJ]at hnx hj |-;have hds:=dH (decDigits s.size);have h39:(eR (J++decDigits s.size)).length=J.length+(decDigits s.size).length:=by rw[qI,aQF]
  have h45:(eR ((J++decDigits s.size)++[58])).length=J.length+(decDigits s.size).length+1:=by rw[qI,aQF,aQF];rfl
  refine aC<|Sq<|aF<|Sr<|Dd aE<|Dd aE<|Dd aE<|Dd (by exact bH rfl cC rfl rfl (by omega) (by exact aQP _) his rfl)<|Dd (iN isAgg9)<|Dd (kG underlying9)<|Dd (by exact aA rfl rfl gZ rfl (hdec _))<|Dd (by exact tR (rows':=eR (J++decDigits s.size)) (k:=J.length+(decDigits s.size).length) rfl yN underlying9 ei5 KC rfl rfl rfl rfl rfl (qI J) rfl (by rw[hds];omega) (by rw[hds]) (by rw[dI];exact rZ J (decDigits s.size)))<|Dd aM<|Zz<|Sr<|Dd aE<|Dd (by exact aQ [[.int .u8 58]] rfl yN rfl rfl rfl rfl rfl (by simp))<|Dd (by exact cJ (k:=J.length+(decDigits s.size).length+1) (ps:=[[.int .u8 58]]) rfl yN ei5 rfl rfl rfl rfl rfl h39 rfl (by simp) (m:=1) rfl (by omega) rfl (rZ (J++decDigits s.size) [58]))<|Dd aM<|Zz<|Rg<|Dd aE<|Dd aE<|Dm ?_;refine Dd (mR cC)<|Dd (iN isAgg9 (hi:=his))<|Dd (by exact tR (k:=J.length+(decDigits s.size).length+1+s.size) rfl yN underlying9 ei5 KC rfl rfl rfl rfl rfl h45 rfl (by omega) rfl (rZ ((J++decDigits s.size)++[58]) s.data.toList))<|Dd aM<|Zz<|Rg<|Dd aE<|Dd (by exact cB rfl rfl rfl (show IntKind.i64.wrap ((i:Int)+1)=((i+1:Nat):Int)by rw[jM (by omega) (by omega)];omega))<|Da ?_;refine⟨i+1,by omega,by omega,?_⟩;rw[hnx];have hlen:(J++decDigits s.size++[58]++s.data.toList).length=J.length+(decDigits s.size).length+1+s.size:=by
   rw[aQF,aQF,aQF,bD];rfl
  rw[hlen];exact(cX.wk (Eb<|Ea<|Eb<|trivial) (Hc (R3 _ _)<|trivial) trivial)
 have hge:i=L.length:=by have:=aQB hc2;omega
 subst hge;rw[List.take_length]at hj |-;obtain ⟨J,hJ⟩:∃J,J=aP L:=⟨_,rfl⟩;rw[<-hJ];have hb46:((eR J).drop 0).take J.length=eR J:=by rw[List.drop_zero,List.take_of_length_le (by rw[qI];exact aQK _)]
 exact aW<|Sr<|Dd aE<|Dd (by exact PA rfl dL fW underlying9 rfl rfl rfl rfl hb46 rfl)<|Dd aM<|Zz<|aB<|Rt<|Qq
theorem cU.eqv{P:Program}{N:Nat}{o:Oper}{E:dG}{H H':aH}{v v':AV}(h:cU P N o E H v H')(e:v=v'):cU P N o E H v' H':=e▸h
theorem aKd(x:Nat)(hx:x<18446744073709551616)(H:aH):aI Tryz.prog 141 [uv x] H (fun r H'=>r=uv (J4 x)/\H'=H):=by refine Pu ?_;refine Bd func141 rfl ntmps141<|Sr<|Dd aM<|Zz<|Sr<|Dd aE<|Dd (by exact mB rfl rfl rfl (show IntKind.u64.wrap ((x:Int)*2862933555777941757)=((H9 x:Nat):Int)by rw[IntKind.wrap_u64,H9];omega))<|Dd aM<|Zz<|Sr<|Dd aE<|Dd aE<|Dd (by exact C6 rfl rfl rfl (by decide) (by decide) (aCS (H9 x) 32 rfl))<|Dd (by exact mO rfl (by simp) rfl rfl (bits_xor_u64_nat (H9 x) (H9 x / 2 ^ 32) (DA x) (vW 32 (DA x))))<|Dd aM<|Zz<|Sr<|Dd aE<|Dd (by exact mB rfl rfl rfl (show IntKind.u64.wrap (((H9 x ^^^ (H9 x / 2 ^ 32):Nat):Int)*3935559000370003845)=((M8 x:Nat):Int)by rw[IntKind.wrap_u64,M8,aI8];omega))<|Dd aM<|Zz<|Sr<|Dd aE<|Dd aE<|Dd (by exact C6 rfl rfl rfl (by decide) (by decide) (aCS (M8 x) 29 rfl))<|Dd (by exact mO rfl (by simp) rfl rfl (bits_xor_u64_nat (M8 x) (M8 x / 2 ^ 29) (C9 x) (vW 29 (C9 x)))) ?_;exact Dd aM<|Zz<|aB<|Rt<|Qq
def BH(b:Int):Prop:=(48<=b/\b<=57)\/(97<=b/\b<=102)
theorem aBc(b:Int)(hb:BH b)(H:aH):aI Tryz.prog 143 [.pv (.int .u8 b)] H (fun r H'=>r=iv (if b<=57 then b - 48 else b - 87)/\H'=H):=by
 refine Pu ?_;have n1:∀ {p:Prop} [Decidable p],p->AV.pv (.bool (decide p))=bv true:=fun h=>by rw[decide_eq_true h]
 have n2:∀ {p:Prop} [Decidable p],¬ p->AV.pv (.bool (decide p))=bv false:=fun h=>by rw[decide_eq_false h]
 by_cases h57:b<=57
 ·have hb2:48<=b:=by rcases hb with h|h<;>omega
  rw[aQD h57];refine Bd OK rfl I9<|Sr<|Dd aM<|Zz<|Sq<|Sr<|Dd aE<|Dd (by exact cU.eqv (lC rfl rfl rfl) (n1 hb2))<|Dd aE<|On aE<|On (by exact cU.eqv (sF rfl rfl rfl) (n1 h57))<|Dd cH<|Zz ?_;refine Cn ?_ ?_<;>intro hc1
  ·exact Sr<|Dd aE<|Dd (by exact dX rfl rfl rfl (show IntKind.u8.wrap (b - 48)=b - 48 by rw[IntKind.wrap_u8];omega))<|Dd (by exact iH rfl fW underlying3 rfl (jM (by omega) (by omega)))<|Dd aM<|Zz<|aB<|Rt<|Qq
  cases hc1
 have hb2:97<=b/\b<=102:=by rcases hb with h|h<;>omega
 have hb3:48<=b:=by omega
 rw[aQC h57];refine Bd OK rfl I9<|Sr<|Dd aM<|Zz<|Sq<|Sr<|Dd aE<|Dd (by exact cU.eqv (lC rfl rfl rfl) (n1 hb3))<|Dd aE<|On aE<|On (by exact cU.eqv (sF rfl rfl rfl) (n2 h57))<|Dd cH<|Zz ?_;refine Cn ?_ ?_<;>intro hc1
 ·cases hc1
 refine aC<|Sq<|Sr<|Dd aE<|Dd (by exact cU.eqv (lC rfl rfl rfl) (n1 hb2.1))<|Dd aE<|On aE<|On (by exact cU.eqv (sF rfl rfl rfl) (n1 hb2.2))<|Dd cH<|Zz ?_;refine Cn ?_ ?_<;>intro hc2
 ·exact Sr<|Dd aE<|Dd (by exact dX rfl rfl rfl (show IntKind.u8.wrap (b - 97)=b - 97 by rw[IntKind.wrap_u8];omega))<|Dd (by exact iH rfl fW underlying3 rfl (jM (by omega) (by omega)))<|Dd (by exact cB rfl rfl rfl (show IntKind.i64.wrap (b - 97+10)=b - 87 by rw[jM (by omega) (by omega)];omega))<|Dd aM<|Zz<|aB<|Rt<|Qq
 cases hc2
abbrev HX:ByteArray:=⟨#[48,49,50,51,52,53,54,55,56,57,97,98,99,100,101,102]⟩
instance (b:Int):Decidable (BH b):=by unfold BH;infer_instance
theorem aL8:∀q:Fin 16,BH (cR HX q.1):=by decide
theorem aL5(h:q<16):(HX.extract q (q+1)).size=1/\BH (cR (HX.extract q (q+1)) 0):=by
 refine⟨by rw[ByteArray.size_extract];have:HX.size=16:=rfl;omega,?_⟩;have e:cR (HX.extract q (q+1)) 0=cR HX q:=by
  unfold cR;rw[iI,show q+1 - q=1 by omega,List.getElem?_take_of_lt (by decide),List.getElem?_drop];rfl
 rw[e];exact aL8 ⟨q,h⟩
theorem aII{b:UInt8}(hi:i<8)(hb:l[i]?=some b):(lG l)[i]?=some b:=by have hlt:=(aQI.1 hb).1;rw[lG,List.getElem?_append_left (by rw[aQS];omega),List.getElem?_take_of_lt hi,hb]
theorem aEq(hi:i<8)(hl:l.length<=i):(lG l)[i]?=some 0:=by rw[lG,List.getElem?_append_right (by rw[aQS];omega),List.getElem?_replicate,aQD (by rw[aQS];omega)]
theorem aI2(D i:Nat)(hi:i<16):D / 16 ^ i % 16=G8 D (15 - i):=by rw[G8,show 60 - 4*(15 - i)=4*i by omega,Nat.pow_mul]
theorem aL6:∀q:Fin 16,(HX.extract q.1 (q.1+1)).data.toList=[UInt8.ofNat (pP q.1).toNat]:=fun q=>by
 rw[iI,show q.1+1 - q.1=1 by omega];revert q;decide
theorem W9(D:Nat):(vQ D).length=16:=by rw[vQ,aQE,List.length_range]
theorem aFn(D:Nat)(h:i<16):(vQ D)[i]?=some (UInt8.ofNat (pP (G8 D i)).toNat):=by rw[vQ,aQY,List.getElem?_range h];rfl
theorem aFk(D:Nat)(h:i<16):HX.extract (D / 16 ^ i % 16) (D / 16 ^ i % 16+1)++ofL ((vQ D).drop (16 - i))=ofL ((vQ D).drop (16 - (i+1))):=by
 refine rF ?_;rw[ByteArray.data_append,Array.toList_append,aL6 ⟨_,Nat.mod_lt _ (by decide)⟩,dI,dI];show UInt8.ofNat (pP (D / 16 ^ i % 16)).toNat::(vQ D).drop (16 - i)=_;rw[aI2 D i h,show 16 - (i+1)=15 - i by omega,show 16 - i=15 - i+1 by omega];have hlt:15 - i<(vQ D).length:=by rw[W9];omega
 rw[List.drop_eq_getElem_cons hlt];have:=aFn D (i:=15 - i) (by omega);rw[aQJ hlt]at this;rw[Option.some.inj this]
theorem S4(s:ByteArray)(hs:s.size<1000000000)(H:aH):aI Tryz.prog 97 [sv s] H (fun r H'=>r=sv (qK s)/\H'=H):=by
 refine Pu ?_;have hsl:=bD s;have hst0:bits .xor .u64 1181783497276652981 (s.size:Int)=((PO s.size:Nat):Int):=bits_xor_u64_nat 1181783497276652981 s.size (by decide) (by omega);have hst1:PO s.size<18446744073709551616:=aBe (by omega);obtain ⟨D,hD⟩:∃D,D=N1 (PO s.size) s.data.toList:=⟨_,rfl⟩;have hdig:qK s=ofL (vQ D):=by rw[qK,<-hD];rfl
 rw[hdig];clear hdig;refine Bd func97 rfl ntmps97<|Sr<|Dd aM<|Zz<|Sr<|Dd aE<|Dd (kG underlying9)<|Dd (by exact iH rfl underlying3 jY rfl (U6 (by omega)))<|Dd (by exact mO rfl (by simp) rfl rfl hst0)<|Dd aM<|Zz<|Sq<|Sr<|Dd aM<|Zz<|aF ?_;refine jK (fun(j st:Nat)=>([(0,sv s),(3,uv st),(4,iv ((8*j:Nat):Int))],[])) (fun j st=>8*j<=s.size+8/\st<18446744073709551616/\((8*j<=s.size/\N1 st (s.data.toList.drop (8*j))=D)\/(s.size<8*j/\st=D))) (fun j st=>s.size+8 - 8*j) 0 (PO s.size) ⟨by omega,hst1,.inl ⟨by omega,by rw[hD];rfl⟩⟩ ?_ ?_
 ·exact Wk
 rintro j st ⟨hj,hst,hinv⟩;refine Sq<|Sr<|Dd aE<|Dd aE<|Dd (kG underlying9)<|Dd G9<|Zz ?_;refine Cn ?_ ?_<;>intro hc1
 ·have hle:8*j<=s.size:=by have:=aQA hc1;omega
  have hdd:N1 st (s.data.toList.drop (8*j))=D:=by
   rcases hinv with⟨_,h⟩|⟨h,_⟩
   ·exact h
   omega
  obtain ⟨R,hR⟩:∃R,R=s.data.toList.drop (8*j):=⟨_,rfl⟩;have hRl:R.length=s.size - 8*j:=by rw[hR,aQT,hsl]
  have hp8:=WK R;rw[<-hR]at hdd;refine aC<|Sq<|aF<|Sr<|Dd aM<|Zz<|Sq<|Sr<|Dd aE<|Dd aM<|Zz<|aF ?_;refine bJ (σ:=Nat) (fun i=>([(0,sv s),(3,uv st),(4,iv ((8*j:Nat):Int)),(5,uv (tK ((lG R).take i))),(6,iv ((8*j+i:Nat):Int))],[])) (fun i=>i<=8) (fun i=>8 - i) 0 (aQV _) ?_ ?_
  ·exact Wk
  intro i hi;by_cases h8:i<8
  ·obtain ⟨y,hy⟩:=aU (l:=lG R) (k:=i) (by omega);have hnx:tK ((lG R).take (i+1))=tK ((lG R).take i)*256+y.toNat:=by rw[mS hy,SC]
   have h7:tK ((lG R).take i)<72057594037927936:=YC (by rw[aQS];omega);have hyb:y.toNat<256:=y.toNat_lt;obtain ⟨b,hb⟩:∃b,b=tK ((lG R).take i):=⟨_,rfl⟩;rw[<-hb]at hnx h7 |-;refine Sq<|Sr<|Dd aE<|Dd aE<|Dd (by exact cB rfl rfl rfl (show IntKind.i64.wrap (((8*j:Nat):Int)+8)=((8*j+8:Nat):Int)by rw[jM (by omega) (by omega)];omega))<|Dd cW<|Zz ?_;refine Cn ?_ ?_<;>intro hc2
   ·refine aC<|Sq<|aF<|Sr<|Dd aE<|Dd (by exact mB rfl rfl rfl (show IntKind.u64.wrap ((b:Int)*256)=((b*256:Nat):Int)by rw[IntKind.wrap_u64];omega))<|Dd aM<|Zz<|Sr<|Dd aE<|Dd aE<|Dd (kG underlying9)<|Dd cW<|Zz ?_;refine Cn ?_ ?_<;>intro hc3
    ·have hlt2:8*j+i<s.size:=by have:=aQA hc3;omega
     have hby:cR s (8*j+i)=(y.toNat:Int):=by
      have hri:R[i]?=s.data.toList[8*j+i]?:=by rw[hR,List.getElem?_drop]
      obtain ⟨z,hz⟩:=aU (l:=s.data.toList) (k:=8*j+i) (by omega);have:=aII (l:=R) h8 (hri.trans hz);rw[hy]at this;rw[cR,hz,<-Option.some.inj this];rfl
     refine Rg<|Dd aE<|Dd aE<|Dd aE<|Dd (by exact dK rfl underlying9 rfl rfl (by omega) (by exact aQP _) (by omega) rfl)<|Dd (by exact iH rfl fW jY rfl (show IntKind.u64.wrap (cR s (8*j+i))=((y.toNat:Nat):Int)by rw[hby,U6 (by omega)]))<|Dd (by exact cB rfl rfl rfl (show IntKind.u64.wrap (((b*256:Nat):Int)+((y.toNat:Nat):Int))=((b*256+y.toNat:Nat):Int)by rw[IntKind.wrap_u64];omega))<|Dd aM<|Zz<|Rg<|Dd aE<|Dd (by exact cB rfl rfl rfl (show IntKind.i64.wrap (((8*j+i:Nat):Int)+1)=((8*j+(i+1):Nat):Int)by rw[jM (by omega) (by omega)];omega))<|Da ?_;refine⟨i+1,by omega,by omega,?_⟩;rw[hnx];exact Wk
    have hge2:s.size<=8*j+i:=by have:=aQB hc3;omega
    have hy0:y.toNat=0:=by
     have:=aEq (l:=R) h8 (by omega);rw[hy]at this;rw[Option.some.inj this];rfl
    refine aC<|Rg<|Dd aE<|Dd (by exact cB rfl rfl rfl (show IntKind.i64.wrap (((8*j+i:Nat):Int)+1)=((8*j+(i+1):Nat):Int)by rw[jM (by omega) (by omega)];omega))<|Da ?_;refine⟨i+1,by omega,by omega,?_⟩;rw[hnx,hy0,Nat.add_zero];exact Wk
   (have h:=aQB hc2;omega)
  have h88:i=8:=by omega
  subst h88;have htk:(lG R).take 8=lG R:=List.take_of_length_le (by omega);rw[htk];refine Sq<|Sr<|Dd aE<|Dd aE<|Dd (by exact cB rfl rfl rfl (show IntKind.i64.wrap (((8*j:Nat):Int)+8)=((8*j+8:Nat):Int)by rw[jM (by omega) (by omega)];omega))<|Dd cW<|Zz ?_;refine Cn ?_ ?_<;>intro hc4
  ·(have h:=aQA hc4;omega)
  have hlt:=OI (l:=lG R) (by omega);have hmx:=fun H=>aKd (st ^^^ tK (lG R)) (BY hst hlt) H;refine aW<|Rg<|Dd aE<|Dd aE<|Dd (by exact mO rfl (by simp) rfl rfl (bits_xor_u64_nat st (tK (lG R)) hst hlt))<|Dd (by exact aA rfl rfl call141 rfl (hmx _))<|Dd aM<|Zz<|Rg<|Dd aE<|Dd (by exact cB rfl rfl rfl (show IntKind.i64.wrap (((8*j:Nat):Int)+8)=((8*(j+1):Nat):Int)by rw[jM (by omega) (by omega)];omega))<|Da ?_;refine⟨j+1,J4 (st ^^^ tK (lG R)),⟨by omega,TN _,?_⟩,by omega,Wk⟩;by_cases hge:8<=R.length
  ·refine .inl ⟨by omega,?_⟩;have hpt:lG (R.take 8)=lG R:=by
    rw[lG,lG,List.take_take,aQS,Nat.min_eq_left hge];rw[show 8 - R.length=0 by omega];rfl
   have h1:=RZ st hge;rw[hpt,hdd,hR,List.drop_drop]at h1;rw[hR,show 8*(j+1)=8*j+8 by omega,h1]
  refine .inr ⟨by omega,?_⟩;rw[<-R0 st (by omega),hdd]
 have hgt:s.size<8*j:=by have:=aQB hc1;omega
 have hstD:st=D:=by
  rcases hinv with⟨h,_⟩|⟨_,h⟩
  ·omega
  exact h
 subst hstD;have hl16:=W9 st;have hz0:ofL ((vQ st).drop (16 - 0))=⟨#[]⟩:=by rw[List.drop_of_length_le (by omega)];rfl
 have hd0:st / 16 ^ 0=st:=by rw[Nat.pow_zero,Nat.div_one]
 refine aW<|Sr<|Dd aM<|Zz<|Sq<|Sr<|Dd aM<|Zz<|aF ?_;refine bJ (σ:=Nat) (fun i=>([(3,uv (st / 16 ^ i)),(7,sv (ofL ((vQ st).drop (16 - i)))),(8,iv (i:Int))],[])) (fun i=>i<=16) (fun i=>16 - i) 0 (aQV _) ?_ ?_
 ·rw[hz0,hd0];exact Wk
 intro i hi;obtain ⟨v,hv⟩:∃v,v=st / 16 ^ i:=⟨_,rfl⟩;have hbd:v<18446744073709551616:=by rw[hv];exact Nat.lt_of_le_of_lt (Nat.div_le_self _ _) hst
 have hv2:st / 16 ^ (i+1)=v / 16:=by rw[hv,Nat.pow_succ,<-Nat.div_div_eq_div_mul]
 rw[<-hv];have hm:((v:Nat):Int).tmod 16=((v % 16:Nat):Int):=by rw[Int.tmod_eq_emod_of_nonneg (by omega)];omega
 have hq:IntKind.u64.wrap (((v:Nat):Int).tdiv 16)=((v / 16:Nat):Int):=by
  rw[Int.tdiv_eq_ediv_of_nonneg (by omega),IntKind.wrap_u64];omega
 have hq16:v % 16<16:=Nat.mod_lt _ (by decide);have hone:=aL5 hq16;have htl:(ofL ((vQ st).drop (16 - i))).size=i:=by rw[dH,aQT];omega
 by_cases h16:i<16
 ·have hnx:=aFk st h16;rw[<-hv]at hnx;obtain ⟨g,hg⟩:∃g,g=v % 16:=⟨_,rfl⟩;rw[<-hg]at hm hq16 hone hnx;refine Sq<|Sr<|Dd aE<|Dd cW<|Zz ?_;refine Cn ?_ ?_<;>intro hc5
  ·refine aC<|Sq<|aF<|Sr<|Dd aE<|Dd (by exact sC rfl rfl rfl (by decide) hm)<|Dd aE<|Dd (by exact sC rfl rfl rfl (by decide) hm)<|Dd (by exact cB rfl rfl rfl (show IntKind.u64.wrap ((g:Int)+1)=((g+1:Nat):Int)by rw[IntKind.wrap_u64];omega))<|Dd (by exact cQ (l:=g) (h:=g+1) rfl underlying9 rfl rfl rfl (by omega) (show g+1<=HX.size from by have:HX.size=16:=rfl;omega) rfl)<|Dd aE<|Dd (by exact cK rfl rfl rfl (show (HX.extract g (g+1)).size+(ofL ((vQ st).drop (16 - i))).size<=9223372036854775807 by rw[hone.1,htl];omega) hnx)<|Dd aM<|Zz<|Rg<|Dd aE<|Dd (by exact sD rfl rfl rfl (by decide) hq)<|Dd aM<|Zz<|Rg<|Dd aE<|Dd (by exact cB rfl rfl rfl (show IntKind.i64.wrap ((i:Int)+1)=((i+1:Nat):Int)by rw[jM (by omega) (by omega)];omega))<|Da ?_;refine⟨i+1,by omega,by omega,?_⟩;rw[hv2];exact Wk
  (have h:=aQB hc5;omega)
 have h66:i=16:=by omega
 subst h66;refine Sq<|Sr<|Dd aE<|Dd cW<|Zz ?_;refine Cn ?_ ?_<;>intro hc6
 ·(have h:=aQA hc6;omega)
 exact aW<|Sr<|Dd aE<|Dd aM<|Zz<|aB<|Rt<|Qq
theorem FU(L:List ByteArray)(hL:L.length<=2000)(hs:∀s∈L,s.size<=20000)(H:aH):aI Tryz.prog 79 [.pv (aZ L)] H (fun r H'=>r=sv (xX L)/\H'=H):=by refine Pu ?_;have hj:=fun H=>QH L (by omega) (fun s h=>Nat.le_trans (hs s h) (by decide)) H;have hsz:=vL (L:=L) hs hL;have hsm:=fun H=>S4 (ofL (aP L)) (by rw[dH];omega) H;have e:qK (ofL (aP L))=xX L:=rfl;rw[e]at hsm;exact Bd func79 rfl ntmps79<|Sr<|Dd aM<|Zz<|Sr<|Dd aE<|Dd (by exact aA rfl rfl call45 rfl (hj _))<|Dd (by exact aA rfl rfl aPl rfl (hsm _))<|Dd aM<|Zz<|aB<|Rt<|Qq
theorem aGH(b:Int)(hb:¬ BH b)(H:aH):aI Tryz.prog 143 [.pv (.int .u8 b)] H (fun r H'=>r=iv (-1)/\H'=H):=by
 refine Pu ?_;have n1:∀ {p:Prop} [Decidable p],p->AV.pv (.bool (decide p))=bv true:=fun h=>by rw[decide_eq_true h]
 have n2:∀ {p:Prop} [Decidable p],¬ p->AV.pv (.bool (decide p))=bv false:=fun h=>by rw[decide_eq_false h]
 by_cases h48:48<=b
 ·have h57:¬ b<=57:=fun h=>hb (.inl ⟨h48,h⟩);by_cases h97:97<=b
  ·have h102:¬ b<=102:=fun h=>hb (.inr ⟨h97,h⟩);refine Bd OK rfl I9<|Sr<|Dd aM<|Zz<|Sq<|Sr<|Dd aE<|Dd (by exact cU.eqv (lC rfl rfl rfl) (n1 h48))<|Dd aE<|On aE<|On (by exact cU.eqv (sF rfl rfl rfl) (n2 h57))<|Dd cH<|Zz ?_;refine Cn ?_ ?_<;>intro hc1
   ·cases hc1
   refine aC<|Sq<|Sr<|Dd aE<|Dd (by exact cU.eqv (lC rfl rfl rfl) (n1 h97))<|Dd aE<|On aE<|On (by exact cU.eqv (sF rfl rfl rfl) (n2 h102))<|Dd cH<|Zz ?_;refine Cn ?_ ?_<;>intro hc2
   ·cases hc2
   exact aC<|Sr<|Dd aM<|Zz<|aB<|Rt<|Qq
  refine Bd OK rfl I9<|Sr<|Dd aM<|Zz<|Sq<|Sr<|Dd aE<|Dd (by exact cU.eqv (lC rfl rfl rfl) (n1 h48))<|Dd aE<|On aE<|On (by exact cU.eqv (sF rfl rfl rfl) (n2 h57))<|Dd cH<|Zz ?_;refine Cn ?_ ?_<;>intro hc1
  ·cases hc1
  refine aC<|Sq<|Sr<|Dd aE<|Dd (by exact cU.eqv (lC rfl rfl rfl) (n2 h97))<|Dd aE<|Fo<|Fo<|Dd cH<|Zz ?_;refine Cn ?_ ?_<;>intro hc2
  ·cases hc2
  exact aC<|Sr<|Dd aM<|Zz<|aB<|Rt<|Qq
 refine Bd OK rfl I9<|Sr<|Dd aM<|Zz<|Sq<|Sr<|Dd aE<|Dd (by exact cU.eqv (lC rfl rfl rfl) (n2 h48))<|Dd aE<|Fo<|Fo<|Dd cH<|Zz ?_;refine Cn ?_ ?_<;>intro hc1
 ·cases hc1
 refine aC<|Sq<|Sr<|Dd aE<|Dd (by exact cU.eqv (lC rfl rfl rfl) (n2 (by omega)))<|Dd aE<|Fo<|Fo<|Dd cH<|Zz ?_;refine Cn ?_ ?_<;>intro hc2
 ·cases hc2
 exact aC<|Sr<|Dd aM<|Zz<|aB<|Rt<|Qq
theorem aFl(h:s.data.toList[i]?=some y):BH (cR s i)↔DT y=true:=by rw[cR,h];show BH ((y.toNat:Nat):Int)↔_;simp only[BH,DT,Bool.or_eq_true,aQN,aQL,UInt8.le_iff_toNat_le];show _↔(48<=y.toNat/\y.toNat<=57)\/(97<=y.toNat/\y.toNat<=102);omega
theorem aIm(h:s.data.toList[i]?=some y)(hy:DT y=false):isJ s=false:=by rw[isJ,Bool.and_eq_false_iff];refine .inr ?_;rw[List.all_eq_false];exact⟨y,aQO h,by rw[hy];decide⟩
theorem aIn(h:∀k,k<16->∀y,s.data.toList[k]?=some y->DT y=true):isJ s=decide (s.size=16):=by
 rw[isJ];by_cases e:s.size=16
 ·rw[decide_eq_true e,Bool.true_and,List.all_eq_true];intro y hy;obtain ⟨k,hk⟩:=aQZ.1 hy;have:=(aQI.1 hk).1;rw[bD]at this;exact h k (by omega) y hk
 rw[decide_eq_false e,Bool.false_and]
theorem aJk(s:ByteArray)(hs:s.size<4611686018427387904)(H:aH):aI Tryz.prog 128 [sv s] H (fun r H'=>r=bv (isJ s)/\H'=H):=by
 refine Pu ?_;have hsl:=bD s;refine Bd func128 rfl ntmps128<|Sr<|Dd aM<|Zz<|Sq<|Sr<|Dd aM<|Zz<|aF ?_;refine bJ (σ:=Nat) (fun i=>([(0,sv s),(3,iv (i:Int))],[])) (fun i=>i<=16/\i<=s.size/\∀k,k<i->∀y,s.data.toList[k]?=some y->DT y=true) (fun i=>16 - i) 0 ⟨aQV _,aQV _,fun k h=>by omega⟩ ?_ ?_
 ·exact Wk
 rintro i ⟨hi,hi2,hall⟩;by_cases hin:i<s.size/\i<16
 ·obtain ⟨hin1,hin2⟩:=hin;obtain ⟨y,hy⟩:=aU (l:=s.data.toList) (k:=i) (by omega);have hiff:=aFl hy;obtain ⟨bb,hbb⟩:∃bb,bb=cR s i:=⟨_,rfl⟩;rw[<-hbb]at hiff;by_cases hu:DT y=true
  ·have hd:=fun H=>aBc bb (hiff.2 hu) H;have hd0:¬ (if bb<=57 then bb - 48 else bb - 87)<0:=by
    have:=hiff.2 hu;unfold BH at this
    split<;>omega
   rw[hbb]at hd hd0;refine Sq<|Sr<|Dd aE<|Dd aE<|Dd (kG underlying9)<|Dd (by exact cU.eqv (iZ rfl rfl rfl) (show AV.pv (.bool (decide ((i:Int)<(s.size:Int))))=bv true by rw[decide_eq_true (by omega)]))<|Dd aE<|On aE<|On (by exact cU.eqv (iZ rfl rfl rfl) (show AV.pv (.bool (decide ((i:Int)<16)))=bv true by rw[decide_eq_true (by omega)]))<|Dd cH<|Zz ?_;refine Cn ?_ ?_<;>intro hc1
   ·refine aC<|Sq<|aF<|Sr<|Dd aE<|Dd aE<|Dd (by exact dK rfl underlying9 rfl rfl (by omega) (by exact aQP _) (by omega) rfl)<|Dd (by exact aA rfl rfl aPQ rfl (hd _))<|Dd cW<|Zz ?_;refine Cn ?_ ?_<;>intro hc2
    ·exact absurd (aQA hc2) hd0
    refine aC<|Rg<|Dd aE<|Dd (by exact cB rfl rfl rfl (show IntKind.i64.wrap ((i:Int)+1)=((i+1:Nat):Int)by rw[jM (by omega) (by omega)];omega))<|Da ?_;refine⟨i+1,⟨by omega,by omega,fun k hk z hz=>?_⟩,by omega,Wk⟩;by_cases e:k=i
    ·subst e;rw[hy]at hz;cases hz;exact hu
    exact hall k (by omega) z hz
   cases hc1
  have hu:DT y=false:=by cases e:DT y;rfl;exact absurd e hu
  have hd:=fun H=>aGH bb (fun h=>by rw[hiff.1 h]at hu;cases hu) H;rw[hbb]at hd;rw[aIm hy hu];refine Sq<|Sr<|Dd aE<|Dd aE<|Dd (kG underlying9)<|Dd (by exact cU.eqv (iZ rfl rfl rfl) (show AV.pv (.bool (decide ((i:Int)<(s.size:Int))))=bv true by rw[decide_eq_true (by omega)]))<|Dd aE<|On aE<|On (by exact cU.eqv (iZ rfl rfl rfl) (show AV.pv (.bool (decide ((i:Int)<16)))=bv true by rw[decide_eq_true (by omega)]))<|Dd cH<|Zz ?_;refine Cn ?_ ?_<;>intro hc3
  ·refine aC<|Sq<|aF<|Sr<|Dd aE<|Dd aE<|Dd (by exact dK rfl underlying9 rfl rfl (by omega) (by exact aQP _) (by omega) rfl)<|Dd (by exact aA rfl rfl aPQ rfl (hd _))<|Dd cW<|Zz ?_;refine Cn ?_ ?_<;>intro hc4
   ·exact Sr<|Dd aM<|Zz<|aB<|Rt<|Qq
   (have h:=aQB hc4;exact absurd (by decide) h)
  cases hc3
 have hend:=aIn (s:=s) (fun k hk y hy=>by
  have:=(aQI.1 hy).1;rw[hsl]at this;exact hall k (by omega) y hy)
 have hI:decide ((s.size:Int)=16)=decide (s.size=16):=by
  congr 1;exact propext ⟨fun h=>by omega,fun h=>by omega⟩
 rw[hend];by_cases h7:i<s.size
 ·refine Sq<|Sr<|Dd aE<|Dd aE<|Dd (kG underlying9)<|Dd (by exact cU.eqv (iZ rfl rfl rfl) (show AV.pv (.bool (decide ((i:Int)<(s.size:Int))))=bv true by rw[decide_eq_true (by omega)]))<|Dd aE<|On aE<|On (by exact cU.eqv (iZ rfl rfl rfl) (show AV.pv (.bool (decide ((i:Int)<16)))=bv false by rw[decide_eq_false (by omega)]))<|Dd cH<|Zz ?_;refine Cn ?_ ?_<;>intro hc5
  ·cases hc5
  exact aW<|Sr<|Dd aE<|Dd (kG underlying9)<|Dd (by exact cU.eqv (oA rfl rfl rfl) (show AV.pv (.bool (decide ((s.size:Int)=16)))=bv (decide (s.size=16))by rw[hI]))<|Dd aM<|Zz<|aB<|Rt<|Qq
 refine Sq<|Sr<|Dd aE<|Dd aE<|Dd (kG underlying9)<|Dd (by exact cU.eqv (iZ rfl rfl rfl) (show AV.pv (.bool (decide ((i:Int)<(s.size:Int))))=bv false by rw[decide_eq_false (by omega)]))<|Dd aE<|Fo<|Fo<|Dd cH<|Zz ?_;refine Cn ?_ ?_<;>intro hc6
 ·cases hc6
 exact aW<|Sr<|Dd aE<|Dd (kG underlying9)<|Dd (by exact cU.eqv (oA rfl rfl rfl) (show AV.pv (.bool (decide ((s.size:Int)=16)))=bv (decide (s.size=16))by rw[hI]))<|Dd aM<|Zz<|aB<|Rt<|Qq
end Go.Proofs.YtmdicgjnmfolfaaGreatDoor
namespace Go.Proofs.YtmdicgjnmfolfaaGreatDoor
open Go.Proofs.Tryz
open Go.Abs
theorem CR(l:List ByteArray)(H:aH)(hl:J2 l):aI Tryz.prog 75 [.pv (aZ l)] H (fun r H'=>r=bv (l.all isJ)/\H'=H):=by
 refine Pu ?_;obtain ⟨hl1,hl2⟩:=hl;have hml:(l.map encStr).length=l.length:=aQE _;refine Bd func75 rfl ntmps75<|Sr<|Dd aM<|Zz<|Sq<|Sr<|Dd aM<|Zz<|aF ?_;refine bJ (σ:=Nat) (fun k=>([(0,.pv (aZ l)),(3,iv (k:Int))],[])) (fun k=>k<=l.length/\∀j,j<k->∀b,l[j]?=some b->isJ b=true) (fun k=>l.length - k) 0 ⟨by omega,by omega⟩ ?_ ?_
 ·exact Wk
 rintro k ⟨hk,hno⟩;refine Sq<|Sr<|Dd aE<|Dd aE<|Dd (fM aD)<|Dd cW<|Zz ?_;refine Cn ?_ ?_<;>intro hc1
 ·have hlt:k<l.length:=by have:=aQA hc1;omega
  obtain ⟨s,hs⟩:=aU hlt;have hi:=cI (f:=encStr) hs;have hsz:=hl2 s (aQO hs);have hic:=fun H=>aJk s (by omega) H;have hnot:=fun h=>DP (p:=isJ) hs h;refine aC<|Sq<|aF<|Sr<|Dd aE<|Dd aE<|Dd (by exact bH rfl cC rfl rfl (by omega) (by exact aQP _) hi rfl)<|Dd (iN isAgg9 (hi:=hi))<|Dd (by exact aA rfl rfl call128 rfl (hic _))<|Dd iS<|Zz ?_;refine Cn ?_ ?_<;>intro hc2
  ·have hb:=not_not hc2;rw[hnot hb];exact Sr<|Dd aM<|Zz<|aB<|Rt<|Qq
  have hb:=oC hc2;refine aC<|Rg<|Dd aE<|Dd (by exact cB rfl rfl rfl (show IntKind.i64.wrap ((k:Int)+1)=((k+1:Nat):Int)by rw[jM (by omega) (by omega)];omega))<|Da ?_;exact⟨k+1,⟨by omega,uJ hno hs hb⟩,by omega,Wk⟩
 have hge:k=l.length:=by have:=aQB hc1;omega
 subst hge;rw[zO hno];exact aW<|Sr<|Dd aM<|Zz<|aB<|Rt<|Qq
theorem aDo(s:GSeal)(H:aH)(hs:pO s):aI Tryz.prog 84 [av (fZ s)] H (fun r H'=>r=bv (pX s)/\H'=H):=by
 refine aI.pure ?_ (by simp[fZ]) H;obtain ⟨_,⟨h1,_⟩,h2,_⟩:=hs;have m1:(s.sig.map encStr).length=s.sig.length:=aQE _;have m2:(s.path.map encStr).length=s.path.length:=aQE _;have hX:pX s=((decide (s.idx=0)&&decide (((s.sig.map encStr).length:Int)=0))&&decide (((s.path.map encStr).length:Int)=0)):=by
  rw[pX,Bool.and_assoc];congr 1;rw[<-Bool.decide_and];congr 1;exact propext ⟨fun h=>by omega,fun h=>by omega⟩
 refine Bd func84 rfl ntmps84<|Sr<|Dd (by exact cF (id:=1) rfl rfl rfl rfl rfl)<|Dd aM<|Zz<|Sq ?_;refine aY (t:=2) (n:=18) (X:=pX s) ?_ ?_
 ·all_goals refine Dd (aT lM) ?_
  all_goals refine Dd (bF isAgg3)<|Dd cN<|Dm ?_
  all_goals refine Sp 6 (fun h6=>?_) fun h6=>?_
  all_goals try contradiction
  all_goals first|refine Fo<|Fo<|Fo<|Fo ?_|refine On (aT iA)<|On (bF aG)<|On (fM aD)<|On cN ?_
  all_goals refine Dd cH<|Dm ?_
  all_goals refine Sp 12 (fun h12=>?_) fun h12=>?_
  all_goals try contradiction
  all_goals first|refine Fo<|Fo<|Fo<|Fo ?_|refine On (aT kV)<|On (bF aG)<|On (fM aD)<|On cN ?_
  all_goals refine Dd cH<|Da ?_
  all_goals(exact⟨⟨_,rfl,by first|(rw[hX,h6];rfl)|(rw[hX,h6,h12];rfl)⟩,rfl,rfl,rfl⟩)
 exact aB<|Rt<|Qq
theorem NT(s:GSeal)(H:aH)(hs:pO s):aI Tryz.prog 77 [av (fZ s)] H (fun r H'=>r=bv (gV s)/\H'=H):=by
 refine aI.pure ?_ (by simp[fZ]) H;have hz:=fun H=>aDo s H hs;obtain ⟨⟨i1,i2⟩,h1,h2⟩:=hs;have hd1:=fun H=>CR s.sig H h1;have hd2:=fun H=>CR s.path H h2;have hI:decide (s.idx<256)=decide (s.idx<=255):=by
  congr 1;exact propext ⟨fun h=>by omega,fun h=>by omega⟩
 have hX:gV s=(pX s||(((((decide (0<=s.idx)&&decide (s.idx<=255))&&decide (((s.sig.map encStr).length:Int)=18))&&decide (((s.path.map encStr).length:Int)<=8))&&s.sig.all isJ)&&s.path.all isJ)):=by rw[gV,hI]
 obtain ⟨z,hzz⟩:∃z,z=pX s:=⟨_,rfl⟩;obtain ⟨d1,hdd1⟩:∃d,d=s.sig.all isJ:=⟨_,rfl⟩;obtain ⟨d2,hdd2⟩:∃d,d=s.path.all isJ:=⟨_,rfl⟩;rw[<-hzz]at hz hX;rw[<-hdd1]at hd1 hX;rw[<-hdd2]at hd2 hX;clear hzz hdd1 hdd2;refine Bd func77 rfl ntmps77<|Sr<|Dd (by exact cF (id:=1) rfl rfl rfl rfl rfl)<|Dd aM<|Zz<|Sq ?_;refine aY (t:=2) (n:=41) (X:=gV s) ?_ ?_
 ·all_goals refine Dd (by exact aN rfl dD sizeOf25 rfl rfl rfl rfl (by simp only[Zl,encStr];rfl) rfl) ?_
  all_goals refine Dd (by exact aA rfl rfl call84 rfl (hz _))<|Dm ?_
  all_goals refine Sp 5 (fun h5=>?_) fun h5=>?_
  all_goals try contradiction
  all_goals first|refine Fo<|Fo<|Fo<|Fo ?_|refine On (aT lM)<|On (bF isAgg3)<|On D7<|On aE ?_
  all_goals(first|refine Sp 9 (fun h9=>?_) fun h9=>?_|refine jW (t:=9) rfl ?_)
  all_goals try contradiction
  all_goals first|refine Fo ?_|refine Fu ?_|refine On (aT lM) ?_
  all_goals first|refine Fo ?_|refine Fu ?_|refine On (bF isAgg3) ?_
  all_goals first|refine Fo ?_|refine Fu ?_|refine On G9 ?_
  all_goals first|refine Fo<|Fo ?_|refine On cH<|On aE ?_
  all_goals(first|refine Sp 14 (fun h14=>?_) fun h14=>?_|refine jW (t:=14) rfl ?_)
  all_goals try contradiction
  all_goals first|refine Fo ?_|refine Fu ?_|refine On (aT iA) ?_
  all_goals first|refine Fo ?_|refine Fu ?_|refine On (bF aG) ?_
  all_goals first|refine Fo ?_|refine Fu ?_|refine On (fM aD) ?_
  all_goals first|refine Fo ?_|refine Fu ?_|refine On cN ?_
  all_goals first|refine Fo<|Fo ?_|refine On cH<|On aE ?_
  all_goals(first|refine Sp 20 (fun h20=>?_) fun h20=>?_|refine jW (t:=20) rfl ?_)
  all_goals try contradiction
  all_goals first|refine Fo ?_|refine Fu ?_|refine On (aT kV) ?_
  all_goals first|refine Fo ?_|refine Fu ?_|refine On (bF aG) ?_
  all_goals first|refine Fo ?_|refine Fu ?_|refine On (fM aD) ?_
  all_goals first|refine Fo ?_|refine Fu ?_|refine On G9 ?_
  all_goals first|refine Fo<|Fo ?_|refine On cH<|On aE ?_
  all_goals(first|refine Sp 26 (fun h26=>?_) fun h26=>?_|refine jW (t:=26) rfl ?_)
  all_goals try contradiction
  all_goals first|refine Fo ?_|refine Fu ?_|refine On (aT iA) ?_
  all_goals first|refine Fo ?_|refine Fu ?_|refine On (bF aG) ?_
  all_goals first|refine Fo ?_|refine Fu ?_|refine On (by exact aA rfl rfl aPn rfl (hd1 _)) ?_
  all_goals first|refine Fo<|Fo ?_|refine On cH<|On aE ?_
  all_goals(first|refine Sp 31 (fun h31=>?_) fun h31=>?_|refine jW (t:=31) rfl ?_)
  all_goals try contradiction
  all_goals first|refine Fo ?_|refine Fu ?_|refine On (aT kV) ?_
  all_goals first|refine Fo ?_|refine Fu ?_|refine On (bF aG) ?_
  all_goals first|refine Fo ?_|refine Fu ?_|refine On (by exact aA rfl rfl aPn rfl (hd2 _)) ?_
  all_goals first|refine Fo ?_|refine On cH ?_
  all_goals refine Dd cH<|Da ?_
  all_goals(exact⟨⟨_,rfl,by(rw[hX];simp only[*,Bool.true_and,Bool.false_and,Bool.true_or,Bool.false_or,Bool.and_true,Bool.and_false])⟩,rfl,rfl,rfl⟩)
 exact aB<|Rt<|Qq
theorem JN{s:ByteArray}(h:s.size=0):s=sNil:=rF (by rw[List.eq_nil_of_length_eq_zero (l:=s.data.toList) (by rw[bD];exact h)])
theorem aG7{a b:ByteArray}:a++b=sNil↔a=sNil/\b=sNil:=by
 constructor
 ·intro h;have h1:=congrArg ByteArray.size h;rw[ByteArray.size_append,show sNil.size=0 from rfl]at h1;exact⟨JN (by omega),JN (by omega)⟩
 rintro⟨rfl,rfl⟩;rfl
theorem aDH(p:GPriv)(H:aH):aI Tryz.prog 30 [av (iP p)] H (fun r H'=>r=bv (fA p)/\H'=H):=by
 refine aI.pure ?_ (by simp[iP]) H;have hX:fA p=(((decide (p.name=sNil)&&decide (p.reason=sNil))&&decide (((p.sources.map encStr).length:Int)=0))&&decide (((p.trace.map fS).length:Int)=0)):=by
  rw[fA,Bool.and_assoc (decide (p.name=sNil)&&decide (p.reason=sNil))];congr 1
  ·rw[<-Bool.decide_and];congr 1;exact propext aG7
  rw[<-Bool.decide_and];congr 1;exact propext ⟨fun h=>by omega,fun h=>by omega⟩
 refine Bd func30 rfl ntmps30<|Sr<|Dd (by exact cF (id:=1) rfl rfl rfl rfl rfl)<|Dd aM<|Zz<|Sq ?_;refine aY (t:=2) (n:=24) (X:=fA p) ?_ ?_
 ·all_goals refine Dd (aT xT) ?_
  all_goals refine Dd (bF isAgg9)<|Dd AG<|Dm ?_
  all_goals refine Sp 6 (fun h6=>?_) fun h6=>?_
  all_goals try contradiction
  all_goals first|refine Fo<|Fo<|Fo ?_|refine On (aT xS)<|On (bF isAgg9)<|On AG ?_
  all_goals refine Dd cH<|Dm ?_
  all_goals refine Sp 11 (fun h11=>?_) fun h11=>?_
  all_goals try contradiction
  all_goals first|refine Fo<|Fo<|Fo<|Fo ?_|refine On (aT rB)<|On (bF aG)<|On (fM aD)<|On cN ?_
  all_goals refine Dd cH<|Dm ?_
  all_goals refine Sp 17 (fun h17=>?_) fun h17=>?_
  all_goals try contradiction
  all_goals first|refine Fo<|Fo<|Fo<|Fo ?_|refine On (aT mF)<|On (bF eW)<|On (fM dM)<|On cN ?_
  all_goals refine Dd cH<|Da ?_
  all_goals(exact⟨⟨_,rfl,by(rw[hX];simp only[*,Bool.true_and,Bool.false_and,Bool.and_true,Bool.and_false])⟩,rfl,rfl,rfl⟩)
 exact aB<|Rt<|Qq
def st1(c:UInt8):ByteArray:=⟨#[c]⟩
def aJq(c:UInt8):GObj:=⟨st1 c,1,(c.toNat:Int),0,[],[]⟩
def cs3:List UInt8:=[97,98,99]
def aO4:GObj:=⟨st1 119,2,0,0,cs3.map st1,[]⟩
def s0:List GObj:=cs3.map aJq++[aO4]
def x1:List GObj:=cs3.map aJq++[⟨st1 118,2,0,0,[st1 98,st1 99],[]⟩,⟨st1 119,2,0,0,[st1 97,st1 98],[]⟩]
end Go.Proofs.YtmdicgjnmfolfaaGreatDoor
section
namespace Go.Proofs.YtmdicgjnmfolfaaGreatDoor
open Go.Proofs.Tryz
open Go.Abs
structure M3 where
 k:ByteArray
 b:ByteArray
 o:ByteArray
 t:ByteArray
end Go.Proofs.YtmdicgjnmfolfaaGreatDoor
namespace Go.Abs

end Go.Abs
namespace Go.Proofs.YtmdicgjnmfolfaaGreatDoor
open Go.Proofs.Tryz
open Go.Abs

end Go.Proofs.YtmdicgjnmfolfaaGreatDoor
end
namespace Go.Proofs.YtmdicgjnmfolfaaGreatDoor
open Go.Proofs.Tryz
open Go.Abs
def m1(p:M3):ByteArray×Bool:=if p.t=p.o then(p.o,false)else if p.t=p.b then(p.o,false)else if p.o=p.b then(p.t,false)else(p.b,true)
def zs(down:Bool):List Int:=if down then[2,1,0]else[0,1,2]
def aOu(m:List GObj)(down:Bool):List GObj:=(zs down).flatMap fun z=>m.filter fun o=>decide (o.kind.tdiv 2=z)
def aLf(b:List GObj)(o:GObj):Bool:=match aOt b o.id with
 |some p=>!decide (p.kind=o.kind)||(decide (o.kind=5)&&!decide (o.refs=p.refs))
 |none=>false
def rnB(b:List GObj)(X:List ByteArray)(o:GObj):Bool:=aLf b o||o.refs.any (inB X)
def rnL(b:List GObj):List ByteArray->List GObj->List ByteArray
 |X,[]=>X
 |X,o::L=>rnL b (if rnB b X o then X++[o.id]else X) L
def aOQ(a b:List GObj):List ByteArray:=rnL b [] (aOu a false)
section
section
variable{a b:List GObj}
def c1(k:GObj×GObj):GObj:=⟨k.1.id,k.1.kind,k.2.x,k.2.y,k.1.refs,k.1.tags⟩
def c2(k:GObj×GObj):GObj:=⟨k.1.id,k.1.kind,k.2.x,k.2.y,k.2.refs,k.1.tags⟩
def c3(k:GObj×GObj):GObj:=⟨k.1.id,k.1.kind,k.2.x,k.2.y,k.2.refs,k.2.tags⟩
end
end
theorem cU.valY{P:Program}{N:Nat}{o:Oper}{E:dG}{H H':aH}{b b':Bool}(h:cU P N o E H (.pv (.bool b)) H')(e:b=b'):cU P N o E H (.pv (.bool b')) H':=e▸h
end Go.Proofs.YtmdicgjnmfolfaaGreatDoor
namespace Go.Proofs.YtmdicgjnmfolfaaGreatDoor
open Go.Proofs.Tryz
section
def aK1(u:List Nat)(i:Nat):Nat:=u.getD i i
def aMi:Nat->List Nat->Nat->Nat
 |0,_,i=>i
 |n+1,u,i=>if aK1 u i=i then i else aMi n u (aK1 u i)
def top(u:List Nat)(i:Nat):Nat:=aMi i u i
def aPI(u:List Nat):Prop:=∀i,aK1 u i<=i
def Inv(L:Nat->Nat->Prop)(f:Nat->Nat):Prop:=∀i k,L i k->f i=f k
structure Snd(L:Nat->Nat->Prop)(u:List Nat):Prop where
 ok:aPI u
 sn:∀f,Inv L f->∀x,f (top u x)=f x
section
variable{S:Type}[DecidableEq S]
def aIt:List (S×Nat)->S->Option Nat
 | [],_=>none
 |(k,v)::r,s=>if k=s then some v else aIt r s
structure I1(L:Nat->Nat->Prop)(W:Nat->List S)(k m:Nat)(st:List Nat×List (S×Nat)):Prop where
 len:st.1.length=m
 snd:Snd L st.1
 at_:∀s j,aIt st.2 s=some j->j<m/\s∈W j
 has:∀j,j<k->∀s,s∈W j->(aIt st.2 s).isSome=true
structure I2(L:Nat->Nat->Prop)(F:List (S×Nat))(N:Nat->List S)(n k:Nat)(u:List Nat):Prop where
 len:u.length=n
 snd:Snd L u
 same:∀i,i<k->∀s,s∈N i->∀j,aIt F s=some j->top u i=top u j
end
end
def aJj(f:Nat->Nat)(n:Nat):List Nat:=(List.range n).filter fun i=>f i=i
def grp(f:Nat->Nat)(n r:Nat):List Nat:=(List.range n).filter fun j=>f j=r
def aOx(f:Nat->Nat)(n:Nat):List (List Nat):=(aJj f n).map (grp f n)
def aP7(f:Nat->Nat)(n x:Nat):Nat:=(aJj f n).idxOf (f x)
end Go.Proofs.YtmdicgjnmfolfaaGreatDoor
namespace Go.Proofs.YtmdicgjnmfolfaaGreatDoor
open Go.Proofs.Tryz
open Go.Abs
theorem XE{l:List GEdit}(h:kP l=true):0<l.length/\l.length<=200/\∀e∈l,dU e=true:=by rw[kP,aQN,aQN,aQL,aQL,aQX,List.any_eq_false]at h;obtain ⟨⟨h1,h2⟩,h3⟩:=h;exact⟨by omega,by omega,fun e he=>by have:=h3 e he;simpa using this⟩
end Go.Proofs.YtmdicgjnmfolfaaGreatDoor
namespace Go.Proofs.YtmdicgjnmfolfaaGreatDoor
open Go.Proofs.Tryz
open Go.Abs Go.Lib
theorem aKh(u:Nat):∀H,u<1000000000->aI Tryz.prog 186 [iv (u:Int)] H (fun r H'=>r=sv (ofL (decDigits u))/\H'=H):=by
 induction u using Nat.strongRecOn with
 | ind u ih =>
  intro H hu;refine Pu ?_;refine Bd func186 rfl ntmps186<|Sr<|Dd aM<|Zz<|Sq<|Sr<|Dd aE<|Dd cW<|Zz ?_;refine Cn ?_ ?_<;>intro hc1
  ·have hl:u<10:=by have:=aQA hc1;omega
   have h10:(⟨#[48,49,50,51,52,53,54,55,56,57]⟩:ByteArray).size=10:=rfl;have hr:(⟨#[48,49,50,51,52,53,54,55,56,57]⟩:ByteArray).extract u (u+1)=ofL (decDigits u):=by
    rw[decDigits,dif_pos hl];have h:u=0\/u=1\/u=2\/u=3\/u=4\/u=5\/u=6\/u=7\/u=8\/u=9:=by omega
    rcases h with rfl|rfl|rfl|rfl|rfl|rfl|rfl|rfl|rfl|rfl<;>rfl
   exact Sr<|Dd aE<|Dd aE<|Dd mV<|Dd (by exact cQ (l:=u) (h:=u+1) rfl underlying9 rfl rfl rfl (by omega) (by omega) hr)<|Dd aM<|Zz<|aB<|Rt<|Qq
  have hl:¬ u<10:=by have:=aQB hc1;omega
  have hq:IntKind.i64.wrap ((u:Int).tdiv 10)=((u / 10:Nat):Int):=by
   rw[show (u:Int).tdiv 10=((u / 10:Nat):Int)from rfl];exact jM (by omega) (by omega)
  have hs1:(ofL (decDigits (u / 10))).size<=9:=by rw[dH];exact dY (by omega) (by decide)
  have hs2:(ofL (decDigits (u % 10))).size<=1:=by rw[dH];exact dY (by omega) (by decide)
  have hj:ofL (decDigits (u / 10))++ofL (decDigits (u % 10))=ofL (decDigits u):=eqL (by
   rw[show (ofL (decDigits (u / 10))++ofL (decDigits (u % 10))).data.toList=(ofL (decDigits (u / 10))).data.toList++(ofL (decDigits (u % 10))).data.toList by simp,dI,dI,dI];rw[show decDigits u=decDigits (u / 10)++[UInt8.ofNat (48+u % 10)]by rw[decDigits,dif_neg hl]];congr 1;rw[decDigits,dif_pos (by omega)])
  exact aC<|Sr<|Dd aE<|Dd (by exact sD rfl rfl rfl (by decide) hq)<|Dd (by exact aA rfl rfl DX rfl (ih (u / 10) (by omega) _ (by omega)))<|Dd aE<|Dd (by exact sC rfl rfl rfl (by decide) (rfl:(u:Int).tmod 10=((u % 10:Nat):Int)))<|Dd (by exact aA rfl rfl DX rfl (ih (u % 10) (by omega) _ (by omega)))<|Dd (by exact cK rfl rfl rfl (by omega) hj)<|Dd aM<|Zz<|aB<|Rt<|Qq
theorem zD{ws:List ByteArray}{k:Nat}{w:ByteArray}(h:ws[k]?=some w):ofL (bZ [32] (bs (ws.take (k+1))))=(if 0<k then ofL (bZ [32] (bs (ws.take k)))++⟨#[32]⟩else ofL (bZ [32] (bs (ws.take k))))++w:=by
 have hk:=(aQI.1 h).1;refine eqL ?_;rw[List.take_add_one,h,Option.toList_some,bs,List.map_append];cases k with
 |zero =>
  rw[aQC (by omega),List.take_zero];simp[bZ,bs,ofL]
 | succ k =>
  rw[aQD (by omega)];cases ws with
  |nil=>cases hk
  |cons x l =>
   rw[List.take_succ_cons];simp[ofL,bs,bZ]
theorem C0(ws:List ByteArray)(H:aH)(hb:dC ws+ws.length<1099511627776):aI Tryz.prog 185 [.pv (aZ ws)] H (fun r H'=>r=sv (ofL (bZ [32] (bs ws)))/\H'=H):=by
 refine Pu ?_;have hmw:(ws.map encStr).length=ws.length:=aQE _;refine Bd func185 rfl ntmps185<|Sr<|Dd aM<|Zz<|Sr<|Dd aM<|Zz<|Sq<|Sr<|Dd aM<|Zz<|aF ?_;refine bJ (σ:=Nat) (fun k=>([(0,.pv (aZ ws)),(3,sv (ofL (bZ [32] (bs (ws.take k))))),(4,iv (k:Int))],[])) (fun k=>k<=ws.length) (fun k=>ws.length - k) 0 (aQV _) ?_ ?_
 ·exact Wk
 rintro k hk;have hsz:(ofL (bZ [32] (bs (ws.take k)))).size<=dC ws+ws.length:=by
  rw[dH];have h1:=fE (ws.take k);have h2:=mM ws k;have h3:(ws.take k).length<=ws.length:=by rw[aQS];exact Nat.min_le_right _ _
  omega
 refine Sq<|Sr<|Dd aE<|Dd aE<|Dd (fM aD)<|Dd cW<|Zz ?_;refine Cn ?_ ?_<;>intro hc1
 ·have hlt:k<ws.length:=by have:=aQA hc1;omega
  obtain ⟨w,hw⟩:=aU hlt;have hiw:=cI (f:=encStr) hw;have hnx:=zD hw;have hws:w.size<=dC ws:=by
   have h1:=uS hw;have h2:=mM ws (k+1);omega
  have h32:(⟨#[32]⟩:ByteArray).size=1:=rfl;have hs2:(ofL (bZ [32] (bs (ws.take k)))++⟨#[32]⟩).size=(ofL (bZ [32] (bs (ws.take k)))).size+1:=by rw[ByteArray.size_append];rfl
  refine aC<|Sq<|aF<|Sq<|Sr<|Dd aE<|Dd iG<|Zz ?_;refine Cn ?_ ?_<;>intro hc2
  ·have hq:0<k:=by have:=aQA hc2;omega
   rw[aQD hq]at hnx;refine Rg<|Dd aE<|Dd (by exact cK rfl rfl rfl (by omega) rfl)<|Dd aM<|Zz<|Rg<|Dd aE<|Dd aE<|Dd aE<|Dd (mR cC)<|Dd (iN isAgg9)<|Dd (by exact cK rfl rfl rfl (by omega) rfl)<|Dd aM<|Zz<|Rg<|Dd aE<|Dd mV<|Da ?_;refine⟨k+1,by omega,by omega,?_⟩;rw[hnx];exact Wk
  have hq:¬ 0<k:=by have:=aQB hc2;omega
  rw[aQC hq]at hnx;refine aC<|Rg<|Dd aE<|Dd aE<|Dd aE<|Dd (mR cC)<|Dd (iN isAgg9)<|Dd (by exact cK rfl rfl rfl (by omega) rfl)<|Dd aM<|Zz<|Rg<|Dd aE<|Dd mV<|Da ?_;refine⟨k+1,by omega,by omega,?_⟩;rw[hnx];exact Wk
 have hge:k=ws.length:=by have:=aQB hc1;omega
 subst hge;rw[List.take_length];exact aW<|Sr<|Dd aE<|Dd aM<|Zz<|aB<|Rt<|Qq
end Go.Proofs.YtmdicgjnmfolfaaGreatDoor
namespace Go.Proofs.YtmdicgjnmfolfaaGreatDoor
open Go.Proofs.Tryz
open Go.Abs
theorem szW(w:List UInt8):(⟨w.toArray⟩:ByteArray).size=w.length:=by rw[<-bD]
theorem CW(w:List UInt8)(t:ByteArray):(⟨w.toArray⟩:ByteArray)++t=⟨(w++t.data.toList).toArray⟩:=rF (by simp)
theorem HQ(s:ByteArray)(H:aH)(hs:s.size<17592186044416):aI Tryz.prog 187 [sv s] H (fun r H'=>r=sv ⟨(eE s.data.toList).toArray⟩/\H'=H):=by
 refine Pu ?_;have hsl:=bD s;refine Bd func187 rfl ntmps187<|Sr<|Dd aM<|Zz<|Sr<|Dd aM<|Zz<|Sr<|Dd aM<|Zz<|Sq<|Sr<|Dd aM<|Zz<|aF ?_;refine IZ (fun(i f:Nat) (w:List UInt8)=>([(0,sv s),(3,sv ⟨w.toArray⟩),(4,iv (f:Int)),(5,iv (i:Int))],[])) (fun i f w=>f<=i/\i<=s.size/\w.length<=(kE s i).length/\w++(s.data.toList.drop f).take (i - f)=kE s i) (fun i f w=>s.size - i) 0 0 [34] ⟨aQK _,aQV _,aQK _,rfl⟩ ?_ ?_
 ·exact E0
 rintro i f w ⟨hf,hi,hwl,hinv⟩;have hq:=WC (s:=s) (k:=i) hs;have hsw:=szW w;refine Sq<|Sr<|Dd aE<|Dd aE<|Dd (kG underlying9)<|Dd cW<|Zz ?_;refine Cn ?_ ?_<;>intro hc1
 ·have hlt:i<s.size:=by have:=aQA hc1;omega
  have hnx:=QO hlt;have hexl:=iI s f i;have hcat:(⟨w.toArray⟩:ByteArray)++s.extract f i=⟨(kE s i).toArray⟩:=by rw[CW,hexl,hinv]
  have hsq:=szW (kE s i);have hcat2:(⟨(kE s i).toArray⟩:ByteArray)++⟨#[92,110]⟩=⟨(kE s i++[92,110]).toArray⟩:=by rw[CW]
  have hcat3:(⟨(kE s i).toArray⟩:ByteArray)++⟨#[92]⟩=⟨(kE s i++[92]).toArray⟩:=by rw[CW]
  have hxs:=mU s f i;refine aC<|Sq<|aF<|Sr<|Dd aE<|Dd aE<|Dd (by exact dK rfl underlying9 rfl rfl (by omega) (by exact aQP _) (by omega) rfl)<|Dd cN<|Zz ?_;refine Cn ?_ ?_<;>intro hc2
  ·have hb:xK s i=10:=aQA (J8 (n:=10) (by decide) hc2);have he:nW (xK s i)=[92,110]:=by rw[nW,aQD hb]
   rw[he]at hnx;refine Sr<|Dd aE<|Dd aE<|Dd aE<|Dd aE<|Dd (by exact cQ (l:=f) (h:=i) rfl underlying9 rfl rfl rfl (by omega) (by omega) rfl)<|Dd (by exact cK rfl rfl rfl (by omega) hcat)<|Dd (by exact cK rfl rfl rfl (by show (⟨(kE s i).toArray⟩:ByteArray).size+2<=_;omega) hcat2)<|Dd aM<|Zz<|Rg<|Dd aE<|Dd mV<|Dd aM<|Zz<|Rg<|Dd aE<|Dd mV<|Da ?_;refine⟨i+1,i+1,kE s i++[92,110],⟨aQK _,hlt,by rw[hnx];exact aQK _,by rw[hnx,Nat.sub_self,List.take_zero,List.append_nil]⟩,by omega,E0⟩
  have hb10:¬ xK s i=10:=aQB (J8 (n:=10) (by decide) hc2);refine Sq ?_;refine aY (t:=34) (n:=11) (X:=decide (cR s i=34)||decide (cR s i=92)) ?_ ?_
  ·all_goals refine Dd aE ?_
   all_goals refine Dd aE<|Dd (by exact dK rfl underlying9 rfl rfl (by omega) (by exact aQP _) (by omega) rfl)<|Dd cN<|Dm ?_
   all_goals refine Sp 29 (fun h29=>?_) fun h29=>?_
   all_goals try contradiction
   all_goals first|refine Fo<|Fo<|Fo<|Fo ?_|refine On aE<|On aE<|On (by exact dK rfl underlying9 rfl rfl (by omega) (by exact aQP _) (by omega) rfl)<|On cN ?_
   all_goals refine Dd cH<|Zz ?_
   all_goals(exact⟨⟨_,rfl,by(rw[h29];rfl)⟩,rfl,rfl,rfl⟩)
  refine Cn ?_ ?_<;>intro hc3
  ·have hb:xK s i=34\/xK s i=92:=by
    rw[Bool.or_eq_true]at hc3;rcases hc3 with h|h
    ·exact .inl (aQA (J8 (n:=34) (by decide) h))
    exact .inr (aQA (J8 (n:=92) (by decide) h))
   have he:nW (xK s i)=[92,xK s i]:=by rw[nW,aQC hb10,aQD hb]
   rw[he]at hnx;refine Sr<|Dd aE<|Dd aE<|Dd aE<|Dd aE<|Dd (by exact cQ (l:=f) (h:=i) rfl underlying9 rfl rfl rfl (by omega) (by omega) rfl)<|Dd (by exact cK rfl rfl rfl (by omega) hcat)<|Dd (by exact cK rfl rfl rfl (by show (⟨(kE s i).toArray⟩:ByteArray).size+1<=_;omega) hcat3)<|Dd aM<|Zz<|Rg<|Dd aE<|Dd aM<|Zz<|Rg<|Dd aE<|Dd mV<|Da ?_;refine⟨i+1,i,kE s i++[92],⟨Nat.le_succ _,hlt,by rw[hnx,aQF,aQF];exact Nat.add_le_add_left (by show 1<=2;omega) _,by rw[hnx,Nat.add_sub_cancel_left,GR hlt,List.append_assoc];rfl⟩,by omega,E0⟩
  have hb:¬ (xK s i=34\/xK s i=92):=by
   rw[aQ0]at hc3;rintro(h|h)
   ·exact absurd h (aQB (J8 (n:=34) (by decide) hc3.1))
   exact absurd h (aQB (J8 (n:=92) (by decide) hc3.2))
  have he:nW (xK s i)=[xK s i]:=by rw[nW,aQC hb10,aQC hb]
  rw[he]at hnx;have htk:(s.data.toList.drop f).take (i+1 - f)=(s.data.toList.drop f).take (i - f)++[xK s i]:=by
   have e1:i+1 - f=(i - f)+1:=by omega
   have e2:(s.data.toList.drop f)[i - f]?=some (xK s i):=by
    rw[List.getElem?_drop,show f+(i - f)=i by omega];have hd:=GR hlt;exact(NJ hd).1
   rw[e1,List.take_add_one,e2];rfl
  refine aC<|Rg<|Dd aE<|Dd mV<|Da ?_;refine⟨i+1,f,w,⟨by omega,hlt,by rw[hnx,aQF];omega,by rw[htk,<-List.append_assoc,hinv,hnx]⟩,by omega,E0⟩
 have hge:i=s.size:=by have:=aQB hc1;omega
 subst hge;have hexl:=iI s f s.size;have hcat:(⟨w.toArray⟩:ByteArray)++s.extract f s.size=⟨(kE s s.size).toArray⟩:=by rw[CW,hexl,hinv]
 have hsq:=szW (kE s s.size);have hxs:=mU s f s.size;have hend:(⟨(kE s s.size).toArray⟩:ByteArray)++⟨#[34]⟩=⟨(eE s.data.toList).toArray⟩:=by
  rw[CW,kE,List.take_of_length_le (by omega),eE];rfl
 exact aW<|Sr<|Dd aE<|Dd aE<|Dd aE<|Dd (by exact cQ (l:=f) (h:=s.size) rfl underlying9 rfl rfl rfl (by omega) (by omega) rfl)<|Dd (by exact cK rfl rfl rfl (by omega) hcat)<|Dd (by exact cK rfl rfl rfl (by show (⟨(kE s s.size).toArray⟩:ByteArray).size+1<=_;omega) hend)<|Dd aM<|Zz<|aB<|Rt<|Qq
abbrev oBx(o:GObj):Ob:=bx 6 151 ((bW o).map .pv)
def OQ(l:List ByteArray):List (List AV):=l.map fun s=>[sv s]
theorem aBB(l:List ByteArray):(OQ l).length=l.length:=aQE _
theorem nC(H:aH)(l:List ByteArray):∀r∈OQ l,∀a∈r,Clo H a:=by intro r hr a ha;obtain ⟨x,_,rfl⟩:=List.mem_map.1 hr;rw[aQH]at ha;subst ha;simp
theorem S1{l:List ByteArray}{k:Nat}{s:ByteArray}(h:l[k]?=some s):(OQ l)[k]?=some [sv s]:=by rw[OQ,aQY,h];rfl
theorem aBC(l:List ByteArray)(s:ByteArray):OQ l++[(encStr s).map AV.pv]=OQ (l++[s]):=by rw[OQ,OQ,List.map_append];rfl
theorem aKa(l:List ByteArray):OQ l=(l.map encStr).map (·.map .pv):=by rw[OQ,List.map_map];rfl
theorem fmC{α β:Type}{f g:α->List β}:∀ {l:List α},(∀x∈l,f x=g x)->l.flatMap f=l.flatMap g
 | [],_=>rfl
 |x::l,h=>by rw[List.flatMap_cons,List.flatMap_cons,h x List.mem_cons_self,fmC fun y hy=>h y (List.mem_cons_of_mem _ hy)]
end Go.Proofs.YtmdicgjnmfolfaaGreatDoor
