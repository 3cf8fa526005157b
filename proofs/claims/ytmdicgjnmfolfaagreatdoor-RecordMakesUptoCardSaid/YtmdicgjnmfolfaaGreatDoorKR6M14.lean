/-
  Parts of the proof: rules of an abstract program logic, contracts of functions, plain laws. Conditions: each theorem's own.
-/
import Derived.Test.YtmdicgjnmfolfaaGreatDoorKR6M13
set_option linter.unusedVariables false
set_option linter.unusedSimpArgs false
set_option maxRecDepth 100000
set_option maxHeartbeats 8000000
namespace Go.Proofs.YtmdicgjnmfolfaaGreatDoor
open Go.Proofs.Tryz
open Go.Abs Go.Lib
def zSO:Ob:=bx 3 25 [iv 0,.pv (.sl []),.pv (.sl [])]
theorem aE1(s m:ByteArray)(h i:Nat)(H:aH)(hs:s.size<=20000)(hm:m.size<=20000)(hh:h<=8)(hi:i<2 ^ h):
  aI Tryz.prog 85 [sv s,iv (h:Int),iv (i:Int),sv m] H (fun r H'=>r=.tup [.agg [iv (i:Int),.pv (aZ (B3 s i m)),.pv (aZ (iK h (jG s h) i))],iv 0]/\H'=H):=by
 refine Pu ?_;have hp:=pF hh;have hpw:=fun H=>ZA h H (by omega);have hdg:=fun H=>aC2 m H hm;have hky:=fun H=>aHn s h H hs hh;have hpa:=fun H=>aHl h (jG s h) i H hh (qF s h) hi (fun t ht=>Nat.le_trans (qX (uN s h t ht)) (by decide));refine Bd func85 rfl ntmps85<|Sr<|Dd (by exact bU (id:=8) rfl FG rfl rfl)<|Dd aM<|Zz<|Sq<|Sr<|Dd aE<|Dd (by exact cU.valY (by exact iZ rfl rfl rfl) ((decide_eq_false (by omega))))<|Dd aE<|On aE<|On (by exact cU.valY (by exact tX rfl rfl rfl) ((decide_eq_false (by omega))))<|Dd cH<|Dd aE<|On aE<|On (by exact cU.valY (by exact iZ rfl rfl rfl) ((decide_eq_false (by omega))))<|Dd cH<|Dd aE<|On aE<|On aE<|On (by exact aA rfl rfl aPk rfl (hpw _))<|On (by exact cU.valY (by exact lC rfl rfl rfl) ((decide_eq_false (by omega))))<|Dd cH<|Zz ?_;refine Cn ?_ ?_<;>intro hc1
 ·cases hc1
 refine aC<|Sr<|Dd aE<|Dd (rJ aKC)<|Dd (by exact bU (id:=10) rfl FG rfl rfl)<|Uu (jN sizeOf25)<|Zz<|Sr<|Dd aE<|Dd (by exact aA rfl rfl call102 rfl (hdg _))<|Dd aM<|Zz<|Sq<|Sr<|Dd aM<|Zz<|aF ?_;refine gM.ent (E':=[(0,sv s),(1,iv (h:Int)),(2,iv (i:Int)),(8,.ref 8 0 0 0),(10,.ref 10 0 0 0),(11,.pv (Y3 (BS m))),(12,iv 0)]) (H':=(905,⟨0,1,9,[]⟩)::(10,bx 3 25 [iv (i:Int),.osl 905 0 0 0,.pv .nils])::(8,zSO)::[]) ?_ ?_
 ·exact(cX.nz 905 1 9 rfl rfl ⟨⟨_,rfl,(by exact Nz.same (by(simp;done)))⟩,⟨_,rfl,(by exact Nz.same (by(simp;done)))⟩,⟨_,rfl,(by exact Nz.same (by(simp;done)))⟩,⟨_,rfl,(by exact Nz.same (by(simp;rfl)))⟩,⟨_,rfl,(by exact Nz.same (by(simp;rfl)))⟩,⟨_,rfl,(by exact Nz.same (by(simp;done)))⟩,⟨_,rfl,(by exact Nz.same (by(simp;done)))⟩,trivial⟩ ⟨⟨_,rfl,rfl,rfl,rfl,(by exact .inr ⟨_,_,rfl,rfl,(by repeat(first|exact trivial|refine⟨(by first|exact Nz.own|exact Nz.same (by(simp;done))),?_⟩))⟩)⟩,⟨_,rfl,rfl,rfl,rfl,(by exact .inl ⟨rfl,(by(simp[zSO,bx];done))⟩)⟩,trivial⟩ trivial)
 refine bJ (σ:=Nat) (fun k=>([(0,sv s),(1,iv (h:Int)),(2,iv (i:Int)),(8,.ref 8 0 0 0),(10,.ref 10 0 0 0),(11,.pv (Y3 (BS m))),(12,iv (k:Int))],[(905,⟨k,1,9,cD (UZ s i m k)⟩),(10,bx 3 25 [iv (i:Int),.osl 905 k 0 k,.pv .nils]),(8,zSO)])) (fun k=>k<=18) (fun k=>18 - k) 0 (aQV _) ?_ ?_
 ·exact(cX.wk (Eb<|Eb<|Eb<|Ea<|Ea<|Eb<|Eb<|trivial) (Hc (cA _ _)<|Ha<|Hc (by(simp[zSO,bx];done))<|trivial) trivial)
 intro k hk;have hln:(cD (UZ s i m k)).length=k:=by rw[eX,aAx]
 refine Sq<|Sr<|Dd aE<|Dd cW<|Zz ?_;refine Cn ?_ ?_<;>intro hc2
 ·have hlt:k<18:=by have:=aQA hc2;omega
  obtain ⟨d,hd0⟩:=aU (l:=BS m) (k:=k) (by rw[DI];exact hlt);have hd:=T6 m d (aQO hd0);have hi1:=cI (f:=NZ) hd0;have hgd:(BS m).getD k 0=d:=by rw[List.getD_eq_getElem?_getD,hd0];rfl
  have hst:=fun H=>VR s i k H hs (by omega) (by omega);have hch:=fun H=>VY (gO s i k) d H (HK s i k) (by omega);have hnx:=VL s i m k;rw[hgd]at hnx;refine aC<|Sq<|aF<|aO follows<|Cr [10] (fun _ h=>fh iA h)<|Cr [10] (fun _ h=>lh aG h)<|Cr [] (fun _ _=>aE)<|Cr [] (fun _ _=>aE)<|Cr [] (fun _ _=>aE)<|Cr [] (fun H1 hH=>by exact aA rfl rfl call133 rfl (hst _))<|Cr [] (fun _ _=>aE)<|Cr [] (fun _ _=>aE)<|Cr [] (fun H1 hH=>by exact bH rfl aEN rfl rfl (by omega) (by exact aQP _) hi1 rfl)<|Cr [] (fun _ _=>(iN isAgg3 (hi:=hi1)))<|Cr [] (fun H1 hH=>by exact aA rfl rfl call131 rfl (hch _))<|Cr [] (fun H1 hH=>by exact aQ ([vZ (gO s i k) d].map encStr) rfl cC rfl rfl rfl rfl rfl (iB _))<|Cp [905] (fun H1 hH=>by exact cJ (ob:=⟨k,1,9,cD (UZ s i m k)⟩) (k:=k+1) (ps:=[vZ (gO s i k) d].map encStr) rfl cC xI rfl ((hH _ rfl).trans rfl) rfl rfl rfl hln rfl (iB _) (m:=1) rfl (by omega) rfl (rows':=cD (UZ s i m (k+1))) (by rw[hnx];exact fF _ _)) ?_;refine Cr [10] (fun _ h=>fh iA h)<|Cp [10] (fun H1 hH=>by exact bG rfl sizeOf22 rfl rfl rfl ((hH _ rfl).trans rfl) rfl rfl (by simp only[aQG,List.length_nil];omega) (by simp only[Zl,encStr];rfl) (by simp only[Zl,encStr];rfl))<|bM<|Kr<|Rg<|Dd aE<|Dd (by exact cB rfl rfl rfl (show IntKind.i64.wrap ((k:Int)+1)=((k+1:Nat):Int)by rw[jM (by omega) (by omega)];omega))<|Da ?_;exact⟨k+1,by omega,by omega,(cX.wk (Eb<|Eb<|Eb<|Ea<|Ea<|Eb<|Eb<|trivial) (Hc (cA _ _)<|Ha<|Hc (by(simp[zSO,bx];done))<|trivial) trivial)⟩
 have hge:k=18:=by have:=aQB hc2;omega
 subst hge;rw[show UZ s i m 18=B3 s i m from rfl];have hsl:=FN s i m;obtain ⟨S,hS⟩:∃S,S=B3 s i m:=⟨_,rfl⟩;rw[<-hS]at hsl |-;refine aW<|Sq ?_;refine gM.ent (cX.fzG (id:=905) (E':=[(0,sv s),(1,iv (h:Int)),(2,iv (i:Int)),(8,.ref 8 0 0 0),(10,.ref 10 0 0 0)]) (H':=[(10,bx 3 25 [iv (i:Int),.pv (aZ S),.pv .nils]),(8,zSO)]) (S.map encStr) rfl (eM _) ?_ rfl ?_ ?_) ?_
 ·intro p hp;simp only[aQQ,aQU,or_false]at hp;rcases hp with rfl|rfl|rfl|rfl|rfl
  ·exact⟨_,rfl,.same (by simp)⟩
  ·exact⟨_,rfl,.same (by simp)⟩
  ·exact⟨_,rfl,.same (by simp)⟩
  ·exact⟨_,rfl,.same (by simp;rfl)⟩
  exact⟨_,rfl,.same (by simp;rfl)⟩
 ·exact⟨⟨_,rfl,rfl,rfl,rfl,oD rfl (dF (.same (by simp)) (dF (.osl (pJ encStr _ hsl)) (dF (.same (by simp)) oO)))⟩,⟨_,rfl,rfl,rfl,rfl,gK (by simp[zSO,bx])⟩,trivial⟩
 ·exact trivial
 refine Rg<|Dd aE<|Dd aE<|Dd (by exact aA rfl rfl call135 rfl (hky _))<|Dd aE<|Dd (by exact aA rfl rfl call134 rfl (hpa _))<|Dd (aT kV)<|Uu (by exact bG rfl sizeOf22 rfl rfl rfl rfl rfl rfl (by simp only[aQG,List.length_nil];omega) (by simp only[Zl,encStr];rfl) (by simp only[Zl,encStr];rfl))<|Zz<|Sr<|Dd (by exact aN rfl dD sizeOf25 rfl rfl rfl rfl (by simp only[Zl,encStr];rfl) rfl)<|Uu (jN sizeOf25)<|Dd aM<|Zz<|aB ?_;refine mQ (H':=[]) (.inr rfl) rfl (eA rfl dD sizeOf25 rfl rfl rfl (by simp only[Zl,encStr];rfl) rfl) (aX rfl) (Fin.wk (by simp) trivial trivial) ?_;exact Qq
theorem aCY(s m:ByteArray)(h i:Int)(H:aH)(hb:uU h i=true):aI Tryz.prog 85 [sv s,iv h,iv i,sv m] H (fun r H'=>r=.tup [av (fZ zS),iv 1]/\H'=H):=by
 refine Pu ?_;refine Bd func85 rfl ntmps85 ?_;by_cases b1:h<0
 ·refine Sr<|Dd (by exact bU (id:=8) rfl FG rfl rfl)<|Dd aM<|Zz<|Sq<|Sr<|Dd aE<|Dd (by exact cU.valY (by exact iZ rfl rfl rfl) ((decide_eq_true b1)))<|Dd aE<|Fo<|Fo<|Dd cH<|Dd aE<|Fo<|Fo<|Dd cH<|Dd aE<|Fo<|Fo<|Fo<|Fo<|Dd cH<|Zz ?_;refine Cn ?_ ?_<;>intro hc1
  ·refine Sr<|Dd (rJ PT)<|Uu (jN sizeOf25)<|Dd aM<|Zz<|aB ?_;refine mQ (H':=[]) (.inr rfl) rfl (eA rfl dD sizeOf25 rfl rfl rfl (by simp only[Zl,encStr];rfl) rfl) (aX rfl) (Fin.wk (by simp) trivial trivial) ?_;exact Qq
  cases hc1
 by_cases b2:8<h
 ·refine Sr<|Dd (by exact bU (id:=8) rfl FG rfl rfl)<|Dd aM<|Zz<|Sq<|Sr<|Dd aE<|Dd (by exact cU.valY (by exact iZ rfl rfl rfl) ((decide_eq_false b1)))<|Dd aE<|On aE<|On (by exact cU.valY (by exact tX rfl rfl rfl) ((decide_eq_true b2)))<|Dd cH<|Dd aE<|Fo<|Fo<|Dd cH<|Dd aE<|Fo<|Fo<|Fo<|Fo<|Dd cH<|Zz ?_;refine Cn ?_ ?_<;>intro hc2
  ·refine Sr<|Dd (rJ PT)<|Uu (jN sizeOf25)<|Dd aM<|Zz<|aB ?_;refine mQ (H':=[]) (.inr rfl) rfl (eA rfl dD sizeOf25 rfl rfl rfl (by simp only[Zl,encStr];rfl) rfl) (aX rfl) (Fin.wk (by simp) trivial trivial) ?_;exact Qq
  cases hc2
 by_cases b3:i<0
 ·refine Sr<|Dd (by exact bU (id:=8) rfl FG rfl rfl)<|Dd aM<|Zz<|Sq<|Sr<|Dd aE<|Dd (by exact cU.valY (by exact iZ rfl rfl rfl) ((decide_eq_false b1)))<|Dd aE<|On aE<|On (by exact cU.valY (by exact tX rfl rfl rfl) ((decide_eq_false b2)))<|Dd cH<|Dd aE<|On aE<|On (by exact cU.valY (by exact iZ rfl rfl rfl) ((decide_eq_true b3)))<|Dd cH<|Dd aE<|Fo<|Fo<|Fo<|Fo<|Dd cH<|Zz ?_;refine Cn ?_ ?_<;>intro hc3
  ·refine Sr<|Dd (rJ PT)<|Uu (jN sizeOf25)<|Dd aM<|Zz<|aB ?_;refine mQ (H':=[]) (.inr rfl) rfl (eA rfl dD sizeOf25 rfl rfl rfl (by simp only[Zl,encStr];rfl) rfl) (aX rfl) (Fin.wk (by simp) trivial trivial) ?_;exact Qq
  cases hc3
 obtain ⟨n,rfl⟩:∃n:Nat,h=(n:Int):=⟨h.toNat,by omega⟩;have hpw:=fun H=>ZA n H (by omega);have b4:((2 ^ n:Nat):Int)<=i:=by
  rw[uU,decide_eq_false b1,decide_eq_false b2,decide_eq_false b3,aQP]at hb;exact aQA hb
 refine Sr<|Dd (by exact bU (id:=8) rfl FG rfl rfl)<|Dd aM<|Zz<|Sq<|Sr<|Dd aE<|Dd (by exact cU.valY (by exact iZ rfl rfl rfl) ((decide_eq_false b1)))<|Dd aE<|On aE<|On (by exact cU.valY (by exact tX rfl rfl rfl) ((decide_eq_false b2)))<|Dd cH<|Dd aE<|On aE<|On (by exact cU.valY (by exact iZ rfl rfl rfl) ((decide_eq_false b3)))<|Dd cH<|Dd aE<|On aE<|On aE<|On (by exact aA rfl rfl aPk rfl (hpw _))<|On (by exact cU.valY (by exact lC rfl rfl rfl) ((decide_eq_true b4)))<|Dd cH<|Zz ?_;refine Cn ?_ ?_<;>intro hc4
 ·refine Sr<|Dd (rJ PT)<|Uu (jN sizeOf25)<|Dd aM<|Zz<|aB ?_;refine mQ (H':=[]) (.inr rfl) rfl (eA rfl dD sizeOf25 rfl rfl rfl (by simp only[Zl,encStr];rfl) rfl) (aX rfl) (Fin.wk (by simp) trivial trivial) ?_;exact Qq
 cases hc4
theorem aBD(s m:ByteArray)(h i:Int)(H:aH)(hs:s.size<=20000)(hm:m.size<=20000):aI Tryz.prog 85 [sv s,iv h,iv i,sv m] H (fun r H'=>r=.tup [av (fZ (tW s h i m).1),iv (tW s h i m).2]/\H'=H):=by
 by_cases hb:uU h i=true
 ·rw[tW,aQD hb];exact aCY s m h i H hb
 rw[tW,aQC hb];have hb:uU h i=false:=by simpa using hb
 simp only[uU,aQ0,aQM]at hb;obtain ⟨⟨⟨h1,h2⟩,h3⟩,h4⟩:=hb;obtain ⟨n,rfl⟩:∃n:Nat,h=(n:Int):=⟨h.toNat,by omega⟩;obtain ⟨k,rfl⟩:∃k:Nat,i=(k:Int):=⟨i.toNat,by omega⟩;rw[aQP]at h4 |-;rw[aQP];exact aE1 s m n k H hs hm (by omega) (by omega)
theorem aHm(r:GRec)(s:ByteArray)(h:Int)(hr:fR r)(hrf:∀e∈r.edits,e.refs.length<1099511627776)(hs:s.size<=20000)(H:aH):aI Tryz.prog 24 [av (bS r),sv s,iv h] H (fun x H'=>x=.tup [av (bS (qW r s h).1),iv (qW r s h).2]/\H'=H):=by
 refine aI.pure ?_ (by simp[bS]) H;have hr0:fR (wN r):=EP hr Z1 Z1;have hv:=fun H=>MH (wN r) H hr0 hrf;have hid:=fun H=>aJl (wN r) H hr0 hrf;have hem:=fun H=>aDH (mk1 r zS).priv H;rw[qW];refine Bd func24 rfl ntmps24<|Sr<|Dd (by exact cF (id:=3) rfl rfl rfl rfl rfl)<|Dd (by exact bU (id:=6) rfl FF rfl rfl)<|Dd aM<|Zz<|Sr<|Dd (rJ PT)<|Dd (aT kQ)<|Uu (by exact iY rfl sizeOf25 rfl rfl rfl rfl rfl rfl rfl (aQR rfl) rfl rfl)<|Zz<|Sr<|Dd (rJ PT)<|Dd (aT eS)<|Dd (aT nA)<|Uu (by exact iY rfl sizeOf25 rfl rfl rfl rfl rfl rfl rfl (aQR rfl) rfl rfl)<|Zz<|Sq<|Sr<|Dd (mD aS aL)<|Dd (by exact aA rfl rfl aPr rfl (hv _))<|Dd iS<|Zz ?_;refine Cn ?_ ?_<;>intro hc1
 ·have hb:=not_not hc1;rw[aQD hb];refine Sr<|Dd (rJ J7)<|Uu (jN aL)<|Dd aM<|Zz<|aB ?_;refine mQ (H':=[]) (.inr rfl) rfl (eA rfl aS aL rfl rfl rfl (by simp only[Zl,encStr];rfl) rfl) (aX rfl) (Fin.wk (by simp[bS]) trivial trivial) ?_;exact Qq
 have hb:=oC hc1;rw[aQC (by rw[hb];decide)];have hf:=lE hb;have hnu:=hf.nu;have hnr:(wN r).number=r.number:=rfl;rw[hnr]at hnu;have hme:=fun H=>aKc (wN r) H hr0 hrf hb;have hms:(qV (wN r)).size=16:=gH _;have his:=GJ (wN r);obtain ⟨i0,hi0⟩:∃i0,i0=rU (wN r):=⟨_,rfl⟩;obtain ⟨m0,hm0⟩:∃m0,m0=qV (wN r):=⟨_,rfl⟩;rw[<-hi0]at hid his |-;rw[<-hm0]at hme hms |-;have hs1:=fun H=>aBD s i0 h (2*r.number - 2) H hs his;have hs2:=fun H=>aBD s m0 h (2*r.number - 1) H hs (by omega);have ho1:=pM (s:=s) (m:=i0) (h:=h) (i:=2*r.number - 2);have ho2:=pM (s:=s) (m:=m0) (h:=h) (i:=2*r.number - 1);obtain ⟨A,hA⟩:∃A,A=tW s h (2*r.number - 2) i0:=⟨_,rfl⟩;obtain ⟨B,hB⟩:∃B,B=tW s h (2*r.number - 1) m0:=⟨_,rfl⟩;rw[<-hA]at hs1 ho1 |-;rw[<-hB]at hs2 ho2 |-;clear hA hB;refine aC<|Sq<|aO follows<|Cr [] (fun _ _=>aE)<|Cr [] (fun _ _=>aE)<|Cr [3] (fun _ h=>fh nX h)<|Cr [3] (fun _ h=>lh isAgg3 h)<|Cr [] (fun H1 hH=>by exact mB rfl rfl rfl (jM (by omega) (by omega)))<|Cr [] (fun H1 hH=>by exact dX rfl rfl rfl (jM (by omega) (by omega)))<|Cr [3] (fun H1 hH=>by exact aN rfl aS aL rfl ((hH _ rfl).trans rfl) rfl rfl rfl rfl)<|Cr [] (fun H1 hH=>by exact aA rfl rfl call17 rfl (hid _))<|Cr [] (fun H1 hH=>by exact aA rfl rfl call85 rfl (hs1 _))<|Cr [] (fun _ _=>aE)<|Cr [] (fun _ _=>fG)<|Cr [] (fun _ _=>fG)<|Cp [8] (fun H1 hH=>by exact bU (id:=8) rfl FG rfl ((hH _ rfl).trans rfl))<|Cp [8] (fun H1 hH=>by exact cO rfl sizeOf25 rfl rfl rfl rfl ((hH _ rfl).trans rfl) rfl rfl rfl)<|Cr [] (fun _ _=>aM)<|bM<|Kr<|Sq<|Sr<|Dd aE<|Dd wM ?_;refine Zz ?_;refine Cn ?_ ?_<;>intro hc2
 ·have hne:A.2≠0:=by have:=hc2;intro e;rw[e]at this;exact absurd this (by decide)
  rw[aQD hne];refine Sr<|Dd (rJ J7)<|Dd aE<|Uu (jN aL)<|Dd aM<|Zz<|aB ?_;refine mQ (H':=[]) (.inr rfl) rfl (eA rfl aS aL rfl rfl rfl (by simp only[Zl,encStr];rfl) rfl) (aX rfl) (Fin.wk (by simp[bS]) trivial trivial) ?_;exact Qq
 have heq:A.2=0:=by have:=hc2;by_cases e:A.2=0;exact e;rw[decide_eq_false e]at this;cases this
 rw[aQC (by rw[heq];decide)];have ho1:=(ho1 heq).1;obtain ⟨X,hX⟩:∃X,X=(if fA r.priv=true then nS (mk1 r A.1)else if B.2≠0 then(zR,B.2)else nS (J3 r A.1 B.1)):=⟨_,rfl⟩;rw[<-hX];have hX1:fA r.priv=true->X=nS (J3 r A.1 zS):=fun e=>by rw[hX,aQD e];rfl
 have hX2:fA r.priv=false->B.2≠0->X=(zR,B.2):=fun e e2=>by rw[hX,aQC (by rw[e];decide),aQD e2]
 have hX3:fA r.priv=false->B.2=0->X=nS (J3 r A.1 B.1):=fun e e2=>by rw[hX,aQC (by rw[e];decide),aQC (by rw[e2];decide)]
 have hee:fA (mk1 r zS).priv=fA r.priv:=rfl;rw[hee]at hem;clear hX;obtain ⟨em,hemE⟩:∃em,em=fA r.priv:=⟨_,rfl⟩;rw[<-hemE]at hem hX1 hX2 hX3;refine aC<|Sr<|Dd (mD aS aL)<|Dd (by exact aA rfl rfl call29 rfl (hme _))<|Dd aM<|Zz<|Sr<|Dd (mD dD sizeOf25)<|Dd (aT kQ)<|Uu (by exact iY rfl sizeOf25 rfl rfl rfl rfl rfl rfl rfl (aQR rfl) rfl rfl)<|Zz ?_;refine fJ (fun(b:GSeal)=>([(3,.ref 3 0 0 0),(6,.ref 6 0 0 0)],[(6,bx 21 30 ((bS zR).map .pv)),(3,bx 21 30 ((bS (J3 r A.1 b)).map .pv))])) (fun b=>pO b/\X=nS (J3 r A.1 b)) ?_ ?_
 ·refine Sr<|Dd (aT eS)<|Dd (mD gB sizeOf28)<|Dd (by exact aA rfl rfl call30 rfl (hem _))<|Dd iS<|Zz ?_;refine Cn ?_ ?_<;>intro hc3
  ·have he:=not_not hc3;refine Sr<|Dd aE<|Dd aE<|Dd (aT nX)<|Dd (bF isAgg3)<|Dd (by exact mB rfl rfl rfl (jM (by omega) (by omega)))<|Dd (by exact dX rfl rfl rfl (jM (by omega) (by omega)))<|Dd aE<|Dd (by exact aA rfl rfl call85 rfl (hs2 _))<|Dd aE<|Dd fG<|Dd fG<|Dd (by exact bU (id:=11) rfl FG rfl rfl)<|Uu (jN sizeOf25)<|Dd aM<|Zz<|Sq<|Sr<|Dd aE<|Dd wM<|Zz ?_;refine Cn ?_ ?_<;>intro hc4
   ·have hne:B.2≠0:=by have:=hc4;intro e;rw[e]at this;exact absurd this (by decide)
    rw[hX2 he hne];refine Sr<|Dd (rJ J7)<|Dd aE<|Uu (jN aL)<|Dd aM<|Zz<|aB ?_;refine mQ (H':=[]) (.inr rfl) rfl (eA rfl aS aL rfl rfl rfl (by simp only[Zl,encStr];rfl) rfl) (aX rfl) (Fin.wk (by simp[bS]) trivial trivial) ?_;exact Qq
   have heq:B.2=0:=by have:=hc4;by_cases e:B.2=0;exact e;rw[decide_eq_false e]at this;cases this
   refine aC<|Rg<|Dd (mD dD sizeOf25)<|Dd (aT eS)<|Dd (aT nA)<|Uu (by exact iY rfl sizeOf25 rfl rfl rfl rfl rfl rfl rfl (aQR rfl) rfl rfl)<|Zz ?_;exact⟨B.1,⟨kN (ho2 heq).1,hX3 he heq⟩,Wk⟩
  have he:=oC hc3;refine aC ?_;exact⟨zS,⟨Z1,hX1 he⟩,Wk⟩
 rintro b ⟨hb2,hX2⟩;rw[hX2,nS];have htx:=fun H=>aHk (J3 r A.1 b) (EP hr (kN ho1) hb2) hrf H;obtain ⟨T,hT⟩:∃T,T=jO (J3 r A.1 b):=⟨_,rfl⟩;rw[<-hT]at htx |-;refine Sr<|Dd (mD aS aL)<|Dd (by exact aA rfl rfl call11 rfl (htx _))<|Dd aE<|Dd fG<|Dd fG<|Dd aM<|Dd aM<|Zz<|Sq<|Sr<|Dd aE<|Dd wM<|Zz ?_;refine Cn ?_ ?_<;>intro hc5
 ·have hne:T.2≠0:=by have:=hc5;intro e;rw[e]at this;exact absurd this (by decide)
  rw[aQD hne];refine Sr<|Dd (rJ J7)<|Dd aE<|Uu (jN aL)<|Dd aM<|Zz<|aB ?_;refine mQ (H':=[]) (.inr rfl) rfl (eA rfl aS aL rfl rfl rfl (by simp only[Zl,encStr];rfl) rfl) (aX rfl) (Fin.wk (by simp[bS]) trivial trivial) ?_;exact Qq
 have heq:T.2=0:=by have:=hc5;by_cases e:T.2=0;exact e;rw[decide_eq_false e]at this;cases this
 rw[aQC (by rw[heq];decide)];refine aC<|Sr<|Dd (mD aS aL)<|Uu (jN aL)<|Dd aM<|Zz<|aB ?_;refine mQ (H':=[]) (.inr rfl) rfl (eA rfl aS aL rfl rfl rfl (by simp only[Zl,encStr];rfl) rfl) (aX rfl) (Fin.wk (by simp[bS]) trivial trivial) ?_;exact Qq
theorem aEF{r:GRec}(h:(jO r).2=0):jO r=(ofL (jO r).1.data.toList,0):=Prod.ext (nR _).symm h
theorem VB(r:GRec):(jO r).1.size<=20000:=by
 rw[jO]
 split
 ·split
  ·exact aQV _
  next h=>rw[dH];exact Nat.le_of_not_lt h
 exact aQV _
end Go.Proofs.YtmdicgjnmfolfaaGreatDoor
namespace Go.Proofs.YtmdicgjnmfolfaaGreatDoor
open Go.Proofs.Tryz
open Go.Abs
def lT(L:List ByteArray):ByteArray:=ofL (aP L)
def ntx(a b:ByteArray):ByteArray:=lT [CD,a,b]
def NIn(S:ByteArray->Prop):ByteArray->List ByteArray->Nat->Prop
 |_,[],_=>True
 |a,o::r,i=>S (if i % 2=1 then ntx o a else ntx a o)/\NIn S (if i % 2=1 then tN o a else tN a o) r (i / 2)
theorem Z6(a b:ByteArray):(tN a b).size=16:=gH _
structure Texts(S:ByteArray->Prop)(s m:ByteArray)(h:Nat)(sig path:List ByteArray)(i:Nat):Prop where
 m1:∀i,i<2 ^ h->∀k,k<18->∀j,j<15->S (vZ (gO s i k) j)
 m2:∀i,i<2 ^ h->S (lT (zJ s i))
 m3:∀i,i<2 ^ h->NIn S (CH s i) (iK h (jG s h) i) i
 c1:∀k,k<18->∀j,j<15 - (BS m).getD k 0->S (vZ (sig.getD k sNil) j)
 c2:S (lT (xG m sig))
 c3:NIn S (xX (xG m sig)) path i
theorem aIG(s:ByteArray){h i:Nat}(hi:i<2 ^ h):∀t∈iK h (jG s h) i,t.size=16:=fun t ht=>sU (C5 h (jG s h) i (qF s h) hi (uN s h) t ht)
theorem RI(s:ByteArray)(i:Nat):(CH s i).size=16:=gH _
end Go.Proofs.YtmdicgjnmfolfaaGreatDoor
namespace Go.Proofs.YtmdicgjnmfolfaaGreatDoor
open Go.Proofs.Tryz
open Go.Abs Go.Lib
variable{r:GRec}{s:ByteArray}{h:Int}
theorem Q7(h:(nS r).2≠0):(nS r).1=zR:=by
 rw[nS]at h |-
 split at h
 ·next hn=>rw[aQD hn]
 exact absurd rfl h
theorem aFS(hm:(qW r s h).2≠0):(qW r s h).1=zR:=by
 rw[qW]at hm |-
 split at hm
 ·next h1=>rw[aQD h1]
 next h1 =>
 rw[aQC h1]
 split at hm
 ·next h2=>rw[aQD h2]
 next h2 =>
 rw[aQC h2]
 split at hm
 ·next h3=>rw[aQD h3];exact Q7 hm
 next h3 =>
 rw[aQC h3]
 split at hm
 ·next h4=>rw[aQD h4]
 next h4=>rw[aQC h4];exact Q7 hm
theorem aAw:fR zR:=by have i0:rV 0:=⟨by decide,by decide⟩;exact⟨⟨i0,i0,i0,i0,i0⟩,⟨by decide,by decide,by decide⟩,⟨by decide,fun t h=>by cases h⟩,⟨by decide,fun t h=>by cases h⟩,Z1,by decide,by decide,⟨by decide,fun t h=>by cases h⟩,by decide,Z1⟩
theorem aEV(s m:ByteArray)(h i:Int):pO (tW s h i m).1:=by
 by_cases hb:uU h i=true
 ·rw[tW,aQD hb];exact Z1
 exact kN (pM (by rw[tW,aQC hb])).1
theorem Q6(h:fR r):fR (nS r).1:=by
 rw[nS]
 split
 ·exact aAw
 exact h
theorem aFR(r:GRec)(s:ByteArray)(h:Int)(hr:fR r):fR (qW r s h).1:=by
 rw[qW]
 split
 ·exact aAw
 split
 ·exact aAw
 split
 ·exact Q6 (EP hr (aEV _ _ _ _) Z1)
 split
 ·exact aAw
 exact Q6 (EP hr (aEV _ _ _ _) (aEV _ _ _ _))
theorem aFT{x:GRec}(hm:Made r x s h):S7 x r=true/\MQ x.priv r.priv=true:=by rcases hm.e with⟨_,e⟩|⟨_,_,e⟩<;>rw[e]<;>exact⟨WF.2 ⟨rfl,rfl,rfl,rfl,rfl,rfl,rfl,rfl,rfl,rfl,rfl⟩,by simp[MQ,mk1,J3]⟩
theorem ZH(s:ByteArray)(h:Nat):(rG s h).size=16:=by
 have:=IL h (jG s h) 0 (qF s h) (Nat.two_pow_pos h);rw[rG,<-this,RH s (Nat.two_pow_pos h)];cases h with
 |zero=>exact RI s 0
 | succ n =>
  have hp:=aIG s (h:=n+1) (i:=0) (Nat.two_pow_pos _);have hg:∀(p:List ByteArray) (a:ByteArray) (i:Nat),a.size=16->(zI a p i).size=16:=fun p=>by
   induction p with
   |nil=>exact fun a i h=>h
   |cons o r ih=>exact fun a i h=>ih _ _ (by split<;>exact Z6 _ _)
  exact hg _ _ _ (RI s 0)
theorem OU(r:GRec)(s:ByteArray)(h:Int)(hsz:s.size<1099511627776)(hr:fR r)(hp:r.parents.length<549755813888)(hrf:∀e∈r.edits,e.refs.length<1099511627776)(H:aH):aI Tryz.prog 4 [av (bS r),sv s,iv h] H (fun x H'=>x=bv true/\H'=H):=by
 refine aI.pure ?_ (by simp[bS]) H;have hfw:=fun H=>aAB [r] H (show 1<1099511627776 by decide) (fun x hx=>by rw[aQH.1 hx];exact hr);have hmk:=fun H=>Z8 r s h hr hp hsz H;have hmr:=fun(hs:s.size<=100) H=>aHm r s h hr hrf (by omega) H;have herr:=aFS (r:=r) (s:=s) (h:=h);have hok:=fun x (e:qW r s h=(x,0))=>aBU e;have hxr:=aFR r s h hr;obtain ⟨F,hF⟩:∃F,F=RV [r] 5:=⟨_,rfl⟩;rw[<-hF]at hfw;obtain ⟨⟨x,e⟩,hX⟩:∃X,X=qW r s h:=⟨_,rfl⟩;rw[<-hX]at hmk hmr herr hok hxr;have hmk:∀H,aI Tryz.prog 23 [av (bS r),sv s,iv h] H (fun y H'=>y=.tup [av (bS x),iv e]/\H'=H):=hmk;have hmr:s.size<=100->∀H,aI Tryz.prog 24 [av (bS r),sv s,iv h] H (fun y H'=>y=.tup [av (bS x),iv e]/\H'=H):=hmr;have herr:e≠0->x=zR:=herr;have hok:e=0->Made r x s h:=fun h0=>hok x (by rw[h0]);have hxr:fR x:=hxr;have hsm:∀H,aI Tryz.prog 18 [av (bS x),av (bS x)] H (fun r H'=>r=bv true/\H'=H):=fun H=>by
  have:=QE x x H (sR hxr) (sR hxr);rw[VV.2 rfl]at this;exact this
 clear hF hX;refine Bd func4 rfl ntmps4<|Sr<|Dd (by exact cF (id:=3) rfl rfl rfl rfl rfl)<|Dd aM<|Zz<|Sr<|Dd (by exact aA rfl rfl call7 rfl (aFo _))<|Dd aM<|Zz<|Sq<|Sq ?_;refine aY (t:=37) (n:=20) (X:=(!F||decide (100<(s.size:Int)))||(decide (3<h)&&decide (h<=8))) ?_ ?_
 ·all_goals refine Dd (by exact aN rfl aS aL rfl rfl rfl rfl (by simp only[Zl,encStr];rfl) rfl) ?_
  all_goals refine Dd (by exact aQ ([r].map bS) rfl aMk rfl rfl rfl rfl rfl (by intro r hr;simp only[List.map_cons,List.map_nil,aQQ,aQU,or_false]at hr;subst hr;rfl))<|Dd (by exact aA rfl rfl call8 rfl (hfw _))<|Dd iS<|Dm ?_
  all_goals refine Sp 25 (fun h25=>?_) fun h25=>?_
  all_goals try contradiction
  all_goals first|refine Fo<|Fo<|Fo ?_|refine On aE<|On (kG underlying9)<|On iG ?_
  all_goals refine Dd cH<|Dm ?_
  all_goals refine Sp 30 (fun h30=>?_) fun h30=>?_
  all_goals try contradiction
  all_goals first|refine Fo<|Fo<|Fo ?_|refine On aE<|On iG<|On aE ?_
  all_goals(first|refine Sp 33 (fun h33=>?_) fun h33=>?_|refine jW (t:=33) rfl ?_)
  all_goals try contradiction
  all_goals first|refine Fo ?_|refine Fu ?_|refine On aE ?_
  all_goals first|refine Fo ?_|refine Fu ?_|refine On G9 ?_
  all_goals first|refine Fo ?_|refine On cH ?_
  all_goals refine Dd cH<|Zz ?_
  all_goals(exact⟨⟨_,rfl,by(simp only[*,Zo];done)⟩,rfl,rfl,rfl⟩)
 refine Cn ?_ ?_<;>intro hc1
 ·exact Sr<|Dd aE<|Dd aM<|Zz<|aB<|Rt<|Qq
 have hc:=hc1;rw[aQ0,aQ0]at hc;obtain ⟨⟨_,hc1⟩,_⟩:=hc;have hs100:s.size<=100:=by have:=aQB hc1;omega
 have hmr:=hmr hs100;refine aC<|Sr<|Dd (mD aS aL)<|Dd aE<|Dd aE<|Dd (by exact aA rfl rfl aPp rfl (hmk _))<|Dd aE<|Dd fG<|Dd fG<|Dd (by exact bU (id:=8) rfl FF rfl rfl)<|Uu (jN aL)<|Dd aM<|Zz<|Sr<|Dd (mD aS aL)<|Dd aE<|Dd aE<|Dd (by exact aA rfl rfl call24 rfl (hmr _))<|Dd aE<|Dd fG<|Dd fG<|Dd (by exact bU (id:=10) rfl FF rfl rfl)<|Uu (jN aL)<|Dd aM<|Zz<|Sq<|Sr<|Dd aE<|Dd aE<|Dd (by exact cU.val (by exact sE rfl rfl rfl) (neZ))<|Dd aE<|On (mD aS aL)<|On (mD aS aL)<|On (by exact aA rfl rfl aPq rfl (hsm _))<|On iS<|Dd cH<|Zz ?_;refine Cn ?_ ?_<;>intro hc2
 ·cases hc2
 refine aC<|Sq<|Sr<|Dd aE<|Dd wM<|Zz ?_;refine Cn ?_ ?_<;>intro hc3
 ·have hne:e≠0:=by have:=hc3;intro e1;rw[e1]at this;exact absurd this (by decide)
  have hz:x=zR:=herr hne;subst hz;exact Sr<|Dd aE<|Dd aE<|On (aT lL)<|On (bF isAgg3)<|On (by exact cU.val (by exact oA rfl rfl rfl) ((decide_eq_true rfl)))<|Dd cH<|Dd aM<|Zz<|aB<|Rt<|Qq
 have he0:e=0:=by have:=hc3;by_cases e1:e=0;exact e1;rw[decide_eq_false e1]at this;cases this
 subst he0;have hm:=hok rfl;have hau:=(lE hm.v0).au;have hau:0<=r.author/\r.author<=59:=hau;have hh:=(pM hm.a0).2.2.1;obtain ⟨n,rfl⟩:∃n:Nat,h=(n:Int):=⟨h.toNat,by omega⟩;obtain ⟨a,ha⟩:∃a:Nat,r.author=(a:Int):=⟨r.author.toNat,by omega⟩;have hpu:=fun H=>LV s n H hsz (by omega);have hks16:(rG s n).size=16:=ZH s n;have hg:=fun(ks:List ByteArray) (hk:ks[r.author.toNat]?=some (rG s ((n:Int)).toNat))=>And.intro (hm.check hk) (hm.bare hk);simp only[aQP]at hg;have hau2:r.author.toNat=a:=by rw[ha];rfl
 rw[hau2]at hg;obtain ⟨key,hkey⟩:∃key,key=rG s n:=⟨_,rfl⟩;rw[<-hkey]at hpu hks16 hg;have htx:=fun H=>KJ x hxr (by rcases hm.e with⟨_,e⟩|⟨_,_,e⟩<;>rw[e]<;>exact hp) H;have hal:=hm.text;have hpa:∀H,aI Tryz.prog 12 [sv (jO x).1] H (fun y H'=>y=.tup [av (bS x),iv 0]/\H'=H):=fun H=>by
  have:=WJ (jO x).1.data.toList (by rw[bD];exact Nat.lt_of_le_of_lt (VB x) (by decide)) H;rw[MR (aEF hm.tx),nR]at this;exact this
 rw[hm.tx]at htx;obtain ⟨t,ht⟩:∃t,t=(jO x).1:=⟨_,rfl⟩;rw[<-ht]at htx hpa;obtain ⟨hpe,hve⟩:=aFT hm;have hsp:∀H,aI Tryz.prog 26 [av (bS x),av (bS r)] H (fun r H'=>r=bv true/\H'=H):=fun H=>by
  have:=FS x r H (sR hxr) (sR hr);rw[hpe]at this;exact this
 have hsv:∀H,aI Tryz.prog 27 [av (iP x.priv),av (iP r.priv)] H (fun r H'=>r=bv true/\H'=H):=fun H=>by
  have c1:=sR hxr;have c2:=sR hr;have:=DZ x.priv r.priv H c1.2.2.2.1 c2.2.2.2.1 c1.2.2.2.2;rw[hve]at this;exact this
 have hba:=fun H=>aBj x H;have hxp:x.parents.length<549755813888:=by rcases hm.e with⟨_,e⟩|⟨_,_,e⟩<;>rw[e]<;>exact hp
 have hbr:fR (rO x):=by
  obtain ⟨b1,b2,b3,b4,b5,_⟩:=hxr;exact⟨b1,b2,b3,b4,b5,(⟨by decide,by decide,⟨by decide,fun t h=>by cases h⟩,by decide,Z1⟩:MZ ⟨sNil,sNil,[],[],zS⟩)⟩
 have hlr:∀k,(List.replicate k key).length=k:=fun k=>List.length_replicate;clear hal ht hmr hmk herr hok;refine aC<|Sr<|Dd aE<|Dd aE<|Dd (by exact aA rfl rfl call25 rfl (hpu _))<|Dd aE<|Dd fG<|Dd fG<|Dd aM<|Dd aM<|Zz<|Sr<|Dd (by exact bU (id:=14) rfl aMS rfl rfl)<|Zz<|Sq<|Sr<|Dd aM<|Zz<|aF ?_;refine gM.ent (E':=[(3,.ref 3 0 0 0),(7,bv true),(8,.ref 8 0 0 0),(12,sv key),(13,iv 0),(14,.ref 14 0 0 0),(15,iv 0)]) (H':=(971,⟨0,1,9,[]⟩)::(14,bx 6 37 [.pv .nils,.osl 971 0 0 0,.pv .nils,iv 0,.pv .nils,.pv .nils])::(8,bx 21 30 ((bS x).map .pv))::(3,bx 21 30 ((bS r).map .pv))::[]) ?_ ?_
 ·exact(cX.nz 971 1 9 rfl rfl ⟨⟨_,rfl,(by exact Nz.same (by(simp;rfl)))⟩,⟨_,rfl,(by exact Nz.same (by(simp;done)))⟩,⟨_,rfl,(by exact Nz.same (by(simp;rfl)))⟩,⟨_,rfl,(by exact Nz.same (by(simp;done)))⟩,⟨_,rfl,(by exact Nz.same (by(simp;done)))⟩,⟨_,rfl,(by exact Nz.same (by(simp;rfl)))⟩,⟨_,rfl,(by exact Nz.same (by(simp;done)))⟩,trivial⟩ ⟨⟨_,rfl,rfl,rfl,rfl,(by exact .inr ⟨_,_,rfl,rfl,(by repeat(first|exact trivial|refine⟨(by first|exact Nz.own|exact Nz.same (by(simp;done))),?_⟩))⟩)⟩,⟨_,rfl,rfl,rfl,rfl,(by exact .inl ⟨rfl,(by(simp;done))⟩)⟩,⟨_,rfl,rfl,rfl,rfl,(by exact .inl ⟨rfl,(by(simp;done))⟩)⟩,trivial⟩ trivial)
 refine bJ (σ:=Nat) (fun k=>([(3,.ref 3 0 0 0),(7,bv true),(8,.ref 8 0 0 0),(12,sv key),(13,iv 0),(14,.ref 14 0 0 0),(15,iv (k:Int))],[(971,⟨k,1,9,cD (List.replicate k key)⟩),(14,bx 6 37 [.pv .nils,.osl 971 k 0 k,.pv .nils,iv 0,.pv .nils,.pv .nils]),(8,bx 21 30 ((bS x).map .pv)),(3,bx 21 30 ((bS r).map .pv))])) (fun k=>k<=a+1) (fun k=>a+1 - k) 0 (aQV _) ?_ ?_
 ·exact(cX.wk (Ea<|Eb<|Ea<|Eb<|Eb<|Ea<|Eb<|trivial) (Hc (cA _ _)<|Ha<|Hb<|Hb<|trivial) trivial)
 intro k hk;have hlw:(cD (List.replicate k key)).length=k:=by rw[eX,hlr]
 have hnx:List.replicate (k+1) key=List.replicate k key++[key]:=List.replicate_succ';refine Sq<|Sq ?_;refine aY (t:=83) (n:=9) (X:=decide ((k:Int)<=r.author)&&decide ((k:Int)<60)) ?_ ?_
 ·all_goals refine Dd aE ?_
  all_goals refine Dd (aT tH)<|Dd (bF isAgg3)<|Dd G9<|Dm ?_
  all_goals refine Sp 80 (fun h80=>?_) fun h80=>?_
  all_goals try contradiction
  all_goals first|refine Fo<|Fo ?_|refine On aE<|On cW ?_
  all_goals refine Dd cH<|Zz ?_
  all_goals(exact⟨⟨_,rfl,by first|(simp_all;done)|(simp_all;omega)⟩,rfl,rfl,rfl⟩)
 refine Cn ?_ ?_<;>intro hc4
 ·have hlt:k<=a:=by have:=hc4;rw[aQN]at this;have:=aQA this.1;omega
  refine aC<|Sq<|aF<|Rg<|Dd (aT T0)<|Dd (bF aG)<|Dd aE<|Dd (by exact aQ ([key].map encStr) rfl cC rfl rfl rfl rfl rfl (iB _))<|Dd (by exact cJ (ob:=⟨k,1,9,cD (List.replicate k key)⟩) (k:=k+1) (ps:=[key].map encStr) rfl cC xI rfl rfl rfl rfl rfl hlw rfl (iB _) (m:=1) rfl (by omega) rfl (rows':=cD (List.replicate (k+1) key)) (by rw[hnx];exact fF _ _))<|Dd (aT T0)<|Uu (by exact bG rfl sizeOf22 rfl rfl rfl rfl rfl rfl (by simp only[aQG,List.length_nil];omega) (by simp only[Zl,encStr];rfl) (by simp only[Zl,encStr];rfl))<|Zz<|Rg<|Dd aE<|Dd (by exact cB rfl rfl rfl (show IntKind.i64.wrap ((k:Int)+1)=((k+1:Nat):Int)by rw[jM (by omega) (by omega)];omega))<|Da ?_;exact⟨k+1,by omega,by omega,(cX.wk (Ea<|Eb<|Ea<|Eb<|Eb<|Ea<|Eb<|trivial) (Hc (cA _ _)<|Ha<|Hb<|Hb<|trivial) trivial)⟩
 have hge:k=a+1:=by have:=hc4;rw[Bool.and_eq_false_iff]at this;rcases this with h1|h1<;>have:=aQB h1<;>omega
 subst hge;have hks:J2 (List.replicate (a+1) key):=⟨by rw[hlr];omega,fun t ht=>by rw[(List.mem_replicate.1 ht).2,hks16];decide⟩;obtain ⟨g1,g2⟩:=hg (List.replicate (a+1) key) (by rw[List.getElem?_replicate,aQD (Nat.lt_succ_self a)]);have hck:=fun H=>DK x ⟨.nils,.nils,.int .i64 0,.nils,.nils⟩ (List.replicate (a+1) key) hxr hxp hks H;have hcb:=fun H=>DK (rO x) ⟨.nils,.nils,.int .i64 0,.nils,.nils⟩ (List.replicate (a+1) key) hbr hxp hks H;rw[g1]at hck;rw[g2]at hcb;have hK:=hlr (a+1);refine gM.ent (cX.fzG (id:=971) (E':=[(3,.ref 3 0 0 0),(7,bv true),(8,.ref 8 0 0 0),(13,iv 0),(14,.ref 14 0 0 0)]) (H':=[(14,bx 6 37 [.pv .nils,.pv (aZ (List.replicate (a+1) key)),.pv .nils,iv 0,.pv .nils,.pv .nils]),(8,bx 21 30 ((bS x).map .pv)),(3,bx 21 30 ((bS r).map .pv))]) ((List.replicate (a+1) key).map encStr) rfl (eM _) ?_ rfl ?_ ?_) ?_
 ·intro p hp;simp only[aQQ,aQU,or_false]at hp;rcases hp with rfl|rfl|rfl|rfl|rfl
  ·exact⟨_,rfl,.same (by simp;rfl)⟩
  ·exact⟨_,rfl,.same (by simp)⟩
  ·exact⟨_,rfl,.same (by simp;rfl)⟩
  ·exact⟨_,rfl,.same (by simp)⟩
  exact⟨_,rfl,.same (by simp;rfl)⟩
 ·exact⟨⟨_,rfl,rfl,rfl,rfl,oD rfl (dF (.same (by simp)) (dF (.osl (pJ encStr _ hK)) (dF (.same (by simp)) (dF (.same (by simp)) (dF (.same (by simp)) (dF (.same (by simp)) oO))))))⟩,⟨_,rfl,rfl,rfl,rfl,gK (by simp[bx,bS])⟩,⟨_,rfl,rfl,rfl,rfl,gK (by simp[bx,bS])⟩,trivial⟩
 ·exact trivial
 refine aW<|Sr<|Dd (mD aS aL)<|Dd (by exact aA rfl rfl aHG rfl (htx _))<|Dd aE<|Dd fG<|Dd fG<|Dd aM<|Dd aM<|Zz<|Sr<|Dd aE<|Dd (by exact aA rfl rfl call12 rfl (hpa _))<|Dd aE<|Dd fG<|Dd fG<|Dd (by exact bU (id:=18) rfl FF rfl rfl)<|Uu (jN aL)<|Dd aM<|Zz<|Sq<|Sr<|Dd aE<|Dd (by exact cU.val (by exact sE rfl rfl rfl) (neZ))<|Dd aE<|On aE<|On (by exact cU.val (by exact sE rfl rfl rfl) (neZ))<|Dd cH<|Dd aE<|On aE<|On (by exact cU.val (by exact sE rfl rfl rfl) (neZ))<|Dd cH<|Dd aE<|On (mD aS aL)<|On (mD aS aL)<|On (by exact aA rfl rfl aPq rfl (hsm _))<|On iS<|Dd cH<|Zz ?_;refine Cn ?_ ?_<;>intro hc5
 ·cases hc5
 exact aC<|Sq<|aO follows<|Cq aE<|Cq aE<|Nt (mD aS aL)<|Nt (mD aS aL)<|Nt (by exact aA rfl rfl call26 rfl (hsp _))<|Cq cH<|Cq aE<|Nt (aT eS)<|Nt (mD gB sizeOf28)<|Nt (aT eS)<|Nt (mD gB sizeOf28)<|Nt (by exact aA rfl rfl call27 rfl (hsv _))<|Cq cH<|Cq aE<|Nt (mD aS aL)<|Nt (mD OJ BN)<|Nt (by exact aA rfl rfl HG rfl (hck _))<|Nt (by exact cU.val (by exact oA rfl rfl rfl) ((decide_eq_true rfl)))<|Cq cH<|Cq aE<|Nt (mD aS aL)<|Nt (by exact aA rfl rfl call21 rfl (hba _))<|Nt (mD OJ BN)<|Nt (by exact aA rfl rfl HG rfl (hcb _))<|Nt (by exact cU.val (by exact oA rfl rfl rfl) ((decide_eq_true rfl)))<|Cq cH<|Cq aM<|bM<|Kr<|aB<|Rt<|Qq
end Go.Proofs.YtmdicgjnmfolfaaGreatDoor
