/-
  Parts of the proof: rules of a program logic, contracts, plain laws. Conditions: each theorem's own.
-/
import Derived.Test.YtmdicgjnmfolfaaGreatDoorKR7M8
import Derived.RecoverIn
set_option linter.unusedVariables false
set_option linter.unusedSimpArgs false
set_option maxRecDepth 100000
set_option maxHeartbeats 8000000
namespace Go.Proofs
open Tryz
theorem Ic:type_of% call10:=call10
theorem XX:type_of% call14:=call14
theorem JQ:type_of% call16:=call16
theorem mP:type_of% call47:=call47
theorem jC:type_of% call48:=call48
theorem C6:type_of% call49:=call49
theorem XS:type_of% call80:=call80
theorem iO:type_of% isAgg28:=isAgg28
theorem aX:type_of% isAgg30:=isAgg30
theorem eD:type_of% isAgg82:=isAgg82
theorem zI:type_of% underlying81:=underlying81
theorem Gu:type_of% zeroValue81:=zeroValue81
end Go.Proofs
namespace Go.Proofs.YtmdicgjnmfolfaaGreatDoor
open Go.Proofs.Tryz
open Go.Abs
def Qa(r:GRec):Bool:=decide (r.kind=2)||decide (r.kind=3)
def KO(r:GRec):Bool:=if r.kind=3 then lS r.order 1 4 else if r.kind=4 then(bS r.from'&&!decide (r.from'=r.branch))else decide (1<=r.kind/\r.kind<=5)
def X0(r:GRec):ByteArray:=if r.kind=2\/r.kind=3 then r.target else sNil
def Hq(r:GRec):Bool:=if r.kind=2 then r.yes else false
def vv(r:GRec):Int:=if r.kind=3 then r.order else 0
def xe(r:GRec):ByteArray:=if r.kind=4 then r.from' else sNil
def Hr(r:GRec):Bool:=if r.kind=1 then true else if r.kind=3 then decide (r.order=3)else false
def Ri(r:GRec):Bool:=((((decide (r.target=X0 r)&&(r.yes == Hq r))&&decide (r.order=vv r))&&decide (r.from'=xe r))&&(decide (0<((r.edits.map aZ).length:Int)) == Hr r))&&(!Qa r||isJ (X0 r))
def eJ(r:GRec):Bool:=(((!du r&&!ct r)&&(jK r.edits).2)&&KO r)&&Ri r
abbrev W5:=ByteArray×Bool×Int×ByteArray×Bool
def CR(r:GRec):W5:=(X0 r,Hq r,vv r,xe r,Hr r)
theorem Xg{r}(h:r.kind=1):KO r=true/\(sNil,false,0,sNil,true)=CR r:=by simp[KO,CR,X0,Hq,vv,xe,Hr,h]
theorem Xf{r}(h:r.kind=2):KO r=true/\(r.target,r.yes,0,sNil,false)=CR r:=by simp[KO,CR,X0,Hq,vv,xe,Hr,h]
theorem Xe{r}(h:r.kind=3)(a:lS r.order 1 4=true):KO r=true/\(r.target,false,r.order,sNil,decide (r.order=3))=CR r:=by simp[KO,CR,X0,Hq,vv,xe,Hr,h,a]
theorem Xd{r}(h:r.kind=4)(b:bS r.from'=true)(a:r.from'≠r.branch):KO r=true/\(sNil,false,0,r.from',false)=CR r:=by simp[KO,CR,X0,Hq,vv,xe,Hr,h,b,a]
theorem Xc{r}(h:r.kind=5):KO r=true/\(sNil,false,0,sNil,false)=CR r:=by simp[KO,CR,X0,Hq,vv,xe,Hr,h]
theorem Is{r}(h:du r=true):eJ r=false:=by simp[eJ,h]
theorem lb{r}(h:ct r=true):eJ r=false:=by simp[eJ,h]
theorem Ir{r}(h:(jK r.edits).2=false):eJ r=false:=by simp[eJ,h]
theorem VE{r}(h:KO r=false):eJ r=false:=by simp[eJ,h]
theorem Iq{r}(a:du r=false)(d:ct r=false)(b:(jK r.edits).2=true)(c:KO r=true):eJ r=Ri r:=by simp[eJ,a,d,b,c]
theorem xd{r}(h:r.target.size<1099511627776):(X0 r).size<1099511627776:=by
 rw[X0]
 split
 ·exact h
 exact(by decide)
theorem HI(r:GRec)(hr:gE r)(hp:r.parents.length<549755813888)(H:aG):RC 14 [av (cC r)] (bv (eJ r)) H:=by
 refine Pu ?_;obtain ⟨_,⟨b1,b2,b3⟩,hpa,hed,hs,hpv⟩:=hr;have htx:=fun H=>lg r.edits H hed.1 hed.2;obtain ⟨p1,p2,p3,p4,p5⟩:=hpv;have Q:=Ts r.priv.trace p4;have hsh1:=fun H=>ly [r.priv.name,r.priv.reason] (show 2<1099511627776 by decide) H;have T:=fun H=>ly r.priv.sources p3.1 H;have hf1:=fun H=>ao r.priv.sl p5 H;have hf2:=fun H=>ao r.sl hs H;have hso:=fun H=>ag r.parents H (by omega);have X:=fun H=>KY r.parents hpa H;have U:=fun H=>B3 r.branch H (by omega);have hnf:=fun H=>B3 r.from' H (by omega)
 have hwt:=xd b2;have P:∀(n a b:Int) (H:aG),RC 60 [iv n,iv a,iv b] (bv (lS n a b)) H:=fun n a b H=>N4 n a b H;refine Bd func14 rfl ntmps14<|Sd (kb 1)<|Zd aH<|Sd (kl 3 aAw)<|Uu (iP sizeOf98)<|Zz<|Sz aH<|Sd (aV dV)<|Dd (kY iO sizeOf28)<|Dd (kl 5 Qw)<|Uu (iP sizeOf28)<|Zz<|Sd (aV lO)<|Dd (bD eQ)<|Dd (by exact hU rfl rfl)<|Dd (kc call64 (aW.frameS Q (RT.sub ⟨rfl,trivial⟩) (eE.ofL ⟨yC _,trivial⟩) (by simp;rfl)))<|Zd aH<|Sq<|Sq ?_;refine aQ (t:=63) (n:=48) (X:=du r) ?_ ?_
 ·all_goals refine Dd aC ?_
  all_goals refine Dm ?_<;>(refine Sp 23 (fun h23=>?_) fun h23=>?_)<;>(first|contradiction|refine Fo<|Fo<|Fo<|Fo<|Fo<|Fo<|Fo<|Fo ?_|refine On aC<|On (aV xK)<|On (bD isAgg9)<|On (aV xJ)<|On (bD isAgg9)<|On (by exact aN [[.str r.priv.name],[.str r.priv.reason]] rfl bT rfl rfl rfl rfl rfl (by simp_all))<|On (by exact cW rfl rfl rfl (dI.fn call61 (hsh1 _)))<|On iJ ?_)<;>refine Dd cD<|Dm ?_<;>(refine Sp 33 (fun h33=>?_) fun h33=>?_)<;>(first|contradiction|refine Fo<|Fo<|Fo<|Fo<|Fo ?_|refine On aC<|On (aV qK)<|On (bD aF)<|On (by exact cW rfl rfl rfl (dI.fn call61 (T _)))<|On iJ ?_)<;>refine Dd cD<|Dm ?_<;>(refine Sp 40 (fun h40=>?_) fun h40=>?_)<;>(first|contradiction|refine Fo<|Fo<|Fo<|Fo ?_|refine On (aV qK)<|On (bD aF)<|On (eR aD)<|On gX ?_)<;>refine Dd cD<|Dm ?_<;>(refine Sp 46 (fun h46=>?_) fun h46=>?_)<;>(first|contradiction|refine Fo<|Fo<|Fo<|Fo ?_|refine On (aV lO)<|On (bD eQ)<|On (eR dH)<|On gX ?_)<;>refine Dd cD<|Dm ?_<;>(refine Sp 52 (fun R=>?_) fun R=>?_)<;>(first|contradiction|refine Fo<|Fo<|Fo<|Fo ?_|refine On (aV lN)<|On (kY dK sizeOf25)<|On (kc call66 (hf1 _))<|On iJ ?_)<;>refine Dd cD<|Dm ?_<;>(refine Sp 58 (fun Y=>?_) fun Y=>?_)<;>(first|contradiction|refine Fo<|Fo<|Fo<|Fo ?_|refine On (aV jR)<|On (kY dK sizeOf25)<|On (kc call66 (hf2 _))<|On iJ ?_)<;>refine Zd cD ?_<;>(exact⟨⟨_,rfl,by first|(rw[du,h23];rfl)|(rw[du,h23,h33];rfl)|(rw[du,h23,h33,h40];rfl)|(rw[du,h23,h33,h40,h46];rfl)|(rw[du,h23,h33,h40,h46,R];rfl)|(rw[du,h23,h33,h40,h46,R,Y];rfl)⟩,rfl,rfl,rfl⟩)
 refine Cn ?_ ?_<;>intro Z
 ·rw[Is Z];exact Sz aH<|aB<|Rt<|Qq
 have h1:=Z;have hin:De r.parents=(mV r.parents&&decide (((kG r.parents).length:Int)=((r.parents.map encStr).length:Int))):=rfl;obtain ⟨so,V⟩:∃so,so=mV r.parents:=⟨_,rfl⟩;rw[<-V]at hso hin;refine aA<|Sq ?_;refine gC.ent (E':=[(1,.ref 1 0 0 0),(3,.ref 3 0 0 0),(5,.ref 5 0 0 0),(4,.pv (.fn 61))]) (H':=[(5,bx 7 28 ((nD r.priv).map .pv)),(3,Im),(1,bx 21 30 ((cC r).map .pv))]) (cQ.wk (Ea<|Ea<|Ea<|Eb<|trivial) (Hb<|Hc (yC _)<|Hb<|trivial) trivial) ?_;cases so with
 | false =>
  have h2:ct r=true:=by rw[ct,hin,Bool.false_and,Bool.not_false,Bool.or_true]
  rw[lb h2];refine aL follows<|Cr [1] (fun _ h=>fh lM h)<|Cr [1] (fun _ h=>lh aF h)<|Cr [] (fun H1 hH=>by exact bL rfl rfl call67 rfl (hso _))<|Cr [] (fun _ _=>aC)<|Ot<|Ot<|Ot<|Ot<|Ot<|Ot<|Ot<|Ot<|Ot<|Cr [] (fun _ _=>cD)<|Cr [] (fun _ _=>aH)<|bF<|Kr<|Sq<|Sq ?_;refine aQ (t:=118) (n:=47) (X:=ct r) ?_ ?_
  ·all_goals refine Dd (bD qP) ?_
   all_goals refine Dd (aV sJ)<|Dd (bD isAgg3)<|Dd (by exact cW rfl rfl rfl (dI.fn tQ (P r.author 0 59 _)))<|Dd iJ<|Dm ?_<;>(refine Sp 83 (fun h83=>?_) fun h83=>?_)<;>(first|contradiction|refine Fo<|Fo<|Fo<|Fo<|Fo ?_|refine On (bD qP)<|On (aV mE)<|On (bD isAgg3)<|On (by exact cW rfl rfl rfl (dI.fn tQ (P r.number 1 128 _)))<|On iJ ?_)<;>refine Dd cD<|Dm ?_<;>(refine Sp 90 (fun h90=>?_) fun h90=>?_)<;>(first|contradiction|refine Fo<|Fo<|Fo<|Fo<|Fo ?_|refine On (bD qP)<|On (aV uZ)<|On (bD isAgg3)<|On (by exact cW rfl rfl rfl (dI.fn tQ (P r.clock 1 1000000 _)))<|On iJ ?_)<;>refine Dd cD<|Dm ?_<;>(refine Sp 97 (fun h97=>?_) fun h97=>?_)<;>(first|contradiction|refine Fo<|Fo<|Fo<|Fo ?_|refine On (aV uY)<|On (bD isAgg9)<|On (kc pU (U _))<|On iJ ?_)<;>refine Dd cD<|Dm ?_<;>(refine Sp 103 (fun h103=>?_) fun h103=>?_)<;>(first|contradiction|refine Fo<|Fo<|Fo<|Fo ?_|refine On (aV lM)<|On (bD aF)<|On (eR aD)<|On gX ?_)<;>refine Dd cD<|Dm ?_<;>(refine Sp 109 (fun h109=>?_) fun h109=>?_)<;>(first|contradiction|refine Fo<|Fo<|Fo<|Fo ?_|refine On (aV lM)<|On (bD aF)<|On (kc Hz (X _))<|On iJ ?_)<;>refine Dd cD<|Dm ?_<;>(refine Sp 115 (fun h115=>?_) fun h115=>?_)<;>(first|contradiction|refine Fo<|Fo ?_|refine On aC<|On iJ ?_)<;>refine Zd cD ?_<;>(exact⟨⟨_,rfl,by simp_all⟩,rfl,rfl,rfl⟩)
  refine Cn ?_ ?_<;>intro hc2
  ·exact Sz aH<|aB<|Rt<|Qq
  rw[h2]at hc2;cases hc2
 | true =>
  refine aL follows<|Cr [1] (fun _ h=>fh lM h)<|Cr [1] (fun _ h=>lh aF h)<|Cr [] (fun H1 hH=>by exact bL rfl rfl call67 rfl (hso _))<|Cr [] (fun _ _=>aC)<|Lt [1] (fun _ h=>fh lM h)<|Lt [1] (fun _ h=>lh aF h)<|Lp [901] (fun H1 hH=>by exact bL rfl rfl call69 rfl (Vk r.parents (by omega) ((hH _ rfl).trans rfl)))<|Lp [901] (fun H1 hH=>by exact bL rfl rfl call68 rfl (uh r.parents 1 _ ((hH _ rfl).trans rfl) (by omega)))<|Lt [901] (fun H1 hH=>by exact dU rfl aD rfl ((hH _ rfl).trans rfl) rfl)<|Lt [1] (fun _ h=>fh lM h)<|Lt [1] (fun _ h=>lh aF h)<|Lt [] (fun H1 hH=>by exact mY rfl aD rfl)<|Lt [] (fun H1 hH=>by exact gS rfl rfl rfl) ?_;refine Cr [] (fun _ _=>cD)<|Cr [] (fun _ _=>aH)<|bF<|Kr<|Sq<|Sq ?_;refine aQ (t:=118) (n:=47) (X:=ct r) ?_ ?_
  ·all_goals refine Dd (bD qP) ?_
   all_goals refine Dd (aV sJ)<|Dd (bD isAgg3)<|Dd (by exact cW rfl rfl rfl (dI.fn tQ (P r.author 0 59 _)))<|Dd iJ<|Dm ?_<;>(refine Sp 83 (fun h83=>?_) fun h83=>?_)<;>(first|contradiction|refine Fo<|Fo<|Fo<|Fo<|Fo ?_|refine On (bD qP)<|On (aV mE)<|On (bD isAgg3)<|On (by exact cW rfl rfl rfl (dI.fn tQ (P r.number 1 128 _)))<|On iJ ?_)<;>refine Dd cD<|Dm ?_<;>(refine Sp 90 (fun h90=>?_) fun h90=>?_)<;>(first|contradiction|refine Fo<|Fo<|Fo<|Fo<|Fo ?_|refine On (bD qP)<|On (aV uZ)<|On (bD isAgg3)<|On (by exact cW rfl rfl rfl (dI.fn tQ (P r.clock 1 1000000 _)))<|On iJ ?_)<;>refine Dd cD<|Dm ?_<;>(refine Sp 97 (fun h97=>?_) fun h97=>?_)<;>(first|contradiction|refine Fo<|Fo<|Fo<|Fo ?_|refine On (aV uY)<|On (bD isAgg9)<|On (kc pU (U _))<|On iJ ?_)<;>refine Dd cD<|Dm ?_<;>(refine Sp 103 (fun h103=>?_) fun h103=>?_)<;>(first|contradiction|refine Fo<|Fo<|Fo<|Fo ?_|refine On (aV lM)<|On (bD aF)<|On (eR aD)<|On gX ?_)<;>refine Dd cD<|Dm ?_<;>(refine Sp 109 (fun h109=>?_) fun h109=>?_)<;>(first|contradiction|refine Fo<|Fo<|Fo<|Fo ?_|refine On (aV lM)<|On (bD aF)<|On (kc Hz (X _))<|On iJ ?_)<;>refine Dd cD<|Dm ?_<;>(refine Sp 115 (fun h115=>?_) fun h115=>?_)<;>(first|contradiction|refine Fo<|Fo ?_|refine On aC<|On iJ ?_)<;>refine Zd cD ?_<;>(exact⟨⟨_,rfl,by first|(rw[ct,hin,h83];rfl)|(rw[ct,hin,h83,h90];rfl)|(rw[ct,hin,h83,h90,h97];rfl)|(rw[ct,hin,h83,h90,h97,h103];rfl)|(rw[ct,hin,h83,h90,h97,h103,h109];rfl)|(rw[ct,hin,h83,h90,h97,h103,h109,h115];rfl)⟩,rfl,rfl,rfl⟩)
  refine Cn ?_ ?_<;>intro hc3
  ·rw[lb hc3];exact Sz aH<|aB<|Rt<|Qq
  have h2:=hc3;obtain ⟨tx,htxe⟩:∃tx,tx=(jK r.edits).1:=⟨_,rfl⟩;obtain ⟨S,htbe⟩:∃S,S=(jK r.edits).2:=⟨_,rfl⟩;rw[<-htxe,<-htbe]at htx;refine aA<|Sq<|Sd (aV uX)<|Dd (bD jJ)<|Dd (kc call72 (htx _))<|Dd aC<|Dd eG<|Dd eG<|Dd aH<|Zd aH<|Sd aC<|Zd iJ ?_;refine Cn ?_ ?_<;>intro hc4
  ·have hb:S=false:=by have:=hc4;cases S;rfl;cases this
   rw[Ir (htbe.symm.trans hb)];exact Sz aH<|aB<|Rt<|Qq
  have hb:S=true:=by have:=hc4;cases S;cases this;rfl
  have h3:(jK r.edits).2=true:=htbe.symm.trans hb;have hyes:=fun h4=>Iq h1 h2 h3 h4;clear htxe htbe;refine aA<|Sd aH<|Dd aH<|Dd aH<|Dd aH<|Da ?_;refine eV (fun(p:W5)=>([(1,.ref 1 0 0 0),(3,.ref 3 0 0 0),(10,sv p.1),(11,bv p.2.1),(12,iv p.2.2.1),(13,sv p.2.2.2.1),(14,bv p.2.2.2.2)],[(5,bx 7 28 ((nD r.priv).map .pv)),(3,Im),(1,bx 21 30 ((cC r).map .pv))])) (fun p=>KO r=true/\p=CR r) ?_ ?_
  ·refine Sd (aV mF)<|Zd (bD isAgg3)<|aE<|Sd cF<|Da ?_;refine Cn ?_ ?_<;>intro W
   ·have hk:=Xg (aCb W);refine Rg<|Da ?_;exact⟨_,hk,(cQ.wk (Ea<|Ea<|Eb<|Eb<|Eb<|Eb<|Eb<|trivial) (Hb<|Hc (yC _)<|Hb<|trivial) trivial)⟩
   have hk1:=aCc W;refine Sd cF<|Da ?_;refine Cn ?_ ?_<;>intro hc6
   ·have hk:=Xf (aCb hc6);refine aL follows<|Cq (aV uW)<|Cq (bD isAgg9)<|Cq (aV CD)<|Cq (bD mN)<|Cq aH<|Cq aH<|bF<|Kr ?_;exact⟨_,hk,(cQ.wk (Ea<|Ea<|Eb<|Eb<|Eb<|Eb<|Eb<|trivial) (Hb<|Hc (yC _)<|Hb<|trivial) trivial)⟩
   have hk2:=aCc hc6;refine Sd cF<|Da ?_;refine Cn ?_ ?_<;>intro hc7
   ·have hk3:=aCb hc7;refine Sq<|aL follows<|Cq (aV uW)<|Cq (bD isAgg9)<|Cq (aV tJ)<|Cq (bD isAgg3)<|Cq (aV tJ)<|Cq (bD isAgg3)<|Cq cF<|Cq aH<|Cq aH<|Cq aH<|bF<|Kr<|Sd (bD qP)<|Dd aC<|Dd (by exact cW rfl rfl rfl (dI.fn tQ (P r.order 1 4 _)))<|Zd iJ ?_;refine Cn ?_ ?_<;>intro hc8
    ·have hk:lS r.order 1 4=false:=by have:=hc8;revert this;cases lS r.order 1 4<;>simp
     rw[VE (by rw[KO,aCe hk3];exact hk)];exact Sz aH<|aB<|Rt<|Qq
    have hk:=Xe hk3 (by have:=hc8;revert this;cases lS r.order 1 4<;>simp);refine aA ?_;exact⟨_,hk,(cQ.wk (Ea<|Ea<|Eb<|Eb<|Eb<|Eb<|Eb<|trivial) (Hb<|Hc (yC _)<|Hb<|trivial) trivial)⟩
   have hk3:=aCc hc7;refine Sd cF<|Da ?_;refine Cn ?_ ?_<;>intro hc9
   ·have hk4:=aCb hc9;refine Sd (aV pT)<|Dd (bD isAgg9)<|Zd aH<|Sq ?_;refine aQ (t:=162) (n:=10) (X:=!bS r.from'||decide (r.from'=r.branch)) ?_ ?_
    ·all_goals refine Dd aC ?_
     all_goals refine Dd (kc pU (hnf _))<|Dd iJ<|Dm ?_<;>(refine Sp 157 (fun h157=>?_) fun h157=>?_)<;>(first|contradiction|refine Fo<|Fo<|Fo<|Fo ?_|refine On aC<|On (aV uY)<|On (bD isAgg9)<|On vF ?_)<;>refine Zd cD ?_<;>(exact⟨⟨_,rfl,by(rw[h157];rfl)⟩,rfl,rfl,rfl⟩)
    refine Cn ?_ ?_<;>intro hc10
    ·have hk:(bS r.from'&&!decide (r.from'=r.branch))=false:=by have:=hc10;revert this;cases bS r.from'<;>cases decide (r.from'=r.branch)<;>simp
     rw[VE (by rw[KO,aCd hk3,aCe hk4];exact hk)];exact Sz aH<|aB<|Rt<|Qq
    have hk:bS r.from'=true/\¬ r.from'=r.branch:=by have:=hc10;rw[aDB,Bool.not_eq_false',aCn]at this;exact this
    have hk:=Xd hk4 hk.1 hk.2;refine aA ?_;exact⟨_,hk,(cQ.wk (Ea<|Ea<|Eb<|Eb<|Eb<|Eb<|Eb<|trivial) (Hb<|Hc (yC _)<|Hb<|trivial) trivial)⟩
   have hk4:=aCc hc9;refine Sd cF<|Da ?_;refine Cn ?_ ?_<;>intro hc11
   ·have hk:=Xc (aCb hc11);refine aA ?_;exact⟨_,hk,(cQ.wk (Ea<|Ea<|Eb<|Eb<|Eb<|Eb<|Eb<|trivial) (Hb<|Hc (yC _)<|Hb<|trivial) trivial)⟩
   have hk5:=aCc hc11;rw[VE (by rw[KO,aCd hk3,aCd hk4,decide_eq_false (by omega)])];exact Sz aH<|aB<|Rt<|Qq
  rintro _ ⟨h4,rfl⟩;rw[hyes h4];have hdT:=fun H=>Dc (X0 r) hwt H;have hv5:Ri r=(((((decide (r.target=X0 r)&&(r.yes == Hq r))&&decide (r.order=vv r))&&decide (r.from'=xe r))&&(decide (0<((r.edits.map aZ).length:Int)) == Hr r))&&(!Qa r||isJ (X0 r))):=rfl;rw[CR];refine Sq ?_;refine aQ (t:=15) (n:=10) (X:=Qa r) ?_ ?_
  ·all_goals refine Dd (aV mF) ?_
   all_goals refine Dd (bD isAgg3)<|Dd cF<|Dm ?_<;>(refine Sp 168 (fun h168=>?_) fun h168=>?_)<;>(first|contradiction|refine Fo<|Fo<|Fo ?_|refine On (aV mF)<|On (bD isAgg3)<|On cF ?_)<;>refine Dd cD<|Da ?_<;>(exact⟨⟨_,rfl,by(rw[Qa,h168];rfl)⟩,rfl,rfl,rfl⟩)
  refine Sq ?_;refine aQ (t:=2) (n:=45) (X:=Ri r) ?_ ?_
  ·all_goals refine Dd (aV uW) ?_
   all_goals refine Dd (bD isAgg9)<|Dd aC<|Dd vF<|Dm ?_<;>(refine Sp 177 (fun h177=>?_) fun h177=>?_)<;>(first|contradiction|refine Fo<|Fo<|Fo<|Fo ?_|refine On (aV CD)<|On (bD mN)<|On aC<|On (by exact IF rfl eM rfl rfl) ?_)<;>refine Dd cD<|Dm ?_<;>(refine Sp 183 (fun h183=>?_) fun h183=>?_)<;>(first|contradiction|refine Fo<|Fo<|Fo<|Fo ?_|refine On (aV tJ)<|On (bD isAgg3)<|On aC<|On cF ?_)<;>refine Dd cD<|Dm ?_<;>(refine Sp 189 (fun h189=>?_) fun h189=>?_)<;>(first|contradiction|refine Fo<|Fo<|Fo<|Fo ?_|refine On (aV pT)<|On (bD isAgg9)<|On aC<|On vF ?_)<;>refine Dd cD<|Dm ?_<;>(refine Sp 195 (fun h195=>?_) fun h195=>?_)<;>(first|contradiction|refine Fo<|Fo<|Fo<|Fo<|Fo<|Fo ?_|refine On (aV uX)<|On (bD jJ)<|On (eR cT)<|On gX<|On aC<|On (by exact IF rfl eM rfl rfl) ?_)<;>refine Dd cD<|Dm ?_<;>(refine Sp 203 (fun h203=>?_) fun h203=>?_)<;>(first|contradiction|refine Fo<|Fo<|Fo ?_|refine On aC<|On iJ<|On aC ?_)<;>(first|refine Sp 206 (fun h206=>?_) fun h206=>?_|refine kI (t:=206) rfl ?_)<;>(first|contradiction|refine Fo ?_|refine Fu ?_|refine On aC ?_)<;>(first|refine Fo ?_|refine Fu ?_|refine On (kc aC0 (hdT _)) ?_)<;>(first|refine Fo ?_|refine On cD ?_)<;>refine Dd cD<|Da ?_<;>(exact⟨⟨_,rfl,by first|(rw[hv5,h177];rfl)|(rw[hv5,h177,h183];rfl)|(rw[hv5,h177,h183,h189];rfl)|(rw[hv5,h177,h183,h189,h195];rfl)|(rw[hv5,h177,h183,h189,h195,h203];rfl)|(rw[hv5,h177,h183,h189,h195,h203,h206];rfl)⟩,rfl,rfl,rfl⟩)
  exact aB<|Rt<|Qq
end Go.Proofs.YtmdicgjnmfolfaaGreatDoor
namespace Go.Proofs.YtmdicgjnmfolfaaGreatDoor
open Go.Proofs.Tryz
open Go.Abs Go.Lib
structure FSeal(s:GSeal):Prop where
 i0:0<=s.idx
 i1:s.idx<256
 sl:s.sig.length<=18
 pl:s.path.length<=8
 sa:∀t∈s.sig,isJ t=true
 pa:∀t∈s.path,isJ t=true
theorem dq{s}(h:qS s=true):s=⟨0,[],[]⟩:=by rw[qS,aCo,aCf]at h;obtain ⟨i,a,b⟩:=s;obtain ⟨c,e⟩:=h;simp at c e;have f:a=[]:=List.eq_nil_of_length_eq_zero (by omega);have d:b=[]:=List.eq_nil_of_length_eq_zero (by omega);subst c f d;rfl
theorem gO{s}(h:iW s=true):FSeal s:=by
 rw[iW,Bool.or_eq_true]at h;rcases h with h|h
 ·have:=dq h;subst this;exact⟨by simp,by simp,by simp,by simp,by simp,by simp⟩
 simp[aCo,aCm,aCf,List.all_eq_true]at h;obtain ⟨⟨⟨⟨⟨d,c⟩,h3⟩,h4⟩,a⟩,b⟩:=h;exact⟨d,c,by omega,by omega,a,b⟩
structure VF(r:GRec):Prop where
 tr:∀q∈r.priv.trace,(0<=q.1/\q.1<=1048575)/\(0<=q.2/\q.2<=1048575)
 nm:r.priv.name.size<=200
 rs:r.priv.reason.size<=200
 so:∀s∈r.priv.sources,s.size<=200
 sol:r.priv.sources.length<=16
 trl:r.priv.trace.length<=200
 psl:iW r.priv.sl=true
 sl:iW r.sl=true
 au:0<=r.author/\r.author<=59
 nu:1<=r.number/\r.number<=128
 cl:1<=r.clock/\r.clock<=1000000
 br:bS r.branch=true
 pal:r.parents.length<=16
 pa:∀p∈r.parents,isJ p=true
 inc:De r.parents=true
 tx:(jK r.edits).2=true
 k:KO r=true
 ta:r.target=X0 r
 ye:r.yes=Hq r
 od:r.order=vv r
 fr:r.from'=xe r
 ed:decide (0<r.edits.length)=Hr r
 nd:Qa r=true->isJ (X0 r)=true
theorem WX{s}:FX s=false↔s.size<=200:=by rw[FX,aCn];omega
theorem lY{r}(h:eJ r=true):VF r:=by
 simp[eJ,aCo,aCy]at h;obtain ⟨⟨⟨⟨b,a⟩,m⟩,g⟩,d⟩:=h;simp only[du,aDB,Bool.not_eq_false',aCy,aCn,aCf,List.any_eq_false,Bool.not_eq_true]at b;obtain ⟨⟨⟨⟨⟨⟨v,c⟩,w⟩,a4⟩,a5⟩,l⟩,t⟩:=b;simp[ct,aDB,Bool.not_eq_false',aCn,aCf,List.all_eq_true,lS,aCo,aCm]at a;obtain ⟨⟨⟨⟨⟨⟨z,i⟩,n⟩,u⟩,b5⟩,x⟩,f⟩:=a;simp[Ri,aCo,aCm,beq_iff_eq,aCf,Bool.or_eq_true,aCy]at d;obtain ⟨⟨⟨⟨⟨k,y⟩,j⟩,e⟩,c5⟩,c6⟩:=d;refine⟨fun q o=>?_,WX.1 (c _ (by simp)),WX.1 (c _ (by simp)),fun s p=>WX.1 (w s p),by omega,by omega,l,t,z,i,n,u,by omega,x,f,m,g,k,y,j,e,?_,fun hn=>?_⟩
 ·have:=v q o;simp[WS,aDB,Bool.not_eq_false',aCo,aCm]at this;exact this
 all_goals simp_all
theorem AT{r}(h:KO r=true):1<=r.kind/\r.kind<=5:=by
 rw[KO]at h
 grind
theorem KH{s}(h:bS s=true):s.size<=24:=by simp[bS,aCo,aCm]at h;omega
theorem dz{l}(h:(dS l).2=0):(dS l).1.size<=20000:=by
 have a:=DK h;rw[gT]at a
 split at a
 ·have:=congrArg Prod.snd a;cases this
 omega
theorem OB{l}(h:(jK l).2=true):(jK l).1.size<=20000:=by
 rw[jK]at h |-
 split at h
 ·next a =>
  rw[aCe a];exact(by decide)
 next a =>
 rw[aCd a];exact dz (aCb h)
theorem vY{s}(h:isJ s=true):s.size<=16:=Nat.le_of_eq (pK h)
theorem VF.target{r}(h:VF r):r.target.size<=16:=by
 rw[h.ta];by_cases a:Qa r=true
 ·exact vY (h.nd a)
 have:X0 r=sNil:=by
  rw[X0,aCd];rintro(e|e)<;>simp[Qa,e]at a
 rw[this];decide
theorem VF.from{r}(h:VF r):r.from'.size<=24:=by
 rw[h.fr,xe]
 split
 ·next e =>
  have a:=h.k;rw[KO,aCd (by omega),aCe e,aCo]at a;exact KH a.1
 decide
theorem VF.order{r}(h:VF r):0<=r.order/\r.order<=4:=by
 rw[h.od,vv]
 split
 ·next e =>
  have a:=h.k;rw[KO,aCe e,lS,aCo,aCm,aCm]at a;omega
 decide
def JK(p:GPriv):List IV:=[.t p.name,.t p.reason,.l p.sources,.p p.trace]
def HQ(r:GRec):List IV:=[.z r.sl.idx r.sl.sig r.sl.path,.t r.priv.name,.t r.priv.reason,.l r.priv.sources,.p r.priv.trace,.z r.priv.sl.idx r.priv.sl.sig r.priv.sl.path]
def iT(r:GRec):List ByteArray:=pG r++uB (HQ r)
def sW(r:GRec):ByteArray:=if eJ r=true then wA (pG r)else sNil
def lA(r:GRec):ByteArray×Int:=if eJ r=true then(if 20000<(aP (iT r)).length then(sNil,2)else(ofL (aP (iT r)),0))else(sNil,1)
def sc:ByteArray:=⟨#[112,114,105,118,97,116,101]⟩
def rJ(r:GRec):ByteArray:=wA ([sc,sW r]++uB (JK r.priv))
def Qc(x:ByteArray):Prop:=x.size<=20000
theorem pJ{n}(a : -9223372036854775808<=n)(b:n<=9223372036854775807):Qc (aY n):=Nat.le_trans (qJ a b) (by simp)
theorem IM{n:Nat}(h:n<1099511627776):Qc (aY n):=pJ (by omega) (by omega)
theorem YW{s}(h:FSeal s):∀x∈fI (.z s.idx s.sig s.path),Qc x:=by
 intro x a;have i0:=h.i0;have i1:=h.i1;have l1:=h.sl;have l2:=h.pl;simp only[fI,aCr,List.mem_append]at a;rcases a with rfl|(rfl|a)|(rfl|a)
 ·exact pJ (by omega) (by omega)
 ·exact IM (by omega)
 ·exact Nat.le_trans (vY (h.sa x a)) (by simp)
 ·exact IM (by omega)
 exact Nat.le_trans (vY (h.pa x a)) (by simp)
theorem YV{s}(h:FSeal s):(fI (.z s.idx s.sig s.path)).length<=29:=by have l1:=h.sl;have l2:=h.pl;simp[fI,aCh,aCg];omega
theorem H4{r:GRec}(h:VF r):∀x∈pG r,Qc x:=by
 intro x a;obtain ⟨v,b,a⟩:=List.mem_flatMap.1 a;have hk:=AT h.k;have h1:=h.au;have h2:=h.nu;have h3:=h.cl;have h4:=h.order;have e:=KH h.br;have d:=h.target;have c:=h.from
 have hl:=h.pal;simp only[J6,aCr,aCv,or_false]at b;rcases b with rfl|rfl|rfl|rfl|rfl|rfl|rfl|rfl|rfl|rfl|rfl|rfl<;>simp only[fI,aCr,aCv,or_false]at a
 ·subst a;exact(by decide:J0.size<=20000)
 ·subst a;exact pJ (by omega) (by omega)
 ·subst a;exact pJ (by omega) (by omega)
 ·subst a;exact pJ (by omega) (by omega)
 ·subst a;exact pJ (by omega) (by omega)
 ·subst a;exact Nat.le_trans e (by decide)
 ·rcases a with rfl|a
  ·exact IM (by omega)
  exact Nat.le_trans (vY (h.pa x a)) (by decide)
 ·subst a;exact OB h.tx
 ·subst a;exact Nat.le_trans d (by decide)
 ·subst a;split<;>exact pJ (by decide) (by decide)
 ·subst a;exact pJ (by omega) (by omega)
 subst a;exact Nat.le_trans c (by decide)
theorem HZ{r}(h:VF r):(pG r).length<=28:=by have:=h.pal;rw[pG,ZG];omega
theorem fl{r}(h:VF r):∀x∈uB (JK r.priv),Qc x:=by
 intro x a;obtain ⟨v,b,a⟩:=List.mem_flatMap.1 a;have d:=h.nm;have c:=h.rs;have h3:=h.sol;have h4:=h.trl;simp[JK,aCr,aCv,or_false]at b;rcases b with rfl|rfl|rfl|rfl<;>simp only[fI,aCr,aCv,or_false,List.mem_flatMap]at a
 ·subst a;exact Nat.le_trans d (by simp)
 ·subst a;exact Nat.le_trans c (by simp)
 ·rcases a with rfl|a
  ·exact IM (by omega)
  exact Nat.le_trans (h.so x a) (by simp)
 rcases a with rfl|⟨q,e,a⟩
 ·exact IM (by omega)
 obtain ⟨q1,q2⟩:=h.tr q e;rcases a with rfl|rfl
 ·exact pJ (by omega) (by omega)
 exact pJ (by omega) (by omega)
theorem Al(ps):(fI (.p ps)).length=1+2*ps.length:=by rw[show fI _=aY _::NH _ from rfl,aCh,NG];omega
theorem fk{r}(h:VF r):(uB (JK r.priv)).length<=420:=by have h3:=h.sol;have h4:=h.trl;have:=Al r.priv.trace;simp[uB,JK,List.flatMap_cons,List.flatMap_nil,aCg,this];simp[fI,aCh,List.length_nil];omega
theorem ew(r):uB (HQ r)=fI (.z r.sl.idx r.sl.sig r.sl.path)++(uB (JK r.priv)++fI (.z r.priv.sl.idx r.priv.sl.sig r.priv.sl.path)):=by simp[uB,HQ,JK,List.flatMap_cons]
theorem VQ{r}(h:VF r):∀x∈uB (HQ r),Qc x:=by
 intro x a;rw[ew]at a;rcases List.mem_append.1 a with a|a
 ·exact YW (gO h.sl) x a
 rcases List.mem_append.1 a with a|a
 ·exact fl h x a
 exact YW (gO h.psl) x a
theorem VP{r}(h:VF r):(uB (HQ r)).length<=478:=by have h1:=YV (gO h.sl);have h2:=YV (gO h.psl);have h3:=fk h;rw[ew,aCg,aCg];omega
theorem B8{M}(a:M<1000000000000000000):∀(L),(∀s∈L,s.size<=M)->(aP L).length<=L.length*(M+22)
 | [],_=>aCw _
 |s::L,h=>by
  have ih:=B8 a L fun x b=>h x (List.mem_cons_of_mem _ b);have hs:=h s List.mem_cons_self;have hi:=qJ (n:=(s.size)) (by omega) (by omega);rw[show aP _=(qF s).data.toList++aP L by rfl,aCg,qX,qY,aCh,Nat.succ_mul];omega
theorem xB{L}(h:∀x∈L,Qc x){n}(a:L.length<=n):(aP L).length<=n*20022:=Nat.le_trans (B8 (by simp) L h) (Nat.mul_le_mul_right _ a)
end Go.Proofs.YtmdicgjnmfolfaaGreatDoor
namespace Go.Abs
theorem aW.fin{P}{f}{args}{H}{Q a}(h:aW P f args H Q)(c:∀r H1,Q r H1->∃r' H2,Fin H H1 r H2 r'/\a r' H2):aW P f args H a :=fun I l w vs j i d=>(h I _ w _ j i d).mono fun _ w' ⟨r,H',I',ι',v,e,q,m,b,g⟩=>by
  obtain ⟨r',H2,k,hq'⟩:=c r _ q;obtain ⟨I2,ι2,a1,a2,a3⟩:=k ⟨I,l,H,w,[]⟩ rfl _ _ _ v b g m
  grind
end Go.Abs
namespace Go.Proofs.YtmdicgjnmfolfaaGreatDoor
open Go.Proofs.Tryz
open Go.Abs
theorem not_not{b}(h:(!b)=true):b=false:=by simp_all
theorem nU{b}(h:(!b)=false):b=true:=by simp_all
theorem kD{α:Type}(f:α->List PV)(l:List _):((l.map f).take (0+l.length)).drop 0=l.map f:=List.take_of_length_le (by simp)
theorem Qg(l):tL ⟨(aP l).toArray⟩=wA l:=rfl
theorem ry(r)(b:gE r)(a:r.parents.length<549755813888)(H):RC 39 [av (cC r)] (.pv (aU (pG r))) H:=by refine aW.pure ((TI r b a).fin ?_) (by simp) H;rintro _ _ ⟨rfl,rfl⟩;exact⟨_,[],Fin.fz (id:=971) _ rfl (eO _) (.osl (kD _ _)) rfl trivial trivial,rfl,rfl⟩
theorem rz(r)(b:gE r)(a:r.parents.length<549755813888){H}(hno:H.get 971=none):aW Tryz.prog 39 [av (cC r)] H (fun x H'=>x=.osl 971 (fo r) 0 (pG r).length/\H'=(971,⟨fo r,1,9,cH (pG r)⟩)::H) :=aW.frame (TI r b a) (fun _ _ h=>by cases h) (fun _ _ h=>by cases h) (by simp) (fun id h=>.inr (by
  by_cases e:971=id
  ·simp_all
  simp[aG.get,kV e]at h))
theorem UB(r:GRec)(g:gE r)(f:r.parents.length<549755813888)(H:aG):RC 16 [av (cC r)] (sv (sW r)) H:=by
 refine aW.pure ?_ (by simp_all) H;have j:=fun H=>HI r g f H;have e:=fun H=>ry r g f H;rw[sW];refine Bd func16 rfl ntmps16<|Sd (kb 1)<|Zd aH<|Sq<|Sd (kY aX aK)<|Dd (kc XX (j _))<|Zd iJ ?_;refine Cn ?_ ?_<;>intro c
 ·rw[aCd (by simp_all)];exact Sz aH<|aB<|Rt<|Qq
 have h:=nU c;have i:=lY h;have hsz:=xB (H4 i) (HZ i);rw[aCe h];have b:=fun H=>T8 (pG r) H (by omega);have d:=fun H=>YN _ H (by rw[show (⟨(aP (pG r)).toArray⟩:ByteArray).size=(aP (pG r)).length from by rfl];omega);exact aA<|Sd (kY aX aK)<|Dd (bL rfl rfl call39 rfl (e _))<|Dd (bL rfl rfl call41 rfl (b _))<|Dd (kc XV (d _))<|Zd aH<|aB<|Rt<|Qq
theorem Js{r}(h:gE r)(e:VF r):∀v∈HQ r,Zw v:=by
 obtain ⟨_,_,_,_,⟨l,j,k⟩,b1,b2,i,c,g,b,f⟩:=h;intro v a;simp[HQ,aCr,aCv,or_false]at a;rcases a with rfl|rfl|rfl|rfl|rfl|rfl
 ·exact⟨l,j.1,k.1⟩
 ·exact trivial
 ·exact trivial
 ·exact i.1
 ·exact⟨c,fun q d=>by
   obtain ⟨⟨q1,q2⟩,q3,q4⟩:=e.tr q d;exact⟨⟨by omega,by omega⟩,by omega,by omega⟩⟩
 exact⟨g,b.1,f.1⟩
theorem Sk{r}(h:gE r)(e:VF r):∀v∈JK r.priv,Zw v:=by
 obtain ⟨_,_,_,_,_,b1,b2,b,c,c1,c2,c3⟩:=h;intro v a;simp[JK,aCr,aCv,or_false]at a;rcases a with rfl|rfl|rfl|rfl
 ·exact trivial
 ·exact trivial
 ·exact b.1
 exact⟨c,fun q d=>by
  obtain ⟨⟨q1,q2⟩,q3,q4⟩:=e.tr q d;exact⟨⟨by omega,by omega⟩,by omega,by omega⟩⟩
theorem M2(r:GRec)(n:gE r)(j:r.parents.length<549755813888)(H:aG):RC 10 [av (cC r)] (.tup [sv (lA r).1,iv (lA r).2]) H:=by
 refine aW.pure ?_ (by simp_all) H;have t:=fun H=>HI r n j H;have s:=fun H k=>rz r n j (H:=H) k;rw[lA];refine Bd func10 rfl ntmps10<|Sd (kb 1)<|Dd aH<|Zd aH<|Sq<|Sd (kY aX aK)<|Dd (kc XX (t _))<|Zd iJ ?_;refine Cn ?_ ?_<;>intro i
 ·have m:=not_not i;rw[aCd (by simp_all)];exact Sd aH<|Zd aH<|aB<|Ru<|Qq
 have m:=nU i;have e:=lY m;have l:=xB (L:=iT r) (n:=506) (fun x v=>(List.mem_append.1 v).elim (H4 e x) (VQ e x)) (by
  have:=HZ e;have:=VP e;rw[iT,aCg];omega)
 have hpl:=HZ e;have hsl:=VP e;rw[aCe m];have c:=ju (HQ r) (Js n e) (fo r) (pG r) (show 6<1099511627776 by decide) (by omega);have f:=fun H=>T8 (iT r) H (by omega);have q:iT r=pG r++uB (HQ r):=rfl;rw[<-q]at c;obtain ⟨S,u⟩:∃S,S=iT r:=⟨_,rfl⟩;obtain ⟨g,w⟩:∃g,g=fo r+oi (HQ r):=⟨_,rfl⟩;rw[<-u]at c f l |-;rw[<-w]at c;have o:(⟨(aP S).toArray⟩:ByteArray)=ofL (aP S):=rfl;rw[o]at f;have hos:(ofL (aP S)).size=(aP S).length:=cM _;refine aA<|Sd (kY aX aK)<|Dd (kc call39 (s _ rfl))<|Dd (kl 970 Wt)<|Uu (iP LB)<|Zz<|Sd (aV jR)<|Dd (kY dK sizeOf25)<|Dd (by exact IB (ps:=iM r.sl) rfl (dR iG rfl) rfl)<|Dd (aV dV)<|Dd (aV xK)<|Dd (bD isAgg9)<|Dd (by exact fR (p:=.str r.priv.name) rfl (dR underlying9 rfl) rfl)<|Dd (aV dV)<|Dd (aV xJ)<|Dd (bD isAgg9)<|Dd (by exact fR (p:=.str r.priv.reason) rfl (dR underlying9 rfl) rfl)<|Dd (aV dV)<|Dd (aV qK)<|Dd (bD aF)<|Dd (by exact fR (p:=aU r.priv.sources) rfl (dR aD rfl) rfl)<|Dd (aV dV)<|Dd (aV lO)<|Dd (bD eQ)<|Dd (by exact fR (p:=vE r.priv.trace) rfl (dR dH rfl) rfl) ?_;refine Dd (aV dV)<|Dd (aV lN)<|Dd (kY dK sizeOf25)<|Dd (by exact IB (ps:=iM r.priv.sl) rfl (dR iG rfl) rfl)<|Dd (by exact aN ((HQ r).map zG) rfl yF rfl rfl rfl rfl rfl (QH (HQ r)))<|Zd (kc xY (cn c ⟨rfl,rfl,trivial⟩ (by simp;rfl)))<|Sq ?_;refine gC.ent (cQ.fzG (id:=971) (E':=[(4,.ref 970 0 0 0)]) (H':=[(970,bx 1 72 [.pv (aU S)])]) (S.map encStr) rfl (eO _) ?_ rfl ?_ ?_) ?_
 ·intro p j;simp only[aCr,aCv,or_false]at j;rcases j with rfl;exact⟨_,rfl,.same (by simp;rfl)⟩
 ·exact⟨⟨_,rfl,rfl,rfl,rfl,nB rfl (cA (.osl (kD encStr _)) mD)⟩,trivial⟩
 ·exact trivial
 refine Rd (bD FL)<|Dd (kc call41 (f _))<|Zd aH<|Sq<|Sd aC<|Dd (gF underlying9)<|Zd gX ?_;refine Cn ?_ ?_<;>intro h
 ·have d:20000<(aP S).length:=by have:=aCb h;omega
  rw[aCe d];exact Sd aH<|Zd aH<|aB<|Ru<|Qq
 have d:¬ 20000<(aP S).length:=by have:=aCc h;omega
 rw[aCd d];exact aA<|Sd aC<|Dd aH<|Zd aH<|aB<|Ru<|Qq
theorem IS(r):(sW r).size<=20000:=by
 by_cases h:eJ r=true
 ·rw[sW,aCe h];exact Nat.le_trans (Nat.le_of_eq (gP _)) (by simp)
 rw[sW,aCd h];decide
theorem T1(r:GRec)(j:gE r)(e:r.parents.length<549755813888)(l:eJ r=true)(H:aG):RC 82 [av (cC r)] (sv (rJ r)) H:=by
 refine aW.pure ?_ (by simp_all) H;have hid:=fun H=>UB r j e H;have h:=lY l;have hpl:=fk h;have b:=ju (JK r.priv) (Sk j h) 0 [sc,sW r] (show 4<1099511627776 by decide) (by grind);have f:=IS r;have hsz:=xB (L:=[sc,sW r]++uB (JK r.priv)) (n:=422) (fun x d=>(List.mem_append.1 d).elim (fun d=>by
   simp only[aCr,aCv,or_false]at d;rcases d with rfl|rfl
   ·exact(by decide:sc.size<=20000)
   exact f) (fl h x)) (by grind)
 rw[rJ];have c:=fun H=>Ch ([sc,sW r]++uB (JK r.priv)) H (by omega);obtain ⟨S,k⟩:∃S,S=[sc,sW r]++uB (JK r.priv):=⟨_,rfl⟩;obtain ⟨g,n⟩:∃g,g=0+oi (JK r.priv):=⟨_,rfl⟩;rw[<-k]at b c |-;rw[<-n]at b;obtain ⟨i,m⟩:∃i,i=sW r:=⟨_,rfl⟩;rw[<-m]at hid b;refine Bd func82 rfl ntmps82<|Sd (kb 1)<|Zd aH<|Sd (kY aX aK)<|Dd (kc JQ (hid _))<|Dd (by exact fW (id:=971) rfl ep rfl rfl rfl rfl (by simp_all) rfl)<|Dd (kl 970 Wt)<|Uu (iP LB)<|Zz<|Sd (aV dV)<|Dd (aV xK)<|Dd (bD isAgg9)<|Dd (by exact fR (p:=.str r.priv.name) rfl (dR underlying9 rfl) rfl)<|Dd (aV dV)<|Dd (aV xJ)<|Dd (bD isAgg9)<|Dd (by exact fR (p:=.str r.priv.reason) rfl (dR underlying9 rfl) rfl)<|Dd (aV dV)<|Dd (aV qK)<|Dd (bD aF)<|Dd (by exact fR (p:=aU r.priv.sources) rfl (dR aD rfl) rfl) ?_;refine Dd (aV dV)<|Dd (aV lO)<|Dd (bD eQ)<|Dd (by exact fR (p:=vE r.priv.trace) rfl (dR dH rfl) rfl)<|Dd (by exact aN ((JK r.priv).map zG) rfl yF rfl rfl rfl rfl rfl (QH (JK r.priv)))<|Zd (kc xY (cn b ⟨rfl,rfl,trivial⟩ (by simp;rfl)))<|Sq ?_;refine gC.ent (cQ.fzG (id:=971) (E':=[(3,.ref 970 0 0 0)]) (H':=[(970,bx 1 72 [.pv (aU S)])]) (S.map encStr) rfl (eO _) ?_ rfl ?_ ?_) ?_
 ·intro p e;simp only[aCr,aCv,or_false]at e;rcases e with rfl;exact⟨_,rfl,.same (by simp;rfl)⟩
 ·exact⟨⟨_,rfl,rfl,rfl,rfl,nB rfl (cA (.osl (kD encStr _)) mD)⟩,trivial⟩
 ·exact trivial
 exact Rd (bD FL)<|Dd (kc call130 (c _))<|Zd aH<|aB<|Rt<|Qq
def sP(r:GRec):GRec:={r with priv:=⟨sNil,sNil,[],[],⟨0,[],[]⟩⟩}
theorem ph(r)(H):RC 21 [av (cC r)] (av (cC (sP r))) H:=by refine aW.pure ?_ (by simp) H;refine Bd func21 rfl ntmps21<|Sd (rW (id:=1) rfl rfl rfl rfl rfl)<|Zd (BB (id:=2) rfl HC rfl rfl)<|Sd (nP Oc)<|Dd (aV dV)<|Uu (by exact mT rfl sizeOf28 rfl rfl rfl rfl rfl rfl rfl (aCs rfl) rfl rfl)<|Zz<|Sd (kY aX aK)<|Uu (iP aK)<|Zz<|aB ?_;refine dA (H':=[]) (.inr rfl) rfl (eU rfl aX aK rfl rfl rfl (rfl) rfl) (Fin.wk (by simp[cC]) trivial trivial) ?_;exact Qq
end Go.Proofs.YtmdicgjnmfolfaaGreatDoor
namespace Go.Abs
variable{F f:FuncId}{args:List AV}{c:Code}{P:Program}{H H0:aG}
section
theorem C7.of{P}{N}{o}{E}{H}{R}{PP}(h:dp P N o E H R):C7 P N o E H R PP :=fun a w I ι e c d K Q b _=>h a w I _ trivial e c d K Q b
theorem C7.opr{P}{N}{o}{E}{H}{R}(h:C7 P N o E H R (fun _ _=>False)):dp P N o E H R :=fun a w I ι _ f c e K Q b=>h a w I _ f c e K Q b (fun _ _ _ _ _ d=>d.elim)
def fJ(P:Program)(f:FuncId)(args:List AV)(H:aG)(Q:AV->aG->Prop)(PP:X8->aG->Prop):Prop :=∀(I:Nat->Prop) (ι:lR) (w:World) (vs:Array Value),Rel I ι H w->vs.size=args.length->(∀(i:Nat) (v:Value) (a:AV),vs[i]?=some v->args[i]?=some a->VRel w I ι H v a) ->
  Calls P f vs w fun e w'=>(∃r H' I' ι' v,e=.returned v/\Q r H'/\VRel w' I' ι' H' v r/\Rel I' ι' H' w'/\Step I ι H w I' ι' H' w')\/(∃ch H' I' ι',e=.panicked ch/\PP ch H'/\Rel I' ι' H' w'/\Step I ι H w I' ι' H' w')
section
variable{Q:AV->aG->Prop}{PP:X8->aG->Prop}
theorem fJ.of(h:aW P f args H Q):fJ P f args H Q PP:=fun I ι w vs b a c=>(h I _ w _ b a c).mono fun _ _ h=>.inl h
theorem fJ.mono{g}{PP'}(h:fJ P f args H Q PP)(l:∀r H',Q r H'->g r H')(m:∀c H',PP c H'->PP' c H'):fJ P f args H g PP' :=fun I ι w vs k j i=>(h I _ w _ k j i).mono fun _ _ h=>h.elim (fun⟨r,H',d,b,v,e,q,a⟩=>.inl ⟨r,H',d,b,v,e,l _ _ q,a⟩) (fun⟨c,H',d,b,e,q,a⟩=>.inr ⟨c,H',d,b,e,m _ _ q,a⟩)
theorem fJ.calls(h:fJ P f args H Q PP)(d:∀a H',¬ PP a H'):aW P f args H Q :=fun I ι w vs c b e=>(h I _ w _ c b e).mono fun _ _ h=>h.elim id (fun⟨a,H',_,_,_,q,_⟩=>(d _ _ q).elim)
end
section
variable{N:Nat}{o:Oper}{E:dC}{Q:AV->aG->Prop}{PP:X8->aG->Prop}
theorem eF{F}{f}{args}{c}{e}(m:o.op=.call {callee:=.value f,args:=args,argTypes:=c})(p:aO E f=some (.pv (.fn F)))
  (q:∀(args) (w),(callFunc F args).run P w=.ok (.enter F args) w) (g:xS E args.toList=some e) (h:fJ P F e H Q PP):C7 P N o E H Q PP:=by
 intro a w I r _ n j K QQ hk hp;have d:=(aI j p).fn_inv;obtain ⟨h1,k⟩:=oK j (nE g);unfold Oper.wpW execOp;simp[m,resolve,d,Deferred.ofValue,Sem.run_bind,Sem.run_pure,Result.andThen_ok,invoke,q,Oper.uponW_enter];refine(h I r w _ n (by simp_all) (fun i v b g l=>k i v b (by simp_all) l)).mono ?_
 grind
theorem FS{f:Operand}{args:Array Operand}{m:Array TypeId}{k c:List AV}(x:o.op=.call {callee:=.value f,args:=args,argTypes:=m})(t:aO E f=some (.clo F c))
  (s:∀(args:Array Value) (w:World),(callFunc F args).run P w=.ok (.enter F args) w) (d:xS E args.toList=some k) (h:fJ P F (k++c) H Q PP):C7 P N o E H Q PP:=by
 intro a w I u _ r n K QQ hk hp;have e:=aI n t;generalize j:a.eval f=fc at e;obtain ⟨h1,p⟩:=oK n (nE d);cases e with
 | @clo _ us _ hl q =>
  unfold Oper.wpW execOp;simp only[x,resolve,j,Deferred.ofValue,Sem.run_bind,Sem.run_pure,Result.andThen_ok,invoke,s,Oper.uponW_enter,Array.empty_append];have l:args.size=k.length:=by omega
  refine(h I u w _ r (by simp_all) (fun i v b d g=>?_)).mono ?_
  ·by_cases hi:i<args.size
   ·rw[Array.getElem?_append_left (by simp_all)]at d;rw[List.getElem?_append_left (by omega)]at g;exact p i v b (by simp_all) g
   rw[Array.getElem?_append_right (by grind)]at d;rw[List.getElem?_append_right (by omega)]at g;simp only[Array.size_map]at d;rw[l]at d;exact q _ v b d g
  grind
end
section
variable{N:Nat}{o:Oper}{E:dC}{Q:AV->aG->Prop}{PP:X8->aG->Prop}{t t' T:TypeId}{x y:Operand}
theorem oJ{f}{xs}{c}(e:o.op=.makeFunc (.func f) xs #[])(d:xS E xs.toList=some c):cK P N o E H (.bnd f c) H :=.of_run fun a w I ι _ h=>by
  obtain ⟨h1,j⟩:=oK h (nE d);exact⟨.func _ (xs.map a.eval) #[],by simp[execOp,e,Instr.makeFunc],.bnd (by simp_all) (fun i v b d g=>j i v b (by simp_all) g)⟩
theorem FT{f:Operand}{args:Array Operand}{j:Array TypeId}{l xs:List AV}(r:o.op=.call {callee:=.value f,args:=args,argTypes:=j})(u:aO E f=some (.bnd F xs))
  (z:∀(args:Array Value) (w:World),(callFunc F args).run P w=.ok (.enter F args) w) (d:xS E args.toList=some l) (h:fJ P F (xs++l) H Q PP):C7 P N o E H Q PP:=by
 intro a w I A _ m k K QQ hk hp;have c:=aI k u;generalize g:a.eval f=fc at c;obtain ⟨h1,n⟩:=oK k (nE d);cases c with
 | @bnd _ s _ hl p =>
  unfold Oper.wpW execOp;simp only[r,resolve,g,Deferred.ofValue,Sem.run_bind,Sem.run_pure,Result.andThen_ok,invoke,z,Oper.uponW_enter,Array.append_empty];refine(h I A w _ m (by simp_all) (fun i v b d e=>?_)).mono ?_
  ·by_cases q:i<s.size
   ·rw[Array.getElem?_append_left q]at d;rw[List.getElem?_append_left (by omega)]at e;exact p i v b d e
   rw[Array.getElem?_append_right (by omega)]at d;rw[List.getElem?_append_right (by omega)]at e;exact n _ v b (by simp_all) e
  grind
abbrev ms(t:TypeId):X8:=[{v:=.iface t (.agg #[]),recovered:=false}]
theorem TN(e:o.op=.panic x)(f:aO E x=some (.pv (.ifa t []))):C7 P N o E H (fun _ _=>False) (fun c H'=>c=ms t/\H'=H):=by intro a w I ι _ g h K QQ hk b;obtain ⟨cs,d,hl,_⟩:=(aI h f).ifa_inv;have:=Array.eq_empty_of_size_eq_zero (by omega);subst this;unfold Oper.wpW execOp;simp[e,d];exact b _ w I _ H ⟨rfl,rfl⟩ g (Step.refl _ _ _ _)
end
section
variable{G0:aG}{N:Nat}{E:dC}{ops:Array Oper}{Q:Exit->dC->aG->Prop}{o:Oper}{rest:List Oper}{R:AV->aG->Prop}{PP:X8->aG->Prop}
def vu(P:Program)(G0:aG)(N:Nat)(ops:Array Oper)(Q:Exit->dC->aG->Prop)(l:List Oper)(E:dC)(H:aG):Prop :=∀G:Entry,G.H=G0->∀a w,St G N E H a w->∀ro,(ro=none\/l.all Oper.noDefer=true)->wpListIn (RF ro) 0 P ops (fun e a w=>∃E H,Q e E H/\St G N E H a w) l a w
theorem NY(h:Q .normal E H):vu P G0 N ops Q [] E H:=fun _ _ a w b _ _=>⟨E,H,h,b⟩
theorem Gk(l:o.guard=none)(hd:iX N o.dst=true)(h:C7 P N o E H R PP)(e:∀d H',PP d H'->Q (.panic d) E H')(i:∀r H',R r H'->vu P G0 N ops Q rest (mQ E o.dst r) H'):vu P G0 N ops Q (o::rest) E H:=by intro G j a w k ro c;refine wpListIn_plain l fun K' m=>?_;exact k.opP hd h (fun r H' a' g n b=>m _ _ (i r _ n G j _ _ b _ (mX c).2)) (fun d H' g f b=>⟨E,H',e _ _ f,b⟩) (mX c).1
theorem Ql(b:o.guard=none)(hd:iX N o.dst=true)(h:dp P N o E H R)(a:∀r H',R r H'->vu P G0 N ops Q rest (mQ E o.dst r) H'):vu P G0 N ops Q (o::rest) E H :=Gk (PP:=fun _ _=>False) b hd (.of h) (fun _ _ h=>h.elim) a
theorem iI{d}{v}{H2}(a:o.guard=none)(hd:o.dst=some d)(c:Nat.blt d N=true)(h:cK P N o E H v H2)(e:vu P G0 N ops Q rest ((d,v)::E) H2):vu P G0 N ops Q (o::rest) E H :=Ql a (by rw[hd];exact c) h fun r H' ⟨b,f⟩=>by subst b f;rw[hd];exact e
theorem Gl{v}{H2}(d:o.guard=none)(hd:o.dst=none)(h:cK P N o E H v H2)(a:vu P G0 N ops Q rest E H2):vu P G0 N ops Q (o::rest) E H :=Ql d (by rw[hd];rfl) h fun r H' ⟨c,b⟩=>by subst c b;rw[hd];exact a
theorem XN{d}{v}{H2}{F}(j:o.guard=none)(hd:o.dst=some d)(e:Nat.blt d N=true)(h:C7 P N o E H (fun r H'=>r=v/\H'=H2/\F) PP)(b:∀a H',PP a H'->Q (.panic a) E H')(f:F->vu P G0 N ops Q rest ((d,v)::E) H2):vu P G0 N ops Q (o::rest) E H :=Gk j (by rw[hd];exact e) h b fun r H' ⟨c,g,i⟩=>by subst c g;rw[hd];exact f i
theorem pR(c:o.guard=none)(hd:iX N o.dst=true)(h:C7 P N o E H (fun _ _=>False) PP)(b:∀a H',PP a H'->Q (.panic a) E H'):vu P G0 N ops Q (o::rest) E H:=Gk c hd h b (fun _ _ h=>h.elim)
theorem gG{id}(h:vu P G0 N ops Q ops.toList E H):gC P G0 N (.region id ops false) Q E H:=fun G d a w b ro c=>wpIn_region_list (h G d a w b _ c)
end
def Hm(P:Program)(fn:Func)(G0:aG)(Q:AV->aG->Prop)(PP:X8->aG->Prop)(e:Exit)(E:dC)(H:aG):Prop :=LG P fn G0 Q e E H\/∃ch H',e=.panic ch/\Fin G0 H (.tup []) H' (.tup [])/\PP ch H'
theorem K9{P}{a}{G0 H}{Q}{PP}{e}{E}(h:LG P a G0 Q e E H):Hm P a G0 Q PP e E H:=.inl h
theorem D9{P}{d}{G0 H H'}{Q}{PP}{a:X8}{E}(c:Fin G0 H (.tup []) H' (.tup []))(b:PP a H'):Hm P d G0 Q PP (.panic a) E H:=.inr ⟨a,H',rfl,c,b⟩
theorem fJ.body{o:Func}{Q:AV->aG->Prop}{PP:X8->aG->Prop}{N:Nat}(V:P.funcs[f]?=some o)(Y:o.body=some c)(hN:o.ntmps=N)(hlen:args.length<=N)
  (h:gC P H N c (Hm P o H Q PP) (nK args) H):fJ P f args H Q PP:=by
 intro I n w s O hl S;refine callsIn_wide.1 (callsIn_of_wp_marks (F:=Fence.wide) (n:=0) V Y trivial ?_);have F:St ⟨I,n,H,w,[]⟩ N (nK args) H {tmps:=s++Array.replicate (o.ntmps - s.size) undef,defers:=[]} w:=by
  refine⟨sY.nil _ _ _,?_,I,n,O,Step.refl _ _ _ _,fun t a Z=>?_⟩
  ·grind
  have R:=vZ Z;have G:t<s.size:=by grind
  have W:s[t]?=some s[t]:=Array.getElem?_eq_getElem G;exact⟨s[t],by grind,S t _ a W R⟩
 refine wpIn_mono (h ⟨I,n,H,w,[]⟩ rfl _ w F none (.inl rfl)) ?_;rintro e y m ⟨E',k,(⟨U,r,C,r',z,i,L⟩|⟨B,z,rfl,i,L⟩),D⟩
 ·have u:LeavesInM Fence.wide 0 P o y.tmps (fun e m=>(∃r k g b v,e=.returned v/\Q r k/\VRel m g b k v r/\Rel g b k m/\Step I n H w g b k m)\/(∃B k g b,e=.panicked B/\PP B k/\Rel g b k m/\Step I n H w g b k m)) y.defers .returning m:=by
   obtain ⟨g,b,q,d,p⟩:=D.rel;refine vU D.defers q d p ?_;intro E l j A;obtain ⟨v,h1,X⟩:=C y E g b l A;obtain ⟨M,x,J,K,T⟩:=i ⟨I,n,H,w,[]⟩ rfl g b E v l j X
   grind
  rcases U with rfl|rfl
  ·exact u
  exact u
 obtain ⟨g,b,q,d,p⟩:=D.rel;show LeavesInM Fence.wide 0 P o y.tmps _ y.defers (.panicking B) m;refine zC (by simp) D.defers q d p ?_;intro E l j A;obtain ⟨M,x,J,K,T⟩:=i ⟨I,n,H,w,[]⟩ rfl g b E (.tuple #[]) l j (.tup rfl (by simp));exact .inr ⟨B,z,M,x,rfl,L,J,K⟩
theorem QC{I x:Nat->Prop}{ι s:lR}{H':aG}{w w':World}(J:Rel I ι H w)(G:Sub H0 H)(k2:Rel x s H' w')(m:Step I ι H0 w x s H' w')(hk:∀id,(H'.get id).isSome=true->(H0.get id).isSome=true\/H.get id=none):
  ∃f,Rel x f (H'++H) w'/\Step I ι H w x f (H'++H) w'/\∀v a,VRel w' x s H' v a->VRel w' x f (H'++H) v a:=by
 obtain ⟨f,hι2⟩:∃f:lR,f=(fun j=>if(H'.get j).isSome=true then s j else ι j):=⟨_,rfl⟩;have B:∀j o,H'.get j=some o->f j=s j:=fun j o d=>by simp_all
 have D:∀j,H'.get j=none->f j=ι j:=fun j d=>by simp_all
 have W:∀j o,H'.get j=some o->aG.get (H'++H) j=some o:=fun j o d=>by rw[gJ,d]
 have F:∀j,H'.get j=none->aG.get (H'++H) j=H.get j:=fun j d=>by rw[gJ,d]
 have U:∀j o,H.get j=some o->H'.get j=none->H0.get j=none:=fun j o d E=>by
  cases e:H0.get j with
  |none=>rfl
  |some o0 =>
   obtain ⟨l,T,_⟩:=m.objs j o0 e
   simp_all
 have y:∀j o b c,H.get j=some o->H'.get j=none->ι j=some (b,c)->¬ MW ι H0 b:=fun j o b c d E K ⟨n,l,C,k,R⟩=>by
  have:=J.inj j n o l b c C d (G _ _ k) K R;subst this;rw[U j o d E]at k;cases k
 have O:Step I ι H w x f (H'++H) w':=by
  refine⟨m.os,m.tape,m.output,m.size,fun a ha E=>m.froz a ha (fun h=>E (h.sub G)),m.imm,fun b K=>?_,?_,?_,?_⟩
  ·rcases m.immNew b K with g|g|g
   ·simp_all
   ·exact .inr (.inl (g.sub G))
   omega
  ·rintro b ⟨j,o,c,d,t⟩;cases e:H'.get j with
   |some l =>
    rw[B j l e]at t;rcases m.own b ⟨j,l,c,e,t⟩with g|g
    ·exact .inl (g.sub G)
    omega
   |none =>
    rw[D j e]at t;rw[F j e]at d;exact .inl ⟨j,o,c,d,t⟩
  ·intro b K E;exact m.keep b K (fun h=>E (h.sub G))
  intro j o d;cases e:H'.get j with
  |some l =>
   rcases hk j (by rw[e];rfl)with g|g
   ·obtain ⟨o0,Y⟩:=Option.isSome_iff_exists.1 g;have:=G _ _ Y;rw[d]at this;cases this;obtain ⟨S,Z,q2,q3⟩:=m.objs j o Y;exact⟨S,W j S Z,q2,fun e=>by rw[B j S Z];exact q3 e⟩
   rw[d]at g;cases g
  |none=>exact⟨o,(F j e).trans d,aCl _,fun _=>⟨D j e,rfl,fun _=>aCl _⟩⟩
 have L:∀ {v:Value} {a:AV},VRel w' x s H' v a->VRel w' x f (H'++H) v a:=fun V =>
  V.mono' (fun _ _=>rfl) (fun _ h=>h) (fun id o X=>⟨o,W id o X,aCl _,fun _=>⟨B id o X,rfl,fun _=>aCl _⟩⟩)
 refine⟨f,⟨k2.imm,fun j o d=>?_,fun j n o l b c C d k t i=>?_,k2.glob⟩,O,fun v a h=>L h⟩
 ·cases e:H'.get j with
  |some l =>
   rw[W j l e]at d;obtain rfl:l=o:=Option.some.inj d;exact(k2.obj j l e).keep (B j l e) (fun _ _ _ _=>⟨rfl,fun h=>h⟩) (fun r _ a _ v Q=>L Q)
  |none =>
   rw[F j e]at d;refine(J.obj j o d).keep (D j e) (fun P z T A=>⟨m.keep P A (y j o P z d e T),fun e3 hi=>?_⟩) (fun r _ a _ v Q=>Q.mono J O);rcases m.immNew P hi with g|g|g
   ·exact e3 g
   ·exact y j o P z d e T g
   omega
 cases e:H'.get j with
 | some q =>
  rw[B j q e]at t;cases u:H'.get n with
  |some N =>
   rw[B n N u]at i;exact k2.inj j n q N b c C e u t i
  |none =>
   rw[D n u]at i;rw[F n u]at k;have A:=J.lt ⟨n,l,C,k,i⟩;rcases m.own b ⟨j,q,c,e,t⟩with g|g
   ·exact absurd g (y n l b C k u i)
   omega
 | none =>
  rw[D j e]at t;rw[F j e]at d;cases u:H'.get n with
  |some N =>
   rw[B n N u]at i;have A:=J.lt ⟨j,o,c,d,t⟩;rcases m.own b ⟨n,N,C,u,i⟩with g|g
   ·exact absurd g (y j o b c d e t)
   omega
  |none =>
   rw[D n u]at i;rw[F n u]at k;exact J.inj j n o l b c C d k t i
theorem fJ.conv{P}{f}{args}{H}{Q n}{PP PP'}(h:fJ P f args H Q PP)(u:∀r H',Q r H'->∃H2,(∀j,H2.get j=H'.get j)/\n r H2)(x:∀c H',PP c H'->∃H2,(∀j,H2.get j=H'.get j)/\PP' c H2):fJ P f args H n PP' :=fun I ι w vs p t o=>(h I _ w _ p t o).mono fun _ _ h=>by
  rcases h with⟨r,H',k,b,v,e,q,s,d,i⟩|⟨c,H',k,b,e,q,d,i⟩
  ·obtain ⟨H2,m,a⟩:=u r _ q;obtain ⟨l,g⟩:=d.congr m;exact .inl ⟨r,H2,k,b,v,e,a,s.mono d g,l,i.trans g⟩
  obtain ⟨H2,m,a⟩:=x _ _ q;obtain ⟨l,g⟩:=d.congr m;exact .inr ⟨c,H2,k,b,e,a,l,i.trans g⟩
theorem fJ.frame{R}{PP}(h:fJ P f args H0 R PP)(d:Sub H0 H)(s:eE H0)(y:∀a∈args,Clo H0 a)
  (g:∀r H1,R r H1->∀id,(H1.get id).isSome=true->(H0.get id).isSome=true\/H.get id=none) (l:∀c H1,PP c H1->∀id,(H1.get id).isSome=true->(H0.get id).isSome=true\/H.get id=none) :
  fJ P f args H (fun r H'=>∃K,R r K/\H'=K++H) (fun c H'=>∃K,PP c K/\H'=K++H):=by
 intro I t w C j B x;refine(h I t w C (j.restrict d s) B (fun i v a A q=>(x i v a A q).restrict d (y a (aCp q)))).mono ?_;rintro e w' (⟨r,H',E,k,v,rfl,n,k1,o,p⟩|⟨c,H',E,k,rfl,n,o,p⟩)
 ·obtain ⟨m,u,z,D⟩:=QC j d o p (g r H' n)
  grind
 obtain ⟨m,u,z,D⟩:=QC j d o p (l c H' n)
 grind
end
section
def Ie(P:Program)(N:Nat)(PP:X8->aG->aG->Prop)(ops rest:List Oper)(E:dC)(H:aG)(K:List Rec->List Prop->dC->aG->Prop):Prop:=∃rs Fs E' H',DChainP P N ops PP rest E H rs Fs E' H'/\K rs Fs E' H'
theorem I6{P}{N}{PP}{ops}{E}{H}{K}(h:K [] [] E H):Ie P N PP ops [] E H K:=⟨_,_,_,_,.nil,h⟩
theorem uN{P}{N}{PP}{ops rest}{o}{E}{H}{K}{r}{F}(h:DStepP P N ops PP o E H r F)(hd:iX N o.dst=true)
  (d:Ie P N PP ops rest (mQ E o.dst r.v) (r.W++H) (fun a b E' H'=>K (r::a) (F::b) E' H')):Ie P N PP ops (o::rest) E H K:=by
 obtain ⟨a,b,E',H',c,e⟩:=d;exact⟨_,_,_,_,.cons h hd c,e⟩
theorem bn{P}{N}{PP}{ops rest}{o}{E}{H}{K}{r}(h:DStep P N ops o E H r)(hd:iX N o.dst=true)
  (c:Ie P N PP ops rest (mQ E o.dst r.v) (r.W++H) (fun a b E' H'=>K (r::a) (True::b) E' H')):Ie P N PP ops (o::rest) E H K:=uN (.old trivial h) hd c
theorem xQ{P}{G0}{N id}{Q}{ops}{E}{H}(PP)(d a ks)(i:nw d ops=true)(g:P.follows .mixedOrders=true)
  (j:∀e c H1 H2,(∀t∈d,c.get t=E.get t)->Shp a H H1->(∀id∈ks,H1.get id=H.get id)->PP e H1 H2->Q (.panic e) c H2)
  (h:Ie P N PP ops.toList ops.toList E H (fun b f E' H'=>(PK ops.toList b=true/\Jm a H b=true/\nv ks b=true)/\(XY f->Q .normal E' H'))):gC P G0 N (.region id ops true) Q E H:=by
 obtain ⟨b,f,E',H',n,⟨m,l,o⟩,k⟩:=h;exact U2 g n m _ _ l o _ i j k
section
variable{G0:aG}{N:Nat}{PP:X8->aG->aG->Prop}{ops rest:List Oper}{E:dC}{K:List Rec->List Prop->dC->aG->Prop}{dst:Option Tmp}{op:Op}{ty:TypeId}{pos:String}{af:Array Edge}{v:AV}{w:Nat×Ob}
theorem Pr(R:List Nat)(h:∀H1:aG,(∀id,sQ (some R) id=true->H1.get id=H.get id)->cK P N ⟨dst,op,ty,pos,af,none⟩ (restr E (iQ ops ⟨dst,op,ty,pos,af,none⟩)) H1 v H1)(hk:Ie P N PP ops rest (mQ E dst v) H (fun rs Fs E' H'=>K (⟨v,some R,[]⟩::rs) (True::Fs) E' H'))(hd:iX N dst=true:=by rfl):Ie P N PP ops (⟨dst,op,ty,pos,af,none⟩::rest) E H K:=bn (r:=⟨v,some R,[]⟩) (DStep.plain rfl h) hd hk
theorem Pw(R:List Nat)(h:∀H1:aG,(∀id,sQ (some R) id=true->H1.get id=H.get id)->cK P N ⟨dst,op,ty,pos,af,none⟩ (restr E (iQ ops ⟨dst,op,ty,pos,af,none⟩)) H1 v (w::H1))(hk:Ie P N PP ops rest (mQ E dst v) (w::H) (fun rs Fs E' H'=>K (⟨v,some R,[w]⟩::rs) (True::Fs) E' H'))(hd:iX N dst=true:=by rfl):Ie P N PP ops (⟨dst,op,ty,pos,af,none⟩::rest) E H K:=bn (r:=⟨v,some R,[w]⟩) (DStep.plain rfl h) hd hk
end
end
section
abbrev He(G:Entry)(Q:AV->aG->Prop):Ending->World->Prop:=fun e w'=>∃r H' I' ι' v,e=.returned v/\Q r H'/\VRel w' I' ι' H' v r/\Rel I' ι' H' w'/\Step G.I G.ι G.H G.w I' ι' H' w'
def DWp(P:Program)(fn:Func)(G0:aG)(N:Nat)(Q:AV->aG->Prop)(c:Code)(E:dC)(H:aG):Prop :=∀G:Entry,G.H=G0->G.ds=[]->∀a w,St G N E H a w->c.wpIn Fence.wide 0 P (bodyPostM Fence.wide 0 P fn (He G Q)) a w
section
variable{fn:Func}{G0 H:aG}{N:Nat}{Q:AV->aG->Prop}{E:dC}
theorem A8{G}{e}{a}{w}(n:G.H=G0)(hd:G.ds=[])(h:LG P fn G0 Q e E H)(m:St G N E H a w):bodyPostM Fence.wide 0 P fn (He G Q) e a w:=by
 obtain ⟨o,r,g,r',H'',b,hq⟩:=h;have c:LeavesInM Fence.wide 0 P fn a.tmps (He G Q) a.defers .returning w:=by
  obtain ⟨I',ι',k,f,l⟩:=m.rel;refine vU (hd▸m.defers) k f l ?_;intro w2 i d j;obtain ⟨v,h1,p⟩:=g a _ _ _ i j;obtain ⟨I2,ι2,k1,k2,k3⟩:=b G n _ _ _ v i d p
  grind
 rcases o with rfl|rfl
 ·exact c
 exact c
theorem ox{x y}(h:gC P G0 N x (xV (fun g H1=>DWp P fn G0 N Q y g H1) (LG P fn G0 Q)) E H):DWp P fn G0 N Q (.seq x y) E H:=by
 intro G c d a w i;refine wpIn_seq (wpIn_mono (h G c a w i _ (.inl rfl)) ?_);rintro e a' w' ⟨E',H',f,b⟩;cases e with
 |normal=>exact f G c d _ _ b
 |exit id=>exact A8 c d f b
 |goto l=>exact A8 c d f b
 |ret=>exact A8 c d f b
 |panic ch=>exact A8 c d f b
 |outgrown=>exact A8 c d f b
theorem aW.bodyD(k:P.funcs[f]?=some fn)(o:fn.body=some c)(hN:fn.ntmps=N)(hlen:args.length<=N)(h:DWp P fn H N Q c (nK args) H):aW P f args H Q:=by
 intro I g w b j hl i;refine callsIn_wide.1 (callsIn_of_wp_marks (n:=0) k o trivial ?_);have d:St ⟨I,g,H,w,[]⟩ N (nK args) H {tmps:=b++Array.replicate (fn.ntmps - b.size) undef,defers:=[]} w:=by
  refine⟨sY.nil _ _ _,?_,I,g,j,Step.refl _ _ _ _,fun t a n=>?_⟩
  ·grind
  have m:=vZ n;have e:t<b.size:=by grind
  have l:=Array.getElem?_eq_getElem e;exact⟨b[t],by grind,i t _ a l m⟩
 exact h _ rfl rfl _ w d
end
def XZ(P:Program)(F:FuncId)(args:List AV)(H:aG)(u:FrameMode)(K:aG->Prop):Prop :=∀(I:Nat->Prop) (ι:lR) (w:World) (vs:Array Value),Rel I ι H w->vs.size=args.length->(∀(i:Nat) (v:Value) (a:AV),vs[i]?=some v->args[i]?=some a->VRel w I ι H v a) ->
  CallsDIn Fence.wide 0 P F vs u w fun e u' w'=>∃v H' I' ι',e=.returned v/\settle u'=.returning/\K H'/\Rel I' ι' H' w'/\Step I ι H w I' ι' H' w'
def px(P:Program)(fn:Func)(G0 H0:aG)(F:FuncId)(cs:List AV)(Q:AV->aG->Prop)(e:Exit)(E:dC)(H:aG):Prop :=∃u E1 H1,((e=.normal\/e=.ret)/\u=.returning\/∃ch,e=.panic ch/\u=.panicking ch)/\cQ H0 E H E1 H1 /\
  XZ P F cs H1 u fun H2=>∃r,(∀(a:Act) (w:World) (I:Nat->Prop) (ι:lR),Rel I ι H2 w->kS w I ι H2 E1 a->∃v,(results fn a.tmps).run P w=.ok v w/\VRel w I ι H2 v r)/\∃r' H3,Fin G0 H2 r H3 r'/\Q r' H3
section
variable{fn:Func}{G0 H:aG}{N:Nat}{Q:AV->aG->Prop}{E:dC}
theorem uf{id:Nat}{X Y:Oper}{ops:Array Oper}{rest:Code}{l:Array Operand}{at_:Array TypeId}{d:Tmp}{cs:List AV}(z:ops.toList=[X,Y])(hg1:X.guard=none)(R:X.dst=some d)(hdN:Nat.blt d N=true)(ho1:X.op=.makeFunc (.func F) #[] l)
  (hg2:Y.guard=none) (hd2:Y.dst=none) (ho2:Y.op=.defer {callee:=.value (.tmp d),args:=#[],argTypes:=at_}) (hv:xS E l.toList=some cs)
  (hc:∀(args:Array Value) (w:World),(callFunc F args).run P w=.ok (.enter F args) w)
  (h:gC P H N rest (px P fn G0 H F cs Q) ((d,.clo F cs)::E) H):DWp P fn G0 N Q (.seq (.region id ops false) rest) E H:=by
 intro G hG hd a w hs;refine wpIn_seq (wpIn_region_list ?_);rw[z];refine wpListIn_plain hg1 fun K1 hK1=>?_;refine hs.op (ro:=none) (by rw[R];exact hdN) (hU ho1 (nE hv)) ?_ (.inl rfl);rintro r H' j q ⟨rfl,rfl⟩ k;refine hK1 j q ?_;rw[R]at k;refine wpListIn_plain hg2 fun K2 hK2=>?_;refine Oper.wpW_in (ro:=none) (.inl rfl) ?_;obtain ⟨I1,S,o,B,A⟩:=k.rel;obtain ⟨c1,hc1,hv1⟩:=A d _ (dC.get_cons_same _ _ _);have hev:j.eval (.tmp d)=c1:=by simp[Act.eval,hc1]
 cases hv1 with
 | @clo _ K _ hl hh =>
  unfold Oper.wpW execOp;simp only[ho2,resolve,hev,Deferred.ofValue,Sem.run_bind,Sem.run_pure,Result.andThen_ok,Oper.uponW,hd2,Act.put];refine hK2 _ q ?_;show Exit.then _ _ .normal _ q
  let dd:Deferred:={target:=.fn (.func F) K,args:=#[]++(#[]:Array Operand).map j.eval}
  have C:St ⟨I1,S,H',q,dd::j.defers⟩ N ((d,.clo F cs)::E) H' {j with defers:=dd::j.defers} q :=
   ⟨sY.nil _ _ _,k.size,I1,S,o,Step.refl _ _ _ _,A⟩
  refine wpIn_mono (h _ rfl _ q C none (.inl rfl)) ?_;rintro e M w' ⟨E',H2,⟨u,E1,H1,n,I,W⟩,Z⟩;have L:=I _ rfl N M w' Z;have p:u≠.run->LeavesInM Fence.wide 0 P fn M.tmps (He G Q) M.defers u w':=by
   intro hu;obtain ⟨I3,ι3,hr3,O,he3⟩:=L.rel;refine zC hu L.defers hr3 O he3 ?_;intro w4 y g he4;refine⟨hu,.inr ⟨(fun hx=>by cases hx),.func F,K,F,K,rfl,?_,fun _ _=>trivial,?_⟩⟩
   ·show (invoke (.fn (.func F) K) (#[]++(#[]:Array Operand).map j.eval)).run P w4=_;simp only[invoke,Array.map_empty,Array.empty_append,hc]
   refine(W I3 ι3 w4 K y (by omega) (fun i v b hv hb=>(hh i v b hv hb).mono o g)).mono ?_;rintro e2 u' w5 ⟨v,H5,I5,m,rfl,J,⟨r,U,r',H6,D,hq⟩,hr5,f⟩;show LeavesInM Fence.wide 0 P fn M.tmps (He G Q) j.defers (settle u') w5;rw[J];have s:Step G.I G.ι G.H G.w I5 m H5 w5:=(B.trans g).trans f;have hm1:sY [] G.w w5 j.defers:=(hd▸k.defers).step o (g.trans f);refine vU hm1 hr5 s (fun t v ht=>let ⟨c,x1,x2⟩:=he4 t v ht;⟨c,x1,x2.mono y f⟩) ?_;intro w7 V x he7;obtain ⟨v,h1,h2⟩:=U M w7 I5 m V he7;obtain ⟨I8,ι8,k1,k2,k3⟩:=D G hG I5 m w7 v V x h2
   grind
  rcases n with⟨rfl|rfl,rfl⟩|⟨ch,rfl,rfl⟩
  ·exact p (by simp)
  ·exact p (by simp)
  exact p (by simp)
end
end
end Go.Abs
namespace Go.Abs
open Go.Proofs
variable{d:Tmp}{E:dC}
section
section
variable{P:Program}{G0:aG}{N:Nat}{Q:Exit->dC->aG->Prop}{H:aG}
def SL(P:Program)(G0:aG)(N:Nat)(c:Code)(Q:Exit->dC->aG->Prop)(E:dC)(H:aG):Prop :=∀G:Entry,G.H=G0->∀a w,St G N E H a w->c.wpIn (RF none) 0 P (fun e a' w'=>(∃E H,Q e E H/\St G N E H a' w')/\a'.defers=a.defers) a w
def Qp(P:Program)(G0:aG)(N:Nat)(ops:Array Oper)(K:dC->aG->Prop)(l:List Oper)(E:dC)(H:aG):Prop :=∀G:Entry,G.H=G0->∀a w,St G N E H a w->∀Q:Exit->Act->World->Prop,(∀E H a' w',K E H->St G N E H a' w'->a'.defers=a.defers->Q .normal a' w')->wpListIn (RF none) 0 P ops Q l a w
theorem FB{ops}{K}(h:K E H):Qp P G0 N ops K [] E H:=fun _ _ a w b _ c=>c _ _ a w h b rfl
theorem St.opN{G}{a}{w}{o}{R}(d:St G N E H a w)(hd:iX N o.dst=true)(h:dp P N o E H R){K}{Q}
  (l:∀r H' a' w',R r H'->St G N (mQ E o.dst r) H' a' w'->a'.defers=a.defers->K a' w'):o.wpIn (RF none) 0 P a w K Q:=by
 refine Oper.wpW_in (.inl rfl) ?_;obtain ⟨I,ι,g,e,j⟩:=d.rel;refine h a w I _ trivial d.size g j K Q ?_;intro c w' m f r H' n k i b;refine l r _ _ _ n ⟨?_,?_,m,f,i,e.trans b,kS.put g b j k (by rw[d.size];exact hd)⟩ (lJ _ _ _)
 ·rw[lJ];exact d.defers.step g b
 have:=d.size;cases o.dst<;>simpa[Act.put]using this
theorem Qm{ops}{K}{o}{rest}{R}(m:o.guard=none)(hd:iX N o.dst=true)(h:dp P N o E H R)(k:∀r H',R r H'->Qp P G0 N ops K rest (mQ E o.dst r) H'):Qp P G0 N ops K (o::rest) E H:=by intro G j a w l Q i;refine wpListIn_plain m fun K' n=>?_;exact l.opN hd h fun r H' a' w' g f e=>n _ _ (k r _ g G j _ _ f Q fun E H a'' w'' d c b=>i E H _ _ d c (b.trans e))
theorem MF{ops}{K}{o}{rest}{v}{H2}(a:o.guard=none)(hd:o.dst=some d)(c:Nat.blt d N=true)(h:cK P N o E H v H2)(e:Qp P G0 N ops K rest ((d,v)::E) H2):Qp P G0 N ops K (o::rest) E H :=Qm a (by rw[hd];exact c) h fun r H' ⟨b,f⟩=>by subst b f;rw[hd];exact e
theorem Gm{ops}{K}{o}{rest}{v}{H2}(d:o.guard=none)(hd:o.dst=none)(h:cK P N o E H v H2)(a:Qp P G0 N ops K rest E H2):Qp P G0 N ops K (o::rest) E H :=Qm d (by rw[hd];rfl) h fun r H' ⟨c,b⟩=>by subst c b;rw[hd];exact a
theorem rD{id}{ops}(h:Qp P G0 N ops (fun E H=>Q .normal E H) ops.toList E H):SL P G0 N (.region id ops false) Q E H:=fun G c a w d =>
 wpIn_region_list (h G c a w d _ fun E H a' w' q s b=>⟨⟨E,H,q,s⟩,b⟩)
theorem JA{x y}(h:SL P G0 N x (xV (SL P G0 N y Q) Q) E H):SL P G0 N (.seq x y) Q E H:=by intro G c a w g;refine wpIn_seq (wpIn_mono (h G c a w g) ?_);rintro e a' w' ⟨⟨f,d,q,s⟩,b⟩;cases e<;>first|exact wpIn_mono (q G c _ _ s) (fun e a w ⟨i,j⟩=>⟨i,j.trans b⟩)|exact⟨⟨f,d,q,s⟩,b⟩
theorem QZ{id}{c}(h:SL P G0 N c (JI id Q) E H):SL P G0 N (.block id c) Q E H:=by
 intro G f a w i;refine wpIn_block (wpIn_mono (h G f a w i) ?_);rintro e a' w' ⟨⟨g,d,q,s⟩,j⟩;cases e<;>try exact⟨⟨g,d,q,s⟩,j⟩
 simp only[JI]at q;simp[Exit.inBlock]
 split
 ·rename_i b;subst b;rw[pQ]at q;grind
 rename_i b;rw[kV b]at q;grind
theorem K7{c}{x y}{b}(j:aO E c=some (.pv (.bool b)))(g:b=true->SL P G0 N x Q E H)(k:b=false->SL P G0 N y Q E H):SL P G0 N (.cond c x y) Q E H:=by intro G f a w d;obtain ⟨I,ι,hr,hst,h⟩:=d.rel;have i:=(aI h j).bool_inv;exact wpIn_cond_split i (fun e=>g e G f a w d) (fun e=>k e G f a w d)
end
section
variable{P:Program}{fn:Func}{H:aG}{N:Nat}{F:FuncId}{args:List AV}{K:aG->Prop}
def aBw(H:aG)(K:aG->Prop)(e:Exit)(E':dC)(H':aG):Prop:=(e=.normal\/e=.ret)/\∃H2,Fin H H' (.tup []) H2 (.tup [])/\K H2
theorem JF{id:Nat}{o:Oper}{ops:Array Oper}{M:Code}{T:Array TypeId}{u:FrameMode}{x:PV}{vx:Value}(hf:P.funcs[F]?=some fn)(hb:fn.body=some (.seq (.region id ops false) M))(hN:fn.ntmps=N)(hlen:args.length<=N)(hr0:fn.results=#[])
  (z:ops=#[o]) (hg:o.guard=none) (hd:o.dst=some d) (W:Nat.blt d N=true) (ho:o.op=.call {callee:=.builtin .recover,args:=#[],argTypes:=T})
  (hx:∀(w:World) (I:Nat->Prop),PRep w I vx x) (S:(u=.returning/\vx=.nilIface)\/(∃t,u=.panicking (ms t)/\vx=.iface t (.agg #[])))
  (h:SL P H N M (aBw H K) ((d,.pv x)::nK args) H):XZ P F args H u K:=by
 intro I r w k hr hl hv;refine callsDIn_of_wpSIn hf hb trivial ?_;intro b p c;refine wpSIn_seq (wpSIn_region ?_);subst z;have f:St ⟨I,r,H,w,[]⟩ N (nK args) H {tmps:=k++Array.replicate (fn.ntmps - k.size) undef,defers:=[]} w:=by
  refine⟨sY.nil _ _ _,?_,I,r,hr,Step.refl _ _ _ _,fun t a ht=>?_⟩
  ·grind
  have J:=vZ ht;have L:t<k.size:=by grind
  have S:k[t]?=some k[t]:=Array.getElem?_eq_getElem L;exact⟨k[t],by grind,hv t _ a S J⟩
 obtain ⟨a,J⟩:∃a:Act,a={tmps:=k++Array.replicate (fn.ntmps - k.size) undef,defers:=[]}:=⟨_,rfl⟩;rw[<-J]at f |-;have q:a.defers=[]:=by rw[J]
 have D:St ⟨I,r,H,w,[]⟩ N ((d,.pv x)::nK args) H (a.put (some d) vx) w:=by
  obtain ⟨I1,V,G,U,k3⟩:=f.rel;refine⟨by rw[lJ];exact f.defers,?_,I1,V,G,U,?_⟩
  ·have:=f.size
   simpa[Act.put]using this
  exact kS.put (d:=some d) G (Step.refl _ _ _ _) k3 (.pv (hx _ _)) (by rw[f.size];exact W)
 have l:∀s,settle s=.returning->M.wpSIn Fence.wide 0 P (bodyPostS P fn b p fun e s m=>∃v n C i,e=.returned v/\settle s=.returning/\K n/\Rel C i n m/\Step I r H w C i n m) (a.put (some d) vx) ({b with mode:=s}::p) w:=by
  intro s B;refine wpSIn_of_wpIn rfl (wpIn_mono (h ⟨I,r,H,w,[]⟩ rfl _ w D) ?_);rintro e a' m ⟨⟨E',n,⟨he,H2,y,hK⟩,Z⟩,hdf⟩;obtain ⟨I3,Y,G,U,k3⟩:=Z.rel;obtain ⟨I4,R,q1,q2,q3⟩:=y ⟨I,r,H,w,[]⟩ rfl I3 Y m (.tuple #[]) G U (.tup rfl (by simp));have Q:a'.defers=[]:=hdf.trans ((lJ _ _ _).trans q);have A:a'.defers=[]/\∃E,({b with mode:=s}::p:List Frame)={b with mode:=E}::p/\∃v,(results fn a'.tmps).run P m=.ok v m/\∃v0 n C i,Ending.returned v=.returned v0/\settle E=.returning/\K n/\Rel C i n m/\Step I r H w C i n m :=
   ⟨Q,s,rfl,.tuple #[],by simp[results,hr0],.tuple #[],H2,I4,R,rfl,B,hK,q1,q2⟩
  rcases he with rfl|rfl
  ·exact A
  exact A
 have X:(execOp a.eval o).run P w=.ok .recover w:=by
  simp[execOp,ho,resolve,invoke];rfl
 have hw:Region.wanted o (yielded #[o] a.tmps)=true:=by simp[Region.wanted,hg]
 show wpOpsSIn _ _ _ _ _ [0] _ _ _;unfold wpOpsSIn;simp only[List.getElem?_toArray,List.getElem?_cons_zero,hw,if_true,X];refine⟨fun _ _=>trivial,?_⟩;rcases S with⟨rfl,rfl⟩|⟨t,rfl,rfl⟩
 ·have g:recoverD (b::p)=none:=by simp[recoverD,c]
  rw[g];have hc:({b with mode:=.returning}:Frame)=b:=by rw[<-c]
  have:=l .returning rfl;rw[hc]at this;rw[hd];exact this
 have g:recoverD (b::p)=some (.iface t (.agg #[]),{b with mode:=.panicking ({v:=.iface t (.agg #[]),recovered:=true}::[])}::p):=by simp[recoverD,c]
 rw[g];rw[hd];exact l (.panicking ({v:=.iface t (.agg #[]),recovered:=true}::[])) rfl
end
section
variable{P:Program}{N:Nat}{o:Oper}{H:aG}{t t' T:TypeId}{x y:Operand}
theorem gh(e:o.op=.binOp .eql t x (.const .nilIface) t')(d:P.underlying t=some (.interface (P.methodsAt t)))(f:aO E x=some (.pv KG)):cK P N o E H (.pv (.bool true)) H :=.of_run fun a w I ι _ b=>⟨.bool _,by
  have c:=(aI b f).sat_inv;have g:a.eval (.const _)=.nilIface:=rfl;simp[execOp,e,c,g,eqGuard,Sem.run_bind,Sem.run_pure,Result.andThen_ok,run_eql_nil_nil _ _ d,Bool.or_true,Bool.true_or,if_true,Bool.not_true,Bool.false_eq_true,if_false],.pv (.bool _)⟩
theorem gi{ps:List PV}{h:TypeId}(e:o.op=.binOp .eql t x (.const .nilIface) t')(d:P.underlying t=some (.interface (P.methodsAt t)))(f:aO E x=some (.pv (.ifa h ps))):cK P N o E H (.pv (.bool false)) H :=.of_run fun a w I ι _ b=>⟨.bool false,by
  obtain ⟨cs,c,_⟩:=(aI b f).ifa_inv;have g:a.eval (.const .nilIface)=.nilIface:=rfl;simp only[execOp,e,c,g,eqGuard,Sem.run_bind,Sem.run_pure,Result.andThen_ok,binOp,run_equal_held_nil _ _ _ _ d];rfl,.pv (.bool _)⟩
abbrev Ym:PV:=.sat fun v=>∃b,v=.pointer (some ⟨b,0,none⟩)
theorem gk(f:o.op=.alloc T)(c:∀w,(zeroValue T).run P w=.ok (.agg #[]) w):cK P N o E H (.pv Ym) H:=by intro a w I ι _ _ g he K Q e;unfold Oper.wpW execOp;simp[f,Instr.alloc,c,newVar,newRow,Sem.run_bind,run_newObj,Sem.run_pure,Result.andThen_ok];obtain ⟨d,b⟩:=Rel.newImm (w':={w with heap:=w.heap.push _}) g rfl rfl rfl rfl;exact e _ _ _ _ _ _ ⟨rfl,rfl⟩ (.pv (.sat rfl ⟨_,rfl⟩)) d b
theorem gd(k:o.op=.store T x y)(l:aO E x=some (.pv Ym))(n:aO E y=some (.agg []))(j:∀w,(sizeOf T).run P w=.ok 0 w):cK P N o E H (.tup []) H:=by
 intro a w I ι _ _ p g K Q m;obtain ⟨b,i⟩:=(aI g l).sat_inv;have h:=aI g n;generalize f:a.eval y=v2 at h;cases h with
 | @agg vs _ hl h1 hh =>
  have:=Array.eq_empty_of_size_eq_zero (by omega);subst this;have d:(execOp a.eval o).run P w=.ok .skip w:=by
   simp[execOp,k,i,f];simp[Instr.storeAt,Instr.sureAddr,storeVar,j,Value.cells,storeCells]
  unfold Oper.wpW;rw[d];exact m _ w I _ _ _ ⟨rfl,rfl⟩ (.tup rfl (by simp)) p (Step.refl _ _ _ _)
end
theorem cQ.toAny{G0 H H':aG}{E':dC}(S:∀t v,E'.get t=some v->E.get t=some v/\Clo H' v)(u:∀id o',H'.get id=some o'->∃o,H.get id=some o/\lW o o'/\∀r∈o'.rows,∀a∈r,a=.any)(hG:∀id,(G0.get id).isSome=true->(H'.get id).isSome=true):cQ G0 E H E' H':=by
 intro G J N a w K;obtain ⟨I,V,B,s,he⟩:=K.rel;have g:∀ {o o':Ob},lW o o'->o'.rows.length=o.rows.length:=fun h=>by
  have:=congrArg List.length h.2.2.2
  simpa using this
 have O:pz H H':=fun j o' d=>by
  obtain ⟨o,m,f,_⟩:=u j o' d;exact⟨o,m,f.1.symm,f.2.1.symm,f.2.2.1.symm,(g f).symm⟩
 refine⟨K.defers,K.size,I,V,⟨B.imm,fun id o' d=>?_,fun id z o o' b c c' A d=>?_,B.glob⟩,?_,fun t v T=>?_⟩
 ·obtain ⟨o,m,f,Q⟩:=u id o' d;refine(B.obj id o m).keepG f.2.1 f.2.2.1 (g f) (fun y P R hy=>?_) rfl (fun _ _ _ _=>⟨rfl,fun h=>h⟩) (fun i R F=>?_)
  ·have:=Q [.raw y P] (by simp_all) (.raw y P) (by simp);cases this
  have x:i<o.rows.length:=by rw[<-g f];exact(aCj.1 F).1
  refine⟨o.rows[i],aCk x,?_,fun k a a' _ C v _=>?_⟩
  ·have e:=congrArg (fun l:List Nat=>l[i]?) f.2.2.2;simp only[aCz,F,aCk x,Option.map_some,Option.some.injEq]at e;exact e.symm
  rw[Q R (aCp F) a' (aCp C)];exact .any v
 ·obtain ⟨q,m,_⟩:=u id o A;obtain ⟨Y,D,_⟩:=u z o' d;exact B.inj id z q Y b c c' m D
 ·refine {s with own:=fun b ⟨id,o',L,d,M⟩=>?_,objs:=fun id o A=>?_}
  ·obtain ⟨o,m,_⟩:=u id o' d;exact s.own b ⟨id,o,L,m,M⟩
  obtain ⟨o1,W,k2,X⟩:=s.objs id o A;obtain ⟨o',d⟩:=Option.isSome_iff_exists.1 (hG id (by rw[<-J,A];rfl));obtain ⟨o2,m,f,_⟩:=u id o' d;rw[W]at m;cases m;refine⟨o',d,by rw[f.1];exact k2,fun e=>?_⟩;obtain ⟨q1,Z,q3⟩:=X (by rw[<-f.1];exact e);exact⟨q1,by rw[f.2.1];exact Z,fun hz=>by rw[g f];exact q3 hz⟩
 obtain ⟨m,f⟩:=S t v T;obtain ⟨c,M,U⟩:=he t v m;exact⟨c,M,U.alike O f⟩
theorem aBI{P}{c}{H}{x y}{r s:AV}(g:c.results=#[x,y])(f:MV P E H x r)(e:MV P E H y s):
  ∀(a:Act) (w) (I) (ι),Rel I ι H w->kS w I ι H E a->∃v,(results c a.tmps).run P w=.ok v w/\VRel w I ι H v (.tup [r,s]):=fun a w I ι d b=>by
 obtain ⟨v,h1,h2⟩:=f a w I ι d b;obtain ⟨u,h3,h4⟩:=e a w I ι d b;refine⟨.tuple #[v,u],by rw[tU,g];simp_all,.tup rfl ?_⟩
 grind
end
end Go.Abs
namespace Go.Proofs.YtmdicgjnmfolfaaGreatDoor
open Go.Proofs.Tryz
open Go.Abs
abbrev cw(l:List UInt8):Ob:=bx 1 84 [sv (ofL l)]
abbrev mM(l:List UInt8):aG:=[(980,cw l)]
abbrev O1:AV:=.ref 980 0 0 0
abbrev GL:X8:=ms 81
theorem V3(l)(H):∀r∈(cw l).rows,∀a∈r,Clo H a:=by simp
theorem BU(l):eE (mM l):=eE.ofL ⟨V3 l _,trivial⟩
def C9(f:FuncId)(xs:List AV)(K:aG)(l:List UInt8)(o:Option (AV×List UInt8)):Prop :=∀H1:aG,H1.get 980=some (cw l)->Sub K H1->fJ Tryz.prog f xs H1 (fun r H'=>∃p,o=some p/\r=p.1/\H'=mM p.2++H1) (fun ch H'=>o=none/\ch=GL/\∃q,H'=mM q++H1)
theorem C9.of{f:FuncId}{xs:List AV}{K:aG}{l:List UInt8}{o}(y:eE (mM l++K))(hK9:K.get 980=none)(B:∀a∈xs,Clo (mM l++K) a)
  (h:fJ Tryz.prog f xs (mM l++K) (fun r H'=>∃p,o=some p/\r=p.1/\H'=mM p.2++K) (fun i H'=>o=none/\i=GL/\∃q,H'=mM q++K)):C9 f xs K l o:=by
 intro t s w;have g:Sub (mM l++K) t:=fun id n d=>by
  rw[gJ]at d;by_cases e:980=id
  ·subst e;have:(mM l).get 980=some (cw l):=rfl;rw[this]at d;cases d;exact s
  have:(mM l).get id=none:=by simp[aG.get,kV e]
  rw[this]at d;exact w id n d
 have u:∀q id,(aG.get (mM q++K) id).isSome=true->((mM l++K).get id).isSome=true:=fun q id c=>by
  rw[gJ]at c |-;by_cases e:980=id
  ·subst e;rfl
  have s:∀q,(mM q).get id=none:=fun q=>by simp[aG.get,kV e]
  rw[s]at c |-;exact c
 have v:∀(q:List UInt8) (j:Nat),aG.get (mM q++t) j=aG.get ((mM q++K)++t) j:=fun q j=>by
  rw[List.append_assoc,gJ,gJ (mM q)];cases (mM q).get j with
  |some _=>rfl
  |none =>
   simp only;rw[gJ];cases e:K.get j with
   |none=>rfl
   |some n=>exact w j n e
 refine(h.frame g y B (fun r H' ⟨p,_,_,x⟩ id c=>.inl (by subst x;exact u _ id c)) (fun i H' ⟨_,_,q,A⟩ id c=>.inl (by subst A;exact u _ id c))).conv ?_ ?_
 ·rintro r H' ⟨z,⟨p,m,k,rfl⟩,rfl⟩;exact⟨_,v _,p,m,k,rfl⟩
 rintro i H' ⟨z,⟨m,k,q,rfl⟩,rfl⟩;exact⟨_,v _,m,k,q,rfl⟩
theorem C9.yes{f}{xs}{K}{l q}{v}(h:C9 f xs K l (some (v,q))){H1}(b:H1.get 980=some (cw l))(a:Sub K H1):aW Tryz.prog f xs H1 (fun r H'=>r=v/\H'=mM q++H1) :=((h _ b a).mono (fun r H' ⟨p,e1,e2,e3⟩=>by grind) (fun ch H' ⟨e,_⟩=>by cases e)).calls (fun _ _ h=>h)
theorem C9.no{f}{xs}{K}{l}(h:C9 f xs K l none){H1}(d:H1.get 980=some (cw l))(b:Sub K H1):fJ Tryz.prog f xs H1 (fun _ _=>False) (fun a H'=>a=GL/\∃q,H'=mM q++H1) :=(h _ d b).mono (fun r H' ⟨p,c,_⟩=>by cases c) (fun a H' ⟨_,e,g⟩=>⟨e,g⟩)
theorem C9.tot{f}{xs}{K}{l}{o}(h:C9 f xs K l o){v}{q}{d}(hv:(o.getD (d,l))=(v,q)){H1}(c:H1.get 980=some (cw l))(b:Sub K H1):
  fJ Tryz.prog f xs H1 (fun r H'=>r=v/\H'=mM q++H1/\o.isSome=true) (fun a H'=>o=none/\a=GL/\∃q,H'=mM q++H1) :=
 (h _ c b).mono (fun r H' ⟨p,e1,e2,e3⟩=>by simp_all) (fun a H' h=>h)
theorem fN(H):Sub [] H:=fun _ _ h=>by cases h
def IK(l:List UInt8):Option (AV×List UInt8):=(nZ l).map fun p=>(sv p.1,p.2)
def DR(l:List UInt8):Option (AV×List UInt8):=(wG l).map fun p=>(iv p.1,p.2)
theorem zB(l:List UInt8)(hl:l.length<1000000000):C9 47 [O1] [] l (IK l):=by
 refine C9.of (BU l) rfl (by simp;rfl) ?_;have hls:(ofL l).size=l.length:=cM l;have n:=Vj l;have b:=fun H=>Vi (ofL l) H (by omega);rw[Nj]at b;have i:=fun H=>pj (ofL (X5 l)) (by rw[cM];omega) H;have m:(ofL (X6 l)).size=(X6 l).length:=cM _;have d:IJ l=(((!decide ((58:UInt8)∈l)||A7 (ofL (X5 l)))||decide (rF (ofL (X5 l))<0))||decide (((X6 l).length:Int)<rF (ofL (X5 l)))):=rfl;have q:Wg l=(rF (ofL (X5 l))).toNat:=rfl;have D:IK l=if IJ l=true then none else some (sv (ofL ((X6 l).take (Wg l))),(X6 l).drop (Wg l)):=by rw[IK,nZ];all_goals grind
 rw[D];obtain ⟨x,A⟩:∃x,x=ofL (X5 l):=⟨_,rfl⟩;obtain ⟨v,z⟩:∃v,v=rF (ofL (X5 l)):=⟨_,rfl⟩;obtain ⟨e,E⟩:∃e,e=A7 (ofL (X5 l)):=⟨_,rfl⟩;obtain ⟨o,C⟩:∃o,o=decide ((58:UInt8)∈l):=⟨_,rfl⟩;obtain ⟨r,B⟩:∃r,r=X6 l:=⟨_,rfl⟩;simp only[<-z,<-E,<-C,<-B]at b i d q m n |-;simp only[<-A]at b i d;clear A z E C B D;refine fJ.body func47 rfl ntmps47 (aCs rfl) ?_;refine Sz aH<|Sd aC<|Dd vS<|Dd (aV Dw)<|Dd (bD isAgg9)<|Dd (kc call113 (b _))<|Dd aC<|Dd eG<|Dd eG<|Dd eG<|Dd aH<|Dd aH<|Zd aH<|Sd aC<|Dd (kc zQ (i _))<|Dd aC<|Dd eG<|Dd eG<|Dd aH<|Zd aH<|Sq<|Sq ?_;refine aQ (t:=37) (n:=19) (X:=IJ l) ?_ ?_
 ·all_goals refine Dd aC ?_
  all_goals refine Dd iJ<|Dm ?_<;>(refine Sp 24 (fun s=>?_) fun s=>?_)<;>(try(with_reducible contradiction))<;>(first|refine Fo<|Fo ?_|refine On aC<|On (by exact ZS rfl qO rfl) ?_)<;>refine Dd cD<|Dm ?_<;>(refine Sp 28 (fun y=>?_) fun y=>?_)<;>(try(with_reducible contradiction))<;>(first|refine Fo<|Fo ?_|refine On aC<|On cJ ?_)<;>refine Dd cD<|Dm ?_<;>(refine Sp 32 (fun t=>?_) fun t=>?_)<;>(try(with_reducible contradiction))<;>(first|refine Fo<|Fo<|Fo<|Fo ?_|refine On aC<|On aC<|On (gF underlying9)<|On gX ?_)<;>refine Zd cD ?_<;>(exact⟨⟨_,rfl,by grind⟩,rfl,rfl,rfl⟩)
 refine Cn ?_ ?_<;>intro j
 ·have k:IJ l=true:=j;rw[aCe k];refine gG ?_;refine iI rfl rfl rfl (by exact KA (fs:=#[]) (places:=#[]) (v0:=.agg []) (l0:=[]) (aps:=[]) (l:=[]) rfl zI Gu (.inl rfl) rfl (fun w=>by simp) rfl rfl) ?_;refine iI rfl rfl rfl (by exact IB (ps:=[]) rfl (dR zI rfl) rfl) ?_;exact pR rfl rfl (TN rfl rfl) (fun ch H' h=>by obtain ⟨rfl,rfl⟩:=h;exact D9 (H':=mM l) (Fin.wk (by simp) (Hb<|trivial) ⟨rfl,trivial⟩) ⟨rfl,rfl,l,rfl⟩)
 have k:IJ l=false:=j;rw[aCd (by rw[k];decide)];have p:=d.symm.trans k;simp only[aDB,aCn]at p;obtain ⟨u,rfl⟩:∃u:Nat,v=(u:Int):=⟨v.toNat,by omega⟩;rw[aCq]at q;rw[q];have hur:u<=r.length:=by omega
 have F:(ofL r).extract 0 u=ofL (r.take u):=pD (by rw[jS,dD,dD,List.drop_zero,Nat.sub_zero]);have G:(ofL r).extract u (ofL r).size=ofL (r.drop u):=pD (by rw[uL,dD,dD]);refine aA<|Sd aC<|Dd aC<|Dd aC<|Dd (by exact cB (l:=u) (h:=(ofL r).size) rfl underlying9 rfl rfl rfl (by omega) (aCl _) G)<|Dd vS<|Dd (aV Dw)<|Uu (iP sizeOf9)<|Zz<|Sd aC<|Dd aC<|Dd (by exact cB (l:=0) (h:=u) rfl underlying9 rfl rfl rfl (aCw _) (by omega) F)<|Zd aH<|aB ?_;refine K9 ?_;refine dA (H':=(mM (r.drop u))) (.inr rfl) rfl (aJ rfl) (Fin.wk (by(simp;done)) (Hb<|trivial) ⟨rfl,trivial⟩) ?_
 simp_all
theorem Nl{l}(h:58∈l):(X6 l).length<l.length:=by rw[X6,aCu];have:=(List.dropWhile_sublist (l:=l) fun b=>!decide (b=58)).length_le;have:=List.length_pos_of_mem h;omega
theorem kO{l q}{s}(h:nZ l=some (s,q)):s.size+q.length<l.length:=by
 rw[nZ]at h
 split at h
 ·cases h
 next a =>
 simp[IJ,aDB,Bool.not_eq_false',aCn,aCm]at a;have hlt:=Nl a.1.1.1;cases h;rw[cM,aCt,aCu];omega
theorem jO{l q}{x}(h:wG l=some (x,q)):q.length<l.length/\(-9223372036854775808<=x/\x<=9223372036854775807):=by
 rw[wG]at h;cases a:nZ l with
 |none=>simp_all
 |some p =>
  obtain ⟨s,r⟩:=p;rw[a]at h;simp only at h
  split at h
  ·cases h
  cases h;have:=kO a;exact⟨by omega,ve s⟩
theorem nN(l:List UInt8)(u:l.length<1000000000):C9 48 [O1] [] l (DR l):=by
 refine C9.of (BU l) rfl (by simp;rfl) ?_;have c:=zB l u;have b:=fun s q=>kO (l:=l) (s:=s) (q:=q);have g:IK l=(nZ l).map fun p=>(sv p.1,p.2):=rfl;have n:DR l=(match nZ l with
  |none=>none
  |some (s,r)=>if A7 s=true then none else some (iv (rF s),r)):=by
  rw[DR,wG]
  grind
 rw[n];rw[g]at c;obtain ⟨O,m⟩:∃O,O=nZ l:=⟨_,rfl⟩;rw[<-m]at c b |-;clear m g n;refine fJ.body func48 rfl ntmps48 (aCs rfl) ?_;refine Sz aH<|Sq ?_;rcases O with _|⟨s,q⟩
 ·have c:C9 47 [O1] [] l none:=c;refine gG ?_;refine iI rfl rfl rfl (by exact gH rfl rfl) ?_;exact pR rfl rfl (eF rfl rfl mP rfl (c.no rfl (fN _))) (fun t o h=>by obtain ⟨rfl,q,rfl⟩:=h;exact D9 (H':=mM q) (Fin.wk (by simp) (Hb<|trivial) ⟨rfl,trivial⟩) ⟨rfl,rfl,q,rfl⟩)
 have c:C9 47 [O1] [] l (some (sv s,q)):=c;have b:=b s q rfl;have f:=fun H=>pj s (by omega) H;obtain ⟨e,k⟩:∃e,e=A7 s:=⟨_,rfl⟩;obtain ⟨v,j⟩:∃v,v=rF s:=⟨_,rfl⟩;simp only[<-k,<-j]at f |-;clear k j;refine Rd aC<|Dd (kc mP (c.yes rfl (fN _)))<|Dd (kc zQ (f _))<|Dd aC<|Dd eG<|Dd eG<|Dd aH<|Zd aH<|Sq<|Sd aC<|Zd (by exact ZS rfl qO rfl) ?_;refine Cn ?_ ?_<;>intro d
 ·have i:e=true:=d;rw[aCe i];refine gG ?_;refine iI rfl rfl rfl (by exact KA (fs:=#[]) (places:=#[]) (v0:=.agg []) (l0:=[]) (aps:=[]) (l:=[]) rfl zI Gu (.inl rfl) rfl (fun w=>by simp) rfl rfl) ?_;refine iI rfl rfl rfl (by exact IB (ps:=[]) rfl (dR zI rfl) rfl) ?_;exact pR rfl rfl (TN rfl rfl) (fun t o h=>by obtain ⟨rfl,rfl⟩:=h;exact D9 (H':=mM q) (Fin.wk (by simp) (Hb<|trivial) ⟨rfl,trivial⟩) ⟨rfl,rfl,q,rfl⟩)
 have i:e=false:=d;rw[aCd (by simp_all)];refine aA<|Sd aC<|Zd aH<|aB ?_;refine K9 ?_;refine dA (H':=(mM q)) (.inr rfl) rfl (aJ rfl) (Fin.wk (by(simp;done)) (Hb<|trivial) ⟨rfl,trivial⟩) ?_
 simp_all
abbrev Wh:AV:=.bnd 47 [O1]
def ti(l:List UInt8):Option (AV×List UInt8):=(B6 nZ l).map fun p=>(.pv (aU p.1),p.2)
theorem Z5{α:Type}(f){N k}{q b}{A:List α}(hk:A.length=k)(hlt:k<N)(h:FI f N q=(FI f (N - k) b).map fun p=>(A++p.1,p.2)):
  FI f N q=match f b with
   |none=>none
   |some (x,r)=>(FI f (N - (k+1)) r).map fun p=>((A++[x])++p.1,p.2):=by
 rw[h,show N - k=(N - (k+1))+1 by omega,FI]
 grind
theorem Ck{l}(h:wG l=none):ti l=none:=by rw[ti,B6,h];rfl
theorem Cj{l q}{n}(h:wG l=some (n,q)):ti l=(FI nZ n.toNat q).map fun p=>(.pv (aU p.1),p.2):=by rw[ti,B6,h]
theorem WY(l:List UInt8)(D:l.length<1000000000):C9 49 [O1,Wh] [] l (ti l):=by
 refine C9.of (BU l) rfl (by simp;rfl) ?_;have g:=nN l D;have e:=Ck (l:=l);have f:=fun n q=>Cj (l:=l) (n:=n) (q:=q);have i:=fun n q=>jO (l:=l) (x:=n) (q:=q);rw[DR]at g;obtain ⟨O,z⟩:∃O,O=wG l:=⟨_,rfl⟩;rw[<-z]at g e f i;clear z;refine fJ.body func49 rfl ntmps49 (aCs rfl) ?_;refine Sz aH<|Sq ?_;rcases O with _|⟨n,j⟩
 ·rw[e rfl];have w:C9 48 [O1] [] l none:=g;refine gG ?_;refine iI rfl rfl rfl (by exact gH rfl rfl) ?_;exact pR rfl rfl (eF rfl rfl jC rfl (w.no rfl (fN _))) (fun C E h=>by obtain ⟨rfl,q,rfl⟩:=h;exact D9 (H':=mM q) (Fin.wk (by simp) (Hb<|trivial) ⟨rfl,trivial⟩) ⟨rfl,rfl,q,rfl⟩)
 have w:C9 48 [O1] [] l (some (iv n,j)):=g;obtain ⟨hq0,hn0,hn1⟩:=i n j rfl;rw[f n j rfl];refine Rd aC<|Dd (kc jC (w.yes rfl (fN _)))<|Zd aH<|Sz (by exact fF (id:=905) (sz:=1) (ty:=9) rfl rfl rfl)<|Sq<|Sd aC<|Zd aC<|aE ?_;refine fZ (fun(d:List UInt8) (A:List ByteArray)=>([(0,O1),(1,Wh),(6,.osl 905 A.length 0 A.length),(9,iv n),(10,iv (A.length:Int))],(905,⟨A.length,1,9,cH A⟩)::mM d)) (fun d A=>d.length+A.length<l.length/\A.length<=n.toNat/\FI nZ n.toNat j=(FI nZ (n.toNat - A.length) d).map fun p=>(A++p.1,p.2)) (fun d A=>d.length) j [] ⟨by omega,aCw _,by simp⟩ ?_ ?_
 ·exact(cQ.wk (Ea<|Ea<|Ea<|Eb<|Eb<|trivial) (Hc (bQ _ _)<|Hb<|trivial) ⟨rfl,trivial⟩)
 rintro d A ⟨hl',hA,y⟩;have b:=zB d (by omega);have k:=fun s q=>kO (l:=d) (s:=s) (q:=q);have c:=fun h=>Z5 nZ (k:=A.length) rfl h y;rw[IK]at b;obtain ⟨X,B⟩:∃X,X=nZ d:=⟨_,rfl⟩;rw[<-B]at b k c;clear B;refine Sz cJ<|Sq ?_;refine Cn ?_ ?_<;>intro o
 ·have t:A.length<n.toNat:=by have:=aCb o;omega
  have m:=c t;clear c;refine aA<|Sq<|aE ?_;rcases X with _|⟨s,q⟩
  ·have m:FI nZ n.toNat j=none:=m;rw[m];have b:C9 47 [O1] [] d none:=b;refine gG ?_;refine iI rfl rfl rfl (by exact gH rfl rfl) ?_;refine iI rfl rfl rfl (by exact gH rfl rfl) ?_;exact pR rfl rfl (FT rfl rfl mP rfl (b.no rfl (fN _))) (fun C E h=>by obtain ⟨rfl,q,rfl⟩:=h;exact D9 (H':=mM q) (Fin.wk (by simp) (Hb<|trivial) ⟨rfl,trivial⟩) ⟨rfl,rfl,q,rfl⟩)
  have m:FI nZ n.toNat j=(FI nZ (n.toNat - (A.length+1)) q).map fun p=>((A++[s])++p.1,p.2):=m;have b:C9 47 [O1] [] d (some (sv s,q)):=b;have k:=k s q rfl;have u:(A++[s]).length=A.length+1:=by simp_all
  refine Rd aC<|Dd aC<|Dd (by exact C7.opr (FT rfl rfl mP rfl (fJ.of (b.yes rfl (fN _)))))<|Dd (by exact aN [[.str s]] rfl bT rfl rfl rfl rfl rfl (by simp_all))<|Dd (by exact cG (ps:=[[.str s]]) rfl bT zT rfl rfl rfl rfl rfl (fP _) rfl (by simp_all) (m:=1) rfl (by omega) rfl (jZ A s))<|Zd aH<|Rd kp<|Zd aC ?_;refine⟨q,A++[s],⟨by omega,by omega,by simp_all⟩,by omega,?_⟩;dsimp only;rw[u];exact(cQ.wk (Ea<|Ea<|Ea<|Eb<|Eb<|trivial) (Hc (bQ _ _)<|Hb<|trivial) ⟨rfl,trivial⟩)
 have r:n.toNat=A.length:=by have:=aCc o;omega
 have v:FI nZ n.toNat j=some (A,d):=by rw[y,r,Nat.sub_self,FI];simp
 rw[v];refine aS<|Sd aC<|Zd aH<|aB ?_;refine K9 ?_;refine dA (H':=(mM d)) (.inr rfl) rfl (aJ rfl) (Fin.fz (id:=905) (ob:=⟨A.length,1,9,cH A⟩) (r':=.pv (aU A)) (A.map encStr) rfl (eO _) (.osl (kD encStr _)) rfl ⟨⟨_,rfl,rfl⟩,(by(simp;done)),trivial⟩ ⟨rfl,trivial⟩) ?_
 simp_all
theorem WW{α:Type}(f)(P:α->Prop)(b)(c:∀l x q,l.length<=b->f l=some (x,q)->q.length<l.length/\P x):∀(n) (l) (xs) (q),l.length<=b->FI f n l=some (xs,q)->q.length+xs.length<=l.length/\∀x∈xs,P x
 |0,l,xs,q,_,h=>by rw[FI]at h;simp_all
 | n+1,l,xs,q,d,h=>by
  rw[FI]at h;cases a:f l with
  |none=>simp_all
  | some p =>
   obtain ⟨x,r⟩:=p;obtain ⟨h1,h2⟩:=c l x r d a;rw[a]at h;cases e:FI f n r with
   |none=>simp_all
   |some p2 =>
    obtain ⟨k1,k2⟩:=WW f P b c n r _ _ (by omega) e
    grind
theorem yN{l q}{xs}(h:B6 nZ l=some (xs,q)):q.length+xs.length<l.length/\∀x∈xs,x.size<=l.length:=by
 rw[B6]at h;cases b:wG l with
 |none=>simp_all
 |some p =>
  obtain ⟨n,r⟩:=p;rw[b]at h;have h1:=(jO b).1;obtain ⟨k1,c⟩:=WW _ (fun x=>x.size<=r.length) _ (fun l x q hb a=>by have:=kO a;exact⟨by omega,by omega⟩) _ r _ q (aCl _) h;exact⟨by omega,fun x a=>Nat.le_trans (c x a) (by omega)⟩
theorem na{l q}{p}(h:PA l=some (p,q)):q.length<l.length/\(pL p.1/\pL p.2):=by
 rw[PA]at h;cases b:wG l with
 |none=>simp_all
 | some z =>
  obtain ⟨x,r⟩:=z;rw[b]at h;simp at h;cases a:wG r with
  |none=>simp_all
  |some z2 =>
   rw[a]at h;cases h;have d:=jO b;have c:=jO a;exact⟨by omega,d.2,c.2⟩
theorem nj{l q}{xs}(h:B6 PA l=some (xs,q)):q.length+xs.length<l.length/\∀x∈xs,pL x.1/\pL x.2:=by
 rw[B6]at h;cases a:wG l with
 |none=>simp_all
 |some p =>
  obtain ⟨n,r⟩:=p;rw[a]at h;have h1:=(jO a).1;obtain ⟨k1,c⟩:=WW _ _ _ (fun l x q hb b=>na b) _ r _ q (aCl _) h;exact⟨by omega,c⟩
def Jk(l:List UInt8):Option (AV×List UInt8):=(qu l).map fun p=>(av (iM p.1),p.2)
theorem ma(l:List UInt8)(B:l.length<1000000000):C9 51 [O1] [] l (Jk l):=by
 refine C9.of (BU l) rfl (by simp;rfl) ?_;have g:=nN l B;have u:=fun q (A:q.length<1000000000)=>WY q A;have z:Jk l=(match wG l with
  |none=>none
  | some (i,r)=>match B6 nZ r with
   |none=>none
   |some (a,q)=>match B6 nZ q with
    |none=>none
    |some (b,p)=>some (.agg [iv i,.pv (aU a),.pv (aU b)],p)):=by
  rw[Jk,qu];cases wG l with
  |none=>rfl
  | some p =>
   obtain ⟨i,r⟩:=p;simp only;cases B6 nZ r with
   |none=>rfl
   |some p =>
    obtain ⟨a,q⟩:=p;simp only;cases B6 nZ q with
    |none=>rfl
    |some p=>rfl
 rw[z];rw[DR]at g;have j:=fun n q=>jO (l:=l) (x:=n) (q:=q);obtain ⟨O,k⟩:∃O,O=wG l:=⟨_,rfl⟩;rw[<-k]at g j |-;clear k z;refine fJ.body func51 rfl ntmps51 (aCs rfl) ?_;refine Sz (kl 2 X9)<|Sq ?_;rcases O with _|⟨i,s⟩
 ·have t:C9 48 [O1] [] l none:=g;refine gG ?_;refine iI rfl rfl rfl (by exact gH rfl rfl) ?_;exact pR rfl rfl (eF rfl rfl jC rfl (t.no rfl (fN _))) (fun w x h=>by obtain ⟨rfl,q,rfl⟩:=h;exact D9 (H':=mM q) (Fin.wk (by simp) (Hb<|trivial) ⟨rfl,trivial⟩) ⟨rfl,rfl,q,rfl⟩)
 have t:C9 48 [O1] [] l (some (iv i,s)):=g;have h1:=(j i s rfl).1;have d:=u s (by omega);rw[ti]at d;have f:=fun v q=>yN (l:=s) (xs:=v) (q:=q);simp only;obtain ⟨O,k⟩:∃O,O=B6 nZ s:=⟨_,rfl⟩;rw[<-k]at d f |-;clear k;rcases O with _|⟨a,m⟩
 ·have d:C9 49 [O1,Wh] [] s none:=d;refine gG ?_;refine iI rfl rfl rfl (by exact gH rfl rfl) ?_;refine iI rfl rfl rfl (kc jC (t.yes rfl (fN _))) ?_;refine iI rfl rfl rfl (by exact gH rfl rfl) ?_;refine iI rfl rfl rfl (by exact gH rfl rfl) ?_;refine iI rfl rfl rfl (by exact oJ rfl rfl) ?_;exact pR rfl rfl (eF rfl rfl C6 rfl (d.no rfl (fN _))) (fun w x h=>by obtain ⟨rfl,q,rfl⟩:=h;exact D9 (H':=mM q) (Fin.wk (by simp) (Hb<|trivial) ⟨rfl,trivial⟩) ⟨rfl,rfl,q,rfl⟩)
 have d:C9 49 [O1,Wh] [] s (some (.pv (aU a),m)):=d;have h2:=(f a m rfl).1;have e:=u m (by omega);rw[ti]at e;have o:=fun v q=>yN (l:=m) (xs:=v) (q:=q);simp only;obtain ⟨O,k⟩:∃O,O=B6 nZ m:=⟨_,rfl⟩;rw[<-k]at e o |-;clear k;rcases O with _|⟨b,y⟩
 ·have e:C9 49 [O1,Wh] [] m none:=e;refine gG ?_;refine iI rfl rfl rfl (by exact gH rfl rfl) ?_;refine iI rfl rfl rfl (kc jC (t.yes rfl (fN _))) ?_;refine iI rfl rfl rfl (by exact gH rfl rfl) ?_;refine iI rfl rfl rfl (by exact gH rfl rfl) ?_;refine iI rfl rfl rfl (by exact oJ rfl rfl) ?_;refine iI rfl rfl rfl (kc C6 (d.yes rfl (fN _))) ?_;refine iI rfl rfl rfl (by exact gH rfl rfl) ?_;refine iI rfl rfl rfl (by exact gH rfl rfl) ?_;refine iI rfl rfl rfl (by exact oJ rfl rfl) ?_;exact pR rfl rfl (eF rfl rfl C6 rfl (e.no rfl (fN _))) (fun w x h=>by obtain ⟨rfl,q,rfl⟩:=h;exact D9 (H':=mM q) (Fin.wk (by simp) (Hb<|trivial) ⟨rfl,trivial⟩) ⟨rfl,rfl,q,rfl⟩)
 have e:C9 49 [O1,Wh] [] m (some (.pv (aU b),y)):=e;refine Rd aC<|Dd (kc jC (t.yes rfl (fN _)))<|Dd aC<|Dd aC<|Dd (by exact oJ rfl rfl)<|Dd (kc C6 (d.yes rfl (fN _)))<|Dd aC<|Dd aC<|Dd (by exact oJ rfl rfl)<|Dd (kc C6 (e.yes rfl (fN _)))<|Dd (nP Od)<|Uu (iP sizeOf25)<|Zz<|aB ?_;refine K9 ?_;refine dA (H':=(mM y)) (.inr rfl) rfl (eU rfl dK sizeOf25 rfl rfl rfl (by simp only[Zl,encStr];rfl) rfl) (Fin.wk (by simp[RH]) (Hb<|trivial) ⟨rfl,trivial⟩) ?_;exact⟨_,rfl,rfl,rfl⟩
abbrev inO:Ob:=bx 1 82 [O1]
abbrev Dg:aG:=[(4,inO)]
theorem oe{H}(h:(H.get 980).isSome=true):∀r∈inO.rows,∀a∈r,Clo H a:=by simp_all
theorem P4(l):eE (mM l++Dg):=eE.ofL ⟨V3 l _,oe rfl,trivial⟩
def Ko(l:List UInt8):Option (AV×List UInt8):=(PA l).map fun p=>(av (fQ p.1),p.2)
theorem As(l:List UInt8)(N:l.length<1000000000):C9 53 [.ref 4 0 0 0] Dg l (Ko l):=by
 refine C9.of (P4 l) rfl (by simp;rfl) ?_;have D:=nN l N;have u:=fun q (M:q.length<1000000000)=>nN q M;have hlen:=fun n q=>jO (l:=l) (x:=n) (q:=q);have K:Ko l=(match wG l with
  |none=>none
  |some (x,r)=>match wG r with
   |none=>none
   |some (y,q)=>some (.agg [iv x,iv y],q)):=by
  rw[Ko,PA];cases wG l with
  |none=>rfl
  |some p =>
   obtain ⟨i,r⟩:=p;simp only;cases wG r with
   |none=>rfl
   |some p=>rfl
 obtain ⟨x,c,H⟩:∃x c,(wG l).getD (0,l)=(x,c):=⟨_,_,rfl⟩;obtain ⟨y,m,I⟩:∃y m,(wG c).getD (0,c)=(y,m):=⟨_,_,rfl⟩;have hq1:c.length<=l.length:=by
  grind
 have A:(DR l).getD (iv 0,l)=(iv x,c):=by
  rw[DR]
  grind
 have w:(DR c).getD (iv 0,c)=(iv y,m):=by
  rw[DR]
  grind
 have s:DR l=none->Ko l=none:=fun e=>by
  grind
 have o:(DR l).isSome=true->DR c=none->Ko l=none:=fun e g=>by
  rw[DR,Option.map_eq_none_iff]at g
  grind
 have z:(DR l).isSome=true->(DR c).isSome=true->Ko l=some (.agg [iv x,iv y],m):=fun e g=>by
  cases k:wG l with
  |none=>rw[DR,k]at e;cases e
  |some p =>
   rw[k]at H;cases H;rw[K,k];simp only;cases F:wG c with
   |none=>rw[DR,F]at g;cases g
   |some p=>rw[F]at I;cases I;rfl
 have C:DR c=none->Ko l=none:=fun e=>by
  cases h:DR l with
  |none=>exact s h
  |some p=>exact o (by rw[h];rfl) e
 clear K o;refine fJ.body func53 rfl ntmps53 (aCs rfl) ?_;refine Sz (kl 1 Qt)<|Sq ?_;refine xQ (fun v j G=>Ko l=none/\v=GL/\∃q,G=mM q++j) [] [] [4] rfl follows (fun v E1 j G hts hsh B ⟨e,g,q,k⟩=>by subst k;have J:aG.get (mM q++j) 4=some inO:=(B 4 (aCi.2 rfl)).trans rfl;exact D9 (H':=mM q++Dg) (Fin.wk (by simp) ⟨⟨_,rfl,rfl⟩,V3 _ _,⟨_,J,rfl⟩,oe rfl,trivial⟩ ⟨rfl,J.symm,trivial⟩) ⟨e,g,q,rfl⟩) ?_;refine Pr [4] (fun _ h=>lh eD h) ?_;refine uN (r:=⟨_,some [980],mM c⟩) (.pan rfl (fun j f=>by exact eF rfl rfl jC rfl ((D.tot A ((f 980 rfl).trans rfl) (fN _)).mono (fun _ _ h=>h) (fun v L ⟨e,g,k⟩=>⟨s e,g,k⟩)))) rfl ?_;refine Pr [4] (fun _ h=>lh eD h) ?_;refine uN (r:=⟨_,some [980],mM m⟩) (.pan rfl (fun j f=>by exact eF rfl rfl jC rfl (((u c (by omega)).tot w ((f 980 rfl).trans rfl) (fN _)).mono (fun _ _ h=>h) (fun v L ⟨e,g,k⟩=>⟨C e,g,k⟩)))) rfl ?_;refine Pr [] (fun j f=>by exact MZ rfl SK rfl rfl)<|Pw [1] (fun _ h=>sa sizeOf68 h) ?_;refine I6 ⟨⟨by kernel_rfl,by kernel_rfl,by kernel_rfl⟩,fun E=>?_⟩;simp only[XY,true_and,and_true]at E;refine aB ?_;refine K9 ?_;refine dA (H':=(mM m++Dg)) (.inr rfl) rfl (eU rfl dO sizeOf68 rfl rfl rfl (by simp only[Zl,encStr];rfl) rfl) (Fin.wk (by simp[RH]) (Hb<|Ha<|trivial) ⟨rfl,rfl,trivial⟩) ?_;exact⟨_,z E.1 E.2,rfl,rfl⟩
abbrev ptB:AV:=.clo 53 [.ref 4 0 0 0]
def uS(A:List (Int×Int)):List (List AV):=(A.map fQ).map (·.map AV.pv)
theorem O8(A):(uS A).length=A.length:=by simp[uS]
theorem O9(A)(p):uS A++[(fQ p).map AV.pv]=uS (A++[p]):=by rw[uS,uS,List.map_append,List.map_append];rfl
theorem BX(A)(H):∀r∈uS A,∀a∈r,Clo H a:=pf _ _ _
def Z7(l:List UInt8):Option (AV×List UInt8):=(B6 PA l).map fun p=>(.pv (vE p.1),p.2)
theorem th{l}(h:wG l=none):Z7 l=none:=by rw[Z7,B6,h];rfl
theorem tg{l q}{n}(h:wG l=some (n,q)):Z7 l=(FI PA n.toNat q).map fun p=>(.pv (vE p.1),p.2):=by rw[Z7,B6,h]
theorem Md(l:List UInt8)(F:l.length<1000000000):C9 52 [O1,ptB] Dg l (Z7 l):=by
 refine C9.of (P4 l) rfl (by simp;exact⟨rfl,rfl⟩) ?_;have g:=nN l F;have e:=th (l:=l);have f:=fun n q=>tg (l:=l) (n:=n) (q:=q);have i:=fun n q=>jO (l:=l) (x:=n) (q:=q);rw[DR]at g;obtain ⟨O,C⟩:∃O,O=wG l:=⟨_,rfl⟩;rw[<-C]at g e f i;clear C;refine fJ.body func52 rfl ntmps52 (aCs rfl) ?_;refine Sz aH<|Sq ?_;rcases O with _|⟨n,j⟩
 ·rw[e rfl];have y:C9 48 [O1] [] l none:=g;refine gG ?_;refine iI rfl rfl rfl (by exact gH rfl rfl) ?_;exact pR rfl rfl (eF rfl rfl jC rfl (y.no rfl (fN _))) (fun E G h=>by obtain ⟨rfl,q,rfl⟩:=h;exact D9 (H':=mM q++Dg) (Fin.wk (by simp) (Hb<|Ha<|trivial) ⟨rfl,rfl,trivial⟩) ⟨rfl,rfl,q,rfl⟩)
 have y:C9 48 [O1] [] l (some (iv n,j)):=g;obtain ⟨hq0,hn0,hn1⟩:=i n j rfl;rw[f n j rfl];refine Rd aC<|Dd (kc jC (y.yes rfl (fN _)))<|Zd aH<|Sz (by exact fF (id:=905) (sz:=2) (ty:=68) rfl rfl rfl)<|Sq<|Sd aC<|Zd aC<|aE ?_;refine fZ (fun(d:List UInt8) (A:List (Int×Int))=>([(0,O1),(1,ptB),(6,.osl 905 A.length 0 A.length),(9,iv n),(10,iv (A.length:Int))],(905,⟨A.length,2,68,uS A⟩)::(mM d++Dg))) (fun d A=>d.length+A.length<l.length/\A.length<=n.toNat/\FI PA n.toNat j=(FI PA (n.toNat - A.length) d).map fun p=>(A++p.1,p.2)) (fun d A=>d.length) j [] ⟨by omega,aCw _,by simp⟩ ?_ ?_
 ·exact(cQ.wk (Ea<|Ea<|Ea<|Eb<|Eb<|trivial) (Hc (BX _ _)<|Hb<|Ha<|trivial) ⟨rfl,rfl,trivial⟩)
 rintro d A ⟨hl',hA,D⟩;have b:=As d (by omega);have k:=fun s q=>na (l:=d) (p:=s) (q:=q);have c:=fun h=>Z5 PA (k:=A.length) rfl h D;rw[Ko]at b;obtain ⟨X,B⟩:∃X,X=PA d:=⟨_,rfl⟩;rw[<-B]at b k c;clear B;refine Sz cJ<|Sq ?_;refine Cn ?_ ?_<;>intro m
 ·have x:A.length<n.toNat:=by have:=aCb m;omega
  have o:=c x;clear c;refine aA<|Sq<|aE ?_;rcases X with _|⟨s,q⟩
  ·have o:FI PA n.toNat j=none:=o;rw[o];have b:C9 53 [.ref 4 0 0 0] Dg d none:=b;refine gG ?_;refine iI rfl rfl rfl (by exact gH rfl rfl) ?_;refine iI rfl rfl rfl (by exact gH rfl rfl) ?_;exact pR rfl rfl (FS rfl rfl call53 rfl (b.no rfl (RT.sub ⟨rfl,trivial⟩))) (fun E G h=>by obtain ⟨rfl,q,rfl⟩:=h;exact D9 (H':=mM q++Dg) (Fin.wk (by simp) (Hb<|Ha<|trivial) ⟨rfl,rfl,trivial⟩) ⟨rfl,rfl,q,rfl⟩)
  have o:FI PA n.toNat j=(FI PA (n.toNat - (A.length+1)) q).map fun p=>((A++[s])++p.1,p.2):=o;have b:C9 53 [.ref 4 0 0 0] Dg d (some (av (fQ s),q)):=b;have k:=k s q rfl;have z:(A++[s]).length=A.length+1:=by simp_all
  refine Rd aC<|Dd aC<|Dd (by exact C7.opr (FS rfl rfl call53 rfl (fJ.of (b.yes rfl (RT.sub ⟨rfl,trivial⟩)))))<|Dd (by exact aN [fQ s] rfl JW rfl rfl rfl rfl rfl (by intro r t;rw[aCi]at t;subst t;rfl))<|Dd (by exact cG (ps:=[fQ s]) rfl JW aAS rfl rfl rfl rfl rfl (O8 _) rfl (by intro r t;rw[aCi]at t;subst t;rfl) (m:=1) rfl (by omega) rfl (O9 A s))<|Zd aH<|Rd kp<|Zd aC ?_;refine⟨q,A++[s],⟨by omega,by omega,by simp_all⟩,by omega,?_⟩;dsimp only;rw[z];exact(cQ.wk (Ea<|Ea<|Ea<|Eb<|Eb<|trivial) (Hc (BX _ _)<|Hb<|Ha<|trivial) ⟨rfl,rfl,trivial⟩)
 have w:n.toNat=A.length:=by have:=aCc m;omega
 have u:FI PA n.toNat j=some (A,d):=by rw[D,w,Nat.sub_self,FI];simp
 rw[u];refine aS<|Sd aC<|Zd aH<|aB ?_;refine K9 ?_;refine dA (H':=(mM d++Dg)) (.inr rfl) rfl (aJ rfl) (Fin.fz (id:=905) (ob:=⟨A.length,2,68,uS A⟩) (r':=.pv (vE A)) (A.map fQ) rfl rfl (.osl (kD fQ _)) rfl ⟨⟨_,rfl,rfl⟩,(by(simp;done)),⟨_,rfl,rfl⟩,(by(simp;rfl)),trivial⟩ ⟨rfl,rfl,trivial⟩) ?_
 simp_all
def HP(h i:Int):Bool:=((decide (h<0)||decide (8<h))||decide (i<0))||decide (((2 ^ h.toNat:Nat):Int)<=i)
def zS:GSeal:=⟨0,[],[]⟩
def EO(s:ByteArray)(h i:Int)(m:ByteArray):GSeal×Int:=if HP h i=true then(zS,1)else(⟨i,MJ s i.toNat m,pH h.toNat (oL s h.toNat) i.toNat⟩,0)
theorem qw(s m:ByteArray)(h i:Int)(H:aG)(j:HP h i=true):RC 32 [sv s,iv h,iv i,sv m] (.tup [av (iM zS),iv 1]) H:=by
 refine Pu ?_;have e:decide (h<0)=false->decide (8<h)=false->IntKind.i64.wrap (1*2 ^ h.toNat)=((2 ^ h.toNat:Nat):Int):=fun g f=>by
  have g:=aCc g;have f:=aCc f;obtain ⟨n,rfl⟩:∃n:Nat,h=(n:Int):=⟨h.toNat,by omega⟩;rw[aCq];have:=Jn (h:=n) (by omega)
  rwa [aCq]at this
 have hbe:HP h i=(((decide (h<0)||decide (8<h))||decide (i<0))||decide (((2 ^ h.toNat:Nat):Int)<=i)):=rfl;refine Bd func32 rfl ntmps32<|Sd (kb 4)<|Dd (kb 6)<|Dd (kl 8 X9)<|Zd aH<|Sq<|Sq ?_;refine kH (t:=30) (n:=16) (X:=HP h i) ?_ ?_
 ·cases b:(decide (h<0):Bool)
  ·cases c:(decide (8<h):Bool)
   ·cases hg25:(decide (i<0):Bool)
    ·refine aL follows<|Cq aC<|Cq cJ<|Cq aC<|Nf aC<|Nf gX<|Cq nT<|Cq aC<|Nf (bD isAgg3)<|Nf cJ<|Cq nT<|Cq aC<|Nf (bD isAgg3)<|Nf aC<|Nf (by exact H9 rfl rfl rfl (by have:=aCc b;omega) (by have:=aCc c;simp[IntKind.bits];omega) (e b c))<|Nf CX<|Cq nT<|bF<|Kr ?_;exact⟨rfl,⟨_,rfl,by simp_all⟩,rfl,rfl,rfl⟩
    refine aL follows<|Cq aC<|Cq cJ<|Cq aC<|Nf aC<|Nf gX<|Cq nT<|Cq aC<|Nf (bD isAgg3)<|Nf cJ<|Cq nT<|Cq aC<|Of<|Of<|Of<|Of<|Cq xX<|bF<|Kr ?_;exact⟨rfl,⟨_,rfl,by simp_all⟩,rfl,rfl,rfl⟩
   refine aL follows<|Cq aC<|Cq cJ<|Cq aC<|Nf aC<|Nf gX<|Cq nT<|Cq aC<|Of<|Of<|Cq xX<|Cq aC<|Of<|Of<|Of<|Of<|Cq cD<|bF<|Kr ?_;exact⟨rfl,⟨_,rfl,by simp_all⟩,rfl,rfl,rfl⟩
  refine aL follows<|Cq aC<|Cq cJ<|Cq aC<|Of<|Of<|Cq xX<|Cq aC<|Of<|Of<|Cq cD<|Cq aC<|Of<|Of<|Of<|Of<|Cq cD<|bF<|Kr ?_;exact⟨rfl,⟨_,rfl,by simp_all⟩,rfl,rfl,rfl⟩
 refine Cn ?_ ?_<;>intro d
 ·refine Sd (nP Od)<|Uu (iP sizeOf25)<|Zd aH<|aB ?_;refine iN (H':=[]) (.inr rfl) rfl (eU rfl dK sizeOf25 rfl rfl rfl (by simp only[Zl,encStr];rfl) rfl) (aJ rfl) (Fin.wk (by simp[iM]) trivial trivial) ?_;exact Qq
 rw[j]at d;cases d
theorem S3(s m)(h i)(H)(c:s.size<1099511627776)(b:m.size<1099511627776):RC 32 [sv s,iv h,iv i,sv m] (.tup [av (iM (EO s h i m).1),iv (EO s h i m).2]) H:=by
 rw[EO];by_cases a:HP h i=true
 ·rw[aCe a];exact qw s m h i H a
 rw[aCd a];have a:HP h i=false:=by simp_all
 simp only[HP,aDB,aCn]at a;obtain ⟨⟨⟨h1,h2⟩,h3⟩,d⟩:=a;obtain ⟨n,rfl⟩:∃n:Nat,h=n:=⟨h.toNat,by omega⟩;obtain ⟨k,rfl⟩:∃k:Nat,i=k:=⟨i.toNat,by omega⟩;rw[aCq]at d |-;exact Jl s m n k H c b (by omega) (by omega)
theorem wT{s m}{h i}(a:(EO s h i m).2=0):FSeal (EO s h i m).1/\(EO s h i m).1=⟨i,MJ s i.toNat m,pH h.toNat (oL s h.toNat) i.toNat⟩/\(0<=h/\h<=8)/\0<=i/\i<2 ^ h.toNat:=by
 rw[EO]at a |-
 split at a
 ·cases a
 next c =>
 rw[aCd c];have c:HP h i=false:=by simp_all
 simp only[HP,aDB,aCn]at c;have d:i<2 ^ h.toNat:=by
  simp_all
 have b:i.toNat<2 ^ h.toNat:=by omega
 have h8:2 ^ h.toNat<=256:=tW (by omega);exact⟨⟨by simp_all,by grind,by rw[YS];omega,by rw[J7];omega,YT _ _ _,J8 _ _ _ (AR _ _) b (E5 _ _)⟩,rfl,⟨by omega,by omega⟩,by omega,d⟩
def zR:GRec:=⟨0,0,0,0,sNil,[],[],sNil,false,0,sNil,zS,⟨sNil,sNil,[],[],zS⟩⟩
def GM(r:GRec):GRec:={r with sl:=zS,priv:={r.priv with sl:=zS}}
def CU(r:GRec):GRec×Int:=if(lA r).2≠0 then(zR,(lA r).2)else(r,0)
def Lw(r:GRec)(a:GSeal):GRec:={r with sl:=a,priv:={r.priv with sl:=zS}}
def df(r:GRec)(a b:GSeal):GRec:={r with sl:=a,priv:={r.priv with sl:=b}}
def LV(r:GRec)(s:ByteArray)(h:Int):GRec×Int :=if eJ (GM r)=false then(zR,1)
 else if(EO s h (2*r.number - 2) (sW (GM r))).2≠0 then(zR,(EO s h (2*r.number - 2) (sW (GM r))).2)
 else if gL r.priv=true then CU (Lw r (EO s h (2*r.number - 2) (sW (GM r))).1)
 else if(EO s h (2*r.number - 1) (rJ (GM r))).2≠0 then(zR,(EO s h (2*r.number - 1) (rJ (GM r))).2)
 else CU (df r (EO s h (2*r.number - 2) (sW (GM r))).1 (EO s h (2*r.number - 1) (rJ (GM r))).1)
theorem hV{s}(h:FSeal s):tH s:=by have i0:=h.i0;have i1:=h.i1;have l1:=h.sl;have l2:=h.pl;exact⟨⟨by omega,by omega⟩,⟨by omega,fun t a=>by have:=vY (h.sa t a);omega⟩,⟨by omega,fun t a=>by have:=vY (h.pa t a);omega⟩⟩
theorem Hw:tH zS:=hV (gO (by decide))
theorem gm{r}{a b}(h:gE r)(g:tH a)(l:tH b):gE (df r a b):=by obtain ⟨k,j,d,i,_,m,f,e,c,_⟩:=h;exact⟨k,j,d,i,g,m,f,e,c,l⟩
theorem Cc(r:GRec)(s:ByteArray)(h:Int)(U:gE r)(F:r.parents.length<549755813888)(Z:s.size<1099511627776)(H:aG):RC 23 [av (cC r),sv s,iv h] (.tup [av (cC (LV r s h).1),iv (LV r s h).2]) H:=by
 refine aW.pure ?_ (by simp_all) H;have g:gE (GM r):=gm U Hw Hw;have hv:=fun H=>HI (GM r) g F H;have hid:=fun H=>UB (GM r) g F H;have j:=fun H=>ou (Lw r zS).priv g.2.2.2.2.2 H;rw[LV];refine Bd func23 rfl ntmps23<|Sd (kb 3)<|Dd (kl 6 HC)<|Zd aH<|Sd (nP Od)<|Dd (nP Od)<|Dd (aV jR)<|Uu (by exact mT rfl sizeOf25 rfl rfl rfl rfl rfl rfl rfl (aCs rfl) rfl rfl)<|Dd (aV dV)<|Dd (aV lN)<|Uu (by exact mT rfl sizeOf25 rfl rfl rfl rfl rfl rfl rfl (aCs rfl) rfl rfl)<|Zz<|Sq<|Sd (kY aX aK)<|Dd (kc XX (hv _))<|Zd iJ ?_;refine Cn ?_ ?_<;>intro q
 ·have I:=not_not q;rw[aCe I];refine Sd (nP QV)<|Uu (iP aK)<|Zd aH<|aB ?_;refine iN (H':=[]) (.inr rfl) rfl (eU rfl aX aK rfl rfl rfl (by simp only[Zl,encStr];rfl) rfl) (aJ rfl) (Fin.wk (by simp[cC]) trivial trivial) ?_;exact Qq
 have I:=nU q;rw[aCd (by simp_all)];have hf:=lY I;have L:=hf.nu;have M:(GM r).number=r.number:=rfl;rw[M]at L;have n:=fun H=>T1 (GM r) g F I H;have R:(rJ (GM r)).size=16:=gP _;have N:=IS (GM r);obtain ⟨C,K⟩:∃C,C=sW (GM r):=⟨_,rfl⟩;obtain ⟨t,J⟩:∃t,t=rJ (GM r):=⟨_,rfl⟩;rw[<-K]at hid N |-;rw[<-J]at n R |-;have z:=fun H=>S3 s C h (2*r.number - 2) H Z (by omega);have D:=fun H=>S3 s t h (2*r.number - 1) H Z (by omega);have f:=wT (s:=s) (m:=C) (h:=h) (i:=2*r.number - 2);have w:=wT (s:=s) (m:=t) (h:=h) (i:=2*r.number - 1);obtain ⟨A,V⟩:∃A,A=EO s h (2*r.number - 2) C:=⟨_,rfl⟩;obtain ⟨B,Y⟩:∃B,B=EO s h (2*r.number - 1) t:=⟨_,rfl⟩;rw[<-V]at z f |-;rw[<-Y]at D w |-;clear V Y;refine aA<|Sq<|aL follows<|Cq (kY aX aK)<|Cq (kc JQ (hid _))<|Cq (kY aX aK)<|Cq (kc call82 (n _))<|Cq aH<|Cq aH<|bF<|Kr<|Sz aH<|Sq<|Sd aC<|Dd aC<|Dd (aV mE)<|Dd (bD isAgg3)<|Dd (by exact iY rfl rfl rfl (lI (by omega) (by omega)))<|Dd (by exact dB rfl rfl rfl (lI (by omega) (by omega)))<|Dd aC<|Dd (kc call32 (z _))<|Dd aC<|Dd eG<|Dd eG<|Dd (aV jR)<|Uu (by exact mT rfl sizeOf25 rfl rfl rfl rfl rfl rfl rfl (aCs rfl) rfl rfl)<|Zd aH<|Sd aC<|Zd rI ?_;refine Cn ?_ ?_<;>intro y
 ·have d:A.2≠0:=by have:=y;intro e;simp_all
  rw[aCe d];refine Sd (nP QV)<|Dd aC<|Uu (iP aK)<|Zd aH<|aB ?_;refine iN (H':=[]) (.inr rfl) rfl (eU rfl aX aK rfl rfl rfl (by simp only[Zl,encStr];rfl) rfl) (aJ rfl) (Fin.wk (by simp[cC]) trivial trivial) ?_;exact Qq
 have c:A.2=0:=by have:=y;by_cases e:A.2=0;exact e;rw[decide_eq_false e]at this;cases this
 rw[aCd (by omega)];have f:=(f c).1;obtain ⟨X,Q⟩:∃X,X=(if gL r.priv=true then CU (Lw r A.1)else if B.2≠0 then(zR,B.2)else CU (df r A.1 B.1)):=⟨_,rfl⟩;rw[<-Q];have v:gL r.priv=true->X=CU (df r A.1 zS):=fun e=>by rw[Q,aCe e];rfl
 have i:gL r.priv=false->B.2≠0->X=(zR,B.2):=fun e e2=>by simp_all
 have u:gL r.priv=false->B.2=0->X=CU (df r A.1 B.1):=fun e e2=>by simp_all
 have P:gL (Lw r zS).priv=gL r.priv:=rfl;rw[P]at j;clear Q;obtain ⟨W,l⟩:∃W,W=gL r.priv:=⟨_,rfl⟩;rw[<-l]at j v i u;refine aA ?_;refine eV (fun(b:GSeal)=>([(3,.ref 3 0 0 0),(6,.ref 6 0 0 0)],[(6,bx 21 30 ((cC zR).map .pv)),(3,bx 21 30 ((cC (df r A.1 b)).map .pv))])) (fun b=>tH b/\X=CU (df r A.1 b)) ?_ ?_
 ·refine Sd (aV dV)<|Dd (kY iO sizeOf28)<|Dd (kc XS (j _))<|Zd iJ ?_;refine Cn ?_ ?_<;>intro p
  ·have G:=not_not p;refine Sd aC<|Dd aC<|Dd (aV mE)<|Dd (bD isAgg3)<|Dd (by exact iY rfl rfl rfl (lI (by omega) (by omega)))<|Dd (by exact dB rfl rfl rfl (lI (by omega) (by omega)))<|Dd aC<|Dd (kc call32 (D _))<|Dd aC<|Dd eG<|Dd eG<|Dd (aV dV)<|Dd (aV lN)<|Uu (by exact mT rfl sizeOf25 rfl rfl rfl rfl rfl rfl rfl (aCs rfl) rfl rfl)<|Zd aH<|Sd aC<|Zd rI ?_;refine Cn ?_ ?_<;>intro E
   ·have d:B.2≠0:=by have:=E;intro e;rw[e]at this;exact absurd this (by decide)
    rw[i G d];refine Sd (nP QV)<|Dd aC<|Uu (iP aK)<|Zd aH<|aB ?_;refine iN (H':=[]) (.inr rfl) rfl (eU rfl aX aK rfl rfl rfl (by simp only[Zl,encStr];rfl) rfl) (aJ rfl) (Fin.wk (by simp[cC]) trivial trivial) ?_;exact Qq
   have c:B.2=0:=by have:=E;by_cases e:B.2=0;exact e;rw[decide_eq_false e]at this;cases this
   refine aA ?_;exact⟨B.1,⟨hV (w c).1,u G c⟩,Wk⟩
  have G:=nU p;refine aA ?_;exact⟨zS,⟨Hw,v G⟩,Wk⟩
 rintro b ⟨O,i⟩;rw[i,CU];have k:=fun H=>M2 (df r A.1 b) (gm U (hV f) O) F H;obtain ⟨T,hT⟩:∃T,T=lA (df r A.1 b):=⟨_,rfl⟩;rw[<-hT]at k |-;refine Sq<|Sd (kY aX aK)<|Dd (kc Ic (k _))<|Dd aC<|Dd eG<|Dd eG<|Dd aH<|Zd aH<|Sd aC<|Zd rI ?_;refine Cn ?_ ?_<;>intro o
 ·have d:T.2≠0:=by have:=o;intro e;rw[e]at this;exact absurd this (by decide)
  rw[aCe d];refine Sd (nP QV)<|Dd aC<|Uu (iP aK)<|Zd aH<|aB ?_;refine iN (H':=[]) (.inr rfl) rfl (eU rfl aX aK rfl rfl rfl (by simp only[Zl,encStr];rfl) rfl) (aJ rfl) (Fin.wk (by simp[cC]) trivial trivial) ?_;exact Qq
 have c:T.2=0:=by have:=o;by_cases e:T.2=0;exact e;rw[decide_eq_false e]at this;cases this
 rw[aCd (by rw[c];decide)];refine aA<|Sd (kY aX aK)<|Uu (iP aK)<|Zd aH<|aB ?_;refine iN (H':=[]) (.inr rfl) rfl (eU rfl aX aK rfl rfl rfl (by simp only[Zl,encStr];rfl) rfl) (aJ rfl) (Fin.wk (by simp[cC]) trivial trivial) ?_;exact Qq
abbrev wa(e:Int):Ob:=bx 1 41 [iv e]
abbrev vy(x:GRec):Ob:=bx 21 30 ((cC x).map .pv)
abbrev fu(x:GRec)(e:Int):aG:=[(3,wa e),(2,vy x)]
abbrev eAJ:Ob:=bx 1 41 [.any]
abbrev rAJ:Ob:=bx 21 30 [.any,.any,.any,.any,.any,.any,.any,.any,.any,.any,.any,.any,.any,.any,.any,.any,.any,.any,.any,.any,.any]
abbrev pAJ:aG:=[(3,eAJ),(2,rAJ)]
abbrev Wm:List AV:=[.ref 2 0 0 0,.ref 3 0 0 0]
theorem Sn(x)(e):XZ Tryz.prog 46 Wm (fu x e) .returning (fun H2=>H2=fu x e):=by
 refine JF (x:=KG) func46 rfl ntmps46 (aCs rfl) rfl rfl rfl rfl rfl rfl (fun w I=>.sat rfl rfl) (.inl ⟨rfl,rfl⟩) ?_;refine QZ ?_;refine JA ?_;refine rD ?_;refine MF rfl rfl rfl (gh rfl JP rfl) ?_;refine FB ?_;refine K7 rfl (fun b=>?_) (fun b=>?_)
 ·refine rD ?_;refine MF rfl rfl rfl (wY rfl rfl) ?_;refine FB ?_;exact⟨.inl rfl,fu x e,Fin.wk (by simp) (Hb<|Hb<|trivial) ⟨rfl,rfl,trivial⟩,rfl⟩
 cases b
theorem So:XZ Tryz.prog 46 Wm pAJ (.panicking GL) (fun H2=>H2=fu zR 5):=by
 refine JF (x:=.ifa 81 []) func46 rfl ntmps46 (aCs rfl) rfl rfl rfl rfl rfl rfl (fun w I=>.ifa _ _ _ rfl (by simp)) (.inr ⟨_,rfl,rfl⟩) ?_;refine QZ ?_;refine JA ?_;refine rD ?_;refine MF rfl rfl rfl (by exact gi rfl JP rfl) ?_;refine FB ?_;refine K7 rfl (fun c=>?_) (fun c=>?_)
 ·cases c
 refine JA ?_;refine rD ?_;refine MF rfl rfl rfl (by exact PD rfl (dR zI rfl) rfl) ?_;refine MF rfl rfl rfl (by exact uG rfl rfl rfl) ?_;refine MF rfl rfl rfl (by exact uG rfl rfl rfl) ?_;refine FB ?_;refine K7 rfl (fun b=>?_) (fun b=>?_)
 ·refine JA ?_;refine rD ?_;refine MF rfl rfl rfl (by exact gk rfl Gu) ?_;refine Gm rfl rfl (by exact gd rfl rfl rfl sizeOf81) ?_;refine FB ?_;refine rD ?_;refine MF rfl rfl rfl (by exact MZ rfl QV rfl rfl) ?_;refine Gm rfl rfl (by exact kZ rfl aK rfl rfl rfl rfl rfl rfl rfl rfl) ?_;refine Gm rfl rfl (by exact kZ rfl sizeOf41 rfl rfl rfl rfl rfl rfl rfl rfl) ?_;refine FB ?_;exact⟨.inl rfl,fu zR 5,Fin.wk (by simp) (Hb<|Hb<|trivial) ⟨rfl,rfl,trivial⟩,rfl⟩
 cases b
theorem Uf(s:ByteArray)(X:s.size<1099511627776)(g:(eX s).2.1=0):aW Tryz.prog 157 [sv s] [] (fun r H'=>r=.tup [.osl 905 (eX s).1.length 0 (eX s).1.length,iv 0,iv (eX s).2.2]/\H'=[(905,⟨(eX s).1.length,3,187,kT (eX s).1⟩)]):=by
 refine Bd func157 rfl ntmps157<|Sd (kl 2 Pb)<|Dd (kl 3 Qu)<|Zd (kl 4 Qv)<|Sq<|Sd aC<|Dd (gF underlying9)<|Zd gX ?_;refine Cn ?_ ?_<;>intro v
 ·have e:eX s=([],2,-1):=by rw[eX,aCe (by have:=aCb v;omega)]
  rw[e]at g;exact absurd g (by decide)
 have P:¬ 20000<s.size:=by have:=aCc v;omega
 obtain ⟨b,i⟩:∃b,b=jM s (s.size+1) 0:=⟨_,rfl⟩;have V:eX s=jP [] b:=by rw[eX,aCd P,i]
 refine aA<|Sz (kl 5 wh)<|Sq<|Sd aC<|Zd (kc call197 (YM s _ rfl rfl rfl (eE.ofL ⟨(by simp_all),(by simp_all),(by simp_all),(by simp_all),trivial⟩)))<|aE ?_;refine gC.ent (E':=[(2,.ref 2 0 0 0),(3,.ref 3 0 0 0),(4,.ref 4 0 0 0),(5,.ref 5 0 0 0),(11,.clo 237 [.ref 921 0 0 0,.ref 924 0 0 0])]) (H':=[(905,⟨0,3,187,[]⟩),(5,bx 1 182 [.osl 905 0 0 0]),(924,tA),(923,tC),(921,tS s),(4,bx 1 3 [iv 0]),(3,bx 1 41 [iv 0]),(2,bx 1 182 [.pv (.sl [])])]) ?_ ?_
 ·exact(cQ.nz 905 3 187 rfl rfl ⟨⟨_,rfl,(by exact Nz.same (by(simp;rfl)))⟩,⟨_,rfl,(by exact Nz.same (by(simp;rfl)))⟩,⟨_,rfl,(by exact Nz.same (by(simp;rfl)))⟩,⟨_,rfl,(by exact Nz.same (by(simp;rfl)))⟩,⟨_,rfl,(by exact Nz.same (by(simp;exact⟨rfl,rfl⟩)))⟩,trivial⟩ ⟨⟨_,rfl,rfl,rfl,rfl,(by exact .inr ⟨_,_,rfl,rfl,(by repeat(first|exact trivial|refine⟨(by exact Nz.own),?_⟩))⟩)⟩,⟨_,rfl,rfl,rfl,rfl,(by exact .inl ⟨rfl,(by exact rQ rfl rfl)⟩)⟩,⟨_,rfl,rfl,rfl,rfl,(by exact .inl ⟨rfl,(by exact jN _)⟩)⟩,⟨_,rfl,rfl,rfl,rfl,(by exact .inl ⟨rfl,(by exact rO _ _)⟩)⟩,⟨_,rfl,rfl,rfl,rfl,(by exact .inl ⟨rfl,(by(simp;done))⟩)⟩,⟨_,rfl,rfl,rfl,rfl,(by exact .inl ⟨rfl,(by(simp;done))⟩)⟩,⟨_,rfl,rfl,rfl,rfl,(by exact .inl ⟨rfl,(by(simp;done))⟩)⟩,trivial⟩ trivial)
 have hdl:b.length<=s.size+1:=by rw[i];exact zZ s _ _
 obtain ⟨j,W⟩:∃j,j=xZ (sA b) b.length 0:=⟨_,rfl⟩;have G:j<=b.length:=by have:=(EP (sA b) b.length 0).2;omega
 have u:∀k,k<j->sA b k=true:=fun k K=>HR (sA b) b.length 0 k (aCw _) (by rw[<-W];exact K);have L:j<b.length->sA b j=false:=fun h=>by have:=wF (sA b) b.length 0 (by omega);rwa [<-W]at this
 have m:=KL G u;refine FA (id:=904) (p:=12) uI rfl call237 rfl rfl (by simp[uI];exact⟨rfl,rfl,rfl,rfl⟩) ?_;intro x E A U M T R;have o:∀(k:Nat) (d:GFound),b[k]?=some d->k<=j ->
   dI Tryz.prog (.yld 904 0) [.agg ((IZ d).map .pv)] ((904,LR x uI)::(926,tF d)::kL s (b.take k) (.pv (.sl [])) 0 0) (fun r H'=>r=bv (sA b k)/\H'=(if sA b k then(904,LR x uI)::(926,tF d)::kL s (b.take (k+1)) (.pv (.sl [])) 0 0 else(904,LR (left x .ret) uI)::(926,tF d)::kL s (b.take k) (.pv (.sl [])) (if d.err≠0 then d.err else 2) d.pos)):=by
  intro k d y hkj;have g:=IH y;have hkl:k<b.length:=(aCj.1 y).1;have htl:(b.take k).length=k:=by rw[aCt];omega
  have I:b.take (k+1)=b.take k++[d]:=by rw[List.take_add_one,y];rfl
  refine .inl ⟨904,0,rfl,?_⟩;refine VB [(2,.ref 2 0 0 0),(3,.ref 3 0 0 0),(4,.ref 4 0 0 0),(5,.ref 5 0 0 0),(6,.ref 907 0 0 0)] ((907,tF d)::(926,tF d)::kL s (b.take k) (.pv (.sl [])) 0 0) E A U M T R rfl rfl rfl ?_ ?_
  ·refine Rd (kl 907 wj)<|Uu (iP HA)<|Zz ?_;exact(cQ.wk (Ea<|Ea<|Ea<|Ea<|Ea<|trivial) (Hc (mL (by simp[uI];exact⟨rfl,rfl,rfl,rfl⟩))<|Hc (yW _ _)<|Hc (yW _ _)<|Hc (cP _ _)<|Ha<|Hc (rQ rfl rfl)<|Hc (jN _)<|Hc (rO _ _)<|Hb<|Hb<|Hb<|trivial) ⟨rfl,rfl,rfl,rfl,rfl,rfl,rfl,rfl,rfl,rfl,trivial⟩)
  refine aE<|Sq<|aE<|Sd (aV sK)<|Dd (bD mI)<|Dd rI<|Da ?_;refine Cn ?_ ?_<;>intro F
  ·have q:d.err≠0:=by have h:=F;rw[aCy,aCn]at h;exact h
   have w:sA b k=false:=by rw[g,decide_eq_false q];rfl
   rw[w,aCd (by decide),aCe q];refine Sq<|aL follows<|Cr [907] (fun _ h=>fh sK h)<|Cr [907] (fun _ h=>lh mI h)<|Cr [907] (fun _ h=>fh nV h)<|Cr [907] (fun _ h=>fh NU h)<|Cr [907] (fun _ h=>lh isAgg3 h)<|Cp [2] (fun _ h=>sa nF h)<|Cp [3] (fun _ h=>sa sizeOf41 h)<|Cp [4] (fun _ h=>sa sizeOf3 h)<|bF<|Kr<|aB ?_;exact⟨(926,tF d)::kL s (b.take k) (.pv (.sl [])) d.err d.pos,(cQ.wk trivial (Hc (mL (by simp[uI];exact⟨rfl,rfl,rfl,rfl⟩))<|Hc (yW _ _)<|Hc (cP _ _)<|Ha<|Hc (rQ rfl rfl)<|Hc (jN _)<|Hc (rO _ _)<|Hb<|Hb<|Hb<|trivial) ⟨rfl,rfl,rfl,rfl,rfl,rfl,rfl,rfl,rfl,rfl,trivial⟩),rfl,rfl⟩
  have q:d.err=0:=by have h:=F;rw[Bool.not_eq_false',aCm]at h;exact h
  refine Sd (bD mO)<|Dd (by exact dU rfl cN rfl rfl rfl)<|Dd cF<|Da ?_;refine Cn ?_ ?_<;>intro D
  ·have t:k=5000:=by have:=aCb D;omega
   have w:sA b k=false:=by rw[g,decide_eq_true q,decide_eq_true t];rfl
   rw[w,aCd (by decide),aCd (fun h=>h q)];refine Sq<|aL follows<|Cr [907] (fun _ h=>fh nV h)<|Cr [907] (fun _ h=>fh NU h)<|Cr [907] (fun _ h=>lh isAgg3 h)<|Cp [2] (fun _ h=>sa nF h)<|Cp [3] (fun _ h=>sa sizeOf41 h)<|Cp [4] (fun _ h=>sa sizeOf3 h)<|bF<|Kr<|aB ?_;exact⟨(926,tF d)::kL s (b.take k) (.pv (.sl [])) 2 d.pos,(cQ.wk trivial (Hc (mL (by simp[uI];exact⟨rfl,rfl,rfl,rfl⟩))<|Hc (yW _ _)<|Hc (cP _ _)<|Ha<|Hc (rQ rfl rfl)<|Hc (jN _)<|Hc (rO _ _)<|Hb<|Hb<|Hb<|trivial) ⟨rfl,rfl,rfl,rfl,rfl,rfl,rfl,rfl,rfl,rfl,trivial⟩),rfl,rfl⟩
  have t:¬ k=5000:=by have:=aCc D;omega
  have w:sA b k=true:=by rw[g,decide_eq_true q,decide_eq_false t];rfl
  rw[w,aCe rfl,I,Cx];refine aA<|Rd (bD mO)<|Dd (aV nV)<|Dd (kY iK sizeOf187)<|Dd (by exact aN [encTok d] rfl gR rfl rfl rfl rfl rfl (by intro r p;rw[aCi]at p;subst p;rfl))<|Dd (by exact cG (ps:=[encTok d]) rfl gR ov rfl rfl rfl rfl rfl (wP _) rfl (by intro r p;rw[aCi]at p;subst p;rfl) (m:=1) rfl (by omega) rfl (BI (b.take k) d))<|Uu (iP nF)<|Zz ?_;exact⟨(926,tF d)::[(905,⟨(b.take k).length+1,3,187,kT (b.take k++[d])⟩),(5,bx 1 182 [.osl 905 ((b.take k).length+1) 0 ((b.take k).length+1)]),(924,tA),(923,tC),(921,tS s),(4,bx 1 3 [iv 0]),(3,bx 1 41 [iv 0]),(2,bx 1 182 [.pv (.sl [])])],(cQ.wk trivial (Hc (mL (by simp[uI];exact⟨rfl,rfl,rfl,rfl⟩))<|Hc (yW _ _)<|Hc (cP _ _)<|Ha<|Hc (rQ rfl rfl)<|Hc (jN _)<|Hc (rO _ _)<|Hb<|Hb<|Hb<|trivial) ⟨rfl,rfl,rfl,rfl,rfl,rfl,rfl,rfl,rfl,rfl,trivial⟩),rfl,rfl⟩
 rcases Nat.lt_or_ge j b.length with n|O
 ·obtain ⟨f,Q⟩:=aT n;have B:=L n;have S:b.drop j=f::b.drop (j+1):=by
   rw[List.drop_eq_getElem_cons n];rw[aCk n]at Q;cases Q;rfl
  have C:eX s=([],(if f.err≠0 then f.err else 2),(f.pos:Int)):=by
   rw[V,m,S,jP]
   split
   ·rfl
   rename_i q;have J:f.err=0:=by
    by_cases h:f.err=0
    ·exact h
    exact absurd h q
   rw[IH Q,decide_eq_true J,Bool.true_and,Bool.not_eq_false',aCm]at B;rw[aCe (by rw[aCt];omega)]
  rw[C]at g;have g:(if f.err≠0 then f.err else 2)=0:=g
  split at g
  ·next h=>exact absurd g h
  exact absurd g (by decide)
 have N:j=b.length:=Nat.le_antisymm G O;rw[N,List.take_length,List.drop_length]at m;rw[V,m,jP];refine(JU s (.yld 904 0) (fun k=>(904,LR x uI)::kL s (b.take k) (.pv (.sl [])) 0 0) (sA b) b.length X (fun k=>rfl) (fun k=>rfl) (fun k=>rfl) (fun k=>rfl) (fun k=>(eE.ofL ⟨(by exact mL (by simp[uI];exact⟨rfl,rfl,rfl,rfl⟩)),(by exact cP _ _),(by(simp;rfl)),(by exact rQ rfl rfl),(by exact jN _),(by exact rO _ _),(by(simp;done)),(by(simp;done)),(by(simp;done)),trivial⟩)) (fun k=>by simp;rfl) (by rw[<-i];exact aCl _) (fun k K=>u k (by omega)) (.inl (by rw[<-i])) ?_).mono ?_
 ·rw[<-i];intro k d y K;have p:=o k d y (by omega);have g:=u k (by omega);rw[g,aCe rfl]at p;rw[g];exact dI.congrG p (fun j=>pM (by decide) j) (fun j=>pM (by decide) j)
 rintro r H' ⟨rfl,rfl⟩;rw[List.take_length];refine⟨x,_,rfl,by rw[E];decide,rfl,fun z=>?_⟩;rw[A];refine Sd (bD mO)<|Uu (iP nF)<|Uu (iP sizeOf41)<|Uu (iP sizeOf3)<|Zz<|aB ?_;refine lH (H':=[(905,⟨b.length,3,187,kT b⟩)]) (.inr rfl) rfl (gZ rfl mO rfl rfl rfl rfl) (gZ rfl mI rfl rfl rfl rfl) (gZ rfl isAgg3 rfl rfl rfl rfl) (Fin.wk (by(simp;rfl)) (Hc (cP _ _)<|trivial) trivial) ?_;exact Qq
theorem Ue(s)(H)(c:s.size<1099511627776)(b:(eX s).2.1=0)(hH:H.get 905=none):aW Tryz.prog 157 [sv s] H (fun r H'=>r=.tup [.osl 905 (eX s).1.length 0 (eX s).1.length,iv 0,iv (eX s).2.2]/\H'=(905,⟨(eX s).1.length,3,187,kT (eX s).1⟩)::H) :=aW.frame (Uf s c b) (fun _ _ h=>by cases h) (fun _ _ h=>by cases h) (by simp) (fun id h=>.inr (by
  by_cases e:id=905
  ·simp_all
  rw[get_cons_other _ _ e]at h;cases h))
end Go.Proofs.YtmdicgjnmfolfaaGreatDoor
