/-
  Parts of the proof: rules of an abstract program logic, contracts of functions, plain laws. Conditions: each theorem's own.
-/
import Derived.Test.YtiifmppaejpemaaGreatDoorKR2M9
import Derived.RecoverIn
set_option linter.unusedVariables false
set_option linter.unusedSimpArgs false
set_option maxRecDepth 100000
set_option maxHeartbeats 8000000
namespace Go.Proofs
theorem GJ:type_of% Tryz.call17:=Tryz.call17
theorem AR:type_of% Tryz.call19:=Tryz.call19
theorem kP:type_of% Tryz.call51:=Tryz.call51
theorem gW:type_of% Tryz.call52:=Tryz.call52
theorem mI:type_of% Tryz.isAgg28:=Tryz.isAgg28
theorem bD:type_of% Tryz.isAgg30:=Tryz.isAgg30
theorem wD:type_of% Tryz.underlying84:=Tryz.underlying84
theorem aFS:type_of% Tryz.zeroValue84:=Tryz.zeroValue84
end Go.Proofs
namespace Go.Proofs.YtiifmppaejpemaaGreatDoor
open Go.Proofs.Tryz
open Go.Abs
def ndG (r:GRec):Bool:=decide (r.kind=2)||decide (r.kind=3)
def MC (r:GRec):Bool:=if r.kind=3 then oA r.order 1 4 else if r.kind=4 then(bP r.from'&&!decide (r.from'=r.branch))else decide (1≤r.kind∧r.kind≤5)
def TJ (r:GRec):ByteArray:=if r.kind=2∨r.kind=3 then r.target else sNil
def wYG (r:GRec):Bool:=if r.kind=2 then r.yes else false
def wOG (r:GRec):Int:=if r.kind=3 then r.order else 0
def wFG (r:GRec):ByteArray:=if r.kind=4 then r.from' else sNil
def wEG (r:GRec):Bool:=if r.kind=1 then true else if r.kind=3 then decide (r.order=3)else false
def v5G (r:GRec):Bool:=((((decide (r.target=TJ r)&&(r.yes == wYG r))&&decide (r.order=wOG r))&&decide (r.from'=wFG r))&&(decide (0 < ((r.edits.map aU).length:Int)) == wEG r))&&(!ndG r||isJ (TJ r))
def dT (r:GRec):Bool:=(((!v1G r&&!OR r)&&(jJ r.edits).2)&&MC r)&&v5G r
abbrev W5:=ByteArray×Bool×Int×ByteArray×Bool
def zQ (r:GRec):W5:=(TJ r,wYG r,wOG r,wFG r,wEG r)
theorem aKj {r:GRec} (h:r.kind=1):MC r=true∧(sNil,false,0,sNil,true)=zQ r:=by simp [MC,zQ,TJ,wYG,wOG,wFG,wEG,h]
theorem aKi {r:GRec} (h:r.kind=2):MC r=true∧(r.target,r.yes,0,sNil,false)=zQ r:=by simp [MC,zQ,TJ,wYG,wOG,wFG,wEG,h]
theorem aKh {r:GRec} (h:r.kind=3) (hw:oA r.order 1 4=true):MC r=true∧(r.target,false,r.order,sNil,decide (r.order=3))=zQ r:=by simp [MC,zQ,TJ,wYG,wOG,wFG,wEG,h,hw]
theorem aKg {r:GRec} (h:r.kind=4) (hn:bP r.from'=true) (hb:r.from'≠r.branch):MC r=true∧(sNil,false,0,r.from',false)=zQ r:=by simp [MC,zQ,TJ,wYG,wOG,wFG,wEG,h,hn,hb]
theorem aKf {r:GRec} (h:r.kind=5):MC r=true∧(sNil,false,0,sNil,false)=zQ r:=by simp [MC,zQ,TJ,wYG,wOG,wFG,wEG,h]
theorem aFt {r:GRec} (h:v1G r=true):dT r=false:=by simp [dT,h]
theorem ZM {r:GRec} (h:OR r=true):dT r=false:=by simp [dT,h]
theorem aFs {r:GRec} (h:(jJ r.edits).2=false):dT r=false:=by simp [dT,h]
theorem Q5 {r:GRec} (h:MC r=false):dT r=false:=by simp [dT,h]
theorem aFr {r:GRec} (h1:v1G r=false) (h2:OR r=false) (h3:(jJ r.edits).2=true) (h4:MC r=true):dT r=v5G r:=by simp [dT,h1,h2,h3,h4]
theorem aCd {r:GRec} (h:r.target.size < 1099511627776):(TJ r).size < 1099511627776:=by
 rw [TJ]
 split
 ·exact h
 exact(by decide:(0:Nat) < 1099511627776)
theorem EG (r:GRec) (hr:jG r) (hp:r.parents.length < 549755813888) (H:aB):aI Tryz.prog 17 [av (cF r)] H (fun x H'=>x=bv (dT r)∧H'=H):=by
 refine Pu ?_;obtain ⟨_,⟨b1,b2,b3⟩,hpa,hed,hs,hpv⟩:=hr;have htx:=fun H=>ZP r.edits H hed.1 hed.2;obtain ⟨p1,p2,p3,p4,p5⟩:=hpv;have hoffs:=aJ1 r.priv.trace p4;have hsh1:=fun H=>ZZ [r.priv.name,r.priv.reason] (show 2 < 1099511627776 by decide) H;have hsh2:=fun H=>ZZ r.priv.sources p3.1 H;have hf1:=fun H=>U9 r.priv.sl p5 H;have hf2:=fun H=>U9 r.sl hs H;have hso:=fun H=>U1 r.parents H (by omega);have hdg:=fun H=>HP r.parents hpa H;have hnm:=fun H=>yT r.branch H (by omega);have hnf:=fun H=>yT r.from' H (by omega)
 have hwt:=aCd b2;have hw:∀ (n a b:Int) (H:aB),aI Tryz.prog 64 [iv n,iv a,iv b] H (fun r H'=>r=bv (oA n a b)∧H'=H):=fun n a b H=>KE n a b H;refine Bd func17 rfl ntmps17<|Sr<|Dd (by exact cH (id:=1) rfl rfl rfl rfl rfl)<|Dd aN<|Zz<|Sr<|Dd (by exact bU (id:=3) rfl aKc rfl rfl)<|Uu (kQ sizeOf101)<|Zz<|Sr<|Dd aN<|Zz<|Sr<|Dd (aV fW)<|Dd (rQ mI sizeOf28)<|Dd (by exact bU (id:=5) rfl aIe rfl rfl)<|Uu (kQ sizeOf28)<|Zz<|Sr<|Dd (aV uF)<|Dd (bM kH)<|Dd (by exact gC rfl rfl)<|Dd (by exact aA rfl rfl call68 rfl ((aI.frameS hoffs (NJ.sub ⟨rfl,trivial⟩) (eG.ofL ⟨uY _,trivial⟩) (by simp;rfl))))<|Dd aN<|Zz<|Sq<|Sq ?_;refine bA (t:=63) (n:=48) (X:=v1G r) ?_ ?_
 ·all_goals refine Dd aF ?_
  all_goals refine Dm ?_
  all_goals refine Sp 23 (fun h23=>?_) fun h23=>?_
  all_goals try contradiction
  all_goals first|refine Fo<|Fo<|Fo<|Fo<|Fo ?_|refine On aF<|On (aV DX)<|On (bM isAgg9)<|On (aV DW)<|On (bM isAgg9) ?_
  all_goals first|refine Fo ?_|refine On (by exact aR [[.str r.priv.name],[.str r.priv.reason]] rfl cA rfl rfl rfl rfl rfl (by intro r hr;simp only [aOL,aOP,or_false] at hr;rcases hr with rfl|rfl<;>rfl)) ?_
  all_goals first|refine Fo<|Fo ?_|refine On (by exact cR rfl rfl rfl (dD.fn call65 (hsh1 _)))<|On jS ?_
  all_goals refine Dd cW<|Dm ?_
  all_goals refine Sp 33 (fun h33=>?_) fun h33=>?_
  all_goals try contradiction
  all_goals first|refine Fo<|Fo<|Fo<|Fo<|Fo ?_|refine On aF<|On (aV BN)<|On (bM aH)<|On (by exact cR rfl rfl rfl (dD.fn call65 (hsh2 _)))<|On jS ?_
  all_goals refine Dd cW<|Dm ?_
  all_goals refine Sp 40 (fun h40=>?_) fun h40=>?_
  all_goals try contradiction
  all_goals first|refine Fo<|Fo<|Fo<|Fo ?_|refine On (aV BN)<|On (bM aH)<|On (fY aE)<|On jE ?_
  all_goals refine Dd cW<|Dm ?_
  all_goals refine Sp 46 (fun h46=>?_) fun h46=>?_
  all_goals try contradiction
  all_goals first|refine Fo<|Fo<|Fo<|Fo ?_|refine On (aV uF)<|On (bM kH)<|On (fY eR)<|On jE ?_
  all_goals refine Dd cW<|Dm ?_
  all_goals refine Sp 52 (fun h52=>?_) fun h52=>?_
  all_goals try contradiction
  all_goals first|refine Fo<|Fo<|Fo<|Fo ?_|refine On (aV pU)<|On (rQ fM sizeOf25)<|On (by exact aA rfl rfl call70 rfl (hf1 _))<|On jS ?_
  all_goals refine Dd cW<|Dm ?_
  all_goals refine Sp 58 (fun h58=>?_) fun h58=>?_
  all_goals try contradiction
  all_goals first|refine Fo<|Fo<|Fo<|Fo ?_|refine On (aV nA)<|On (rQ fM sizeOf25)<|On (by exact aA rfl rfl call70 rfl (hf2 _))<|On jS ?_
  all_goals refine Dd cW<|Zz ?_
  all_goals(exact⟨⟨_,rfl,by first|(rw [v1G,h23];rfl)|(rw [v1G,h23,h33];rfl)|(rw [v1G,h23,h33,h40];rfl)|(rw [v1G,h23,h33,h40,h46];rfl)|(rw [v1G,h23,h33,h40,h46,h52];rfl)|(rw [v1G,h23,h33,h40,h46,h52,h58];rfl)⟩,rfl,rfl,rfl⟩)
 refine Cn ?_ ?_<;>intro hc1
 ·rw [aFt hc1];exact Sr<|Dd aN<|Zz<|aC<|Rt<|Qq
 have h1:=hc1;have hin:aJh r.parents=(lX r.parents&&decide (((kS r.parents).length:Int)=((r.parents.map encStr).length:Int))):=rfl;obtain ⟨so,hsoe⟩:∃ so,so=lX r.parents:=⟨_,rfl⟩;rw [← hsoe] at hso hin;refine aD<|Sq ?_;refine gK.ent (E':=[(1,.ref 1 0 0 0),(3,.ref 3 0 0 0),(5,.ref 5 0 0 0),(4,.pv (.fn 65))]) (H':=[(5,bx 7 28 ((sR r.priv).map .pv)),(3,wiO),(1,bx 21 30 ((cF r).map .pv))]) (cY.wk (Ea<|Ea<|Ea<|Eb<|trivial) (Hb<|Hc (uY _)<|Hb<|trivial) trivial) ?_;cases so with
 | false =>
  have h2:OR r=true:=by rw [OR,hin,Bool.false_and,Bool.not_false,Bool.or_true]
  rw [ZM h2];refine aO follows<|Cr [1] (fun _ h=>fh oI h)<|Cr [1] (fun _ h=>lh aH h)<|Cr [] (fun H1 hH=>by exact aA rfl rfl call71 rfl (hso _))<|Cr [] (fun _ _=>aF)<|Ot<|Ot<|Ot<|Ot<|Ot<|Ot<|Ot<|Ot<|Ot<|Cr [] (fun _ _=>cW)<|Cr [] (fun _ _=>aN)<|bL<|Kr<|Sq<|Sq ?_;refine bA (t:=118) (n:=47) (X:=OR r) ?_ ?_
  ·all_goals refine Dd (bM mX) ?_
   all_goals refine Dd (aV zG)<|Dd (bM isAgg3)<|Dd (by exact cR rfl rfl rfl (dD.fn qQ (hw r.author 0 59 _)))<|Dd jS<|Dm ?_
   all_goals refine Sp 83 (fun h83=>?_) fun h83=>?_
   all_goals try contradiction
   all_goals first|refine Fo<|Fo<|Fo<|Fo<|Fo ?_|refine On (bM mX)<|On (aV qL)<|On (bM isAgg3)<|On (by exact cR rfl rfl rfl (dD.fn qQ (hw r.number 1 128 _)))<|On jS ?_
   all_goals refine Dd cW<|Dm ?_
   all_goals refine Sp 90 (fun h90=>?_) fun h90=>?_
   all_goals try contradiction
   all_goals first|refine Fo<|Fo<|Fo<|Fo<|Fo ?_|refine On (bM mX)<|On (aV zF)<|On (bM isAgg3)<|On (by exact cR rfl rfl rfl (dD.fn qQ (hw r.clock 1 1000000 _)))<|On jS ?_
   all_goals refine Dd cW<|Dm ?_
   all_goals refine Sp 97 (fun h97=>?_) fun h97=>?_
   all_goals try contradiction
   all_goals first|refine Fo<|Fo<|Fo<|Fo ?_|refine On (aV zE)<|On (bM isAgg9)<|On (by exact aA rfl rfl oD rfl (hnm _))<|On jS ?_
   all_goals refine Dd cW<|Dm ?_
   all_goals refine Sp 103 (fun h103=>?_) fun h103=>?_
   all_goals try contradiction
   all_goals first|refine Fo<|Fo<|Fo<|Fo ?_|refine On (aV oI)<|On (bM aH)<|On (fY aE)<|On jE ?_
   all_goals refine Dd cW<|Dm ?_
   all_goals refine Sp 109 (fun h109=>?_) fun h109=>?_
   all_goals try contradiction
   all_goals first|refine Fo<|Fo<|Fo<|Fo ?_|refine On (aV oI)<|On (bM aH)<|On (by exact aA rfl rfl aFd rfl (hdg _))<|On jS ?_
   all_goals refine Dd cW<|Dm ?_
   all_goals refine Sp 115 (fun h115=>?_) fun h115=>?_
   all_goals try contradiction
   all_goals first|refine Fo<|Fo ?_|refine On aF<|On jS ?_
   all_goals refine Dd cW<|Zz ?_
   all_goals(exact⟨⟨_,rfl,by first|(rw [OR,hin,h83];rfl)|(rw [OR,hin,h83,h90];rfl)|(rw [OR,hin,h83,h90,h97];rfl)|(rw [OR,hin,h83,h90,h97,h103];rfl)|(rw [OR,hin,h83,h90,h97,h103,h109];rfl)|(rw [OR,hin,h83,h90,h97,h103,h109,h115];rfl)⟩,rfl,rfl,rfl⟩)
  refine Cn ?_ ?_<;>intro hc2
  ·exact Sr<|Dd aN<|Zz<|aC<|Rt<|Qq
  rw [h2] at hc2;cases hc2
 | true =>
  refine aO follows<|Cr [1] (fun _ h=>fh oI h)<|Cr [1] (fun _ h=>lh aH h)<|Cr [] (fun H1 hH=>by exact aA rfl rfl call71 rfl (hso _))<|Cr [] (fun _ _=>aF) ?_;refine bF (r:=⟨_,some [1],[]⟩) (cE rfl rfl rfl (by rfl) (fun H1 hH=>by exact(by exact bG rfl oI rfl ((hH _ rfl).trans rfl) rfl rfl))) rfl ?_;refine bF (r:=⟨_,some [1],[]⟩) (cE rfl rfl rfl (by rfl) (fun H1 hH=>by exact(by exact aK rfl aH rfl ((hH _ rfl).trans rfl) rfl rfl rfl))) rfl ?_;refine bF (r:=⟨_,some [901],[_]⟩) (cE rfl rfl rfl (by rfl) (fun H1 hH=>by exact aA rfl rfl call73 rfl (aKA r.parents (by omega) ((hH _ rfl).trans rfl)))) rfl ?_;refine bF (r:=⟨_,some [901],[_]⟩) (cE rfl rfl rfl (by rfl) (fun H1 hH=>by exact aA rfl rfl call72 rfl (aBx r.parents 1 _ ((hH _ rfl).trans rfl) (by omega)))) rfl ?_;refine bF (r:=⟨_,some [901],[]⟩) (cE rfl rfl rfl (by rfl) (fun H1 hH=>by exact(by exact eE rfl aE rfl ((hH _ rfl).trans rfl) rfl))) rfl ?_;refine bF (r:=⟨_,some [1],[]⟩) (cE rfl rfl rfl (by rfl) (fun H1 hH=>by exact(by exact bG rfl oI rfl ((hH _ rfl).trans rfl) rfl rfl))) rfl ?_;refine bF (r:=⟨_,some [1],[]⟩) (cE rfl rfl rfl (by rfl) (fun H1 hH=>by exact(by exact aK rfl aH rfl ((hH _ rfl).trans rfl) rfl rfl rfl))) rfl ?_;refine bF (r:=⟨_,some [],[]⟩) (cE rfl rfl rfl (by rfl) (fun H1 hH=>by exact(by exact kY rfl aE rfl))) rfl ?_;refine bF (r:=⟨_,some [],[]⟩) (cE rfl rfl rfl (by rfl) (fun H1 hH=>by exact vF rfl rfl rfl)) rfl ?_;refine Cr [] (fun _ _=>cW)<|Cr [] (fun _ _=>aN)<|bL<|Kr<|Sq<|Sq ?_;refine bA (t:=118) (n:=47) (X:=OR r) ?_ ?_
  ·all_goals refine Dd (bM mX) ?_
   all_goals refine Dd (aV zG)<|Dd (bM isAgg3)<|Dd (by exact cR rfl rfl rfl (dD.fn qQ (hw r.author 0 59 _)))<|Dd jS<|Dm ?_
   all_goals refine Sp 83 (fun h83=>?_) fun h83=>?_
   all_goals try contradiction
   all_goals first|refine Fo<|Fo<|Fo<|Fo<|Fo ?_|refine On (bM mX)<|On (aV qL)<|On (bM isAgg3)<|On (by exact cR rfl rfl rfl (dD.fn qQ (hw r.number 1 128 _)))<|On jS ?_
   all_goals refine Dd cW<|Dm ?_
   all_goals refine Sp 90 (fun h90=>?_) fun h90=>?_
   all_goals try contradiction
   all_goals first|refine Fo<|Fo<|Fo<|Fo<|Fo ?_|refine On (bM mX)<|On (aV zF)<|On (bM isAgg3)<|On (by exact cR rfl rfl rfl (dD.fn qQ (hw r.clock 1 1000000 _)))<|On jS ?_
   all_goals refine Dd cW<|Dm ?_
   all_goals refine Sp 97 (fun h97=>?_) fun h97=>?_
   all_goals try contradiction
   all_goals first|refine Fo<|Fo<|Fo<|Fo ?_|refine On (aV zE)<|On (bM isAgg9)<|On (by exact aA rfl rfl oD rfl (hnm _))<|On jS ?_
   all_goals refine Dd cW<|Dm ?_
   all_goals refine Sp 103 (fun h103=>?_) fun h103=>?_
   all_goals try contradiction
   all_goals first|refine Fo<|Fo<|Fo<|Fo ?_|refine On (aV oI)<|On (bM aH)<|On (fY aE)<|On jE ?_
   all_goals refine Dd cW<|Dm ?_
   all_goals refine Sp 109 (fun h109=>?_) fun h109=>?_
   all_goals try contradiction
   all_goals first|refine Fo<|Fo<|Fo<|Fo ?_|refine On (aV oI)<|On (bM aH)<|On (by exact aA rfl rfl aFd rfl (hdg _))<|On jS ?_
   all_goals refine Dd cW<|Dm ?_
   all_goals refine Sp 115 (fun h115=>?_) fun h115=>?_
   all_goals try contradiction
   all_goals first|refine Fo<|Fo ?_|refine On aF<|On jS ?_
   all_goals refine Dd cW<|Zz ?_
   all_goals(exact⟨⟨_,rfl,by first|(rw [OR,hin,h83];rfl)|(rw [OR,hin,h83,h90];rfl)|(rw [OR,hin,h83,h90,h97];rfl)|(rw [OR,hin,h83,h90,h97,h103];rfl)|(rw [OR,hin,h83,h90,h97,h103,h109];rfl)|(rw [OR,hin,h83,h90,h97,h103,h109,h115];rfl)⟩,rfl,rfl,rfl⟩)
  refine Cn ?_ ?_<;>intro hc3
  ·rw [ZM hc3];exact Sr<|Dd aN<|Zz<|aC<|Rt<|Qq
  have h2:=hc3;obtain ⟨tx,htxe⟩:∃ tx,tx=(jJ r.edits).1:=⟨_,rfl⟩;obtain ⟨tb,htbe⟩:∃ tb,tb=(jJ r.edits).2:=⟨_,rfl⟩;rw [← htxe,← htbe] at htx;refine aD<|Sq<|Sr<|Dd (aV zD)<|Dd (bM kI)<|Dd (by exact aA rfl rfl call76 rfl (htx _))<|Dd aF<|Dd fL<|Dd fL<|Dd aN<|Dd aN<|Zz<|Sr<|Dd aF<|Dd jS<|Zz ?_;refine Cn ?_ ?_<;>intro hc4
  ·have hb:tb=false:=by have:=hc4;cases tb;rfl;cases this
   rw [aFs (htbe.symm.trans hb)];exact Sr<|Dd aN<|Zz<|aC<|Rt<|Qq
  have hb:tb=true:=by have:=hc4;cases tb;cases this;rfl
  have h3:(jJ r.edits).2=true:=htbe.symm.trans hb;have hyes:=fun h4=>aFr h1 h2 h3 h4;clear htxe htbe;refine aD<|Sr<|Dd aN<|Dd aN<|Dd aN<|Dd aN<|Da ?_;refine gT (fun(p:W5)=>([(1,.ref 1 0 0 0),(3,.ref 3 0 0 0),(10,sv p.1),(11,bv p.2.1),(12,iv p.2.2.1),(13,sv p.2.2.2.1),(14,bv p.2.2.2.2)],[(5,bx 7 28 ((sR r.priv).map .pv)),(3,wiO),(1,bx 21 30 ((cF r).map .pv))])) (fun p=>MC r=true∧p=zQ r) ?_ ?_
  ·refine Sr<|Dd (aV BM)<|Dd (bM isAgg3)<|Zz<|aG<|Sr<|Dd cT<|Da ?_;refine Cn ?_ ?_<;>intro hc5
   ·have hk:=aKj (aNv hc5);refine Rg<|Da ?_;exact⟨_,hk,(cY.wk (Ea<|Ea<|Eb<|Eb<|Eb<|Eb<|Eb<|trivial) (Hb<|Hc (uY _)<|Hb<|trivial) trivial)⟩
   have hk1:=aNw hc5;refine Sr<|Dd cT<|Da ?_;refine Cn ?_ ?_<;>intro hc6
   ·have hk:=aKi (aNv hc6);refine aO follows<|Cq (aV rS)<|Cq (bM isAgg9)<|Cq (aV BL)<|Cq (bM oC)<|Cq aN<|Cq aN<|bL<|Kr ?_;exact⟨_,hk,(cY.wk (Ea<|Ea<|Eb<|Eb<|Eb<|Eb<|Eb<|trivial) (Hb<|Hc (uY _)<|Hb<|trivial) trivial)⟩
   have hk2:=aNw hc6;refine Sr<|Dd cT<|Da ?_;refine Cn ?_ ?_<;>intro hc7
   ·have hk3:=aNv hc7;refine Sq<|aO follows<|Cq (aV rS)<|Cq (bM isAgg9)<|Cq (aV uE)<|Cq (bM isAgg3)<|Cq (aV uE)<|Cq (bM isAgg3)<|Cq cT<|Cq aN<|Cq aN<|Cq aN<|bL<|Kr<|Sr<|Dd (bM mX)<|Dd aF<|Dd (by exact cR rfl rfl rfl (dD.fn qQ (hw r.order 1 4 _)))<|Dd jS<|Zz ?_;refine Cn ?_ ?_<;>intro hc8
    ·have hk:oA r.order 1 4=false:=by have:=hc8;revert this;cases oA r.order 1 4<;>simp
     rw [Q5 (by rw [MC,aNy hk3];exact hk)];exact Sr<|Dd aN<|Zz<|aC<|Rt<|Qq
    have hk:=aKh hk3 (by have:=hc8;revert this;cases oA r.order 1 4<;>simp);refine aD ?_;exact⟨_,hk,(cY.wk (Ea<|Ea<|Eb<|Eb<|Eb<|Eb<|Eb<|trivial) (Hb<|Hc (uY _)<|Hb<|trivial) trivial)⟩
   have hk3:=aNw hc7;refine Sr<|Dd cT<|Da ?_;refine Cn ?_ ?_<;>intro hc9
   ·have hk4:=aNv hc9;refine Sr<|Dd (aV pT)<|Dd (bM isAgg9)<|Dd aN<|Zz<|Sq ?_;refine bA (t:=162) (n:=10) (X:=!bP r.from'||decide (r.from'=r.branch)) ?_ ?_
    ·all_goals refine Dd aF ?_
     all_goals refine Dd (by exact aA rfl rfl oD rfl (hnf _))<|Dd jS<|Dm ?_
     all_goals refine Sp 157 (fun h157=>?_) fun h157=>?_
     all_goals try contradiction
     all_goals first|refine Fo<|Fo<|Fo<|Fo ?_|refine On aF<|On (aV zE)<|On (bM isAgg9)<|On yJ ?_
     all_goals refine Dd cW<|Zz ?_
     all_goals(exact⟨⟨_,rfl,by(rw [h157];rfl)⟩,rfl,rfl,rfl⟩)
    refine Cn ?_ ?_<;>intro hc10
    ·have hk:(bP r.from'&&!decide (r.from'=r.branch))=false:=by have:=hc10;revert this;cases bP r.from'<;>cases decide (r.from'=r.branch)<;>simp
     rw [Q5 (by rw [MC,aNx hk3,aNy hk4];exact hk)];exact Sr<|Dd aN<|Zz<|aC<|Rt<|Qq
    have hk:bP r.from'=true∧¬ r.from'=r.branch:=by have:=hc10;rw [aOV,Bool.not_eq_false',aOH] at this;exact this
    have hk:=aKg hk4 hk.1 hk.2;refine aD ?_;exact⟨_,hk,(cY.wk (Ea<|Ea<|Eb<|Eb<|Eb<|Eb<|Eb<|trivial) (Hb<|Hc (uY _)<|Hb<|trivial) trivial)⟩
   have hk4:=aNw hc9;refine Sr<|Dd cT<|Da ?_;refine Cn ?_ ?_<;>intro hc11
   ·have hk:=aKf (aNv hc11);refine aD ?_;exact⟨_,hk,(cY.wk (Ea<|Ea<|Eb<|Eb<|Eb<|Eb<|Eb<|trivial) (Hb<|Hc (uY _)<|Hb<|trivial) trivial)⟩
   have hk5:=aNw hc11;rw [Q5 (by rw [MC,aNx hk3,aNx hk4,decide_eq_false (by omega)])];exact Sr<|Dd aN<|Zz<|aC<|Rt<|Qq
  rintro _ ⟨h4,rfl⟩;rw [hyes h4];have hdT:=fun H=>aAW (TJ r) hwt H;have hv5:v5G r=(((((decide (r.target=TJ r)&&(r.yes == wYG r))&&decide (r.order=wOG r))&&decide (r.from'=wFG r))&&(decide (0 < ((r.edits.map aU).length:Int)) == wEG r))&&(!ndG r||isJ (TJ r))):=rfl;rw [zQ];refine Sq ?_;refine bA (t:=15) (n:=10) (X:=ndG r) ?_ ?_
  ·all_goals refine Dd (aV BM) ?_
   all_goals refine Dd (bM isAgg3)<|Dd cT<|Dm ?_
   all_goals refine Sp 168 (fun h168=>?_) fun h168=>?_
   all_goals try contradiction
   all_goals first|refine Fo<|Fo<|Fo ?_|refine On (aV BM)<|On (bM isAgg3)<|On cT ?_
   all_goals refine Dd cW<|Da ?_
   all_goals(exact⟨⟨_,rfl,by(rw [ndG,h168];rfl)⟩,rfl,rfl,rfl⟩)
  refine Sq ?_;refine bA (t:=2) (n:=45) (X:=v5G r) ?_ ?_
  ·all_goals refine Dd (aV rS) ?_
   all_goals refine Dd (bM isAgg9)<|Dd aF<|Dd yJ<|Dm ?_
   all_goals refine Sp 177 (fun h177=>?_) fun h177=>?_
   all_goals try contradiction
   all_goals first|refine Fo<|Fo<|Fo<|Fo ?_|refine On (aV BL)<|On (bM oC)<|On aF<|On (by exact FC rfl dZ rfl rfl) ?_
   all_goals refine Dd cW<|Dm ?_
   all_goals refine Sp 183 (fun h183=>?_) fun h183=>?_
   all_goals try contradiction
   all_goals first|refine Fo<|Fo<|Fo<|Fo ?_|refine On (aV uE)<|On (bM isAgg3)<|On aF<|On cT ?_
   all_goals refine Dd cW<|Dm ?_
   all_goals refine Sp 189 (fun h189=>?_) fun h189=>?_
   all_goals try contradiction
   all_goals first|refine Fo<|Fo<|Fo<|Fo ?_|refine On (aV pT)<|On (bM isAgg9)<|On aF<|On yJ ?_
   all_goals refine Dd cW<|Dm ?_
   all_goals refine Sp 195 (fun h195=>?_) fun h195=>?_
   all_goals try contradiction
   all_goals first|refine Fo<|Fo<|Fo<|Fo<|Fo<|Fo ?_|refine On (aV zD)<|On (bM kI)<|On (fY cX)<|On jE<|On aF<|On (by exact FC rfl dZ rfl rfl) ?_
   all_goals refine Dd cW<|Dm ?_
   all_goals refine Sp 203 (fun h203=>?_) fun h203=>?_
   all_goals try contradiction
   all_goals first|refine Fo<|Fo<|Fo ?_|refine On aF<|On jS<|On aF ?_
   all_goals(first|refine Sp 206 (fun h206=>?_) fun h206=>?_|refine rX (t:=206) rfl ?_)
   all_goals try contradiction
   all_goals first|refine Fo ?_|refine Fu ?_|refine On aF ?_
   all_goals first|refine Fo ?_|refine Fu ?_|refine On (by exact aA rfl rfl aFg rfl (hdT _)) ?_
   all_goals first|refine Fo ?_|refine On cW ?_
   all_goals refine Dd cW<|Da ?_
   all_goals(exact⟨⟨_,rfl,by first|(rw [hv5,h177];rfl)|(rw [hv5,h177,h183];rfl)|(rw [hv5,h177,h183,h189];rfl)|(rw [hv5,h177,h183,h189,h195];rfl)|(rw [hv5,h177,h183,h189,h195,h203];rfl)|(rw [hv5,h177,h183,h189,h195,h203,h206];rfl)⟩,rfl,rfl,rfl⟩)
  exact aC<|Rt<|Qq
end Go.Proofs.YtiifmppaejpemaaGreatDoor
namespace Go.Proofs.YtiifmppaejpemaaGreatDoor
open Go.Proofs.Tryz
open Go.Abs Go.Lib
structure FSeal (s:GSeal):Prop where
 i0:0≤s.idx
 i1:s.idx < 256
 sl:s.sig.length≤18
 pl:s.path.length≤8
 sa:∀ t∈s.sig,isJ t=true
 pa:∀ t∈s.path,isJ t=true
theorem WU {s:GSeal} (h:uW s=true):s=⟨0,[],[]⟩:=by rw [uW,aOI,aOG,aOG,aNz,aNz] at h;obtain ⟨i,a,b⟩:=s;obtain ⟨h1,h2⟩:=h;simp only at h1 h2;have ha:a=[]:=List.eq_nil_of_length_eq_zero (by omega);have hb:b=[]:=List.eq_nil_of_length_eq_zero (by omega);subst h1 ha hb;rfl
theorem kZ {s:GSeal} (h:kD s=true):FSeal s:=by
 rw [kD,Bool.or_eq_true] at h;rcases h with h|h
 ·have:=WU h;subst this;exact⟨by decide,by decide,by decide,by decide,by simp,by simp⟩
 simp only [aOI,aOG,aNz,List.all_eq_true] at h;obtain ⟨⟨⟨⟨⟨h1,h2⟩,h3⟩,h4⟩,h5⟩,h6⟩:=h;exact⟨h1,h2,by omega,by omega,h5,h6⟩
structure VF (r:GRec):Prop where
 tr:∀ q∈r.priv.trace,(0≤q.1∧q.1≤1048575)∧(0≤q.2∧q.2≤1048575)
 nm:r.priv.name.size≤200
 rs:r.priv.reason.size≤200
 so:∀ s∈r.priv.sources,s.size≤200
 sol:r.priv.sources.length≤16
 trl:r.priv.trace.length≤200
 psl:kD r.priv.sl=true
 sl:kD r.sl=true
 au:0≤r.author∧r.author≤59
 nu:1≤r.number∧r.number≤128
 cl:1≤r.clock∧r.clock≤1000000
 br:bP r.branch=true
 pal:r.parents.length≤16
 pa:∀ p∈r.parents,isJ p=true
 inc:aJh r.parents=true
 tx:(jJ r.edits).2=true
 k:MC r=true
 ta:r.target=TJ r
 ye:r.yes=wYG r
 od:r.order=wOG r
 fr:r.from'=wFG r
 ed:decide (0 < r.edits.length)=wEG r
 nd:ndG r=true→isJ (TJ r)=true
theorem R9 {s:ByteArray}:IK s=false↔s.size≤200:=by rw [IK,aOH];omega
theorem lI {r:GRec} (h:dT r=true):VF r:=by
 simp only [dT,aOI,aOS] at h;obtain ⟨⟨⟨⟨h1,h2⟩,h3⟩,h4⟩,h5⟩:=h;simp only [v1G,aOV,Bool.not_eq_false',aOS,aOH,aNz,List.any_eq_false,Bool.not_eq_true] at h1;obtain ⟨⟨⟨⟨⟨⟨a1,a2⟩,a3⟩,a4⟩,a5⟩,a6⟩,a7⟩:=h1;simp only [OR,aOV,Bool.not_eq_false',aOH,aNz,List.all_eq_true,oA,aOI,aOG] at h2;obtain ⟨⟨⟨⟨⟨⟨b1,b2⟩,b3⟩,b4⟩,b5⟩,b6⟩,b7⟩:=h2;simp only [v5G,aOI,aOG,beq_iff_eq,aNz,Bool.or_eq_true,aOS] at h5;obtain ⟨⟨⟨⟨⟨c1,c2⟩,c3⟩,c4⟩,c5⟩,c6⟩:=h5;refine⟨fun q hq=>?_,R9.1 (a2 _ (by simp)),R9.1 (a2 _ (by simp)),fun s hs=>R9.1 (a3 s hs),by omega,by omega,a6,a7,b1,b2,b3,b4,by omega,b6,b7,h3,h4,c1,c2,c3,c4,?_,fun hn=>?_⟩
 ·have:=a1 q hq;simp only [R5,aOV,Bool.not_eq_false',aOI,aOG] at this;exact this
 ·rw [← c5];congr 1;exact propext ⟨fun h=>by omega,fun h=>by omega⟩
 rcases c6 with h|h
 ·rw [hn] at h;cases h
 exact h
theorem HH {r:GRec} (h:MC r=true):1≤r.kind∧r.kind≤5:=by
 rw [MC] at h
 split at h
 ·omega
 split at h
 ·omega
 exact aNv h
theorem G9 {s:ByteArray} (h:bP s=true):s.size≤24:=by simp only [bP,aOI,aOG] at h;omega
theorem W0 {l:List GEdit} (h:(fR l).2=0):(fR l).1.size≤20000:=by
 have h2:=IE h;rw [mC] at h2
 split at h2
 ·have:=congrArg Prod.snd h2;cases this
 omega
theorem KO {l:List GEdit} (h:(jJ l).2=true):(jJ l).1.size≤20000:=by
 rw [jJ] at h ⊢
 split at h
 ·next h0 =>
  rw [aNy h0];exact(by decide:(0:Nat)≤20000)
 next h0 =>
 rw [aNx h0];exact W0 (aNv h)
theorem sN {s:ByteArray} (h:isJ s=true):s.size≤16:=Nat.le_of_eq (uA h)
theorem VF.target {r:GRec} (h:VF r):r.target.size≤16:=by
 rw [h.ta];by_cases hn:ndG r=true
 ·exact sN (h.nd hn)
 have:TJ r=sNil:=by
  rw [TJ,aNx];rintro(e|e)<;>simp [ndG,e] at hn
 rw [this];decide
theorem VF.from {r:GRec} (h:VF r):r.from'.size≤24:=by
 rw [h.fr,wFG]
 split
 ·next e =>
  have hk:=h.k;rw [MC,aNx (by omega),aNy e,aOI] at hk;exact G9 hk.1
 decide
theorem VF.order {r:GRec} (h:VF r):0≤r.order∧r.order≤4:=by
 rw [h.od,wOG]
 split
 ·next e =>
  have hk:=h.k;rw [MC,aNy e,oA,aOI,aOG,aOG] at hk;omega
 decide
def WM (p:GPriv):List IV:=[.t p.name,.t p.reason,.l p.sources,.p p.trace]
def EP (r:GRec):List IV:=[.z r.sl.idx r.sl.sig r.sl.path,.t r.priv.name,.t r.priv.reason,.l r.priv.sources,.p r.priv.trace,.z r.priv.sl.idx r.priv.sl.sig r.priv.sl.path]
def pZ (r:GRec):List ByteArray:=gX r++vN (EP r)
def nM (r:GRec):ByteArray:=if dT r=true then AK (gX r)else sNil
def pE (r:GRec):ByteArray×Int:=if dT r=true then(if 20000 < (aM (pZ r)).length then(sNil,2)else(ofL (aM (pZ r)),0))else(sNil,1)
def prW:ByteArray:=⟨#[112,114,105,118,97,116,101]⟩
def rP (r:GRec):ByteArray:=AK ([prW,nM r]++vN (WM r.priv))
def le2 (x:ByteArray):Prop:=x.size≤20000
theorem nW {n:Int} (h0 : -9223372036854775808≤n) (h1:n≤9223372036854775807):le2 (aT n):=Nat.le_trans (oH h0 h1) (by decide)
theorem FI {n:Nat} (h:n < 1099511627776):le2 (aT (n:Int)):=nW (by omega) (by omega)
theorem TZ {s:GSeal} (h:FSeal s):∀ x∈fI (.z s.idx s.sig s.path),le2 x:=by
 intro x hx;have i0:=h.i0;have i1:=h.i1;have l1:=h.sl;have l2:=h.pl;simp only [fI,aOL,List.mem_append] at hx;rcases hx with rfl|(rfl|hx)|(rfl|hx)
 ·exact nW (by omega) (by omega)
 ·exact FI (by omega)
 ·exact Nat.le_trans (sN (h.sa x hx)) (by decide)
 ·exact FI (by omega)
 exact Nat.le_trans (sN (h.pa x hx)) (by decide)
theorem TY {s:GSeal} (h:FSeal s):(fI (.z s.idx s.sig s.path)).length≤29:=by have l1:=h.sl;have l2:=h.pl;simp only [fI,aOB,aOA];omega
theorem CA {r:GRec} (h:VF r):∀ x∈gX r,le2 x:=by
 intro x hx;obtain ⟨v,hv,hx⟩:=List.mem_flatMap.1 hx;have hk:=HH h.k;have h1:=h.au;have h2:=h.nu;have h3:=h.cl;have h4:=h.order;have hn:=G9 h.br;have ht:=h.target;have hf:=h.from
 have hl:=h.pal;simp only [CW,aOL,aOP,or_false] at hv;rcases hv with rfl|rfl|rfl|rfl|rfl|rfl|rfl|rfl|rfl|rfl|rfl|rfl<;>simp only [fI,aOL,aOP,or_false] at hx
 ·subst hx;exact(by decide:T6.size≤20000)
 ·subst hx;exact nW (by omega) (by omega)
 ·subst hx;exact nW (by omega) (by omega)
 ·subst hx;exact nW (by omega) (by omega)
 ·subst hx;exact nW (by omega) (by omega)
 ·subst hx;exact Nat.le_trans hn (by decide)
 ·rcases hx with rfl|hx
  ·exact FI (by omega)
  exact Nat.le_trans (sN (h.pa x hx)) (by decide)
 ·subst hx;exact KO h.tx
 ·subst hx;exact Nat.le_trans ht (by decide)
 ·subst hx;split<;>exact nW (by decide) (by decide)
 ·subst hx;exact nW (by omega) (by omega)
 subst hx;exact Nat.le_trans hf (by decide)
theorem yN {r:GRec} (h:VF r):(gX r).length≤28:=by have:=h.pal;rw [gX,UC];omega
theorem aDW {r:GRec} (h:VF r):∀ x∈vN (WM r.priv),le2 x:=by
 intro x hx;obtain ⟨v,hv,hx⟩:=List.mem_flatMap.1 hx;have h1:=h.nm;have h2:=h.rs;have h3:=h.sol;have h4:=h.trl;simp only [WM,aOL,aOP,or_false] at hv;rcases hv with rfl|rfl|rfl|rfl<;>simp only [fI,aOL,aOP,or_false,List.mem_flatMap] at hx
 ·subst hx;exact Nat.le_trans h1 (by decide)
 ·subst hx;exact Nat.le_trans h2 (by decide)
 ·rcases hx with rfl|hx
  ·exact FI (by omega)
  exact Nat.le_trans (h.so x hx) (by decide)
 rcases hx with rfl|⟨q,hq,hx⟩
 ·exact FI (by omega)
 obtain ⟨q1,q2⟩:=h.tr q hq;rcases hx with rfl|rfl
 ·exact nW (by omega) (by omega)
 exact nW (by omega) (by omega)
theorem aD3 (ps:List (Int×Int)):(fI (.p ps)).length=1+2*ps.length:=by rw [show fI (.p ps)=aT (ps.length:Int)::NG ps from rfl,aOB,JT];omega
theorem aDV {r:GRec} (h:VF r):(vN (WM r.priv)).length≤420:=by have h3:=h.sol;have h4:=h.trl;have:=aD3 r.priv.trace;simp only [vN,WM,List.flatMap_cons,List.flatMap_nil,aOA,this];simp only [fI,aOB,List.length_nil];omega
theorem aDF (r:GRec):vN (EP r)=fI (.z r.sl.idx r.sl.sig r.sl.path)++(vN (WM r.priv)++fI (.z r.priv.sl.idx r.priv.sl.sig r.priv.sl.path)):=by simp [vN,EP,WM,List.flatMap_cons]
theorem aGV {r:GRec} (h:VF r):∀ x∈vN (EP r),le2 x:=by
 intro x hx;rw [aDF] at hx;rcases List.mem_append.1 hx with hx|hx
 ·exact TZ (kZ h.sl) x hx
 rcases List.mem_append.1 hx with hx|hx
 ·exact aDW h x hx
 exact TZ (kZ h.psl) x hx
theorem Z1 {r:GRec} (h:VF r):(vN (EP r)).length≤478:=by have h1:=TY (kZ h.sl);have h2:=TY (kZ h.psl);have h3:=aDV h;rw [aDF,aOA,aOA];omega
theorem yX {M:Nat} (hM:M < 1000000000000000000):∀ (L:List ByteArray),(∀ s∈L,s.size≤M)→(aM L).length≤L.length*(M+22)
 | [],_=>aOQ _
 | s::L,h=>by
  have ih:=yX hM L fun x hx=>h x (List.mem_cons_of_mem _ hx);have hs:=h s List.mem_cons_self;have hi:=oH (n:=(s.size:Int)) (by omega) (by omega);rw [show aM (s::L)=(nJ s).data.toList++aM L by rw [aM,List.flatMap_cons];rfl,aOA,mO,oU,aOB,Nat.succ_mul];omega
theorem tX {L:List ByteArray} (h:∀ x∈L,le2 x) {n:Nat} (hn:L.length≤n):(aM L).length≤n*20022:=Nat.le_trans (yX (M:=20000) (by decide) L h) (Nat.mul_le_mul_right _ hn)
end Go.Proofs.YtiifmppaejpemaaGreatDoor
namespace Go.Abs
theorem aI.fin {P:Program} {f:FuncId} {args:List AV} {H:aB} {Q Q':AV→aB→Prop} (h:aI P f args H Q) (hq:∀ r H1,Q r H1→∃ r' H2,Fin H H1 r H2 r'∧Q' r' H2):aI P f args H Q' :=fun I ι w vs hr hl hv=>(h I ι w vs hr hl hv).mono fun _ w' ⟨r,H',I',ι',v,e,q,k1,k2,k3⟩=>by
  obtain ⟨r',H2,hf,hq'⟩:=hq r H' q;obtain ⟨I2,ι2,a1,a2,a3⟩:=hf ⟨I,ι,H,w,[]⟩ rfl I' ι' w' v k2 k3 k1;exact⟨r',H2,I2,ι2,v,e,hq',a3,a1,a2⟩
end Go.Abs
namespace Go.Proofs.YtiifmppaejpemaaGreatDoor
open Go.Proofs.Tryz
open Go.Abs
theorem not_not {b:Bool} (h:(!b)=true):b=false:=by cases b;rfl;cases h
theorem CG {b:Bool} (h:(!b)=false):b=true:=by cases b;cases h;rfl
theorem qG {α:Type} (f:α→List PV) (l:List α):((l.map f).take (0+l.length)).drop 0=l.map f:=by rw [aOR,List.drop_zero];exact List.take_of_length_le (by rw [aNz];exact aOF _)
theorem VR (l:List ByteArray):rT ⟨(aM l).toArray⟩=AK l:=rfl
theorem aBS (r:GRec) (hr:jG r) (hp:r.parents.length < 549755813888) (H:aB):aI Tryz.prog 45 [av (cF r)] H (fun x H'=>x=.pv (aX (gX r))∧H'=H):=by refine aI.pure ((PF r hr hp).fin ?_) (by simp [cF]) H;rintro _ _ ⟨rfl,rfl⟩;exact⟨_,[],Fin.fz (id:=971) (ob:=⟨UD r,1,9,dS (gX r)⟩) ((gX r).map encStr) rfl (fN _) (.osl (qG encStr _)) rfl trivial trivial,rfl,rfl⟩
theorem aBT (r:GRec) (hr:jG r) (hp:r.parents.length < 549755813888) {H:aB} (hno:H.get 971=none):aI Tryz.prog 45 [av (cF r)] H (fun x H'=>x=.osl 971 (UD r) 0 (gX r).length∧H'=(971,⟨UD r,1,9,dS (gX r)⟩)::H) :=aI.frame (PF r hr hp) (fun _ _ h=>by cases h) (fun _ _ h=>by cases h) (by simp [cF]) (fun id h=>.inr (by
  by_cases e:971=id
  ·subst e;exact hno
  simp [aB.get,kE e] at h))
theorem MF (r:GRec) (hr:jG r) (hp:r.parents.length < 549755813888) (H:aB):aI Tryz.prog 19 [av (cF r)] H (fun x H'=>x=sv (nM r)∧H'=H):=by
 refine aI.pure ?_ (by simp [cF]) H;have hv:=fun H=>EG r hr hp H;have hpu:=fun H=>aBS r hr hp H;rw [nM];refine Bd func19 rfl ntmps19<|Sr<|Dd (by exact cH (id:=1) rfl rfl rfl rfl rfl)<|Dd aN<|Zz<|Sq<|Sr<|Dd (rQ bD aQ)<|Dd (by exact aA rfl rfl GJ rfl (hv _))<|Dd jS<|Zz ?_;refine Cn ?_ ?_<;>intro hc1
 ·have hb:=not_not hc1;rw [aNx (by rw [hb];decide)];exact Sr<|Dd aN<|Zz<|aC<|Rt<|Qq
 have hb:=CG hc1;have hf:=lI hb;have hsz:=tX (CA hf) (yN hf);rw [aNy hb];have hjo:=fun H=>P4 (gX r) H (by omega);have hsu:=fun H=>KU ⟨(aM (gX r)).toArray⟩ H (by rw [show (⟨(aM (gX r)).toArray⟩:ByteArray).size=(aM (gX r)).length from by simp [ByteArray.size]];omega);rw [VR] at hsu;exact aD<|Sr<|Dd (rQ bD aQ)<|Dd (by exact aA rfl rfl call45 rfl (hpu _))<|Dd (by exact aA rfl rfl call47 rfl (hjo _))<|Dd (by exact aA rfl rfl AQ rfl (hsu _))<|Dd aN<|Zz<|aC<|Rt<|Qq
theorem aGW {r:GRec} (h:jG r) (hv:VF r):∀ v∈EP r,okI v:=by
 obtain ⟨_,_,_,_,⟨a1,a2,a3⟩,b1,b2,b3,b4,c1,c2,c3⟩:=h;intro v hv';simp only [EP,aOL,aOP,or_false] at hv';rcases hv' with rfl|rfl|rfl|rfl|rfl|rfl
 ·exact⟨a1,a2.1,a3.1⟩
 ·exact trivial
 ·exact trivial
 ·exact b3.1
 ·exact⟨b4,fun q hq=>by
   obtain ⟨⟨q1,q2⟩,q3,q4⟩:=hv.tr q hq;exact⟨⟨by omega,by omega⟩,by omega,by omega⟩⟩
 exact⟨c1,c2.1,c3.1⟩
theorem aJB {r:GRec} (h:jG r) (hv:VF r):∀ v∈WM r.priv,okI v:=by
 obtain ⟨_,_,_,_,_,b1,b2,b3,b4,c1,c2,c3⟩:=h;intro v hv';simp only [WM,aOL,aOP,or_false] at hv';rcases hv' with rfl|rfl|rfl|rfl
 ·exact trivial
 ·exact trivial
 ·exact b3.1
 exact⟨b4,fun q hq=>by
  obtain ⟨⟨q1,q2⟩,q3,q4⟩:=hv.tr q hq;exact⟨⟨by omega,by omega⟩,by omega,by omega⟩⟩
theorem Q8 (r:GRec) (hr:jG r) (hp:r.parents.length < 549755813888) (H:aB):aI Tryz.prog 13 [av (cF r)] H (fun x H'=>x=.tup [sv (pE r).1,iv (pE r).2]∧H'=H):=by
 refine aI.pure ?_ (by simp [cF]) H;have hv:=fun H=>EG r hr hp H;have hpu:=fun H hno=>aBT r hr hp (H:=H) hno;rw [pE];refine Bd func13 rfl ntmps13<|Sr<|Dd (by exact cH (id:=1) rfl rfl rfl rfl rfl)<|Dd aN<|Dd aN<|Zz<|Sq<|Sr<|Dd (rQ bD aQ)<|Dd (by exact aA rfl rfl GJ rfl (hv _))<|Dd jS<|Zz ?_;refine Cn ?_ ?_<;>intro hc1
 ·have hb:=not_not hc1;rw [aNx (by rw [hb];decide)];exact Sr<|Dd aN<|Dd aN<|Zz<|aC<|Ru<|Qq
 have hb:=CG hc1;have hf:=lI hb;have hsz:=tX (L:=pZ r) (n:=506) (fun x hx=>(List.mem_append.1 hx).elim (CA hf x) (aGV hf x)) (by
  have:=yN hf;have:=Z1 hf;rw [pZ,aOA];omega)
 have hpl:=yN hf;have hsl:=Z1 hf;rw [aNy hb];have hadd:=Y7 (EP r) (aGW hr hf) (UD r) (gX r) (show 6 < 1099511627776 by decide) (by omega);have hjo:=fun H=>P4 (pZ r) H (by omega);have hal:pZ r=gX r++vN (EP r):=rfl;rw [← hal] at hadd;obtain ⟨S,hS⟩:∃ S,S=pZ r:=⟨_,rfl⟩;obtain ⟨g,hg⟩:∃ g,g=UD r+YN (EP r):=⟨_,rfl⟩;rw [← hS] at hadd hjo hsz ⊢;rw [← hg] at hadd;have hof:(⟨(aM S).toArray⟩:ByteArray)=ofL (aM S):=rfl;rw [hof] at hjo;have hos:(ofL (aM S)).size=(aM S).length:=dA _;refine aD<|Sr<|Dd (rQ bD aQ)<|Dd (by exact aA rfl rfl call45 rfl (hpu _ rfl))<|Dd (by exact bU (id:=970) rfl aK3 rfl rfl)<|Uu (kQ HZ)<|Zz<|Sr<|Dd (aV nA)<|Dd (rQ fM sizeOf25)<|Dd (by exact E7 (ps:=jC r.sl) rfl (dM gH rfl) rfl)<|Dd (aV fW)<|Dd (aV DX)<|Dd (bM isAgg9)<|Dd (by exact fB (p:=.str r.priv.name) rfl (dM underlying9 rfl) rfl)<|Dd (aV fW)<|Dd (aV DW)<|Dd (bM isAgg9)<|Dd (by exact fB (p:=.str r.priv.reason) rfl (dM underlying9 rfl) rfl)<|Dd (aV fW)<|Dd (aV BN)<|Dd (bM aH)<|Dd (by exact fB (p:=aX r.priv.sources) rfl (dM aE rfl) rfl)<|Dd (aV fW)<|Dd (aV uF)<|Dd (bM kH)<|Dd (by exact fB (p:=rA r.priv.trace) rfl (dM eR rfl) rfl) ?_;refine Dd (aV fW)<|Dd (aV pU)<|Dd (rQ fM sizeOf25)<|Dd (by exact E7 (ps:=jC r.priv.sl) rfl (dM gH rfl) rfl)<|Dd (by exact aR ((EP r).map wA) rfl vB rfl rfl rfl rfl rfl (MS (EP r)))<|Dd (by exact aA rfl rfl uS rfl (WI hadd ⟨rfl,rfl,trivial⟩ (by simp;rfl)))<|Zz<|Sq ?_;refine gK.ent (cY.fzG (id:=971) (E':=[(4,.ref 970 0 0 0)]) (H':=[(970,bx 1 77 [.pv (aX S)])]) (S.map encStr) rfl (fN _) ?_ rfl ?_ ?_) ?_
 ·intro p hp;simp only [aOL,aOP,or_false] at hp;rcases hp with rfl;exact⟨_,rfl,.same (by simp;rfl)⟩
 ·exact⟨⟨_,rfl,rfl,rfl,rfl,pP rfl (dN (.osl (qG encStr _)) pQ)⟩,trivial⟩
 ·exact trivial
 refine Rg<|Dd (bM CY)<|Dd (by exact aA rfl rfl call47 rfl (hjo _))<|Dd aN<|Zz<|Sq<|Sr<|Dd aF<|Dd (lH underlying9)<|Dd jE<|Zz ?_;refine Cn ?_ ?_<;>intro hc2
 ·have hlt:20000 < (aM S).length:=by have:=aNv hc2;omega
  rw [aNy hlt];exact Sr<|Dd aN<|Dd aN<|Zz<|aC<|Ru<|Qq
 have hlt:¬ 20000 < (aM S).length:=by have:=aNw hc2;omega
 rw [aNx hlt];exact aD<|Sr<|Dd aF<|Dd aN<|Dd aN<|Zz<|aC<|Ru<|Qq
theorem J5 (r:GRec):(nM r).size≤20000:=by
 by_cases h:dT r=true
 ·rw [nM,aNy h];exact Nat.le_trans (Nat.le_of_eq (jU _)) (by decide)
 rw [nM,aNx h];decide
theorem PX (r:GRec) (hr:jG r) (hp:r.parents.length < 549755813888) (hb:dT r=true) (H:aB):aI Tryz.prog 85 [av (cF r)] H (fun x H'=>x=sv (rP r)∧H'=H):=by
 refine aI.pure ?_ (by simp [cF]) H;have hid:=fun H=>MF r hr hp H;have hf:=lI hb;have hpl:=aDV hf;have hadd:=Y7 (WM r.priv) (aJB hr hf) 0 [prW,nM r] (show 4 < 1099511627776 by decide) (by simp only [aOB,List.length_nil];omega);have his:=J5 r;have hsz:=tX (L:=[prW,nM r]++vN (WM r.priv)) (n:=422) (fun x hx=>(List.mem_append.1 hx).elim (fun hx=>by
   simp only [aOL,aOP,or_false] at hx;rcases hx with rfl|rfl
   ·exact(by decide:prW.size≤20000)
   exact his) (aDW hf x)) (by rw [aOA,aOB,aOB,List.length_nil];omega)
 rw [rP];have hli:=fun H=>aEF ([prW,nM r]++vN (WM r.priv)) H (by omega);obtain ⟨S,hS⟩:∃ S,S=[prW,nM r]++vN (WM r.priv):=⟨_,rfl⟩;obtain ⟨g,hg⟩:∃ g,g=0+YN (WM r.priv):=⟨_,rfl⟩;rw [← hS] at hadd hli ⊢;rw [← hg] at hadd;obtain ⟨i,hi⟩:∃ i,i=nM r:=⟨_,rfl⟩;rw [← hi] at hid hadd;refine Bd func85 rfl ntmps85<|Sr<|Dd (by exact cH (id:=1) rfl rfl rfl rfl rfl)<|Dd aN<|Zz<|Sr<|Dd (rQ bD aQ)<|Dd (by exact aA rfl rfl AR rfl (hid _))<|Dd (by exact iL (id:=971) rfl W9 rfl rfl rfl rfl (by intro r hr;simp only [aOL,aOP,or_false] at hr;rcases hr with rfl|rfl<;>rfl) rfl)<|Dd (by exact bU (id:=970) rfl aK3 rfl rfl)<|Uu (kQ HZ)<|Zz<|Sr<|Dd (aV fW)<|Dd (aV DX)<|Dd (bM isAgg9)<|Dd (by exact fB (p:=.str r.priv.name) rfl (dM underlying9 rfl) rfl)<|Dd (aV fW)<|Dd (aV DW)<|Dd (bM isAgg9)<|Dd (by exact fB (p:=.str r.priv.reason) rfl (dM underlying9 rfl) rfl)<|Dd (aV fW)<|Dd (aV BN)<|Dd (bM aH)<|Dd (by exact fB (p:=aX r.priv.sources) rfl (dM aE rfl) rfl) ?_;refine Dd (aV fW)<|Dd (aV uF)<|Dd (bM kH)<|Dd (by exact fB (p:=rA r.priv.trace) rfl (dM eR rfl) rfl)<|Dd (by exact aR ((WM r.priv).map wA) rfl vB rfl rfl rfl rfl rfl (MS (WM r.priv)))<|Dd (by exact aA rfl rfl uS rfl (WI hadd ⟨rfl,rfl,trivial⟩ (by simp;rfl)))<|Zz<|Sq ?_;refine gK.ent (cY.fzG (id:=971) (E':=[(3,.ref 970 0 0 0)]) (H':=[(970,bx 1 77 [.pv (aX S)])]) (S.map encStr) rfl (fN _) ?_ rfl ?_ ?_) ?_
 ·intro p hp;simp only [aOL,aOP,or_false] at hp;rcases hp with rfl;exact⟨_,rfl,.same (by simp;rfl)⟩
 ·exact⟨⟨_,rfl,rfl,rfl,rfl,pP rfl (dN (.osl (qG encStr _)) pQ)⟩,trivial⟩
 ·exact trivial
 exact Rg<|Dd (bM CY)<|Dd (by exact aA rfl rfl call133 rfl (hli _))<|Dd aN<|Zz<|aC<|Rt<|Qq
def nH (r:GRec):GRec:={r with priv:=⟨sNil,sNil,[],[],⟨0,[],[]⟩⟩}
theorem aHn (r:GRec) (H:aB):aI Tryz.prog 24 [av (cF r)] H (fun x H'=>x=av (cF (nH r))∧H'=H):=by refine aI.pure ?_ (by simp [cF]) H;refine Bd func24 rfl ntmps24<|Sr<|Dd (by exact cH (id:=1) rfl rfl rfl rfl rfl)<|Dd (by exact bU (id:=2) rfl NH rfl rfl)<|Zz<|Sr<|Dd (uQ aKF)<|Dd (aV fW)<|Uu (by exact kT rfl sizeOf28 rfl rfl rfl rfl rfl rfl rfl (aOM rfl) rfl rfl)<|Zz<|Sr<|Dd (rQ bD aQ)<|Uu (kQ aQ)<|Zz<|aC ?_;refine dY (H':=[]) (.inr rfl) rfl (fV rfl bD aQ rfl rfl rfl (by simp only [Zl,encStr];rfl) rfl) (Fin.wk (by simp [cF]) trivial trivial) ?_;exact Qq
end Go.Proofs.YtiifmppaejpemaaGreatDoor
namespace Go.Abs
section
abbrev GK:=List PanicEntry
def AS (P:Program) (N:Nat) (o:Oper) (E:cB) (H:aB) (R:AV→aB→Prop) (PP:GK→aB→Prop):Prop :=∀ (a:Act) (w:World) (I:Nat→Prop) (ι:eS),a.tmps.size=N→Rel I ι H w→iO w I ι H E a→∀ (K:Act→World→Prop) (Q:Exit→Act→World→Prop),
  (∀ c w' I' ι' r H',R r H'→VRel w' I' ι' H' c r→Rel I' ι' H' w'→Step I ι H w I' ι' H' w'→K (a.put o.dst c) w') →
  (∀ ch w' I' ι' H',PP ch H'→Rel I' ι' H' w'→Step I ι H w I' ι' H' w'→Q (.panic ch) a w')→o.wpW P a w K Q
theorem AS.of {P:Program} {N:Nat} {o:Oper} {E:cB} {H:aB} {R:AV→aB→Prop} {PP:GK→aB→Prop} (h:Y9 P N o E H R):AS P N o E H R PP :=fun a w I ι hs hr he K Q hk _=>h a w I ι trivial hs hr he K Q hk
theorem AS.opr {P:Program} {N:Nat} {o:Oper} {E:cB} {H:aB} {R:AV→aB→Prop} (h:AS P N o E H R (fun _ _=>False)):Y9 P N o E H R :=fun a w I ι _ hs hr he K Q hk=>h a w I ι hs hr he K Q hk (fun _ _ _ _ _ hf=>hf.elim)
def eV (P:Program) (f:FuncId) (args:List AV) (H:aB) (Q:AV→aB→Prop) (PP:GK→aB→Prop):Prop :=∀ (I:Nat→Prop) (ι:eS) (w:World) (vs:Array Value),Rel I ι H w→vs.size=args.length→(∀ (i:Nat) (v:Value) (a:AV),vs[i]?=some v→args[i]?=some a→VRel w I ι H v a) →
  Calls P f vs w fun e w'=>(∃ r H' I' ι' v,e=.returned v∧Q r H'∧VRel w' I' ι' H' v r∧Rel I' ι' H' w'∧Step I ι H w I' ι' H' w')∨(∃ ch H' I' ι',e=.panicked ch∧PP ch H'∧Rel I' ι' H' w'∧Step I ι H w I' ι' H' w')
section
variable {P:Program} {f:FuncId} {args:List AV} {H:aB} {Q:AV→aB→Prop} {PP:GK→aB→Prop}
theorem eV.of (h:aI P f args H Q):eV P f args H Q PP:=fun I ι w vs hr hl hv=>(h I ι w vs hr hl hv).mono fun _ _ h=>.inl h
theorem eV.mono {Q':AV→aB→Prop} {PP':GK→aB→Prop} (h:eV P f args H Q PP) (hq:∀ r H',Q r H'→Q' r H') (hp:∀ ch H',PP ch H'→PP' ch H'):eV P f args H Q' PP' :=fun I ι w vs hr hl hv=>(h I ι w vs hr hl hv).mono fun _ _ h=>h.elim (fun⟨r,H',I',ι',v,e,q,rest⟩=>.inl ⟨r,H',I',ι',v,e,hq _ _ q,rest⟩) (fun⟨ch,H',I',ι',e,q,rest⟩=>.inr ⟨ch,H',I',ι',e,hp _ _ q,rest⟩)
theorem eV.calls (h:eV P f args H Q PP) (hn:∀ ch H',¬ PP ch H'):aI P f args H Q :=fun I ι w vs hr hl hv=>(h I ι w vs hr hl hv).mono fun _ _ h=>h.elim id (fun⟨ch,H',_,_,_,q,_⟩=>(hn ch H' q).elim)
end
section
variable {P:Program} {N:Nat} {o:Oper} {E:cB} {H:aB} {Q:AV→aB→Prop} {PP:GK→aB→Prop}
theorem eD {F:FuncId} {f:Operand} {args:Array Operand} {at_:Array TypeId} {vs:List AV} (ho:o.op=.call {callee:=.value f,args:=args,argTypes:=at_}) (hf:aP E f=some (.pv (.fn F)))
  (hc:∀ (args:Array Value) (w:World),(callFunc F args).run P w=.ok (.enter F args) w) (hv:vR E args.toList=some vs) (h:eV P F vs H Q PP):AS P N o E H Q PP:=by
 intro a w I ι _ hr he K QQ hk hp;have hfv:=(aJ he hf).fn_inv;obtain ⟨h1,h2⟩:=mS he (lE hv);unfold Oper.wpW execOp;simp only [ho,resolve,hfv,Deferred.ofValue,Sem.run_bind,Sem.run_pure,Result.andThen_ok,invoke,hc,Oper.uponW_enter];refine(h I ι w _ hr (by simpa using h1) (fun i v b hv hb=>h2 i v b (by simpa using hv) hb)).mono ?_;rintro e w' (⟨r,H',I',ι',v,rfl,hq,k1,k2,k3⟩|⟨ch,H',I',ι',rfl,hq,k2,k3⟩)
 ·exact hk v w' I' ι' r H' hq k1 k2 k3
 exact hp ch w' I' ι' H' hq k2 k3
theorem C4 {F:FuncId} {f:Operand} {args:Array Operand} {at_:Array TypeId} {vs caps:List AV} (ho:o.op=.call {callee:=.value f,args:=args,argTypes:=at_}) (hf:aP E f=some (.clo F caps))
  (hc:∀ (args:Array Value) (w:World),(callFunc F args).run P w=.ok (.enter F args) w) (hv:vR E args.toList=some vs) (h:eV P F (vs++caps) H Q PP):AS P N o E H Q PP:=by
 intro a w I ι _ hr he K QQ hk hp;have hfv:=aJ he hf;generalize hfc:a.eval f=fc at hfv;obtain ⟨h1,h2⟩:=mS he (lE hv);cases hfv with
 | @clo _ us _ hl hh =>
  unfold Oper.wpW execOp;simp only [ho,resolve,hfc,Deferred.ofValue,Sem.run_bind,Sem.run_pure,Result.andThen_ok,invoke,hc,Oper.uponW_enter,Array.empty_append];have h1':args.size=vs.length:=by simpa using h1
  refine(h I ι w _ hr (by simp [hl,h1']) (fun i v b hv hb=>?_)).mono ?_
  ·by_cases hi:i < args.size
   ·rw [Array.getElem?_append_left (by simpa using hi)] at hv;rw [List.getElem?_append_left (by omega)] at hb;exact h2 i v b (by simpa using hv) hb
   rw [Array.getElem?_append_right (by simp;omega)] at hv;rw [List.getElem?_append_right (by omega)] at hb;simp only [Array.size_map] at hv;rw [h1'] at hv;exact hh _ v b hv hb
  rintro e w' (⟨r,H',I',ι',v,rfl,hq,k1,k2,k3⟩|⟨ch,H',I',ι',rfl,hq,k2,k3⟩)
  ·exact hk v w' I' ι' r H' hq k1 k2 k3
  exact hp ch w' I' ι' H' hq k2 k3
end
section
variable {P:Program} {N:Nat} {o:Oper} {E:cB} {H:aB} {Q:AV→aB→Prop} {PP:GK→aB→Prop} {t t' T:TypeId} {x y:Operand}
theorem mR {f:FuncId} {xs:Array Operand} {vs:List AV} (ho:o.op=.makeFunc (.func f) xs #[]) (hv:vR E xs.toList=some vs):dF P N o E H (.bnd f vs) H :=.of_run fun a w I ι _ he=>by
  obtain ⟨h1,h2⟩:=mS he (lE hv);exact⟨.func (.func f) (xs.map a.eval) #[],by simp [execOp,ho,Instr.makeFunc],.bnd (by simpa using h1) (fun i v b hv hb=>h2 i v b (by simpa using hv) hb)⟩
theorem C5 {F:FuncId} {f:Operand} {args:Array Operand} {at_:Array TypeId} {vs xs:List AV} (ho:o.op=.call {callee:=.value f,args:=args,argTypes:=at_}) (hf:aP E f=some (.bnd F xs))
  (hc:∀ (args:Array Value) (w:World),(callFunc F args).run P w=.ok (.enter F args) w) (hv:vR E args.toList=some vs) (h:eV P F (xs++vs) H Q PP):AS P N o E H Q PP:=by
 intro a w I ι _ hr he K QQ hk hp;have hfv:=aJ he hf;generalize hfc:a.eval f=fc at hfv;obtain ⟨h1,h2⟩:=mS he (lE hv);cases hfv with
 | @bnd _ us _ hl hh =>
  unfold Oper.wpW execOp;simp only [ho,resolve,hfc,Deferred.ofValue,Sem.run_bind,Sem.run_pure,Result.andThen_ok,invoke,hc,Oper.uponW_enter,Array.append_empty];have h1':args.size=vs.length:=by simpa using h1
  refine(h I ι w _ hr (by simp [hl,h1']) (fun i v b hv hb=>?_)).mono ?_
  ·by_cases hi:i < us.size
   ·rw [Array.getElem?_append_left hi] at hv;rw [List.getElem?_append_left (by omega)] at hb;exact hh i v b hv hb
   rw [Array.getElem?_append_right (by omega)] at hv;rw [List.getElem?_append_right (by omega)] at hb;rw [hl] at hv;exact h2 _ v b (by simpa using hv) hb
  rintro e w' (⟨r,H',I',ι',v,rfl,hq,k1,k2,k3⟩|⟨ch,H',I',ι',rfl,hq,k2,k3⟩)
  ·exact hk v w' I' ι' r H' hq k1 k2 k3
  exact hp ch w' I' ι' H' hq k2 k3
abbrev ms (t:TypeId):GK:=[{v:=.iface t (.agg #[]),recovered:=false}]
theorem PJ (ho:o.op=.panic x) (hx:aP E x=some (.pv (.ifa t []))):AS P N o E H (fun _ _=>False) (fun ch H'=>ch=ms t∧H'=H):=by intro a w I ι _ hr he K QQ hk hp;obtain ⟨cs,e1,hl,_⟩:=(aJ he hx).ifa_inv;have:cs=#[]:=Array.eq_empty_of_size_eq_zero (by simpa using hl);subst this;unfold Oper.wpW execOp;simp only [ho,e1];exact hp _ w I ι H ⟨rfl,rfl⟩ hr (Step.refl _ _ _ _)
end
section
variable {P:Program} {G0:aB} {N:Nat} {E:cB} {H:aB} {ops:Array Oper} {Q:Exit→cB→aB→Prop} {o:Oper} {rest:List Oper} {R:AV→aB→Prop} {PP:GK→aB→Prop}
def ALP (P:Program) (G0:aB) (N:Nat) (ops:Array Oper) (Q:Exit→cB→aB→Prop) (l:List Oper) (E:cB) (H:aB):Prop :=∀ G:Entry,G.H=G0→∀ a w,St G N E H a w→∀ ro,(ro=none∨l.all Oper.noDefer=true)→wpListIn (RF ro) 0 P ops (fun e a w=>∃ E H,Q e E H∧St G N E H a w) l a w
theorem KB (h:Q .normal E H):ALP P G0 N ops Q [] E H:=fun _ _ a w hs _ _=>⟨E,H,h,hs⟩
theorem St.opP {G:Entry} {a:Act} {w:World} (hs:St G N E H a w) (hd:iC N o.dst=true) (h:AS P N o E H R PP) {K:Act→World→Prop} {Q:Exit→Act→World→Prop}
  (hk:∀ r H' a' w',R r H'→St G N (jL E o.dst r) H' a' w'→K a' w') (hp:∀ ch H' w',PP ch H'→St G N E H' a w'→Q (.panic ch) a w') {ro:Option Nat} (hn:ro=none∨o.noDefer=true):o.wpIn (RF ro) 0 P a w K Q:=by
 refine Oper.wpW_in hn ?_;obtain ⟨I,ι,hr,hst,he⟩:=hs.rel;refine h a w I ι hs.size hr he K Q ?_ ?_
 ·intro c w' I' ι' r H' hR hv hr' hs';refine hk r H' _ w' hR ⟨?_,?_,I',ι',hr',hst.trans hs',iO.put hr hs' he hv (by rw [hs.size];exact hd)⟩
  ·rw [gQ];exact hs.defers.step hr hs'
  have:=hs.size;cases o.dst<;>simpa [Act.put] using this
 intro ch w' I' ι' H' hP hr' hs';exact hp ch H' w' hP ⟨hs.defers.step hr hs',hs.size,I',ι',hr',hst.trans hs',fun t v ht=>let ⟨c,h1,h2⟩:=he t v ht;⟨c,h1,h2.mono hr hs'⟩⟩
theorem aFK (hg:o.guard=none) (hd:iC N o.dst=true) (h:AS P N o E H R PP) (hp:∀ ch H',PP ch H'→Q (.panic ch) E H') (hk:∀ r H',R r H'→ALP P G0 N ops Q rest (jL E o.dst r) H'):ALP P G0 N ops Q (o::rest) E H:=by intro G hG a w hs ro hro;refine wpListIn_plain hg fun K' hK=>?_;exact hs.opP hd h (fun r H' a' w' hR hs'=>hK _ _ (hk r H' hR G hG a' w' hs' ro (kX hro).2)) (fun ch H' w' hP hs'=>⟨E,H',hp ch H' hP,hs'⟩) (kX hro).1
theorem aI3 (hg:o.guard=none) (hd:iC N o.dst=true) (h:Y9 P N o E H R) (hk:∀ r H',R r H'→ALP P G0 N ops Q rest (jL E o.dst r) H'):ALP P G0 N ops Q (o::rest) E H :=aFK (PP:=fun _ _=>False) hg hd (.of h) (fun _ _ h=>h.elim) hk
theorem gL {d:Tmp} {v:AV} {H2:aB} (hg:o.guard=none) (hd:o.dst=some d) (hn:Nat.blt d N=true) (h:dF P N o E H v H2) (hk:ALP P G0 N ops Q rest ((d,v)::E) H2):ALP P G0 N ops Q (o::rest) E H :=aI3 hg (by rw [hd];exact hn) h fun r H' ⟨e1,e2⟩=>by subst e1 e2;rw [hd];exact hk
theorem aFL {v:AV} {H2:aB} (hg:o.guard=none) (hd:o.dst=none) (h:dF P N o E H v H2) (hk:ALP P G0 N ops Q rest E H2):ALP P G0 N ops Q (o::rest) E H :=aI3 hg (by rw [hd];rfl) h fun r H' ⟨e1,e2⟩=>by subst e1 e2;rw [hd];exact hk
theorem S0 {d:Tmp} {v:AV} {H2:aB} {F:Prop} (hg:o.guard=none) (hd:o.dst=some d) (hn:Nat.blt d N=true) (h:AS P N o E H (fun r H'=>r=v∧H'=H2∧F) PP) (hp:∀ ch H',PP ch H'→Q (.panic ch) E H') (hk:F→ALP P G0 N ops Q rest ((d,v)::E) H2):ALP P G0 N ops Q (o::rest) E H :=aFK hg (by rw [hd];exact hn) h hp fun r H' ⟨e1,e2,e3⟩=>by subst e1 e2;rw [hd];exact hk e3
theorem nZ (hg:o.guard=none) (hd:iC N o.dst=true) (h:AS P N o E H (fun _ _=>False) PP) (hp:∀ ch H',PP ch H'→Q (.panic ch) E H'):ALP P G0 N ops Q (o::rest) E H:=aFK hg hd h hp (fun _ _ h=>h.elim)
theorem fK {id:Nat} (h:ALP P G0 N ops Q ops.toList E H):gK P G0 N (.region id ops false) Q E H:=fun G hG a w hs ro hr=>wpIn_region_list (h G hG a w hs ro hr)
end
def aF6 (P:Program) (fn:Func) (G0:aB) (Q:AV→aB→Prop) (PP:GK→aB→Prop) (e:Exit) (E:cB) (H:aB):Prop :=H8 P fn G0 Q e E H∨∃ ch H',e=.panic ch∧Fin G0 H (.tup []) H' (.tup [])∧PP ch H'
theorem HY {P:Program} {fn:Func} {G0 H:aB} {Q:AV→aB→Prop} {PP:GK→aB→Prop} {e:Exit} {E:cB} (h:H8 P fn G0 Q e E H):aF6 P fn G0 Q PP e E H:=.inl h
theorem BZ {P:Program} {fn:Func} {G0 H H':aB} {Q:AV→aB→Prop} {PP:GK→aB→Prop} {ch:GK} {E:cB} (hf:Fin G0 H (.tup []) H' (.tup [])) (hp:PP ch H'):aF6 P fn G0 Q PP (.panic ch) E H:=.inr ⟨ch,H',rfl,hf,hp⟩
theorem eV.body {P:Program} {f:FuncId} {fn:Func} {c:Code} {args:List AV} {H:aB} {Q:AV→aB→Prop} {PP:GK→aB→Prop} {N:Nat} (hf:P.funcs[f]?=some fn) (hb:fn.body=some c) (hN:fn.ntmps=N) (hlen:args.length≤N)
  (h:gK P H N c (aF6 P fn H Q PP) (lL args) H):eV P f args H Q PP:=by
 intro I ι w vs hr hl hv;refine callsIn_wide.1 (callsIn_of_wp_marks (F:=Fence.wide) (n:=0) hf hb trivial ?_);have hst:St ⟨I,ι,H,w,[]⟩ N (lL args) H {tmps:=vs++Array.replicate (fn.ntmps - vs.size) undef,defers:=[]} w:=by
  refine⟨qD.nil _ _ _,?_,I,ι,hr,Step.refl _ _ _ _,fun t a ht=>?_⟩
  ·simp;omega
  have ha:=sQ ht;have hlt:t < vs.size:=by rw [hl];exact(aOD.1 ha).1
  have hu:vs[t]?=some vs[t]:=Array.getElem?_eq_getElem hlt;exact⟨vs[t],by rw [Array.getElem?_append_left hlt];exact hu,hv t _ a hu ha⟩
 refine wpIn_mono (h ⟨I,ι,H,w,[]⟩ rfl _ w hst none (.inl rfl)) ?_;rintro e a' w' ⟨E',H',(⟨he,r,hres,r',H'',hfin,hq⟩|⟨ch,H'',rfl,hfin,hq⟩),hs⟩
 ·have key:LeavesInM Fence.wide 0 P fn a'.tmps (fun e w'=>(∃ r H' I' ι' v,e=.returned v∧Q r H'∧VRel w' I' ι' H' v r∧Rel I' ι' H' w'∧Step I ι H w I' ι' H' w')∨(∃ ch H' I' ι',e=.panicked ch∧PP ch H'∧Rel I' ι' H' w'∧Step I ι H w I' ι' H' w')) a'.defers .returning w':=by
   obtain ⟨I',ι',hr',hst',hE'⟩:=hs.rel;refine sJ hs.defers hr' hst' hE' ?_;intro w2 hr2 hst2 hE2;obtain ⟨v,h1,h2⟩:=hres a' w2 I' ι' hr2 hE2;obtain ⟨I2,ι2,k1,k2,k3⟩:=hfin ⟨I,ι,H,w,[]⟩ rfl I' ι' w2 v hr2 hst2 h2;exact⟨v,h1,.inl ⟨r',H'',I2,ι2,v,rfl,hq,k3,k1,k2⟩⟩
  rcases he with rfl|rfl
  ·exact key
  exact key
 obtain ⟨I',ι',hr',hst',hE'⟩:=hs.rel;show LeavesInM Fence.wide 0 P fn a'.tmps _ a'.defers (.panicking ch) w';refine vX (by simp) hs.defers hr' hst' hE' ?_;intro w2 hr2 hst2 hE2;obtain ⟨I2,ι2,k1,k2,k3⟩:=hfin ⟨I,ι,H,w,[]⟩ rfl I' ι' w2 (.tuple #[]) hr2 hst2 (.tup rfl (by simp));exact .inr ⟨ch,H'',I2,ι2,rfl,hq,k1,k2⟩
theorem MO {I I':Nat→Prop} {ι ι':eS} {H0 H H':aB} {w w':World} (hr:Rel I ι H w) (hs:Sub H0 H) (k2:Rel I' ι' H' w') (k3:Step I ι H0 w I' ι' H' w') (hk:∀ id,(H'.get id).isSome=true→(H0.get id).isSome=true∨H.get id=none) :
  ∃ ι2,Rel I' ι2 (H'++H) w'∧Step I ι H w I' ι2 (H'++H) w'∧∀ v a,VRel w' I' ι' H' v a→VRel w' I' ι2 (H'++H) v a:=by
 obtain ⟨ι2,hι2⟩:∃ ι2:eS,ι2=(fun j=>if(H'.get j).isSome=true then ι' j else ι j):=⟨_,rfl⟩;have i1:∀ j o,H'.get j=some o→ι2 j=ι' j:=fun j o hj=>by rw [hι2];simp [hj]
 have i2:∀ j,H'.get j=none→ι2 j=ι j:=fun j hj=>by rw [hι2];simp [hj]
 have g1:∀ j o,H'.get j=some o→aB.get (H'++H) j=some o:=fun j o hj=>by rw [fP,hj]
 have g2:∀ j,H'.get j=none→aB.get (H'++H) j=H.get j:=fun j hj=>by rw [fP,hj]
 have hfr:∀ j o,H.get j=some o→H'.get j=none→H0.get j=none:=fun j o hj hn=>by
  cases e:H0.get j with
  | none=>rfl
  | some o0 =>
   obtain ⟨o',e1,_⟩:=k3.objs j o0 e;rw [hn] at e1;cases e1
 have hno:∀ j o b c,H.get j=some o→H'.get j=none→ι j=some (b,c)→¬ I6 ι H0 b:=fun j o b c hj hn hb ⟨j',o',c',hj',hb'⟩=>by
  have:=hr.inj j j' o o' b c c' hj (hs _ _ hj') hb hb';subst this;rw [hfr j o hj hn] at hj';cases hj'
 have hst:Step I ι H w I' ι2 (H'++H) w':=by
  refine⟨k3.os,k3.tape,k3.output,k3.size,fun a ha hn=>k3.froz a ha (fun h=>hn (h.sub hs)),k3.imm,fun b hb=>?_,?_,?_,?_⟩
  ·rcases k3.immNew b hb with h1|h1|h1
   ·exact .inl h1
   ·exact .inr (.inl (h1.sub hs))
   exact .inr (.inr h1)
  ·rintro b ⟨j,o,c,hj,hc⟩;cases e:H'.get j with
   | some o' =>
    rw [i1 j o' e] at hc;rcases k3.own b ⟨j,o',c,e,hc⟩with h1|h1
    ·exact .inl (h1.sub hs)
    exact .inr h1
   | none =>
    rw [i2 j e] at hc;rw [g2 j e] at hj;exact .inl ⟨j,o,c,hj,hc⟩
  ·intro b hb hn;exact k3.keep b hb (fun h=>hn (h.sub hs))
  intro j o hj;cases e:H'.get j with
  | some o' =>
   rcases hk j (by rw [e];rfl)with h1|h1
   ·obtain ⟨o0,e0⟩:=Option.isSome_iff_exists.1 h1;have:=hs _ _ e0;rw [hj] at this;cases this;obtain ⟨o2,q1,q2,q3⟩:=k3.objs j o e0;exact⟨o2,g1 j o2 q1,q2,fun e=>by rw [i1 j o2 q1];exact q3 e⟩
   rw [hj] at h1;cases h1
  | none=>exact⟨o,(g2 j e).trans hj,aOF _,fun _=>⟨i2 j e,rfl,fun _=>aOF _⟩⟩
 have hv':∀ {v:Value} {a:AV},VRel w' I' ι' H' v a→VRel w' I' ι2 (H'++H) v a:=fun hva =>
  hva.mono' (fun _ _=>rfl) (fun _ h=>h) (fun id o ho=>⟨o,g1 id o ho,aOF _,fun _=>⟨i1 id o ho,rfl,fun _=>aOF _⟩⟩)
 refine⟨ι2,⟨k2.imm,fun j o hj=>?_,fun j j' o o' b c c' hj hj' hc hc'=>?_,k2.glob⟩,hst,fun v a h=>hv' h⟩
 ·cases e:H'.get j with
  | some o' =>
   rw [g1 j o' e] at hj;obtain rfl:o'=o:=Option.some.inj hj;exact(k2.obj j o' e).keep (i1 j o' e) (fun _ _ _ _=>⟨rfl,fun h=>h⟩) (fun r _ a _ v hv=>hv' hv)
  | none =>
   rw [g2 j e] at hj;refine(hr.obj j o hj).keep (i2 j e) (fun b' cap' e1 hlt=>⟨k3.keep b' hlt (hno j o b' cap' hj e e1),fun e3 hi=>?_⟩) (fun r _ a _ v hv=>hv.mono hr hst);rcases k3.immNew b' hi with h1|h1|h1
   ·exact e3 h1
   ·exact hno j o b' cap' hj e e1 h1
   omega
 cases e:H'.get j with
 | some q =>
  rw [i1 j q e] at hc;cases e':H'.get j' with
  | some q' =>
   rw [i1 j' q' e'] at hc';exact k2.inj j j' q q' b c c' e e' hc hc'
  | none =>
   rw [i2 j' e'] at hc';rw [g2 j' e'] at hj';have hlt:=hr.lt ⟨j',o',c',hj',hc'⟩;rcases k3.own b ⟨j,q,c,e,hc⟩with h1|h1
   ·exact absurd h1 (hno j' o' b c' hj' e' hc')
   omega
 | none =>
  rw [i2 j e] at hc;rw [g2 j e] at hj;cases e':H'.get j' with
  | some q' =>
   rw [i1 j' q' e'] at hc';have hlt:=hr.lt ⟨j,o,c,hj,hc⟩;rcases k3.own b ⟨j',q',c',e',hc'⟩with h1|h1
   ·exact absurd h1 (hno j o b c hj e hc)
   omega
  | none =>
   rw [i2 j' e'] at hc';rw [g2 j' e'] at hj';exact hr.inj j j' o o' b c c' hj hj' hc hc'
theorem eV.conv {P:Program} {f:FuncId} {args:List AV} {H:aB} {Q Q':AV→aB→Prop} {PP PP':GK→aB→Prop} (h:eV P f args H Q PP) (hq:∀ r H',Q r H'→∃ H2,(∀ j,H2.get j=H'.get j)∧Q' r H2) (hp:∀ ch H',PP ch H'→∃ H2,(∀ j,H2.get j=H'.get j)∧PP' ch H2):eV P f args H Q' PP' :=fun I ι w vs hr hl hv=>(h I ι w vs hr hl hv).mono fun _ _ h=>by
  rcases h with⟨r,H',I',ι',v,e,q,k1,k2,k3⟩|⟨ch,H',I',ι',e,q,k2,k3⟩
  ·obtain ⟨H2,hH,hq'⟩:=hq r H' q;obtain ⟨x1,x2⟩:=k2.congr hH;exact .inl ⟨r,H2,I',ι',v,e,hq',k1.mono k2 x2,x1,k3.trans x2⟩
  obtain ⟨H2,hH,hq'⟩:=hp ch H' q;obtain ⟨x1,x2⟩:=k2.congr hH;exact .inr ⟨ch,H2,I',ι',e,hq',x1,k3.trans x2⟩
theorem eV.frame {P:Program} {f:FuncId} {args:List AV} {H0 H:aB} {R:AV→aB→Prop} {PP:GK→aB→Prop} (h:eV P f args H0 R PP) (hs:Sub H0 H) (hc:eG H0) (ha:∀ a∈args,Clo H0 a)
  (hk0:∀ r H1,R r H1→∀ id,(H1.get id).isSome=true→(H0.get id).isSome=true∨H.get id=none) (hk1:∀ ch H1,PP ch H1→∀ id,(H1.get id).isSome=true→(H0.get id).isSome=true∨H.get id=none) :
  eV P f args H (fun r H'=>∃ K,R r K∧H'=K++H) (fun ch H'=>∃ K,PP ch K∧H'=K++H):=by
 intro I ι w vs hr hl hv;refine(h I ι w vs (hr.restrict hs hc) hl (fun i v a h1 h2=>(hv i v a h1 h2).restrict hs (ha a (aOJ h2)))).mono ?_;rintro e w' (⟨r,H',I',ι',v,rfl,hR,k1,k2,k3⟩|⟨ch,H',I',ι',rfl,hR,k2,k3⟩)
 ·obtain ⟨ι2,q1,q2,q3⟩:=MO hr hs k2 k3 (hk0 r H' hR);exact .inl ⟨r,H'++H,I',ι2,v,rfl,⟨H',hR,rfl⟩,q3 _ _ k1,q1,q2⟩
 obtain ⟨ι2,q1,q2,q3⟩:=MO hr hs k2 k3 (hk1 ch H' hR);exact .inr ⟨ch,H'++H,I',ι2,rfl,⟨H',hR,rfl⟩,q1,q2⟩
end
section
def jX (o o':Ob):Prop:=o'.g=o.g∧o'.sz=o.sz∧o'.ty=o.ty∧o'.rows.map List.length=o.rows.map List.length
theorem jX.rfl {o:Ob}:jX o o:=⟨_root_.rfl,_root_.rfl,_root_.rfl,_root_.rfl⟩
def Shp (ids:List Nat) (H H1:aB):Prop:=∀ id∈ids,∀ o,H.get id=some o→∃ o',H1.get id=some o'∧jX o o'
def aAO:List Nat→List Nat→Bool
 | [],[]=>true
 | a::r,b::q=>Nat.beq a b&&aAO r q
 | _,_=>false
theorem UX:∀ {a b:List Nat},aAO a b=true→a=b
 | [],[],_=>rfl
 | a::r,b::q,h=>by
  rw [aAO,aOI] at h;rw [Nat.eq_of_beq_eq_true h.1,UX h.2]
 | [],_::_,h=>by cases h
 | _::_,[],h=>by cases h
def aKu (o o':Ob):Bool:=Nat.beq o'.g o.g&&(Nat.beq o'.sz o.sz&&(Nat.beq o'.ty o.ty&&aAO (o'.rows.map List.length) (o.rows.map List.length)))
def aIr (ids:List Nat) (H:aB) (rs:List Rec):Bool:=rs.all fun r=>ids.all fun id=>match r.W.get id with
 | none=>true
 | some o'=>match H.get id with
  | none=>true
  | some o=>aKu o o'
theorem aBE {ids:List Nat} {H:aB} {rs:List Rec} (h:aIr ids H rs=true):∀ r∈rs,∀ id∈ids,∀ o',r.W.get id=some o'→∀ o,H.get id=some o→jX o o':=by intro r hr id hid o' ho' o ho;have h1:=List.all_eq_true.1 (List.all_eq_true.1 h r hr) id hid;simp only [ho',ho,aKu,aOI] at h1;exact⟨Nat.eq_of_beq_eq_true h1.1,Nat.eq_of_beq_eq_true h1.2.1,Nat.eq_of_beq_eq_true h1.2.2.1,UX h1.2.2.2⟩
theorem RB {H:aB} {l:List Ent2} {S:Nat→Bool} {id:Nat} {o:Ob} (ho:H.get id=some o) (h:∀ y∈l,∀ o',y.r.W.get id=some o'→jX o o'):∀ n,∃ o',wQ H l S n id=some o'∧jX o o'
 | 0=>⟨o,ho,.rfl⟩
 | n+1=>by
  rw [wQ];cases e:l[n]? with
  | none=>exact RB ho h n
  | some y =>
   simp only
   split
   ·next hc =>
    obtain ⟨o',ho'⟩:=Option.isSome_iff_exists.1 hc.2;exact⟨o',ho',h y (aOJ e) o' ho'⟩
   exact RB ho h n
def aEO (ks:List Nat) (rs:List Rec):Bool:=rs.all fun r=>ks.all fun id=>match r.W.get id with
 | none=>true
 | some _=>false
theorem YC {ks:List Nat} {rs:List Rec} (h:aEO ks rs=true):∀ id∈ks,∀ r∈rs,r.W.get id=none:=by
 intro id hid r hr;have h1:=List.all_eq_true.1 (List.all_eq_true.1 h r hr) id hid;cases e:r.W.get id with
 | none=>rfl
 | some o=>rw [e] at h1;cases h1
theorem KX {H:aB} {l:List Ent2} {S:Nat→Bool} {id:Nat} (h:∀ y∈l,y.r.W.get id=none):∀ n,wQ H l S n id=H.get id
 | 0=>rfl
 | n+1=>by
  rw [wQ];cases e:l[n]? with
  | none=>exact KX h n
  | some y =>
   simp only;rw [aNx (fun hc=>by rw [h y (aOJ e)] at hc;exact absurd hc.2 (by simp))];exact KX h n
def aEP (ts:List Nat) (ops:Array Oper):Bool:=ops.toList.all fun o=>match o.dst with
 | none=>true
 | some d=>!JB ts d
theorem YD {ts:List Nat} {ops:Array Oper} (h:aEP ts ops=true):∀ t∈ts,∀ o∈ops.toList,o.dst≠some t:=by intro t ht o ho hd;have:=List.all_eq_true.1 h o ho;rw [hd] at this;simp only [aOS] at this;rw [FM.2 ht] at this;cases this
theorem KY {E:cB} {l:List Ent2} {S:Nat→Bool} {t:Nat} (h:∀ y∈l,y.o.dst≠some t):∀ n,yI E l S n t=E.get t
 | 0=>rfl
 | n+1=>by
  rw [yI];cases e:l[n]? with
  | none=>exact KY h n
  | some y =>
   simp only;rw [aNx (fun hc=>h y (aOJ e) hc.2)];exact KY h n
theorem AS.restr {P:Program} {N:Nat} {o:Oper} {E E1:cB} {H1:aB} {l:List Nat} {R:AV→aB→Prop} {PP:GK→aB→Prop} (h:AS P N o (restr E l) H1 R PP) (hE:∀ t,t∈l→E1.get t=E.get t):AS P N o E1 H1 R PP:=by intro a w I ι hs hr he K Q hk hp;refine h a w I ι hs hr (fun t v ht=>?_) K Q hk hp;have hp:=O8 (E:=E) (l:=l) _ (gD ht);exact he t v ((hE t hp.2).trans hp.1)
inductive DStepP (P:Program) (N:Nat) (ops:List Oper) (PP:GK→aB→aB→Prop) (o:Oper) (E:cB) (H:aB) (r:Rec) (F:Prop):Prop
 | old (hF:F) (h:DStep P N ops o E H r)
 | pan (hg:o.guard=none) (h:∀ H1:aB,(∀ id,xF r.R id=true→H1.get id=H.get id)→AS P N o (restr E (gM ops o)) H1 (fun v H'=>v=r.v∧H'=r.W++H1∧F) (fun ch H'=>PP ch H1 H'))
def TA:List Prop→Prop
 | []=>True
 | F::r=>F∧TA r
theorem S3:∀ {l:List Prop},(∀ (k:Nat) (F:Prop),l[k]?=some F→F)→TA l
 | [],_=>trivial
 | F::r,h=>⟨h 0 F rfl,S3 fun k G hG=>h (k+1) G hG⟩
inductive DChainP (P:Program) (N:Nat) (ops:List Oper) (PP:GK→aB→aB→Prop):List Oper→cB→aB→List Rec→List Prop→cB→aB→Prop
 | nil {E:cB} {H:aB}:DChainP P N ops PP [] E H [] [] E H
 | cons {o:Oper} {rest:List Oper} {E E':cB} {H H':aB} {r:Rec} {rs:List Rec} {F:Prop} {Fs:List Prop} (h:DStepP P N ops PP o E H r F) (hd:iC N o.dst=true) (hr:DChainP P N ops PP rest (jL E o.dst r.v) (r.W++H) rs Fs E' H') :
   DChainP P N ops PP (o::rest) E H (r::rs) (F::Fs) E' H'
section
variable {P:Program} {N:Nat} {ops:List Oper} {PP:GK→aB→aB→Prop} {E:cB} {H:aB}
theorem DChainP.spec {rest:List Oper} {E':cB} {H':aB} {rs:List Rec} {Fs:List Prop} (h:DChainP P N ops PP rest E H rs Fs E' H'):(rs.length=rest.length∧Fs.length=rest.length) ∧
  (∀ k x,(List.zipWith Ent2.mk rest rs)[k]?=some x→iC N x.o.dst=true∧∃ F,Fs[k]?=some F∧∃ Ek Hk,(∀ t,Ek.get t=yI E (List.zipWith Ent2.mk rest rs) (fun _=>true) k t)∧(∀ id,Hk.get id=wQ H (List.zipWith Ent2.mk rest rs) (fun _=>true) k id)∧DStepP P N ops PP x.o Ek Hk x.r F) ∧
  (∀ t,E'.get t=yI E (List.zipWith Ent2.mk rest rs) (fun _=>true) rest.length t)∧(∀ id,H'.get id=wQ H (List.zipWith Ent2.mk rest rs) (fun _=>true) rest.length id):=by
 induction h with
 | nil=>exact⟨⟨rfl,rfl⟩,by simp,fun t=>rfl,fun id=>rfl⟩
 | @cons o rest E E' H H' r rs F Fs hs hd hr ih =>
  obtain ⟨⟨h1,h1F⟩,h2,h3,h4⟩:=ih;have shE:∀ (l:List Ent2) k t,yI (jL E o.dst r.v) l (fun _=>true) k t=yI E (⟨o,r⟩::l) (fun _=>true) (k+1) t:=by
   intro l k t
   induction k with
   | zero =>
    simp only [yI,List.getElem?_cons_zero];cases hdst:o.dst with
    | none=>simp [jL]
    | some d =>
     simp only [jL];by_cases e:d=t
     ·subst e;simp [cB.get_cons_same]
     rw [cB.get_cons_other _ _ e];simp [e]
   | succ k ih =>
    rw [yI,yI];simp only [List.getElem?_cons_succ];cases l[k]? with
    | none=>exact ih
    | some x=>simp only [ih]
  have shH:∀ (l:List Ent2) k id,wQ (r.W++H) l (fun _=>true) k id=wQ H (⟨o,r⟩::l) (fun _=>true) (k+1) id:=by
   intro l k id
   induction k with
   | zero =>
    simp only [wQ,List.getElem?_cons_zero,CK];cases hw:r.W.get id<;>simp
   | succ k ih =>
    rw [wQ,wQ];simp only [List.getElem?_cons_succ];cases l[k]? with
    | none=>exact ih
    | some x=>simp only [ih]
  refine⟨⟨by simp [h1],by simp [h1F]⟩,?_,?_,?_⟩
  ·intro k x hx;cases k with
   | zero =>
    simp at hx;subst hx;exact⟨hd,F,rfl,E,H,fun t=>rfl,fun id=>rfl,hs⟩
   | succ k =>
    simp at hx;obtain ⟨g0,F2,g00,Ek,Hk,g1,g2,g3⟩:=h2 k x (by simpa using hx);exact⟨g0,F2,g00,Ek,Hk,fun t=>(g1 t).trans (shE _ k t),fun id=>(g2 id).trans (shH _ k id),g3⟩
  ·intro t;rw [h3 t,shE];rfl
  intro id;rw [h4 id,shH];rfl
end
theorem aCJ {PP:GK→aB→aB→Prop} {P:Program} {G0:aB} {N id:Nat} {Q:Exit→cB→aB→Prop} {ops:Array Oper} {E E':cB} {H H':aB} {rs:List Rec} (hm:P.follows .mixedOrders=true) {Fs:List Prop} (hc:DChainP P N ops.toList PP ops.toList E H rs Fs E' H') (hok:G6 ops.toList rs=true) (ids ks:List Nat) (hW:aIr ids H rs=true) (hKs:aEO ks rs=true) (ts:List Nat) (hT:aEP ts ops=true) (hP:∀ ch E1 H1 H2,(∀ t∈ts,E1.get t=E.get t)→Shp ids H H1→(∀ id∈ks,H1.get id=H.get id)→PP ch H1 H2→Q (.panic ch) E1 H2)
  (hK:TA Fs→Q .normal E' H'):gK P G0 N (.region id ops true) Q E H:=by
 intro G hG a w hs ro hro;have hnd0:ro=none∨ops.toList.all Oper.noDefer=true:=hro;refine wpIn_region_any hm ?_;obtain ⟨⟨hlen,hlenF⟩,hst,hE',hH'⟩:=hc.spec;obtain ⟨l,hl⟩:∃ l,l=List.zipWith Ent2.mk ops.toList rs:=⟨_,rfl⟩;rw [← hl] at hst hE' hH';simp only [G6,aOI,← hl] at hok;obtain ⟨hok1,hok2⟩:=hok;have hll:l.length=ops.size:=by rw [hl];simp [hlen]
 have hlo:∀ (i:Nat) (x:Ent2),l[i]?=some x→ops.toList[i]?=some x.o:=by
  intro i x hx;rw [hl,List.getElem?_zipWith] at hx;cases e1:ops.toList[i]? with
  | none=>simp [e1] at hx
  | some o =>
   cases e2:rs[i]? with
   | none=>simp [e1,e2] at hx
   | some r=>simp [e1,e2] at hx;rw [← hx]
 have hedge:=FE ops.toList 0 hok1;have hbef:∀ (i j:Nat) (x y:Ent2),i < j→l[i]?=some x→l[j]?=some y→jV ops.toList x y=true→Pre ops.toList i j:=fun i j x y hij hx hy hcl =>
  QT ops.toList [] [] rfl rfl (by simp) j i (FD l [] hok2 i j hij (aOQ _) x y hx hy hcl)
 have main:∀ (fuel:Nat) (listed:Array Bool) (a:Act) (w:World) (E1:cB) (H1:aB),listed.size=ops.size→((List.range ops.size).filter fun i=>!listed.getD i true).length≤fuel →
   aCX ops.toList (fun i=>listed.getD i false)→(∀ k,listed.getD k false=true→∀ F,Fs[k]?=some F→F)→St G N E1 H1 a w→(∀ t,E1.get t=yI E l (fun i=>listed.getD i false) ops.size t)→(∀ j,H1.get j=wQ H l (fun i=>listed.getD i false) ops.size j) →
   wpAnyIn (RF ro) 0 P .any ops (fun e a w=>∃ E H,Q e E H∧St G N E H a w) fuel listed a w:=by
  intro fuel
  induction fuel with
  | zero =>
   intro listed a w E1 H1 hsz hcnt hdown hfac hst1 hE1 hH1;have hall:∀ i,i < ops.size→listed.getD i false=true:=by
    intro i hi;have hnil:=List.eq_nil_of_length_eq_zero (Nat.le_zero.1 hcnt);have:=List.filter_eq_nil_iff.1 hnil i (List.mem_range.2 hi);have hi':i < listed.size:=by omega
    simp [Array.getD,hi'] at this ⊢;exact this
   refine⟨?_,E',H',hK (S3 fun k F hF=>hfac k (hall k (by have:=(aOD.1 hF).1;rw [hlenF] at this;simpa using this)) F hF),?_⟩
   ·unfold Region.ready;refine List.filter_eq_nil_iff.2 fun i hi=>?_;have:=hall i (List.mem_range.1 hi);have hi':i < listed.size:=by have:=List.mem_range.1 hi;omega
    simp [Array.getD,hi'] at this;simp [Array.getD,hi',this]
   refine cY.get (G0:=G0) (fun t=>?_) (fun j=>?_) G hG N a w hst1
   ·rw [hE' t,hE1 t,Array.length_toList];exact(oT (E:=E) ops.size ops.size (aOF _) (fun j x hj _=>⟨fun hlt=>hall j hlt,fun h1 h2=>by omega⟩)).symm
   rw [hH' j,hH1 j,Array.length_toList];exact(oS (H:=H) ops.size ops.size (aOF _) (fun i x hi _=>⟨fun hlt=>hall i hlt,fun h1 h2=>by omega⟩)).symm
  | succ fuel ih =>
   intro listed a w E1 H1 hsz hcnt hdown hfac hst1 hE1 hH1;refine⟨fun hnil=>?_,fun i hi=>?_⟩
   ·-- nothing is left
    have hall:∀ i,i < ops.size→listed.getD i false=true:=by
     intro i
     induction i using Nat.strongRecOn with
     | _ i ihi =>
      intro hi;refine Classical.byContradiction fun hno=>?_;have hi':i < listed.size:=by omega
      have hno':listed.getD i true=false:=by
       simp [Array.getD,hi'] at hno ⊢;exact hno
      have hlt:i < ops.toList.length:=by simpa using hi
      have hr:i∈Region.ready .any ops listed:=by
       unfold Region.ready;refine List.mem_filter.2 ⟨List.mem_range.2 hi,?_⟩;have ho:ops[i]?=some ops[i]:=Array.getElem?_eq_getElem hi;simp only [hno',Bool.not_false,Bool.true_and,ho,Option.map_some,Option.getD_some];rw [Array.all_eq_true'];intro e he;cases hb:Region.binds .any e with
       | false=>simp
       | true =>
        have hon:=hedge i ops[i] (by simp [ho]) e (by simpa using he) hb;simp only [Bool.not_true,Bool.false_or];exact ihi e.on (by omega) (by omega)
      rw [hnil] at hr;cases hr
    refine⟨E',H',hK (S3 fun k F hF=>hfac k (hall k (by have:=(aOD.1 hF).1;rw [hlenF] at this;simpa using this)) F hF),?_⟩;refine cY.get (G0:=G0) (fun t=>?_) (fun j=>?_) G hG N a w hst1
    ·rw [hE' t,hE1 t,Array.length_toList];exact(oT (E:=E) ops.size ops.size (aOF _) (fun j x hj _=>⟨fun hlt=>hall j hlt,fun h1 h2=>by omega⟩)).symm
    rw [hH' j,hH1 j,Array.length_toList];exact(oS (H:=H) ops.size ops.size (aOF _) (fun i x hi _=>⟨fun hlt=>hall i hlt,fun h1 h2=>by omega⟩)).symm
   have hi1:=List.mem_filter.1 hi;have hilt:i < ops.size:=List.mem_range.1 hi1.1;have hi':i < listed.size:=by omega
   have ho:ops[i]?=some ops[i]:=Array.getElem?_eq_getElem hilt;have hi2:=hi1.2;simp only [ho,Option.map_some,Option.getD_some,aOI] at hi2;obtain ⟨hnl,hpreds⟩:=hi2;have hnl':listed.getD i false=false:=by
    simp [Array.getD,hi'] at hnl ⊢;exact hnl
   have hpre:∀ e∈(ops[i]).after.toList,Region.binds .any e=true→listed.getD e.on false=true:=by
    intro e he hb;have:=(Array.all_eq_true'.1 hpreds) e (by simpa using he)
    simpa [hb] using this
   have hil:i < l.length:=by omega
   obtain ⟨x,hx⟩:∃ x,l[i]?=some x:=⟨_,aOE hil⟩;have hxo:x.o=ops[i]:=by
    have:=hlo i x hx;simp [ho] at this;exact this.symm
   obtain ⟨hdok,F,hFi,Ek,Hk,hEk,hHk,hdst⟩:=hst i x hx;have hbefore:∀ (j:Nat) (y:Ent2),j < i→l[j]?=some y→jV ops.toList y x=true→listed.getD j false=true:=by
    intro j y hj hy hcl;exact hbef j i y x hj hy hx hcl _ hdown ops[i] (by simp [ho]) hpre
   have hbehind:∀ (j:Nat) (y:Ent2),i < j→l[j]?=some y→jV ops.toList x y=true→listed.getD j false=false:=by
    intro j y hj hy hcl;cases hjl:listed.getD j false with
    | false=>rfl
    | true =>
     have hjlt:j < l.length:=(aOD.1 hy).1;have hjo:ops.toList[j]?=some y.o:=hlo j y hy;have:=hbef i j x y hj hx hy hcl _ hdown y.o hjo (fun e he hb=>hdown j y.o hjo hjl e he hb);rw [hnl'] at this;cases this
   have agreeE:∀ t,(∀ (j:Nat) (y:Ent2),l[j]?=some y→y.o.dst=some t→(j < i→jV ops.toList y x=true)∧(i < j→jV ops.toList x y=true))→E1.get t=Ek.get t:=by
    intro t ht;rw [hE1 t,hEk t];refine oT (E:=E) ops.size i (by omega) (fun j y hj hd=>⟨fun hlt=>hbefore j y hlt hj ((ht j y hj hd).1 hlt),fun h1 h2=>?_⟩);by_cases e:j=i
    ·subst e;exact hnl'
    exact hbehind j y (by omega) hj ((ht j y hj hd).2 (by omega))
   have agreeH:∀ k,(∀ (j:Nat) (y:Ent2),l[j]?=some y→(y.r.W.get k).isSome=true→(j < i→jV ops.toList y x=true)∧(i < j→jV ops.toList x y=true))→H1.get k=Hk.get k:=by
    intro k hk;rw [hH1 k,hHk k];refine oS (H:=H) ops.size i (by omega) (fun j y hj hd=>⟨fun hlt=>hbefore j y hlt hj ((hk j y hj hd).1 hlt),fun h1 h2=>?_⟩);by_cases e:j=i
    ·subst e;exact hnl'
    exact hbehind j y (by omega) hj ((hk j y hj hd).2 (by omega))
   have hlooks:∀ t,t∈gM ops.toList x.o→E1.get t=Ek.get t:=fun t ht =>
    agreeE t fun j y hj hd=>⟨fun _=>AC hd ht,fun _=>AB hd ht⟩
   have hreads:∀ k,xF x.r.R k=true→H1.get k=Hk.get k:=fun k hk =>
    agreeH k fun j y hj hd=>⟨fun _=>QP hd hk,fun _=>QR hd hk⟩
   have hlist:∀ j,(listed.setIfInBounds i true).getD j false=if j=i then true else listed.getD j false:=by
    intro j;by_cases e:j=i
    ·subst e;simp [Array.getD,hi']
    simp only [Array.getD_eq_getD_getElem?,Array.getElem?_setIfInBounds_ne (Ne.symm e),e,if_false]
   have hdown':aCX ops.toList (fun j=>(listed.setIfInBounds i true).getD j false):=by
    intro j o hj hjl e he hb;simp only [hlist] at hjl ⊢;by_cases ej:j=i
    ·subst ej;have:o=ops[j]:=by simp [ho] at hj;exact hj.symm
     subst this;have:=hpre e he hb;simp [this]
    simp only [ej,if_false] at hjl;have:=hdown j o hj hjl e he hb;simp only at this;simp [this]
   have hcnt':((List.range ops.size).filter fun j=>!(listed.setIfInBounds i true).getD j true).length≤fuel:=by
    have hlist':∀ j,(listed.setIfInBounds i true).getD j true=if j=i then true else listed.getD j true:=by
     intro j;by_cases e:j=i
     ·subst e;simp [Array.getD,hi']
     simp only [Array.getD_eq_getD_getElem?,Array.getElem?_setIfInBounds_ne (Ne.symm e),e,if_false]
    have h1:((List.range ops.size).filter fun j=>!(listed.setIfInBounds i true).getD j true)=((List.range ops.size).filter fun j=>!listed.getD j true).filter fun j=>j != i:=by
     rw [List.filter_filter];refine List.filter_congr fun j _=>?_;rw [hlist'];by_cases e:j=i<;>simp [e]
    rw [h1];have h2:=List.length_filter_lt_length_iff_exists (p:=fun j=>j != i) (l:=(List.range ops.size).filter fun j=>!listed.getD j true) |>.2 ⟨i,List.mem_filter.2 ⟨hi1.1,by simpa using hnl⟩,by simp⟩;omega
   have next:∀ (r:AV) (a':Act) (w':World),F→r=x.r.v→St G N (jL E1 x.o.dst x.r.v) (x.r.W++H1) a' w'→wpAnyIn (RF ro) 0 P .any ops (fun e a w=>∃ E H,Q e E H∧St G N E H a w) fuel (listed.setIfInBounds i true) a' w':=by
    intro r a' w' hFx _ hst';refine ih _ a' w' _ _ (by simp [hsz]) hcnt' hdown' (fun k hk F' hF'=>?_) hst' (fun t=>?_) (fun k=>?_)
    ·rw [hlist] at hk;by_cases e:k=i
     ·subst e;rw [hFi] at hF';cases hF';exact hFx
     rw [aNx e] at hk;exact hfac k hk F' hF'
    ·-- slots
     by_cases hd:x.o.dst=some t
     ·have e1:cB.get (jL E1 x.o.dst x.r.v) t=some x.r.v:=by rw [hd];simp [jL,cB.get_cons_same]
      rw [e1];have e2:=oT (E:=E) (l:=l) (S:=fun j=>(listed.setIfInBounds i true).getD j false) (t:=t) ops.size (i+1) (by omega) (fun j y hj hyd=>⟨fun hlt=>?_,fun h1 h2=>?_⟩)
      ·rw [e2,yI,hx];simp [hd]
      ·simp only [hlist];by_cases ej:j=i
       ·simp [ej]
       simp only [ej,if_false];exact hbefore j y (by omega) hj (qX hyd hd)
      simp only [hlist];rw [aNx (by omega)];exact hbehind j y (by omega) hj (qX hd hyd)
     have e1:cB.get (jL E1 x.o.dst x.r.v) t=E1.get t:=by
      cases hdd:x.o.dst with
      | none=>rfl
      | some d=>exact cB.get_cons_other _ _ (fun e=>hd (by rw [hdd,e]))
     rw [e1,hE1 t];have:∀ n,yI E l (fun i=>listed.getD i false) n t=yI E l (fun j=>(listed.setIfInBounds i true).getD j false) n t:=by
      intro n
      induction n with
      | zero=>rfl
      | succ n ihn =>
       rw [yI,yI];cases hn:l[n]? with
       | none=>exact ihn
       | some y =>
        simp only;by_cases en:n=i
        ·subst en;rw [hx] at hn;cases hn;rw [aNx (fun h=>hd h.2),aNx (fun h=>hd h.2)];exact ihn
        have hS:(listed.setIfInBounds i true).getD n false=listed.getD n false:=by rw [hlist,aNx en]
        rw [hS,ihn]
     exact this _
    rw [CK];by_cases hd:(x.r.W.get k).isSome=true
    ·obtain ⟨ob,hob⟩:=Option.isSome_iff_exists.1 hd;rw [hob];have e2:=oS (H:=H) (l:=l) (S:=fun j=>(listed.setIfInBounds i true).getD j false) (id:=k) ops.size (i+1) (by omega) (fun j y hj hyd=>⟨fun hlt=>?_,fun h1 h2=>?_⟩)
     ·rw [e2,wQ,hx];simp [hob]
     ·simp only [hlist];by_cases ej:j=i
      ·simp [ej]
      simp only [ej,if_false];exact hbefore j y (by omega) hj (CO hyd hd)
     simp only [hlist];rw [aNx (by omega)];exact hbehind j y (by omega) hj (CO hd hyd)
    have hnone:x.r.W.get k=none:=by simpa using hd
    rw [hnone];simp only;rw [hH1 k];have:∀ n,wQ H l (fun i=>listed.getD i false) n k=wQ H l (fun j=>(listed.setIfInBounds i true).getD j false) n k:=by
     intro n
     induction n with
     | zero=>rfl
     | succ n ihn =>
      rw [wQ,wQ];cases hn:l[n]? with
      | none=>exact ihn
      | some y =>
       simp only;by_cases en:n=i
       ·subst en;rw [hx] at hn;cases hn;rw [aNx (fun h=>hd h.2),aNx (fun h=>hd h.2)];exact ihn
       have hS:(listed.setIfInBounds i true).getD n false=listed.getD n false:=by rw [hlist,aNx en]
       rw [hS,ihn]
    exact this _
   unfold wpOpIn;simp only [ho];rw [hxo] at hdst hlooks hdok;rw [hxo] at next;have hgE:∀ (j:Nat) (want:Bool) (t:Tmp) (b:Bool),(ops[i]).guard=some (j,want)→iB ops.toList j=some t→Ek.get t=some (.pv (.bool b))→yielded ops a.tmps j=some b:=by
    intro j want t b hg hj hb;have hmem:t∈gM ops.toList ops[i]:=by simp [gM,hg,hj]
    exact sO (E:=E1) hj ((hlooks t hmem).trans hb) hst1.rel.choose_spec.choose_spec.2.2
   have hnd:ro=none∨(ops[i]).noDefer=true:=hnd0.imp (fun h=>h) fun h=>List.all_eq_true.1 h _ (by simp);cases hdst with
   | pan hg h =>
    have hlr:∀ y∈l,y.r∈rs:=fun y hy=>by
     obtain ⟨k,hk⟩:=aOU.1 hy;rw [hl,List.getElem?_zipWith] at hk;cases e1:ops.toList[k]? with
     | none=>simp [e1] at hk
     | some o=>cases e2:rs[k]? with
      | none=>simp [e1,e2] at hk
      | some r=>simp [e1,e2] at hk;rw [← hk];exact aOJ e2
    have hw:Region.wanted ops[i] (yielded ops a.tmps)=true:=by simp [Region.wanted,hg]
    simp only [hw,if_true];refine hst1.opP hdok ((h H1 hreads).restr hlooks) ?_ ?_ hnd
    ·rintro r H2 a' w' ⟨rfl,rfl,hF⟩ hs';exact next _ a' w' hF rfl hs'
    intro ch H2 w' hp hs';refine⟨E1,H2,hP ch E1 H1 H2 (fun t ht=>(hE1 t).trans (KY (fun y hy=>YD hT t ht y.o (by
     obtain ⟨k,hk⟩:=aOU.1 hy;exact aOJ (hlo k y hk))) _)) (fun id hid o ho=>?_) (fun id hid=>(hH1 id).trans (KX (fun y hy=>YC hKs id hid y.r (hlr y hy)) _)) hp,hs'⟩
    have hsh:=RB (H:=H) (l:=l) (S:=fun i=>listed.getD i false) (id:=id) ho (fun y hy o' ho'=>?_) ops.size
    ·obtain ⟨o',h1,h2⟩:=hsh;exact⟨o',(hH1 id).trans h1,h2⟩
    exact aBE hW y.r (hlr y hy) id hid o' ho' o ho
   | old hF hdst =>
    have next:=fun r a' w'=>next r a' w' hF;cases hdst with
    | plain hg h =>
     have hw:Region.wanted ops[i] (yielded ops a.tmps)=true:=by simp [Region.wanted,hg]
     simp only [hw,if_true];refine hst1.op hdok ((h H1 hreads).restr hlooks) ?_ hnd;rintro r H2 a' w' ⟨rfl,rfl⟩ hs';exact next _ a' w' rfl hs'
    | on j want t b hg hj hb hw h =>
     have hy:=hgE j want t b hg hj hb;have hw:Region.wanted ops[i] (yielded ops a.tmps)=true:=by simp [Region.wanted,hg,hy,hw]
     simp only [hw,if_true];refine hst1.op hdok ((h H1 hreads).restr hlooks) ?_ hnd;rintro r H2 a' w' ⟨rfl,rfl⟩ hs';exact next _ a' w' rfl hs'
    | off j want t x' hg hj hb hw hv hW =>
     have hmem:t∈gM ops.toList ops[i]:=by simp [gM,hg,hj]
     have hw:Region.wanted ops[i] (yielded ops a.tmps)=false :=
      HK (E:=E1) hg hj ((hlooks t hmem).trans hb) hw hst1.rel.choose_spec.choose_spec.2.2
     simp only [hw,Bool.false_eq_true,if_false];refine⟨fun _ _=>trivial,?_⟩;refine next (.tup []) _ w hv.symm ?_;obtain ⟨I,ι,hr,hst2,he⟩:=hst1.rel;rw [hv,hW];refine⟨?_,?_,I,ι,hr,hst2,iO.put hr (Step.refl _ _ _ _) he iO.skip (by rw [hst1.size];exact hdok)⟩
     ·rw [gQ];exact hst1.defers
     have:=hst1.size;cases (ops[i]).dst<;>simpa [Act.put] using this
 have hs':St G N E H a {w with drawn:=w.drawn+1}:=by
  obtain ⟨I,ι,hr,hst2,he⟩:=hs.rel;obtain ⟨k2,k3⟩:=hr.drawn (w':={w with drawn:=w.drawn+1}) rfl rfl rfl rfl;exact⟨hs.defers,hs.size,I,ι,k2,hst2.trans k3,fun t v ht=>let ⟨c,h1,h2⟩:=he t v ht;⟨c,h1,h2.mono hr k3⟩⟩
 refine main ops.size (Array.replicate ops.size false) a _ E H (by simp) (by
  have:=List.length_filter_le (fun i=>!(Array.replicate ops.size false).getD i true) (List.range ops.size)
  simpa using this) (fun j o hj hjl=>by simp [Array.getD] at hjl) (fun k hk=>by simp [Array.getD] at hk) hs' (fun t=>?_) (fun k=>?_)
 ·have:∀ n,yI E l (fun i=>(Array.replicate ops.size false).getD i false) n t=E.get t:=by
   intro n
   induction n with
   | zero=>rfl
   | succ n ihn =>
    rw [yI];cases l[n]? with
    | none=>exact ihn
    | some y =>
     have hf:(Array.replicate ops.size false).getD n false=false:=by simp [Array.getD]
     simp only [hf,Bool.false_eq_true,false_and,if_false];exact ihn
  exact(this _).symm
 have:∀ n,wQ H l (fun i=>(Array.replicate ops.size false).getD i false) n k=H.get k:=by
  intro n
  induction n with
  | zero=>rfl
  | succ n ihn =>
   rw [wQ];cases l[n]? with
   | none=>exact ihn
   | some y =>
    have hf:(Array.replicate ops.size false).getD n false=false:=by simp [Array.getD]
    simp only [hf,Bool.false_eq_true,false_and,if_false];exact ihn
 exact(this _).symm
def DCP (P:Program) (N:Nat) (PP:GK→aB→aB→Prop) (ops rest:List Oper) (E:cB) (H:aB) (K:List Rec→List Prop→cB→aB→Prop):Prop:=∃ rs Fs E' H',DChainP P N ops PP rest E H rs Fs E' H'∧K rs Fs E' H'
theorem F0 {P:Program} {N:Nat} {PP:GK→aB→aB→Prop} {ops:List Oper} {E:cB} {H:aB} {K:List Rec→List Prop→cB→aB→Prop} (h:K [] [] E H):DCP P N PP ops [] E H K:=⟨_,_,_,_,.nil,h⟩
theorem rK {P:Program} {N:Nat} {PP:GK→aB→aB→Prop} {ops rest:List Oper} {o:Oper} {E:cB} {H:aB} {K:List Rec→List Prop→cB→aB→Prop} {r:Rec} {F:Prop} (h:DStepP P N ops PP o E H r F) (hd:iC N o.dst=true)
  (hk:DCP P N PP ops rest (jL E o.dst r.v) (r.W++H) (fun rs Fs E' H'=>K (r::rs) (F::Fs) E' H')):DCP P N PP ops (o::rest) E H K:=by
 obtain ⟨rs,Fs,E',H',h1,h2⟩:=hk;exact⟨_,_,_,_,.cons h hd h1,h2⟩
theorem cK {P:Program} {N:Nat} {PP:GK→aB→aB→Prop} {ops rest:List Oper} {o:Oper} {E:cB} {H:aB} {K:List Rec→List Prop→cB→aB→Prop} {r:Rec} (h:DStep P N ops o E H r) (hd:iC N o.dst=true)
  (hk:DCP P N PP ops rest (jL E o.dst r.v) (r.W++H) (fun rs Fs E' H'=>K (r::rs) (True::Fs) E' H')):DCP P N PP ops (o::rest) E H K:=rK (.old trivial h) hd hk
theorem uL {P:Program} {G0:aB} {N id:Nat} {Q:Exit→cB→aB→Prop} {ops:Array Oper} {E:cB} {H:aB} (PP:GK→aB→aB→Prop) (ts ids ks:List Nat) (hT:aEP ts ops=true) (hm:P.follows .mixedOrders=true)
  (hP:∀ ch E1 H1 H2,(∀ t∈ts,E1.get t=E.get t)→Shp ids H H1→(∀ id∈ks,H1.get id=H.get id)→PP ch H1 H2→Q (.panic ch) E1 H2)
  (h:DCP P N PP ops.toList ops.toList E H (fun rs Fs E' H'=>(G6 ops.toList rs=true∧aIr ids H rs=true∧aEO ks rs=true)∧(TA Fs→Q .normal E' H'))):gK P G0 N (.region id ops true) Q E H:=by
 obtain ⟨rs,Fs,E',H',h1,⟨h2,h4,h5⟩,h3⟩:=h;exact aCJ hm h1 h2 ids ks h4 h5 ts hT hP h3
end
section
abbrev aF0 (G:Entry) (Q:AV→aB→Prop):Ending→World→Prop:=fun e w'=>∃ r H' I' ι' v,e=.returned v∧Q r H'∧VRel w' I' ι' H' v r∧Rel I' ι' H' w'∧Step G.I G.ι G.H G.w I' ι' H' w'
def DWp (P:Program) (fn:Func) (G0:aB) (N:Nat) (Q:AV→aB→Prop) (c:Code) (E:cB) (H:aB):Prop :=∀ G:Entry,G.H=G0→G.ds=[]→∀ a w,St G N E H a w→c.wpIn Fence.wide 0 P (bodyPostM Fence.wide 0 P fn (aF0 G Q)) a w
section
variable {P:Program} {fn:Func} {G0 H:aB} {N:Nat} {Q:AV→aB→Prop} {E:cB}
theorem xQ {G:Entry} {e:Exit} {a:Act} {w:World} (hG:G.H=G0) (hd:G.ds=[]) (h:H8 P fn G0 Q e E H) (hs:St G N E H a w):bodyPostM Fence.wide 0 P fn (aF0 G Q) e a w:=by
 obtain ⟨he,r,hres,r',H'',hfin,hq⟩:=h;have key:LeavesInM Fence.wide 0 P fn a.tmps (aF0 G Q) a.defers .returning w:=by
  obtain ⟨I',ι',hr',hst',hE'⟩:=hs.rel;refine sJ (hd▸hs.defers) hr' hst' hE' ?_;intro w2 hr2 hst2 hE2;obtain ⟨v,h1,h2⟩:=hres a w2 I' ι' hr2 hE2;obtain ⟨I2,ι2,k1,k2,k3⟩:=hfin G hG I' ι' w2 v hr2 hst2 h2;exact⟨v,h1,r',H'',I2,ι2,v,rfl,hq,k3,k1,k2⟩
 rcases he with rfl|rfl
 ·exact key
 exact key
theorem aA2 {x y:Code} (h:gK P G0 N x (xT (fun E1 H1=>DWp P fn G0 N Q y E1 H1) (H8 P fn G0 Q)) E H):DWp P fn G0 N Q (.seq x y) E H:=by
 intro G hG hd a w hs;refine wpIn_seq (wpIn_mono (h G hG a w hs none (.inl rfl)) ?_);rintro e a' w' ⟨E',H',hq,hs'⟩;cases e with
 | normal=>exact hq G hG hd a' w' hs'
 | exit id=>exact xQ hG hd hq hs'
 | goto l=>exact xQ hG hd hq hs'
 | ret=>exact xQ hG hd hq hs'
 | panic ch=>exact xQ hG hd hq hs'
 | outgrown=>exact xQ hG hd hq hs'
theorem aI.bodyD {f:FuncId} {c:Code} {args:List AV} (hf:P.funcs[f]?=some fn) (hb:fn.body=some c) (hN:fn.ntmps=N) (hlen:args.length≤N) (h:DWp P fn H N Q c (lL args) H):aI P f args H Q:=by
 intro I ι w vs hr hl hv;refine callsIn_wide.1 (callsIn_of_wp_marks (F:=Fence.wide) (n:=0) hf hb trivial ?_);have hst:St ⟨I,ι,H,w,[]⟩ N (lL args) H {tmps:=vs++Array.replicate (fn.ntmps - vs.size) undef,defers:=[]} w:=by
  refine⟨qD.nil _ _ _,?_,I,ι,hr,Step.refl _ _ _ _,fun t a ht=>?_⟩
  ·simp;omega
  have ha:=sQ ht;have hlt:t < vs.size:=by rw [hl];exact(aOD.1 ha).1
  have hu:vs[t]?=some vs[t]:=Array.getElem?_eq_getElem hlt;exact⟨vs[t],by rw [Array.getElem?_append_left hlt];exact hu,hv t _ a hu ha⟩
 exact h ⟨I,ι,H,w,[]⟩ rfl rfl _ w hst
end
def TB (P:Program) (F:FuncId) (args:List AV) (H:aB) (u:FrameMode) (K:aB→Prop):Prop :=∀ (I:Nat→Prop) (ι:eS) (w:World) (vs:Array Value),Rel I ι H w→vs.size=args.length→(∀ (i:Nat) (v:Value) (a:AV),vs[i]?=some v→args[i]?=some a→VRel w I ι H v a) →
  CallsDIn Fence.wide 0 P F vs u w fun e u' w'=>∃ v H' I' ι',e=.returned v∧settle u'=.returning∧K H'∧Rel I' ι' H' w'∧Step I ι H w I' ι' H' w'
def aAh (P:Program) (fn:Func) (G0 H0:aB) (F:FuncId) (cs:List AV) (Q:AV→aB→Prop) (e:Exit) (E:cB) (H:aB):Prop :=∃ u E1 H1,((e=.normal∨e=.ret)∧u=.returning∨∃ ch,e=.panic ch∧u=.panicking ch)∧cY H0 E H E1 H1 ∧
  TB P F cs H1 u fun H2=>∃ r,(∀ (a:Act) (w:World) (I:Nat→Prop) (ι:eS),Rel I ι H2 w→iO w I ι H2 E1 a→∃ v,(results fn a.tmps).run P w=.ok v w∧VRel w I ι H2 v r)∧∃ r' H3,Fin G0 H2 r H3 r'∧Q r' H3
section
variable {P:Program} {fn:Func} {G0 H:aB} {N:Nat} {Q:AV→aB→Prop} {E:cB}
theorem aBs {id:Nat} {o1 o2:Oper} {ops:Array Oper} {rest:Code} {F:FuncId} {caps:Array Operand} {at_:Array TypeId} {d:Tmp} {cs:List AV} (hops:ops.toList=[o1,o2]) (hg1:o1.guard=none) (hd1:o1.dst=some d) (hdN:Nat.blt d N=true) (ho1:o1.op=.makeFunc (.func F) #[] caps)
  (hg2:o2.guard=none) (hd2:o2.dst=none) (ho2:o2.op=.defer {callee:=.value (.tmp d),args:=#[],argTypes:=at_}) (hv:vR E caps.toList=some cs)
  (hc:∀ (args:Array Value) (w:World),(callFunc F args).run P w=.ok (.enter F args) w)
  (h:gK P H N rest (aAh P fn G0 H F cs Q) ((d,.clo F cs)::E) H):DWp P fn G0 N Q (.seq (.region id ops false) rest) E H:=by
 intro G hG hd a w hs;refine wpIn_seq (wpIn_region_list ?_);rw [hops];refine wpListIn_plain hg1 fun K1 hK1=>?_;refine hs.op (R:=fun r H'=>r=.clo F cs∧H'=H) (ro:=none) (by rw [hd1];exact hdN) (gC ho1 (lE hv)) ?_ (.inl rfl);rintro r H' a1 w1 ⟨rfl,rfl⟩ hs1;refine hK1 a1 w1 ?_;rw [hd1] at hs1;refine wpListIn_plain hg2 fun K2 hK2=>?_;refine Oper.wpW_in (ro:=none) (.inl rfl) ?_;obtain ⟨I1,ι1,hr1,hst1,he1⟩:=hs1.rel;obtain ⟨c1,hc1,hv1⟩:=he1 d _ (cB.get_cons_same _ _ _);have hev:a1.eval (.tmp d)=c1:=by simp [Act.eval,hc1]
 cases hv1 with
 | @clo _ us _ hl hh =>
  unfold Oper.wpW execOp;simp only [ho2,resolve,hev,Deferred.ofValue,Sem.run_bind,Sem.run_pure,Result.andThen_ok,Oper.uponW,hd2,Act.put];refine hK2 _ w1 ?_;show Exit.then _ _ .normal _ w1
  let dd:Deferred:={target:=.fn (.func F) us,args:=#[]++(#[]:Array Operand).map a1.eval}
  have hst2:St ⟨I1,ι1,H',w1,dd::a1.defers⟩ N ((d,.clo F cs)::E) H' {a1 with defers:=dd::a1.defers} w1 :=
   ⟨qD.nil _ _ _,hs1.size,I1,ι1,hr1,Step.refl _ _ _ _,he1⟩
  refine wpIn_mono (h ⟨I1,ι1,H',w1,dd::a1.defers⟩ rfl _ w1 hst2 none (.inl rfl)) ?_;rintro e a' w' ⟨E',H2,⟨u,E1,H1,hmode,hent,hdef⟩,hs2⟩;have hs3:=hent _ rfl N a' w' hs2;have key:u≠.run→LeavesInM Fence.wide 0 P fn a'.tmps (aF0 G Q) a'.defers u w':=by
   intro hu;obtain ⟨I3,ι3,hr3,hst3,he3⟩:=hs3.rel;refine vX (G:=⟨I1,ι1,H',w1,dd::a1.defers⟩) hu hs3.defers hr3 hst3 he3 ?_;intro w4 hr4 hst4 he4;refine⟨hu,.inr ⟨(fun hx=>by cases hx),.func F,us,F,us,rfl,?_,fun _ _=>trivial,?_⟩⟩
   ·show (invoke (.fn (.func F) us) (#[]++(#[]:Array Operand).map a1.eval)).run P w4=_;simp only [invoke,Array.map_empty,Array.empty_append,hc]
   refine(hdef I3 ι3 w4 us hr4 (by simpa using hl) (fun i v b hv hb=>(hh i v b hv hb).mono hr1 hst4)).mono ?_;rintro e2 u' w5 ⟨v,H5,I5,ι5,rfl,hset,⟨r,hres,r',H6,hfin,hq⟩,hr5,hst5⟩;show LeavesInM Fence.wide 0 P fn a'.tmps (aF0 G Q) a1.defers (settle u') w5;rw [hset];have hall:Step G.I G.ι G.H G.w I5 ι5 H5 w5:=(hst1.trans hst4).trans hst5;have hm1:qD [] G.w w5 a1.defers:=(hd▸hs1.defers).step hr1 (hst4.trans hst5);refine sJ hm1 hr5 hall (fun t v ht=>let ⟨c,x1,x2⟩:=he4 t v ht;⟨c,x1,x2.mono hr4 hst5⟩) ?_;intro w7 hr7 hst7 he7;obtain ⟨v,h1,h2⟩:=hres a' w7 I5 ι5 hr7 he7;obtain ⟨I8,ι8,k1,k2,k3⟩:=hfin G hG I5 ι5 w7 v hr7 hst7 h2;exact⟨v,h1,r',H6,I8,ι8,v,rfl,hq,k3,k1,k2⟩
  rcases hmode with⟨rfl|rfl,rfl⟩|⟨ch,rfl,rfl⟩
  ·exact key (by simp)
  ·exact key (by simp)
  exact key (by simp)
end
end
end Go.Abs
namespace Go.Abs
open Go.Proofs
section
section
variable {P:Program} {G0:aB} {N:Nat} {Q:Exit→cB→aB→Prop} {E:cB} {H:aB}
def OL (P:Program) (G0:aB) (N:Nat) (c:Code) (Q:Exit→cB→aB→Prop) (E:cB) (H:aB):Prop :=∀ G:Entry,G.H=G0→∀ a w,St G N E H a w→c.wpIn (RF none) 0 P (fun e a' w'=>(∃ E H,Q e E H∧St G N E H a' w')∧a'.defers=a.defers) a w
def ALN (P:Program) (G0:aB) (N:Nat) (ops:Array Oper) (K:cB→aB→Prop) (l:List Oper) (E:cB) (H:aB):Prop :=∀ G:Entry,G.H=G0→∀ a w,St G N E H a w→∀ Q:Exit→Act→World→Prop,(∀ E H a' w',K E H→St G N E H a' w'→a'.defers=a.defers→Q .normal a' w')→wpListIn (RF none) 0 P ops Q l a w
theorem CS {ops:Array Oper} {K:cB→aB→Prop} (h:K E H):ALN P G0 N ops K [] E H:=fun _ _ a w hs _ hq=>hq _ _ a w h hs rfl
theorem St.opN {G:Entry} {a:Act} {w:World} {o:Oper} {R:AV→aB→Prop} (hs:St G N E H a w) (hd:iC N o.dst=true) (h:Y9 P N o E H R) {K:Act→World→Prop} {Q:Exit→Act→World→Prop}
  (hk:∀ r H' a' w',R r H'→St G N (jL E o.dst r) H' a' w'→a'.defers=a.defers→K a' w'):o.wpIn (RF none) 0 P a w K Q:=by
 refine Oper.wpW_in (.inl rfl) ?_;obtain ⟨I,ι,hr,hst,he⟩:=hs.rel;refine h a w I ι trivial hs.size hr he K Q ?_;intro c w' I' ι' r H' hR hv hr' hs';refine hk r H' _ w' hR ⟨?_,?_,I',ι',hr',hst.trans hs',iO.put hr hs' he hv (by rw [hs.size];exact hd)⟩ (gQ _ _ _)
 ·rw [gQ];exact hs.defers.step hr hs'
 have:=hs.size;cases o.dst<;>simpa [Act.put] using this
theorem aI4 {ops:Array Oper} {K:cB→aB→Prop} {o:Oper} {rest:List Oper} {R:AV→aB→Prop} (hg:o.guard=none) (hd:iC N o.dst=true) (h:Y9 P N o E H R) (hk:∀ r H',R r H'→ALN P G0 N ops K rest (jL E o.dst r) H'):ALN P G0 N ops K (o::rest) E H:=by intro G hG a w hs Q hq;refine wpListIn_plain hg fun K' hK=>?_;exact hs.opN hd h fun r H' a' w' hR hs' hd'=>hK _ _ (hk r H' hR G hG a' w' hs' Q fun E H a'' w'' hKK hs'' hd''=>hq E H a'' w'' hKK hs'' (hd''.trans hd'))
theorem IZ {ops:Array Oper} {K:cB→aB→Prop} {o:Oper} {rest:List Oper} {d:Tmp} {v:AV} {H2:aB} (hg:o.guard=none) (hd:o.dst=some d) (hn:Nat.blt d N=true) (h:dF P N o E H v H2) (hk:ALN P G0 N ops K rest ((d,v)::E) H2):ALN P G0 N ops K (o::rest) E H :=aI4 hg (by rw [hd];exact hn) h fun r H' ⟨e1,e2⟩=>by subst e1 e2;rw [hd];exact hk
theorem aFM {ops:Array Oper} {K:cB→aB→Prop} {o:Oper} {rest:List Oper} {v:AV} {H2:aB} (hg:o.guard=none) (hd:o.dst=none) (h:dF P N o E H v H2) (hk:ALN P G0 N ops K rest E H2):ALN P G0 N ops K (o::rest) E H :=aI4 hg (by rw [hd];rfl) h fun r H' ⟨e1,e2⟩=>by subst e1 e2;rw [hd];exact hk
theorem pA {id:Nat} {ops:Array Oper} (h:ALN P G0 N ops (fun E H=>Q .normal E H) ops.toList E H):OL P G0 N (.region id ops false) Q E H:=fun G hG a w hs =>
 wpIn_region_list (h G hG a w hs _ fun E H a' w' q s hd=>⟨⟨E,H,q,s⟩,hd⟩)
theorem F4 {x y:Code} (h:OL P G0 N x (xT (OL P G0 N y Q) Q) E H):OL P G0 N (.seq x y) Q E H:=by intro G hG a w hs;refine wpIn_seq (wpIn_mono (h G hG a w hs) ?_);rintro e a' w' ⟨⟨E',H',q,s⟩,hd⟩;cases e<;>first|exact wpIn_mono (q G hG a' w' s) (fun e a w ⟨h1,h2⟩=>⟨h1,h2.trans hd⟩)|exact⟨⟨E',H',q,s⟩,hd⟩
theorem M1 {id:Nat} {c:Code} (h:OL P G0 N c (GC id Q) E H):OL P G0 N (.block id c) Q E H:=by
 intro G hG a w hs;refine wpIn_block (wpIn_mono (h G hG a w hs) ?_);rintro e a' w' ⟨⟨E',H',q,s⟩,hd⟩;cases e<;>try exact⟨⟨E',H',q,s⟩,hd⟩
 rename_i id';simp only [GC] at q;simp only [Exit.inBlock]
 split
 ·rename_i e1;subst e1;rw [lM] at q;exact⟨⟨E',H',q,s⟩,hd⟩
 rename_i e1;rw [kE e1] at q;exact⟨⟨E',H',q,s⟩,hd⟩
theorem HV {c:Operand} {x y:Code} {b:Bool} (hc:aP E c=some (.pv (.bool b))) (h1:b=true→OL P G0 N x Q E H) (h2:b=false→OL P G0 N y Q E H):OL P G0 N (.cond c x y) Q E H:=by intro G hG a w hs;obtain ⟨I,ι,hr,hst,he⟩:=hs.rel;have hb:a.eval c=.bool b:=(aJ he hc).bool_inv;exact wpIn_cond_split hb (fun e=>h1 e G hG a w hs) (fun e=>h2 e G hG a w hs)
end
section
variable {P:Program} {fn:Func} {H:aB} {N:Nat} {F:FuncId} {args:List AV} {K:aB→Prop}
def aNW (H:aB) (K:aB→Prop) (e:Exit) (E':cB) (H':aB):Prop:=(e=.normal∨e=.ret)∧∃ H2,Fin H H' (.tup []) H2 (.tup [])∧K H2
theorem F9 {id:Nat} {o:Oper} {ops:Array Oper} {c2:Code} {at_:Array TypeId} {d:Tmp} {u:FrameMode} {x:PV} {vx:Value} (hf:P.funcs[F]?=some fn) (hb:fn.body=some (.seq (.region id ops false) c2)) (hN:fn.ntmps=N) (hlen:args.length≤N) (hr0:fn.results=#[])
  (hops:ops=#[o]) (hg:o.guard=none) (hd:o.dst=some d) (hdN:Nat.blt d N=true) (ho:o.op=.call {callee:=.builtin .recover,args:=#[],argTypes:=at_})
  (hx:∀ (w:World) (I:Nat→Prop),PRep w I vx x) (hu:(u=.returning∧vx=.nilIface)∨(∃ t,u=.panicking (ms t)∧vx=.iface t (.agg #[])))
  (h:OL P H N c2 (aNW H K) ((d,.pv x)::lL args) H):TB P F args H u K:=by
 intro I ι w vs hr hl hv;refine callsDIn_of_wpSIn hf hb trivial ?_;intro c₀ cs hmode;refine wpSIn_seq (wpSIn_region ?_);subst hops;have hst:St ⟨I,ι,H,w,[]⟩ N (lL args) H {tmps:=vs++Array.replicate (fn.ntmps - vs.size) undef,defers:=[]} w:=by
  refine⟨qD.nil _ _ _,?_,I,ι,hr,Step.refl _ _ _ _,fun t a ht=>?_⟩
  ·simp;omega
  have ha:=sQ ht;have hlt:t < vs.size:=by rw [hl];exact(aOD.1 ha).1
  have hu:vs[t]?=some vs[t]:=Array.getElem?_eq_getElem hlt;exact⟨vs[t],by rw [Array.getElem?_append_left hlt];exact hu,hv t _ a hu ha⟩
 obtain ⟨a,ha⟩:∃ a:Act,a={tmps:=vs++Array.replicate (fn.ntmps - vs.size) undef,defers:=[]}:=⟨_,rfl⟩;rw [← ha] at hst ⊢;have hadef:a.defers=[]:=by rw [ha]
 have hst2:St ⟨I,ι,H,w,[]⟩ N ((d,.pv x)::lL args) H (a.put (some d) vx) w:=by
  obtain ⟨I1,ι1,k1,k2,k3⟩:=hst.rel;refine⟨by rw [gQ];exact hst.defers,?_,I1,ι1,k1,k2,?_⟩
  ·have:=hst.size
   simpa [Act.put] using this
  exact iO.put (d:=some d) k1 (Step.refl _ _ _ _) k3 (.pv (hx _ _)) (by rw [hst.size];exact hdN)
 have rest:∀ u',settle u'=.returning→c2.wpSIn Fence.wide 0 P (bodyPostS P fn c₀ cs fun e u' w'=>∃ v H' I' ι',e=.returned v∧settle u'=.returning∧K H'∧Rel I' ι' H' w'∧Step I ι H w I' ι' H' w') (a.put (some d) vx) ({c₀ with mode:=u'}::cs) w:=by
  intro u' hset;refine wpSIn_of_wpIn rfl (wpIn_mono (h ⟨I,ι,H,w,[]⟩ rfl _ w hst2) ?_);rintro e a' w' ⟨⟨E',H',⟨he,H2,hfin,hK⟩,hs'⟩,hdf⟩;obtain ⟨I3,ι3,k1,k2,k3⟩:=hs'.rel;obtain ⟨I4,ι4,q1,q2,q3⟩:=hfin ⟨I,ι,H,w,[]⟩ rfl I3 ι3 w' (.tuple #[]) k1 k2 (.tup rfl (by simp));have hde:a'.defers=[]:=hdf.trans ((gQ _ _ _).trans hadef);have key:a'.defers=[]∧∃ u'',({c₀ with mode:=u'}::cs:List Frame)={c₀ with mode:=u''}::cs∧∃ v,(results fn a'.tmps).run P w'=.ok v w'∧∃ v0 H' I' ι',Ending.returned v=.returned v0∧settle u''=.returning∧K H'∧Rel I' ι' H' w'∧Step I ι H w I' ι' H' w' :=
   ⟨hde,u',rfl,.tuple #[],by simp [results,hr0],.tuple #[],H2,I4,ι4,rfl,hset,hK,q1,q2⟩
  rcases he with rfl|rfl
  ·exact key
  exact key
 have hex:(execOp a.eval o).run P w=.ok .recover w:=by
  simp [execOp,ho,resolve,invoke];rfl
 have hw:Region.wanted o (yielded #[o] a.tmps)=true:=by simp [Region.wanted,hg]
 show wpOpsSIn _ _ _ _ _ [0] _ _ _;unfold wpOpsSIn;simp only [List.getElem?_toArray,List.getElem?_cons_zero,hw,if_true,hex];refine⟨fun _ _=>trivial,?_⟩;rcases hu with⟨rfl,rfl⟩|⟨t,rfl,rfl⟩
 ·have hrec:recoverD (c₀::cs)=none:=by simp [recoverD,hmode]
  rw [hrec];have hc:({c₀ with mode:=.returning}:Frame)=c₀:=by rw [← hmode]
  have:=rest .returning rfl;rw [hc] at this;rw [hd];exact this
 have hrec:recoverD (c₀::cs)=some (.iface t (.agg #[]),{c₀ with mode:=.panicking ({v:=.iface t (.agg #[]),recovered:=true}::[])}::cs):=by simp [recoverD,hmode]
 rw [hrec];rw [hd];exact rest (.panicking ({v:=.iface t (.agg #[]),recovered:=true}::[])) rfl
end
section
variable {P:Program} {N:Nat} {o:Oper} {E:cB} {H:aB} {t t' T:TypeId} {x y:Operand}
theorem XY (ho:o.op=.binOp .eql t x (.const .nilIface) t') (ht:P.underlying t=some (.interface (P.methodsAt t))) (hx:aP E x=some (.pv G8)):dF P N o E H (.pv (.bool true)) H :=.of_run fun a w I ι _ he=>⟨.bool true,by
  have e1:a.eval x=.nilIface:=(aJ he hx).sat_inv;have e2:a.eval (.const .nilIface)=.nilIface:=rfl;simp only [execOp,ho,e1,e2,eqGuard,Sem.run_bind,Sem.run_pure,Result.andThen_ok,run_eql_nil_nil _ _ ht,Bool.or_true,Bool.true_or,if_true,Bool.not_true,Bool.false_eq_true,if_false],.pv (.bool _)⟩
theorem XZ {ps:List PV} {t2:TypeId} (ho:o.op=.binOp .eql t x (.const .nilIface) t') (ht:P.underlying t=some (.interface (P.methodsAt t))) (hx:aP E x=some (.pv (.ifa t2 ps))):dF P N o E H (.pv (.bool false)) H :=.of_run fun a w I ι _ he=>⟨.bool false,by
  obtain ⟨cs,e1,_⟩:=(aJ he hx).ifa_inv;have e2:a.eval (.const .nilIface)=.nilIface:=rfl;simp only [execOp,ho,e1,e2,eqGuard,Sem.run_bind,Sem.run_pure,Result.andThen_ok,binOp,run_equal_held_nil _ _ _ _ ht];rfl,.pv (.bool _)⟩
abbrev aLC:PV:=.sat fun v=>∃ b,v=.pointer (some ⟨b,0,none⟩)
theorem X1 (ho:o.op=.alloc T) (hz:∀ w,(zeroValue T).run P w=.ok (.agg #[]) w):dF P N o E H (.pv aLC) H:=by intro a w I ι _ _ hr he K Q hk;unfold Oper.wpW execOp;simp only [ho,Instr.alloc,hz,newVar,newRow,Sem.run_bind,run_newObj,Sem.run_pure,Result.andThen_ok];obtain ⟨h1,h2⟩:=Rel.newImm (w':={w with heap:=w.heap.push (.cells #[] T (0,0))}) (c:=#[]) (t:=T) hr rfl rfl rfl rfl;exact hk _ _ _ ι _ _ ⟨rfl,rfl⟩ (.pv (.sat rfl ⟨_,rfl⟩)) h1 h2
theorem XW (ho:o.op=.store T x y) (hx:aP E x=some (.pv aLC)) (hy:aP E y=some (.agg [])) (hs:∀ w,(sizeOf T).run P w=.ok 0 w):dF P N o E H (.tup []) H:=by
 intro a w I ι _ _ hr he K Q hk;obtain ⟨b,e1⟩:=(aJ he hx).sat_inv;have h2:=aJ he hy;generalize hy2:a.eval y=v2 at h2;cases h2 with
 | @agg vs _ hl h1 hh =>
  have:vs=#[]:=Array.eq_empty_of_size_eq_zero (by simpa using hl);subst this;have hrun:(execOp a.eval o).run P w=.ok .skip w:=by
   simp only [execOp,ho,e1,hy2];simp [Instr.storeAt,Instr.sureAddr,storeVar,hs,Value.cells,storeCells]
  unfold Oper.wpW;rw [hrun];exact hk undef w I ι _ _ ⟨rfl,rfl⟩ (.tup rfl (by simp)) hr (Step.refl _ _ _ _)
end
theorem cY.toAny {G0 H H':aB} {E E':cB} (hE:∀ t v,E'.get t=some v→E.get t=some v∧Clo H' v) (hH:∀ id o',H'.get id=some o'→∃ o,H.get id=some o∧jX o o'∧∀ r∈o'.rows,∀ a∈r,a=.any) (hG:∀ id,(G0.get id).isSome=true→(H'.get id).isSome=true):cY G0 E H E' H':=by
 intro G hGe N a w hs;obtain ⟨I,ι,hr,hst,he⟩:=hs.rel;have hlen:∀ {o o':Ob},jX o o'→o'.rows.length=o.rows.length:=fun h=>by
  have:=congrArg List.length h.2.2.2
  simpa using this
 have hal:aAj H H':=fun j o' ho'=>by
  obtain ⟨o,h1,h2,_⟩:=hH j o' ho';exact⟨o,h1,h2.1.symm,h2.2.1.symm,h2.2.2.1.symm,(hlen h2).symm⟩
 refine⟨hs.defers,hs.size,I,ι,⟨hr.imm,fun id o' ho'=>?_,fun id id' o o' b c c' ho ho'=>?_,hr.glob⟩,?_,fun t v ht=>?_⟩
 ·obtain ⟨o,h1,h2,h3⟩:=hH id o' ho';refine(hr.obj id o h1).keepG h2.2.1 h2.2.2.1 (hlen h2) (fun y ts r' hy=>?_) rfl (fun _ _ _ _=>⟨rfl,fun h=>h⟩) (fun i r' hi=>?_)
  ·have:=h3 [.raw y ts] (by rw [hy];simp) (.raw y ts) (by simp);cases this
  have hlt:i < o.rows.length:=by rw [← hlen h2];exact(aOD.1 hi).1
  refine⟨o.rows[i],aOE hlt,?_,fun k a a' _ ha' v _=>?_⟩
  ·have e:=congrArg (fun l:List Nat=>l[i]?) h2.2.2.2;simp only [aOT,hi,aOE hlt,Option.map_some,Option.some.injEq] at e;exact e.symm
  rw [h3 r' (aOJ hi) a' (aOJ ha')];exact .any v
 ·obtain ⟨q,h1,_⟩:=hH id o ho;obtain ⟨q',h1',_⟩:=hH id' o' ho';exact hr.inj id id' q q' b c c' h1 h1'
 ·refine {hst with own:=fun b ⟨id,o',cap,ho',hc⟩=>?_,objs:=fun id o ho=>?_}
  ·obtain ⟨o,h1,_⟩:=hH id o' ho';exact hst.own b ⟨id,o,cap,h1,hc⟩
  obtain ⟨o1,k1,k2,k3⟩:=hst.objs id o ho;obtain ⟨o',ho'⟩:=Option.isSome_iff_exists.1 (hG id (by rw [← hGe,ho];rfl));obtain ⟨o2,h1,h2,_⟩:=hH id o' ho';rw [k1] at h1;cases h1;refine⟨o',ho',by rw [h2.1];exact k2,fun e=>?_⟩;obtain ⟨q1,q2,q3⟩:=k3 (by rw [← h2.1];exact e);exact⟨q1,by rw [h2.2.1];exact q2,fun hz=>by rw [hlen h2];exact q3 hz⟩
 obtain ⟨h1,h2⟩:=hE t v ht;obtain ⟨c,hc,hv⟩:=he t v h1;exact⟨c,hc,hv.alike hal h2⟩
theorem aMg {P:Program} {fn:Func} {E:cB} {H:aB} {x y:ResultVar} {r s:AV} (hf:fn.results=#[x,y]) (hx:JE P E H x r) (hy:JE P E H y s) :
  ∀ (a:Act) (w:World) (I:Nat→Prop) (ι:eS),Rel I ι H w→iO w I ι H E a→∃ v,(results fn a.tmps).run P w=.ok v w∧VRel w I ι H v (.tup [r,s]):=fun a w I ι hr hE=>by
 obtain ⟨v,h1,h2⟩:=hx a w I ι hr hE;obtain ⟨u,h3,h4⟩:=hy a w I ι hr hE;refine⟨.tuple #[v,u],by rw [qR,hf];simp [h1,h3],.tup rfl ?_⟩;intro i c b hc hb
 match i with
 | 0=>simp at hc hb;subst hc hb;exact h2
 | 1=>simp at hc hb;subst hc hb;exact h4
 | i+2=>simp at hc
end
end Go.Abs
namespace Go.Proofs.YtiifmppaejpemaaGreatDoor
open Go.Proofs.Tryz
open Go.Abs
abbrev T8 (l:List UInt8):Ob:=bx 1 87 [sv (ofL l)]
abbrev kN (l:List UInt8):aB:=[(980,T8 l)]
abbrev LA:AV:=.ref 980 0 0 0
abbrev DP:GK:=ms 84
theorem RR (l:List UInt8) (H:aB):∀ r∈(T8 l).rows,∀ a∈r,Clo H a:=by intro r hr a ha;simp only [T8,bx,aOC] at hr;subst hr;rw [aOC] at ha;subst ha;simp
theorem yL (l:List UInt8):eG (kN l):=eG.ofL ⟨RR l _,trivial⟩
def AW (f:FuncId) (xs:List AV) (K:aB) (l:List UInt8) (o:Option (AV×List UInt8)):Prop :=∀ H1:aB,H1.get 980=some (T8 l)→Sub K H1→eV Tryz.prog f xs H1 (fun r H'=>∃ p,o=some p∧r=p.1∧H'=kN p.2++H1) (fun ch H'=>o=none∧ch=DP∧∃ q,H'=kN q++H1)
theorem AW.of {f:FuncId} {xs:List AV} {K:aB} {l:List UInt8} {o:Option (AV×List UInt8)} (hK:eG (kN l++K)) (hK9:K.get 980=none) (hx:∀ a∈xs,Clo (kN l++K) a)
  (h:eV Tryz.prog f xs (kN l++K) (fun r H'=>∃ p,o=some p∧r=p.1∧H'=kN p.2++K) (fun ch H'=>o=none∧ch=DP∧∃ q,H'=kN q++K)):AW f xs K l o:=by
 intro H1 h1 h2;have hsub:Sub (kN l++K) H1:=fun id ob ho=>by
  rw [fP] at ho;by_cases e:980=id
  ·subst e;have:(kN l).get 980=some (T8 l):=rfl;rw [this] at ho;cases ho;exact h1
  have:(kN l).get id=none:=by simp [aB.get,kE e]
  rw [this] at ho;exact h2 id ob ho
 have hk:∀ q id,(aB.get (kN q++K) id).isSome=true→((kN l++K).get id).isSome=true:=fun q id hi=>by
  rw [fP] at hi ⊢;by_cases e:980=id
  ·subst e;rfl
  have h1:∀ q,(kN q).get id=none:=fun q=>by simp [aB.get,kE e]
  rw [h1] at hi ⊢;exact hi
 have hg:∀ (q:List UInt8) (j:Nat),aB.get (kN q++H1) j=aB.get ((kN q++K)++H1) j:=fun q j=>by
  rw [List.append_assoc,fP,fP (kN q)];cases (kN q).get j with
  | some _=>rfl
  | none =>
   simp only;rw [fP];cases e:K.get j with
   | none=>rfl
   | some ob=>exact h2 j ob e
 refine(h.frame hsub hK hx (fun r H' ⟨p,_,_,hp⟩ id hi=>.inl (by subst hp;exact hk _ id hi)) (fun ch H' ⟨_,_,q,hq⟩ id hi=>.inl (by subst hq;exact hk _ id hi))).conv ?_ ?_
 ·rintro r H' ⟨K',⟨p,e1,e2,rfl⟩,rfl⟩;exact⟨_,hg _,p,e1,e2,rfl⟩
 rintro ch H' ⟨K',⟨e1,e2,q,rfl⟩,rfl⟩;exact⟨_,hg _,e1,e2,q,rfl⟩
theorem AW.yes {f:FuncId} {xs:List AV} {K:aB} {l q:List UInt8} {v:AV} (h:AW f xs K l (some (v,q))) {H1:aB} (h1:H1.get 980=some (T8 l)) (h2:Sub K H1):aI Tryz.prog f xs H1 (fun r H'=>r=v∧H'=kN q++H1) :=((h H1 h1 h2).mono (PP':=fun _ _=>False) (fun r H' ⟨p,e1,e2,e3⟩=>by cases e1;exact⟨e2,e3⟩) (fun ch H' ⟨e,_⟩=>by cases e)).calls (fun _ _ h=>h)
theorem AW.no {f:FuncId} {xs:List AV} {K:aB} {l:List UInt8} (h:AW f xs K l none) {H1:aB} (h1:H1.get 980=some (T8 l)) (h2:Sub K H1):eV Tryz.prog f xs H1 (fun _ _=>False) (fun ch H'=>ch=DP∧∃ q,H'=kN q++H1) :=(h H1 h1 h2).mono (fun r H' ⟨p,e1,_⟩=>by cases e1) (fun ch H' ⟨_,e2,e3⟩=>⟨e2,e3⟩)
theorem AW.tot {f:FuncId} {xs:List AV} {K:aB} {l:List UInt8} {o:Option (AV×List UInt8)} (h:AW f xs K l o) {v:AV} {q:List UInt8} {d:AV} (hv:(o.getD (d,l))=(v,q)) {H1:aB} (h1:H1.get 980=some (T8 l)) (h2:Sub K H1) :
  eV Tryz.prog f xs H1 (fun r H'=>r=v∧H'=kN q++H1∧o.isSome=true) (fun ch H'=>o=none∧ch=DP∧∃ q,H'=kN q++H1) :=
 (h H1 h1 h2).mono (fun r H' ⟨p,e1,e2,e3⟩=>by subst e1;cases hv;exact⟨e2,e3,rfl⟩) (fun ch H' h=>h)
theorem eZ (H:aB):Sub [] H:=fun _ _ h=>by cases h
def AH (l:List UInt8):Option (AV×List UInt8):=(iJ l).map fun p=>(sv p.1,p.2)
def wN (l:List UInt8):Option (AV×List UInt8):=(nL l).map fun p=>(iv p.1,p.2)
theorem vW (l:List UInt8) (hl:l.length < 1000000000):AW 51 [LA] [] l (AH l):=by
 refine AW.of (yL l) rfl (by simp;rfl) ?_;have hls:(ofL l).size=l.length:=dA l;have hcl:=aJy l;have hcut:=fun H=>aJx (ofL l) H (by omega);rw [aH5] at hcut;have hat:=fun H=>aA8 (ofL (TE l)) (by rw [dA];omega) H;have hrs:(ofL (TF l)).size=(TF l).length:=dA _;have hbad:C9 l=(((!decide ((58:UInt8)∈l)||vQ (ofL (TE l)))||decide (nY (ofL (TE l)) < 0))||decide (((TF l).length:Int) < nY (ofL (TE l)))):=rfl;have hN:nxN l=(nY (ofL (TE l))).toNat:=rfl;have hO:AH l=if C9 l=true then none else some (sv (ofL ((TF l).take (nxN l))),(TF l).drop (nxN l)):=by rw [AH,iJ];split<;>rfl
 rw [hO];obtain ⟨x,hx⟩:∃ x,x=ofL (TE l):=⟨_,rfl⟩;obtain ⟨v,hv⟩:∃ v,v=nY (ofL (TE l)):=⟨_,rfl⟩;obtain ⟨e,he⟩:∃ e,e=vQ (ofL (TE l)):=⟨_,rfl⟩;obtain ⟨o,ho⟩:∃ o,o=decide ((58:UInt8)∈l):=⟨_,rfl⟩;obtain ⟨r,hr⟩:∃ r,r=TF l:=⟨_,rfl⟩;simp only [← hv,← he,← ho,← hr] at hcut hat hbad hN hrs hcl ⊢;simp only [← hx] at hcut hat hbad;clear hx hv he ho hr hO;refine eV.body func51 rfl ntmps51 (aOM rfl) ?_;refine Sr<|Dd aN<|Zz<|Sr<|Dd aF<|Dd AJ<|Dd (aV aE6)<|Dd (bM isAgg9)<|Dd (by exact aA rfl rfl call117 rfl (hcut _))<|Dd aF<|Dd fL<|Dd fL<|Dd fL<|Dd aN<|Dd aN<|Dd aN<|Zz<|Sr<|Dd aF<|Dd (by exact aA rfl rfl wM rfl (hat _))<|Dd aF<|Dd fL<|Dd fL<|Dd aN<|Dd aN<|Zz<|Sq<|Sq ?_;refine bA (t:=37) (n:=19) (X:=C9 l) ?_ ?_
 ·all_goals refine Dd aF ?_
  all_goals refine Dd jS<|Dm ?_
  all_goals refine Sp 24 (fun h24=>?_) fun h24=>?_
  all_goals(try(with_reducible contradiction))
  all_goals first|refine Fo<|Fo ?_|refine On aF<|On (by exact UJ rfl oL rfl) ?_
  all_goals refine Dd cW<|Dm ?_
  all_goals refine Sp 28 (fun h28=>?_) fun h28=>?_
  all_goals(try(with_reducible contradiction))
  all_goals first|refine Fo<|Fo ?_|refine On aF<|On dK ?_
  all_goals refine Dd cW<|Dm ?_
  all_goals refine Sp 32 (fun h32=>?_) fun h32=>?_
  all_goals(try(with_reducible contradiction))
  all_goals first|refine Fo<|Fo<|Fo<|Fo ?_|refine On aF<|On aF<|On (lH underlying9)<|On jE ?_
  all_goals refine Dd cW<|Zz ?_
  all_goals(exact⟨⟨_,rfl,by rw [hbad];first|(rw [h24];rfl)|(rw [h24,h28];rfl)|(rw [h24,h28,h32,← hrs];rfl)⟩,rfl,rfl,rfl⟩)
 refine Cn ?_ ?_<;>intro hc1
 ·have hb:C9 l=true:=hc1;rw [aNy hb];refine fK ?_;refine gL rfl rfl rfl (by exact G3 (fs:=#[]) (places:=#[]) (v0:=.agg []) (l0:=[]) (aps:=[]) (l:=[]) rfl wD aFS (.inl rfl) rfl (fun w=>by simp) rfl rfl) ?_;refine gL rfl rfl rfl (by exact E7 (ps:=[]) rfl (dM wD rfl) rfl) ?_;exact nZ rfl rfl (PJ rfl rfl) (fun ch H' h=>by obtain ⟨rfl,rfl⟩:=h;exact BZ (H':=kN l) (Fin.wk (by simp) (Hb<|trivial) ⟨rfl,trivial⟩) ⟨rfl,rfl,l,rfl⟩)
 have hb:C9 l=false:=hc1;rw [aNx (by rw [hb];decide)];have hb2:=hbad.symm.trans hb;simp only [aOV,aOH] at hb2;obtain ⟨u,rfl⟩:∃ u:Nat,v=(u:Int):=⟨v.toNat,by omega⟩;rw [aOK] at hN;rw [hN];have hur:u≤r.length:=by omega
 have x1:(ofL r).extract 0 u=ofL (r.take u):=rW (by rw [jP,cZ,cZ,List.drop_zero,Nat.sub_zero]);have x2:(ofL r).extract u (ofL r).size=ofL (r.drop u):=rW (by rw [BQ,cZ,cZ]);refine aD<|Sr<|Dd aF<|Dd aF<|Dd aF<|Dd (by exact cO (l:=u) (h:=(ofL r).size) rfl underlying9 rfl rfl rfl (by omega) (aOF _) x2)<|Dd AJ<|Dd (aV aE6)<|Uu (kQ sizeOf9)<|Zz<|Sr<|Dd aF<|Dd aF<|Dd (by exact cO (l:=0) (h:=u) rfl underlying9 rfl rfl rfl (aOQ _) (by omega) x1)<|Dd aN<|Zz<|aC ?_;refine HY ?_;refine dY (H':=(kN (r.drop u))) (.inr rfl) rfl (aY rfl) (Fin.wk (by(simp;done)) (Hb<|trivial) ⟨rfl,trivial⟩) ?_;exact⟨_,rfl,rfl,rfl⟩
theorem aH7 {l:List UInt8} (h:(58:UInt8)∈l):(TF l).length < l.length:=by rw [TF,aOO];have:=(List.dropWhile_sublist (l:=l) fun b=>!decide (b=58)).length_le;have:=List.length_pos_of_mem h;omega
theorem iZ {l q:List UInt8} {s:ByteArray} (h:iJ l=some (s,q)):s.size+q.length < l.length:=by
 rw [iJ] at h
 split at h
 ·cases h
 next hb =>
 have hb:C9 l=false:=by simpa using hb
 simp only [C9,aOV,Bool.not_eq_false',aOH,aOG] at hb;have hlt:=aH7 hb.1.1.1;cases h;rw [dA,aON,aOO];omega
theorem iE {l q:List UInt8} {x:Int} (h:nL l=some (x,q)):q.length < l.length∧(-9223372036854775808≤x∧x≤9223372036854775807):=by
 rw [nL] at h;cases hO:iJ l with
 | none=>rw [hO] at h;cases h
 | some p =>
  obtain ⟨s,r⟩:=p;rw [hO] at h;simp only at h
  split at h
  ·cases h
  cases h;have:=iZ hO;exact⟨by omega,aCM s⟩
theorem lP (l:List UInt8) (hl:l.length < 1000000000):AW 52 [LA] [] l (wN l):=by
 refine AW.of (yL l) rfl (by simp;rfl) ?_;have hn:=vW l hl;have hlen:=fun s q=>iZ (l:=l) (s:=s) (q:=q);have hA:AH l=(iJ l).map fun p=>(sv p.1,p.2):=rfl;have hB:wN l=(match iJ l with
  | none=>none
  | some (s,r)=>if vQ s=true then none else some (iv (nY s),r)):=by
  rw [wN,nL];cases iJ l with
  | none=>rfl
  | some p=>simp only;split<;>rfl
 rw [hB];rw [hA] at hn;obtain ⟨O,hO⟩:∃ O,O=iJ l:=⟨_,rfl⟩;rw [← hO] at hn hlen ⊢;clear hO hA hB;refine eV.body func52 rfl ntmps52 (aOM rfl) ?_;refine Sr<|Dd aN<|Zz<|Sq ?_;rcases O with _|⟨s,q⟩
 ·have hn:AW 51 [LA] [] l none:=hn;refine fK ?_;refine gL rfl rfl rfl (by exact fO rfl rfl) ?_;exact nZ rfl rfl (eD rfl rfl kP rfl (hn.no rfl (eZ _))) (fun ch H' h=>by obtain ⟨rfl,q,rfl⟩:=h;exact BZ (H':=kN q) (Fin.wk (by simp) (Hb<|trivial) ⟨rfl,trivial⟩) ⟨rfl,rfl,q,rfl⟩)
 have hn:AW 51 [LA] [] l (some (sv s,q)):=hn;have hlen:=hlen s q rfl;have hat:=fun H=>aA8 s (by omega) H;obtain ⟨e,he⟩:∃ e,e=vQ s:=⟨_,rfl⟩;obtain ⟨v,hv⟩:∃ v,v=nY s:=⟨_,rfl⟩;simp only [← he,← hv] at hat ⊢;clear he hv;refine Rg<|Dd aF<|Dd (by exact aA rfl rfl kP rfl (hn.yes rfl (eZ _)))<|Dd (by exact aA rfl rfl wM rfl (hat _))<|Dd aF<|Dd fL<|Dd fL<|Dd aN<|Dd aN<|Zz<|Sq<|Sr<|Dd aF<|Dd (by exact UJ rfl oL rfl)<|Zz ?_;refine Cn ?_ ?_<;>intro hc1
 ·have hb:e=true:=hc1;rw [aNy hb];refine fK ?_;refine gL rfl rfl rfl (by exact G3 (fs:=#[]) (places:=#[]) (v0:=.agg []) (l0:=[]) (aps:=[]) (l:=[]) rfl wD aFS (.inl rfl) rfl (fun w=>by simp) rfl rfl) ?_;refine gL rfl rfl rfl (by exact E7 (ps:=[]) rfl (dM wD rfl) rfl) ?_;exact nZ rfl rfl (PJ rfl rfl) (fun ch H' h=>by obtain ⟨rfl,rfl⟩:=h;exact BZ (H':=kN q) (Fin.wk (by simp) (Hb<|trivial) ⟨rfl,trivial⟩) ⟨rfl,rfl,q,rfl⟩)
 have hb:e=false:=hc1;rw [aNx (by rw [hb];decide)];refine aD<|Sr<|Dd aF<|Dd aN<|Zz<|aC ?_;refine HY ?_;refine dY (H':=(kN q)) (.inr rfl) rfl (aY rfl) (Fin.wk (by(simp;done)) (Hb<|trivial) ⟨rfl,trivial⟩) ?_;exact⟨_,rfl,rfl,rfl⟩
abbrev nxB:AV:=.bnd 51 [LA]
def YA (l:List UInt8):Option (AV×List UInt8):=(uU iJ l).map fun p=>(.pv (aX p.1),p.2)
theorem UV {α:Type} (f:List UInt8→Option (α×List UInt8)) {N k:Nat} {q l':List UInt8} {A:List α} (hk:A.length=k) (hlt:k < N) (h:CH f N q=(CH f (N - k) l').map fun p=>(A++p.1,p.2)) :
  CH f N q=match f l' with
   | none=>none
   | some (x,r)=>(CH f (N - (k+1)) r).map fun p=>((A++[x])++p.1,p.2):=by
 rw [h,show N - k=(N - (k+1))+1 by omega,CH];cases f l' with
 | none=>rfl
 | some p =>
  obtain ⟨x,r⟩:=p;simp only;cases CH f (N - (k+1)) r with
  | none=>rfl
  | some p2 =>
   obtain ⟨xs,q2⟩:=p2;simp
theorem aEI {l:List UInt8} (h:nL l=none):YA l=none:=by rw [YA,uU,h];rfl
theorem aEH {l q:List UInt8} {n:Int} (h:nL l=some (n,q)):YA l=(CH iJ n.toNat q).map fun p=>(.pv (aX p.1),p.2):=by rw [YA,uU,h]
theorem SA (l:List UInt8) (hl:l.length < 1000000000):AW 53 [LA,nxB] [] l (YA l):=by
 refine AW.of (yL l) rfl (by simp;rfl) ?_;have hnu:=lP l hl;have hnone:=aEI (l:=l);have hsome:=fun n q=>aEH (l:=l) (n:=n) (q:=q);have hlen:=fun n q=>iE (l:=l) (x:=n) (q:=q);rw [wN] at hnu;obtain ⟨O,hO⟩:∃ O,O=nL l:=⟨_,rfl⟩;rw [← hO] at hnu hnone hsome hlen;clear hO;refine eV.body func53 rfl ntmps53 (aOM rfl) ?_;refine Sr<|Dd aN<|Zz<|Sq ?_;rcases O with _|⟨n,q0⟩
 ·rw [hnone rfl];have hn:AW 52 [LA] [] l none:=hnu;refine fK ?_;refine gL rfl rfl rfl (by exact fO rfl rfl) ?_;exact nZ rfl rfl (eD rfl rfl gW rfl (hn.no rfl (eZ _))) (fun ch H' h=>by obtain ⟨rfl,q,rfl⟩:=h;exact BZ (H':=kN q) (Fin.wk (by simp) (Hb<|trivial) ⟨rfl,trivial⟩) ⟨rfl,rfl,q,rfl⟩)
 have hn:AW 52 [LA] [] l (some (iv n,q0)):=hnu;obtain ⟨hq0,hn0,hn1⟩:=hlen n q0 rfl;rw [hsome n q0 rfl];refine Rg<|Dd aF<|Dd (by exact aA rfl rfl gW rfl (hn.yes rfl (eZ _)))<|Dd aN<|Zz<|Sr<|Dd (by exact pJ (id:=905) (sz:=1) (ty:=9) rfl rfl rfl)<|Zz<|Sq<|Sr<|Dd aF<|Dd aF<|Zz<|aG ?_;refine jI (fun(l':List UInt8) (A:List ByteArray)=>([(0,LA),(1,nxB),(6,.osl 905 A.length 0 A.length),(9,iv n),(10,iv (A.length:Int))],(905,⟨A.length,1,9,dS A⟩)::kN l')) (fun l' A=>l'.length+A.length < l.length∧A.length≤n.toNat∧CH iJ n.toNat q0=(CH iJ (n.toNat - A.length) l').map fun p=>(A++p.1,p.2)) (fun l' A=>l'.length) q0 [] ⟨by rw [List.length_nil];omega,aOQ _,by simp⟩ ?_ ?_
 ·exact(cY.wk (Ea<|Ea<|Ea<|Eb<|Eb<|trivial) (Hc (cL _ _)<|Hb<|trivial) ⟨rfl,trivial⟩)
 rintro l' A ⟨hl',hA,hR⟩;have hnx:=vW l' (by omega);have hxl:=fun s q=>iZ (l:=l') (s:=s) (q:=q);have hmore:=fun h=>UV iJ (k:=A.length) rfl h hR;rw [AH] at hnx;obtain ⟨X,hX⟩:∃ X,X=iJ l':=⟨_,rfl⟩;rw [← hX] at hnx hxl hmore;clear hX;refine Sr<|Dd dK<|Zz<|Sq ?_;refine Cn ?_ ?_<;>intro hc1
 ·have hlt:A.length < n.toNat:=by have:=aNv hc1;omega
  have hm:=hmore hlt;clear hmore;refine aD<|Sq<|aG ?_;rcases X with _|⟨s,q⟩
  ·have hm:CH iJ n.toNat q0=none:=hm;rw [hm];have hnx:AW 51 [LA] [] l' none:=hnx;refine fK ?_;refine gL rfl rfl rfl (by exact fO rfl rfl) ?_;refine gL rfl rfl rfl (by exact fO rfl rfl) ?_;exact nZ rfl rfl (C5 rfl rfl kP rfl (hnx.no rfl (eZ _))) (fun ch H' h=>by obtain ⟨rfl,q,rfl⟩:=h;exact BZ (H':=kN q) (Fin.wk (by simp) (Hb<|trivial) ⟨rfl,trivial⟩) ⟨rfl,rfl,q,rfl⟩)
  have hm:CH iJ n.toNat q0=(CH iJ (n.toNat - (A.length+1)) q).map fun p=>((A++[s])++p.1,p.2):=hm;have hnx:AW 51 [LA] [] l' (some (sv s,q)):=hnx;have hxl:=hxl s q rfl;have hnl:(A++[s]).length=A.length+1:=by rw [aOA];rfl
  refine Rg<|Dd aF<|Dd aF<|Dd (by exact AS.opr (C5 rfl rfl kP rfl (eV.of (hnx.yes rfl (eZ _)))))<|Dd (by exact aR [[.str s]] rfl cA rfl rfl rfl rfl rfl (by intro r hr;rw [aOC] at hr;subst hr;rfl))<|Dd (by exact dH (ps:=[[.str s]]) rfl cA EC rfl rfl rfl rfl rfl (jY _) rfl (by intro r hr;rw [aOC] at hr;subst hr;rfl) (m:=1) rfl (by omega) rfl (lO A s))<|Dd aN<|Zz<|Rg<|Dd (by exact cI rfl rfl rfl (show IntKind.i64.wrap ((A.length:Int)+1)=((A.length+1:Nat):Int)by rw [pB (by omega) (by omega)];omega))<|Dd aF<|Zz ?_;refine⟨q,A++[s],⟨by rw [hnl];omega,by rw [hnl];omega,by rw [hnl];exact hm⟩,by omega,?_⟩;dsimp only;rw [hnl];exact(cY.wk (Ea<|Ea<|Ea<|Eb<|Eb<|trivial) (Hc (cL _ _)<|Hb<|trivial) ⟨rfl,trivial⟩)
 have hge:n.toNat=A.length:=by have:=aNw hc1;omega
 have hR2:CH iJ n.toNat q0=some (A,l'):=by rw [hR,hge,Nat.sub_self,CH];simp
 rw [hR2];refine bC<|Sr<|Dd aF<|Dd aN<|Zz<|aC ?_;refine HY ?_;refine dY (H':=(kN l')) (.inr rfl) rfl (aY rfl) (Fin.fz (id:=905) (ob:=⟨A.length,1,9,dS A⟩) (r':=.pv (aX A)) (A.map encStr) rfl (fN _) (.osl (qG encStr _)) rfl ⟨⟨_,rfl,rfl⟩,(by(simp;done)),trivial⟩ ⟨rfl,trivial⟩) ?_;exact⟨_,rfl,rfl,rfl⟩
end Go.Proofs.YtiifmppaejpemaaGreatDoor
