/-
  Parts of the proof: rules of an abstract program logic, contracts of functions, plain laws. Conditions: each theorem's own.
-/
import Derived.Test.YtmkgeogoojcciaaGreatDoorKS2M5
import Derived.Lib.AtoiAllCases
set_option linter.unusedVariables false
set_option linter.unusedSimpArgs false
set_option maxRecDepth 100000
set_option maxHeartbeats 8000000
namespace Go.Proofs
theorem XH:type_of% Tryz.call105:=Tryz.call105
theorem sU:type_of% Tryz.call41:=Tryz.call41
theorem nZ:type_of% Tryz.call43:=Tryz.call43
theorem CP:type_of% Tryz.call48:=Tryz.call48
theorem XU:type_of% Tryz.call55:=Tryz.call55
theorem Q6:type_of% Tryz.call82:=Tryz.call82
theorem Q5:type_of% Tryz.call83:=Tryz.call83
theorem XT:type_of% Tryz.call85:=Tryz.call85
theorem nY:type_of% Tryz.call90:=Tryz.call90
theorem nW:type_of% Tryz.call99:=Tryz.call99
theorem mA:type_of% Tryz.isAgg29:=Tryz.isAgg29
theorem bS:type_of% Tryz.isAgg33:=Tryz.isAgg33
theorem cK:type_of% Tryz.isAgg70:=Tryz.isAgg70
theorem aU:type_of% Tryz.underlying33:=Tryz.underlying33
end Go.Proofs
namespace Go.Proofs.YtmkgeogoojcciaaGreatDoor
open Go.Proofs.Tryz
open Go.Abs Go.Lib
theorem P7 {s:ByteArray} (h:gD s=false) : -9223372036854775808≤cX s∧cX s≤9223372036854775807:=by
 rw [gD] at h;rw [cX,oS];cases e:Lib.atoiAll s.data.toList with
 | ok v=>exact Lib.atoiAll_bounds e
 | range=>rw [e] at h;cases h
 | _=>rw [e] at h;cases h
theorem PA (s:ByteArray) (i j:Nat):(s.extract i j).size≤s.size:=by rw [ByteArray.size_extract];omega
theorem lO {s:DSt} (hs:DOk s) {n:Nat} (hn:n < s.cells.length):(bK s n).size=64:=by
 rw [bK];cases e:s.q.reverse.find? (nM n)with
 | some p =>
  have:=List.mem_of_find?_eq_some e;exact(hs.q p (List.mem_reverse.1 this)).2
 | none =>
  rw [YM hn];exact hs.c _ (List.getElem_mem hn)
theorem u6 {s:DSt} (hs:DOk s) (hoff:s.off=false) {n:Nat} (hn:n < s.cells.length):∀ H,FM H (aY s)→aJ Tryz.prog 41 [.ref 1000 0 0 0,iv (n:Int)] H (fun r H'=>r=.tup [sv (bK s n),iv 0]∧H'=H):=fun H hH=>by
 have h:=aJ.frameS (N4 s (n:Int) hs) hH.sub (sD s) (by simp;rfl);have e:eL s (n:Int)=true:=by rw [fI];exact decide_eq_true hn
 rw [show xB s (n:Int)=bK s n by rw [xB,hoff,YF (by decide),YG e,YS],show nD s (n:Int)=0 by rw [nD,hoff,YF (by decide),YG e]] at h;exact h
def kU (t:ByteArray):Bool:=gD (t.extract 16 24)||decide (cX (t.extract 16 24) < 0)
def KL (t:ByteArray):Nat:=(cX (t.extract 16 24)).toNat
def nS (t:ByteArray):Nat:=if kU t then 0 else KL t / 10000000
def nR (t:ByteArray):Nat:=if kU t then 0 else KL t % 10000000
def gC (k place:Nat) (t:ByteArray):Bool:=!kU t&&((decide (nS t < 2)&&decide (nR t≤k))&&decide (ofL (wR place (nS t) (nR t))=t))
theorem rJ (s:DSt) (hs:DOk s) (hoff:s.off=false) (k a n place:Nat) (b:Bool) (l:List (ByteArray×ByteArray×Nat)) (c:Nat) (hp:place < s.cells.length) (hk:k < 10000000) :
  aJ Tryz.prog 42 [.ref 1100 0 0 0,iv (place:Int)] (sH s (b4 k a n b) (bJ l c)) (fun r H'=>r=.tup [.agg [iv (nS (bK s place):Int),iv (nR (bK s place):Int)],bv (gC k place (bK s place))]∧H'=sH s (b4 k a n b) (bJ l c)):=by
 have ht:=lO hs hp;have hrd:=u6 hs hoff hp;have hpl:place < 1000000000000:=by have:=hs.n2;omega
 obtain ⟨t,hT⟩:∃ t,t=bK s place:=⟨_,rfl⟩;rw [← hT] at ht hrd ⊢;clear hT;obtain ⟨x,hx⟩:∃ x,x=t.extract 16 24:=⟨_,rfl⟩;have hxs:x.size < 1099511627776:=by rw [hx];have:=PA t 16 24;omega
 have hat:=fun H=>vF x hxs H;have hbd:=P7 (s:=x);have hpb:kU t=(gD x||decide (cX x < 0)):=by rw [kU,hx]
 have hpu:KL t=(cX x).toNat:=by rw [KL,hx]
 obtain ⟨v,hv⟩:∃ v,v=cX x:=⟨_,rfl⟩;obtain ⟨e,he⟩:∃ e,e=gD x:=⟨_,rfl⟩;simp only [← hv,← he] at hat hbd hpb hpu;clear hv he;refine Bd func42 rfl ntmps42<|Sr<|Dd (by exact bZ (id:=4) rfl M1 rfl rfl)<|Dd aR<|Zz<|Sr<|Dd aF<|Dd eX<|Dd (dP qP)<|Dd (eF mA)<|Dd aF<|Dd (by exact aB rfl rfl sU rfl (hrd _ ⟨rfl,rfl,rfl,rfl,trivial⟩))<|Dd aF<|Dd dU<|Dd dU<|Dd aR<|Dd aR<|Zz<|Sr<|Dd aF<|Dd (by exact cE (l:=16) (h:=24) rfl aK rfl rfl rfl (by omega) (by omega) hx.symm)<|Dd (by exact aB rfl rfl Q6 rfl (hat _))<|Dd aF<|Dd dU<|Dd dU<|Dd aR<|Dd aR<|Zz<|Sq<|Sq ?_;refine cR (t:=31) (n:=7) (X:=e||decide (v < 0)) ?_ ?_
 ·all_goals refine Dd aF ?_
  all_goals refine Dd (by exact rN rfl gZ rfl)<|Dm ?_
  all_goals refine Sp 28 (fun h28=>?_) fun h28=>?_
  all_goals try contradiction
  all_goals first|refine Fo<|Fo ?_|refine On aF<|On dO ?_
  all_goals refine Dd fN<|Zz ?_
  all_goals(exact⟨⟨_,rfl,by(rw [h28];rfl)⟩,rfl,rfl,rfl⟩)
 refine Cn ?_ ?_<;>intro hc1
 ·have hq:=hc1;have hb:kU t=true:=hpb.trans hq;refine Sr<|Dd (MX MA)<|Uu (oX sizeOf70)<|Dd aR<|Zz<|aM ?_;refine fO (H':=(sH s (b4 k a n b) (bJ l c))) (.inr rfl) rfl (WR cK sizeOf70) (aG rfl) (Fin.wk (r:=.tup [.agg [iv 0,iv 0],bv false]) (by simp) ⟨⟨_,rfl,rfl⟩,(by exact aE _ _ rfl rfl rfl),⟨_,rfl,rfl⟩,(by exact aC _ _),⟨_,rfl,rfl⟩,(by exact aL _ _ _),⟨_,rfl,rfl⟩,(by exact aI _ _),⟨_,rfl,rfl⟩,(by exact bC rfl rfl),⟨_,rfl,rfl⟩,(by exact aS _ _ _),trivial⟩ ⟨rfl,rfl,rfl,rfl,rfl,rfl,trivial⟩) ?_;exact⟨by rw [nS,nR,gC,hb];rfl,rfl⟩
 have hq:=hc1;have hb:kU t=false:=hpb.trans hq;rw [Y3,YP] at hq;obtain ⟨u,rfl⟩:∃ u:Nat,v=(u:Int):=⟨v.toNat,by omega⟩;have hbu:=hbd hq.1;rw [YS] at hpu;have h34:IntKind.i64.wrap ((u:Int).tdiv 10000000)=((u / 10000000:Nat):Int):=by
  rw [Int.tdiv_eq_ediv_of_nonneg (by omega),iB (by omega) (by omega)];omega
 have h36:(u:Int).tmod 10000000=((u % 10000000:Nat):Int):=by
  rw [Int.tmod_eq_emod_of_nonneg (by omega)];omega
 have hA:nS t=u / 10000000:=by rw [nS,hb,YF (by decide),hpu]
 have hN:nR t=u % 10000000:=by rw [nR,hb,YF (by decide),hpu]
 rw [gC,hb,hA,hN];have hnn:u % 10000000 < 10000000:=Nat.mod_lt _ (by decide);obtain ⟨p,hpe⟩:∃ p,p=u / 10000000:=⟨_,rfl⟩;obtain ⟨q,hqe⟩:∃ q,q=u % 10000000:=⟨_,rfl⟩;rw [← hpe] at h34;rw [← hqe] at h36 hnn;rw [← hpe,← hqe];clear hpe hqe;by_cases h2:p < 2
 ·have g42:decide ((p:Int) < 2)=true:=decide_eq_true (by omega);have hhd:=fun H=>B0 place p q hpl (by omega) (by omega) H;by_cases h3:q≤k
  ·have g51:decide ((q:Int)≤(k:Int))=true:=decide_eq_true (by omega);refine aH<|Sr<|Dd aF<|Dd (by exact m0 rfl rfl rfl (by decide) h34)<|Dd aF<|Dd (by exact mZ rfl rfl rfl (by decide) h36)<|Dd (MX MA)<|Dd (by exact bZ (id:=10) rfl M1 rfl rfl)<|Uu (oX sizeOf70)<|Zz<|Sq<|bO follows<|Cr [10] (fun H1 hH=>by exact cP rfl cK sizeOf70 rfl ((hH _ rfl).trans rfl) rfl rfl rfl rfl)<|Cr [10] (fun _ h=>fh qQ h)<|Cr [10] (fun _ h=>lh aT h)<|Cr [] (fun _ _=>dO)<|Cr [] (fun _ _=>aF) ?_;refine b5 (r:=⟨_,some [10],[]⟩) (fC rfl rfl rfl (by assumption) (fun H1 hH=>by exact(by exact fJ rfl lS rfl ((hH _ rfl).trans rfl) rfl rfl))) rfl ?_;refine b5 (r:=⟨_,some [10],[]⟩) (fC rfl rfl rfl (by assumption) (fun H1 hH=>by exact(by exact aW rfl aT rfl ((hH _ rfl).trans rfl) rfl rfl rfl))) rfl ?_;refine b5 (r:=⟨_,some [1100],[]⟩) (fC rfl rfl rfl (by assumption) (fun H1 hH=>by exact mK rfl rfl)) rfl ?_;refine b5 (r:=⟨_,some [1100],[]⟩) (fC rfl rfl rfl (by assumption) (fun H1 hH=>by exact(by exact bN rfl rfl ((hH _ rfl).trans rfl) rfl))) rfl ?_;refine b5 (r:=⟨_,some [1100],[]⟩) (fC rfl rfl rfl (by assumption) (fun H1 hH=>by exact(by exact fJ rfl qO rfl ((hH _ rfl).trans rfl) rfl rfl))) rfl ?_;refine b5 (r:=⟨_,some [1100],[]⟩) (fC rfl rfl rfl (by assumption) (fun H1 hH=>by exact(by exact aW rfl aT rfl ((hH _ rfl).trans rfl) rfl rfl rfl))) rfl ?_;refine b5 (r:=⟨_,some [],[]⟩) (fC rfl rfl rfl (by assumption) (fun H1 hH=>by exact BI rfl rfl rfl)) rfl ?_;refine Cr [] (fun _ _=>TK)<|Cr [] (fun _ _=>aF) ?_;refine b5 (r:=⟨_,some [],[]⟩) (fC rfl rfl rfl (by assumption) (fun H1 hH=>by exact mK rfl rfl)) rfl ?_;refine b5 (r:=⟨_,some [10],[]⟩) (fC rfl rfl rfl (by assumption) (fun H1 hH=>by exact(by exact cP rfl cK sizeOf70 rfl ((hH _ rfl).trans rfl) rfl rfl rfl rfl))) rfl ?_;refine b5 (r:=⟨_,some [],[]⟩) (fC rfl rfl rfl (by assumption) (fun H1 hH=>by exact aB rfl rfl Q5 rfl (hhd _))) rfl ?_;refine b5 (r:=⟨_,some [],[]⟩) (fC rfl rfl rfl (by assumption) (fun H1 hH=>by exact mK rfl rfl)) rfl ?_;refine b5 (r:=⟨_,some [],[]⟩) (fC rfl rfl rfl (by assumption) (fun H1 hH=>by exact v6 rfl rfl rfl)) rfl ?_;refine Cr [] (fun _ _=>TK)<|Cp [4] (fun H1 hH=>by exact g8 rfl sizeOf70 rfl rfl rfl rfl ((hH _ rfl).trans rfl) rfl rfl rfl)<|Cr [] (fun _ _=>aR)<|cU<|Kr<|aM ?_;refine fO (H':=(sH s (b4 k a n b) (bJ l c))) (.inr rfl) rfl (WR cK sizeOf70) (aG rfl) (Fin.wk (r:=.tup [.agg [iv (p:Int),iv (q:Int)],bv (decide (ofL (wR place p q)=t))]) (by simp) ⟨⟨_,rfl,rfl⟩,(by exact aE _ _ rfl rfl rfl),⟨_,rfl,rfl⟩,(by exact aC _ _),⟨_,rfl,rfl⟩,(by exact aL _ _ _),⟨_,rfl,rfl⟩,(by exact aI _ _),⟨_,rfl,rfl⟩,(by exact bC rfl rfl),⟨_,rfl,rfl⟩,(by exact aS _ _ _),trivial⟩ ⟨rfl,rfl,rfl,rfl,rfl,rfl,trivial⟩) ?_;exact⟨by rw [decide_eq_true h2,decide_eq_true h3];rfl,rfl⟩
  have g51:decide ((q:Int)≤(k:Int))=false:=decide_eq_false (by omega);refine aH<|Sr<|Dd aF<|Dd (by exact m0 rfl rfl rfl (by decide) h34)<|Dd aF<|Dd (by exact mZ rfl rfl rfl (by decide) h36)<|Dd (MX MA)<|Dd (by exact bZ (id:=10) rfl M1 rfl rfl)<|Uu (oX sizeOf70)<|Zz<|Sq<|bO follows<|Cr [10] (fun H1 hH=>by exact cP rfl cK sizeOf70 rfl ((hH _ rfl).trans rfl) rfl rfl rfl rfl)<|Cr [10] (fun _ h=>fh qQ h)<|Cr [10] (fun _ h=>lh aT h)<|Cr [] (fun _ _=>dO)<|Cr [] (fun _ _=>aF) ?_;refine b5 (r:=⟨_,some [10],[]⟩) (fC rfl rfl rfl (by assumption) (fun H1 hH=>by exact(by exact fJ rfl lS rfl ((hH _ rfl).trans rfl) rfl rfl))) rfl ?_;refine b5 (r:=⟨_,some [10],[]⟩) (fC rfl rfl rfl (by assumption) (fun H1 hH=>by exact(by exact aW rfl aT rfl ((hH _ rfl).trans rfl) rfl rfl rfl))) rfl ?_;refine b5 (r:=⟨_,some [1100],[]⟩) (fC rfl rfl rfl (by assumption) (fun H1 hH=>by exact mK rfl rfl)) rfl ?_;refine b5 (r:=⟨_,some [1100],[]⟩) (fC rfl rfl rfl (by assumption) (fun H1 hH=>by exact(by exact bN rfl rfl ((hH _ rfl).trans rfl) rfl))) rfl ?_;refine b5 (r:=⟨_,some [1100],[]⟩) (fC rfl rfl rfl (by assumption) (fun H1 hH=>by exact(by exact fJ rfl qO rfl ((hH _ rfl).trans rfl) rfl rfl))) rfl ?_;refine b5 (r:=⟨_,some [1100],[]⟩) (fC rfl rfl rfl (by assumption) (fun H1 hH=>by exact(by exact aW rfl aT rfl ((hH _ rfl).trans rfl) rfl rfl rfl))) rfl ?_;refine b5 (r:=⟨_,some [],[]⟩) (fC rfl rfl rfl (by assumption) (fun H1 hH=>by exact BI rfl rfl rfl)) rfl ?_;refine Cr [] (fun _ _=>TK)<|Cr [] (fun _ _=>aF)<|Ot<|Ot<|Ot<|Ot<|Ot<|Cr [] (fun _ _=>KQ)<|Cp [4] (fun H1 hH=>by exact g8 rfl sizeOf70 rfl rfl rfl rfl ((hH _ rfl).trans rfl) rfl rfl rfl)<|Cr [] (fun _ _=>aR)<|cU<|Kr<|aM ?_;refine fO (H':=(sH s (b4 k a n b) (bJ l c))) (.inr rfl) rfl (WR cK sizeOf70) (aG rfl) (Fin.wk (r:=.tup [.agg [iv (p:Int),iv (q:Int)],bv false]) (by simp) ⟨⟨_,rfl,rfl⟩,(by exact aE _ _ rfl rfl rfl),⟨_,rfl,rfl⟩,(by exact aC _ _),⟨_,rfl,rfl⟩,(by exact aL _ _ _),⟨_,rfl,rfl⟩,(by exact aI _ _),⟨_,rfl,rfl⟩,(by exact bC rfl rfl),⟨_,rfl,rfl⟩,(by exact aS _ _ _),trivial⟩ ⟨rfl,rfl,rfl,rfl,rfl,rfl,trivial⟩) ?_;exact⟨by rw [decide_eq_true h2,decide_eq_false h3];rfl,rfl⟩
 have g42:decide ((p:Int) < 2)=false:=decide_eq_false (by omega);refine aH<|Sr<|Dd aF<|Dd (by exact m0 rfl rfl rfl (by decide) h34)<|Dd aF<|Dd (by exact mZ rfl rfl rfl (by decide) h36)<|Dd (MX MA)<|Dd (by exact bZ (id:=10) rfl M1 rfl rfl)<|Uu (oX sizeOf70)<|Zz<|Sq<|bO follows<|Cr [10] (fun H1 hH=>by exact cP rfl cK sizeOf70 rfl ((hH _ rfl).trans rfl) rfl rfl rfl rfl)<|Cr [10] (fun _ h=>fh qQ h)<|Cr [10] (fun _ h=>lh aT h)<|Cr [] (fun _ _=>dO)<|Cr [] (fun _ _=>aF)<|Ot<|Ot<|Ot<|Ot<|Ot<|Ot<|Ot<|Cr [] (fun _ _=>KQ)<|Cr [] (fun _ _=>aF)<|Ot<|Ot<|Ot<|Ot<|Ot<|Cr [] (fun _ _=>fN)<|Cp [4] (fun H1 hH=>by exact g8 rfl sizeOf70 rfl rfl rfl rfl ((hH _ rfl).trans rfl) rfl rfl rfl)<|Cr [] (fun _ _=>aR)<|cU<|Kr<|aM ?_;refine fO (H':=(sH s (b4 k a n b) (bJ l c))) (.inr rfl) rfl (WR cK sizeOf70) (aG rfl) (Fin.wk (r:=.tup [.agg [iv (p:Int),iv (q:Int)],bv false]) (by simp) ⟨⟨_,rfl,rfl⟩,(by exact aE _ _ rfl rfl rfl),⟨_,rfl,rfl⟩,(by exact aC _ _),⟨_,rfl,rfl⟩,(by exact aL _ _ _),⟨_,rfl,rfl⟩,(by exact aI _ _),⟨_,rfl,rfl⟩,(by exact bC rfl rfl),⟨_,rfl,rfl⟩,(by exact aS _ _ _),trivial⟩ ⟨rfl,rfl,rfl,rfl,rfl,rfl,trivial⟩) ?_;exact⟨by rw [decide_eq_false h2];rfl,rfl⟩
def dR (place:Nat) (p:List UInt8):List UInt8:=eC place (dg p.length 2++p)
def vY (t:ByteArray):Bool:=(gD (t.extract 16 18)||decide (cX (t.extract 16 18) < 1))||decide (46 < cX (t.extract 16 18))
def KR (t:ByteArray):ByteArray:=t.extract 18 (18+(cX (t.extract 16 18)).toNat)
def yB (place:Nat) (t:ByteArray):ByteArray:=if vY t then sNil else if ofL (dR place (KR t).data.toList)=t then KR t else sNil
theorem RU (s:DSt) (hs:DOk s) (hoff:s.off=false) (k a n place:Nat) (b:Bool) (l:List (ByteArray×ByteArray×Nat)) (c:Nat) (hp:place < s.cells.length) :
  aJ Tryz.prog 84 [.ref 1100 0 0 0,iv (place:Int)] (sH s (b4 k a n b) (bJ l c)) (fun r H'=>r=sv (yB place (bK s place))∧H'=sH s (b4 k a n b) (bJ l c)):=by
 have ht:=lO hs hp;have hrd:=u6 hs hoff hp;have hpl:place < 1000000000000:=by have:=hs.n2;omega
 obtain ⟨t,hT⟩:∃ t,t=bK s place:=⟨_,rfl⟩;rw [← hT] at ht hrd ⊢;clear hT;obtain ⟨x,hx⟩:∃ x,x=t.extract 16 18:=⟨_,rfl⟩;have hxs:x.size < 1099511627776:=by rw [hx];have:=PA t 16 18;omega
 have hat:=fun H=>vF x hxs H;have hpb:vY t=((gD x||decide (cX x < 1))||decide (46 < cX x)):=by rw [vY,hx]
 have hpu:KR t=t.extract 18 (18+(cX x).toNat):=by rw [KR,hx]
 obtain ⟨v,hv⟩:∃ v,v=cX x:=⟨_,rfl⟩;obtain ⟨e,he⟩:∃ e,e=gD x:=⟨_,rfl⟩;simp only [← hv,← he] at hat hpb hpu;clear hv he;rw [yB];refine Bd func84 rfl ntmps84<|Sr<|Dd aR<|Zz<|Sr<|Dd aF<|Dd eX<|Dd (dP qP)<|Dd (eF mA)<|Dd aF<|Dd (by exact aB rfl rfl sU rfl (hrd _ ⟨rfl,rfl,rfl,rfl,trivial⟩))<|Dd aF<|Dd dU<|Dd dU<|Dd aR<|Dd aR<|Zz<|Sr<|Dd aF<|Dd (by exact cE (l:=16) (h:=18) rfl aK rfl rfl rfl (by omega) (by omega) hx.symm)<|Dd (by exact aB rfl rfl Q6 rfl (hat _))<|Dd aF<|Dd dU<|Dd dU<|Dd aR<|Dd aR<|Zz<|Sq<|Sq ?_;refine cR (t:=34) (n:=12) (X:=(e||decide (v < 1))||decide (46 < v)) ?_ ?_
 ·all_goals refine Dd aF ?_
  all_goals refine Dd (by exact rN rfl gZ rfl)<|Dm ?_
  all_goals refine Sp 27 (fun h27=>?_) fun h27=>?_
  all_goals try contradiction
  all_goals first|refine Fo<|Fo ?_|refine On aF<|On dO ?_
  all_goals refine Dd fN<|Dm ?_
  all_goals refine Sp 31 (fun h31=>?_) fun h31=>?_
  all_goals try contradiction
  all_goals first|refine Fo<|Fo ?_|refine On aF<|On yR ?_
  all_goals refine Dd fN<|Zz ?_
  all_goals(exact⟨⟨_,rfl,by first|(rw [h27];rfl)|(rw [h27,h31];rfl)⟩,rfl,rfl,rfl⟩)
 refine Cn ?_ ?_<;>intro hc1
 ·have hq:=hc1;rw [YG (hpb.trans hq)];refine Sr<|Dd aR<|Zz<|aM ?_;refine a8 (H':=(sH s (b4 k a n b) (bJ l c))) (.inr rfl) rfl (aG rfl) (Fin.wk (by(simp;done)) (Hc (aE _ _ rfl rfl rfl)<|Hc (aC _ _)<|Hc (aL _ _ _)<|Hc (aI _ _)<|Hc (bC rfl rfl)<|Hc (aS _ _ _)<|trivial) ⟨rfl,rfl,rfl,rfl,rfl,rfl,trivial⟩) ?_;exact Qq
 have hq:=hc1;rw [YF (by rw [hpb,hq];decide)];rw [Y3,Y3,YP,YP] at hq;obtain ⟨u,rfl⟩:∃ u:Nat,v=(u:Int):=⟨v.toNat,by omega⟩;rw [YS] at hpu;have hps:(KR t).size=u:=by rw [hpu,ByteArray.size_extract];omega
 have hpl2:(KR t).data.toList.length=u:=by rw [cL,hps]
 have hof:=GJ (KR t);obtain ⟨y,hy⟩:∃ y,y=KR t:=⟨_,rfl⟩;rw [← hy] at hps hpl2 hof hpu ⊢;clear hy;obtain ⟨p,hpe⟩:∃ p,p=y.data.toList:=⟨_,rfl⟩;rw [← hpe] at hpl2 hof ⊢;have h38:((18:Int)+(u:Int))=((18+u:Nat):Int):=by omega
 have e43:ofL (dg u 2)++y=ofL (dg u 2++p):=by rw [← hof];exact rS _ _
 have s43:(ofL (dg u 2)).size≤23:=by rw [bR];exact oP u 2 (by omega)
 have l43:(dg u 2++p).length≤48:=by rw [YI,fL (i6 u (by omega) (by omega)),hpl2];omega
 have hpc:dR place p=eC place (dg u 2++p):=by rw [dR,hpl2]
 refine aH<|Sr<|Dd aF<|Dd aF<|Dd (by exact cG rfl rfl rfl (show IntKind.i64.wrap ((18:Int)+(u:Int))=((18+u:Nat):Int)by rw [iB (by omega) (by omega)];omega))<|Dd (by exact cE (l:=18) (h:=18+u) rfl aK rfl rfl rfl (by omega) (by omega) hpu.symm)<|Dd aR<|Zz<|Sq<|Sr<|Dd aF<|Dd aF<|Dd (by exact aB rfl rfl xP rfl (mP u 2 (by omega) (by omega) _))<|Dd aF<|Dd (by exact iI rfl rfl rfl (by omega) e43)<|Dd (by exact aB rfl rfl XI rfl (vS place (dg u 2++p) hpl l43 _))<|Dd aF<|Dd NP<|Zz ?_;refine Cn ?_ ?_<;>intro hc2
 ·have hq2:¬ ofL (eC place (dg u 2++p))=t:=by have h:=hc2;simpa using h
  rw [hpc,YF hq2];refine Sr<|Dd aR<|Zz<|aM ?_;refine a8 (H':=(sH s (b4 k a n b) (bJ l c))) (.inr rfl) rfl (aG rfl) (Fin.wk (by(simp;done)) (Hc (aE _ _ rfl rfl rfl)<|Hc (aC _ _)<|Hc (aL _ _ _)<|Hc (aI _ _)<|Hc (bC rfl rfl)<|Hc (aS _ _ _)<|trivial) ⟨rfl,rfl,rfl,rfl,rfl,rfl,trivial⟩) ?_;exact Qq
 have hq2:ofL (eC place (dg u 2++p))=t:=by have h:=hc2;simpa using h
 rw [hpc,YG hq2];refine aH<|Sr<|Dd aF<|Dd aR<|Zz<|aM ?_;refine a8 (H':=(sH s (b4 k a n b) (bJ l c))) (.inr rfl) rfl (aG rfl) (Fin.wk (by(simp;done)) (Hc (aE _ _ rfl rfl rfl)<|Hc (aC _ _)<|Hc (aL _ _ _)<|Hc (aI _ _)<|Hc (bC rfl rfl)<|Hc (aS _ _ _)<|trivial) ⟨rfl,rfl,rfl,rfl,rfl,rfl,trivial⟩) ?_;exact Qq
theorem vX (s:DSt) (k a n ar i:Nat) (b:Bool) (l:List (ByteArray×ByteArray×Nat)) (c:Nat) (hk:k < 100000) (har:ar < 10) (hi:i < 100000000) :
  aJ Tryz.prog 85 [.ref 1100 0 0 0,iv (ar:Int),iv (i:Int)] (sH s (b4 k a n b) (bJ l c)) (fun r H'=>r=iv ((2+ar*k+i:Nat):Int)∧H'=sH s (b4 k a n b) (bJ l c)):=by
 have hm:ar*k≤10*100000:=Nat.mul_le_mul (by omega) (by omega);have hmi:((ar:Int)*(k:Int))=((ar*k:Nat):Int):=by rw [Int.natCast_mul]
 refine Bd func85 rfl ntmps85<|Sr<|Dd aR<|Zz<|Sr<|Dd aF<|Dd aF<|Dd eX<|Dd (dP qO)<|Dd (eF aT)<|Dd (by exact gQ rfl rfl rfl (by exact iB (by omega) (by omega)))<|Dd mU<|Dd aF<|Dd mU<|Dd aR<|Zz<|aM ?_;refine a8 (H':=(sH s (b4 k a n b) (bJ l c))) (.inr rfl) rfl (aG rfl) (Fin.wk (by(simp;done)) (Hc (aE _ _ rfl rfl rfl)<|Hc (aC _ _)<|Hc (aL _ _ _)<|Hc (aI _ _)<|Hc (bC rfl rfl)<|Hc (aS _ _ _)<|trivial) ⟨rfl,rfl,rfl,rfl,rfl,rfl,trivial⟩) ?_;exact Qq
end Go.Proofs.YtmkgeogoojcciaaGreatDoor
namespace Go.Proofs.YtmkgeogoojcciaaGreatDoor
open Go.Proofs.Tryz
open Go.Abs
structure DInv (s:DSt) (n m:Nat):Prop where
 ok:DOk s
 arm:JO s
 n:s.cells.length=n
 q:s.q.length≤m
theorem DInv.mono {s:DSt} {n m m':Nat} (h:DInv s n m) (hm:m≤m'):DInv s n m':=⟨h.ok,h.arm,h.n,Nat.le_trans h.q hm⟩
theorem SI {n:Nat} (h1:1≤n) (h2:n≤8000):DInv (lE n) n 0:=⟨SU h1 h2,fun a w b h=>(by cases h),by simp [lE],YN _⟩
theorem AI {a:Arm} {x w b:Int} (h:CC a=.on x w b):False:=by cases a<;>cases h
theorem rX {s:DSt} {n m:Nat} (h:DInv s n m) (w b:Int):DInv (j7 s w b) n m:=by
 refine⟨JA h.ok w b,?_,?_,?_⟩<;>unfold j7<;>split
 ·exact h.arm
 ·exact fun a w b h=>(AI h).elim
 ·exact h.n
 ·show (mO s w b).length=n;rw [tR];exact h.n
 ·exact h.q
 exact YY _
theorem tL {s:DSt} {n m:Nat} (h:DInv s n m):DInv (dI s) n m:=by
 refine⟨EP h.ok,?_,?_,?_⟩<;>unfold dI<;>split
 ·next a w b e =>
  split
  ·intro a' w' b' he;cases he;have:=h.arm a w b e;omega
  exact(rX h w b).arm
 ·exact h.arm
 ·next a w b e =>
  split
  ·exact h.n
  exact(rX h w b).n
 ·exact h.n
 ·next a w b e =>
  split
  ·exact h.q
  exact(rX h w b).q
 exact h.q
theorem zY {s:DSt} {n m:Nat} (h:DInv s n m) (hm:m < 1048576) (k:Int) (t:ByteArray):DInv (iM s k t) n (m+1):=by
 unfold iM
 split
 ·exact h.mono (Nat.le_succ _)
 split
 ·next hc =>
  rw [YQ,YO] at hc;obtain ⟨h1,h2⟩:=hc;rcases jS s k with e|⟨j,rfl,hj⟩
  ·rw [e] at h1;cases h1
  have hq:=h.q;refine tL ⟨sX h.ok (by simpa using hj) h2 (by omega),h.arm,h.n,?_⟩;show (s.q++[_]).length≤_;simp;exact hq
 exact h.mono (Nat.le_succ _)
theorem LC {s:DSt} {n m:Nat} (h:DInv s n m):DInv (tT s) n m:=by have hp:=F5 h.ok s.q.length;rw [List.take_length] at hp;exact⟨⟨hp.n1,hp.n2,hp.c,fun p hp=>(by cases hp),YY _⟩,h.arm,by show (cF _ _).length=n;rw [fT];exact h.n,YY _⟩
theorem OU {s:DSt} {n m:Nat} (h:DInv s n m):DInv (iN s) n m:=by
 unfold iN
 split
 ·exact h
 split
 ·exact LC (tL h)
 exact tL h
theorem SH {s:DSt} {n m:Nat} (h:DInv s n m) (k p x:Int):DInv (u0 s k p x) n m:=by
 unfold u0
 split
 ·next hc =>
  rw [rF,YQ] at hc;rcases jS s k with e|⟨j,rfl,hj⟩
  ·rw [e] at hc;cases hc.1
  obtain ⟨c,hcj⟩:=aZ hj;refine⟨⟨by simpa using h.ok.n1,by simpa using h.ok.n2,fun y hy=>?_,fun p hp=>by simpa using h.ok.q p hp,h.ok.ql⟩,h.arm,by simpa using h.n,h.q⟩;rcases List.mem_or_eq_of_mem_set hy with e|e
  ·exact h.ok.c y e
  rw [e,LK,YS,hcj];exact h.ok.c c (YR hcj)
 exact h
end Go.Proofs.YtmkgeogoojcciaaGreatDoor
namespace Go.Proofs.YtmkgeogoojcciaaGreatDoor
open Go.Proofs.Tryz
open Go.Abs Go.Lib
def mT (d:DSt) (place:Nat) (L:List ByteArray):Nat→Int×DSt
 | 0=>(0,d)
 | i+1=>if(mT d place L i).1=0 then(gS (mT d place L i).2 ((place+i:Nat):Int) (L.getD i sNil),iM (mT d place L i).2 ((place+i:Nat):Int) (L.getD i sNil))else mT d place L i
def iT (d:DSt) (place:Nat) (L:List ByteArray):Int×DSt :=if(mT d place L L.length).1=0 then(lT (mT d place L L.length).2,iN (mT d place L L.length).2)else mT d place L L.length
theorem CZ {d:DSt} {place:Nat} {L:List ByteArray} {i:Nat} (h:¬ (mT d place L i).1=0):∀ j,mT d place L (i+j)=mT d place L i
 | 0=>rfl
 | j+1=>by rw [← Nat.add_assoc,mT,CZ h j,YF h]
theorem oV {d:DSt} {n m:Nat} (h:DInv d n m) (place:Nat) (L:List ByteArray):∀ i,m+i≤1048576→DInv (mT d place L i).2 n (m+i)
 | 0,_=>h
 | i+1,hi=>by
  have ih:=oV h place L i (by omega);rw [mT]
  split
  ·exact zY ih (by omega) _ _
  exact ih.mono (by omega)
theorem j8 {d:DSt} {n m:Nat} (h:DInv d n m) (place:Nat) (L:List ByteArray) (hm:m+L.length≤1048576):DInv (iT d place L).2 n (m+L.length):=by
 rw [iT]
 split
 ·exact OU (oV h place L _ hm)
 exact oV h place L _ hm
theorem mC {d:DSt} {n m:Nat} (h:DInv d n m) (k a cn place:Nat) (b:Bool) (l:List (ByteArray×ByteArray×Nat)) (c:Nat) (L:List ByteArray) (hm:m+L.length < 1048576) (hpl:place < 100000) :
  aJ Tryz.prog 90 [.ref 1100 0 0 0,iv (place:Int),.pv (aX L)] (sH d (b4 k a cn b) (bJ l c)) (fun r H'=>r=iv (iT d place L).1∧H'=sH (iT d place L).2 (b4 k a cn (b||!decide ((iT d place L).1=0))) (bJ l c)):=by
 have hml:(L.map encStr).length=L.length:=YH _;refine Bd func90 rfl ntmps90<|Sr<|Dd aR<|Zz<|Sr<|Dd aR<|Zz<|Sq<|Sr<|Dd aR<|Zz<|aO ?_;refine bM (σ:=Nat) (fun i=>([(0,.ref 1100 0 0 0),(1,iv (place:Int)),(2,.pv (aX L)),(7,iv (mT d place L i).1),(8,iv (i:Int))],sH (mT d place L i).2 (b4 k a cn b) (bJ l c))) (fun i=>i≤L.length∧∀ j,j < i→(mT d place L j).1=0) (fun i=>L.length - i) 0 ⟨YY _,fun j hj=>absurd hj (Nat.not_lt_zero _)⟩ ?_ ?_
 ·exact(bY.wk (Ea<|Eb<|Eb<|Eb<|Eb<|trivial) (Hc (aE _ _ rfl rfl rfl)<|Hc (aC _ _)<|Hc (aL _ _ _)<|Hc (aI _ _)<|Hc (bC rfl rfl)<|Hc (aS _ _ _)<|trivial) ⟨rfl,rfl,rfl,rfl,rfl,rfl,trivial⟩)
 rintro i ⟨hi,hz⟩;have hx:=oV h place L i (by omega);have hst:=CZ (d:=d) (place:=place) (L:=L) (i:=i);have hnx:mT d place L (i+1)=if(mT d place L i).1=0 then(gS (mT d place L i).2 ((place+i:Nat):Int) (L.getD i sNil),iM (mT d place L i).2 ((place+i:Nat):Int) (L.getD i sNil))else mT d place L i:=rfl;have hzi:(mT d place L i).1=0→∀ j,j < i+1→(mT d place L j).1=0:=fun h j hj=>by
  rcases Nat.lt_succ_iff_lt_or_eq.1 hj with h1|rfl
  ·exact hz j h1
  exact h
 rcases hp:mT d place L i with⟨e,d1⟩;simp only [hp] at hx hst hnx hzi ⊢;refine Sq<|Sq ?_;refine cR (t:=16) (n:=9) (X:=decide ((i:Int) < ((L.map encStr).length:Int))&&decide (e=0)) ?_ ?_
 ·all_goals refine Dd aF ?_
  all_goals refine Dd aF<|Dd (mB aP)<|Dd dO<|Dm ?_
  all_goals refine Sp 13 (fun h13=>?_) fun h13=>?_
  all_goals try contradiction
  all_goals first|refine Fo<|Fo ?_|refine On aF<|On gH ?_
  all_goals refine Dd fN<|Zz ?_
  all_goals(exact⟨⟨_,rfl,by(rw [h13];rfl)⟩,rfl,rfl,rfl⟩)
 refine Cn ?_ ?_<;>intro hc1
 ·have hq:i < L.length∧e=0:=by have h:=hc1;rw [YQ,YO,YO] at h;exact⟨by omega,h.2⟩
  obtain ⟨t,ht⟩:=aZ hq.1;have hit:=dM (f:=encStr) ht;have hgt:L.getD i sNil=t:=by rw [List.getD_eq_getElem?_getD,ht];rfl
  rw [hgt,YG hq.2] at hnx;have hw:=RE d1 ((place+i:Nat):Int) t hx.ok hx.arm (by have:=hx.q;omega);refine aH<|Sq<|aO<|bO follows<|Cr [1100] (fun _ _=>aF)<|Cr [1100] (fun H1 hH=>by exact bN rfl rfl ((hH _ rfl).trans rfl) rfl)<|Cr [1100] (fun _ h=>fh qP h)<|Cr [1100] (fun _ h=>lh mA h)<|Cr [] (fun _ _=>aF)<|Cr [] (fun _ _=>aF)<|Cr [] (fun H1 hH=>by exact cG rfl rfl rfl (show IntKind.i64.wrap ((place:Int)+(i:Int))=((place+i:Nat):Int)by rw [iB (by omega) (by omega)];omega))<|Cr [] (fun _ _=>aF)<|Cr [] (fun _ _=>aF)<|Cr [] (fun _ _=>(CV b8))<|Cr [] (fun _ _=>(nL aV)) ?_;refine b5 (r:=⟨_,some [1000,1001,1002,1003],_⟩) (DStep.plain rfl (fun H1 hH=>by exact aB rfl rfl call121 rfl (bX hw _ ⟨(hH 1000 rfl).trans rfl,(hH 1001 rfl).trans rfl,(hH 1002 rfl).trans rfl,(hH 1003 rfl).trans rfl,trivial⟩ (by simp;rfl)))) rfl ?_;refine Cr [] (fun _ _=>aR)<|cU<|Kr<|Rg<|Dd aF<|Dd mU<|Da ?_;refine⟨i+1,⟨by omega,hzi hq.2⟩,by omega,?_⟩;dsimp only;rw [hnx];exact(bY.wk (Ea<|Eb<|Eb<|Eb<|Eb<|trivial) (Hc (aE _ _ rfl rfl rfl)<|Hc (aC _ _)<|Hc (aL _ _ _)<|Hc (aI _ _)<|Hc (bC rfl rfl)<|Hc (aS _ _ _)<|trivial) ⟨rfl,rfl,rfl,rfl,rfl,rfl,trivial⟩)
 have hq:i=L.length∨¬ e=0:=by have h:=hc1;rw [Bool.and_eq_false_iff,YP,YP] at h;omega
 have hend:mT d place L L.length=(e,d1):=by
  by_cases he:e=0
  ·rcases hq with hq|hq
   ·rw [← hq];exact hp
   exact absurd he hq
  have:=hst he (L.length - i)
  rwa [show i+(L.length - i)=L.length by omega] at this
 rw [iT,hend];refine bI<|Sq<|Sr<|Dd aF<|Dd gH<|Zz ?_;refine Cn ?_ ?_<;>intro hc2
 ·have he:e=0:=YD hc2;have hs:=T1 d1 hx.ok hx.arm;rw [YG he];cases b
  ·refine Rg<|Dd aF<|Dd eX<|Dd (dP qP)<|Dd (eF mA)<|Dd (by exact aB rfl rfl call122 rfl (bX hs _ ⟨rfl,rfl,rfl,rfl,trivial⟩ (by simp;rfl)))<|Dd aR<|Zz<|Sr<|Dd aF<|Dd aF<|Dd eX<|Dd (dP jF)<|Dd (eF dC)<|Dd aF<|On aF<|On tF<|Dd fN<|Dd eX<|Dd (dP jF)<|Uu (by exact cV rfl sizeOf4 rfl rfl rfl rfl rfl rfl (by simp only [YJ,List.length_nil];omega) (by simp only [Zl,encStr];rfl) (by simp only [Zl,encStr];rfl))<|Zz<|Sr<|Dd aF<|Dd aR<|Zz<|aM ?_;refine a8 (H':=(sH (iN d1) (b4 k a cn (false||!decide (lT d1=0))) (bJ l c))) (.inr rfl) rfl (aG rfl) (Fin.wk (by(simp;done)) (Hc (aE _ _ rfl rfl rfl)<|Hc (aC _ _)<|Hc (aL _ _ _)<|Hc (aI _ _)<|Hc (bC rfl rfl)<|Hc (aS _ _ _)<|trivial) ⟨rfl,rfl,rfl,rfl,rfl,rfl,trivial⟩) ?_;exact Qq
  refine Rg<|Dd aF<|Dd eX<|Dd (dP qP)<|Dd (eF mA)<|Dd (by exact aB rfl rfl call122 rfl (bX hs _ ⟨rfl,rfl,rfl,rfl,trivial⟩ (by simp;rfl)))<|Dd aR<|Zz<|Sr<|Dd aF<|Dd aF<|Dd eX<|Dd (dP jF)<|Dd (eF dC)<|Dd aF<|Fo<|Fo<|Dd fN<|Dd eX<|Dd (dP jF)<|Uu (by exact cV rfl sizeOf4 rfl rfl rfl rfl rfl rfl (by simp only [YJ,List.length_nil];omega) (by simp only [Zl,encStr];rfl) (by simp only [Zl,encStr];rfl))<|Zz<|Sr<|Dd aF<|Dd aR<|Zz<|aM ?_;refine a8 (H':=(sH (iN d1) (b4 k a cn true) (bJ l c))) (.inr rfl) rfl (aG rfl) (Fin.wk (by(simp;done)) (Hc (aE _ _ rfl rfl rfl)<|Hc (aC _ _)<|Hc (aL _ _ _)<|Hc (aI _ _)<|Hc (bC rfl rfl)<|Hc (aS _ _ _)<|trivial) ⟨rfl,rfl,rfl,rfl,rfl,rfl,trivial⟩) ?_;exact Qq
 have he:¬ e=0:=YE hc2;rw [YF he];cases b
 ·refine aH<|Sr<|Dd aF<|Dd aF<|Dd eX<|Dd (dP jF)<|Dd (eF dC)<|Dd aF<|On aF<|On tF<|Dd fN<|Dd eX<|Dd (dP jF)<|Uu (by exact cV rfl sizeOf4 rfl rfl rfl rfl rfl rfl (by simp only [YJ,List.length_nil];omega) (by simp only [Zl,encStr];rfl) (by simp only [Zl,encStr];rfl))<|Zz<|Sr<|Dd aF<|Dd aR<|Zz<|aM ?_;refine a8 (H':=(sH d1 (b4 k a cn (false||!decide (e=0))) (bJ l c))) (.inr rfl) rfl (aG rfl) (Fin.wk (by(simp;done)) (Hc (aE _ _ rfl rfl rfl)<|Hc (aC _ _)<|Hc (aL _ _ _)<|Hc (aI _ _)<|Hc (bC rfl rfl)<|Hc (aS _ _ _)<|trivial) ⟨rfl,rfl,rfl,rfl,rfl,rfl,trivial⟩) ?_;exact Qq
 refine aH<|Sr<|Dd aF<|Dd aF<|Dd eX<|Dd (dP jF)<|Dd (eF dC)<|Dd aF<|Fo<|Fo<|Dd fN<|Dd eX<|Dd (dP jF)<|Uu (by exact cV rfl sizeOf4 rfl rfl rfl rfl rfl rfl (by simp only [YJ,List.length_nil];omega) (by simp only [Zl,encStr];rfl) (by simp only [Zl,encStr];rfl))<|Zz<|Sr<|Dd aF<|Dd aR<|Zz<|aM ?_;refine a8 (H':=(sH d1 (b4 k a cn true) (bJ l c))) (.inr rfl) rfl (aG rfl) (Fin.wk (by(simp;done)) (Hc (aE _ _ rfl rfl rfl)<|Hc (aC _ _)<|Hc (aL _ _ _)<|Hc (aI _ _)<|Hc (bC rfl rfl)<|Hc (aS _ _ _)<|trivial) ⟨rfl,rfl,rfl,rfl,rfl,rfl,trivial⟩) ?_;exact Qq
abbrev zS:ByteArray:=ofL (zB 64)
abbrev hS (place a cn:Nat):ByteArray:=ofL (wR place a cn)
def mD (place a cn:Nat):Bool→ByteArray
 | true=>hS place a cn
 | false=>zS
def qF (d:DSt) (place a cn:Nat) (hd:Bool):Int×DSt:=if bK d place=mD place a cn hd then(0,d)else if(iT d place [zS]).1=0∧hd=true then iT (iT d place [zS]).2 place [mD place a cn hd] else iT d place [zS]
theorem zG {d:DSt} {n m:Nat} (h:DInv d n m) (hoff:d.off=false) (k a cn place:Nat) (b hd:Bool) (l:List (ByteArray×ByteArray×Nat)) (c:Nat) (hm:m+2 < 1048576) (hp:place < d.cells.length) (ha:a < 10) (hcn:cn < 1000000000000) :
  aJ Tryz.prog 45 [.ref 1100 0 0 0,iv (place:Int),bv hd] (sH d (b4 k a cn b) (bJ l c)) (fun r H'=>r=iv (qF d place a cn hd).1∧H'=sH (qF d place a cn hd).2 (b4 k a cn (b||!decide ((qF d place a cn hd).1=0))) (bJ l c)):=by
 have hn2:=h.ok.n2;have hrd:=u6 h.ok hoff hp;have hw:=mC h k a cn place b l c [zS] (by rw [List.length_singleton];omega) (by omega);have hi1:=j8 h place [zS] (by rw [List.length_singleton];omega);have hhd:=fun H=>B0 place a cn (by omega) ha hcn H;rw [qF];cases hd
 ·refine Bd func45 rfl ntmps45<|Sr<|Dd aR<|Zz<|Sr<|Dd aF<|Dd eX<|Dd (dP qP)<|Dd (eF mA)<|Dd aF<|Dd (by exact aB rfl rfl sU rfl (hrd _ ⟨rfl,rfl,rfl,rfl,trivial⟩))<|Dd aF<|Dd dU<|Dd dU<|Dd aR<|Dd aR<|Zz<|Sr<|Dd (by exact aB rfl rfl nZ rfl (nF _))<|Dd aR<|Zz<|Sq<|Sr<|Dd aF<|Zz ?_;refine Cn ?_ ?_<;>intro hc1
  ·cases hc1
  refine aH<|Sq<|Sr<|Dd aF<|Dd aF<|Dd T8<|Zz ?_;refine Cn ?_ ?_<;>intro hc2
  ·have he:bK d place=mD place a cn false:=YD hc2;rw [YG he];refine Sr<|Dd aR<|Zz<|aM ?_;refine a8 (H':=(sH d (b4 k a cn b) (bJ l c))) (.inr rfl) rfl (aG rfl) (Fin.wk (by(simp;done)) (Hc (aE _ _ rfl rfl rfl)<|Hc (aC _ _)<|Hc (aL _ _ _)<|Hc (aI _ _)<|Hc (bC rfl rfl)<|Hc (aS _ _ _)<|trivial) ⟨rfl,rfl,rfl,rfl,rfl,rfl,trivial⟩) ?_;exact⟨rfl,by cases b<;>rfl⟩
  have he:¬ bK d place=mD place a cn false:=YE hc2;rw [YF he,YF (fun h=>by cases h.2)];refine aH<|Sr<|Dd aF<|Dd aF<|Dd (by exact aB rfl rfl nZ rfl (nF _))<|Dd (by exact bF [[.str zS]] rfl b8 rfl rfl rfl rfl rfl (by simp))<|Dd (by exact aB rfl rfl nY rfl (hw))<|Dd aR<|Zz<|Sq<|Sq ?_;refine cR (t:=40) (n:=6) (X:=false) ?_ ?_
  ·all_goals refine Dd aF ?_
   all_goals refine Dd gH<|Dm ?_
   all_goals refine Sp 38 (fun h38=>?_) fun h38=>?_
   all_goals try contradiction
   all_goals first|refine Fo ?_|refine On aF ?_
   all_goals refine Dd fN<|Zz ?_
   all_goals(exact⟨⟨_,rfl,by rfl⟩,rfl,rfl,rfl⟩)
  refine Cn ?_ ?_<;>intro hc3
  ·cases hc3
  refine aH<|Sr<|Dd aF<|Dd aR<|Zz<|aM ?_;refine a8 (H':=(sH (iT d place [zS]).2 (b4 k a cn (b||!decide ((iT d place [zS]).1=0))) (bJ l c))) (.inr rfl) rfl (aG rfl) (Fin.wk (by(simp;done)) (Hc (aE _ _ rfl rfl rfl)<|Hc (aC _ _)<|Hc (aL _ _ _)<|Hc (aI _ _)<|Hc (bC rfl rfl)<|Hc (aS _ _ _)<|trivial) ⟨rfl,rfl,rfl,rfl,rfl,rfl,trivial⟩) ?_;exact Qq
 refine Bd func45 rfl ntmps45<|Sr<|Dd aR<|Zz<|Sr<|Dd aF<|Dd eX<|Dd (dP qP)<|Dd (eF mA)<|Dd aF<|Dd (by exact aB rfl rfl sU rfl (hrd _ ⟨rfl,rfl,rfl,rfl,trivial⟩))<|Dd aF<|Dd dU<|Dd dU<|Dd aR<|Dd aR<|Zz<|Sr<|Dd (by exact aB rfl rfl nZ rfl (nF _))<|Dd aR<|Zz<|Sq<|Sr<|Dd aF<|Zz ?_;refine Cn ?_ ?_<;>intro hc1
 ·refine Rg<|Dd aF<|Dd aF<|Dd eX<|Dd (dP kZ)<|Dd (R9 cK sizeOf70)<|Dd (by exact aB rfl rfl Q5 rfl (hhd _))<|Dd aR<|Zz<|Sq<|Sr<|Dd aF<|Dd aF<|Dd T8<|Zz ?_;refine Cn ?_ ?_<;>intro hc2
  ·have he:bK d place=mD place a cn true:=YD hc2;rw [YG he];refine Sr<|Dd aR<|Zz<|aM ?_;refine a8 (H':=(sH d (b4 k a cn b) (bJ l c))) (.inr rfl) rfl (aG rfl) (Fin.wk (by(simp;done)) (Hc (aE _ _ rfl rfl rfl)<|Hc (aC _ _)<|Hc (aL _ _ _)<|Hc (aI _ _)<|Hc (bC rfl rfl)<|Hc (aS _ _ _)<|trivial) ⟨rfl,rfl,rfl,rfl,rfl,rfl,trivial⟩) ?_;exact⟨rfl,by cases b<;>rfl⟩
  have he:¬ bK d place=mD place a cn true:=YE hc2;rw [YF he];refine aH<|Sr<|Dd aF<|Dd aF<|Dd (by exact aB rfl rfl nZ rfl (nF _))<|Dd (by exact bF [[.str zS]] rfl b8 rfl rfl rfl rfl rfl (by simp))<|Dd (by exact aB rfl rfl nY rfl (hw))<|Dd aR<|Zz<|Sq<|Sq ?_;refine cR (t:=40) (n:=6) (X:=decide ((iT d place [zS]).1=0)) ?_ ?_
  ·all_goals refine Dd aF ?_
   all_goals refine Dd gH<|Dm ?_
   all_goals refine Sp 38 (fun h38=>?_) fun h38=>?_
   all_goals try contradiction
   all_goals first|refine Fo ?_|refine On aF ?_
   all_goals refine Dd fN<|Zz ?_
   all_goals(exact⟨⟨_,rfl,by(simp_all;done)⟩,rfl,rfl,rfl⟩)
  refine Cn ?_ ?_<;>intro hc3
  ·have hz:(iT d place [zS]).1=0:=YD hc3;rw [YG ⟨hz,rfl⟩];have hw2:=mC hi1 k a cn place b l c [hS place a cn] (by rw [List.length_singleton,List.length_singleton];omega) (by omega);have hbz:(b||!decide ((iT d place [zS]).1=0))=b:=by rw [hz];cases b<;>rfl
   rw [hbz];refine Rg<|Dd aF<|Dd aF<|Dd aF<|Dd (by exact bF [[.str (hS place a cn)]] rfl b8 rfl rfl rfl rfl rfl (by simp))<|Dd (by exact aB rfl rfl nY rfl (hw2))<|Dd aR<|Zz<|Sr<|Dd aF<|Dd aR<|Zz<|aM ?_;refine a8 (H':=(sH (iT (iT d place [zS]).2 place [hS place a cn]).2 (b4 k a cn (b||!decide ((iT (iT d place [zS]).2 place [hS place a cn]).1=0))) (bJ l c))) (.inr rfl) rfl (aG rfl) (Fin.wk (by(simp;done)) (Hc (aE _ _ rfl rfl rfl)<|Hc (aC _ _)<|Hc (aL _ _ _)<|Hc (aI _ _)<|Hc (bC rfl rfl)<|Hc (aS _ _ _)<|trivial) ⟨rfl,rfl,rfl,rfl,rfl,rfl,trivial⟩) ?_;exact Qq
  have hz:¬ (iT d place [zS]).1=0:=YE hc3;rw [YF (fun h=>hz h.1)];refine aH<|Sr<|Dd aF<|Dd aR<|Zz<|aM ?_;refine a8 (H':=(sH (iT d place [zS]).2 (b4 k a cn (b||!decide ((iT d place [zS]).1=0))) (bJ l c))) (.inr rfl) rfl (aG rfl) (Fin.wk (by(simp;done)) (Hc (aE _ _ rfl rfl rfl)<|Hc (aC _ _)<|Hc (aL _ _ _)<|Hc (aI _ _)<|Hc (bC rfl rfl)<|Hc (aS _ _ _)<|trivial) ⟨rfl,rfl,rfl,rfl,rfl,rfl,trivial⟩) ?_;exact Qq
 cases hc1
theorem RP {d d':DSt} {o o' m m':Ob} {id:Nat} (h:((sH d' o' m').get id).isSome=true):((sH d o m).get id).isSome=true:=by simp only [sH,aA.get] at h ⊢;cases e0:Nat.beq 1000 id<;>cases e1:Nat.beq 1001 id<;>cases e2:Nat.beq 1002 id<;>cases e3:Nat.beq 1003 id<;>cases e4:Nat.beq 1100 id<;>cases e5:Nat.beq 1101 id<;>simp [e0,e1,e2,e3,e4,e5] at h ⊢
theorem fR {f:FuncId} {args:List AV} {d d':DSt} {k a n:Nat} {b:Bool} {l:List (ByteArray×ByteArray×Nat)} {c:Nat} {o' m':Ob} {r0:AV} (h:aJ Tryz.prog f args (sH d (b4 k a n b) (bJ l c)) (fun r H'=>r=r0∧H'=sH d' o' m')) (H:aA) (hs:FM H (sH d (b4 k a n b) (bJ l c))) (ha:∀ x∈args,Clo (sH d (b4 k a n b) (bJ l c)) x) :
  aJ Tryz.prog f args H (fun r H'=>r=r0∧H'=sH d' o' m'++H):=h.frame hs.sub (oY _ _ _ _ _ _ _) ha (fun id hid=>.inl (RP hid))
def uW (d:DSt) (a cn:Nat):Int×DSt:=if(iT d 1 [hS 1 a cn]).1=0 then iT (iT d 1 [hS 1 a cn]).2 0 [hS 0 a cn] else iT d 1 [hS 1 a cn]
theorem NX {d:DSt} {n m:Nat} (h:DInv d n m) (a cn:Nat) (hm:m+2≤1048576):DInv (uW d a cn).2 n (m+2):=by
 have h1:=j8 h 1 [hS 1 a cn] (by rw [List.length_singleton];omega);have h2:=j8 h1 0 [hS 0 a cn] (by rw [List.length_singleton,List.length_singleton];omega);rw [List.length_singleton] at h1 h2;rw [uW]
 split
 ·exact h2
 exact h1.mono (by omega)
def XK (a b c:DSt):Nat→DSt
 | 0=>a
 | 1=>b
 | _=>c
theorem T6 {d:DSt} {n m:Nat} (h:DInv d n m) (k a cn a2 cn2:Nat) (b:Bool) (l:List (ByteArray×ByteArray×Nat)) (c:Nat) (hm:m+2 < 1048576) (ha:a2 < 10) (hcn:cn2 < 1000000000000) :
  aJ Tryz.prog 103 [.ref 1100 0 0 0,.agg [iv (a2:Int),iv (cn2:Int)]] (sH d (b4 k a cn b) (bJ l c)) (fun r H'=>r=iv (uW d a2 cn2).1∧H'=sH (uW d a2 cn2).2 (if(uW d a2 cn2).1=0 then b4 k a2 cn2 b else b4 k a cn true) (bJ l c)):=by
 have hw:=mC h k a cn 1 b l c [hS 1 a2 cn2] (by rw [List.length_singleton];omega) (by omega);have h1:=j8 h 1 [hS 1 a2 cn2] (by rw [List.length_singleton];omega);have hw2:=mC h1 k a cn 0 b l c [hS 0 a2 cn2] (by rw [List.length_singleton,List.length_singleton];omega) (by omega);have hh1:=fun H=>B0 1 a2 cn2 (by omega) ha hcn H;have hh0:=fun H=>B0 0 a2 cn2 (by omega) ha hcn H;rw [uW];obtain ⟨x,hx⟩:∃ x,x=iT d 1 [hS 1 a2 cn2]:=⟨_,rfl⟩;rw [← hx] at hw hw2 ⊢;obtain ⟨y,hy⟩:∃ y,y=iT x.2 0 [hS 0 a2 cn2]:=⟨_,rfl⟩;rw [← hy] at hw2 ⊢;clear hx hy h1;have hr0:([[PV.int .i64 1],[PV.int .i64 0]]:List (List PV))[0]?=some [PV.int .i64 1]:=rfl;have hr1:([[PV.int .i64 1],[PV.int .i64 0]]:List (List PV))[1]?=some [PV.int .i64 0]:=rfl;refine Bd func103 rfl ntmps103<|Sr<|Dd (by exact f7 (id:=3) rfl rfl rfl rfl rfl)<|Dd aR<|Zz<|Sq<|Sq ?_;refine fP.ent (E':=[(0,.ref 1100 0 0 0),(3,.ref 3 0 0 0)]) (H':=(3,bx 2 70 [iv (a2:Int),iv (cn2:Int)])::sH d (b4 k a cn b) (bJ l c)) (bY.wk (Ea<|Ea<|trivial) (Hb<|Hc (aE _ _ rfl rfl rfl)<|Hc (aC _ _)<|Hc (aL _ _ _)<|Hc (aI _ _)<|Hc (bC rfl rfl)<|Hc (aS _ _ _)<|trivial) ⟨rfl,rfl,rfl,rfl,rfl,rfl,trivial⟩) ?_;refine Rg<|Dd (by exact bF [[.int .i64 1],[.int .i64 0]] rfl J7 rfl rfl rfl rfl rfl (by simp))<|Dd (mB MO)<|Dd aF<|Zz<|aO ?_;refine bM (σ:=Nat) (fun i=>([(0,.ref 1100 0 0 0),(3,.ref 3 0 0 0),(8,.pv (.sl [[.int .i64 1],[.int .i64 0]])),(9,iv 2),(10,iv (i:Int))],(3,bx 2 70 [iv (a2:Int),iv (cn2:Int)])::sH (XK d x.2 y.2 i) (b4 k a cn b) (bJ l c))) (fun i=>i≤2∧(0 < i→x.1=0)∧(1 < i→y.1=0)) (fun i=>2 - i) 0 ⟨by omega,fun h=>absurd h (Nat.lt_irrefl _),fun h=>absurd h (by omega)⟩ ?_ ?_
 ·exact(bY.wk (Ea<|Ea<|Eb<|Eb<|Eb<|trivial) (Hb<|Hc (aE _ _ rfl rfl rfl)<|Hc (aC _ _)<|Hc (aL _ _ _)<|Hc (aI _ _)<|Hc (bC rfl rfl)<|Hc (aS _ _ _)<|trivial) ⟨rfl,rfl,rfl,rfl,rfl,rfl,trivial⟩)
 rintro i ⟨hi,hx0,hy0⟩;have h3:i=0∨i=1∨i=2:=by omega
 rcases h3 with rfl|rfl|rfl
 ·refine Sr<|Dd dO<|Zz<|Sq ?_;refine Cn ?_ ?_<;>intro hc1
  ·refine aH<|Sq<|aO<|Sr<|Dd (by exact bP (m:=0) rfl J7 rfl rfl (by decide) rfl rfl rfl)<|Dd (nL aT)<|Dd aR<|Zz<|Sr<|Dd aF<|Dd aF<|Dd aF<|Dd (R9 cK sizeOf70)<|Dd (by exact aB rfl rfl Q5 rfl (hh1 _))<|Dd (by exact bF [[.str (hS 1 a2 cn2)]] rfl b8 rfl rfl rfl rfl rfl (by simp))<|Dd (by exact aB rfl rfl nY rfl (fR hw _ ⟨rfl,rfl,rfl,rfl,rfl,rfl,trivial⟩ (by simp;rfl)))<|Dd aR<|Zz<|Sr<|Dd aF<|Dd tF<|Zz ?_;refine Cn ?_ ?_<;>intro hc2
   ·have he:¬ x.1=0:=by have h:=hc2;simpa using h
    have hb:(b||!decide (x.1=0))=true:=by rw [decide_eq_false he];cases b<;>rfl
    rw [YF he,YF he,hb];refine Sr<|Dd aF<|Dd aR<|Zz<|aM ?_;refine a8 (H':=(sH x.2 (b4 k a cn true) (bJ l c))) (.inr rfl) rfl (aG rfl) (Fin.wk (by(simp;done)) (Hc (aE _ _ rfl rfl rfl)<|Hc (aC _ _)<|Hc (aL _ _ _)<|Hc (aI _ _)<|Hc (bC rfl rfl)<|Hc (aS _ _ _)<|trivial) ⟨rfl,rfl,rfl,rfl,rfl,rfl,trivial⟩) ?_;exact Qq
   have he:x.1=0:=by have h:=hc2;simpa using h
   have hb:(b||!decide (x.1=0))=b:=by rw [he];cases b<;>rfl
   rw [hb];refine aH<|Rg<|Dd mU<|Dd aF<|Zz ?_;refine⟨1,⟨by omega,fun _=>he,fun h=>absurd h (by omega)⟩,by omega,?_⟩;exact(bY.wk (Ea<|Ea<|Eb<|Eb<|Eb<|trivial) (Hb<|Hc (aE _ _ rfl rfl rfl)<|Hc (aC _ _)<|Hc (aL _ _ _)<|Hc (aI _ _)<|Hc (bC rfl rfl)<|Hc (aS _ _ _)<|trivial) ⟨rfl,rfl,rfl,rfl,rfl,rfl,trivial⟩)
  cases hc1
 ·have he0:=hx0 (by omega);refine Sr<|Dd dO<|Zz<|Sq ?_;refine Cn ?_ ?_<;>intro hc3
  ·refine aH<|Sq<|aO<|Sr<|Dd (by exact bP (m:=1) rfl J7 rfl rfl (by decide) rfl rfl rfl)<|Dd (nL aT)<|Dd aR<|Zz<|Sr<|Dd aF<|Dd aF<|Dd aF<|Dd (R9 cK sizeOf70)<|Dd (by exact aB rfl rfl Q5 rfl (hh0 _))<|Dd (by exact bF [[.str (hS 0 a2 cn2)]] rfl b8 rfl rfl rfl rfl rfl (by simp))<|Dd (by exact aB rfl rfl nY rfl (fR hw2 _ ⟨rfl,rfl,rfl,rfl,rfl,rfl,trivial⟩ (by simp;rfl)))<|Dd aR<|Zz<|Sr<|Dd aF<|Dd tF<|Zz ?_;refine Cn ?_ ?_<;>intro hc4
   ·have he:¬ y.1=0:=by have h:=hc4;simpa using h
    have hb:(b||!decide (y.1=0))=true:=by rw [decide_eq_false he];cases b<;>rfl
    rw [YG he0,YF he,hb];refine Sr<|Dd aF<|Dd aR<|Zz<|aM ?_;refine a8 (H':=(sH y.2 (b4 k a cn true) (bJ l c))) (.inr rfl) rfl (aG rfl) (Fin.wk (by(simp;done)) (Hc (aE _ _ rfl rfl rfl)<|Hc (aC _ _)<|Hc (aL _ _ _)<|Hc (aI _ _)<|Hc (bC rfl rfl)<|Hc (aS _ _ _)<|trivial) ⟨rfl,rfl,rfl,rfl,rfl,rfl,trivial⟩) ?_;exact Qq
   have he:y.1=0:=by have h:=hc4;simpa using h
   have hb:(b||!decide (y.1=0))=b:=by rw [he];cases b<;>rfl
   rw [hb];refine aH<|Rg<|Dd mU<|Dd aF<|Zz ?_;refine⟨2,⟨by omega,fun _=>he0,fun _=>he⟩,by omega,?_⟩;exact(bY.wk (Ea<|Ea<|Eb<|Eb<|Eb<|trivial) (Hb<|Hc (aE _ _ rfl rfl rfl)<|Hc (aC _ _)<|Hc (aL _ _ _)<|Hc (aI _ _)<|Hc (bC rfl rfl)<|Hc (aS _ _ _)<|trivial) ⟨rfl,rfl,rfl,rfl,rfl,rfl,trivial⟩)
  cases hc3
 have he0:=hx0 (by omega);have he1:=hy0 (by omega);refine Sr<|Dd dO<|Zz<|Sq ?_;refine Cn ?_ ?_<;>intro hc5
 ·cases hc5
 rw [YG he0,YG he1];refine bI<|Sr<|Dd aF<|Dd (R9 cK sizeOf70)<|Dd eX<|Dd (dP kZ)<|Uu (by exact HS rfl sizeOf70 rfl rfl rfl rfl rfl rfl rfl (by simp only [YJ,List.length_nil];omega) (by simp only [Zl,encStr];rfl) (by simp only [Zl,encStr];rfl))<|Zz<|Sr<|Dd aR<|Zz<|aM ?_;refine a8 (H':=(sH y.2 (b4 k a2 cn2 b) (bJ l c))) (.inr rfl) rfl (aG rfl) (Fin.wk (by(simp;done)) (Hc (aE _ _ rfl rfl rfl)<|Hc (aC _ _)<|Hc (aL _ _ _)<|Hc (aI _ _)<|Hc (bC rfl rfl)<|Hc (aS _ _ _)<|trivial) ⟨rfl,rfl,rfl,rfl,rfl,rfl,trivial⟩) ?_;exact⟨by rw [he1],rfl⟩
def fA (t:List UInt8) (i:Nat):List UInt8:=(t.drop (46*i)).take 46
def cN (t:List UInt8):Nat:=(t.length+45) / 46
abbrev J2 (t:List UInt8) (i:Nat):Ob:=bx 1 9 [sv (ofL (t.drop (46*i)))]
theorem mJ (t:List UInt8) (i:Nat):(fA t i).length=min 46 (t.length - 46*i):=by rw [fA,YV,YW]
theorem KM (t:List UInt8) (H:aA) (h:H.get 910=none):aJ Tryz.prog 100 [sv (ofL t)] H (fun r H'=>r=.clo 129 [.ref 910 0 0 0]∧H'=(910,J2 t 0)::H):=by refine Bd func100 rfl ntmps100<|Sr<|Dd (by exact f7 (id:=910) rfl rfl rfl rfl h)<|Dd aR<|Zz<|Sr<|Dd (by exact eO rfl rfl)<|Dd aR<|Zz<|aM ?_;refine a8 (H':=((910,J2 t 0)::H)) (.inr rfl) rfl (aG rfl) Fin.refl ?_;exact Qq
theorem KN (t:List UInt8) (fv:AV) (Hs Hr:Nat→aA) (hl:t.length < 1000000000) (h9:∀ i,(Hs i).get 910=some (J2 t i)) (h8:∀ i,(Hr i).get 910=some (J2 t i)) (hn:∀ i j,aA.get ((910,J2 t (i+1))::Hr i) j=(Hs (i+1)).get j)
  (hy:∀ i,i < cN t→eG Tryz.prog fv [sv (ofL (fA t i))] (Hs i) (fun r H'=>r=bv true∧H'=Hr i)) :
  aJ Tryz.prog 129 [fv,.ref 910 0 0 0] (Hs 0) (fun r H'=>r=.tup []∧H'=Hs (cN t)):=by
 refine Bd func129 rfl ntmps129<|aO ?_;refine bM (σ:=Nat) (fun i=>([(0,fv),(1,.ref 910 0 0 0)],Hs i)) (fun i=>i≤cN t) (fun i=>cN t - i) 0 (YY _) ?_ ?_
 ·exact E0
 rintro i hi;have hsz:(ofL (t.drop (46*i))).size=t.length - 46*i:=by rw [bR,YW]
 refine Sq<|Sr<|Dd (by exact aW rfl aV rfl (h9 i) rfl rfl rfl)<|Dd (yO aK)<|Dd yR<|Zz ?_;refine Cn ?_ ?_<;>intro hc1
 ·have hlt:46*i < t.length:=by have:=YD hc1;omega
  have hip:i < cN t:=by rw [cN];omega
  have hmin:min (46:Int) ((ofL (t.drop (46*i))).size:Int)=((fA t i).length:Int):=by rw [hsz,mJ];omega
  have hple:(fA t i).length≤(ofL (t.drop (46*i))).size:=by rw [hsz,mJ];omega
  have hx1:(ofL (t.drop (46*i))).extract 0 (fA t i).length=ofL (fA t i):=jJ (by
   rw [dT,a7,a7,List.drop_zero,Nat.sub_zero,fA,YV,List.take_eq_take_min];simp)
  have hx2:(ofL (t.drop (46*i))).extract (fA t i).length (ofL (t.drop (46*i))).size=ofL (t.drop (46*(i+1))):=jJ (by
   rw [oM,a7,a7,List.drop_drop];rw [mJ];by_cases hh:46≤t.length - 46*i
   ·rw [Nat.min_eq_left hh];congr 1
   rw [Nat.min_eq_right (by omega),List.drop_eq_nil_of_le (by omega),List.drop_eq_nil_of_le (by omega)])
  refine aH<|aO<|Sr<|Dd (by exact aW rfl aV rfl (h9 i) rfl rfl rfl)<|Dd (yO aK)<|Dd (by exact u9 rfl rfl rfl hmin)<|Dd aR<|Zz<|Sq<|Sr<|Dd aF<|Dd (by exact aW rfl aV rfl (h9 i) rfl rfl rfl)<|Dd aF<|Dd (by exact cE (l:=0) (h:=(fA t i).length) rfl aK rfl rfl rfl (YY _) hple hx1)<|Dd (by exact f0 rfl rfl rfl (hy i hip))<|Dd xX<|Zz ?_;refine Cn ?_ ?_<;>intro hc2
  ·cases hc2
  refine aH<|Rg<|Dd (by exact aW rfl aV rfl (h8 i) rfl rfl rfl)<|Dd aF<|Dd (by exact cE (l:=(fA t i).length) (h:=(ofL (t.drop (46*i))).size) rfl aK rfl rfl rfl hple (YN _) hx2)<|Uu (by exact g8 rfl sizeOf9 rfl rfl rfl rfl (h8 i) rfl rfl rfl)<|Zz ?_;refine⟨i+1,by omega,by omega,?_⟩;exact bY.get' ⟨⟨_,rfl,rfl⟩,⟨_,rfl,rfl⟩,trivial⟩ (fun j=>(hn i j).symm)
 have hge:¬ 46*i < t.length:=by have:=YE hc1;omega
 have hip:i=cN t:=by rw [cN] at hi ⊢;omega
 subst hip;refine bI ?_;exact gP (H':=Hs (cN t)) (.inl rfl) rfl Fin.refl ⟨rfl,rfl⟩
def jD (fr:Nat) (t:List UInt8) (i:Nat):List ByteArray:=(List.range i).map fun j=>ofL (dR (fr+j) (fA t j))
theorem cY (fr:Nat) (t:List UInt8) (i:Nat):(jD fr t i).length=i:=by rw [jD,YH,List.length_range]
theorem KC (fr:Nat) (t:List UInt8) (i:Nat):jD fr t (i+1)=jD fr t i++[ofL (dR (fr+i) (fA t i))]:=by rw [jD,List.range_succ,List.map_append];rfl
def iX (d:DSt) (k a cn:Nat) (t:List UInt8):Int×DSt :=if(iT d (2+a*k+cn) (jD (2+a*k+cn) t (cN t))).1=0 then uW (iT d (2+a*k+cn) (jD (2+a*k+cn) t (cN t))).2 a (cn+cN t)else iT d (2+a*k+cn) (jD (2+a*k+cn) t (cN t))
theorem QM {d:DSt} {n m:Nat} (h:DInv d n m) (k a cn:Nat) (t:List UInt8) (hm:m+cN t+2≤1048576):DInv (iX d k a cn t).2 n (m+cN t+2):=by
 have h1:=j8 h (2+a*k+cn) (jD (2+a*k+cn) t (cN t)) (by rw [cY];omega);rw [cY] at h1;rw [iX]
 split
 ·exact NX h1 _ _ (by omega)
 exact h1.mono (by omega)
theorem jA {f:FuncId} {args:List AV} {d:DSt} {k a n:Nat} {b:Bool} {l:List (ByteArray×ByteArray×Nat)} {c:Nat} {r0:AV} (h:aJ Tryz.prog f args (sH d (b4 k a n b) (bJ l c)) (fun r H'=>r=r0∧H'=sH d (b4 k a n b) (bJ l c))) (H:aA) (hs:FM H (sH d (b4 k a n b) (bJ l c))) (ha:∀ x∈args,Clo (sH d (b4 k a n b) (bJ l c)) x) :
  aJ Tryz.prog f args H (fun r H'=>r=r0∧H'=H):=h.frameS hs.sub (oY _ _ _ _ _ _ _) ha
theorem kR {α:Type} (f:α→List PV) (l:List α):((l.map f).take (0+l.length)).drop 0=l.map f:=by rw [YZ,List.drop_zero];exact List.take_of_length_le (by rw [YH];exact YN _)
theorem RN {H:aA} {p:Prop} [Decidable p] {k a n a' n':Nat} {b b':Bool} (h1:(H.get 1000).isSome=true) (h2:(H.get 1101).isSome=true):∀ r∈(if p then b4 k a n b else b4 k a' n' b').rows,∀ x∈r,Clo H x:=by
 split
 ·exact bC h1 h2
 exact bC h1 h2
abbrev U3:bD:=[(0,.ref 1100 0 0 0),(4,.ref 4 0 0 0),(7,.ref 7 0 0 0),(8,.ref 8 0 0 0)]
def WE (S:List ByteArray) (K:aA):aA:=(905,⟨S.length,1,9,cM S⟩)::(8,bx 1 31 [.osl 905 S.length 0 S.length])::K
theorem TB (S:List ByteArray) (s:ByteArray) (K:aA):WE (S++[s]) K=(905,⟨S.length+1,1,9,cM (S++[s])⟩)::(8,bx 1 31 [.osl 905 (S.length+1) 0 (S.length+1)])::K:=by simp [WE]
theorem QL {d:DSt} {n m:Nat} (h:DInv d n m) (k a cn a2 cn2:Nat) (b:Bool) (l:List (ByteArray×ByteArray×Nat)) (c:Nat) (t:List UInt8) (ht:t.length < 100000000) (hm:m+cN t+2 < 1048576) (ha:a2 < 2) (hk:k < 4000) (hcn:cn2≤4000) :
  aJ Tryz.prog 52 [.ref 1100 0 0 0,.agg [iv (a2:Int),iv (cn2:Int)],sv (ofL t)] (sH d (b4 k a cn b) (bJ l c)) (fun r H'=>r=iv (iX d k a2 cn2 t).1∧H'=sH (iX d k a2 cn2 t).2 (if(iX d k a2 cn2 t).1=0 then b4 k a2 (cn2+cN t) b else b4 k a cn true) (bJ l c)):=by
 have hmk:a2*k≤2*4000:=Nat.mul_le_mul (by omega) (by omega);have hpl:=vX d k a cn a2 cn2 b l c (by omega) (by omega) (by omega);obtain ⟨fr,hfr⟩:∃ fr,fr=2+a2*k+cn2:=⟨_,rfl⟩;have hpn:cN t≤10000000:=by rw [cN];omega
 have hw:=mC h k a cn fr b l c (jD fr t (cN t)) (by rw [cY];omega) (by omega);have h1:=j8 h fr (jD fr t (cN t)) (by rw [cY];omega);rw [cY] at h1;rw [iX,← hfr];rw [← hfr] at hpl;obtain ⟨x0,hx0⟩:∃ x,x=iT d fr (jD fr t (cN t)):=⟨_,rfl⟩;rw [← hx0] at hw h1 ⊢;clear hx0;have hset:=T6 h1 k a cn a2 (cn2+cN t) b l c (by omega) (by omega) (by omega);refine Bd func52 rfl ntmps52<|Sr<|Dd (by exact f7 (id:=4) rfl rfl rfl rfl rfl)<|Dd aR<|Zz<|Sr<|Dd aF<|Dd (dP qQ)<|Dd (eF aT)<|Dd (dP lS)<|Dd (eF aT)<|Dd (by exact aB rfl rfl XT rfl (jA hpl _ ⟨rfl,rfl,rfl,rfl,rfl,rfl,trivial⟩ (by simp;rfl)))<|Dd (by exact bZ (id:=7) rfl XP rfl rfl)<|Uu (oX sizeOf3)<|Zz<|Sr<|Dd (by exact bZ (id:=8) rfl VK rfl rfl)<|Zz<|Sq<|Sr<|Dd aF<|Dd (by exact aB rfl rfl call100 rfl (KM t _ rfl))<|Zz<|aO ?_;refine fP.ent (E':=[(0,.ref 1100 0 0 0),(4,.ref 4 0 0 0),(7,.ref 7 0 0 0),(8,.ref 8 0 0 0),(18,.clo 129 [.ref 910 0 0 0])]) (H':=(905,⟨0,1,9,[]⟩)::(910,J2 t 0)::(8,bx 1 31 [.osl 905 0 0 0])::(7,bx 1 3 [iv (fr:Int)])::(4,bx 2 70 [iv (a2:Int),iv (cn2:Int)])::sH d (b4 k a cn b) (bJ l c)) (bY.nz 905 1 9 rfl rfl ⟨⟨_,rfl,(by exact Nz.same (by(simp;rfl)))⟩,⟨_,rfl,(by exact Nz.same (by(simp;rfl)))⟩,⟨_,rfl,(by exact Nz.same (by(simp;rfl)))⟩,⟨_,rfl,(by exact Nz.same (by(simp;rfl)))⟩,⟨_,rfl,(by exact Nz.same (by(simp;rfl)))⟩,trivial⟩ ⟨⟨_,rfl,rfl,rfl,rfl,(by exact .inl ⟨rfl,(by(simp;done))⟩)⟩,⟨_,rfl,rfl,rfl,rfl,(by exact .inr ⟨_,_,rfl,rfl,(by repeat(first|exact trivial|refine⟨(by exact Nz.own),?_⟩))⟩)⟩,⟨_,rfl,rfl,rfl,rfl,(by exact .inl ⟨rfl,(by(simp;done))⟩)⟩,⟨_,rfl,rfl,rfl,rfl,(by exact .inl ⟨rfl,(by(simp;done))⟩)⟩,⟨_,rfl,rfl,rfl,rfl,(by exact .inl ⟨rfl,(by exact aE _ _ rfl rfl rfl)⟩)⟩,⟨_,rfl,rfl,rfl,rfl,(by exact .inl ⟨rfl,(by exact aC _ _)⟩)⟩,⟨_,rfl,rfl,rfl,rfl,(by exact .inl ⟨rfl,(by exact aL _ _ _)⟩)⟩,⟨_,rfl,rfl,rfl,rfl,(by exact .inl ⟨rfl,(by exact aI _ _)⟩)⟩,⟨_,rfl,rfl,rfl,rfl,(by exact .inl ⟨rfl,(by exact bC rfl rfl)⟩)⟩,⟨_,rfl,rfl,rfl,rfl,(by exact .inl ⟨rfl,(by exact aS _ _ _)⟩)⟩,trivial⟩ ⟨rfl,rfl,rfl,rfl,rfl,rfl,trivial⟩) ?_;obtain ⟨K,hK⟩:∃ K:aA,K=(7,bx 1 3 [iv (fr:Int)])::(4,bx 2 70 [iv (a2:Int),iv (cn2:Int)])::sH d (b4 k a cn b) (bJ l c):=⟨_,rfl⟩;have k7:K.get 7=some (bx 1 3 [iv (fr:Int)]):=by rw [hK];rfl
 have k4:K.get 944=none:=by rw [hK];rfl
 rw [← hK];refine tY (id:=944) (p:=19) U3 rfl call129 rfl k4 (by simp [U3];exact⟨rfl,rfl,rfl,rfl⟩) ?_;intro x hx1 hx2 hx3 hx4 hx5 hx6;refine((KN t (.yld 944 0) (fun i=>(944,LR x U3)::(910,J2 t i)::WE (jD fr t i) K) (fun i=>(944,LR x U3)::(910,J2 t i)::WE (jD fr t (i+1)) K) (by omega) (fun i=>rfl) (fun i=>rfl) (fun i j=>?_) ?_).congrG (fun j=>?_) (fun j=>rfl)).mono ?_
 ·exact mN [(910,J2 t (i+1)),(944,LR x U3),(910,J2 t i)] [(944,LR x U3),(910,J2 t (i+1))] (by repeat(first|exact trivial|refine⟨rfl,?_⟩)) j
 ·intro i hi;have hsl:(jD fr t i).length=i:=cY fr t i;have hpal:(fA t i).length≤46:=by rw [mJ];omega
  have hpos:(ofL (fA t i)).size=(fA t i).length:=bR _;have hdg:=fun H=>mP (fA t i).length 2 (by omega) (by omega) H;have e29:ofL (dg (fA t i).length 2)++ofL (fA t i)=ofL (dg (fA t i).length 2++fA t i):=rS _ _;have s29:(ofL (dg (fA t i).length 2)).size≤23:=by rw [bR];exact oP _ 2 (by omega)
  have l29:(dg (fA t i).length 2++fA t i).length≤48:=by rw [YI,fL (i6 _ (by omega) (by omega))];omega
  have hse:=fun H=>vS (fr+i) (dg (fA t i).length 2++fA t i) (by omega) l29 H;have hpe:ofL (eC (fr+i) (dg (fA t i).length 2++fA t i))=ofL (dR (fr+i) (fA t i)):=rfl;rw [hpe] at hse;rw [KC,TB];obtain ⟨S,hS⟩:∃ S,S=jD fr t i:=⟨_,rfl⟩;rw [← hS] at hsl ⊢;obtain ⟨u,hu⟩:∃ u,u=fA t i:=⟨_,rfl⟩;rw [← hu] at hpal hpos hdg e29 s29 l29 hse ⊢;refine .inl ⟨944,0,rfl,?_⟩;refine AX [(0,.ref 1100 0 0 0),(4,.ref 4 0 0 0),(7,.ref 7 0 0 0),(8,.ref 8 0 0 0),(9,sv (ofL u))] ((910,J2 t i)::WE S K) hx1 hx2 hx3 hx4 hx5 hx6 rfl rfl rfl ?_ ?_
  ·refine Rg<|Da ?_;exact E0
  refine aO<|bO follows<|Cs (fun _ h=>lh cD h)<|Cs (fun H1 hH=>by exact aW rfl aT rfl ((hH _ rfl).trans k7) rfl rfl rfl)<|Cs (fun _ h=>lh cD h)<|Cs (fun H1 hH=>by exact cW rfl aP rfl ((hH _ rfl).trans rfl) rfl)<|Cs (fun H1 hH=>by exact cG rfl rfl rfl (show IntKind.i64.wrap ((fr:Int)+(S.length:Int))=((fr+i:Nat):Int)by rw [hsl,iB (by omega) (by omega)];omega))<|Cs (fun _ _=>aF)<|Cs (fun _ _=>(yO aK))<|Cs (fun H1 hH=>by exact aB rfl rfl xP rfl (hdg _))<|Cs (fun _ _=>aF)<|Cs (fun H1 hH=>by exact iI rfl rfl rfl (by omega) e29)<|Cs (fun H1 hH=>by exact aB rfl rfl XI rfl (hse _))<|Cs (fun H1 hH=>by exact bF [[.str (ofL (dR (fr+i) u))]] rfl b8 rfl rfl rfl rfl rfl (by intro r hr;rw [YK] at hr;subst hr;rfl)) ?_;refine b5 (r:=⟨_,none,[_]⟩) (DStep.plain rfl (fun H1 hH=>by exact fE (ps:=[[.str (ofL (dR (fr+i) u))]]) rfl b8 MW rfl ((hH _ rfl).trans rfl) rfl rfl rfl (fH _) rfl (by intro r hr;rw [YK] at hr;subst hr;rfl) (m:=1) rfl (by omega) rfl (kJ _ (ofL (dR (fr+i) u))))) rfl ?_;refine b5 (r:=⟨_,none,[_]⟩) (DStep.plain rfl (fun H1 hH=>by exact(by exact g8 rfl nQ rfl rfl rfl rfl ((hH _ rfl).trans rfl) rfl rfl rfl))) rfl ?_;refine cU<|Kr ?_;exact⟨(910,J2 t i)::(905,⟨S.length+1,1,9,cM (S++[ofL (dR (fr+i) u)])⟩)::(8,bx 1 31 [.osl 905 (S.length+1) 0 (S.length+1)])::K,bY.get' trivial (fun j=>mN [_,_,_,_] [_,_,_,_,_,_] (by repeat(first|exact trivial|refine⟨rfl,?_⟩)) j),rfl,rfl⟩
 ·exact mN [_,_,_,_] [_,_,_,_] (by repeat(first|exact trivial|refine⟨rfl,?_⟩)) j
 rintro r H' ⟨rfl,rfl⟩;refine⟨x,_,rfl,by rw [hx1];decide,rfl,fun z=>?_⟩;rw [hx2];have hSl:(jD fr t (cN t)).length=cN t:=cY _ _ _;obtain ⟨S,hS⟩:∃ S,S=jD fr t (cN t):=⟨_,rfl⟩;rw [← hS] at hSl hw;rw [← hS];have hSm:((S.map encStr).length:Int)=(cN t:Int):=by rw [YH,hSl]
 subst hK;refine Sq<|Sq ?_;refine fP.ent (bY.fzG (id:=905) (E':=U3) (H':=(8,bx 1 31 [.pv (aX S)])::(7,bx 1 3 [iv (fr:Int)])::(4,bx 2 70 [iv (a2:Int),iv (cn2:Int)])::sH d (b4 k a cn b) (bJ l c)) (S.map encStr) rfl (mE _) ?_ rfl ?_ ?_) ?_
 ·intro p hp;simp only [YT,YX,or_false] at hp;rcases hp with rfl|rfl|rfl|rfl<;>exact⟨_,rfl,.same (by simp;rfl)⟩
 ·exact⟨⟨_,rfl,rfl,rfl,rfl,SN rfl (vB (.osl (kR encStr _)) G3)⟩,⟨_,rfl,rfl,rfl,rfl,cQ (by simp)⟩,⟨_,rfl,rfl,rfl,rfl,cQ (by simp)⟩,⟨_,rfl,rfl,rfl,rfl,cQ (aE _ _ rfl rfl rfl)⟩,⟨_,rfl,rfl,rfl,rfl,cQ (aC _ _)⟩,⟨_,rfl,rfl,rfl,rfl,cQ (aL _ _ _)⟩,⟨_,rfl,rfl,rfl,rfl,cQ (aI _ _)⟩,⟨_,rfl,rfl,rfl,rfl,cQ (bC rfl rfl)⟩,⟨_,rfl,rfl,rfl,rfl,cQ (aS _ _ _)⟩,trivial⟩
 ·exact⟨rfl,rfl,rfl,rfl,rfl,rfl,trivial⟩
 refine Rg<|Dd aF<|Dd (eF aT)<|Dd (eF cD)<|Dd (by exact aB rfl rfl nY rfl (fR hw _ ⟨rfl,rfl,rfl,rfl,rfl,rfl,trivial⟩ (by simp;rfl)))<|Dd aR<|Zz<|Sr<|Dd aF<|Dd tF<|Zz ?_;refine Cn ?_ ?_<;>intro hc1
 ·have he:¬ x0.1=0:=by have h:=hc1;simpa using h
  have hb:(b||!decide (x0.1=0))=true:=by rw [decide_eq_false he];cases b<;>rfl
  rw [YF he,YF he,hb];refine Sr<|Dd aF<|Dd aR<|Zz<|aM ?_;refine a8 (H':=(sH x0.2 (b4 k a cn true) (bJ l c))) (.inr rfl) rfl (aG rfl) (Fin.wk (by(simp;done)) (Hc (aE _ _ rfl rfl rfl)<|Hc (aC _ _)<|Hc (aL _ _ _)<|Hc (aI _ _)<|Hc (bC rfl rfl)<|Hc (aS _ _ _)<|trivial) ⟨rfl,rfl,rfl,rfl,rfl,rfl,trivial⟩) ?_;exact Qq
 have he:x0.1=0:=by have h:=hc1;simpa using h
 have hb:(b||!decide (x0.1=0))=b:=by rw [he];cases b<;>rfl
 rw [YG he,hb];obtain ⟨y,hy⟩:∃ y,y=uW x0.2 a2 (cn2+cN t):=⟨_,rfl⟩;rw [← hy] at hset ⊢;refine aH<|Sr<|Dd (dP lS)<|Dd (eF aT)<|Dd (eF cD)<|Dd (mB aP)<|Dd (by exact cG rfl rfl rfl (show IntKind.i64.wrap ((cn2:Int)+((S.map encStr).length:Int))=((cn2+cN t:Nat):Int)by rw [hSm,iB (by omega) (by omega)];omega))<|Dd (dP lS)<|Uu (by exact cV rfl sizeOf3 rfl rfl rfl rfl rfl rfl (by simp only [YJ,List.length_nil];omega) (by simp only [Zl,encStr];rfl) (by simp only [Zl,encStr];rfl))<|Zz<|Sr<|Dd aF<|Dd (R9 cK sizeOf70)<|Dd (by exact aB rfl rfl call103 rfl (fR hset _ ⟨rfl,rfl,rfl,rfl,rfl,rfl,trivial⟩ (by simp;rfl)))<|Dd aR<|Zz<|aM ?_;refine a8 (H':=(sH y.2 (if y.1=0 then b4 k a2 (cn2+cN t) b else b4 k a cn true) (bJ l c))) (.inr rfl) rfl (aG rfl) (Fin.wk (by(simp;done)) (Hc (aE _ _ rfl rfl rfl)<|Hc (aC _ _)<|Hc (aL _ _ _)<|Hc (aI _ _)<|Hc (RN rfl rfl)<|Hc (aS _ _ _)<|trivial) ⟨rfl,rfl,rfl,rfl,rfl,rfl,trivial⟩) ?_;exact Qq
end Go.Proofs.YtmkgeogoojcciaaGreatDoor
namespace Go.Proofs.YtmkgeogoojcciaaGreatDoor
open Go.Proofs.Tryz
open Go.Abs
abbrev WQ:ByteArray:=⟨#[58]⟩
theorem FT (s:ByteArray) (H:aA):aJ Tryz.prog 171 [sv s,sv WQ] H (fun r H'=>r=iv (Lib.indexByte s.data.toList 58)∧H'=H):=by
 refine Pu ?_;refine Bd func171 rfl ntmps171<|Sr<|Dd aR<|Zz<|Sr<|Dd aF<|Dd (yO aK)<|Dd aR<|Zz<|Sq<|aO<|Sq ?_;refine cR (t:=16) (n:=9) (X:=decide (WQ=s)) ?_ ?_
 ·all_goals refine Dd aF ?_
  all_goals refine Dd gH<|Dm ?_
  all_goals refine Sp 19 (fun h19=>?_) fun h19=>?_
  all_goals try contradiction
  all_goals refine On aF<|On aF<|On T8<|Dd fN<|Da ?_
  all_goals(exact⟨⟨_,rfl,by rfl⟩,rfl,rfl,rfl⟩)
 refine Cn ?_ ?_<;>intro hc1
 ·have hs:=YD hc1;subst hs;exact Sr<|Dd aR<|Zz<|aM<|Rt<|Qq
 refine Sr<|Dd aF<|Dd gH<|Da ?_;refine Cn ?_ ?_<;>intro hc2
 ·exact Sr<|Dd aF<|Dd aF<|Dd (by exact yI rfl aK rfl rfl (by omega) (by exact YS _) (show 0 < (⟨#[58]⟩:ByteArray).size from Nat.zero_lt_one) rfl)<|Dd (by exact aB rfl rfl call186 rfl (x9 s 58 _))<|Dd aR<|Zz<|aM<|Rt<|Qq
 cases hc2
def EM (s:ByteArray):AV:=if Lib.indexByte s.data.toList 58 = -1 then .tup [sv s,sv ⟨#[]⟩,bv false] else .tup [sv (s.extract 0 (Lib.indexByte s.data.toList 58).toNat),sv (s.extract ((Lib.indexByte s.data.toList 58).toNat+1) s.size),bv true]
theorem NS (s:ByteArray) (H:aA) (hs:s.size < 1099511627776):aJ Tryz.prog 144 [sv s,sv WQ] H (fun r H'=>r=EM s∧H'=H):=by
 refine Pu ?_;have hI:=fun H=>FT s H;rw [EM];rcases Classical.em (Lib.indexByte s.data.toList 58 = -1)with h1|h1
 ·rw [YG h1];simp only [h1] at hI;refine Bd func144 rfl ntmps144<|Sr<|Dd aR<|Dd aR<|Dd aR<|Zz<|Sq<|Sr<|Dd aF<|Dd aF<|Dd (by exact aB rfl rfl call171 rfl (hI _))<|Dd aR<|Zz<|Sr<|Dd aF<|Dd Q1<|Zz ?_;refine Cn ?_ ?_<;>intro hc1
  ·cases hc1
  refine aH<|Sr<|Dd aF<|Dd aR<|Dd aR<|Dd aR<|Zz<|aM ?_;refine JQ (H':=[]) (.inr rfl) rfl (aG rfl) (aG rfl) (aG rfl) (Fin.wk (by simp) trivial trivial) ?_;exact Qq
 rw [YF h1];obtain ⟨w,r,e1,e2,e3⟩:=wO h1;simp only [e3] at hI;rw [e3,YS];have hl:w.length+1+r.length=s.size:=by rw [← show s.data.toList.length=s.size by simp,e1,YI,YJ];omega
 refine Bd func144 rfl ntmps144<|Sr<|Dd aR<|Dd aR<|Dd aR<|Zz<|Sq<|Sr<|Dd aF<|Dd aF<|Dd (by exact aB rfl rfl call171 rfl (hI _))<|Dd aR<|Zz<|Sr<|Dd aF<|Dd Q1<|Zz ?_;refine Cn ?_ ?_<;>intro hc1
 ·refine Sq<|bO follows<|Cq aF<|Cq aF<|Cq (by exact cE (l:=0) (h:=(w.length)) rfl aK rfl rfl rfl (by omega) (by omega) rfl)<|Cq aF<|Cq aF<|Cq aF<|Cq (yO aK)<|Cq (by exact cG rfl rfl rfl (show IntKind.i64.wrap ((w.length:Int)+1)=((w.length+1:Nat):Int)by rw [IntKind.wrap_i64];omega))<|Cq (by exact cE (l:=(w.length+1)) (h:=s.size) rfl aK rfl rfl rfl (by omega) (by omega) rfl)<|Cq aR<|Cq aR<|Cq aR<|cU<|Kr<|aM ?_;refine JQ (H':=[]) (.inr rfl) rfl (aG rfl) (aG rfl) (aG rfl) (Fin.wk (by simp) trivial trivial) ?_;exact Qq
 have hx:=YE hc1;omega
theorem UT (s:ByteArray) (H:aA) (hs:s.size < 1099511627776):aJ Tryz.prog 117 [sv s,sv WQ] H (fun r H'=>r=EM s∧H'=H):=by
 refine Pu ?_;have hC:=fun H=>NS s H hs;rw [EM] at *;rcases Classical.em (Lib.indexByte s.data.toList 58 = -1)with h1|h1
 ·simp only [EM,YG h1] at hC ⊢;refine Bd func117 rfl ntmps117<|Sr<|Dd aR<|Dd aR<|Dd aR<|Zz<|Sr<|Dd aF<|Dd aF<|Dd (by exact aB rfl rfl call144 rfl (hC _))<|Dd dU<|Dd dU<|Dd dU<|Dd aR<|Dd aR<|Dd aR<|Zz<|aM ?_;refine JQ (H':=[]) (.inr rfl) rfl (aG rfl) (aG rfl) (aG rfl) (Fin.wk (by simp) trivial trivial) ?_;exact Qq
 simp only [EM,YF h1] at hC ⊢;refine Bd func117 rfl ntmps117<|Sr<|Dd aR<|Dd aR<|Dd aR<|Zz<|Sr<|Dd aF<|Dd aF<|Dd (by exact aB rfl rfl call144 rfl (hC _))<|Dd dU<|Dd dU<|Dd dU<|Dd aR<|Dd aR<|Dd aR<|Zz<|aM ?_;refine JQ (H':=[]) (.inr rfl) rfl (aG rfl) (aG rfl) (aG rfl) (Fin.wk (by simp) trivial trivial) ?_;exact Qq
theorem kM (l:List ByteArray) (H:aA) (hl:(aQ l).length < 35184372088832):aJ Tryz.prog 99 [.pv (aX l)] H (fun r H'=>r=sv (ofL (aQ l))∧H'=H):=by
 refine Pu ?_;have hml:(l.map encStr).length=l.length:=YH _;have hll:=oK l;refine Bd func99 rfl ntmps99<|Sr<|Dd aR<|Zz<|Sr<|Dd (by exact bZ (id:=2001) rfl M0 rfl rfl)<|Zz<|Sq<|Sq ?_;refine fP.ent (E':=[(0,.pv (aX l)),(3,.ref 2001 0 0 0)]) (H':=FC 0 [] false) (bY.bld0 ⟨⟨_,rfl,.same (by simp)⟩,⟨_,rfl,.same (by simp;rfl)⟩,trivial⟩) ?_;refine Rg<|Dd aF<|Dd (mB aP)<|Dd aF<|Zz<|aO ?_;refine tZ (fun(k g:Nat) (u:Bool)=>([(3,.ref 2001 0 0 0),(6,.pv (aX l)),(7,iv ((l.map encStr).length:Int)),(8,iv (k:Int))],FC g (aQ (l.take k)) u)) (fun k g u=>k≤l.length) (fun k g u=>l.length - k) 0 0 false (YY _) ?_ ?_
 ·exact(bY.wk (Ea<|Eb<|Eb<|Eb<|trivial) (Hc (mS rfl rfl)<|Hc (pL _ _)<|trivial) trivial)
 intro k g u hk;have hle:=wM l k;refine Sr<|Dd dO<|Zz<|Sq ?_;refine Cn ?_ ?_<;>intro hc1
 ·have hlt:k < l.length:=by have:=YD hc1;omega
  obtain ⟨s,hs⟩:=aZ hlt;have hi:=dM (f:=encStr) hs;have hle2:=wM l (k+1);rw [dB hs,rW,YI,oB,lI] at hle2;have hsz:s.size < 35184372088832:=by omega
  refine aH<|Sq<|aO<|Sr<|Dd (CV b8)<|Dd (nL aV)<|Dd aR<|Zz<|Rg<|Dd aF<|Dd (yO aK)<|Dd (by exact aB rfl rfl nX rfl (m8 (s.size:Int) (by omega) (by omega) _))<|Dd (by exact iI rfl rfl rfl (by have:(⟨#[58]⟩:ByteArray).size=1:=rfl;omega) rfl)<|Dd aF<|Dd (by exact iI rfl rfl rfl (by rw [ByteArray.size_append];have:(⟨#[58]⟩:ByteArray).size=1:=rfl;omega) rfl)<|Dd (by exact aB rfl rfl call86 rfl (pP g (aQ (l.take k)) u (mY s) (by rw [lI];omega)))<|Zz<|Rg<|Dd mU<|Dd aF<|Zz ?_;refine⟨k+1,g+1,true,by omega,by omega,?_⟩;rw [dB hs,rW];exact(bY.wk (Ea<|Eb<|Eb<|Eb<|trivial) (Hc (mS rfl rfl)<|Hc (pL _ _)<|trivial) trivial)
 have hge:k=l.length:=by have:=YE hc1;omega
 subst hge;rw [List.take_length];exact bI<|Sr<|Dd (by exact aB rfl rfl call88 rfl (TF g (aQ l) u (by omega)))<|Dd aR<|Zz<|aM<|Rt<|Qq
def vD (l:List UInt8):List UInt8:=l.takeWhile fun b=>!decide (b=58)
def uR (l:List UInt8):List UInt8:=(l.dropWhile fun b=>!decide (b=58)).drop 1
def pX (l:List UInt8):Bool:=(((!decide ((58:UInt8)∈l)||gD (ofL (vD l)))||decide (cX (ofL (vD l)) < 0))||decide (((uR l).length:Int) < cX (ofL (vD l))))||!decide (dE (cX (ofL (vD l)))=ofL (vD l))
def JC (l:List UInt8):Nat:=(cX (ofL (vD l))).toNat
def eS:Nat→List UInt8→List ByteArray→List ByteArray×Bool
 | 0,l,acc=>(acc,true)
 | n+1,l,acc=>if l=[] then(acc,true)else if pX l then([],false)else eS n ((uR l).drop (JC l)) (acc++[ofL ((uR l).take (JC l))])
def dW (l:List UInt8):List ByteArray×Bool:=eS l.length l []
theorem CH {l:List UInt8} (h:l≠[]):(uR l).length < l.length:=by rw [uR,YW];have:=(List.dropWhile_sublist (l:=l) fun b=>!decide (b=58)).length_le;have:=List.length_pos_iff.2 h;omega
theorem vO:∀ (n m:Nat) (l:List UInt8) (acc:List ByteArray),l.length≤n→l.length≤m→eS n l acc=eS m l acc
 | 0,m,l,acc,h,_=>by
  rw [List.length_eq_zero_iff.1 (Nat.le_zero.1 h)];cases m<;>rfl
 | n+1,0,l,acc,_,h=>by
  rw [List.length_eq_zero_iff.1 (Nat.le_zero.1 h)];rfl
 | n+1,m+1,l,acc,hn,hm=>by
  rw [eS,eS];by_cases h0:l=[]
  ·rw [YG h0,YG h0]
  rw [YF h0,YF h0];have hlt:=CH h0;by_cases hb:pX l=true
  ·rw [YG hb,YG hb]
  rw [YF hb,YF hb];exact vO n m _ _ (by rw [YW];omega) (by rw [YW];omega)
theorem uF {l:List UInt8} {acc:List ByteArray} (h0:l≠[]) (hb:pX l=false):eS l.length l acc=eS ((uR l).drop (JC l)).length ((uR l).drop (JC l)) (acc++[ofL ((uR l).take (JC l))]):=by have hlt:=CH h0;obtain ⟨k,hk⟩:∃ k,l.length=k+1:=⟨l.length - 1,by omega⟩;rw [hk,eS,YF h0,YF (by rw [hb];decide)];exact vO _ _ _ _ (by rw [YW];omega) (YN _)
theorem FP {l:List UInt8} {acc:List ByteArray} (h0:l≠[]) (hb:pX l=true):eS l.length l acc=([],false):=by have hlt:=CH h0;obtain ⟨k,hk⟩:∃ k,l.length=k+1:=⟨l.length - 1,by omega⟩;rw [hk,eS,YF h0,YG hb]
theorem PO {w r:List UInt8} (h:(58:UInt8)∉w):vD (w++58::r)=w∧uR (w++58::r)=r:=by
 induction w with
 | nil=>exact⟨rfl,rfl⟩
 | cons b w ih =>
  have hb:b≠58:=fun e=>h (by rw [e];exact List.mem_cons_self);obtain ⟨h1,h2⟩:=ih (fun e=>h (List.mem_cons_of_mem _ e));rw [vD] at h1 ⊢;rw [uR] at h2 ⊢;rw [List.cons_append,List.takeWhile_cons,List.dropWhile_cons,YG (by simp [hb]),YG (by simp [hb]),h1];exact⟨rfl,h2⟩
theorem PN:∀ {l:List UInt8},(58:UInt8)∉l→vD l=l∧uR l=[]
 | [],_=>⟨rfl,rfl⟩
 | b::l,h=>by
  have hb:b≠58:=fun e=>h (by rw [e];exact List.mem_cons_self);obtain ⟨h1,h2⟩:=PN (l:=l) (fun e=>h (List.mem_cons_of_mem _ e));rw [vD] at h1 ⊢;rw [uR] at h2 ⊢;rw [List.takeWhile_cons,List.dropWhile_cons,YG (by simp [hb]),YG (by simp [hb]),h1];exact⟨rfl,h2⟩
theorem SV (l:List UInt8):EM (ofL l)=.tup [sv (ofL (vD l)),sv (ofL (uR l)),bv (decide ((58:UInt8)∈l))]:=by
 rw [EM,a7];by_cases h:Lib.indexByte l 58 = -1
 ·rw [YG h];have hm:=wN.1 h;rw [(PN hm).1,(PN hm).2,decide_eq_false hm];rfl
 rw [YF h];obtain ⟨w,r,e1,e2,e3⟩:=wO h;rw [e3,YS];subst e1;rw [(PO e2).1,(PO e2).2,decide_eq_true (by simp)];have x1:(ofL (w++58::r)).extract 0 w.length=ofL w:=jJ (by rw [dT,a7,a7,List.drop_zero,Nat.sub_zero,List.take_left]);have x2:(ofL (w++58::r)).extract (w.length+1) (ofL (w++58::r)).size=ofL r:=jJ (by
  rw [oM,a7,a7,← List.drop_drop,List.drop_left];rfl)
 rw [x1,x2]
theorem MK (s:ByteArray) : -9223372036854775808≤cX s∧cX s≤9223372036854775807:=by
 rw [cX,oS];cases e:Lib.atoiAll s.data.toList with
 | ok v=>exact Lib.atoiAll_bounds e
 | range =>
  show _≤Lib.atoiSat _∧Lib.atoiSat _≤_;rw [Lib.atoiSat]
  split
  ·exact⟨by decide,by decide⟩
  exact⟨by decide,by decide⟩
 | _ =>
  show (-9223372036854775808:Int)≤0∧(0:Int)≤9223372036854775807;exact⟨by decide,by decide⟩
theorem Fin.st2 {H1:aA} {id g n:Nat} {ob:Ob} (l:List ByteArray) (v:AV) (hH:H1.get id=some ob) (hg:ob.g=g) (hps:ob.rows=cM l) (hn:n=l.length) (hv:Clo [] v) :
  Fin [] H1 (.tup [.osl id g 0 n,v]) [] (.tup [.pv (aX l),v]):=by
 subst hg hn;exact Fin.fz (id:=id) (ob:=ob) (l.map encStr) hH (hps.trans (mE l)) (.tup rfl (vB (.osl (kR encStr l)) (vB (.same hv) G3))) rfl trivial trivial
theorem HB (l:List UInt8):(vD l).length≤l.length∧(uR l).length≤l.length:=by
 constructor
 ·exact(List.takeWhile_sublist _).length_le
 rw [uR,YW];have:=(List.dropWhile_sublist (l:=l) fun b=>!decide (b=58)).length_le;omega
theorem DB (t:List UInt8) (H:aA) (ht:t.length < 1000000000):aJ Tryz.prog 87 [sv (ofL t)] H (fun r H'=>r=.tup [.pv (aX (dW t).1),bv (dW t).2]∧H'=H):=by
 refine Pu ?_;refine Bd func87 rfl ntmps87<|Sr<|Dd aR<|Dd aR<|Zz<|Sr<|Dd (by exact kX (id:=905) (sz:=1) (ty:=9) rfl rfl rfl)<|Zz<|Sq<|aO ?_;refine t6 (fun(l:List UInt8) (A:List ByteArray)=>([(0,sv (ofL l)),(4,.osl 905 A.length 0 A.length)],[(905,⟨A.length,1,9,cM A⟩)])) (fun l A=>l.length+A.length≤t.length∧dW t=eS l.length l A) (fun l A=>l.length) t [] ⟨YN _,rfl⟩ ?_ ?_
 ·exact(bY.wk (Eb<|Ea<|trivial) (Hc (fW _ _)<|trivial) trivial)
 rintro l A ⟨hl,hR⟩;have hls:(ofL l).size=l.length:=bR l;have hcl:=HB l;have hcut:=fun H=>UT (ofL l) H (by omega);rw [SV] at hcut;have hat:=fun H=>vF (ofL (vD l)) (by rw [bR];omega) H;have hbd:=MK (ofL (vD l));have hit:=fun H=>m8 (cX (ofL (vD l))) hbd.1 hbd.2 H;have hrs:(ofL (uR l)).size=(uR l).length:=bR _;have hbad:pX l=((((!decide ((58:UInt8)∈l)||gD (ofL (vD l)))||decide (cX (ofL (vD l)) < 0))||decide (((uR l).length:Int) < cX (ofL (vD l))))||!decide (dE (cX (ofL (vD l)))=ofL (vD l))):=rfl;have hN:JC l=(cX (ofL (vD l))).toNat:=rfl;obtain ⟨x,hx⟩:∃ x,x=ofL (vD l):=⟨_,rfl⟩;obtain ⟨v,hv⟩:∃ v,v=cX (ofL (vD l)):=⟨_,rfl⟩;obtain ⟨e,he⟩:∃ e,e=gD (ofL (vD l)):=⟨_,rfl⟩;obtain ⟨o,ho⟩:∃ o,o=decide ((58:UInt8)∈l):=⟨_,rfl⟩;obtain ⟨r,hr⟩:∃ r,r=uR l:=⟨_,rfl⟩;obtain ⟨iv',hiv⟩:∃ y,y=dE v:=⟨_,rfl⟩;simp only [← hv,← he,← ho,← hr] at hcut hat hit hbad hN hbd hrs hcl;simp only [← hx,← hiv] at hcut hat hit hbad;have hlt:=fun h0=>CH (l:=l) h0;have hst:=fun(h0:l≠[]) hb=>uF (acc:=A) h0 hb;have hbb:=fun(h0:l≠[]) hb=>FP (acc:=A) h0 hb;rw [← hr] at hlt;simp only [← hr] at hst;clear hx hv he ho hr hiv;refine Sq<|Sr<|Dd aF<|Dd (yO aK)<|Dd yR<|Zz ?_;refine Cn ?_ ?_<;>intro hc1
 ·have h0:l≠[]:=fun e=>by have h:=YD hc1;rw [hls,e] at h;exact absurd h (by decide)
  refine aH<|aO<|Sr<|Dd aF<|Dd (by exact aB rfl rfl call117 rfl (hcut _))<|Dd aF<|Dd dU<|Dd dU<|Dd dU<|Dd aR<|Dd aR<|Dd aR<|Zz<|Sr<|Dd aF<|Dd (by exact aB rfl rfl Q6 rfl (hat _))<|Dd aF<|Dd dU<|Dd dU<|Dd aR<|Dd aR<|Zz<|Sq<|Sq ?_;refine cR (t:=45) (n:=26) (X:=pX l) ?_ ?_
  ·all_goals refine Dd aF ?_
   all_goals refine Dd xX<|Dm ?_
   all_goals refine Sp 26 (fun h26=>?_) fun h26=>?_
   all_goals(try(with_reducible contradiction))
   all_goals first|refine Fo<|Fo ?_|refine On aF<|On (by exact rN rfl gZ rfl) ?_
   all_goals refine Dd fN<|Dm ?_
   all_goals refine Sp 30 (fun h30=>?_) fun h30=>?_
   all_goals(try(with_reducible contradiction))
   all_goals first|refine Fo<|Fo ?_|refine On aF<|On dO ?_
   all_goals refine Dd fN<|Dm ?_
   all_goals refine Sp 34 (fun h34=>?_) fun h34=>?_
   all_goals(try(with_reducible contradiction))
   all_goals first|refine Fo<|Fo<|Fo<|Fo ?_|refine On aF<|On aF<|On (yO aK)<|On yR ?_
   all_goals refine Dd fN<|Dm ?_
   all_goals refine Sp 40 (fun h40=>?_) fun h40=>?_
   all_goals(try(with_reducible contradiction))
   all_goals first|refine Fo<|Fo<|Fo<|Fo ?_|refine On aF<|On (by exact aB rfl rfl nX rfl (hit _))<|On aF<|On NP ?_
   all_goals refine Dd fN<|Zz ?_
   all_goals(exact⟨⟨_,rfl,by rw [hbad];first|(rw [h26];rfl)|(rw [h26,h30];rfl)|(rw [h26,h30,h34,← hrs];rfl)|(rw [h26,h30,h34,← hrs,h40];rfl)⟩,rfl,rfl,rfl⟩)
  refine Cn ?_ ?_<;>intro hc2
  ·have hb:pX l=true:=hc2;rw [hR,hbb h0 hb];refine Sr<|Dd aR<|Dd aR<|Zz<|aM ?_;refine fO (H':=[]) (.inr rfl) rfl (aG rfl) (aG rfl) (Fin.wk (r:=.tup [.pv (aX []),bv false]) (by simp) trivial trivial) ?_;exact Qq
  have hb:pX l=false:=hc2;have hs:=hst h0 hb;have hlt2:=hlt h0;have hb2:=hbad.symm.trans hb;simp only [Y3,YP] at hb2;obtain ⟨u,rfl⟩:∃ u:Nat,v=(u:Int):=⟨v.toNat,by omega⟩;rw [YS] at hN;rw [hN] at hs;have hur:u≤r.length:=by omega
  have x1:(ofL r).extract 0 u=ofL (r.take u):=jJ (by rw [dT,a7,a7,List.drop_zero,Nat.sub_zero]);have x2:(ofL r).extract u (ofL r).size=ofL (r.drop u):=jJ (by rw [oM,a7,a7]);have hnl:(A++[ofL (r.take u)]).length=A.length+1:=by rw [YI];rfl
  refine aH<|bO follows<|Cr [905] (fun _ _=>aF)<|Cr [] (fun _ _=>aF)<|Cr [] (fun _ _=>aF)<|Cr [] (fun H1 hH=>by exact cE (l:=0) (h:=u) rfl aK rfl rfl rfl (YY _) (by omega) x1)<|Cr [] (fun H1 hH=>by exact bF [[.str (ofL (r.take u))]] rfl b8 rfl rfl rfl rfl rfl (by intro r hr;rw [YK] at hr;subst hr;rfl))<|Cp [905] (fun H1 hH=>by exact fE (ps:=[[.str (ofL (r.take u))]]) rfl b8 MW rfl ((hH _ rfl).trans rfl) rfl rfl rfl (fH _) rfl (by intro r hr;rw [YK] at hr;subst hr;rfl) (m:=1) rfl (by omega) rfl (kJ _ (ofL (r.take u))))<|Cr [] (fun _ _=>aF)<|Cr [] (fun _ _=>aF)<|Cr [] (fun H1 hH=>by exact cE (l:=u) (h:=(ofL r).size) rfl aK rfl rfl rfl (by omega) (YN _) x2)<|Cr [905] (fun _ _=>aR)<|Cr [] (fun _ _=>aR)<|cU<|Kr ?_;refine⟨r.drop u,A++[ofL (r.take u)],⟨by rw [YW,hnl];omega,hR.trans hs⟩,by rw [YW];omega,?_⟩;dsimp only;rw [hnl];exact(bY.wk (Eb<|Ea<|trivial) (Hc (fW _ _)<|trivial) trivial)
 have h0:l=[]:=List.length_eq_zero_iff.1 (by have:=YE hc1;omega);rw [hR,h0];refine bI<|Sr<|Dd aF<|Dd aR<|Dd aR<|Zz<|aM ?_;refine fO (H':=[]) (.inr rfl) rfl (aG rfl) (aG rfl) (Fin.st2 A (bv true) rfl rfl rfl rfl (by simp)) ?_;exact Qq
def xQ (F:FuncId) (caps:List AV) (PR:List ByteArray→Prop) (K:aA):Prop :=∀ (yv:AV) (Hs:List ByteArray→aA),(∀ M,Sub K (Hs M))→(∀ M,(Hs M).get 946=none)→(∀ M,bE (Hs M))→(∀ M,Clo (Hs M) yv) →
  (∀ M x,M.length < 1099511627776→eG Tryz.prog yv [sv x] (Hs M) (fun r H'=>r=bv true∧H'=Hs (M++[x]))) →
  (∀ o M x,M.length < 1099511627776→eG Tryz.prog yv [sv x] ((946,o)::Hs M) (fun r H'=>r=bv true∧H'=(946,o)::Hs (M++[x]))) →
  aJ Tryz.prog F (yv::caps) (Hs []) (fun r H'=>r=.tup []∧∃ M,PR M∧H'=Hs M)
def QZ:bD:=[(2,.ref 942 0 0 0)]
def Q9 (M:List ByteArray) (K:aA):aA:=(945,⟨M.length,1,9,cM M⟩)::(942,bx 1 31 [.osl 945 M.length 0 M.length])::K
theorem HO (M:List ByteArray) (s:ByteArray) (K:aA):Q9 (M++[s]) K=(945,⟨M.length+1,1,9,cM (M++[s])⟩)::(942,bx 1 31 [.osl 945 (M.length+1) 0 (M.length+1)])::K:=by simp [Q9]
theorem FF {M:List ByteArray} {K:aA} {x:Go.Loop} (h:bE K):bE ((944,LR x QZ)::Q9 M K):=by refine bE.app (D:=[(944,LR x QZ),(945,⟨M.length,1,9,cM M⟩),(942,bx 1 31 [.osl 945 M.length 0 M.length])]) ?_ h;refine kI.spec ⟨QV (by simp [QZ];rfl),fW _ _,?_,trivial⟩;intro r hr a ha;simp only [bx,YK] at hr;subst hr;rw [YK] at ha;subst ha;exact .osl rfl
theorem HH {F:FuncId} {caps:List AV} {PR:List ByteArray→Prop} (hE:∀ (args:Array Value) (w:World),(callFunc F args).run Tryz.prog w=.ok (.enter F args) w) (K:aA) (hS:xQ F caps PR K) (k2:K.get 942=none) (k4:K.get 944=none) (k5:K.get 945=none) (k6:K.get 946=none) (hc:bE K) (hcap:Clo K (.clo F caps)) :
  aJ Tryz.prog 125 [.pv .nils,.clo F caps] K (fun r H'=>∃ M,PR M∧r=.osl 945 M.length 0 M.length∧H'=(945,⟨M.length,1,9,cM M⟩)::K):=by
 have k2':aA.get ((945,⟨0,1,9,[]⟩)::K) 942=none:=k2;refine Bd func125 rfl ntmps125 ?_;refine P4 (t:=0) (id:=945) (sz:=1) (ty:=9) rfl k5 rfl ?_;refine ME (t:=0) rfl rfl rfl (YN _) ?_;refine Sr<|Dd (by exact f7 (id:=942) rfl rfl rfl rfl k2')<|Dd aR<|Zz<|Sq<|Sr<|Dd aF<|Zz<|aO ?_;refine fP.ent (E':=[(2,.ref 942 0 0 0),(6,.clo F caps)]) (H':=Q9 [] K) (bY.get' ⟨⟨_,rfl,rfl⟩,⟨_,rfl,rfl⟩,trivial⟩ (fun j=>r8 (by decide) j)) ?_;refine tY (id:=944) (p:=7) QZ rfl hE rfl k4 (by simp [QZ];rfl) ?_;intro x hx1 hx2 hx3 hx4 hx5 hx6;refine(hS (.yld 944 0) (fun M=>(944,LR x QZ)::Q9 M K) (fun M=>?_) (fun M=>k6) (fun M=>FF hc) (fun M=>by simp;rfl) ?_ ?_).mono ?_
 ·refine Sub.app (D:=[(944,LR x QZ),(945,⟨M.length,1,9,cM M⟩),(942,bx 1 31 [.osl 945 M.length 0 M.length])]) ?_;intro p hp;simp only [YT,YX,or_false] at hp;rcases hp with rfl|rfl|rfl
  ·exact k4
  ·exact k5
  exact k2
 ·intro M s hM;refine .inl ⟨944,0,rfl,?_⟩;rw [HO];refine AX [(2,.ref 942 0 0 0),(5,sv s)] (Q9 M K) hx1 hx2 hx3 hx4 hx5 hx6 rfl rfl rfl ?_ ?_
  ·refine Rg<|Da ?_;exact E0
  refine aO<|Rg<|Dd (eF cD)<|Dd aF<|Dd (by exact bF [[.str s]] rfl b8 rfl rfl rfl rfl rfl (by intro r hr;rw [YK] at hr;subst hr;rfl))<|Dd (by exact fE (ps:=[[.str s]]) rfl b8 MW rfl rfl rfl rfl rfl (fH _) rfl (by intro r hr;rw [YK] at hr;subst hr;rfl) (m:=1) rfl (by omega) rfl (kJ _ s))<|Uu (oX nQ)<|Zz ?_;exact⟨(945,⟨M.length+1,1,9,cM (M++[s])⟩)::(942,bx 1 31 [.osl 945 (M.length+1) 0 (M.length+1)])::K,bY.get' trivial (fun j=>mN [_,_,_] [_,_,_,_,_] (by repeat(first|exact trivial|refine⟨rfl,?_⟩)) j),rfl,rfl⟩
 ·intro o M s hM;refine eG.congrG (H1:=(944,LR x QZ)::(946,o)::Q9 M K) (K1:=(944,LR x QZ)::(946,o)::Q9 (M++[s]) K) (.inl ⟨944,0,rfl,?_⟩) (fun j=>r8 (by decide) j) (fun j=>r8 (by decide) j);rw [HO];refine AX [(2,.ref 942 0 0 0),(5,sv s)] ((946,o)::Q9 M K) hx1 hx2 hx3 hx4 hx5 hx6 rfl rfl rfl ?_ ?_
  ·refine Rg<|Da ?_;exact E0
  refine aO<|Rg<|Dd (eF cD)<|Dd aF<|Dd (by exact bF [[.str s]] rfl b8 rfl rfl rfl rfl rfl (by intro r hr;rw [YK] at hr;subst hr;rfl))<|Dd (by exact fE (ps:=[[.str s]]) rfl b8 MW rfl rfl rfl rfl rfl (fH _) rfl (by intro r hr;rw [YK] at hr;subst hr;rfl) (m:=1) rfl (by omega) rfl (kJ _ s))<|Uu (oX nQ)<|Zz ?_;exact⟨(946,o)::(945,⟨M.length+1,1,9,cM (M++[s])⟩)::(942,bx 1 31 [.osl 945 (M.length+1) 0 (M.length+1)])::K,bY.get' trivial (fun j=>mN [_,_,_,_] [_,_,_,_,_,_] (by repeat(first|exact trivial|refine⟨rfl,?_⟩)) j),rfl,rfl⟩
 rintro r H' ⟨rfl,M,hM,rfl⟩;refine⟨x,_,rfl,by rw [hx1];decide,rfl,fun z=>?_⟩;rw [hx2];refine Sr<|Dd (eF cD)<|Dd aR<|Zz<|aM ?_;refine a8 (H':=((945,⟨M.length,1,9,cM M⟩)::K)) (.inr rfl) rfl (aG rfl) (Fin.front' [(944,LR z QZ),(945,⟨M.length,1,9,cM M⟩),(942,bx 1 31 [.osl 945 M.length 0 M.length])] [(945,⟨M.length,1,9,cM M⟩)] (.osl rfl) (by simp [k2,k4,aA.get]) (by intro p hp;rw [YK] at hp;subst hp;rfl) (kI.spec ⟨fW _ _,trivial⟩) hc (by simp [k2,k4,aA.get])) ?_;exact⟨M,hM,rfl,rfl⟩
theorem ER {F:FuncId} {caps:List AV} {PR:List ByteArray→Prop} (hE:∀ (args:Array Value) (w:World),(callFunc F args).run Tryz.prog w=.ok (.enter F args) w) (K:aA) (hS:xQ F caps PR K) (k2:K.get 942=none) (k4:K.get 944=none) (k5:K.get 945=none) (k6:K.get 946=none) (hc:bE K) (hcap:Clo K (.clo F caps)) :
  aJ Tryz.prog 95 [.clo F caps] K (fun r H'=>∃ M,PR M∧r=.osl 945 M.length 0 M.length∧H'=(945,⟨M.length,1,9,cM M⟩)::K):=by
 refine Bd func95 rfl ntmps95<|Sr<|Dd aR<|Zz<|Sr<|Dm ?_;refine iD rfl rfl (BC rfl rfl call125 rfl (HH hE K hS k2 k4 k5 k6 hc hcap)) ?_;rintro r H' ⟨M,hM,rfl,rfl⟩;refine Dd aR<|Zz<|aM ?_;refine a8 (H':=((945,⟨M.length,1,9,cM M⟩)::K)) (.inr rfl) rfl (aG rfl) Fin.refl ?_;exact⟨M,hM,rfl,rfl⟩
theorem A0 (l:List ByteArray):dF l=(l.map encStr).map (·.map .pv):=by rw [List.map_map];rfl
theorem A1 {F:FuncId} {caps:List AV} {L:List ByteArray} (hL:L.length < 1099511627776) (hE:∀ (args:Array Value) (w:World),(callFunc F args).run Tryz.prog w=.ok (.enter F args) w) (K:aA) (hS:xQ F caps (fun M=>M.Perm L) K) (k2:K.get 942=none) (k4:K.get 944=none) (k5:K.get 945=none) (k6:K.get 946=none) (hc:bE K) (hcap:Clo K (.clo F caps)) :
  aJ Tryz.prog 48 [.clo F caps] K (fun r H'=>r=.pv (aX (cI L))∧H'=K):=by
 refine Bd func48 rfl ntmps48<|Sr<|Dd aR<|Zz<|Sr<|Dm ?_;refine iD rfl rfl (aB rfl rfl call95 rfl (ER hE K hS k2 k4 k5 k6 hc hcap)) ?_;rintro r H' ⟨M,hperm,rfl,rfl⟩;have hMl:M.length < 4611686018427387904:=by rw [hperm.length_eq];omega
 have hSo:=vQ hperm;have hSl:(cI M).length=M.length:=by rw [cI,YH,List.length_mergeSort,YH]
 refine Dd aR<|Zz<|Sr<|Dd aF<|Dd (by exact aB rfl rfl call96 rfl (zD M rfl rfl hMl))<|Zz<|Sr<|Dd aF<|Dd aR<|Zz<|aM ?_;refine a8 (H':=K) (.inr rfl) rfl (aG rfl) (Fin.slice [(945,⟨M.length,1,9,dF (cI M)⟩),(945,⟨M.length,1,9,cM M⟩)] ((cI M).map encStr) rfl rfl (A0 _) (by rw [YH,hSl]) hc (by simp [k5]) (by simp [k5]) k5) ?_;exact⟨by rw [← hSo];rfl,rfl⟩
abbrev bT:=List (ByteArray×ByteArray×Nat)
def dQ (l:bT) (c:Nat):Prop:=(l.map fun p=>p.2.2).Pairwise (· < ·)∧∀ p∈l,p.2.2 < c
def jR (l:bT) (i:Nat):Nat:=((l[i]?).map fun p=>p.2.2).getD 0
theorem FN {l:bT} {c:Nat} (h:dQ l c) {i j:Nat} (hi:i < l.length) (hj:j < l.length) (e:jR l i=jR l j):i=j:=by
 have hp:=List.pairwise_iff_getElem.1 h.1;rw [jR,jR,YM hi,YM hj] at e;have e:(l[i]).2.2=(l[j]).2.2:=e;rcases Nat.lt_trichotomy i j with h1|h1|h1
 ·have:=hp i j (by simpa using hi) (by simpa using hj) h1;simp at this;omega
 ·exact h1
 have:=hp j i (by simpa using hj) (by simpa using hi) h1;simp at this;omega
def D5 (mid:Nat) (l:bT) (c:Nat) (s:List Nat):Ob:=⟨0,0,0,dX (.mp mid 0) c c (s.map (jR l))⟩
abbrev Q0 (mid:Nat):Ob:=bx 1 33 [.mp mid 0]
theorem IZ {H:aA} {mid:Nat} (h:(H.get mid).isSome=true) (l:bT) (c:Nat) (s:List Nat):∀ r∈(D5 mid l c s).rows,∀ x∈r,Clo H x:=by
 intro r hr x hx;rw [D5,dX] at hr;rcases YT.1 hr with rfl|hr
 ·simp only [YT,YX,or_false] at hx;rcases hx with rfl|rfl|rfl
  ·exact .mp h
  ·exact .pv _
  exact .pv _
 obtain ⟨n,_,rfl⟩:=List.mem_map.1 hr;rw [YK] at hx;subst hx;exact .pv _
theorem tH {l:bT} {i:Nat} {q:ByteArray×AV×Nat} (h:(bQ l)[i]?=some q):∃ p,l[i]?=some p∧q=(p.1,sv p.2.1,p.2.2):=by
 rw [bQ,Y1] at h;cases e:l[i]? with
 | none=>rw [e] at h;cases h
 | some p=>rw [e] at h;cases h;exact⟨p,rfl,rfl⟩
def pT (l:bT) (s:List Nat):List ByteArray:=pick (l.map Prod.fst) s
theorem GA {l:bT} {s:List Nat} {i:Nat} {p:ByteArray×ByteArray×Nat} (h:l[i]?=some p):pT l (s++[i])=pT l s++[p.1]:=by simp only [pT,pick,List.map_append,List.map_cons,List.map_nil,Y1,h,Option.map_some,Option.getD_some]
theorem KP (l:bT) (s:List Nat):(pT l s).length=s.length:=YH _
theorem IU (mid:Nat) (l:bT) (c:Nat) (K:aA) (hl:l.length < 1099511627776) (hst:dQ l c) (h1:K.get 951=some (Q0 mid)) (h2:K.get mid=some (bJ l c)) (hm6:mid≠946):xQ 105 [.ref 951 0 0 0] (fun M=>M.Perm (l.map Prod.fst)) K:=by
 intro yv Hs hK h6 hcl hf hy0 hy1;have g1:∀ M,(Hs M).get 951=some (Q0 mid):=fun M=>hK M _ _ h1;have g2:∀ M,(Hs M).get mid=some (bJ l c):=fun M=>hK M _ _ h2;have g2':∀ o M,aA.get ((946,o)::Hs M) mid=some (bJ l c):=fun o M=>by rw [get_cons_other _ _ hm6];exact g2 M
 refine Bd func105 rfl ntmps105<|Sr<|Dd (by exact aW rfl bS rfl (g1 []) rfl rfl rfl)<|Dd (by exact B4 (q:=946) (κ:=fF) rfl aU rfl (g2 []) rfl rfl rfl (h6 []))<|Zz<|aO ?_;refine bM (σ:=List Nat) (fun s=>([(0,yv),(5,.it 946 0)],(946,D5 mid l c s)::Hs (pT l s))) (fun s=>s.Nodup∧∀ i,i∈s→i < l.length) (fun s=>l.length - s.length) [] ⟨List.nodup_nil,by simp⟩ ?_ ?_
 ·exact E0
 rintro s ⟨hd,hb⟩;have hsl:s.length≤l.length:=jW _ _ hd hb;refine Sq<|Rg ?_;refine iD rfl rfl (GZ (κ:=fF) (l:=bQ l) rfl rfl (get_cons_same _ _ _) rfl rfl (g2' _ _) rfl rfl rfl (YN _) (YN _)) ?_;rintro _ _ (⟨rfl,rfl,hn0⟩|⟨hni,hnp,hn1,hn2,rfl,rfl⟩)
 ·refine Dd dU<|Zz<|Sq ?_;refine Cn ?_ ?_<;>intro hc1
  ·cases hc1
  refine bI ?_;have hall:∀ i,i < l.length→i∈s:=fun i hi=>by
   have hq:(bQ l)[i]?=some ((l[i]).1,sv (l[i]).2.1,(l[i]).2.2):=by rw [bQ,Y1,YM hi];rfl
   have:=hn0 _ (YR hq);obtain ⟨j,hj,e⟩:=List.mem_map.1 this;have e2:jR l j=jR l i:=by
    rw [e,jR,YM hi];rfl
   have:=FN hst (hb j hj) hi e2
   rwa [this] at hj
  exact gP (H':=Hs (pT l s)) (.inl rfl) rfl (Fin.pops' [(946,D5 mid l c s)] (by simp) (hcl _) (by simp [h6]) (by simp [h6])) ⟨rfl,pT l s,OA hd (by rw [YH];exact hb) (by rw [YH];exact hall),rfl⟩
 obtain ⟨p,hp,rfl⟩:=tH hn1;have hlt:hni < l.length:=(YL.1 hp).1;have hst2:jR l hni=p.2.2:=by rw [jR,hp];rfl
 have hn3:hni∉s:=fun hm=>hn2 (List.mem_map.2 ⟨hni,hm,hst2⟩);have hb2:∀ i,i∈s++[hni]→i < l.length:=fun i hi=>by
  rcases List.mem_append.1 hi with h|h
  ·exact hb i h
  rw [YK] at h;omega
 have hd2:(s++[hni]).Nodup:=List.nodup_append.2 ⟨hd,by simp,fun a ha b hb e=>by rw [YK] at hb;subst hb;subst e;exact hn3 ha⟩;have hlen:=jW _ _ hd2 hb2;rw [YI,List.length_singleton] at hlen;have hit:D5 mid l c (s++[hni])=⟨0,0,0,dX (.mp mid 0) c c (s.map (jR l)++[p.2.2])⟩:=by rw [D5,List.map_append,List.map_cons,List.map_nil,hst2]
 have hyy:=hy1 (D5 mid l c (s++[hni])) (pT l s) p.1 (by rw [KP];omega);rw [← GA hp] at hyy;refine Dd dU<|Zz<|Sq ?_;refine Cn ?_ ?_<;>intro hc2
 ·refine aH<|aO<|Sr<|Dd (by exact B5 (κ:=fF) (seen:=s.map (jR l)) (p:=(p.1,sv p.2.1,p.2.2)) (since:=c) rfl rfl (get_cons_same _ _ _) rfl rfl ((get_cons_other _ _ hm6).trans (g2' _ _)) rfl rfl rfl hn1)<|Dd dU<|Dd aR<|Zz<|Sq ?_;refine fP.ent (E':=[(0,yv),(5,.it 946 0),(3,sv p.1)]) (H':=(946,D5 mid l c (s++[hni]))::Hs (pT l s)) (bY.get' ⟨⟨_,rfl,rfl⟩,⟨_,rfl,rfl⟩,⟨_,rfl,rfl⟩,trivial⟩ (fun j=>by rw [hit];exact gR 946 _ (D5 mid l c s) (Hs (pT l s)) j)) ?_;refine Rg<|Dd aF<|Dd aF<|Dd (by exact f0 rfl rfl rfl (hyy))<|Dd xX<|Zz ?_;refine Cn ?_ ?_<;>intro hc3
  ·cases hc3
  refine aH ?_;refine⟨s++[hni],⟨hd2,hb2⟩,by rw [YI,List.length_singleton];omega,?_⟩;exact E0
 cases hc2
theorem y8 (l:List ByteArray) (K:aA) (hl:l.length < 1099511627776) (h1:K.get 951=some (bx 1 31 [.pv (aX l)])):xQ 97 [.ref 951 0 0 0] (fun M=>M.Perm l) K:=by
 intro yv Hs hK h6 hcl hf hy0 hy1;have g1:∀ M,(Hs M).get 951=some (bx 1 31 [.pv (aX l)]):=fun M=>hK M _ _ h1;have hml:(l.map encStr).length=l.length:=YH _;refine Bd func97 rfl ntmps97<|Sr<|Dd (by exact aW rfl cD rfl (g1 []) rfl rfl rfl)<|Dd (mB aP)<|Dd aF<|Zz<|aO ?_;refine bM (σ:=Nat) (fun i=>([(0,yv),(5,.pv (aX l)),(6,iv ((l.map encStr).length:Int)),(7,iv (i:Int))],Hs (l.take i))) (fun i=>i≤l.length) (fun i=>l.length - i) 0 (YY _) ?_ ?_
 ·exact E0
 rintro i hi;refine Sr<|Dd dO<|Zz<|Sq ?_;refine Cn ?_ ?_<;>intro hc1
 ·have hlt:i < l.length:=by have:=YD hc1;omega
  obtain ⟨s,hs⟩:=aZ hlt;have his:=dM (f:=encStr) hs;have hyy:=hy0 (l.take i) s (by rw [YV];omega);rw [← dB hs] at hyy;refine aH<|Sq<|aO<|Sr<|Dd (CV b8)<|Dd (nL aV)<|Dd aR<|Zz<|Sr<|Dd aF<|Dd aF<|Dd (by exact f0 rfl rfl rfl (hyy))<|Dd xX<|Zz ?_;refine Cn ?_ ?_<;>intro hc2
  ·cases hc2
  refine aH<|Rg<|Dd mU<|Dd aF<|Zz ?_;exact⟨i+1,by omega,by omega,E0⟩
 have hge:i=l.length:=by have:=YE hc1;omega
 subst hge;refine bI ?_;exact gP (H':=Hs (l.take l.length)) (.inl rfl) rfl Fin.refl ⟨rfl,_,by rw [List.take_length],rfl⟩
theorem IT (mid:Nat) (H:aA) (h1:H.get 951=none) (hm:(H.get mid).isSome=true) :
  aJ Tryz.prog 55 [.mp mid 0] H (fun r H'=>r=.clo 105 [.ref 951 0 0 0]∧H'=(951,Q0 mid)::H):=by
 refine Bd func55 rfl ntmps55<|Sr<|Dd (by exact f7 (id:=951) rfl rfl rfl rfl h1)<|Dd aR<|Zz<|Sr<|Dd (by exact eO rfl rfl)<|Dd aR<|Zz<|aM ?_;refine a8 (H':=((951,Q0 mid)::H)) (.inr rfl) rfl (aG rfl) Fin.refl ?_;exact Qq
def dA:bT→ByteArray→ByteArray
 | [],_=>⟨#[]⟩
 | (k',v,_)::r,k=>if k'=k then v else dA r k
theorem BQ (k:ByteArray):∀ l:bT,(kY (EC (bQ l)) k).getD (sv ⟨#[]⟩)=sv (dA l k)
 | []=>rfl
 | (k',v,n)::r=>by
  show (if k'=k then some (sv v)else kY (EC (bQ r)) k).getD (sv ⟨#[]⟩)=sv (if k'=k then v else dA r k)
  split
  ·rfl
  exact BQ k r
theorem UE {P:Program} {N:Nat} {o:Oper} {E:bD} {H:aA} {T kt et:TypeId} {x y:Operand} {zv:Value} {id g:Nat} {ob:Ob} {l:bT} {k:ByteArray} (ho:o.op=.lookup T x y false) (hT:P.underlying T=some (.map kt et)) (hd:P.underlying kt=some .string) (hx:aN E x=some (.mp id g)) (hH:H.get id=some ob) (hg:ob.g=g)
  (hrows:ob.rows=e8 fF (bQ l)) (hy:aN E y=some (sv k)) (hz:∀ w,(zeroValue et).run P w=.ok zv w) (hv:ZV zv (sv ⟨#[]⟩)):bV P N o E H (sv (dA l k)) H:=by
 have h:=O2 (N:=N) (κ:=fF) ho hT hd hx hH hg hrows hy hz hv
 rwa [BQ] at h
theorem q7 (s u:ByteArray):∀ r∈([[.str s],[.str u]]:List (List PV)),r.length=1:=by intro r hr;simp only [YT,YX,or_false] at hr;rcases hr with rfl|rfl<;>rfl
def wZ (l:bT) (S:List ByteArray) (k:Nat):List ByteArray:=dE ((bQ l).length:Int)::(S.take k).flatMap fun x=>[x,dA l x]
theorem RG {l:bT} {S:List ByteArray} {k:Nat} {s:ByteArray} (h:S[k]?=some s):wZ l S (k+1)=wZ l S k++[s,dA l s]:=by rw [wZ,wZ,dB h,List.flatMap_append];rfl
theorem gB {α β:Type} (f g:α→β):∀ S:List α,(S.flatMap fun x=>[f x,g x]).length=2*S.length
 | []=>rfl
 | x::r=>by
  have h:=gB f g r;rw [List.flatMap_cons,YI,h];simp only [YJ,List.length_nil];omega
theorem NC {l:bT} {S:List ByteArray} {k:Nat} (h:k≤S.length):(wZ l S k).length=1+2*k:=by rw [wZ,YJ,gB,YV];omega
def cH (l:bT):List ByteArray:=cI (l.map Prod.fst)
def b9 (l:bT) (P:List ByteArray):List ByteArray:=(wZ l (cH l) (cH l).length++[dE ((P.map encStr).length:Int)])++P
def bB (l:bT) (P:List ByteArray):List UInt8:=aQ [ofL (aQ (b9 l P))]
theorem g9 (l:bT):(cH l).length=l.length:=by rw [cH,cI,YH,List.length_mergeSort,YH,YH]
theorem vJ (A B:List ByteArray):cM A++(B.map encStr).map (·.map AV.pv)=cM (A++B):=by rw [cM,cM,List.map_append,List.map_map];rfl
theorem vK (A B:List ByteArray):cM A++B.map (fun s=>[.pv (.str s)])=cM (A++B):=by rw [cM,cM,List.map_append]
abbrev tK (g:Nat) (W:List ByteArray) (l:bT) (c:Nat):aA:=[(951,Q0 950),(920,⟨g,1,9,cM W⟩),(950,bJ l c)]
theorem TZ (g:Nat) (W:List ByteArray) (l:bT) (c:Nat):bE (tK g W l c):=bE.of (fun p hp=>by
 simp only [YT,YX,or_false] at hp;rcases hp with rfl|rfl|rfl
 ·intro r hr x hx;simp only [bx,YK] at hr;subst hr;rw [YK] at hx;subst hx;exact .mp rfl
 ·exact fW _ _
 exact aS _ _ _)
theorem q8 {l:bT} {P:List ByteArray} {N:Nat} (h:(bB l P).length < N):(aQ (b9 l P)).length < N:=by
 have e:bB l P=(mY (ofL (aQ (b9 l P)))).data.toList:=by rw [bB,aQ,List.flatMap_cons,List.flatMap_nil,List.append_nil]
 rw [e,oB,lI,bR] at h;omega
theorem IX {W:List ByteArray} {g n:Nat} {H:aA} (hW:(aQ W).length < 35184372088832) (hH:H.get 920=some ⟨g,1,9,cM W⟩) (hn:n=W.length):aJ Tryz.prog 99 [.osl 920 g 0 n] H (fun x H'=>x=sv (ofL (aQ W))∧H'=H):=by subst hn;exact RO.calls (RO.lend (id:=920) (H1:=[]) (W.map encStr) (RO.of (kM W [] hW) rfl) hH (mE W) rfl (vB (.osl (kR encStr W)) G3) (fun _ _ h=>by cases h) (fun _ _ h=>by cases h) rfl)
theorem HV (l:bT) (c:Nat) (P:List ByteArray) (hst:dQ l c) (hl:l.length < 1099511627776) (hP:P.length < 1099511627776) (hsz:(bB l P).length < 35184372088832) :
  aJ Tryz.prog 50 [.mp 950 0,.pv (aX P)] [(950,bJ l c)] (fun r H'=>r=sv (ofL (bB l P))∧H'=[(950,bJ l c)]):=by
 have hsl:=g9 l;have hso:=A1 (L:=l.map Prod.fst) (by rw [YH];exact hl) XH (tK 0 [dE ((bQ l).length:Int)] l c) (IU 950 l c _ hl hst rfl rfl (by decide)) rfl rfl rfl rfl (TZ _ _ _ _) (by simp;rfl);have hin:=q8 hsz;have hgl:(bQ l).length=l.length:=YH _;have hml:((cH l).map encStr).length=(cH l).length:=YH _;have hpl:(P.map encStr).length=P.length:=YH _;change aJ _ _ _ _ fun r H'=>r=.pv (aX (cH l))∧H'=_ at hso;refine Bd func50 rfl ntmps50<|Sr<|Dd aR<|Zz<|Sr<|Dd aF<|Dd (by exact uL (κ:=fF) (l:=bQ l) rfl aU rfl rfl rfl rfl)<|Dd (by exact aB rfl rfl nX rfl (m8 ((bQ l).length:Int) (by omega) (by omega) _))<|Dd (by exact i7 (id:=920) rfl b8 rfl rfl rfl rfl (show ∀ r∈cM [dE ((bQ l).length:Int)],r.length=1 from by intro r hr;rw [YK.1 hr];rfl) rfl)<|Dd aR<|Zz<|Sq<|Sr<|Dd aF<|Dd (by exact aB rfl rfl XU rfl (IT 950 _ rfl rfl))<|Dd (by exact aB rfl rfl CP rfl (hso))<|Dd (mB aP)<|Dd aF<|Zz<|aO ?_;refine bM (σ:=Nat) (fun k=>([(0,.mp 950 0),(1,.pv (aX P)),(5,.osl 920 k 0 (1+2*k)),(14,.pv (aX (cH l))),(15,iv (((cH l).map encStr).length:Int)),(16,iv (k:Int))],tK k (wZ l (cH l) k) l c)) (fun k=>k≤(cH l).length) (fun k=>(cH l).length - k) 0 (YY _) ?_ ?_
 ·exact E0
 intro k hk;refine Sr<|Dd dO<|Zz<|Sq ?_;refine Cn ?_ ?_<;>intro hc1
 ·have hlt:k < (cH l).length:=by have:=YD hc1;omega
  obtain ⟨s,hs⟩:=aZ hlt;have hi:=dM (f:=encStr) hs;have hwl:=NC (l:=l) hk;refine aH<|Sq<|aO<|Sr<|Dd (CV b8)<|Dd (nL aV)<|Dd aR<|Zz<|Rg<|Dd aF<|Dd aF<|Dd aF<|Dd aF<|Dd (by exact UE (l:=l) (k:=s) rfl aU aK rfl rfl rfl rfl rfl eU (.inl rfl))<|Dd (by exact bF [[.str s],[.str (dA l s)]] rfl b8 rfl rfl rfl rfl rfl (q7 s (dA l s)))<|Dd (by exact fE (k:=1+2*(k+1)) (ps:=[[.str s],[.str (dA l s)]]) rfl b8 MW rfl rfl rfl rfl rfl ((fH _).trans hwl) rfl (q7 _ _) (m:=2) rfl (by omega) (by omega) (vK _ [s,dA l s]))<|Dd aR<|Zz<|Rg<|Dd mU<|Dd aF<|Zz ?_;refine⟨k+1,by omega,by omega,?_⟩;rw [RG hs];exact(bY.wk (Ea<|Eb<|Ea<|Eb<|Eb<|Eb<|trivial) (Ha<|Hc (fW _ _)<|Hc (aS _ _ _)<|trivial) ⟨rfl,trivial⟩)
 have hge:k=(cH l).length:=by have:=YE hc1;omega
 subst hge;have hwl:=NC (l:=l) (YN (cH l).length);refine bI<|Sr<|Dd aF<|Dd aF<|Dd (mB aP)<|Dd (by exact aB rfl rfl nX rfl (m8 ((P.map encStr).length:Int) (by omega) (by omega) _))<|Dd (by exact bF [[.str (dE ((P.map encStr).length:Int))]] rfl b8 rfl rfl rfl rfl rfl (by intro r hr;rw [YK] at hr;subst hr;rfl))<|Dd (by exact fE (ps:=[[.str (dE ((P.map encStr).length:Int))]]) rfl b8 MW rfl rfl rfl rfl rfl ((fH _).trans hwl) rfl (by intro r hr;rw [YK] at hr;subst hr;rfl) (m:=1) rfl (by omega) rfl (kJ _ _))<|Dd aR<|Zz<|Sr<|Dd aF<|Dd aF<|Dd (by exact fE (ps:=P.map encStr) rfl b8 MW rfl rfl rfl rfl rfl ((fH _).trans (by rw [YI,hwl];rfl)) rfl (by intro r hr;obtain ⟨q,_,rfl⟩:=List.mem_map.1 hr;rfl) (m:=P.length) hpl (by omega) rfl (vJ _ P))<|Dd (by exact aB rfl rfl nW rfl (IX (W:=b9 l P) hin rfl (by rw [b9,YI,YI,hwl];rfl))) ?_;refine Dd (by exact bF [[.str (ofL (aQ (b9 l P)))]] rfl b8 rfl rfl rfl rfl rfl (by intro r hr;rw [YK] at hr;subst hr;rfl))<|Dd (by exact aB rfl rfl nW rfl (kM [ofL (aQ (b9 l P))] _ hsz))<|Dd aR<|Zz<|aM ?_;refine a8 (H':=[(950,bJ l c)]) (.inr rfl) rfl (aG rfl) (Fin.wk (by(simp;done)) (Hc (aS _ _ _)<|trivial) ⟨rfl,trivial⟩) ?_;exact Qq
end Go.Proofs.YtmkgeogoojcciaaGreatDoor
namespace Go.Proofs.YtmkgeogoojcciaaGreatDoor
open Go.Proofs.Tryz
open Go.Abs Go.Lib
theorem UG (x y:Nat) (hx:x < 18446744073709551616) (hy:y < 18446744073709551616) (H:aA):aJ Tryz.prog 132 [uv x,uv y] H (fun r H'=>r=.tup [uv (x*y / 18446744073709551616),uv (x*y % 18446744073709551616)]∧H'=H):=by
 refine Pu ?_;refine Bd func132 rfl ntmps132<|Sr<|Dd aR<|Dd aR<|Zz<|Sq ?_;refine Cn ?_ ?_<;>intro hc1
 ·cases hc1
 exact aH<|Sr<|Dd aF<|Dd aF<|Dd (by exact aB rfl rfl XG rfl (wE x y hx hy _))<|Dd aF<|Dd dU<|Dd dU<|Dd aR<|Dd aR<|Zz<|Sr<|Dd aF<|Dd aF<|Dd aR<|Dd aR<|Zz<|aM<|Ru<|Qq
theorem xE (t:List UInt8) (ht:t.length < 1000000000000) (H:aA):aJ Tryz.prog 51 [sv (ofL t)] H (fun r H'=>r=iv (cN t:Int)∧H'=H):=by
 refine Pu ?_;have hs:(ofL t).size=t.length:=bR t;have hq:IntKind.i64.wrap ((((ofL t).size:Int)+46 - 1).tdiv 46)=(cN t:Int):=by
  rw [hs,Int.tdiv_eq_ediv_of_nonneg (by omega),iB (by omega) (by omega),cN];omega
 exact Bd func51 rfl ntmps51<|Sr<|Dd aR<|Zz<|Sr<|Dd aF<|Dd (yO aK)<|Dd mU<|Dd (by exact dS rfl rfl rfl (by exact iB (by omega) (by omega)))<|Dd (by exact m0 rfl rfl rfl (by decide) hq)<|Dd aR<|Zz<|aM<|Rt<|Qq
theorem Fin.st1 {H1:aA} {id g n:Nat} {ob:Ob} (l:List ByteArray) (hH:H1.get id=some ob) (hg:ob.g=g) (hps:ob.rows=cM l) (hn:n=l.length) :
  Fin [] H1 (.osl id g 0 n) [] (.pv (aX l)):=by
 subst hg hn;exact Fin.fz (id:=id) (ob:=ob) (l.map encStr) hH (hps.trans (mE l)) (.osl (kR encStr l)) rfl trivial trivial
def gO (z:ByteArray) (m n:Nat):List (List AV):=List.replicate m [sv z]++List.replicate (n - m) [sv sNil]
theorem LL {z:ByteArray} {m n:Nat} (h:m≤n):(gO z m n).length=n:=by rw [gO,YI,List.length_replicate,List.length_replicate];omega
theorem G5 {z:ByteArray} {m n j:Nat} (h:m≤n) (hj:j=min (n - m) m):(gO z m n).take m++(((gO z m n).take j)++(gO z m n).drop (m+j))=gO z (m+j) n:=by
 have hjm:j≤m:=by omega
 have h1:(gO z m n).take m=List.replicate m [sv z]:=by rw [gO,List.take_left' List.length_replicate]
 have h2:(gO z m n).take j=List.replicate j [sv z]:=by
  rw [gO,List.take_append_of_le_length (by rw [List.length_replicate];exact hjm),List.take_replicate,Nat.min_eq_left hjm]
 have h3:(gO z m n).drop (m+j)=List.replicate (n - (m+j)) [sv sNil]:=by
  rw [gO,← List.drop_drop,List.drop_left' List.length_replicate,List.drop_replicate,Nat.sub_sub]
 rw [h1,h2,h3,gO,← List.append_assoc,List.replicate_append_replicate]
theorem AF {H:aA} {z:ByteArray} {m n:Nat}:∀ r∈gO z m n,∀ a∈r,Clo H a:=by intro r hr a ha;rcases List.mem_append.1 hr with h|h<;>rw [List.eq_of_mem_replicate h,YK] at ha<;>subst ha<;>exact .pv _
theorem KI (z:ByteArray) (n:Nat) (hn:n < 100000) (H:aA):aJ Tryz.prog 106 [.pv (aX [z]),iv (n:Int)] H (fun r H'=>r=.pv (aX (List.replicate n z))∧H'=H):=by
 refine Pu ?_;have hmul:=fun H=>UG 1 n (by omega) (by omega) H;have e1:1*n / 18446744073709551616=0:=by omega
 have e2:1*n % 18446744073709551616=n:=by omega
 rw [e1,e2] at hmul;have hz0:((List.replicate n [sv sNil]:List (List AV))).take 0++((([[.str z]]:List (List PV)).take (min 1 n)).map (·.map .pv)++(List.replicate n [sv sNil]).drop (0+min 1 n))=gO z (min 1 n) n:=by
  rw [List.take_zero,List.nil_append,List.drop_replicate,gO,YZ];rcases(show min 1 n=0∨min 1 n=1 by omega)with e|e<;>rw [e]<;>rfl
 refine Bd func106 rfl ntmps106<|Sr<|Dd aR<|Zz<|Sq<|Sr<|Dd aF<|Dd dO<|Zz ?_;refine Cn ?_ ?_<;>intro hc1
 ·(have:=YD hc1;omega)
 refine aH<|Sr<|Dd aF<|Dd (mB aP)<|Dd (by exact cS rfl bL d7 rfl (show IntKind.u64.wrap (1:Int)=1 by rfl))<|Dd aF<|Dd (by exact cS rfl bL d7 rfl (show IntKind.u64.wrap (n:Int)=(n:Int)by rw [IntKind.wrap_u64];omega))<|Dd (by exact aB rfl rfl call132 rfl (hmul _))<|Dd aF<|Dd dU<|Dd dU<|Dd aR<|Dd aR<|Zz<|Sq<|Sq ?_;refine cR (t:=26) (n:=7) (X:=false) ?_ ?_
 ·all_goals refine Dd aF ?_
  all_goals refine Dd yR<|Dm ?_
  all_goals refine Sp 23 (fun h23=>?_) fun h23=>?_
  all_goals try contradiction
  all_goals refine On aF<|On yR<|Dd fN<|Zz ?_
  all_goals(exact⟨⟨_,rfl,by simp;omega⟩,rfl,rfl,rfl⟩)
 refine Cn ?_ ?_<;>intro hc2
 ·cases hc2
 refine aH<|Sr<|Dd aF<|Dd (by exact cS rfl d7 bL rfl (iB (by omega) (by omega)))<|Dd (by exact jO (id:=960) rfl b8 MW XJ rfl rfl rfl (by omega) (by omega) (by exact YS _) (by exact YS _) (by omega) rfl)<|Dd aR<|Zz<|Sr<|Dd aF<|Dd aF<|Dd (by exact M7 (n:=min 1 n) rfl b8 (w8 rfl rfl rfl) rfl rfl rfl (YY _) (J3 (len:=1) (ps:=[[.str z]]) (k:=min 1 n) rfl (by decide) (by intro r hr;rw [YK] at hr;subst hr;rfl) rfl (by omega) rfl) (by intro r hr;obtain ⟨q,hq,rfl⟩:=List.mem_map.1 hr;have:=List.mem_of_mem_take hq;rw [YK] at this;subst this;rfl) (by rw [YH,YV];show min (min 1 n) 1=min 1 n;omega) rfl hz0)<|Dd aR<|Zz<|Sq<|aO ?_;refine bM (σ:=Nat) (fun m=>([(7,.osl 960 0 0 n),(8,iv (m:Int))],[(960,⟨0,1,9,gO z m n⟩)])) (fun m=>m≤n∧(n=0∨0 < m)) (fun m=>n - m) (min 1 n) ⟨by omega,by omega⟩ ?_ ?_
 ·exact(bY.wk (Ea<|Eb<|trivial) (Hc AF<|trivial) trivial)
 rintro m ⟨hm,hm0⟩;refine Sq<|Sr<|Dd aF<|Dd aF<|Dd (by exact cW rfl aP rfl rfl rfl)<|Dd dO<|Zz ?_;refine Cn ?_ ?_<;>intro hc3
 ·have hlt:m < n:=by have:=YD hc3;omega
  obtain ⟨j,hj⟩:∃ j,j=min m (n - m):=⟨_,rfl⟩;have hrows:=G5 (z:=z) (j:=j) hm (by omega);have hrl:∀ r∈(gO z m n).take j,r.length=1:=fun r hr=>by
   have:=List.mem_of_mem_take hr;rcases List.mem_append.1 this with h|h<;>rw [List.eq_of_mem_replicate h]<;>rfl
  have hfl:=LL (z:=z) hm;refine aH<|aO<|bO follows<|Cr [] (fun _ _=>aF)<|Cr [960] (fun _ _=>aF)<|Cr [] (fun _ _=>aF)<|Cr [960] (fun H1 hH=>by exact eY (l:=m) (h:=n) rfl b8 rfl ((hH 960 rfl).trans rfl) rfl rfl rfl rfl (by omega) (YN _) (YZ _) rfl)<|Cr [960] (fun _ _=>aF)<|Cr [] (fun _ _=>aF)<|Cr [960] (fun H1 hH=>by exact eY (l:=0) (h:=m) rfl b8 rfl ((hH 960 rfl).trans rfl) rfl rfl rfl rfl (YY _) (by omega) rfl rfl)<|Cp [960] (fun H1 hH=>by exact M7 (n:=j) rfl b8 (w8 rfl ((hH 960 rfl).trans rfl) rfl) ((hH 960 rfl).trans rfl) rfl rfl (by rw [hfl];omega) (FO (k:=j) rfl ((hH 960 rfl).trans rfl) rfl rfl (by omega) rfl) hrl (by rw [YV];show min j (gO z m n).length=j;rw [hfl];omega) hj.symm hrows)<|Cr [960] (fun _ _=>mU)<|Cr [] (fun _ _=>aR)<|cU<|Kr ?_;refine⟨m+j,⟨by omega,by omega⟩,by omega,?_⟩;exact(bY.wk (Ea<|Eb<|trivial) (Hc AF<|trivial) trivial)
 have hge:m=n:=by have:=YE hc3;omega
 subst hge;have hfin:gO z m m=cM (List.replicate m z):=by rw [gO,Nat.sub_self,List.replicate_zero,List.append_nil,cM,List.map_replicate]
 refine bI<|Sr<|Dd aF<|Dd aR<|Zz<|aM ?_;refine a8 (H':=[]) (.inr rfl) rfl (aG rfl) (Fin.st1 (List.replicate m z) rfl rfl hfin (List.length_replicate).symm) ?_;exact Qq
theorem ES {d:DSt} {N m:Nat} (h:DInv d N m) (k a n ar fr:Nat) (b:Bool) (l:List (ByteArray×ByteArray×Nat)) (c:Nat) (hk:k < 5000) (har:ar < 2) (hfr:fr≤k) (hm:m+k < 1048576) :
  aJ Tryz.prog 56 [.ref 1100 0 0 0,iv (ar:Int),iv (fr:Int)] (sH d (b4 k a n b) (bJ l c)) (fun r H'=>r=iv (iT d (2+ar*k+fr) (List.replicate (k - fr) zS)).1∧H'=sH (iT d (2+ar*k+fr) (List.replicate (k - fr) zS)).2 (b4 k a n (b||!decide ((iT d (2+ar*k+fr) (List.replicate (k - fr) zS)).1=0))) (bJ l c)):=by
 have hark:ar*k≤k:=by
  rcases(show ar=0∨ar=1 by omega)with e|e<;>subst e<;>omega
 have hpl:=vX d k a n ar fr b l c (by omega) (by omega) (by omega);have hw:=mC h k a n (2+ar*k+fr) b l c (List.replicate (k - fr) zS) (by rw [List.length_replicate];omega) (by omega);have hrp:=fun H=>KI zS (k - fr) (by omega) H;obtain ⟨x,hx⟩:∃ x,x=iT d (2+ar*k+fr) (List.replicate (k - fr) zS):=⟨_,rfl⟩;rw [← hx] at hw ⊢;refine Bd func56 rfl ntmps56<|Sr<|Dd aR<|Zz<|Sq<|bO follows<|Cr [1100] (fun _ _=>aF)<|Cr [1100] (fun _ _=>aF)<|Cr [] (fun _ _=>aF)<|Cr [] (fun _ _=>aF)<|Cr [1000,1001,1002,1003,1100,1101] (fun H1 hH=>by exact aB rfl rfl XT rfl (jA hpl _ ⟨(hH 1000 rfl).trans rfl,(hH 1001 rfl).trans rfl,(hH 1002 rfl).trans rfl,(hH 1003 rfl).trans rfl,(hH 1100 rfl).trans rfl,(hH 1101 rfl).trans rfl,trivial⟩ (by simp;rfl)))<|Cr [] (fun H1 hH=>by exact aB rfl rfl nZ rfl (nF _))<|Cr [] (fun H1 hH=>by exact bF [[.str zS]] rfl b8 rfl rfl rfl rfl rfl (by simp))<|Cr [1100] (fun _ _=>aF)<|Cr [1100] (fun H1 hH=>by exact bN rfl rfl ((hH _ rfl).trans rfl) rfl)<|Cr [1100] (fun _ h=>fh qO h)<|Cr [1100] (fun _ h=>lh aT h)<|Cr [] (fun _ _=>aF)<|Cr [] (fun H1 hH=>by exact dS rfl rfl rfl (show IntKind.i64.wrap ((k:Int) - (fr:Int))=((k - fr:Nat):Int)by rw [iB (by omega) (by omega)];omega)) ?_;refine Cr [] (fun H1 hH=>by exact aB rfl rfl call106 rfl (hrp _)) ?_;refine b5 (r:=⟨_,some [1000,1001,1002,1003,1100,1101],_⟩) (DStep.plain rfl (fun H1 hH=>by exact aB rfl rfl nY rfl (fR hw _ ⟨(hH 1000 rfl).trans rfl,(hH 1001 rfl).trans rfl,(hH 1002 rfl).trans rfl,(hH 1003 rfl).trans rfl,(hH 1100 rfl).trans rfl,(hH 1101 rfl).trans rfl,trivial⟩ (by simp;rfl)))) rfl ?_;refine Cr [1100] (fun _ _=>aR)<|cU<|Kr<|aM ?_;refine a8 (H':=(sH x.2 (b4 k a n (b||!decide (x.1=0))) (bJ l c))) (.inr rfl) rfl (aG rfl) (Fin.wk (by(simp;done)) (Hc (aE _ _ rfl rfl rfl)<|Hc (aC _ _)<|Hc (aL _ _ _)<|Hc (aI _ _)<|Hc (bC rfl rfl)<|Hc (aS _ _ _)<|trivial) ⟨rfl,rfl,rfl,rfl,rfl,rfl,trivial⟩) ?_;exact Qq
end Go.Proofs.YtmkgeogoojcciaaGreatDoor
namespace Go.Abs
section
section
variable {P:Program} {N:Nat} {o:Oper} {E:bD} {H:aA} {T kt et:TypeId} {x:Operand} {q gq:Nat} {oq:Ob}
theorem wC {w:World} {I:Nat→Prop} {ι:b6} {v:Value} (h:VRel w I ι H v (.pv .nilm)):v=.map none:=by cases h.pv_inv;rfl
theorem TO (ho:o.op=.call {callee:=.builtin .len,args:=#[x],argTypes:=#[T]}) (hT:P.underlying T=some (.map kt et)) (hx:aN E x=some (.pv .nilm)):bV P N o E H (.pv (.int .i64 0)) H :=.of_run fun a w I ι hr he=>by
  have hv:=wC (aD he hx);refine⟨.int .i64 0,?_,.pv (.int _ _)⟩;simp [execOp,ho,resolve,invoke,builtin,hv,Builtin.len_,run_underlying hT,goInt]
theorem BL (ho:o.op=.range T x) (hT:P.underlying T=some (.map kt et)) (hx:aN E x=some (.pv .nilm)) (hq:H.get q=none) :
  bV P N o E H (.it q 0) ((q,⟨0,0,0,dX (.pv .nilm) 0 0 []⟩)::H):=by
 intro a w I ι _ _ hr he K Q hk;have hvx0:=aD he hx;have hvx:=wC hvx0;obtain ⟨k2,k3⟩:=Rel.placeX (H':=(q,⟨0,0,0,dX (.pv .nilm) 0 0 []⟩)::H) (id:=q) (cap:=1) (ob':=⟨0,0,0,dX (.pv .nilm) 0 0 []⟩) (x:=.mapIter none 0 #[] 0) (w':=w.alloc (.mapIter none 0 #[] 0)) hr rfl rfl rfl rfl
  (fun o ho=>by rw [hq] at ho;cases ho) (fun hnew hI hmono=>.inr (.inr (.inl ⟨rfl,w.heap.size,none,0,#[],0,by simp,hnew,hI,rfl,⟨_,_,_,rfl,.pv .nilm,.pv (.int _ _),.pv (.int _ _)⟩,fun i r hr'=>by simp [dX] at hr'⟩)))
  (get_cons_same _ _ _) (fun j hj=>get_cons_other _ _ hj)
 have hrun:(execOp a.eval o).run P w=.ok (.value (.pointer (some ⟨w.heap.size,0,none⟩))) (w.alloc (.mapIter none 0 #[] 0)):=by
  simp only [execOp,ho,hvx];simp [Instr.range,run_underlying hT]
 unfold Oper.wpW;rw [hrun];exact hk _ _ I _ _ _ ⟨rfl,rfl⟩ (.it ⟨0,0,0,dX (.pv .nilm) 0 0 []⟩ (get_cons_same _ _ _) (YN _) rfl fun _=>⟨rfl,w.heap.size,by simp,rfl⟩) k2 k3
theorem GP (ho:o.op=.next x false) (hx:aN E x=some (.it q gq)) (hQ:H.get q=some oq) (hgq:oq.g=gq) (hrq:oq.rows=dX (.pv .nilm) 0 0 []) :
  MY P N o E H (fun r H'=>(r=.tup [.pv (.bool false)]∧H'=H∧True)∨∃ (i:Nat) (p:Nat),False∧True∧r=.tup [.pv (.bool true)]∧H'=H):=by
 intro a w I ι _ _ hr he K Q hk;obtain ⟨hsz,b,hι,hvx⟩:=GU (aD he hx) hQ hgq;obtain ⟨_,b',bm,since',seen',last',e1,e2,e3,e4,⟨m,n,k,z1,z2,z3,z4⟩,e6⟩:=(hr.obj q oq hQ).iter hsz hι;rw [hι] at e1;cases e1;rw [hrq] at z1;simp only [dX,List.getElem?_cons_zero,Option.some.injEq,List.cons.injEq,and_true] at z1;obtain ⟨rfl,rfl,rfl⟩:=z1;have hbm:=wC z2;cases hbm;have hrun:(Instr.next (.pointer (some ⟨b,0,none⟩)) false o.type).run P w=.ok (.tuple #[.bool false]) w:=by
  simp only [Instr.next,getObj,Sem.run_bind,Sem.run,e2,Result.andThen];rfl
 unfold Oper.wpW execOp;simp only [ho,hvx,Sem.run_bind,hrun,Result.andThen_ok,Sem.run_pure];refine hk _ _ I ι _ _ (.inl ⟨rfl,rfl,trivial⟩) (.tup rfl (fun i v c hv hc=>?_)) hr (Step.refl _ _ _ _)
 match i with
 | 0=>simp at hv hc;subst hv hc;exact .pv (.bool _)
 | i+1=>simp at hv
end
section
variable {ρ:Nat→Nat} (hρ:∀ i,ρ (ρ i)=i)
include hρ
theorem aJ.renQ {P:Program} {f:FuncId} {args args':List AV} {H H':aA} {R:AV→aA→Prop} (h:aJ P f args H R) (ha:gV ρ args=args') (hH:iU ρ H=H') :
  aJ P f args' H' (fun x K=>∃ x0 K0,R x0 K0∧x=fY ρ x0∧K=iU ρ K0):=by
 subst ha hH;intro I ι w vs hrel hl hv;have hrel':=hrel.ren hρ;rw [oZ hρ] at hrel';have hl':vs.size=args.length:=by rw [hl,eN,YH]
 refine(h I _ w vs hrel' hl' (fun i v a h1 h2=>?_)).mono ?_
 ·have:=(hv i v (fY ρ a) h1 (by rw [eN,Y1,h2];rfl)).ren hρ
  rwa [oZ hρ,(s7 hρ [a]).2 a (by simp)] at this
 rintro e w' ⟨x,K,I',ι',v,rfl,hR,k1,k2,k3⟩;have k3':=k3.ren hρ;have e1:(fun j=>(fun j=>ι (ρ j)) (ρ j))=ι:=by funext j;simp only [hρ]
 rw [e1] at k3';exact⟨_,_,I',_,v,rfl,⟨_,_,hR,rfl,rfl⟩,k1.ren hρ,k2.ren hρ,k3'⟩
end
end
end Go.Abs
namespace Go.Proofs.YtmkgeogoojcciaaGreatDoor
open Go.Proofs.Tryz
open Go.Abs
def cT:bT→ByteArray→Option ByteArray
 | [],_=>none
 | (k',v,_)::r,k=>if k'=k then some v else cT r k
theorem lL (k:ByteArray):∀ l:bT,dA l k=(cT l k).getD ⟨#[]⟩
 | []=>rfl
 | (k',v,n)::r=>by
  rw [dA,cT]
  split
  ·rfl
  exact lL k r
def gF:bT→ByteArray→ByteArray→Nat→bT
 | [],k,v,c=>[(k,v,c)]
 | (k',a,n)::r,k,v,c=>if k'=k then(k,v,n)::r else(k',a,n)::gF r k v c
def qL:bT→ByteArray→bT
 | [],_=>[]
 | (k',a,n)::r,k=>if k'=k then r else(k',a,n)::qL r k
def m6 (l:bT) (k:ByteArray) (c:Nat):Nat:=if(cT l k).isSome then c else c+1
theorem pG (k v:ByteArray) (c:Nat):∀ l:bT,r6 (bQ l) k (sv v) c=bQ (gF l k v c)
 | []=>rfl
 | (k',a,n)::r=>by
  show (if k'=k then(k,sv v,n)::bQ r else(k',sv a,n)::r6 (bQ r) k (sv v) c)=bQ (gF ((k',a,n)::r) k v c);rw [gF]
  split
  ·rfl
  rw [pG k v c r];rfl
theorem B3 (k:ByteArray):∀ l:bT,sA (bQ l) k=bQ (qL l k)
 | []=>rfl
 | (k',a,n)::r=>by
  show (if k'=k then bQ r else(k',sv a,n)::sA (bQ r) k)=bQ (qL ((k',a,n)::r) k);rw [qL]
  split
  ·rfl
  rw [B3 k r];rfl
theorem tG (k:ByteArray):∀ l:bT,(kY (EC (bQ l)) k).isSome=(cT l k).isSome
 | []=>rfl
 | (k',a,n)::r=>by
  show (if k'=k then some (sv a)else kY (EC (bQ r)) k).isSome=(if k'=k then some a else cT r k).isSome
  split
  ·rfl
  exact tG k r
theorem sB (k:ByteArray) (c:Nat) (l:bT):wU (bQ l) k c=m6 l k c:=by rw [wU,m6,tG]
theorem vA (k v:ByteArray) (c:Nat) (k2:ByteArray):∀ l:bT,cT (gF l k v c) k2=if k=k2 then some v else cT l k2
 | []=>rfl
 | (k',a,n)::r=>by
  rw [gF];by_cases h:k'=k
  ·rw [YG h,cT,cT];subst h;by_cases h2:k'=k2
   ·rw [YG h2,YG h2]
   rw [YF h2,YF h2,YF h2]
  rw [YF h,cT,cT,vA k v c k2 r];by_cases h2:k'=k2
  ·rw [YG h2,YG h2,YF (fun e=>h (h2.trans e.symm))]
  rw [YF h2,YF h2]
def fD (l:bT):Prop:=(l.map Prod.fst).Nodup
theorem gN {k:ByteArray}:∀ {l:bT},cT l k=none↔k∉l.map Prod.fst
 | []=>by simp [cT]
 | (k',a,n)::r=>by
  rw [cT,List.map_cons,YT,not_or];by_cases h:k'=k
  ·rw [YG h];exact⟨(fun h=>by cases h),fun h2=>absurd h.symm h2.1⟩
  rw [YF h,gN];exact⟨fun h2=>⟨fun e=>h e.symm,h2⟩,fun h2=>h2.2⟩
theorem pE (k v:ByteArray) (c:Nat):∀ l:bT,(gF l k v c).map Prod.fst=if(cT l k).isSome then l.map Prod.fst else l.map Prod.fst++[k]
 | []=>rfl
 | (k',a,n)::r=>by
  rw [gF,cT];by_cases h:k'=k
  ·rw [YG h,YG h];subst h;rfl
  rw [YF h,YF h,List.map_cons,pE k v c r];cases (cT r k).isSome<;>rfl
theorem BW {l:bT} (h:fD l) (k v:ByteArray) (c:Nat):fD (gF l k v c):=by
 rw [fD,pE];cases e:cT l k with
 | some x=>exact h
 | none =>
  have hn:=gN.1 e;exact List.nodup_append.2 ⟨h,by simp,fun a ha b hb e2=>by rw [YK] at hb;subst hb;subst e2;exact hn ha⟩
theorem D1 (k v:ByteArray) (c:Nat):∀ l:bT,(gF l k v c).map (fun p=>p.2.2)=if(cT l k).isSome then l.map (fun p=>p.2.2)else l.map (fun p=>p.2.2)++[c]
 | []=>rfl
 | (k',a,n)::r=>by
  rw [gF,cT];by_cases h:k'=k
  ·rw [YG h,YG h];rfl
  rw [YF h,YF h,List.map_cons,D1 k v c r];cases (cT r k).isSome<;>rfl
theorem NL {l:bT} {c:Nat}:dQ l c↔(l.map fun p=>p.2.2).Pairwise (· < ·)∧∀ n∈l.map (fun p=>p.2.2),n < c:=by rw [dQ];refine and_congr_right fun _=>⟨fun h n hn=>?_,fun h p hp=>h _ (List.mem_map.2 ⟨p,hp,rfl⟩)⟩;obtain ⟨p,hp,rfl⟩:=List.mem_map.1 hn;exact h p hp
theorem BV {l:bT} {c:Nat} (h:dQ l c) (k v:ByteArray):dQ (gF l k v c) (m6 l k c):=by
 rw [NL,D1,m6];have h:=NL.1 h;cases cT l k with
 | some x=>exact h
 | none =>
  refine⟨List.pairwise_append.2 ⟨h.1,by simp,fun a ha b hb=>by rw [YK] at hb;subst hb;exact h.2 a ha⟩,fun n hn=>?_⟩;show n < c+1;rcases List.mem_append.1 hn with h1|h1
  ·have:=h.2 n h1;omega
  rw [YK] at h1;omega
theorem oJ (k:ByteArray):∀ l:bT,(qL l k).Sublist l
 | []=>.slnil
 | (k',a,n)::r=>by
  rw [qL]
  split
  ·exact List.sublist_cons_self _ _
  exact(oJ k r).cons_cons _
theorem IW {l:bT} (h:fD l) (k:ByteArray):fD (qL l k):=h.sublist ((oJ k l).map _)
theorem SD {l:bT} {c:Nat} (h:dQ l c) (k:ByteArray):dQ (qL l k) c:=⟨h.1.sublist ((oJ k l).map _),fun p hp=>h.2 p ((oJ k l).subset hp)⟩
theorem IS (k k2:ByteArray):∀ {l:bT},fD l→cT (qL l k) k2=if k=k2 then none else cT l k2
 | [],_=>by rw [qL,cT];split<;>rfl
 | (k',a,n)::r,hnd=>by
  have hn:k'∉r.map Prod.fst∧fD r:=List.nodup_cons.1 hnd;rw [qL];by_cases h:k'=k
  ·subst h;rw [YG rfl,cT];by_cases h2:k'=k2
   ·subst h2;rw [YG rfl];exact gN.2 hn.1
   rw [YF h2,YF h2]
  rw [YF h,cT,cT,IS k k2 hn.2];by_cases h2:k'=k2
  ·rw [YG h2,YG h2,YF (fun e=>h (h2.trans e.symm))]
  rw [YF h2,YF h2]
def fK:bT→Nat→bT→bT×Nat
 | l,c,[]=>(l,c)
 | l,c,(k,v,_)::r=>fK (gF l k v c) (m6 l k c) r
theorem zM (k v:ByteArray) (n:Nat):∀ (ps l:bT) (c:Nat),fK l c (ps++[(k,v,n)])=(gF (fK l c ps).1 k v (fK l c ps).2,m6 (fK l c ps).1 k (fK l c ps).2)
 | [],l,c=>rfl
 | (k',a,m)::r,l,c=>zM k v n r _ _
theorem IE:∀ (ps l:bT) (c:Nat),dQ l c→fD l→dQ (fK l c ps).1 (fK l c ps).2∧fD (fK l c ps).1
 | [],l,c,h1,h2=>⟨h1,h2⟩
 | (k,v,n)::r,l,c,h1,h2=>IE r _ _ (BV h1 k v) (BW h2 k v c)
theorem N7 (k2:ByteArray):∀ (ps l:bT) (c:Nat),fD ps→cT (fK l c ps).1 k2=(cT ps k2).orElse fun _=>cT l k2
 | [],l,c,_=>rfl
 | (k,v,n)::r,l,c,h=>by
  have hn:k∉r.map Prod.fst∧fD r:=List.nodup_cons.1 h;show cT (fK (gF l k v c) (m6 l k c) r).1 k2=_;rw [N7 k2 r _ _ hn.2,vA,cT];by_cases h2:k=k2
  ·subst h2;rw [YG rfl,YG rfl,gN.2 hn.1];rfl
  rw [YF h2,YF h2]
theorem OP {a b:bT} (h:a.Perm b) (k:ByteArray):fD a→cT a k=cT b k:=by
 induction h with
 | nil=>exact fun _=>rfl
 | cons x h ih =>
  obtain ⟨k',v,n⟩:=x;intro hn;rw [cT,cT,ih (List.nodup_cons.1 hn).2]
 | swap x y l =>
  obtain ⟨k1,v1,n1⟩:=x;obtain ⟨k2,v2,n2⟩:=y;intro hn;rw [cT,cT,cT,cT];by_cases e1:k2=k
  ·by_cases e2:k1=k
   ·exact absurd (e1.trans e2.symm) (by have:=(List.nodup_cons.1 hn).1;intro e;subst e;exact this (YT.2 (.inl rfl)))
   rw [YG e1,YF e2,YG e1]
  rw [YF e1,YF e1]
 | trans h1 h2 ih1 ih2=>exact fun hn=>(ih1 hn).trans (ih2 ((h1.map _).nodup_iff.1 hn))
def gE (l:bT) (s:List Nat):bT:=s.filterMap fun i=>l[i]?
theorem uI {l:bT} {s:List Nat} {i:Nat} {p:ByteArray×ByteArray×Nat} (h:l[i]?=some p):gE l (s++[i])=gE l s++[p]:=by rw [gE,gE,List.filterMap_append,List.filterMap_cons,h];rfl
theorem A9:∀ l:bT,gE l (List.range l.length)=l:=fun l=>by
 refine List.ext_getElem? fun i=>?_;have h:∀ n,n≤l.length→gE l (List.range n)=l.take n:=by
  intro n
  induction n with
  | zero=>intro _;rfl
  | succ n ih =>
   intro hn;rw [List.range_succ,uI (YM (show n < l.length by omega)),ih (by omega),List.take_add_one,YM (show n < l.length by omega)];rfl
 rw [h _ (YN _),List.take_length]
theorem GB {l:bT} {s:List Nat} (hd:s.Nodup) (hb:∀ i,i∈s→i < l.length) (ha:∀ i,i < l.length→i∈s):(gE l s).Perm l:=by have hp:s.Perm (List.range l.length):=(List.perm_ext_iff_of_nodup hd List.nodup_range).2 fun i=>⟨fun h=>List.mem_range.2 (hb i h),fun h=>ha i (List.mem_range.1 h)⟩;have:=hp.filterMap (fun i=>l[i]?);rw [show (List.range l.length).filterMap (fun i=>l[i]?)=l from A9 l] at this;exact this
theorem wT {id:Nat} {o:Ob} {H:aA} (h:H.get id=some o) (j:Nat):aA.get ((id,o)::H) j=H.get j:=by
 by_cases e:j=id
 ·subst e;rw [h];exact get_cons_same _ _ _
 exact get_cons_other _ _ e
abbrev pO (l:bT) (c:Nat) (ps:bT):Ob:=bJ (fK l c ps).1 (fK l c ps).2
theorem WA (l l2:bT) (c c2:Nat) (H:aA) (hl2:l2.length < 1099511627776) (hst:dQ l2 c2) (h0:H.get 1101=some (bJ l c)) (h1:H.get 950=some (bJ l2 c2)) (h6:H.get 946=none) (hcl:bE H) :
  aJ Tryz.prog 104 [.mp 1101 0,.mp 950 0] H (fun r H'=>r=.tup []∧∃ ps,ps.Perm l2∧H'=(1101,pO l c ps)::H):=by
 have g1:∀ o o2,aA.get ((946,o)::(1101,o2)::H) 950=some (bJ l2 c2):=fun o o2=>by rw [get_cons_other _ _ (by decide),get_cons_other _ _ (by decide)];exact h1
 have g2:∀ o o2,aA.get ((946,o)::(1101,o2)::H) 1101=some o2:=fun o o2=>by rw [get_cons_other _ _ (by decide)];exact get_cons_same _ _ _
 refine Bd func104 rfl ntmps104<|Sr<|Dd aF<|Dd (by exact B4 (q:=946) (κ:=fF) (l:=bQ l2) rfl aU rfl h1 rfl rfl rfl h6)<|Zz<|aO ?_;refine bM (σ:=List Nat) (fun s=>([(0,.mp 1101 0),(7,.it 946 0)],(946,D5 950 l2 c2 s)::(1101,pO l c (gE l2 s))::H)) (fun s=>s.Nodup∧∀ i,i∈s→i < l2.length) (fun s=>l2.length - s.length) [] ⟨List.nodup_nil,by simp⟩ ?_ ?_
 ·exact bY.get' ⟨⟨_,rfl,rfl⟩,⟨_,rfl,rfl⟩,trivial⟩ (fun j=>by
   by_cases e:j=946
   ·subst e;rw [get_cons_same];exact(get_cons_same _ _ _).symm
   rw [get_cons_other _ _ e,get_cons_other _ _ e];exact wT h0 j)
 rintro s ⟨hd,hb⟩;have hsl:s.length≤l2.length:=jW _ _ hd hb;refine Sq<|Rg ?_;refine iD rfl rfl (GZ (κ:=fF) (l:=bQ l2) rfl rfl (get_cons_same _ _ _) rfl rfl (g1 _ _) rfl rfl rfl (YN _) (YN _)) ?_;rintro _ _ (⟨rfl,rfl,hn0⟩|⟨hni,hnp,hn1,hn2,rfl,rfl⟩)
 ·refine Dd dU<|Zz<|Sq ?_;refine Cn ?_ ?_<;>intro hc1
  ·cases hc1
  refine bI ?_;have hall:∀ i,i < l2.length→i∈s:=fun i hi=>by
   have hq:(bQ l2)[i]?=some ((l2[i]).1,sv (l2[i]).2.1,(l2[i]).2.2):=by rw [bQ,Y1,YM hi];rfl
   have:=hn0 _ (YR hq);obtain ⟨j,hj,e⟩:=List.mem_map.1 this;have e2:jR l2 j=jR l2 i:=by
    rw [e,jR,YM hi];rfl
   have:=FN hst (hb j hj) hi e2
   rwa [this] at hj
  exact gP (H':=(1101,pO l c (gE l2 s))::H) (.inl rfl) rfl (Fin.pops' [(946,D5 950 l2 c2 s)] (by simp) (bE.app (D:=[(1101,pO l c (gE l2 s))]) (kI.spec ⟨aS _ _ _,trivial⟩) hcl) (by simp [get_cons_other,h6]) (by simp [get_cons_other,h6])) ⟨rfl,_,GB hd hb hall,rfl⟩
 obtain ⟨p,hp,rfl⟩:=tH hn1;have hlt:hni < l2.length:=(YL.1 hp).1;have hst2:jR l2 hni=p.2.2:=by rw [jR,hp];rfl
 have hn3:hni∉s:=fun hm=>hn2 (List.mem_map.2 ⟨hni,hm,hst2⟩);have hb2:∀ i,i∈s++[hni]→i < l2.length:=fun i hi=>by
  rcases List.mem_append.1 hi with h|h
  ·exact hb i h
  rw [YK] at h;omega
 have hd2:(s++[hni]).Nodup:=List.nodup_append.2 ⟨hd,by simp,fun a ha b hb e=>by rw [YK] at hb;subst hb;subst e;exact hn3 ha⟩;have hlen:=jW _ _ hd2 hb2;rw [YI,List.length_singleton] at hlen;have hit:D5 950 l2 c2 (s++[hni])=⟨0,0,0,dX (.mp 950 0) c2 c2 (s.map (jR l2)++[p.2.2])⟩:=by rw [D5,List.map_append,List.map_cons,List.map_nil,hst2]
 have hpk:pO l c (gE l2 (s++[hni]))=⟨0,0,m6 (fK l c (gE l2 s)).1 p.1 (fK l c (gE l2 s)).2,e8 fF (bQ (gF (fK l c (gE l2 s)).1 p.1 p.2.1 (fK l c (gE l2 s)).2))⟩:=by rw [pO,uI hp,zM]
 refine Dd dU<|Zz<|Sq ?_;refine Cn ?_ ?_<;>intro hc2
 ·refine aH<|aO<|Sr<|Dd (by exact B5 (κ:=fF) (seen:=s.map (jR l2)) (p:=(p.1,sv p.2.1,p.2.2)) (since:=c2) rfl rfl (get_cons_same _ _ _) rfl rfl ((get_cons_other _ _ (by decide)).trans (g1 _ _)) rfl rfl rfl hn1)<|Dd dU<|Dd dU<|Dd aR<|Dd aR<|Zz<|Rg<|Dd aF<|Dd aF<|Dd aF<|Uu (by exact jX (κ:=fF) (l:=bQ (fK l c (gE l2 s)).1) (.inl rfl) aU aK rfl ((get_cons_other _ _ (by decide)).trans (g2 _ _)) rfl rfl rfl rfl rfl (pG _ _ _ _) (sB _ _ _))<|Zz ?_;refine⟨s++[hni],⟨hd2,hb2⟩,by rw [YI,List.length_singleton];omega,?_⟩;rw [hit,hpk];exact bY.get' ⟨⟨_,rfl,rfl⟩,⟨_,rfl,rfl⟩,trivial⟩ (fun j=>mN [_,_] [_,_,_,_] (by repeat(first|exact trivial|refine⟨rfl,?_⟩)) j)
 cases hc2
def kG (l:bT) (P:List ByteArray):bT:=P.foldl qL l
theorem AJ {l:bT} {P:List ByteArray} {k:Nat} {s:ByteArray} (h:P[k]?=some s):kG l (P.take (k+1))=qL (kG l (P.take k)) s:=by rw [kG,kG,dB h,List.foldl_append];rfl
theorem JJ:∀ (P:List ByteArray) (l:bT) (c:Nat),dQ l c→fD l→dQ (kG l P) c∧fD (kG l P)
 | [],l,c,h1,h2=>⟨h1,h2⟩
 | k::r,l,c,h1,h2=>JJ r _ c (SD h1 k) (IW h2 k)
theorem PH (k2:ByteArray):∀ (P:List ByteArray) (l:bT),fD l→cT (kG l P) k2=if SL P k2=true then none else cT l k2
 | [],l,_=>by rw [YF (fun h=>by have:=iK.1 h;cases this)];rfl
 | k::r,l,h=>by
  show cT (kG (qL l k) r) k2=_;rw [PH k2 r _ (IW h k),IS k k2 h];by_cases h1:SL r k2=true
  ·rw [YG h1,YG (iK.2 (YT.2 (.inr (iK.1 h1))))]
  rw [YF h1];by_cases h2:k=k2
  ·rw [YG h2,YG (iK.2 (YT.2 (.inl h2.symm)))]
  rw [YF h2,YF (fun hm=>by rcases YT.1 (iK.1 hm)with e|e;exact h2 e.symm;exact h1 (iK.2 e))]
theorem QF (l l2:bT) (c c2:Nat) (P:List ByteArray) (H:aA) (hl2:l2.length < 1099511627776) (hP:P.length < 1099511627776) (hst:dQ l2 c2) (h0:H.get 1101=some (bJ l c)) (h1:H.get 950=some (bJ l2 c2)) (h6:H.get 946=none) (hcl:bE H) :
  aJ Tryz.prog 53 [.mp 1101 0,.mp 950 0,.pv (aX P)] H (fun r H'=>r=.tup []∧∃ ps,ps.Perm l2∧H'=(1101,bJ (kG (fK l c ps).1 P) (fK l c ps).2)::H):=by
 have hml:(P.map encStr).length=P.length:=YH _;refine Bd func53 rfl ntmps53<|Sr<|Dd aF<|Dm ?_;refine iD rfl rfl (aB rfl rfl call104 rfl (WA l l2 c c2 H hl2 hst h0 h1 h6 hcl)) ?_;rintro r H' ⟨rfl,ps,hps,rfl⟩;refine Zz<|Sr<|Dd aF<|Dd (mB aP)<|Dd aF<|Zz<|aO ?_;refine bM (σ:=Nat) (fun k=>([(0,.mp 1101 0),(11,.pv (aX P)),(12,iv ((P.map encStr).length:Int)),(13,iv (k:Int))],(1101,bJ (kG (fK l c ps).1 (P.take k)) (fK l c ps).2)::H)) (fun k=>k≤P.length) (fun k=>P.length - k) 0 (YY _) ?_ ?_
 ·exact E0
 intro k hk;refine Sr<|Dd dO<|Zz<|Sq ?_;refine Cn ?_ ?_<;>intro hc1
 ·have hlt:k < P.length:=by have:=YD hc1;omega
  obtain ⟨s,hs⟩:=aZ hlt;have hi:=dM (f:=encStr) hs;refine aH<|Sq<|aO<|Sr<|Dd (CV b8)<|Dd (nL aV)<|Dd aR<|Zz<|Rg<|Dd aF<|Dd aF<|Uu (by exact EG (κ:=fF) (l:=bQ (kG (fK l c ps).1 (P.take k))) rfl aU aK rfl (get_cons_same _ _ _) rfl rfl rfl rfl (B3 s _))<|Zz<|Rg<|Dd mU<|Dd aF<|Zz ?_;refine⟨k+1,by omega,by omega,?_⟩;rw [AJ hs];exact bY.get' ⟨⟨_,rfl,rfl⟩,⟨_,rfl,rfl⟩,⟨_,rfl,rfl⟩,⟨_,rfl,by rfl⟩,trivial⟩ (fun j=>gR _ _ _ _ j)
 have hge:k=P.length:=by have:=YE hc1;omega
 subst hge;rw [List.take_length];refine bI ?_;exact gP (H':=(1101,bJ (kG (fK l c ps).1 P) (fK l c ps).2)::H) (.inl rfl) rfl Fin.refl ⟨rfl,ps,hps,rfl⟩
end Go.Proofs.YtmkgeogoojcciaaGreatDoor
